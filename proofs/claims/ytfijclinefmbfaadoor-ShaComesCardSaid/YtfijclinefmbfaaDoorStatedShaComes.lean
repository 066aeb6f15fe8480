-- The pure statement of law ShaComes, written by a program of this session.
import Derived.Test.YtfijclinefmbfaaDoorShaComes
namespace Go.Proofs.YtfijclinefmbfaaDoor
open Go.RowKit Go.Proofs.YtfijclinefmbfaaDoor Go.Proofs.YtfijclinefmbfaaDoorW.PrintWords
/-- The one pure statement of ShaComes. -/
def law02_ShaComes.Pure2 : Prop := ∀ (z0 : List Int) (l0_1 : List Int) (a0_2 : Int) (l1 : List Int), z0.length = 8 → l0_1.length ≤ maxLen → (∀ x ∈ l0_1, (Lit.int .u8 x).wf = true) → (Lit.int .u64 a0_2).wf = true → l1.length ≤ maxLen → (∀ x ∈ l1, (Lit.int .u8 x).wf = true) → ∃ k, law02_ShaComes.f k z0 l0_1 a0_2 l1 = some true
end Go.Proofs.YtfijclinefmbfaaDoor
