-- The pure statement of law ShaParts, written by a program of this session.
import Derived.Test.YtfijclinefmbfaaDoorShaParts
namespace Go.Proofs.YtfijclinefmbfaaDoor
open Go.RowKit Go.Proofs.YtfijclinefmbfaaDoor Go.Proofs.YtfijclinefmbfaaDoorW.PrintWords
/-- The one pure statement of ShaParts. -/
def law02_ShaParts.Pure2 : Prop := ∀ (z0 : List Int) (l0_1 : List Int) (a0_2 : Int) (l1 : List Int) (l2 : List Int), z0.length = 8 → l0_1.length ≤ maxLen → (∀ x ∈ l0_1, (Lit.int .u8 x).wf = true) → (Lit.int .u64 a0_2).wf = true → l1.length ≤ maxLen → (∀ x ∈ l1, (Lit.int .u8 x).wf = true) → l2.length ≤ maxLen → (∀ x ∈ l2, (Lit.int .u8 x).wf = true) → ∃ k, law02_ShaParts.f k z0 l0_1 a0_2 l1 l2 = some true
end Go.Proofs.YtfijclinefmbfaaDoor
