-- The pure statement of law ShaTells, written by a program of this session.
import Derived.Test.YtfijclinefmbfaaDoorShaTells
namespace Go.Proofs.YtfijclinefmbfaaDoor
open Go.RowKit Go.Proofs.YtfijclinefmbfaaDoor Go.Proofs.YtfijclinefmbfaaDoorW.PrintWords
/-- The one pure statement of ShaTells. -/
def law02_ShaTells.Pure2 : Prop := ∀ (l0 : List Int) (l1 : List Int) (l2 : List Int), l0.length ≤ maxLen → (∀ x ∈ l0, (Lit.int .u8 x).wf = true) → l1.length ≤ maxLen → (∀ x ∈ l1, (Lit.int .u8 x).wf = true) → l2.length ≤ maxLen → (∀ x ∈ l2, (Lit.int .u8 x).wf = true) → ∃ k, law02_ShaTells.f k l0 l1 l2 = some true
end Go.Proofs.YtfijclinefmbfaaDoor
