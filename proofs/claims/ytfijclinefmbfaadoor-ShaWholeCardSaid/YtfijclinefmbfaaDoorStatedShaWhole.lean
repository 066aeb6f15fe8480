-- The pure statement of law ShaWhole, written by a program of this session.
import Derived.Test.YtfijclinefmbfaaDoorShaWhole
namespace Go.Proofs.YtfijclinefmbfaaDoor
open Go.RowKit Go.Proofs.YtfijclinefmbfaaDoor Go.Proofs.YtfijclinefmbfaaDoorW.PrintWords
/-- The one pure statement of ShaWhole. -/
def law02_ShaWhole.Pure2 : Prop := ∀ (l0 : List Int) (l1 : List Int), l0.length ≤ maxLen → (∀ x ∈ l0, (Lit.int .u8 x).wf = true) → l1.length ≤ maxLen → (∀ x ∈ l1, (Lit.int .u8 x).wf = true) → ∃ k, law02_ShaWhole.f k l0 l1 = some true
end Go.Proofs.YtfijclinefmbfaaDoor
