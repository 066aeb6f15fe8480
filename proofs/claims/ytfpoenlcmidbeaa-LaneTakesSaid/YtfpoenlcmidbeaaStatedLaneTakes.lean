-- The pure statement of law LaneTakes, written by a program of this session.
import Derived.Test.YtfpoenlcmidbeaaPAll9
namespace Go.Proofs.Ytfpoenlcmidbeaa
open Go.RowKit Go.Proofs.Ytfpoenlcmidbeaa.PAll Go.Proofs.YtfpoenlcmidbeaaW.PrintWords
/-- The one pure statement of LaneTakes. -/
def law05_LaneTakes.Pure2 : Prop := ∀ (l0_0 : List Int) (a0_1 : Int), l0_0.length ≤ maxLen → (∀ x ∈ l0_0, (Lit.int .u32 x).wf = true) → (Lit.int .i64 a0_1).wf = true → ∃ k, law05_LaneTakes.f k l0_0 a0_1 = some true
end Go.Proofs.Ytfpoenlcmidbeaa
