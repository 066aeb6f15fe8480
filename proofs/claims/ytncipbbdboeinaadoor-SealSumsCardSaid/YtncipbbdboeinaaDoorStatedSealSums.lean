-- The pure statement of law SealSums, written by a program of this session.
import Derived.Test.YtncipbbdboeinaaDoorSealSums
namespace Go.Proofs.YtncipbbdboeinaaDoor
open Go.RowKit Go.Proofs.YtncipbbdboeinaaDoor Go.Proofs.YtncipbbdboeinaaDoorW.PrintWords
/-- The one pure statement of SealSums. -/
def law11_SealSums.Pure2 : Prop := ∀ (a0 : Int) (a1 : Int) (l2 : List Int), (Lit.int .i64 a0).wf = true → (Lit.int .i64 a1).wf = true → l2.length ≤ maxLen → (∀ x ∈ l2, (Lit.int .u8 x).wf = true) → ∃ k, law11_SealSums.f k a0 a1 l2 = some true
end Go.Proofs.YtncipbbdboeinaaDoor
