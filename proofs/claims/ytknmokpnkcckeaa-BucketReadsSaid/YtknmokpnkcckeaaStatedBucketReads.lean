-- The pure statement of law BucketReads, written by a program of this session.
import Derived.Test.YtknmokpnkcckeaaRdCalls
namespace Go.Proofs.Ytknmokpnkcckeaa
open Go.RowKit Go.Proofs.Ytknmokpnkcckeaa Go.Proofs.YtknmokpnkcckeaaW.PrintWords
/-- The one pure statement of BucketReads. -/
def law10_BucketReads.Pure2 : Prop := ∀ (a0_0 : Int) (a0_1 : Int) (a0_2 : Int) (a0_3 : Int) (l1 : List Int), (Lit.int .i64 a0_0).wf = true → (Lit.int .i64 a0_1).wf = true → (Lit.int .i64 a0_2).wf = true → (Lit.int .i64 a0_3).wf = true → l1.length ≤ maxLen → (∀ x ∈ l1, (Lit.int .u8 x).wf = true) → ∃ k, law10_BucketReads.f k a0_0 a0_1 a0_2 a0_3 l1 = some true
end Go.Proofs.Ytknmokpnkcckeaa
