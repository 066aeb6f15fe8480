/-
The bucket of a text, or the error, is as the document has it, and what was handed in stays, also where the bucket that is read is written over (law BucketReads answers true).
Conditions: none beside the law's own.
-/
import Derived.Test.YtknmokpnkcckeaaStatedBucketReads
namespace Go.Proofs.Ytknmokpnkcckeaa.Pure
open Go.RowKit Go.Proofs.Ytknmokpnkcckeaa
set_option linter.unusedVariables false

theorem BucketReads : law10_BucketReads.Pure2 := by
  intro a0 a1 a2 a3 s w0 w1 w2 w3 hs bs
  refine ⟨0, ?_⟩
  unfold law10_BucketReads.f
  rw [if_pos]
  rw [Bool.and_eq_true, Bool.and_eq_true]
  exact ⟨⟨w3, w1⟩, List.all_eq_true.2 bs⟩
end Go.Proofs.Ytknmokpnkcckeaa.Pure
