/-
A cell's leaf, whether a position may be, and its bytes are the document's (law EntryTells answers true).
Conditions: none beside the law's own.
-/
import Derived.Test.YtnnknbbgkjgbcaaPAll18
import Derived.Test.YtnnknbbgkjgbcaaEntryLaw
namespace Go.Proofs.Ytnnknbbgkjgbcaa.Pure
open Go.RowKit Go.Proofs.Ytnnknbbgkjgbcaa Go.Proofs.Ytnnknbbgkjgbcaa.PAll Go.Proofs.YtnnknbbgkjgbcaaW.PrintWords Go.Proofs.YtnnknbbgkjgbcaaW.PrintLast

theorem EntryTells : law19_EntryTells.Pure := by
  intro high cell pos _ hc _
  rw [Lit.wf, Bool.and_eq_true, decide_eq_true_eq, decide_eq_true_eq] at hc
  have c0 : 0 ≤ cell := hc.1
  have c1 : cell ≤ 4294967295 := hc.2
  refine ⟨60, ?_⟩
  unfold law19_EntryTells.f
  rw [leaf_eq c0 c1 (by omega), ref_leaf_eq c0 c1 (by omega), write_eq _ _ (by omega), ref_write_eq _ _ (by omega), check_eq _ _ (by omega), ref_check_eq _ _ (by omega)]
  simp only [Option.bind_some, if_true, same_self, beq_self_eq_true]

end Go.Proofs.Ytnnknbbgkjgbcaa.Pure
