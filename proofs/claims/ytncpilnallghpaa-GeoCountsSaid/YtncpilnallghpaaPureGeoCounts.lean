/-
For every height and number: the program's counts of leaves and buckets, its leaf of a number and its check of a height, or its errors, are the reference's (law GeoCounts answers true).
Conditions: none beside the law's own.
-/
import Derived.Test.YtncpilnallghpaaPAll12
import Derived.Test.YtncpilnallghpaaGeoLaw
namespace Go.Proofs.Ytncpilnallghpaa.Pure
open Go.RowKit Go.Proofs.Ytncpilnallghpaa.PAll Go.Proofs.YtncpilnallghpaaW.PrintWords Go.Proofs.YtncpilnallghpaaW.PrintLast

theorem GeoCounts : law07_GeoCounts.Pure := by
  intro a0 a1 _ h1
  obtain ⟨n0, n1⟩ := u64_bounds h1
  refine ⟨20, ?_⟩
  unfold law07_GeoCounts.f
  rw [leaves_eq, ref_leaves_eq, buckets_eq, ref_buckets_eq, reverse_eq n0 n1, ref_reverse_eq n0 n1, check_eq, ref_check_eq]
  simp

end Go.Proofs.Ytncpilnallghpaa.Pure
