/-
For any numbers and sizes: what num.Put and num.Size answer is the document's answer (law NumPuts answers true).
Conditions: none beside the law's own.
-/
import Derived.Test.YtncpilnallghpaaPAll22
import Derived.Test.YtncpilnallghpaaNumLaw
namespace Go.Proofs.Ytncpilnallghpaa.Pure
open Go.RowKit Go.Proofs.Ytncpilnallghpaa Go.Proofs.Ytncpilnallghpaa.PAll Go.Proofs.YtncpilnallghpaaW.PrintWords Go.Proofs.YtncpilnallghpaaW.PrintLast

theorem NumPuts : law01_NumPuts.Pure := by
  intro l sizes _ _ hv _ _ hi
  refine ⟨2401, ?_⟩
  unfold law01_NumPuts.f
  by_cases hl : (l.length : Int) > 100
  · rw [if_pos hl]; rfl
  · rw [if_neg hl]
    by_cases hs : (sizes.length : Int) > 100
    · rw [decide_eq_true hs]; rfl
    · rw [decide_eq_false hs]
      have e1 := put_eq l sizes (by omega) (by omega) hv hi (k := 2400) (by omega)
      have e2 := put_ref_eq l sizes (by omega) (by omega) hv hi (k := 2400) (by omega)
      have e3 := size_ref_eq sizes hi (k := 2400) (by omega)
      have e4 := sameNumbers_self l (by omega) (k := 2400) (by omega)
      have e5 := sameInts_self sizes (by omega) 2400 (by omega)
      simp only [law01_NumPuts.j0, Option.bind_some, List.nil_append, List.length_nil, Nat.zero_add, Bool.false_eq_true, if_false, e1, e2, e3, e4, e5, same_self, if_true, num_Size.f]
      rw [if_pos (by omega), if_pos (by omega)]

end Go.Proofs.Ytncpilnallghpaa.Pure
