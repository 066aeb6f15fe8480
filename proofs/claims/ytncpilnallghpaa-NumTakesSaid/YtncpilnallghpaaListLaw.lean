/-
Plain facts on lists that are held against each other.
-/
import Derived.Test.YtncpilnallghpaaPAll12
import Derived.Test.YtncpilnallghpaaPAll3
import Derived.Test.YtncpilnallghpaaPAll1
namespace Go.Proofs.Ytncpilnallghpaa
open Go.RowKit Go.Proofs.YtncpilnallghpaaW.PrintWords Go.Proofs.YtncpilnallghpaaW.PrintLast Go.Proofs.YtncpilnallghpaaW.PrintMore Go.Proofs.Ytncpilnallghpaa.PAll
set_option linter.unusedVariables false
set_option linter.unusedSimpArgs false

theorem sameInts_l0 (l : List Int) (hl : l.length ≤ 140737488355328) : ∀ (d k i : Nat), l.length - i = d → d < k → ref01_SameInts.l0 k l l i = some true := by
  intro d
  induction d with
  | zero =>
    intro k i hd hk
    obtain ⟨k, rfl⟩ : ∃ m, k = m + 1 := ⟨k - 1, by omega⟩
    simp only [ref01_SameInts.l0]
    rw [if_neg (by omega)]
  | succ d ih =>
    intro k i hd hk
    obtain ⟨k, rfl⟩ : ∃ m, k = m + 1 := ⟨k - 1, by omega⟩
    have hw : wrap64 ((i : Int) + 1) = ((i + 1 : Nat) : Int) := by unfold wrap64; omega
    simp only [ref01_SameInts.l0]
    rw [if_pos (by omega), if_pos (by omega), if_pos (by omega), if_pos trivial, hw]
    exact ih k (i + 1) (by omega) (by omega)
theorem sameInts_self (l : List Int) (hl : l.length ≤ 140737488355328) (k : Nat) (hk : l.length < k) : ref01_SameInts.f k l l = some true := by
  unfold ref01_SameInts.f
  rw [if_pos rfl]
  exact sameInts_l0 l hl _ k 0 rfl (by omega)
end Go.Proofs.Ytncpilnallghpaa
