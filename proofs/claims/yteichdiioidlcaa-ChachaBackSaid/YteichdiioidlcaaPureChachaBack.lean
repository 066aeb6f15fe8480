/-
What a quarter round does is undone, either way round (law ChachaBack answers true).
Conditions: none beside the law's own.
-/
import Derived.Test.YteichdiioidlcaaStatedChachaBack
namespace Go.Proofs.Yteichdiioidlcaa.Pure
open Go.RowKit Go.Proofs.Yteichdiioidlcaa
theorem ChachaBack : law03_ChachaBack.Pure2 := by
  intro z hn hw
  refine ⟨0, ?_⟩
  unfold law03_ChachaBack.f
  rw [if_pos]
  rw [allU32, List.all_eq_true]
  intro x hx
  have := hw x hx
  rw [Lit.wf, Bool.and_eq_true, decide_eq_true_eq, decide_eq_true_eq] at this
  simp only [Bool.and_eq_true, decide_eq_true_eq]
  exact ⟨this.1, this.2⟩
end Go.Proofs.Yteichdiioidlcaa.Pure
