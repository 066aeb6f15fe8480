/-
Quarter and double rounds, forth and back, are the document's (law ChachaTurns answers true).
Conditions: none beside the law's own.
-/
import Derived.Test.YteichdiioidlcaaStatedChachaTurns
namespace Go.Proofs.Yteichdiioidlcaa.Pure
open Go.RowKit Go.Proofs.Yteichdiioidlcaa
theorem ChachaTurns : law03_ChachaTurns.Pure2 := by
  intro z x hn hw hm hx
  refine ⟨0, ?_⟩
  unfold law03_ChachaTurns.f
  rw [if_pos]
  rw [allU32t, List.all_eq_true]
  intro y hy
  have : (Lit.int .u32 y).wf = true := by
    rcases List.mem_append.1 hy with hy | hy
    · exact hw y hy
    · exact hx y hy
  rw [Lit.wf, Bool.and_eq_true, decide_eq_true_eq, decide_eq_true_eq] at this
  simp only [Bool.and_eq_true, decide_eq_true_eq]
  exact ⟨this.1, this.2⟩
end Go.Proofs.Yteichdiioidlcaa.Pure
