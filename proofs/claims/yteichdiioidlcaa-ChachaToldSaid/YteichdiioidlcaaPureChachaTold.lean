/-
A block tells the words from which it began, where its rounds are told (law ChachaTold answers true).
Conditions: none beside the law's own.
-/
import Derived.Test.YteichdiioidlcaaStatedChachaTold
namespace Go.Proofs.Yteichdiioidlcaa.Pure
open Go.RowKit Go.Proofs.Yteichdiioidlcaa
theorem ChachaTold : law03_ChachaTold.Pure2 := by
  intro z0 a1 z2 hn0 hw0 hw1 hn2 hw2
  refine ⟨0, ?_⟩
  unfold law03_ChachaTold.f
  rw [if_pos]
  rw [allIn_wf hw0, allIn_wf hw2, allIn_wf (k := .u32) (z := [a1]) (fun x hx => by rw [List.mem_singleton] at hx; subst hx; exact hw1)]
  rfl
end Go.Proofs.Yteichdiioidlcaa.Pure
