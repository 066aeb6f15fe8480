/-
More bytes of a stream begin with fewer (law StreamGoesOn answers true).
Conditions: none beside the law's own.
-/
import Derived.Test.YteichdiioidlcaaStatedStreamGoesOn
namespace Go.Proofs.Yteichdiioidlcaa.Pure
open Go.RowKit Go.Proofs.Yteichdiioidlcaa
theorem StreamGoesOn : law04_StreamGoesOn.Pure2 := by
  intro z0 a1 a2 a3 hn0 hw0 hw1 hw2 hw3
  refine ⟨0, ?_⟩
  unfold law04_StreamGoesOn.f
  rw [if_pos]
  rw [allIn_wf hw0, allIn_wf (k := .u64) (z := [a1]) (fun x hx => by rw [List.mem_singleton] at hx; subst hx; exact hw1)]
  rfl
end Go.Proofs.Yteichdiioidlcaa.Pure
