/-
What is put together with a stream twice is what it was, and two texts are put together either way round (law StreamTwice answers true).
Conditions: none beside the law's own.
-/
import Derived.Test.YteichdiioidlcaaStatedStreamTwice
namespace Go.Proofs.Yteichdiioidlcaa.Pure
open Go.RowKit Go.Proofs.Yteichdiioidlcaa
theorem StreamTwice : law04_StreamTwice.Pure2 := by
  intro z0 z1 a2 hl0 hw0 hn1 hw1 hw2
  refine ⟨0, ?_⟩
  unfold law04_StreamTwice.f
  rw [if_pos]
  rw [allIn_wf hw0, allIn_wf hw1, allIn_wf (k := .u64) (z := [a2]) (fun x hx => by rw [List.mem_singleton] at hx; subst hx; exact hw2)]
  rfl
end Go.Proofs.Yteichdiioidlcaa.Pure
