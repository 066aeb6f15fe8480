/-
Short words for a long printed walk.
-/
import Derived.Test.YtnnknbbgkjgbcaaWWords
import Derived.Test.YtnnknbbgkjgbcaaWLast
import Derived.Test.YtnnknbbgkjgbcaaWMore
namespace Go.Proofs.Ytnnknbbgkjgbcaa.PAll
open Go.RowKit Go.Proofs.YtnnknbbgkjgbcaaW.PrintWords Go.Proofs.YtnnknbbgkjgbcaaW.PrintLast Go.Proofs.YtnnknbbgkjgbcaaW.PrintMore
abbrev T : Bool := true
abbrev F : Bool := false
theorem p1 {α : Type _} (a : List α) (i : Nat) (x : α) : a.toArray.setIfInBounds i x = (a.set i x).toArray := List.setIfInBounds_toArray ..
theorem p2 {α : Type _} (a : α) (l : List α) (b : α) : (a :: l).set 0 b = b :: l := List.set_cons_zero ..
theorem p3 {α : Type _} (a : α) (l : List α) (n : Nat) (b : α) : (a :: l).set (n + 1) b = a :: l.set n b := List.set_cons_succ ..
theorem bkE {W0 W : World} {g : Nat} {o : Obj} (h : W0.heap[g]? = some o) (up : W0.heap[g]? = some o → W.heap[g]? = some o := by intro h; (with_reducible repeat (first | refine blk_drewN ?_ _ | refine blk_drew ?_ | refine blk_alloc ?_ _)); exact h) : W.heap[g]? = some o := up h
end Go.Proofs.Ytnnknbbgkjgbcaa.PAll
