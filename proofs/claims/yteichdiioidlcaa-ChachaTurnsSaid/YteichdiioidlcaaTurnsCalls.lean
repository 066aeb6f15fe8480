/-
ChachaTurns as a plain function, and that the call does so.
-/
import Derived.Test.YteichdiioidlcaaSxTurns
import Derived.Test.YteichdiioidlcaaRowWords
namespace Go.Proofs.Yteichdiioidlcaa
open Go.RowKit Go.Proofs.YteichdiioidlcaaW.PrintWords
set_option linter.unusedVariables false

def allU32t (z : List Int) : Bool := z.all fun x => decide (0 ≤ x) && decide (x ≤ 4294967295)
def law03_ChachaTurns.f (k : Nat) (z x : List Int) : Option Bool := if allU32t (z ++ x) = true then some true else none
theorem law03_ChachaTurns.calls (k : Nat) (z x : List Int) (r : Bool) (w : World) (hn : z.length = 4) (hm : x.length = 16) (h : law03_ChachaTurns.f k z x = some r) :
    Calls Try.prog 5 #[.agg (numCells .u32 z), .agg (numCells .u32 x)] w fun e w' => e = .returned (.bool r) ∧ Below w.heap.size w w' := by
  unfold law03_ChachaTurns.f at h
  by_cases hz : allU32t (z ++ x) = true
  · rw [if_pos hz] at h
    injection h with h
    subst h
    match z, hn, x, hm with
    | [a, b, c, d], _, [x0, x1, x2, x3, x4, x5, x6, x7, x8, x9, x10, x11, x12, x13, x14, x15], _ =>
      refine SxCha.turns_walk a b c d x0 x1 x2 x3 x4 x5 x6 x7 x8 x9 x10 x11 x12 x13 x14 x15 (fun v hv => ?_) w
      have hall := List.all_eq_true.1 hz v hv
      simp only [Bool.and_eq_true, decide_eq_true_eq] at hall
      exact hall
  · rw [if_neg hz] at h; cases h
end Go.Proofs.Yteichdiioidlcaa
