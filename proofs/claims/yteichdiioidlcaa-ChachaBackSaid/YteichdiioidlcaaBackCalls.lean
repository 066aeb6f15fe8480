/-
ChachaBack as a plain function, and that the call does so.
-/
import Derived.Test.YteichdiioidlcaaLawWalkBack
namespace Go.Proofs.Yteichdiioidlcaa
open Go.RowKit Go.Proofs.YteichdiioidlcaaW.PrintWords
set_option linter.unusedVariables false

def allU32 (z : List Int) : Bool := z.all fun x => decide (0 ≤ x) && decide (x ≤ 4294967295)
def law03_ChachaBack.f (k : Nat) (z : List Int) : Option Bool := if allU32 z = true then some true else none
theorem law03_ChachaBack.calls (k : Nat) (z : List Int) (r : Bool) (w : World) (hn : z.length = 4) (h : law03_ChachaBack.f k z = some r) :
    Calls Try.prog 4 #[.agg (numCells .u32 z)] w fun e w' => e = .returned (.bool r) ∧ Below w.heap.size w w' := by
  unfold law03_ChachaBack.f at h
  by_cases hz : allU32 z = true
  · rw [if_pos hz] at h
    injection h with h
    subst h
    match z, hn with
    | [a, b, c, d], _ =>
      simp only [allU32, List.all_cons, List.all_nil, Bool.and_true, Bool.and_eq_true, decide_eq_true_eq] at hz
      exact back_walk ⟨a, b, c, d⟩ w ⟨hz.1, hz.2.1, hz.2.2.1, hz.2.2.2⟩
  · rw [if_neg hz] at h; cases h
end Go.Proofs.Yteichdiioidlcaa
