-- Printed for this claim by a program of this session, over the kit's print.
import Derived.Test.YtnnknbbgkjgbcaaPAll0
import Derived.Test.YtnnknbbgkjgbcaaPAll6
namespace Go.Proofs.Ytnnknbbgkjgbcaa.PAll
open Go.RowKit Go.Proofs.YtnnknbbgkjgbcaaW.PrintWords Go.Proofs.YtnnknbbgkjgbcaaW.PrintLast Go.Proofs.YtnnknbbgkjgbcaaW.PrintMore
attribute [local go_sem] max2_int min2_int max_two min_two max_three min_three max_four min_four   -- for this text's walks alone
set_option linter.unusedVariables false
set_option linter.unusedSimpArgs false

/-! ### ref19_May: function 46 -/
def ref19_May.f (k : Nat) (a0 : Int) (a1 : Int) : Option (Bool) := if a1 ≥ 0 then ((ref07_Many.f k a0).bind fun t132 => (some (decide (a1 ≤ t132)))) else (some false)
theorem ref19_May.mono : ∀ a0 a1 k, LeO (ref19_May.f k a0 a1) (ref19_May.f (k + 1) a0 a1) := by
  intro a0 a1 k
  unfold ref19_May.f
  repeat' first
      | (with_reducible exact ref07_Many.mono _ _)
      | (with_reducible exact LeO.refl _)
      | (with_reducible exact LeO.none _)
      | (with_reducible refine LeO.ite ?_ ?_)
      | (with_reducible refine LeO.bind ?_ (fun _ => ?_))
      | exact ref07_Many.mono _ _
      | exact LeO.none _
      | refine LeO.ite ?_ ?_
      | refine LeO.bind ?_ (fun _ => ?_)
set_option maxHeartbeats 8000000 in
set_option maxRecDepth 100000 in
theorem ref19_May.calls (k : Nat) (a0 : Int) (a1 : Int) (r : Bool) (w : World) (h : ref19_May.f k a0 a1 = some r) :
    Calls Try.prog 46 #[.int .i64 a0, .int .i64 a1] w fun e w' => e = .returned (.bool r) ∧ Drawn0 w w' := by
  have H : (if a1 ≥ 0 then ((ref07_Many.f k a0).bind fun t132 => (some (decide (a1 ≤ t132)))) else (some false)) = some r := h
  clear h
  by_cases c3 : a1 ≥ 0
  · rw [if_pos c3] at H
    have c3b0 : decide (0 ≤ a1) = true := decide_eq_true c3
    clear c3
    replace H := Option.bind_eq_some_iff.mp H
    obtain ⟨t132, A40, H⟩ := H
    replace H : (some (decide (a1 ≤ t132))) = some r := H
    have A4 := Aside0.mk A40
    clear A40
    obtain rfl := Option.some.inj H
    go_enter Try.func46, Try.ntmps46
    go_wp2_with (first | (go_at_call 58; (with_reducible refine (ref07_Many.calls k a0 t132 _ A4.out).mono ?_); rintro e w' ⟨rfl, ⟨nd, rfl⟩⟩))
    go_ret
    exact ⟨by first | rfl | (simp; done) | (simp [*]; done), by repeat (first | exact Drawn0.refl _ | apply Drawn0.step)⟩
  · rw [if_neg c3] at H
    have c3b0 : decide (0 ≤ a1) = false := decide_eq_false c3
    clear c3
    obtain rfl := Option.some.inj H
    go_enter Try.func46, Try.ntmps46
    go_wp2
    go_ret
    exact ⟨by first | rfl | (simp; done) | (simp [*]; done), by repeat (first | exact Drawn0.refl _ | apply Drawn0.step)⟩

end Go.Proofs.Ytnnknbbgkjgbcaa.PAll
