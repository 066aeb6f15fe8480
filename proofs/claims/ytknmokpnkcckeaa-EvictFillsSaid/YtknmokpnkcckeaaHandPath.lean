import Derived.Test.YtknmokpnkcckeaaPAll0
import Derived.RangeFuncNested
import Derived.RangeFuncBound
import Derived.RangeFuncCalls
import Derived.RangeFuncLeaves
import Derived.RangeFuncBox
import Derived.Shelf.Abstract
import Derived.Shelf.RegionOpen
import Derived.WalkKit
import Derived.OwnWalkIn
import Derived.TacticsInMore
import Derived.LoopNIn
import Derived.LoopIn
import Derived.Deep.QuietTactic
import Derived.BigQuiet
import Derived.Maps.AppendAt
-- Printed for this claim by a program of this session, over the kit's print.
namespace Go.Proofs.Ytknmokpnkcckeaa.PAll
open Go.RowKit Go.Proofs.YtknmokpnkcckeaaW.PrintWords Go.Proofs.YtknmokpnkcckeaaW.PrintLast Go.Proofs.YtknmokpnkcckeaaW.PrintMore
attribute [local go_sem] max2_int min2_int max_two min_two max_three min_three max_four min_four   -- for this text's walks alone
set_option linter.unusedVariables false
set_option linter.unusedSimpArgs false

/-! ### geo_Check: function 81 -/
def geo_Check.j0 : Nat → Bool → Option (Int)
  | 0, _ => none
  | k + 1, x8 => if x8 = true then (some 2) else (some 0)
def geo_Check.f (k : Nat) (a0 : Int) : Option (Int) := if a0 < 1 then (geo_Check.j0 k true) else (geo_Check.j0 k (decide (a0 > 6)))
theorem geo_Check.mono_l : ∀ k, (∀ y0, LeO (geo_Check.j0 k y0) (geo_Check.j0 (k + 1) y0))
  | 0 => fun _ r h => by simp [geo_Check.j0] at h
  | k + 1 => by
    have ih0 := geo_Check.mono_l k
    · intro y0
      unfold geo_Check.j0
      repeat' first
      | (with_reducible exact ih0 _)
      | (with_reducible exact LeO.refl _)
      | (with_reducible exact LeO.none _)
      | (with_reducible refine LeO.ite ?_ ?_)
      | (with_reducible refine LeO.bind ?_ (fun _ => ?_))
      | exact ih0 _
      | exact LeO.none _
      | refine LeO.ite ?_ ?_
      | refine LeO.bind ?_ (fun _ => ?_)
theorem geo_Check.mono : ∀ a0 k, LeO (geo_Check.f k a0) (geo_Check.f (k + 1) a0) := by
  intro a0 k
  have ih0 := geo_Check.mono_l k
  unfold geo_Check.f
  repeat' first
      | (with_reducible exact ih0 _)
      | (with_reducible exact LeO.refl _)
      | (with_reducible exact LeO.none _)
      | (with_reducible refine LeO.ite ?_ ?_)
      | (with_reducible refine LeO.bind ?_ (fun _ => ?_))
      | exact ih0 _
      | exact LeO.none _
      | refine LeO.ite ?_ ?_
      | refine LeO.bind ?_ (fun _ => ?_)
set_option maxHeartbeats 8000000 in
set_option maxRecDepth 100000 in
theorem geo_Check.calls (k : Nat) (a0 : Int) (r : Int) (w : World) (h : geo_Check.f k a0 = some r) :
    Calls Try.prog 81 #[.int .i64 a0] w fun e w' => e = .returned (.int .i64 r) ∧ Drawn0 w w' := by
  have H : (if a0 < 1 then (geo_Check.j0 k true) else (geo_Check.j0 k (decide (a0 > 6)))) = some r := h
  clear h
  have HC2 := Aside0.mk H
  clear H
  go_enter Try.func81, Try.ntmps81
  go_upto_region 1 with (fail)
  go_cut [8] (fun v8 wc => ∃ (kq : Nat) (x8_1 : Bool), v8 = .bool x8_1 ∧ Aside0 (geo_Check.j0 kq x8_1 = some r) ∧ Aside0 (kq ≤ k) ∧ Drawn0 w wc)
  case first =>
    have H := HC2.out
    clear HC2
    by_cases c3 : a0 < 1
    · rw [if_pos c3] at H
      have c3b0 : decide (a0 < 1) = true := decide_eq_true c3
      clear c3
      (first | rw [c3b0] | (simp only [i64_w, i32_w]; rw [c3b0]) | skip)
      have H' := Aside0.mk H
      clear H
      go_wp2
      go_meet
      case rel => exact ⟨_, (true), (by first | rfl | (simp; done) | (simp [*]; done)), H', ⟨by first | omega | exact Nat.le_refl _⟩, by repeat (first | exact Drawn0.refl _ | apply Drawn0.step)⟩
    · rw [if_neg c3] at H
      have c3b0 : decide (a0 < 1) = false := decide_eq_false c3
      clear c3
      (first | rw [c3b0] | (simp only [i64_w, i32_w]; rw [c3b0]) | skip)
      have H' := Aside0.mk H
      clear H
      go_wp2
      go_meet
      case rel => exact ⟨_, (decide (a0 > 6)), (by first | rfl | (simp; done) | (simp [*]; done)), H', ⟨by first | omega | exact Nat.le_refl _⟩, by repeat (first | exact Drawn0.refl _ | apply Drawn0.step)⟩
  case rest =>
    clear HC2
    try clear p2
    try clear c3
    try clear c3b0
    obtain ⟨kq, x8_1, rfl, HA, HJ1, ⟨mc1, rfl⟩⟩ := hcut
    cases kq with
    | zero => exact absurd HA.out (by simp [geo_Check.j0])
    | succ kj1 =>
      have H := HA.out
      clear HA
      simp only [geo_Check.j0] at H
      by_cases c4 : x8_1 = true
      · subst c4
        have H1 : (some 2) = some r := by rw [if_pos rfl] at H; exact H
        clear H
        have H := H1
        clear H1
        obtain rfl := Option.some.inj H
        go_wp2
        go_ret
        exact ⟨by first | rfl | (simp; done) | (simp [*]; done), by repeat (first | exact Drawn0.refl _ | apply Drawn0.step)⟩
      · replace c4 := Bool.eq_false_iff.mpr c4
        subst c4
        have H1 : (some 0) = some r := by rw [if_neg (show ¬ (false = true) by decide)] at H; exact H
        clear H
        have H := H1
        clear H1
        obtain rfl := Option.some.inj H
        go_wp2
        go_ret
        exact ⟨by first | rfl | (simp; done) | (simp [*]; done), by repeat (first | exact Drawn0.refl _ | apply Drawn0.step)⟩

end Go.Proofs.Ytknmokpnkcckeaa.PAll

-- Printed for this claim by a program of this session, over the kit's print.
namespace Go.Proofs.Ytknmokpnkcckeaa.PAll
open Go.RowKit Go.Proofs.YtknmokpnkcckeaaW.PrintWords Go.Proofs.YtknmokpnkcckeaaW.PrintLast Go.Proofs.YtknmokpnkcckeaaW.PrintMore
attribute [local go_sem] max2_int min2_int max_two min_two max_three min_three max_four min_four   -- for this text's walks alone
set_option linter.unusedVariables false
set_option linter.unusedSimpArgs false

/-! ### geo_asked: function 63 -/
mutual
def geo_asked.l0 : Nat → Int → List Int → Int → Int → Option (Int)
  | 0, _, _, _, _ => none
  | k + 1, x0, x13, x14, x15 => if x15 < x14 then (if 0 ≤ x15 then (if x15 < (x13.length : Int) then (if (rd x13 x15) < 0 then (geo_asked.j1 k x0 x13 x14 x15 true) else (if 0 ≤ x0 then (geo_asked.j1 k x0 x13 x14 x15 (decide ((rd x13 x15) ≥ (shl .i64 1 x0)))) else (none))) else (none)) else (none)) else (some 0)
def geo_asked.j1 : Nat → Int → List Int → Int → Int → Bool → Option (Int)
  | 0, _, _, _, _, _ => none
  | k + 1, x0, x13, x14, x15, x26 => if x26 = true then (some 2) else (geo_asked.l0 k x0 x13 x14 (wrap64 (x15 + 1)))
end
def geo_asked.f (k : Nat) (a0 : Int) (l1 : List Int) : Option (Int) := (geo_Check.f k a0).bind fun t106 => (if t106 = 0 then (geo_asked.l0 k a0 l1 (l1.length : Int) 0) else (some t106))
theorem geo_asked.mono_l : ∀ k, (∀ y0 y1 y2 y3, LeO (geo_asked.l0 k y0 y1 y2 y3) (geo_asked.l0 (k + 1) y0 y1 y2 y3)) ∧ (∀ y0 y1 y2 y3 y4, LeO (geo_asked.j1 k y0 y1 y2 y3 y4) (geo_asked.j1 (k + 1) y0 y1 y2 y3 y4))
  | 0 => ⟨fun _ _ _ _ r h => by simp [geo_asked.l0] at h, fun _ _ _ _ _ r h => by simp [geo_asked.j1] at h⟩
  | k + 1 => by
    obtain ⟨ih0, ih1⟩ := geo_asked.mono_l k
    refine ⟨?_, ?_⟩
    · intro y0 y1 y2 y3
      unfold geo_asked.l0
      repeat' first
      | (with_reducible exact ih0 _ _ _ _)
      | (with_reducible exact ih1 _ _ _ _ _)
      | (with_reducible exact geo_Check.mono _ _)
      | (with_reducible exact LeO.refl _)
      | (with_reducible exact LeO.none _)
      | (with_reducible refine LeO.ite ?_ ?_)
      | (with_reducible refine LeO.bind ?_ (fun _ => ?_))
      | exact ih0 _ _ _ _
      | exact ih1 _ _ _ _ _
      | exact geo_Check.mono _ _
      | exact LeO.none _
      | refine LeO.ite ?_ ?_
      | refine LeO.bind ?_ (fun _ => ?_)
    · intro y0 y1 y2 y3 y4
      unfold geo_asked.j1
      repeat' first
      | (with_reducible exact ih0 _ _ _ _)
      | (with_reducible exact ih1 _ _ _ _ _)
      | (with_reducible exact geo_Check.mono _ _)
      | (with_reducible exact LeO.refl _)
      | (with_reducible exact LeO.none _)
      | (with_reducible refine LeO.ite ?_ ?_)
      | (with_reducible refine LeO.bind ?_ (fun _ => ?_))
      | exact ih0 _ _ _ _
      | exact ih1 _ _ _ _ _
      | exact geo_Check.mono _ _
      | exact LeO.none _
      | refine LeO.ite ?_ ?_
      | refine LeO.bind ?_ (fun _ => ?_)
theorem geo_asked.mono : ∀ a0 a1 k, LeO (geo_asked.f k a0 a1) (geo_asked.f (k + 1) a0 a1) := by
  intro a0 a1 k
  obtain ⟨ih0, ih1⟩ := geo_asked.mono_l k
  unfold geo_asked.f
  repeat' first
      | (with_reducible exact ih0 _ _ _ _)
      | (with_reducible exact ih1 _ _ _ _ _)
      | (with_reducible exact geo_Check.mono _ _)
      | (with_reducible exact LeO.refl _)
      | (with_reducible exact LeO.none _)
      | (with_reducible refine LeO.ite ?_ ?_)
      | (with_reducible refine LeO.bind ?_ (fun _ => ?_))
      | exact ih0 _ _ _ _
      | exact ih1 _ _ _ _ _
      | exact geo_Check.mono _ _
      | exact LeO.none _
      | refine LeO.ite ?_ ?_
      | refine LeO.bind ?_ (fun _ => ?_)
set_option maxHeartbeats 8000000 in
set_option maxRecDepth 100000 in
theorem geo_asked.calls (k : Nat) (a0 : Int) (A1 : Option Addr) (c1 : Nat) (l1 : List Int) (r : Int) (w : World) (hr1 : Kd.C (Kd.int .i64) w A1 l1.length l1) (hc1 : l1.length ≤ c1) (h : geo_asked.f k a0 l1 = some r) :
    Calls Try.prog 63 #[.int .i64 a0, .slice A1 l1.length c1] w fun e w' => e = .returned (.int .i64 r) ∧ Drawn0 w w' := by
  have HR1 := Aside0.mk hr1
  have HC1 := Aside0.mk hc1
  clear hr1 hc1
  have H : ((geo_Check.f k a0).bind fun t106 => (if t106 = 0 then (geo_asked.l0 k a0 l1 (l1.length : Int) 0) else (some t106))) = some r := h
  clear h
  replace H := Option.bind_eq_some_iff.mp H
  obtain ⟨t106, A30, H⟩ := H
  replace H : (if t106 = 0 then (geo_asked.l0 k a0 l1 (l1.length : Int) 0) else (some t106)) = some r := H
  have A3 := Aside0.mk A30
  clear A30
  by_cases c4 : t106 = 0
  · rw [if_pos c4] at H
    have c4b0 : (t106 == 0) = true := beq_iff_eq.mpr c4
    have c4b1 : (t106 != 0) = false := bne_eq_false_iff_eq.mpr c4
    clear c4
    have H' := Aside0.mk H
    clear H
    go_enter Try.func63, Try.ntmps63
    go_wp2_with (first | ((with_reducible refine gate_callee (f := 81) rfl ?_); refine goesL_ (some 9) rfl rfl Try.func81 (by kernel_rfl) rfl #[.int .i64 a0] rfl (by (try simp only [List.map_toArray, List.map_cons, List.map_nil]); first | done | rfl | (simp only [List.length_drop, List.length_take]; rfl)) ?_; (with_reducible refine (geo_Check.calls k a0 t106 _ A3.out).mono ?_); rintro e w' ⟨rfl, ⟨nd, rfl⟩⟩; refine ⟨_, rfl, ?_⟩))
    go_loopg [15] k (fun kq v15 w' => ∃ (x15_1 : Int), v15 = .int .i64 x15_1 ∧ Aside0 (geo_asked.l0 kq a0 l1 (l1.length : Int) x15_1 = some r) ∧ Aside0 (kq ≤ k) ∧ Drawn0 w w')
    case atStart => exact ⟨(0), (by first | rfl | (simp; done) | (simp [*]; done)), H', ⟨Nat.le_refl _⟩, by repeat (first | exact Drawn0.refl _ | apply Drawn0.step)⟩
    case round =>
      clear H'
      try clear c1
      try clear p2
      try clear c4
      try clear c4b0
      try clear c4b1
      obtain ⟨x15_1, rfl, HA, HK1, ⟨m1, rfl⟩⟩ := hrel
      cases gk with
      | zero => exact absurd HA.out (by simp [geo_asked.l0])
      | succ k1 =>
        have H := HA.out
        clear HA
        simp only [geo_asked.l0] at H
        by_cases c5 : x15_1 < (l1.length : Int)
        · rw [if_pos c5] at H
          have c5b0 : decide (x15_1 < (l1.length : Int)) = true := decide_eq_true c5
          clear c5
          by_cases c6 : 0 ≤ x15_1
          · rw [if_pos c6] at H
            have c6b0 : decide (0 ≤ x15_1) = true := decide_eq_true c6
            clear c6
            by_cases c7 : x15_1 < (l1.length : Int)
            · rw [if_pos c7] at H
              have c7b0 : decide (x15_1 < (l1.length : Int)) = true := decide_eq_true c7
              clear c7
              have HC8 := Aside0.mk H
              clear H
              have p107 : 0 ≤ (x15_1 : Int) := of_decide_eq_true (by first | (with_reducible assumption) | assumption)
              have q107 : x15_1 < (l1.length : Int) := of_decide_eq_true (by first | (with_reducible assumption) | assumption)
              obtain ⟨ad107, e107, hx107_0⟩ := Kd.at_int HR1.out x15_1 p107 q107
              cases e107
              replace p107 := eq_true p107
              replace q107 := eq_true q107
              go_upto_region 7 with (fail)
              go_cut [26] (fun v26 wc => ∃ (kq : Nat) (x26_7 : Bool), v26 = .bool x26_7 ∧ Aside0 (geo_asked.j1 kq a0 l1 (l1.length : Int) x15_1 x26_7 = some r) ∧ Aside0 (kq ≤ k1) ∧ Drawn0 w wc)
              case first =>
                have H := HC8.out
                clear HC8
                by_cases c9 : (rd l1 x15_1) < 0
                · rw [if_pos c9] at H
                  have c9b0 : decide ((rd l1 x15_1) < 0) = true := decide_eq_true c9
                  clear c9
                  (first | rw [c9b0] | (simp only [i64_w, i32_w]; rw [c9b0]) | skip)
                  have H' := Aside0.mk H
                  clear H
                  go_wp2
                  go_meet
                  case rel => exact ⟨_, (true), (by first | rfl | (simp; done) | (simp [*]; done)), H', ⟨by have := HK1.out; first | omega | exact Nat.le_refl _⟩, by repeat (first | exact Drawn0.refl _ | apply Drawn0.step)⟩
                · rw [if_neg c9] at H
                  have c9b0 : decide ((rd l1 x15_1) < 0) = false := decide_eq_false c9
                  clear c9
                  (first | rw [c9b0] | (simp only [i64_w, i32_w]; rw [c9b0]) | skip)
                  by_cases c10 : 0 ≤ a0
                  · rw [if_pos c10] at H
                    have c10b0 := eq_true c10
                    have c10b1 : decide (0 ≤ a0) = true := decide_eq_true c10
                    clear c10
                    obtain ⟨ji11, hji11⟩ : ∃ j_ : Int, (shl .i64 1 a0) = j_ := ⟨_, rfl⟩
                    replace H : (geo_asked.j1 k1 a0 l1 (l1.length : Int) x15_1 (decide ((rd l1 x15_1) ≥ (ji11)))) = some r := by first | (rw [hji11] at H; exact H) | (simp only [hji11] at H ⊢; exact H)
                    have hji11_ : (IntKind.i64.wrap (1 * 2 ^ min a0.toNat 64)) = ji11 := hji11
                    have hji11z : a0 ≤ 64 → (IntKind.i64.wrap (1 * 2 ^ a0.toNat)) = ji11 := shl_small hji11
                    have hji11u : (IntKind.i64.wrap (2 ^ min a0.toNat 64)) = ji11 := by have h_ := hji11_; rw [Int.one_mul] at h_; exact h_
                    have hji11v : a0 ≤ 64 → (IntKind.i64.wrap (2 ^ a0.toNat)) = ji11 := fun hle_ => by have h_ := hji11z hle_; rw [Int.one_mul] at h_; exact h_
                    have hji11y : (wrap64 (1 * 2 ^ min a0.toNat 64)) = ji11 := (i64_w _).symm.trans hji11_
                    have hji11x : a0 ≤ 64 → (wrap64 (1 * 2 ^ a0.toNat)) = ji11 := fun h_ => (i64_w _).symm.trans (hji11z h_)
                    have H' := Aside0.mk H
                    clear H
                    go_wp2
                    go_meet
                    case rel => exact ⟨_, (decide ((rd l1 x15_1) ≥ (ji11))), (by first | rfl | (simp; done) | (simp only [← hji11] <;> (first | rfl | simp)) | (simp [*]; done)), H', ⟨by have := HK1.out; first | omega | exact Nat.le_refl _⟩, by repeat (first | exact Drawn0.refl _ | apply Drawn0.step)⟩
                  · rw [if_neg c10] at H
                    exact absurd H (by simp)
              case rest =>
                clear HC8
                try clear c1
                try clear p1
                try clear q1
                try clear hx1
                try clear p2
                try clear c4
                try clear c4b0
                try clear c4b1
                try clear c5
                try clear c5b0
                try clear c6
                try clear c6b0
                try clear p6
                try clear c7
                try clear c7b0
                try clear c8
                try clear c9
                try clear c9b0
                try clear c10
                try clear c10b0
                try clear c10b1
                try clear p10
                try clear q10
                try clear hx10
                try clear hx107_0
                try clear p107
                try clear p2
                try clear q107
                obtain ⟨kq, x26_7, rfl, HA, HJ7, ⟨mc7, rfl⟩⟩ := hcut
                cases kq with
                | zero => exact absurd HA.out (by simp [geo_asked.j1])
                | succ kj7 =>
                  have H := HA.out
                  clear HA
                  simp only [geo_asked.j1] at H
                  by_cases c12 : x26_7 = true
                  · subst c12
                    have H1 : (some 2) = some r := by rw [if_pos rfl] at H; exact H
                    clear H
                    have H := H1
                    clear H1
                    obtain rfl := Option.some.inj H
                    go_wp2
                    go_ret
                    exact ⟨by first | rfl | (simp; done) | (simp [*]; done), by repeat (first | exact Drawn0.refl _ | apply Drawn0.step)⟩
                  · replace c12 := Bool.eq_false_iff.mpr c12
                    subst c12
                    have H1 : (geo_asked.l0 kj7 a0 l1 (l1.length : Int) (wrap64 (x15_1 + 1))) = some r := by rw [if_neg (show ¬ (false = true) by decide)] at H; exact H
                    clear H
                    have H := H1
                    clear H1
                    have H' := Aside0.mk H
                    clear H
                    go_wp2
                    go_roundg kj7
                    case measure => have := HK1.out; have := HJ7.out; omega
                    case rel => exact ⟨(wrap64 (x15_1 + 1)), (by first | rfl | (simp; done) | (simp [*]; done)), H', ⟨by have := HK1.out; have := HJ7.out; omega⟩, by repeat (first | exact Drawn0.refl _ | apply Drawn0.step)⟩
            · rw [if_neg c7] at H
              exact absurd H (by simp)
          · rw [if_neg c6] at H
            exact absurd H (by simp)
        · rw [if_neg c5] at H
          have c5b0 : decide (x15_1 < (l1.length : Int)) = false := decide_eq_false c5
          clear c5
          obtain rfl := Option.some.inj H
          go_wp2
          go_ret
          exact ⟨by first | rfl | (simp; done) | (simp [*]; done), by repeat (first | exact Drawn0.refl _ | apply Drawn0.step)⟩
  · rw [if_neg c4] at H
    have c4b0 : (t106 == 0) = false := beq_eq_false_iff_ne.mpr c4
    have c4b1 : (t106 != 0) = true := bne_iff_ne.mpr c4
    obtain rfl := Option.some.inj H
    go_enter Try.func63, Try.ntmps63
    go_wp2_with (first | ((with_reducible refine gate_callee (f := 81) rfl ?_); refine goesL_ (some 9) rfl rfl Try.func81 (by kernel_rfl) rfl #[.int .i64 a0] rfl (by (try simp only [List.map_toArray, List.map_cons, List.map_nil]); first | done | rfl | (simp only [List.length_drop, List.length_take]; rfl)) ?_; (with_reducible refine (geo_Check.calls k a0 t106 _ A3.out).mono ?_); rintro e w' ⟨rfl, ⟨nd, rfl⟩⟩; refine ⟨_, rfl, ?_⟩))
    go_ret
    exact ⟨by first | rfl | (simp; done) | (simp [*]; done), by repeat (first | exact Drawn0.refl _ | apply Drawn0.step)⟩

end Go.Proofs.Ytknmokpnkcckeaa.PAll

namespace Go.Proofs.Ytknmokpnkcckeaa
open Go.RowKit Go.Proofs.YtknmokpnkcckeaaW.PrintWords Go.Proofs.YtknmokpnkcckeaaW.PrintLast Go.Proofs.YtknmokpnkcckeaaW.PrintMore Go.Proofs.Ytknmokpnkcckeaa.PAll
set_option linter.unusedVariables false
set_option linter.unusedSimpArgs false

/-- 2 to a height that may be. -/
def two (high : Int) : Int := 2 ^ high.toNat
def isHigh (high : Int) : Bool := decide (1 ≤ high) && decide (high ≤ 6)
theorem isHigh_iff (high : Int) : isHigh high = true ↔ 1 ≤ high ∧ high ≤ 6 := by simp [isHigh]
theorem high_cases {high : Int} (h : isHigh high = true) : high = 1 ∨ high = 2 ∨ high = 3 ∨ high = 4 ∨ high = 5 ∨ high = 6 := by
  obtain ⟨h1, h2⟩ := (isHigh_iff high).1 h
  omega
theorem shl_high {high : Int} (h : isHigh high = true) : shl .i64 1 high = two high := by
  rcases high_cases h with rfl | rfl | rfl | rfl | rfl | rfl <;> rfl
theorem check_yes (k : Nat) {high : Int} (h : isHigh high = true) : geo_Check.f (k + 1) high = some 0 := by
  obtain ⟨h1, h2⟩ := (isHigh_iff high).1 h
  unfold geo_Check.f
  rw [if_neg (by omega)]
  simp only [geo_Check.j0]
  rw [if_neg (by simp; omega)]
theorem check_no (k : Nat) {high : Int} (h : isHigh high = false) : geo_Check.f (k + 1) high = some 2 := by
  have h' : ¬ (1 ≤ high ∧ high ≤ 6) := fun x => by rw [(isHigh_iff high).2 x] at h; cases h
  unfold geo_Check.f
  by_cases h1 : high < 1
  · rw [if_pos h1]; rfl
  · rw [if_neg h1]
    simp only [geo_Check.j0]
    rw [if_pos (by simp; omega)]
theorem asked_low (k : Nat) {high : Int} (h : isHigh high = false) (l : List Int) : geo_asked.f (k + 1) high l = some 2 := by
  unfold geo_asked.f
  rw [check_no k h]
  rfl
theorem asked_nil (k : Nat) {high : Int} (h : isHigh high = true) : geo_asked.f (k + 1) high [] = some 0 := by
  unfold geo_asked.f
  rw [check_yes k h]
  rfl
def isLeaf (high leaf : Int) : Bool := decide (0 ≤ leaf) && decide (leaf < two high)
theorem isLeaf_iff (high leaf : Int) : isLeaf high leaf = true ↔ 0 ≤ leaf ∧ leaf < two high := by simp [isLeaf]
/-- One round over the leaves. -/
theorem asked_l0 (k : Nat) {high : Int} (h : isHigh high = true) (l : List Int) (i : Nat) (hi : i < l.length) (hm : l.length ≤ 1000) :
    geo_asked.l0 (k + 2) high l (l.length : Int) i = if isLeaf high (rd l i) = true then geo_asked.l0 k high l (l.length : Int) ((i + 1 : Nat) : Int) else some 2 := by
  have h0 : 0 ≤ high := by have := ((isHigh_iff high).1 h).1; omega
  have hw : wrap64 ((i : Int) + 1) = ((i + 1 : Nat) : Int) := by unfold wrap64; omega
  simp only [geo_asked.l0, geo_asked.j1, shl_high h, isLeaf_iff]
  rw [if_pos (show (i : Int) < (l.length : Int) by omega), if_pos (show (0 : Int) ≤ (i : Int) by omega), if_pos (show (i : Int) < (l.length : Int) by omega), if_pos h0, hw]
  by_cases h1 : rd l i < 0
  · rw [if_pos h1, if_pos trivial, if_neg (by omega)]
  · rw [if_neg h1]
    by_cases h2 : two high ≤ rd l i
    · rw [if_pos (by simpa using h2), if_neg (by omega)]
    · rw [if_neg (by simpa using h2), if_pos (by omega)]
theorem asked_end (k : Nat) (high : Int) (l : List Int) (i : Nat) (hi : l.length ≤ i) : geo_asked.l0 (k + 1) high l (l.length : Int) i = some 0 := by
  simp only [geo_asked.l0]
  rw [if_neg (by omega)]
theorem asked_one (k : Nat) {high : Int} (h : isHigh high = true) (leaf : Int) : geo_asked.f (k + 3) high [leaf] = some (if isLeaf high leaf = true then 0 else 2) := by
  unfold geo_asked.f
  rw [check_yes (k + 2) h]
  have h1 := asked_l0 (k + 1) h [leaf] 0 (by simp) (by simp)
  have h2 := asked_end k high [leaf] (0 + 1) (by simp)
  have r0 : rd [leaf] ((0 : Nat) : Int) = leaf := rfl
  rw [h2, r0] at h1
  simp only [Option.bind_some, if_pos rfl]
  refine Eq.trans h1 ?_
  split <;> rfl
theorem asked_two (k : Nat) {high : Int} (h : isHigh high = true) (a b : Int) : geo_asked.f (k + 5) high [a, b] = some (if (isLeaf high a && isLeaf high b) = true then 0 else 2) := by
  unfold geo_asked.f
  rw [check_yes (k + 4) h]
  have h1 := asked_l0 (k + 3) h [a, b] 0 (by simp) (by simp)
  have h2 := asked_l0 (k + 1) h [a, b] 1 (by simp) (by simp)
  have h3 := asked_end k high [a, b] (1 + 1) (by simp)
  have r0 : rd [a, b] ((0 : Nat) : Int) = a := rfl
  have r1 : rd [a, b] ((1 : Nat) : Int) = b := rfl
  rw [h3, r1] at h2
  rw [r0] at h1
  simp only [Option.bind_some, if_pos rfl]
  refine Eq.trans h1 ?_
  rw [show ((0 + 1 : Nat) : Int) = ((1 : Nat) : Int) from rfl, h2]
  cases isLeaf high a <;> cases isLeaf high b <;> rfl
end Go.Proofs.Ytknmokpnkcckeaa

namespace Go.Proofs.Ytknmokpnkcckeaa
open Go.RowKit Go.Proofs.YtknmokpnkcckeaaW.PrintWords Go.Proofs.YtknmokpnkcckeaaW.PrintLast Go.Proofs.YtknmokpnkcckeaaW.PrintMore Go.Proofs.Ytknmokpnkcckeaa.PAll
set_option linter.unusedVariables false
set_option linter.unusedSimpArgs false

theorem world_set {W : World} {a : Addr} {v0 : Value} (hc : W.cell? a = some v0) (hf : W.frozen? a = false) (v : Value) : (W.setCell a v).drew.cell? a = some v ∧ (W.setCell a v).drew.frozen? a = false :=
  ⟨World.cell?_setCell_same' _ _ _ (by rw [hc]; rfl), (World.frozen?_setCell _ _ _ _).trans hf⟩
theorem cell_far1 (W : World) {a : Addr} (b : Addr) (h : a ≠ b) (v : Value) : (W.setCell a v).drew.cell? b = W.cell? b := World.cell?_setCell_other W a b v h

/-! ### geo.Reverse -/
/-- One bit more of a number's leaf. -/
def revPut (h n o i : Int) : Int := Go.bits .or .i64 o (wrap64 (wrap64 (Go.bits .and .u64 (n / 2 ^ i.toNat) 1) * 2 ^ (h - 1 - i).toNat))
/-- The bits from the i-th on, d of them. -/
def revGo (h n : Int) : Nat → Int → Int → Int
  | 0, _, o => o
  | d + 1, i, o => revGo h n d (i + 1) (revPut h n o i)
def geo_Reverse.f (h n : Int) : Option (Int × Int) := if 0 ≤ n then if n ≤ 18446744073709551615 then some (if isHigh h = true then (revGo h n h.toNat 0 0, 0) else (0, 2)) else none else none

end Go.Proofs.Ytknmokpnkcckeaa

namespace Go.Proofs.Ytknmokpnkcckeaa
open Go.RowKit Go.Shelf
set_option linter.unusedVariables false
set_option linter.unusedSimpArgs false
attribute [local go_sem] Oper.semAt_some

/-- What has come when k rounds are over. -/
def upto {α : Type} (f : Nat → α) (k : Nat) : List α := (List.range k).map f
theorem upto_succ {α : Type} (f : Nat → α) (k : Nat) : upto f (k + 1) = upto f k ++ [f k] := by simp [upto, List.range_succ]
theorem upto_length {α : Type} (f : Nat → α) (k : Nat) : (upto f k).length = k := by simp [upto]

theorem drewN_of {β : Type} {J : β → World → Prop} (hJ : ∀ s W, J s W → J s W.drew) {s : β} {W : World} (n : Nat) (h : J s W) : J s (W.drewN n) := by
  induction n with
  | zero => exact h
  | succ n ih => rw [← World.drew_drewN]; exact hJ _ _ ih
/-- Two blocks lie as they lay. -/
def KeepTwo (a b : Nat) (W W' : World) : Prop := W'.heap[a]? = W.heap[a]? ∧ W'.heap[b]? = W.heap[b]?
theorem KeepTwo.refl (a b : Nat) (W : World) : KeepTwo a b W W := ⟨rfl, rfl⟩
theorem KeepTwo.trans {a b : Nat} {A B C : World} (h : KeepTwo a b A B) (k : KeepTwo a b B C) : KeepTwo a b A C := ⟨k.1.trans h.1, k.2.trans h.2⟩
theorem KeepTwo.of_drew {a b : Nat} {A B : World} (h : KeepTwo a b A.drew B) : KeepTwo a b A B := h
theorem KeepTwo.cell1 {a b : Nat} {A B : World} (h : KeepTwo a b A B) : B.cell? ⟨a, 0, none⟩ = A.cell? ⟨a, 0, none⟩ := by simp [World.cell?, h.1]
theorem KeepTwo.cell2 {a b : Nat} {A B : World} (h : KeepTwo a b A B) : B.cell? ⟨b, 0, none⟩ = A.cell? ⟨b, 0, none⟩ := by simp [World.cell?, h.2]
theorem KeepTwo.of_below {a b n : Nat} {A B : World} (h : Below n A B) (ha : a < n) (hb : b < n) : KeepTwo a b A B := ⟨h.block a ha, h.block b hb⟩
theorem KeepTwo.put {a b : Nat} {w : World} (ha : a < w.heap.size) (hb : b < w.heap.size) (W : World) (l : Nat) (o o' : Obj) (hl : w.heap.size ≤ l) (h : W.heap[l]? = some o) (h1 : o.isCells = false) (h2 : o.isWalk = false) : KeepTwo a b W (W.putObj l o') :=
  KeepTwo.of_below (belowK_b (Nat.le_refl _) W l o o' hl h h1 h2) ha hb
theorem below_drew1 {B : Nat} {w W : World} (h : Below B w W) : Below B w W.drew := ⟨h.os, h.tape, h.output, h.size, h.block⟩
structure Aside1 (p : Prop) : Prop where mk :: (out : p)
/-- What a round has said, as one Bool. -/
theorem yielded_bool {e : Ending} {p q : Prop} (h : (e = .returned (.bool true) ∧ p) ∨ (e = .returned (.bool false) ∧ q)) : ∃ b, e = .returned (.bool b) ∧ Aside1 ((b = true ∧ p) ∨ (b = false ∧ q)) := by
  rcases h with ⟨rfl, h⟩ | ⟨rfl, h⟩
  · exact ⟨true, rfl, ⟨.inl ⟨rfl, h⟩⟩⟩
  · exact ⟨false, rfl, ⟨.inr ⟨rfl, h⟩⟩⟩

/-- A row's bucket, of a leaf's path. -/
def wayOf (high leaf : Int) (k : Nat) : Int := Go.bits .or .i64 (IntKind.i64.wrap (2 ^ high.toNat)) leaf / 2 ^ (high.toNat - k)

set_option maxHeartbeats 2000000 in
set_option maxRecDepth 100000 in
theorem down1_in (n : Nat) (hn : 1 ≤ n) (l Bh Bl : Nat) (high leaf : Int) (h1 : 1 ≤ high) (h6 : high ≤ 6) (l0 : 0 ≤ leaf) (l1 : leaf < 64) (J Jx : List (Nat × Int) → World → Prop)
    (hJ : ∀ s W, J s W → J s W.drew)
    (hY : ∀ pre x W, J pre W → pre.length < high.toNat + 1 → YieldAt Fence.wide (n - 1) Try.prog l #[.int .i64 (x.1 : Int), .int .i64 x.2] W fun e W' =>
      (e = .returned (.bool true) ∧ J (pre ++ [x]) W' ∧ KeepTwo Bh Bl W W') ∨ (e = .returned (.bool false) ∧ Jx (pre ++ [x]) W'))
    (W : World) (hBh : W.cell? ⟨Bh, 0, none⟩ = some (.int .i64 high)) (hBl : W.cell? ⟨Bl, 0, none⟩ = some (.int .i64 leaf)) (h0 : J [] W) :
    CallsIn Fence.wide n Try.prog 82 #[.func (.yield l) #[] #[], .pointer (some ⟨Bh, 0, none⟩), .pointer (some ⟨Bl, 0, none⟩)] W fun e W' => (∃ v, e = .returned v) ∧
      ((∃ ys, ys = upto (fun j => (j, wayOf high leaf j)) (high.toNat + 1) ∧ J ys W') ∨ (∃ pre, (∃ k, k ≤ high.toNat + 1 ∧ pre = upto (fun j => (j, wayOf high leaf j)) k) ∧ Jx pre W')) := by
  refine callsIn_of_wp Try.func82 rfl trivial ?_
  simp only [Try.ntmps82, List.size_toArray, List.length_cons, List.length_nil, Nat.reduceAdd, Nat.reduceSub, Array.replicate_succ, Array.replicate_zero, List.push_toArray, List.append_toArray, List.nil_append, List.cons_append]
  gi_wp2
  gi_loopw [4] (fun i wr => ∃ k : Nat, k ≤ high.toNat + 1 ∧ i = .int .i64 k ∧ J (upto (fun j => (j, wayOf high leaf j)) k) wr ∧ KeepTwo Bh Bl W wr)
    (fun i _ => high.toNat + 1 - (intOf i).toNat)
  case atStart => exact ⟨0, Nat.zero_le _, rfl, h0, KeepTwo.refl _ _ _⟩
  case round =>
    obtain ⟨k, hk, rfl, hJs, hnx⟩ := hrel
    have hc1 : wr.cell? ⟨Bh, 0, none⟩ = some (.int .i64 high) := hnx.cell1.trans hBh
    have hc2 : wr.cell? ⟨Bl, 0, none⟩ = some (.int .i64 leaf) := hnx.cell2.trans hBl
    by_cases hlt : (k : Int) ≤ high
    · obtain ⟨fn, tmps, assign, body, hy, hR⟩ := hY _ (k, wayOf high leaf k) wr.drew (hJ _ _ hJs) (by rw [upto_length]; omega)
      dsimp only [wayOf] at hy
      have hd : decide ((k : Int) ≤ high) = true := decide_eq_true hlt
      have hw1 : IntKind.i64.wrap (high - (k : Int)) = high - k := IntWalk.i64_in _ (by omega)
      have hw2 : (0 : Int) ≤ high - k := by omega
      have hw3 : (0 : Int) ≤ high := by omega
      gi_wp2
      gi_region_with ((refine hR.mono ?_; rintro e W3 hq; obtain ⟨b, rfl, HJ⟩ := yielded_bool hq; clear hq))
      all_goals
        clear hR hy
        rcases HJ.out with hG | hX
        · obtain ⟨hb, hJ3, hk3⟩ := hG
          subst hb
          clear HJ
          gi_wp2
          go_roundw
          case rel => exact ⟨k + 1, by omega, by simp, by rw [upto_succ]; exact hJ3, hnx.trans (KeepTwo.of_drew hk3)⟩
          case measure => simp [intOf]; omega
        · obtain ⟨hb, hJx3⟩ := hX
          subst hb
          clear HJ
          gi_wp2
          go_end0
          exact ⟨⟨_, rfl⟩, .inr ⟨_, ⟨k + 1, by omega, (upto_succ _ _).symm⟩, hJx3⟩⟩
    · have hd : decide ((k : Int) ≤ high) = false := decide_eq_false hlt
      gi_wp2
      refine wpIn_wide.2 ?_
      go_quiet (fail)
      gi_wp2
      go_end0
      exact ⟨⟨_, rfl⟩, .inl ⟨_, rfl, by
        have hkk : k = high.toNat + 1 := by omega
        subst hkk
        exact drewN_of hJ _ hJs⟩⟩
end Go.Proofs.Ytknmokpnkcckeaa

namespace Go.Proofs.Ytknmokpnkcckeaa
open Go.RowKit Go.Shelf Go.Proofs.YtknmokpnkcckeaaW.PrintWords Go.Proofs.YtknmokpnkcckeaaW.PrintLast Go.Proofs.YtknmokpnkcckeaaW.PrintMore Go.Proofs.Ytknmokpnkcckeaa.PAll
set_option linter.unusedVariables false
set_option linter.unusedSimpArgs false
attribute [local go_sem] Oper.semAt_some

set_option maxHeartbeats 1000000 in
theorem down_in (n : Nat) (high leaf : Int) (w : World) :
    CallsIn Fence.wide n Try.prog 64 #[.int .i64 high, .int .i64 leaf] w fun e w' => e = .returned (.func (.func 82) #[] #[.pointer (some ⟨w.heap.size, 0, none⟩), .pointer (some ⟨w.heap.size + 1, 0, none⟩)]) ∧ w' = (w.alloc (.cells #[.int .i64 high] 3)).alloc (.cells #[.int .i64 leaf] 3) := by
  refine callsIn_of_wp Try.func64 rfl trivial ?_
  simp only [Try.ntmps64, List.size_toArray, List.length_cons, List.length_nil, Nat.reduceAdd, Nat.reduceSub, Array.replicate_succ, Array.replicate_zero, List.push_toArray, List.append_toArray, List.nil_append, List.cons_append]
  gi_wp2
  go_ret
  exact ⟨rfl, rfl⟩

theorem abides_drew {β : Type} {B : Nat} {J : β → World → Prop} (h : AbidesFrom B J) (s : β) (W : World) (hs : J s W) : J s W.drew :=
  h s W W.drew none hs ⟨rfl, rfl, rfl, Nat.le_refl _, fun _ _ _ => rfl⟩ (fun r e => by cases e)

/-- The whole path: rows and buckets. -/
def wayAll (high leaf : Int) : List (Nat × Int) := upto (fun j => (j, wayOf high leaf j)) (high.toNat + 1)

theorem down_stops (n : Nat) (hn : 1 ≤ n) (Bh Bl : Nat) (high leaf : Int) (h1 : 1 ≤ high) (h6 : high ≤ 6) (l0 : 0 ≤ leaf) (l1 : leaf < 64) (w : World) (hBh : Bh < w.heap.size) (hBl : Bl < w.heap.size)
    (hc1 : w.cell? ⟨Bh, 0, none⟩ = some (.int .i64 high)) (hc2 : w.cell? ⟨Bl, 0, none⟩ = some (.int .i64 leaf)) :
    SeqStopsK Fence.wide n Try.prog 82 #[.pointer (some ⟨Bh, 0, none⟩), .pointer (some ⟨Bl, 0, none⟩)] (fun x : Nat × Int => #[Value.int .i64 x.1, Value.int .i64 x.2]) (KeepTwo Bh Bl) (fun ys => ys = wayAll high leaf) (fun pre => ∃ k, k ≤ high.toNat + 1 ∧ pre = upto (fun j => (j, wayOf high leaf j)) k) (high.toNat + 1) w := fun l J Jx W hW hJ _ hY h0 =>
  down1_in n hn l Bh Bl high leaf h1 h6 l0 l1 J Jx (fun s W hs => abides_drew hJ s W hs) hY W ((hW.cell (p := ⟨Bh, 0, none⟩) hBh).trans hc1) ((hW.cell (p := ⟨Bl, 0, none⟩) hBl).trans hc2) h0

theorem info3 : (Try.prog.info? 3).map (fun i => (i.zero, i.size, i.bytes)) = some (some (.int .i64 0), 1, 8) := by kernel_rfl
theorem two_le {high : Int} (h : isHigh high = true) : two high ≤ 64 := by
  rcases high_cases h with rfl | rfl | rfl | rfl | rfl | rfl <;> decide

def geo_Path.f (high leaf : Int) : Option (List Int × Int) := some (if (isHigh high && isLeaf high leaf) = true then ((wayAll high leaf).map (·.2), 0) else ([], 2))

theorem C_one (w : World) (t : TypeId) (k : IntKind) (x : Int) (h : Nat) (hh : w.heap.size = h) : Kd.C (Kd.int k) (w.alloc (.cells #[.int k x] t)) (some ⟨h, 0, none⟩) 1 [x] := by
  subst hh
  refine ⟨rfl, by omega, fun _ => ⟨_, rfl, fun j p hj => ?_⟩⟩
  have hj0 : j = 0 := by
    have := (List.getElem?_eq_some_iff.1 hj).1
    simp at this
    omega
  subst hj0
  simp at hj
  subst hj
  refine ⟨[.int k x], rfl, rfl, fun i u hu => ?_⟩
  have hi0 : i = 0 := by
    have := (List.getElem?_eq_some_iff.1 hu).1
    simp at this
    omega
  subst hi0
  simp at hu
  subst hu
  simp [Addr.add]

theorem path_world (w : World) (nd : Nat) (high leaf : Int) (W0 : World) (h : ((((w.alloc (.cells #[.slice none 0 0] 72)).alloc (.cells #[.int .i64 leaf] 3)).drewN nd).alloc (.cells #[.int .i64 high] 3)).alloc (.cells #[.int .i64 leaf] 3) = W0) :
    Boxed W0 w.heap.size 72 (.slice none 0 0) ∧ W0.heap.size = w.heap.size + 4 ∧ Below w.heap.size w W0 ∧ W0.cell? ⟨w.heap.size + 1 + 1, 0, none⟩ = some (.int .i64 high) ∧ W0.cell? ⟨w.heap.size + 1 + 1 + 1, 0, none⟩ = some (.int .i64 leaf) := by
  subst h
  refine ⟨?_, by simp, ((pw_below_drewN (((Below.refl _ w).alloc (Nat.le_refl _) _).alloc (by simp) _) nd).alloc (by simp; omega) _).alloc (by simp; omega) _, by go_simp, by go_simp⟩
  have h1 : Boxed ((w.alloc (.cells #[.slice none 0 0] 72)).alloc (.cells #[.int .i64 leaf] 3)) w.heap.size 72 (.slice none 0 0) := (Boxed.new w 72 (.slice none 0 0)).alloc _
  have h2 : Boxed (((w.alloc (.cells #[.slice none 0 0] 72)).alloc (.cells #[.int .i64 leaf] 3)).drewN nd) w.heap.size 72 (.slice none 0 0) := h1
  exact (h2.alloc _).alloc _

theorem ownFrom_size {β : Type} {n B : Nat} : OwnFrom B (fun (_ : β) (W : World) => n ≤ W.heap.size) := fun _ _ _ _ hs hg _ => Nat.le_trans hs hg.size

/-- One append to the path under way: its box, its row, what else lies as it lay. -/
theorem path_step {W w1 : World} {h n1 t e : Nat} {v v' : Value} {k m : Nat} {xs ys : List Value} {tmp : Obj} (hsz : n1 = h + 4) (hv : Boxed W h t v) (hte : t ≠ e) (hrow : W.ownsRow n1 e 1 v k xs) (hh : h ≤ W.heap.size)
    (hown' : w1.ownsRow n1 e 1 v' m ys) (hgrow : (W.alloc tmp).grownBy w1 v.ownBlock) (hbig : n1 ≤ W.heap.size) :
    Boxed w1 h t v ∧ Boxed (w1.setCell ⟨h, 0, none⟩ v') h t v' ∧ (w1.setCell ⟨h, 0, none⟩ v').ownsRow n1 e 1 v' m ys ∧ KeepsOthers W (w1.setCell ⟨h, 0, none⟩ v') ∧ Below h W (w1.setCell ⟨h, 0, none⟩ v') ∧ KeepTwo (h + 1 + 1) (h + 1 + 1 + 1) W (w1.setCell ⟨h, 0, none⟩ v') ∧ W.heap.size ≤ (w1.setCell ⟨h, 0, none⟩ v').heap.size := by
  obtain ⟨a1, a2, a3, a4, a5⟩ := hv.appended hte (own_weaken hrow (by omega : h ≤ n1)) hh (Nat.le_refl _) (own_weaken hown' (by omega : h ≤ n1)) hgrow
  have keep : ∀ b, b ≠ h → b < n1 → (w1.setCell ⟨h, 0, none⟩ v').heap[b]? = W.heap[b]? := by
    intro b hb hlt
    have h1 : (w1.setCell ⟨h, 0, none⟩ v').heap[b]? = w1.heap[b]? := Below.heap_setCell _ _ _ b hb
    have h2 : w1.heap[b]? = (W.alloc tmp).heap[b]? := hgrow.block b (by simp; omega) (fun e_ => by have := own_base hrow b e_.symm; omega)
    have h3 : (W.alloc tmp).heap[b]? = W.heap[b]? := Below.heap_alloc W tmp b (by omega)
    exact h1.trans (h2.trans h3)
  exact ⟨a1, a2, hown'.kept (grownBy_setCell' w1 h v') (.inr (a1.not_row hte hown').symm), a4, a5, ⟨keep _ (by omega) (by omega), keep _ (by omega) (by omega)⟩, by have := hgrow.size; simp at this ⊢; omega⟩

set_option maxHeartbeats 4000000 in
set_option maxRecDepth 100000 in
theorem path_yes (high leaf : Int) (w : World) (hh : isHigh high = true) (hl : isLeaf high leaf = true) :
    CallsIn Fence.wide 6 Try.prog 37 #[.int .i64 high, .int .i64 leaf] w fun e w' => ∃ v, e = .returned (.tuple #[v, .int .i64 0]) ∧ w'.ownsRow w.heap.size 3 1 v (wayAll high leaf).length (((wayAll high leaf).map (·.2)).map (Value.int .i64)) ∧ Below w.heap.size w w' := by
  have HA : Aside1 (geo_asked.f 3 high [leaf] = some 0) := ⟨by rw [asked_one 0 hh, hl]; rfl⟩
  obtain ⟨h1, h6⟩ := (isHigh_iff high).1 hh
  obtain ⟨l0, l1⟩ := (isLeaf_iff high leaf).1 hl
  have l2 : leaf < 64 := by have := two_le hh; omega
  obtain ⟨i0, hi, hz0, hz1, hz2⟩ := info_parts info3
  clear hh hl
  refine callsIn_of_wp_marks Try.func37 rfl trivial ?_
  simp only [Try.ntmps37, List.size_toArray, List.length_cons, List.length_nil, Nat.reduceAdd, Nat.reduceSub, Array.replicate_succ, Array.replicate_zero, List.push_toArray, List.append_toArray, List.nil_append, List.cons_append]
  gi_wp2_with (first | (refine ⟨trivial, ?_⟩; gi_at_call 63; refine (callsIn_wide.2 (geo_asked.calls 3 _ _ 1 [leaf] 0 _ ?side1 (Nat.le_refl _) HA.out)).mono ?_; (case side1 => exact C_one _ _ _ _ _ (by simp)); rintro e w2 ⟨rfl, ⟨nd, rfl⟩⟩) | (refine ⟨trivial, ?_⟩; gi_at_call 64; refine (down_in _ _ _ _).mono ?_; rintro e w2 ⟨rfl, rfl⟩))
  clear HA
  obtain ⟨W0, hW0⟩ : ∃ W0, ((((w.alloc (.cells #[.slice none 0 0] 72)).alloc (.cells #[.int .i64 leaf] 3)).drewN nd).alloc (.cells #[.int .i64 high] 3)).alloc (.cells #[.int .i64 leaf] 3) = W0 := ⟨_, rfl⟩
  obtain ⟨bO, hsz, hB0, hc1, hc2⟩ := path_world w nd high leaf W0 hW0
  rw [hW0]
  have HD := Aside1.mk (down_stops 5 (by omega) (w.heap.size + 1 + 1) (w.heap.size + 1 + 1 + 1) high leaf h1 h6 l0 l2 W0 (by omega) (by omega) hc1 hc2)
  clear hc1 hc2 hW0
  refine wpIn_rangeFunc_ownG rfl (by omega) (gf := 82) (lb := #[.pointer (some ⟨w.heap.size + 1 + 1, 0, none⟩), .pointer (some ⟨w.heap.size + 1 + 1 + 1, 0, none⟩)]) rfl trivial (enters_of Try.func82 (by kernel_rfl) rfl)
    HD.out KeepTwo.trans (KeepTwo.put (by omega) (by omega)) (Below.refl _ _) (fun _ => rfl)
    (fun (pre : List (Nat × Int)) W => (∃ v, Boxed W w.heap.size 72 v ∧ W.ownsRow W0.heap.size 3 1 v pre.length ((pre.map (·.2)).map (Value.int .i64)) ∧ True) ∧ (Below w.heap.size w W ∧ W0.heap.size ≤ W.heap.size))
    (fun _ _ _ => False)
    (OwnFrom.and (Own.from (holdsRow_own W0.heap.size w.heap.size 72 3 1 (fun pre : List (Nat × Int) => pre.length) (fun pre => (pre.map (·.2)).map (Value.int .i64)) (fun pre v => True)) _) (OwnFrom.and (ownFrom_below (Nat.le_refl _) (by omega)) ownFrom_size))
    (fun _ _ _ _ _ hs _ _ => hs)
    ⟨⟨_, bO, World.ownsRow_nil _ _ _ _, trivial⟩, hB0, Nat.le_refl _⟩
    (fun x => { tmps := #[.int .i64 high, .int .i64 leaf, undef, undef, .pointer (some ⟨w.heap.size, 0, none⟩), .int .i64 0, .int .i64 0, undef, .int .i64 x.2, .int .i64 high, .int .i64 leaf, .slice (some ⟨w.heap.size + 1, 0, none⟩) 1 1, .int .i64 0, .int .i64 0, .bool false, undef, .int .i64 high, .int .i64 leaf, .func (.func 82) #[] #[.pointer (some ⟨w.heap.size + 1 + 1, 0, none⟩), .pointer (some ⟨w.heap.size + 1 + 1 + 1, 0, none⟩)], .int .i64 x.1, .int .i64 x.2, undef, undef, undef, undef, undef], defers := [] }) ?assign ?body ?done ?stop
  case assign =>
    intro l x W K hK
    gi_wp2
    exact hK
  case body =>
    rintro l pre x W ⟨⟨v, hv, hrow, hnil⟩, hB, hbig⟩ hlt
    have hc := hv.cell
    have hl8 : pre.length ≤ 6 := by omega
    gi_wp2_with (gi_at_builtin; refine wpListIn_append_own _ rfl _ _ 72 rfl W0.heap.size 3 i0 (.int .i64 0) 1 8 Try.underlying72 hi hz0 hz1 hz2 rfl (by decide) _ _ _ rfl (hrow.alloc _) ⟨W.heap.size, 0, none⟩ 1 1 [.int .i64 x.2] rfl rfl (cell_one_new _ _ _) (by simp [Value.oneCell']) (by simp only [maxLen]; omega) (by omega) (by simp; omega) ?_; intro v' w1 hown' hgrow _; obtain ⟨g', cap', rfl⟩ := ownsRow_succ hown'; obtain ⟨hv1, hv2, hr2, hk2, hb2, ht2, ht3⟩ := path_step hsz hv (by decide) hrow hB.size hown' hgrow hbig; have hc1 := hv1.cell; have hf1 := hv1.frozen)
    exact ⟨hk2.from _, ht2, ⟨_, hv2, by simpa using hr2, trivial⟩, hB.trans hb2, Nat.le_trans hbig ht3⟩
  case done =>
    rintro D ys W hD rfl ⟨⟨v, hv, hrow, hnil⟩, hB, hbig⟩ hK
    obtain ⟨Av, cv, rfl⟩ := own_slice hrow
    have hc := hv.cell
    have hf := hv.frozen
    gi_wp2
    have hK2 : (W.setCell ⟨w.heap.size, 0, none⟩ (.slice Av (wayAll high leaf).length cv)).heap[D]? = some (.deferred (some [])) := (KeepsOthers.setCell _ _ _).same D _ hK rfl
    have hv2 := hv.set (.slice Av (wayAll high leaf).length cv)
    have hr2 : (W.setCell ⟨w.heap.size, 0, none⟩ (.slice Av (wayAll high leaf).length cv)).ownsRow W0.heap.size 3 1 (.slice Av (wayAll high leaf).length cv) (wayAll high leaf).length (((wayAll high leaf).map (·.2)).map (Value.int .i64)) := hrow.kept (grownBy_setCell' W w.heap.size _) (.inr (hv.not_row (by decide) hrow).symm)
    have hB2 : Below w.heap.size w (W.setCell ⟨w.heap.size, 0, none⟩ (.slice Av (wayAll high leaf).length cv)) := hB.setCell (p := ⟨w.heap.size, 0, none⟩) (Nat.le_refl _) _
    have hc3 : ((W.setCell ⟨w.heap.size, 0, none⟩ (.slice Av (wayAll high leaf).length cv)).putObj D (.deferred none)).cell? ⟨w.heap.size, 0, none⟩ = some (.slice Av (wayAll high leaf).length cv) := cell_kept hv2.cell (grownBy_putObj' _ D (.deferred none)) (fun r e => by cases e; exact ⟨_, hK2, rfl⟩)
    refine ⟨by simp, .inl ⟨_, _, rfl, run_takeDeferred hK2, ?_⟩⟩
    refine ⟨.tuple #[.slice Av (wayAll high leaf).length cv, .int .i64 0], by simp [results, Try.results37, go_sem, hc3], _, rfl, own_weaken (ownsRow_putObj hr2 _ hK2 rfl) (by omega), ?_⟩
    exact hB2.trans (belowK_b (w := w) (Nat.le_refl _) _ D _ _ (by omega) hK2 rfl rfl)
  case stop =>
    rintro D c pre W _ _ h _
    exact h.elim

theorem asked_any (high leaf : Int) : geo_asked.f 3 high [leaf] = some (if (isHigh high && isLeaf high leaf) = true then 0 else 2) := by
  cases hh : isHigh high with
  | false => rw [asked_low 2 hh]; rfl
  | true => rw [asked_one 0 hh]; rfl

set_option maxHeartbeats 1000000 in
theorem path_no (high leaf : Int) (w : World) (hn : (isHigh high && isLeaf high leaf) = false) :
    Calls Try.prog 37 #[.int .i64 high, .int .i64 leaf] w fun e w' => e = .returned (.tuple #[.slice none 0 0, .int .i64 2]) ∧ Below w.heap.size w w' := by
  have HA : Aside1 (geo_asked.f 3 high [leaf] = some 2) := ⟨by rw [asked_any, hn]; rfl⟩
  clear hn
  go_enter Try.func37, Try.ntmps37
  go_wp2_with (go_at_call 63; refine (geo_asked.calls 3 _ _ 1 [leaf] 2 _ ?side1 (Nat.le_refl _) HA.out).mono ?_; (case side1 => exact C_one _ _ _ _ _ (by simp)); rintro e w2 ⟨rfl, ⟨nd, rfl⟩⟩)
  exact bodyPost_ret (v := .tuple #[.slice none 0 0, .int .i64 2]) (by simp [results, Try.results37, go_sem]) rfl ⟨rfl, (pw_below_drewN (((Below.refl _ _).alloc (Nat.le_refl _) _).alloc (by simp) _) _).setCell (p := ⟨w.heap.size, 0, none⟩) (Nat.le_refl _) _⟩

theorem geo_Path.calls (a0 a1 : Int) (r1 : List Int) (r2 : Int) (w : World) (h : geo_Path.f a0 a1 = some (r1, r2)) :
    Calls Try.prog 37 #[.int .i64 a0, .int .i64 a1] w fun e w' => ∃ v0_ : Value, e = .returned (.tuple #[v0_, .int .i64 r2]) ∧ Kd.R (Kd.int .i64) 3 w' w.heap.size (fun _ => True) v0_ r1 ∧ Below w.heap.size w w' := by
  cases hn : (isHigh a0 && isLeaf a0 a1) with
  | false =>
    simp only [geo_Path.f, hn, Option.some.injEq] at h
    injection h with e1 e2
    subst e1 e2
    refine (path_no a0 a1 w hn).mono ?_
    rintro e w' ⟨rfl, hb⟩
    exact ⟨_, rfl, Kd.R_nil _ _ _ _ _, hb⟩
  | true =>
    simp only [geo_Path.f, hn, if_pos, Option.some.injEq] at h
    injection h with e1 e2
    subst e1 e2
    simp only [Bool.and_eq_true] at hn
    refine (callsIn_wide.1 (path_yes a0 a1 w hn.1 hn.2)).mono ?_
    rintro e w' ⟨v, rfl, hown, hb⟩
    exact ⟨_, rfl, Kd.R_of_own (by rw [List.length_map]; exact hown) (fun _ _ => trivial), hb⟩
end Go.Proofs.Ytknmokpnkcckeaa
