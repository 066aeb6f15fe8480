import Derived.Test.YtknmokpnkcckeaaPAll0
import Derived.Test.YtknmokpnkcckeaaBkPure
import Derived.Test.YtknmokpnkcckeaaHandSlot
import Derived.Laws.Bits128
import Derived.Laws.BitsAllLaws
import Derived.Lib.Bytes
-- Printed for this claim by a program of this session, over the kit's print.
namespace Go.Proofs.Ytknmokpnkcckeaa.PAll
open Go.RowKit Go.Proofs.YtknmokpnkcckeaaW.PrintWords Go.Proofs.YtknmokpnkcckeaaW.PrintLast Go.Proofs.YtknmokpnkcckeaaW.PrintMore
attribute [local go_sem] max2_int min2_int max_two min_two max_three min_three max_four min_four   -- for this text's walks alone
set_option linter.unusedVariables false
set_option linter.unusedSimpArgs false

/-! ### ref01_Number: function 79 -/
def ref01_Number.l0 : Nat → List Int → Int → Int → Option (Int)
  | 0, _, _, _ => none
  | k + 1, x0, x3, x4 => if x4 ≥ 0 then (if 0 ≤ x4 then (if x4 < (x0.length : Int) then (ref01_Number.l0 k x0 (IntKind.u64.wrap ((IntKind.u64.wrap (256 * x3)) + (IntKind.u64.wrap (rd x0 x4)))) (wrap64 (x4 - 1))) else (none)) else (none)) else (some x3)
def ref01_Number.f (k : Nat) (l0 : List Int) : Option (Int) := ref01_Number.l0 k l0 0 (wrap64 ((l0.length : Int) - 1))
theorem ref01_Number.mono_l : ∀ k, (∀ y0 y1 y2, LeO (ref01_Number.l0 k y0 y1 y2) (ref01_Number.l0 (k + 1) y0 y1 y2))
  | 0 => fun _ _ _ r h => by simp [ref01_Number.l0] at h
  | k + 1 => by
    have ih0 := ref01_Number.mono_l k
    · intro y0 y1 y2
      unfold ref01_Number.l0
      repeat' first
      | (with_reducible exact ih0 _ _ _)
      | (with_reducible exact LeO.refl _)
      | (with_reducible exact LeO.none _)
      | (with_reducible refine LeO.ite ?_ ?_)
      | (with_reducible refine LeO.bind ?_ (fun _ => ?_))
      | exact ih0 _ _ _
      | exact LeO.none _
      | refine LeO.ite ?_ ?_
      | refine LeO.bind ?_ (fun _ => ?_)
theorem ref01_Number.mono : ∀ a0 k, LeO (ref01_Number.f k a0) (ref01_Number.f (k + 1) a0) := by
  intro a0 k
  have ih0 := ref01_Number.mono_l k
  unfold ref01_Number.f
  repeat' first
      | (with_reducible exact ih0 _ _ _)
      | (with_reducible exact LeO.refl _)
      | (with_reducible exact LeO.none _)
      | (with_reducible refine LeO.ite ?_ ?_)
      | (with_reducible refine LeO.bind ?_ (fun _ => ?_))
      | exact ih0 _ _ _
      | exact LeO.none _
      | refine LeO.ite ?_ ?_
      | refine LeO.bind ?_ (fun _ => ?_)
set_option maxHeartbeats 8000000 in
set_option maxRecDepth 100000 in
theorem ref01_Number.calls (k : Nat) (A0 : Option Addr) (c0 : Nat) (l0 : List Int) (r : Int) (w : World) (hr0 : Kd.C (Kd.int .u8) w A0 l0.length l0) (hc0 : l0.length ≤ c0) (h : ref01_Number.f k l0 = some r) :
    Calls Try.prog 79 #[.slice A0 l0.length c0] w fun e w' => e = .returned (.int .u64 r) ∧ Drawn0 w w' := by
  have HR0 := Aside0.mk hr0
  have HC0 := Aside0.mk hc0
  clear hr0 hc0
  have H : (ref01_Number.l0 k l0 0 (wrap64 ((l0.length : Int) - 1))) = some r := h
  clear h
  have H' := Aside0.mk H
  clear H
  go_enter Try.func79, Try.ntmps79
  go_wp2
  go_loopg [3, 4] k (fun kq v3 v4 w' => ∃ (x3_1 : Int) (x4_1 : Int), v3 = .int .u64 x3_1 ∧ v4 = .int .i64 x4_1 ∧ Aside0 (ref01_Number.l0 kq l0 x3_1 x4_1 = some r) ∧ Aside0 (kq ≤ k) ∧ Drawn0 w w')
  case atStart => exact ⟨(0), (wrap64 ((l0.length : Int) - 1)), (by first | rfl | (simp; done) | (simp [*]; done)), (by first | rfl | (simp; done) | (simp [*]; done)), H', ⟨Nat.le_refl _⟩, by repeat (first | exact Drawn0.refl _ | apply Drawn0.step)⟩
  case round =>
    clear H'
    obtain ⟨x3_1, x4_1, rfl, rfl, HA, HK1, ⟨m1, rfl⟩⟩ := hrel
    cases gk with
    | zero => exact absurd HA.out (by simp [ref01_Number.l0])
    | succ k1 =>
      have H := HA.out
      clear HA
      simp only [ref01_Number.l0] at H
      by_cases c2 : x4_1 ≥ 0
      · rw [if_pos c2] at H
        have c2b0 : decide (0 ≤ x4_1) = true := decide_eq_true c2
        clear c2
        by_cases c3 : 0 ≤ x4_1
        · rw [if_pos c3] at H
          have c3b0 : decide (0 ≤ x4_1) = true := decide_eq_true c3
          clear c3
          by_cases c4 : x4_1 < (l0.length : Int)
          · rw [if_pos c4] at H
            have c4b0 : decide (x4_1 < (l0.length : Int)) = true := decide_eq_true c4
            clear c4
            have H' := Aside0.mk H
            clear H
            have p270 : 0 ≤ (x4_1 : Int) := of_decide_eq_true (by first | (with_reducible assumption) | assumption)
            have q270 : x4_1 < (l0.length : Int) := of_decide_eq_true (by first | (with_reducible assumption) | assumption)
            obtain ⟨ad270, e270, hx270_0⟩ := Kd.at_int HR0.out x4_1 p270 q270
            cases e270
            replace p270 := eq_true p270
            replace q270 := eq_true q270
            go_wp2
            go_roundg k1
            case measure => have := HK1.out; omega
            case rel => exact ⟨(IntKind.u64.wrap ((IntKind.u64.wrap (256 * x3_1)) + (IntKind.u64.wrap (rd l0 x4_1)))), (wrap64 (x4_1 - 1)), (by first | rfl | (simp; done) | (simp [*]; done)), (by first | rfl | (simp; done) | (simp [*]; done)), H', ⟨by have := HK1.out; omega⟩, by repeat (first | exact Drawn0.refl _ | apply Drawn0.step)⟩
          · rw [if_neg c4] at H
            exact absurd H (by simp)
        · rw [if_neg c3] at H
          exact absurd H (by simp)
      · rw [if_neg c2] at H
        have c2b0 : decide (0 ≤ x4_1) = false := decide_eq_false c2
        clear c2
        obtain rfl := Option.some.inj H
        go_wp2
        go_ret
        exact ⟨by first | rfl | (simp; done) | (simp [*]; done), by repeat (first | exact Drawn0.refl _ | apply Drawn0.step)⟩

end Go.Proofs.Ytknmokpnkcckeaa.PAll

namespace Go.Proofs.Ytknmokpnkcckeaa
open Go.RowKit Go.Proofs.YtknmokpnkcckeaaW.PrintWords Go.Proofs.YtknmokpnkcckeaaW.PrintLast Go.Proofs.YtknmokpnkcckeaaW.PrintMore Go.Proofs.Ytknmokpnkcckeaa.PAll
set_option linter.unusedVariables false
set_option linter.unusedSimpArgs false

theorem wrap_succ (i : Nat) (h : i ≤ 140737488355328) : wrap64 ((i : Int) + 1) = ((i + 1 : Nat) : Int) := by unfold wrap64; omega
/-- The number that bytes are. -/
def val : List Int → Int
  | [] => 0
  | b :: t => b + 256 * val t
theorem Bytes.take {l : List Int} (h : Bytes l) (n : Nat) : Bytes (l.take n) := fun x hx => h x (List.mem_of_mem_take hx)
theorem Bytes.drop {l : List Int} (h : Bytes l) (n : Nat) : Bytes (l.drop n) := fun x hx => h x (List.mem_of_mem_drop hx)
theorem or_mul (a b i m : Nat) (hm : m = 2 ^ i) (h : a < m) : (b * m) ||| a = b * m + a := by
  subst hm
  rw [← Nat.shiftLeft_eq, Nat.shiftLeft_add_eq_or_of_lt h]
theorem byte_or {x b : Int} (x0 : 0 ≤ x) (x1 : x * 256 < 18446744073709551616) (b0 : 0 ≤ b) (b1 : b < 256) :
    Go.bits .or .u64 (IntKind.u64.wrap (x * 256)) (IntKind.u64.wrap b) = b + 256 * x := by
  obtain ⟨n, rfl⟩ := Int.eq_ofNat_of_zero_le x0
  obtain ⟨m, rfl⟩ := Int.eq_ofNat_of_zero_le b0
  rw [u64_wrap', u64_wrap']
  have e1 : ((n : Int) * 256) % 18446744073709551616 = ((n * 256 : Nat) : Int) := by omega
  have e2 : (m : Int) % 18446744073709551616 = (m : Int) := by omega
  rw [e1, e2, u64_or_nat (n * 256) m (by omega) (by omega), or_mul m n 8 256 (by decide) (by omega)]
  omega
/-- Four bytes, one by one. -/
theorem four {p : List Int} (h : p.length = 4) (hb : Bytes p) : ∃ a b c d, p = [a, b, c, d] ∧ (0 ≤ a ∧ a < 256) ∧ (0 ≤ b ∧ b < 256) ∧ (0 ≤ c ∧ c < 256) ∧ (0 ≤ d ∧ d < 256) := by
  match p, h with
  | [a, b, c, d], _ => exact ⟨a, b, c, d, rfl, hb a (by simp), hb b (by simp), hb c (by simp), hb d (by simp)⟩
theorem val_four {p : List Int} (h : p.length = 4) (hb : Bytes p) : 0 ≤ val p ∧ val p < 4294967296 := by
  obtain ⟨a, b, c, d, rfl, ha, hb, hc, hd⟩ := four h hb
  simp only [val]
  omega
theorem take_l1_step (k : Nat) (acc p : List Int) (x : Int) (q : List (List Int)) (m i : Int) (j : Nat) (hj : j < 4) (hl : p.length = 4) (hb : Bytes p) (x0 : 0 ≤ x) (x1 : x < 4294967296) :
    num_Take.l1 (k + 1) acc p x q m i 4 j = num_Take.l1 k acc p (rd p ((3 - j : Nat) : Int) + 256 * x) q m i 4 ((j + 1 : Nat) : Int) := by
  have hw := wrap_succ j (by omega)
  have e1 : wrap64 ((p.length : Int) - 1) = 3 := by rw [hl]; unfold wrap64; omega
  have e2 : wrap64 (3 - (j : Int)) = ((3 - j : Nat) : Int) := by unfold wrap64; omega
  have hbb := hb (p[3 - j]'(by omega)) (List.getElem_mem _)
  have hr := rd_nat p (3 - j) (by omega)
  rw [num_Take.l1, if_pos (by omega), e1, e2, if_pos (by omega), if_pos (by omega), hr, hw, byte_or x0 (by omega) hbb.1 hbb.2]
theorem take44 {p : List Int} (h : p.length = 8) (hb : Bytes p) : num_Take.f 60 p [4, 4] = some ([val (p.take 4), val (p.drop 4)], 0) := by
  have hp1 : (p.take 4).length = 4 := by rw [List.length_take]; omega
  have hp2 : (p.drop 4).length = 4 := by rw [List.length_drop]; omega
  have hb1 := hb.take 4
  have hb2 := hb.drop 4
  have hv1 := val_four hp1 hb1
  have hv2 := val_four hp2 hb2
  have hcut : num_Cut.f p [4, 4] = some ([p.take 4, p.drop 4], 0) := by
    have e : sizeR [4, 4] = (8, 0) := by decide
    rw [num_Cut.f, cutR, e, if_neg (by decide), if_neg (by rw [h]; decide), cutGo, cutGo, cutGo]
    simp only [show (4 : Int).toNat = 4 from rfl]
    rw [List.take_of_length_le (l := p.drop 4) (by rw [hp2]; decide)]
  have hnum : num_numbers.f [4, 4] = some (8, 0) := by decide
  unfold num_Take.f
  rw [hnum, Option.bind_some, if_pos rfl, hcut, Option.bind_some, if_pos rfl]
  generalize p.take 4 = u at *
  generalize p.drop 4 = v at *
  obtain ⟨a, b, c, d, rfl, ha, hb', hc, hd⟩ := four hp1 hb1
  obtain ⟨a', b', c', d', rfl, ha', hb'', hc', hd'⟩ := four hp2 hb2
  have s := fun k x j hj x0 x1 => take_l1_step k [] [a, b, c, d] x [[a, b, c, d], [a', b', c', d']] 2 0 j hj rfl hb1 x0 x1
  have s0 := s 58 0 0 (by decide) (by decide) (by decide)
  have s1 := s 57 (d + 256 * 0) 1 (by decide) (by omega) (by omega)
  have s2 := s 56 (c + 256 * (d + 256 * 0)) 2 (by decide) (by omega) (by omega)
  have s3 := s 55 (b + 256 * (c + 256 * (d + 256 * 0))) 3 (by decide) (by omega) (by omega)
  rw [show rd [a, b, c, d] ((3 - 0 : Nat) : Int) = d from rfl] at s0
  rw [show rd [a, b, c, d] ((3 - 1 : Nat) : Int) = c from rfl] at s1
  rw [show rd [a, b, c, d] ((3 - 2 : Nat) : Int) = b from rfl] at s2
  rw [show rd [a, b, c, d] ((3 - 3 : Nat) : Int) = a from rfl] at s3
  have t0 : num_Take.l0 60 [] [[a, b, c, d], [a', b', c', d']] (([[a, b, c, d], [a', b', c', d']] : List (List Int)).length : Int) 0 = num_Take.l1 59 [] [a, b, c, d] 0 [[a, b, c, d], [a', b', c', d']] 2 0 4 ((0 : Nat) : Int) := by
    rw [num_Take.l0, if_pos (by simp), if_pos (by simp), if_pos (by simp)]
    rfl
  have s' := fun k acc x j hj x0 x1 => take_l1_step k acc [a', b', c', d'] x [[a, b, c, d], [a', b', c', d']] 2 1 j hj rfl hb2 x0 x1
  have w1 : wrap64 (0 + 1) = 1 := by unfold wrap64; omega
  have w2 : wrap64 (1 + 1) = 2 := by unfold wrap64; omega
  have t1 : num_Take.l0 54 [a + 256 * (b + 256 * (c + 256 * (d + 256 * 0)))] [[a, b, c, d], [a', b', c', d']] (([[a, b, c, d], [a', b', c', d']] : List (List Int)).length : Int) 1 = num_Take.l1 53 [a + 256 * (b + 256 * (c + 256 * (d + 256 * 0)))] [a', b', c', d'] 0 [[a, b, c, d], [a', b', c', d']] 2 1 4 ((0 : Nat) : Int) := by
    rw [num_Take.l0, if_pos (by simp), if_pos (by simp), if_pos (by simp)]
    rfl
  rw [t0, s0, s1, s2, s3, num_Take.l1, if_neg (by decide), if_pos (by decide), w1, List.nil_append]
  refine Eq.trans t1 ?_
  have u0 := s' 52 [a + 256 * (b + 256 * (c + 256 * (d + 256 * 0)))] 0 0 (by decide) (by decide) (by decide)
  have u1 := s' 51 [a + 256 * (b + 256 * (c + 256 * (d + 256 * 0)))] (d' + 256 * 0) 1 (by decide) (by omega) (by omega)
  have u2 := s' 50 [a + 256 * (b + 256 * (c + 256 * (d + 256 * 0)))] (c' + 256 * (d' + 256 * 0)) 2 (by decide) (by omega) (by omega)
  have u3 := s' 49 [a + 256 * (b + 256 * (c + 256 * (d + 256 * 0)))] (b' + 256 * (c' + 256 * (d' + 256 * 0))) 3 (by decide) (by omega) (by omega)
  rw [show rd [a', b', c', d'] ((3 - 0 : Nat) : Int) = d' from rfl] at u0
  rw [show rd [a', b', c', d'] ((3 - 1 : Nat) : Int) = c' from rfl] at u1
  rw [show rd [a', b', c', d'] ((3 - 2 : Nat) : Int) = b' from rfl] at u2
  rw [show rd [a', b', c', d'] ((3 - 3 : Nat) : Int) = a' from rfl] at u3
  rw [u0, u1, u2, u3, num_Take.l1, if_neg (by decide), if_pos (by simp), w2, num_Take.l0, if_neg (by simp)]
  rfl
theorem parted_eq {size : Int} {s : List Int} (h1 : 1 ≤ size) (hb : Bytes s) : partR size s = some (if (s.length : Int) = 8 + size then (val (s.take 4), val ((s.drop 4).take 4), s.drop 8, 0) else (0, 0, [], 10)) := by
  unfold partR
  by_cases hl : (s.length : Int) = 8 + size
  · have hp : (s.take 8).length = 8 := by rw [List.length_take]; omega
    rw [if_pos hl, if_pos hl, take44 hp (hb.take 8), Option.bind_some, if_pos (by simp)]
    rw [List.take_of_length_le (l := s.drop 8) (by rw [List.length_drop]; omega)]
    have e1 : (s.take 8).take 4 = s.take 4 := by rw [List.take_take]; rfl
    have e2 : (s.take 8).drop 4 = (s.drop 4).take 4 := by rw [List.drop_take]
    rw [e1, e2]
    rfl
  · rw [if_neg hl, if_neg hl]
theorem val_zero {p : List Int} (h : p.length = 4) (hb : Bytes p) (hv : val p = 0) : p = List.replicate 4 0 := by
  obtain ⟨a, b, c, d, rfl, ha, hb', hc, hd⟩ := four h hb
  simp only [val] at hv
  have : a = 0 ∧ b = 0 ∧ c = 0 ∧ d = 0 := by omega
  obtain ⟨rfl, rfl, rfl, rfl⟩ := this
  rfl
theorem any_pos {d : List Int} (hb : Bytes d) (h : d.any posByte = false) : d = List.replicate d.length 0 := by
  induction d with
  | nil => rfl
  | cons x t ih =>
    rw [List.any_cons, Bool.or_eq_false_iff] at h
    have hx : x = 0 := by
      have := (hb x List.mem_cons_self).1
      have := h.1
      simp only [posByte, decide_eq_false_iff_not] at this
      omega
    rw [List.length_cons, List.replicate_succ, hx, ← ih (fun y hy => hb y (List.mem_cons_of_mem _ hy)) h.2]
theorem three_parts (s : List Int) : s.take 4 ++ ((s.drop 4).take 4 ++ s.drop 8) = s := by
  have e : s.drop 8 = (s.drop 4).drop 4 := by rw [List.drop_drop]
  rw [e, List.take_append_drop, List.take_append_drop]
theorem digits_four {p : List Int} (h : p.length = 4) (hb : Bytes p) (hv : val p < 256) : p = [val p, 0, 0, 0] := by
  obtain ⟨a, b, c, d, rfl, ha, hb', hc, hd⟩ := four h hb
  simp only [val] at hv ⊢
  have : b = 0 ∧ c = 0 ∧ d = 0 := by omega
  obtain ⟨rfl, rfl, rfl⟩ := this
  simp
/-- What slot.Read answers. -/
def readS (a0 a1 a2 a3 : Int) (s : List Int) : Int × Int × List Int × Bool × Int :=
  if levelOk a0 a1 a2 a3 then
    (if (s.length : Int) = 8 + a1 then
      (if s = List.replicate (8 + a1).toNat 0 then (0, 0, [], false, 0)
       else if mayS a0 a1 a2 (val (s.take 4) - 1) (val ((s.drop 4).take 4)) (s.drop 8).length then (val (s.take 4) - 1, val ((s.drop 4).take 4), s.drop 8, true, 0) else (0, 0, [], false, 8))
     else (0, 0, [], false, 10))
  else (0, 0, [], false, 8)
theorem noneR_iff {a1 : Int} {s : List Int} (hb : Bytes s) (hl : (s.length : Int) = 8 + a1) (h1 : 1 ≤ a1) : noneR (val (s.take 4)) (val ((s.drop 4).take 4)) (s.drop 8) = true ↔ s = List.replicate (8 + a1).toNat 0 := by
  have l1 : (s.take 4).length = 4 := by rw [List.length_take]; omega
  have l2 : ((s.drop 4).take 4).length = 4 := by rw [List.length_take, List.length_drop]; omega
  constructor
  · intro h
    simp only [noneR, Bool.and_eq_true, decide_eq_true_eq, Bool.not_eq_true'] at h
    obtain ⟨⟨e1, e2⟩, e3⟩ := h
    have r1 := val_zero l1 (hb.take 4) e1
    have r2 := val_zero l2 ((hb.drop 4).take 4) e2
    have r3 := any_pos (hb.drop 8) e3
    rw [← three_parts s, r1, r2, r3, List.length_drop, List.replicate_append_replicate, List.replicate_append_replicate]
    congr 1
    omega
  · intro h
    rw [h]
    have e1 : (List.replicate (8 + a1).toNat (0 : Int)).take 4 = List.replicate 4 0 := by rw [List.take_replicate]; congr 1; omega
    have e2 : ((List.replicate (8 + a1).toNat (0 : Int)).drop 4).take 4 = List.replicate 4 0 := by rw [List.drop_replicate, List.take_replicate]; congr 1; omega
    rw [e1, e2, List.drop_replicate]
    have e3 : (List.replicate ((8 + a1).toNat - 8) (0 : Int)).any posByte = false := by
      rw [List.any_eq_false]
      intro x hx
      rw [List.eq_of_mem_replicate hx]
      decide
    simp only [noneR, e3]
    decide
theorem readS_eq (a0 a1 a2 a3 : Int) (s : List Int) (hb : Bytes s) : slot_Read.f a0 a1 a2 a3 s = some (readS a0 a1 a2 a3 s) := by
  unfold slot_Read.f readS
  rw [slots_eq20, Option.bind_some]
  unfold slotsS
  by_cases hl : levelOk a0 a1 a2 a3
  · have hl' := hl
    unfold levelOk at hl'
    rw [if_pos hl, if_pos hl]
    simp only [if_true]
    rw [if_pos (by omega), parted_eq (by omega) hb, Option.bind_some]
    by_cases hn : (s.length : Int) = 8 + a1
    · have l1 : (s.take 4).length = 4 := by rw [List.length_take]; omega
      have l2 : ((s.drop 4).take 4).length = 4 := by rw [List.length_take, List.length_drop]; omega
      have v1 := val_four l1 (hb.take 4)
      have v2 := val_four l2 ((hb.drop 4).take 4)
      rw [if_pos hn, if_pos hn]
      simp only [if_true]
      by_cases hz : s = List.replicate (8 + a1).toNat 0
      · rw [if_pos ((noneR_iff hb hn hl'.2.2.2.2.1).2 hz), if_pos hz]
      · rw [if_neg (fun h => hz ((noneR_iff hb hn hl'.2.2.2.2.1).1 h)), if_neg hz]
        have w1 : wrap64 (val (s.take 4)) = val (s.take 4) := by unfold wrap64; omega
        have w2 : wrap64 (val ((s.drop 4).take 4)) = val ((s.drop 4).take 4) := by unfold wrap64; omega
        have w3 : wrap64 (val (s.take 4) - 1) = val (s.take 4) - 1 := by unfold wrap64; omega
        rw [w1, w2, w3, checkS_eq, Option.bind_some]
        by_cases hm : mayS a0 a1 a2 (val (s.take 4) - 1) (val ((s.drop 4).take 4)) (s.drop 8).length
        · rw [if_pos (checkS_zero.2 ⟨hl, hm⟩), if_pos hm]
        · rw [if_neg (fun h => hm (checkS_zero.1 h).2), if_neg hm]
          unfold checkS
          rw [if_neg (fun h => hm h.2)]
    · rw [if_neg hn, if_neg hn]
      rfl
  · rw [if_neg hl, if_neg hl]
    rfl
/-- What is written is read. -/
theorem read_of {a0 a1 a2 a3 id leaf : Int} {d : List Int} (hb : Bytes d) (hl : levelOk a0 a1 a2 a3) (hm : mayS a0 a1 a2 id leaf d.length) :
    Bytes (ofS id leaf d) ∧ readS a0 a1 a2 a3 (ofS id leaf d) = (id, leaf, d, true, 0) := by
  have hl' := hl
  have hm' := hm
  unfold levelOk at hl'
  unfold mayS at hm'
  have hh := high_bounds hl.1
  have e1 : val ((ofS id leaf d).take 4) = id + 1 := by simp [ofS, val]
  have e2 : val (((ofS id leaf d).drop 4).take 4) = leaf := by simp [ofS, val]
  have e3 : (ofS id leaf d).drop 8 = d := by simp [ofS]
  refine ⟨fun x hx => ?_, ?_⟩
  · unfold ofS at hx
    rcases List.mem_append.1 hx with hx | hx
    · simp only [List.mem_cons, List.not_mem_nil, or_false] at hx
      omega
    · exact hb x hx
  · unfold readS
    rw [if_pos hl, if_pos (by simp [ofS]; omega), if_neg (fun h => ?_), e1, e2, e3, if_pos (by rw [show id + 1 - 1 = id by omega]; exact hm), show id + 1 - 1 = id by omega]
    have h0 : (ofS id leaf d)[0]? = some (id + 1) := by simp [ofS]
    rw [h, List.getElem?_replicate] at h0
    split at h0
    · injection h0 with h0; omega
    · cases h0
/-- What is read, written, are these bytes. -/
theorem of_read {a0 a1 a2 a3 : Int} {s : List Int} (hb : Bytes s) (hl : levelOk a0 a1 a2 a3) (hn : (s.length : Int) = 8 + a1) (hm : mayS a0 a1 a2 (val (s.take 4) - 1) (val ((s.drop 4).take 4)) (s.drop 8).length) :
    ofS (val (s.take 4) - 1) (val ((s.drop 4).take 4)) (s.drop 8) = s := by
  have hl' := hl
  have hm' := hm
  unfold levelOk at hl'
  unfold mayS at hm'
  have hh := high_bounds hl.1
  have l1 : (s.take 4).length = 4 := by rw [List.length_take]; omega
  have l2 : ((s.drop 4).take 4).length = 4 := by rw [List.length_take, List.length_drop]; omega
  have r1 := digits_four l1 (hb.take 4) (by omega)
  have r2 := digits_four l2 ((hb.drop 4).take 4) (by omega)
  have r3 := three_parts s
  rw [r1, r2] at r3
  unfold ofS
  rw [show val (s.take 4) - 1 + 1 = val (s.take 4) by omega]
  exact r3
end Go.Proofs.Ytknmokpnkcckeaa

namespace Go.Proofs.Ytknmokpnkcckeaa
open Go.RowKit Go.Lib Go.Proofs.YtknmokpnkcckeaaW.PrintWords Go.Proofs.YtknmokpnkcckeaaW.PrintLast Go.Proofs.YtknmokpnkcckeaaW.PrintMore Go.Proofs.Ytknmokpnkcckeaa.PAll
set_option linter.unusedVariables false
set_option linter.unusedSimpArgs false

end Go.Proofs.Ytknmokpnkcckeaa
