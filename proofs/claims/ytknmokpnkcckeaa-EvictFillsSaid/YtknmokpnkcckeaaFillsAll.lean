/-
Heights and leaves: what the plain functions over them answer.
-/
import Derived.Test.YtknmokpnkcckeaaHandPath
import Derived.Test.YtknmokpnkcckeaaPAll29
import Derived.Test.YtknmokpnkcckeaaPAll15
import Derived.Test.YtknmokpnkcckeaaPAll11
import Derived.Test.YtknmokpnkcckeaaPAll19
import Derived.Test.YtknmokpnkcckeaaPAll7
import Derived.Test.YtknmokpnkcckeaaPAll24
import Derived.Test.YtknmokpnkcckeaaPAll32
import Derived.Test.YtknmokpnkcckeaaPAll13
import Derived.Test.YtknmokpnkcckeaaStillB
import Derived.Test.YtknmokpnkcckeaaFillsCalls
namespace Go.Proofs.Ytknmokpnkcckeaa
open Go.RowKit Go.Proofs.YtknmokpnkcckeaaW.PrintWords Go.Proofs.YtknmokpnkcckeaaW.PrintLast Go.Proofs.YtknmokpnkcckeaaW.PrintMore Go.Proofs.Ytknmokpnkcckeaa.PAll
set_option linter.unusedVariables false
set_option linter.unusedSimpArgs false

theorem may_eq (high : Int) : ref07_May.f high = some (isHigh high) := by
  unfold ref07_May.f isHigh
  by_cases h : high ≥ 1
  · rw [if_pos h]; simp [h]
  · rw [if_neg h]; simp [h]

theorem two_vals : two 1 = 2 ∧ two 2 = 4 ∧ two 3 = 8 ∧ two 4 = 16 ∧ two 5 = 32 ∧ two 6 = 64 := by decide

theorem many_eq {high : Int} (h : isHigh high = true) : ref07_Many.f 20 high = some (two high) := by
  rcases high_cases h with rfl | rfl | rfl | rfl | rfl | rfl <;> decide +kernel

theorem leaves_eq (high : Int) : geo_Leaves.f 20 high = some (if isHigh high = true then (two high, 0) else (0, 2)) := by
  unfold geo_Leaves.f
  cases h : isHigh high with
  | false => rw [asked_low 19 h]; rfl
  | true =>
    rw [asked_nil 19 h]
    have h1 := ((isHigh_iff high).1 h).1
    have h2 : 0 ≤ high := by omega
    simp only [Option.bind_some, if_pos, h2, shl_high h]

end Go.Proofs.Ytknmokpnkcckeaa

namespace Go.Proofs.Ytknmokpnkcckeaa
open Go.RowKit Go.Proofs.YtknmokpnkcckeaaW.PrintWords Go.Proofs.YtknmokpnkcckeaaW.PrintLast Go.Proofs.YtknmokpnkcckeaaW.PrintMore Go.Proofs.Ytknmokpnkcckeaa.PAll
set_option linter.unusedVariables false
set_option linter.unusedSimpArgs false

theorem high_bounds {high : Int} (h : isHigh high = true) : 2 ≤ two high ∧ two high ≤ 64 := by
  obtain ⟨v1, v2, v3, v4, v5, v6⟩ := two_vals
  rcases high_cases h with rfl | rfl | rfl | rfl | rfl | rfl <;> omega
theorem same_self (l : List Int) : ref01_Same.f l l = some true := by
  unfold ref01_Same.f
  rw [beq_self_eq_true]
def levelOk (a0 a1 a2 a3 : Int) : Prop := isHigh a2 = true ∧ 1 ≤ a0 ∧ a0 ≤ 64 ∧ a0 ≤ two a2 ∧ 1 ≤ a1 ∧ a1 ≤ 32 ∧ 8 + a1 ≤ wrap64 (a3 - 64) ∧ wrap64 (a3 - 64) ≤ 4 * (8 + a1) ∧ wrap64 (a3 - 64) % (8 + a1) = 0
instance (a0 a1 a2 a3 : Int) : Decidable (levelOk a0 a1 a2 a3) := by unfold levelOk; infer_instance
def slotsS (a0 a1 a2 a3 : Int) : Int × Int := if levelOk a0 a1 a2 a3 then (wrap64 (a3 - 64) / (8 + a1), 0) else (0, 8)
theorem slots_eq20 (a0 a1 a2 a3 : Int) : slot_Slots.f 20 a0 a1 a2 a3 = some (slotsS a0 a1 a2 a3) := by
  unfold slot_Slots.f slotsS
  rw [leaves_eq, Option.bind_some]
  by_cases hh : isHigh a2 = true
  · have hb := high_bounds hh
    rw [if_pos hh]
    simp only [if_true]
    have hm : mn 64 (two a2) = two a2 := by unfold mn; omega
    rw [hm]
    by_cases h1 : a0 < 1
    · rw [if_pos h1, if_neg (by unfold levelOk; omega)]; rfl
    · rw [if_neg h1]
      by_cases h2 : two a2 < a0
      · rw [if_pos h2, if_neg (by unfold levelOk; omega)]; rfl
      · rw [if_neg h2]
        by_cases h3 : a1 < 1
        · rw [if_pos h3, if_neg (by unfold levelOk; omega)]; rfl
        · rw [if_neg h3, slot_Slots.j0]
          by_cases h4 : 32 < a1
          · rw [if_pos (by simpa using h4), if_neg (by unfold levelOk; omega)]
          · have e1 : wrap64 (8 + a1) = 8 + a1 := by unfold wrap64; omega
            have e2 : wrap64 (4 * (8 + a1)) = 4 * (8 + a1) := by unfold wrap64; omega
            rw [if_neg (by simpa using h4), e1, e2]
            by_cases h5 : wrap64 (a3 - 64) < 8 + a1
            · rw [if_pos h5, if_neg (by unfold levelOk; omega)]; rfl
            · rw [if_neg h5]
              by_cases h6 : 4 * (8 + a1) < wrap64 (a3 - 64)
              · rw [if_pos h6, if_neg (by unfold levelOk; omega)]; rfl
              · rw [if_neg h6, if_neg (by omega), slot_Slots.j1]
                have hmod : Int.tmod (wrap64 (a3 - 64)) (8 + a1) = wrap64 (a3 - 64) % (8 + a1) := Int.tmod_eq_emod_of_nonneg (by omega)
                have hdiv : Int.tdiv (wrap64 (a3 - 64)) (8 + a1) = wrap64 (a3 - 64) / (8 + a1) := Int.tdiv_eq_ediv_of_nonneg (by omega)
                have hpos : 0 ≤ wrap64 (a3 - 64) % (8 + a1) := Int.emod_nonneg _ (by omega)
                rw [hmod]
                by_cases h7 : wrap64 (a3 - 64) % (8 + a1) = 0
                · have hq : wrap64 (wrap64 (a3 - 64) / (8 + a1)) = wrap64 (a3 - 64) / (8 + a1) := by
                    have q0 : 0 ≤ wrap64 (a3 - 64) / (8 + a1) := Int.ediv_nonneg (by omega) (by omega)
                    have q1 : wrap64 (a3 - 64) / (8 + a1) ≤ wrap64 (a3 - 64) := Int.ediv_le_self _ (by omega)
                    generalize wrap64 (a3 - 64) / (8 + a1) = q at q0 q1
                    have : wrap64 (a3 - 64) ≤ 160 := by omega
                    unfold wrap64 at *; omega
                  rw [if_neg (by simp [h7]), if_neg (by omega), hdiv, hq, if_pos (by unfold levelOk; exact ⟨hh, by omega, by omega, by omega, by omega, by omega, by omega, by omega, h7⟩)]
                · rw [if_pos (by simp; omega), if_neg (by unfold levelOk; intro h; exact h7 h.2.2.2.2.2.2.2.2)]
  · rw [if_neg hh, if_neg (show ¬ levelOk a0 a1 a2 a3 from fun h => hh h.1)]
    rfl
theorem slots_eq (a0 a1 a2 a3 : Int) {k : Nat} (hk : 20 ≤ k) : slot_Slots.f k a0 a1 a2 a3 = some (slotsS a0 a1 a2 a3) :=
  at_rounds (g := fun k => slot_Slots.f k a0 a1 a2 a3) (slot_Slots.mono a0 a1 a2 a3) hk (slots_eq20 a0 a1 a2 a3)
def mayS (a0 a1 a2 id leaf : Int) (len : Nat) : Prop := 0 ≤ id ∧ id < a0 ∧ 0 ≤ leaf ∧ leaf < two a2 ∧ (len : Int) = a1
instance (a0 a1 a2 id leaf : Int) (len : Nat) : Decidable (mayS a0 a1 a2 id leaf len) := by unfold mayS; infer_instance
def checkS (a0 a1 a2 a3 id leaf : Int) (len : Nat) : Int := if levelOk a0 a1 a2 a3 ∧ mayS a0 a1 a2 id leaf len then 0 else 8
theorem checkS_eq (a0 a1 a2 a3 id leaf : Int) (d : List Int) : slot_Check.f 20 a0 a1 a2 a3 id leaf d = some (checkS a0 a1 a2 a3 id leaf d.length) := by
  unfold slot_Check.f checkS
  rw [slots_eq20, Option.bind_some]
  unfold slotsS
  by_cases hl : levelOk a0 a1 a2 a3
  · have hh := hl.1
    rw [if_pos hl]
    simp only [if_true]
    rw [leaves_eq, Option.bind_some, if_pos hh]
    simp only
    by_cases h1 : id < 0
    · rw [if_pos h1, if_neg (by unfold mayS; omega)]; rfl
    · rw [if_neg h1]
      by_cases h2 : a0 ≤ id
      · rw [if_pos h2, if_neg (by unfold mayS; omega)]; rfl
      · rw [if_neg h2]
        by_cases h3 : leaf < 0
        · rw [if_pos h3, if_neg (by unfold mayS; omega)]; rfl
        · rw [if_neg h3]
          by_cases h4 : two a2 ≤ leaf
          · rw [if_pos h4, if_neg (by unfold mayS; omega)]; rfl
          · rw [if_neg h4, slot_Check.j0]
            by_cases h5 : (d.length : Int) = a1
            · rw [if_neg (by simpa using h5), if_pos ⟨hl, by unfold mayS; omega⟩]
            · rw [if_pos (by simpa using h5), if_neg (by unfold mayS; omega)]
  · rw [if_neg hl, if_neg (show ¬ (levelOk a0 a1 a2 a3 ∧ mayS a0 a1 a2 id leaf d.length) from fun h => hl h.1)]
    rfl
theorem checkS_zero {a0 a1 a2 a3 id leaf : Int} {len : Nat} : checkS a0 a1 a2 a3 id leaf len = 0 ↔ levelOk a0 a1 a2 a3 ∧ mayS a0 a1 a2 id leaf len := by
  unfold checkS
  by_cases h : levelOk a0 a1 a2 a3 ∧ mayS a0 a1 a2 id leaf len
  · rw [if_pos h]; simp [h]
  · rw [if_neg h]; simp [h]
def fitR (s w : Int) : Int := if w = 1 * (8 + s) + 64 then 1 else if w = 2 * (8 + s) + 64 then 2 else if w = 3 * (8 + s) + 64 then 3 else if w = 4 * (8 + s) + 64 then 4 else 0
theorem many_l0 (a0 a1 a2 a3 : Int) (h1 : 1 ≤ a1) (h4 : a1 ≤ 32) (k : Nat) : ref09_Many.l0 (k + 5) 1 a0 a1 a2 a3 = some (fitR a1 a3) := by
  have e1 : wrap64 (8 + a1) = 8 + a1 := by unfold wrap64; omega
  have w1 : wrap64 (wrap64 (1 * (8 + a1)) + 64) = 1 * (8 + a1) + 64 := by unfold wrap64; omega
  have w2 : wrap64 (wrap64 (2 * (8 + a1)) + 64) = 2 * (8 + a1) + 64 := by unfold wrap64; omega
  have w3 : wrap64 (wrap64 (3 * (8 + a1)) + 64) = 3 * (8 + a1) + 64 := by unfold wrap64; omega
  have w4 : wrap64 (wrap64 (4 * (8 + a1)) + 64) = 4 * (8 + a1) + 64 := by unfold wrap64; omega
  have n1 : wrap64 (1 + 1) = 2 := by unfold wrap64; omega
  have n2 : wrap64 (2 + 1) = 3 := by unfold wrap64; omega
  have n3 : wrap64 (3 + 1) = 4 := by unfold wrap64; omega
  have n4 : wrap64 (4 + 1) = 5 := by unfold wrap64; omega
  unfold fitR
  rw [ref09_Many.l0, if_pos (by decide), e1, w1]
  by_cases c1 : a3 = 1 * (8 + a1) + 64
  · rw [if_pos c1, if_pos c1]
  · rw [if_neg c1, if_neg c1, n1, ref09_Many.l0, if_pos (by decide), e1, w2]
    by_cases c2 : a3 = 2 * (8 + a1) + 64
    · rw [if_pos c2, if_pos c2]
    · rw [if_neg c2, if_neg c2, n2, ref09_Many.l0, if_pos (by decide), e1, w3]
      by_cases c3 : a3 = 3 * (8 + a1) + 64
      · rw [if_pos c3, if_pos c3]
      · rw [if_neg c3, if_neg c3, n3, ref09_Many.l0, if_pos (by decide), e1, w4]
        by_cases c4 : a3 = 4 * (8 + a1) + 64
        · rw [if_pos c4, if_pos c4]
        · rw [if_neg c4, if_neg c4, n4, ref09_Many.l0, if_neg (by decide)]
theorem fit_of {s w q : Int} (h1 : 1 ≤ s) (hw : w - 64 = (8 + s) * q) (q1 : 1 ≤ q) (q4 : q ≤ 4) : fitR s w = q := by
  have hc : q = 1 ∨ q = 2 ∨ q = 3 ∨ q = 4 := by omega
  unfold fitR
  rcases hc with rfl | rfl | rfl | rfl
  · rw [if_pos (by omega)]
  · rw [if_neg (by omega), if_pos (by omega)]
  · rw [if_neg (by omega), if_neg (by omega), if_pos (by omega)]
  · rw [if_neg (by omega), if_neg (by omega), if_neg (by omega), if_pos (by omega)]
theorem quot_of {s v : Int} (h1 : 1 ≤ s) (hlo : 8 + s ≤ v) (hhi : v ≤ 4 * (8 + s)) (hm : v % (8 + s) = 0) : ∃ q, v = (8 + s) * q ∧ 1 ≤ q ∧ q ≤ 4 ∧ v / (8 + s) = q := by
  have hp : 0 < 8 + s := by omega
  have he : (8 + s) * (v / (8 + s)) = v := Int.mul_ediv_cancel' (Int.dvd_of_emod_eq_zero hm)
  refine ⟨v / (8 + s), he.symm, ?_, ?_, rfl⟩
  · exact (Int.le_ediv_iff_mul_le hp).2 (by omega)
  · have := (Int.ediv_lt_iff_lt_mul (a := v) (b := 5) hp).2 (by omega)
    omega
def manyS (a0 a1 a2 a3 : Int) : Int := if levelOk a0 a1 a2 a3 then wrap64 (a3 - 64) / (8 + a1) else 0
theorem ok_of {a0 a1 a2 a3 q : Int} (w3 : (Lit.int .i64 a3).wf = true) (hh : isHigh a2 = true) (c1 : ¬ a0 < 1) (c2 : ¬ a0 > 64) (c3 : ¬ a1 < 1) (c4 : ¬ a1 > 32) (c5 : ¬ two a2 < a0) (q1 : 1 ≤ q) (q4 : q ≤ 4) (he : a3 = q * (8 + a1) + 64) : levelOk a0 a1 a2 a3 := by
  have hc : q = 1 ∨ q = 2 ∨ q = 3 ∨ q = 4 := by omega
  have e : wrap64 (a3 - 64) = q * (8 + a1) := by rcases hc with rfl | rfl | rfl | rfl <;> (unfold wrap64; omega)
  unfold levelOk
  rw [e]
  refine ⟨hh, by omega, by omega, by omega, by omega, by omega, ?_, ?_, Int.mul_emod_left ..⟩
  · rcases hc with rfl | rfl | rfl | rfl <;> omega
  · rcases hc with rfl | rfl | rfl | rfl <;> omega
theorem manyS_eq (a0 a1 a2 a3 : Int) (w3 : (Lit.int .i64 a3).wf = true) : ref09_Many.f 20 a0 a1 a2 a3 = some (manyS a0 a1 a2 a3) := by
  unfold ref09_Many.f manyS
  have hj : ∀ k, ref09_Many.j0 (k + 1) true a0 a1 a2 a3 = some 0 := fun k => by rw [ref09_Many.j0, if_pos rfl]
  have hb3 := w3
  rw [Lit.wf, Bool.and_eq_true, decide_eq_true_eq, decide_eq_true_eq] at hb3
  have hlo : -9223372036854775808 ≤ a3 := hb3.1
  have hhi : a3 ≤ 9223372036854775807 := hb3.2
  by_cases hl : levelOk a0 a1 a2 a3
  · have hl' := hl
    unfold levelOk at hl'
    obtain ⟨h0, h1, h2, h3, h4, h5, h6, h7, h8⟩ := hl'
    rw [if_neg (by omega), if_neg (by omega), if_neg (by omega), if_neg (by omega), may_eq, Option.bind_some, if_pos h0, many_eq h0, Option.bind_some, decide_eq_false (by omega), if_pos hl, ref09_Many.j0, if_neg (by decide), many_l0 a0 a1 a2 a3 h4 h5 14]
    obtain ⟨q, e, q1, q4, ed⟩ := quot_of h4 h6 h7 h8
    have ew : wrap64 (a3 - 64) = a3 - 64 := by
      have : 0 < wrap64 (a3 - 64) ∧ wrap64 (a3 - 64) ≤ 1000 := by omega
      unfold wrap64 at this ⊢
      omega
    rw [ed, fit_of h4 (by rw [← ew]; exact e) q1 q4]
  · rw [if_neg hl]
    by_cases c1 : a0 < 1
    · rw [if_pos c1, hj]
    by_cases c2 : a0 > 64
    · rw [if_neg c1, if_pos c2, hj]
    by_cases c3 : a1 < 1
    · rw [if_neg c1, if_neg c2, if_pos c3, hj]
    by_cases c4 : a1 > 32
    · rw [if_neg c1, if_neg c2, if_neg c3, if_pos c4, hj]
    rw [if_neg c1, if_neg c2, if_neg c3, if_neg c4, may_eq, Option.bind_some]
    by_cases h0 : isHigh a2 = true
    · rw [if_pos h0, many_eq h0, Option.bind_some]
      by_cases c5 : two a2 < a0
      · rw [decide_eq_true c5, hj]
      · rw [decide_eq_false c5, ref09_Many.j0, if_neg (by decide), many_l0 a0 a1 a2 a3 (by omega) (by omega) 14]
        have e : fitR a1 a3 = 0 := by
          unfold fitR
          rw [if_neg (fun he => hl (ok_of w3 h0 c1 c2 c3 c4 c5 (by decide) (by decide) he)), if_neg (fun he => hl (ok_of w3 h0 c1 c2 c3 c4 c5 (by decide) (by decide) he)),
            if_neg (fun he => hl (ok_of w3 h0 c1 c2 c3 c4 c5 (by decide) (by decide) he)), if_neg (fun he => hl (ok_of w3 h0 c1 c2 c3 c4 c5 (by decide) (by decide) he))]
        rw [e]
    · rw [if_neg h0, hj]
theorem manyS_pos {a0 a1 a2 a3 : Int} (hl : levelOk a0 a1 a2 a3) : ¬ manyS a0 a1 a2 a3 < 1 := by
  unfold manyS
  rw [if_pos hl]
  unfold levelOk at hl
  obtain ⟨q, e, q1, q4, ed⟩ := quot_of hl.2.2.2.2.1 hl.2.2.2.2.2.2.1 hl.2.2.2.2.2.2.2.1 hl.2.2.2.2.2.2.2.2
  omega
theorem manyS_zero {a0 a1 a2 a3 : Int} (hl : ¬ levelOk a0 a1 a2 a3) : manyS a0 a1 a2 a3 < 1 := by
  unfold manyS
  rw [if_neg hl]
  decide
theorem refMay_eq {a0 a1 a2 a3 id leaf : Int} (d : List Int) (hh : isHigh a2 = true) : ref09_May.f 20 a0 a1 a2 a3 id leaf d = some (decide (mayS a0 a1 a2 id leaf d.length)) := by
  unfold ref09_May.f
  by_cases c1 : id ≥ 0
  · rw [if_pos c1]
    by_cases c2 : id < a0
    · rw [if_pos c2]
      by_cases c3 : leaf ≥ 0
      · rw [if_pos c3, many_eq hh, Option.bind_some]
        by_cases c4 : leaf < two a2
        · rw [if_pos c4]
          by_cases c5 : (d.length : Int) = a1
          · rw [decide_eq_true (show mayS a0 a1 a2 id leaf d.length from ⟨c1, c2, c3, c4, c5⟩)]; simp [c5]
          · rw [decide_eq_false (fun h : mayS a0 a1 a2 id leaf d.length => c5 h.2.2.2.2)]; simp [c5]
        · rw [if_neg c4, decide_eq_false (fun h : mayS a0 a1 a2 id leaf d.length => c4 h.2.2.2.1)]
      · rw [if_neg c3, decide_eq_false (fun h : mayS a0 a1 a2 id leaf d.length => c3 h.2.2.1)]
    · rw [if_neg c2, decide_eq_false (fun h : mayS a0 a1 a2 id leaf d.length => c2 h.2.1)]
  · rw [if_neg c1, decide_eq_false (fun h : mayS a0 a1 a2 id leaf d.length => c1 h.1)]
theorem all_leaves {p : Int → Int → Prop} (h1 : ∀ a : Fin 2, p 1 a.val) (h2 : ∀ a : Fin 4, p 2 a.val) (h3 : ∀ a : Fin 8, p 3 a.val) (h4 : ∀ a : Fin 16, p 4 a.val) (h5 : ∀ a : Fin 32, p 5 a.val) (h6 : ∀ a : Fin 64, p 6 a.val)
    {high a : Int} (hh : isHigh high = true) (ha : isLeaf high a = true) : p high a := by
  obtain ⟨a0, a1⟩ := (isLeaf_iff high a).1 ha
  obtain ⟨v1, v2, v3, v4, v5, v6⟩ := two_vals
  obtain ⟨m, rfl⟩ := Int.eq_ofNat_of_zero_le a0
  rcases high_cases hh with rfl | rfl | rfl | rfl | rfl | rfl
  · exact h1 ⟨m, by omega⟩
  · exact h2 ⟨m, by omega⟩
  · exact h3 ⟨m, by omega⟩
  · exact h4 ⟨m, by omega⟩
  · exact h5 ⟨m, by omega⟩
  · exact h6 ⟨m, by omega⟩
def deepOf (high a b : Int) : Int := high - Lib.bitLen (Go.bits .xor .i64 a b).toNat
theorem deep_all : (∀ a b : Fin 2, ref07_Both.f 19 1 a.val b.val = some (deepOf 1 a.val b.val) ∧ geo_Deep.f 20 1 a.val b.val = some (deepOf 1 a.val b.val, 0)) ∧ (∀ a b : Fin 4, ref07_Both.f 19 2 a.val b.val = some (deepOf 2 a.val b.val) ∧ geo_Deep.f 20 2 a.val b.val = some (deepOf 2 a.val b.val, 0)) ∧
    (∀ a b : Fin 8, ref07_Both.f 19 3 a.val b.val = some (deepOf 3 a.val b.val) ∧ geo_Deep.f 20 3 a.val b.val = some (deepOf 3 a.val b.val, 0)) ∧ (∀ a b : Fin 16, ref07_Both.f 19 4 a.val b.val = some (deepOf 4 a.val b.val) ∧ geo_Deep.f 20 4 a.val b.val = some (deepOf 4 a.val b.val, 0)) ∧
    (∀ a b : Fin 32, ref07_Both.f 19 5 a.val b.val = some (deepOf 5 a.val b.val) ∧ geo_Deep.f 20 5 a.val b.val = some (deepOf 5 a.val b.val, 0)) ∧ (∀ a b : Fin 64, ref07_Both.f 19 6 a.val b.val = some (deepOf 6 a.val b.val) ∧ geo_Deep.f 20 6 a.val b.val = some (deepOf 6 a.val b.val, 0)) := by
  decide +kernel
theorem deep_leaves {high a b : Int} (hh : isHigh high = true) (ha : isLeaf high a = true) (hb : isLeaf high b = true) : ref07_Both.f 19 high a b = some (deepOf high a b) ∧ geo_Deep.f 20 high a b = some (deepOf high a b, 0) := by
  obtain ⟨a0, a1⟩ := (isLeaf_iff high a).1 ha
  obtain ⟨b0, b1⟩ := (isLeaf_iff high b).1 hb
  obtain ⟨v1, v2, v3, v4, v5, v6⟩ := two_vals
  obtain ⟨m, rfl⟩ := Int.eq_ofNat_of_zero_le a0
  obtain ⟨n, rfl⟩ := Int.eq_ofNat_of_zero_le b0
  obtain ⟨d1, d2, d3, d4, d5, d6⟩ := deep_all
  rcases high_cases hh with rfl | rfl | rfl | rfl | rfl | rfl
  · exact d1 ⟨m, by omega⟩ ⟨n, by omega⟩
  · exact d2 ⟨m, by omega⟩ ⟨n, by omega⟩
  · exact d3 ⟨m, by omega⟩ ⟨n, by omega⟩
  · exact d4 ⟨m, by omega⟩ ⟨n, by omega⟩
  · exact d5 ⟨m, by omega⟩ ⟨n, by omega⟩
  · exact d6 ⟨m, by omega⟩ ⟨n, by omega⟩
theorem deep_eq (high a b : Int) : geo_Deep.f 20 high a b = some (if (isHigh high && isLeaf high a && isLeaf high b) = true then (deepOf high a b, 0) else (0, 2)) := by
  cases hh : isHigh high with
  | false => unfold geo_Deep.f; rw [asked_low 19 hh]; rfl
  | true =>
    cases hab : isLeaf high a && isLeaf high b with
    | false =>
      unfold geo_Deep.f
      rw [asked_two 15 hh, hab, Bool.and_assoc, hab]
      rfl
    | true =>
      rw [Bool.and_assoc, hab]
      simp only [Bool.and_eq_true] at hab
      exact (deep_leaves hh hab.1 hab.2).2
end Go.Proofs.Ytknmokpnkcckeaa

namespace Go.Proofs.Ytknmokpnkcckeaa
open Go.RowKit Go.Proofs.YtknmokpnkcckeaaW.PrintWords Go.Proofs.YtknmokpnkcckeaaW.PrintLast Go.Proofs.YtknmokpnkcckeaaW.PrintMore Go.Proofs.Ytknmokpnkcckeaa.PAll
set_option linter.unusedVariables false
set_option linter.unusedSimpArgs false

theorem rd62 (xs : List S62) (i : Nat) (h : i < xs.length) : rd_T62 xs (i : Int) = xs[i] := by
  simp [rd_T62, List.getD_eq_getElem?_getD, List.getElem?_eq_getElem h]
theorem rdL (xs : List (List S62)) (i : Nat) (h : i < xs.length) : rd_L8 xs (i : Int) = xs[i] := by
  simp [rd_L8, List.getD_eq_getElem?_getD, List.getElem?_eq_getElem h]
theorem wrap_next (i : Nat) (h : i ≤ 140737488355328) : wrap64 ((i : Int) + 1) = ((i + 1 : Nat) : Int) := by unfold wrap64; omega

/-- Numbers that grow, and blocks that may be. -/
def okS (a0 a1 a2 : Int) : Int → List S62 → Bool
  | _, [] => true
  | last, x :: t => decide (last < x.f0) && decide (mayS a0 a1 a2 x.f0 x.f1 x.f2.length) && okS a0 a1 a2 x.f0 t

theorem check_at (a0 a1 a2 a3 id leaf : Int) (d : List Int) {k : Nat} (hk : 20 ≤ k) : slot_Check.f k a0 a1 a2 a3 id leaf d = some (checkS a0 a1 a2 a3 id leaf d.length) :=
  at_rounds (g := fun k => slot_Check.f k a0 a1 a2 a3 id leaf d) (slot_Check.mono a0 a1 a2 a3 id leaf d) hk (checkS_eq a0 a1 a2 a3 id leaf d)
theorem may_at {a0 a1 a2 a3 id leaf : Int} (d : List Int) (hh : isHigh a2 = true) {k : Nat} (hk : 20 ≤ k) : ref09_May.f k a0 a1 a2 a3 id leaf d = some (decide (mayS a0 a1 a2 id leaf d.length)) :=
  at_rounds (g := fun k => ref09_May.f k a0 a1 a2 a3 id leaf d) (ref09_May.mono a0 a1 a2 a3 id leaf d) hk (refMay_eq d hh)
theorem many_at (a0 a1 a2 a3 : Int) (w3 : (Lit.int .i64 a3).wf = true) {k : Nat} (hk : 20 ≤ k) : ref09_Many.f k a0 a1 a2 a3 = some (manyS a0 a1 a2 a3) :=
  at_rounds (g := fun k => ref09_Many.f k a0 a1 a2 a3) (ref09_Many.mono a0 a1 a2 a3) hk (manyS_eq a0 a1 a2 a3 w3)

theorem stash_l0 {a0 a1 a2 a3 : Int} (hl : levelOk a0 a1 a2 a3) (xs : List S62) (hx : xs.length ≤ 1000) : ∀ (d k i : Nat) (last : Int), xs.length - i = d → 22 + 2 * d ≤ k → stash_Check.l0 k last xs (xs.length : Int) i a0 a1 a2 a3 = some (if okS a0 a1 a2 last (xs.drop i) = true then 0 else 8) := by
  intro d
  induction d with
  | zero =>
    intro k i last hd hk
    obtain ⟨k, rfl⟩ : ∃ m, k = m + 1 := ⟨k - 1, by omega⟩
    rw [stash_Check.l0, if_neg (by omega), List.drop_of_length_le (by omega)]
    rfl
  | succ d ih =>
    intro k i last hd hk
    obtain ⟨k, rfl⟩ : ∃ m, k = m + 1 + 1 := ⟨k - 2, by omega⟩
    have hi : i < xs.length := by omega
    rw [stash_Check.l0, if_pos (by omega), if_pos (by omega), if_pos (by omega), rd62 xs i hi, List.drop_eq_getElem_cons hi, okS]
    generalize hxi : xs[i] = x
    by_cases c : x.f0 ≤ last
    · rw [if_pos c, stash_Check.j1, if_pos rfl, decide_eq_false (by omega)]
      rfl
    · rw [if_neg c, check_at _ _ _ _ _ _ _ (by omega), Option.bind_some, stash_Check.j1, decide_eq_true (show last < x.f0 by omega), Bool.true_and]
      by_cases hm : mayS a0 a1 a2 x.f0 x.f1 x.f2.length
      · rw [checkS_zero.2 ⟨hl, hm⟩, if_neg (by decide), wrap_next i (by omega), ih k (i + 1) x.f0 (by omega) (by omega), decide_eq_true hm, Bool.true_and]
      · have h8 : checkS a0 a1 a2 a3 x.f0 x.f1 x.f2.length = 8 := by
          unfold checkS
          rw [if_neg (fun h => hm h.2)]
        rw [h8, if_pos (by decide), decide_eq_false hm]
        rfl
def prevS (xs : List S62) (i : Nat) : Int := if i = 0 then -1 else (rd_T62 xs ((i - 1 : Nat) : Int)).f0
theorem ref_l0 {a0 a1 a2 a3 : Int} (hh : isHigh a2 = true) (xs : List S62) (hx : xs.length ≤ 1000) : ∀ (d k i : Nat), xs.length - i = d → 22 + 2 * d ≤ k → ref16_May.l0 k xs i a0 a1 a2 a3 = some (okS a0 a1 a2 (prevS xs i) (xs.drop i)) := by
  intro d
  induction d with
  | zero =>
    intro k i hd hk
    obtain ⟨k, rfl⟩ : ∃ m, k = m + 1 := ⟨k - 1, by omega⟩
    rw [ref16_May.l0, if_neg (by omega), List.drop_of_length_le (by omega)]
    rfl
  | succ d ih =>
    intro k i hd hk
    obtain ⟨k, rfl⟩ : ∃ m, k = m + 1 + 1 := ⟨k - 2, by omega⟩
    have hi : i < xs.length := by omega
    have hn : prevS xs (i + 1) = (xs[i]).f0 := by
      unfold prevS
      rw [if_neg (by omega), Nat.add_sub_cancel, rd62 xs i hi]
    rw [ref16_May.l0, if_pos (by omega), if_pos (by omega), rd62 xs i hi, List.drop_eq_getElem_cons hi, okS, may_at _ hh (by omega), Option.bind_some]
    have ihn := ih k (i + 1) (by omega) (by omega)
    rw [hn] at ihn
    generalize hxi : xs[i] = x at ihn
    by_cases hm : mayS a0 a1 a2 x.f0 x.f1 x.f2.length
    · rw [decide_eq_true hm, if_pos rfl, Bool.and_true]
      by_cases h0 : i = 0
      · subst h0
        have hp : prevS xs 0 = -1 := rfl
        have h1 : (-1 : Int) < x.f0 := by unfold mayS at hm; omega
        rw [if_neg (by decide), ref16_May.j1, if_neg (by decide), hp, decide_eq_true h1, Bool.true_and, wrap_next 0 (by omega)]
        exact ihn
      · have hw : wrap64 ((i : Int) - 1) = ((i - 1 : Nat) : Int) := by unfold wrap64; omega
        have hp : prevS xs i = (rd_T62 xs ((i - 1 : Nat) : Int)).f0 := by
          unfold prevS
          rw [if_neg h0]
        rw [if_pos (by omega), hw, if_pos (by omega), if_pos (by omega), ← hp, ref16_May.j1]
        by_cases c : x.f0 ≤ prevS xs i
        · rw [decide_eq_true c, if_pos rfl, decide_eq_false (by omega)]
          rfl
        · rw [decide_eq_false c, if_neg (by decide), wrap_next i (by omega), ihn, decide_eq_true (by omega), Bool.true_and]
    · rw [decide_eq_false hm, if_neg (by decide), ref16_May.j1, if_pos rfl, Bool.and_false, Bool.false_and]

/-- May a stash be. -/
def stashOk (a0 a1 a2 a3 : Int) (xs : List S62) : Prop := levelOk a0 a1 a2 a3 ∧ okS a0 a1 a2 (-1) xs = true
instance (a0 a1 a2 a3 : Int) (xs : List S62) : Decidable (stashOk a0 a1 a2 a3 xs) := by unfold stashOk; infer_instance
def stashS (a0 a1 a2 a3 : Int) (xs : List S62) : Int := if stashOk a0 a1 a2 a3 xs then 0 else 8
theorem stash_eq (a0 a1 a2 a3 : Int) (xs : List S62) (hx : xs.length ≤ 40) : stash_Check.f 200 a0 a1 a2 a3 xs = some (stashS a0 a1 a2 a3 xs) := by
  unfold stash_Check.f stashS
  rw [slots_eq a0 a1 a2 a3 (by decide), Option.bind_some]
  unfold slotsS
  by_cases hl : levelOk a0 a1 a2 a3
  · rw [if_pos hl, if_pos rfl]
    have h := stash_l0 hl xs (by omega) _ 200 0 (-1) rfl (by omega)
    rw [List.drop_zero] at h
    refine h.trans ?_
    by_cases ho : okS a0 a1 a2 (-1) xs = true
    · rw [if_pos ho, if_pos (show stashOk a0 a1 a2 a3 xs from ⟨hl, ho⟩)]
    · rw [if_neg ho, if_neg (fun h : stashOk a0 a1 a2 a3 xs => ho h.2)]
  · rw [if_neg hl, if_neg (by decide), if_neg (fun h : stashOk a0 a1 a2 a3 xs => hl h.1)]
theorem ref_stash_eq (a0 a1 a2 a3 : Int) (xs : List S62) (w3 : (Lit.int .i64 a3).wf = true) (hx : xs.length ≤ 40) : ref16_Check.f 200 a0 a1 a2 a3 xs = some (stashS a0 a1 a2 a3 xs) := by
  unfold ref16_Check.f stashS
  rw [many_at a0 a1 a2 a3 w3 (by decide), Option.bind_some]
  by_cases hl : levelOk a0 a1 a2 a3
  · have h := ref_l0 (a0 := a0) (a1 := a1) (a3 := a3) hl.1 xs (by omega) _ 200 0 rfl (by omega)
    rw [List.drop_zero, show prevS xs 0 = -1 from rfl] at h
    have h' : ref16_May.f 200 a0 a1 a2 a3 xs = some (okS a0 a1 a2 (-1) xs) := h
    rw [if_neg (manyS_pos hl), h', Option.bind_some, ref16_Check.j0]
    cases ho : okS a0 a1 a2 (-1) xs with
    | true => rw [if_neg (by decide), if_pos (show stashOk a0 a1 a2 a3 xs from ⟨hl, ho⟩)]
    | false => rw [if_pos (by decide), if_neg (fun h : stashOk a0 a1 a2 a3 xs => absurd (ho.symm.trans h.2) (by decide))]
  · rw [if_pos (manyS_zero hl), ref16_Check.j0, if_pos rfl, if_neg (fun h : stashOk a0 a1 a2 a3 xs => hl h.1)]
theorem okS_mem {a0 a1 a2 : Int} : ∀ (xs : List S62) (last : Int), okS a0 a1 a2 last xs = true → ∀ x ∈ xs, mayS a0 a1 a2 x.f0 x.f1 x.f2.length
  | [], _, _, x, hx => by cases hx
  | y :: t, last, h, x, hx => by
    simp only [okS, Bool.and_eq_true, decide_eq_true_eq] at h
    rcases List.mem_cons.1 hx with rfl | hx
    · exact h.1.2
    · exact okS_mem t _ h.2 x hx

/-! ### the same -/
theorem same_l0 (xs : List S62) (hx : xs.length ≤ 1000000) : ∀ (d k i : Nat), xs.length - i = d → d < k → ref09_SameAll.l0 k xs xs i = some true := by
  intro d
  induction d with
  | zero =>
    intro k i hd hk
    obtain ⟨k, rfl⟩ : ∃ m, k = m + 1 := ⟨k - 1, by omega⟩
    rw [ref09_SameAll.l0, if_neg (by omega)]
  | succ d ih =>
    intro k i hd hk
    obtain ⟨k, rfl⟩ : ∃ m, k = m + 1 := ⟨k - 1, by omega⟩
    have hi : i < xs.length := by omega
    have hs : ref09_Same.f (xs[i]).f0 (xs[i]).f1 (xs[i]).f2 (xs[i]).f0 (xs[i]).f1 (xs[i]).f2 = some true := by
      unfold ref09_Same.f
      rw [if_pos rfl, if_pos rfl, same_self]
      rfl
    rw [ref09_SameAll.l0, if_pos (by omega), if_pos (by omega), if_pos (by omega), rd62 xs i hi, hs, Option.bind_some, if_pos rfl, wrap_next i (by omega)]
    exact ih k (i + 1) (by omega) (by omega)
theorem same_all (xs : List S62) (hx : xs.length ≤ 1000000) {k : Nat} (hk : xs.length < k) : ref09_SameAll.f k xs xs = some true := by
  unfold ref09_SameAll.f
  rw [if_pos rfl]
  exact same_l0 xs hx _ k 0 rfl (by omega)
theorem rows_l0 (X : List (List S62)) (hX : X.length ≤ 1000) (L : Nat) (hL : L ≤ 1000) (hr : ∀ r ∈ X, r.length ≤ L) : ∀ (d k i : Nat), X.length - i = d → L + d + 1 < k → ref17_SameRows.l0 k X X i = some true := by
  intro d
  induction d with
  | zero =>
    intro k i hd hk
    obtain ⟨k, rfl⟩ : ∃ m, k = m + 1 := ⟨k - 1, by omega⟩
    rw [ref17_SameRows.l0, if_neg (by omega)]
  | succ d ih =>
    intro k i hd hk
    obtain ⟨k, rfl⟩ : ∃ m, k = m + 1 := ⟨k - 1, by omega⟩
    have hi : i < X.length := by omega
    have hli := hr X[i] (List.getElem_mem hi)
    rw [ref17_SameRows.l0, if_pos (by omega), if_pos (by omega), if_pos (by omega), rdL X i hi, same_all X[i] (by omega) (by omega), Option.bind_some, if_pos rfl, wrap_next i (by omega)]
    exact ih k (i + 1) (by omega) (by omega)
theorem same_rows (X : List (List S62)) (hX : X.length ≤ 100) (hr : ∀ r ∈ X, r.length ≤ 40) : ref17_SameRows.f 200 X X = some true := by
  unfold ref17_SameRows.f
  rw [if_pos rfl]
  exact rows_l0 X (by omega) 40 (by omega) hr _ 200 0 rfl (by omega)
/-! ### a stash of one's own -/
theorem twin_l0 (xs : List S62) (hx : xs.length ≤ 1000000) (hb : ∀ x ∈ xs, x.f2.length < 140737488355328) : ∀ (d k i : Nat), xs.length - i = d → i ≤ xs.length → d < k → ref09_TwinAll.l0 k xs (xs.take i) i = some xs := by
  intro d
  induction d with
  | zero =>
    intro k i hd hi hk
    obtain ⟨k, rfl⟩ : ∃ m, k = m + 1 := ⟨k - 1, by omega⟩
    rw [ref09_TwinAll.l0, if_neg (by omega), List.take_of_length_le (by omega)]
  | succ d ih =>
    intro k i hd hle hk
    obtain ⟨k, rfl⟩ : ∃ m, k = m + 1 := ⟨k - 1, by omega⟩
    have hi : i < xs.length := by omega
    have hbi := hb xs[i] (List.getElem_mem hi)
    have hs : ref09_Twin.f (xs[i]).f0 (xs[i]).f1 (xs[i]).f2 = some ((xs[i]).f0, (xs[i]).f1, (xs[i]).f2) := by
      unfold ref09_Twin.f
      simp only [Option.bind_some, List.length_nil, Nat.zero_add, List.nil_append]
      rw [if_pos hbi]
    have hl : (xs.take i).length < 3518437208883 := by
      rw [List.length_take]
      omega
    rw [ref09_TwinAll.l0, if_pos (by omega), if_pos (by omega), rd62 xs i hi, hs, Option.bind_some, if_pos hl, wrap_next i (by omega)]
    have := ih k (i + 1) (by omega) (by omega) (by omega)
    rw [List.take_succ_eq_append_getElem hi] at this
    exact this
theorem twin_all (xs : List S62) (hx : xs.length ≤ 40) (hb : ∀ x ∈ xs, x.f2.length < 140737488355328) : ref09_TwinAll.f 200 xs = some xs := by
  unfold ref09_TwinAll.f
  have := twin_l0 xs (by omega) hb _ 200 0 rfl (by omega) (by omega)
  rw [List.take_zero] at this
  exact this
/-! ### too great -/
theorem great_l0 (xs : List S62) : ∀ (d k i : Nat) (n : Int), 200 - i = d → i ≤ 200 → 2 * d + 2 ≤ k → ∃ b, ref09_Great.l0 k xs 40 n i = some b ∧ (b = false → xs.length ≤ 40) := by
  have hend : ∀ (k : Nat) (n i : Int), ∃ b, ref09_Great.j1 (k + 1) xs 40 n i false = some b ∧ (b = false → xs.length ≤ 40) := fun k n i => by
    rw [ref09_Great.j1, if_neg (by decide)]
    by_cases h : (xs.length : Int) > 40
    · rw [if_pos h]
      exact ⟨true, rfl, fun h => by cases h⟩
    · rw [if_neg h]
      exact ⟨_, rfl, fun _ => by omega⟩
  intro d
  induction d with
  | zero =>
    intro k i n hd hi hk
    obtain ⟨k, rfl⟩ : ∃ m, k = m + 1 + 1 := ⟨k - 2, by omega⟩
    rw [ref09_Great.l0]
    split
    · rw [decide_eq_false (by omega)]
      exact hend k n i
    · exact hend k n i
  | succ d ih =>
    intro k i n hd hi hk
    obtain ⟨k, rfl⟩ : ∃ m, k = m + 1 + 1 := ⟨k - 2, by omega⟩
    rw [ref09_Great.l0]
    split
    · next hlt =>
      rw [decide_eq_true (by omega), ref09_Great.j1, if_pos rfl, if_pos (by omega), if_pos hlt, wrap_next i (by omega)]
      exact ih k (i + 1) _ (by omega) (by omega) (by omega)
    · exact hend k n i
theorem great_eq (xs : List S62) : ∃ b, ref09_Great.f 500 xs 40 = some b ∧ (b = false → xs.length ≤ 40) := great_l0 xs 200 500 0 0 rfl (by omega) (by omega)
/-! ### rows -/
theorem partS_room {α : Type} (many : Nat) (fits : Nat → α → Bool) : ∀ (s : Nat) (D : List α), (∀ r ∈ (partS many fits s D).1, r.length ≤ many) ∧ (partS many fits s D).2.length ≤ D.length
  | 0, D => ⟨fun r hr => by simp [partS] at hr, Nat.le_refl _⟩
  | s + 1, D => by
    have h1 := goP_room many (fits s) D [] [] (Nat.zero_le _)
    have h2 := goP_length many (fits s) D [] []
    obtain ⟨h3, h4⟩ := partS_room many fits s (goP many (fits s) [] [] D).2
    simp only [List.length_nil] at h2
    refine ⟨fun r hr => ?_, ?_⟩
    · simp only [partS, List.mem_append, List.mem_singleton] at hr
      rcases hr with hr | rfl
      · exact h3 r hr
      · exact h1
    · simp only [partS]
      omega
end Go.Proofs.Ytknmokpnkcckeaa

namespace Go.Proofs.Ytknmokpnkcckeaa
open Go.RowKit Go.Proofs.YtknmokpnkcckeaaW.PrintWords Go.Proofs.YtknmokpnkcckeaaW.PrintLast Go.Proofs.YtknmokpnkcckeaaW.PrintMore Go.Proofs.Ytknmokpnkcckeaa.PAll
set_option linter.unusedVariables false
set_option linter.unusedSimpArgs false

theorem fills_all (l0 l1 l2 l3 leaf : Int) (A : Option Addr) (c : Nat) (xs : List S62) (w : World) (w3 : (Lit.int .i64 l3).wf = true) (hb : ∀ x ∈ xs, x.f2.length < 140737488355328) (hr : Kd.C k62 w A xs.length xs) (hc : xs.length ≤ c) :
    Calls Try.prog 3 #[.agg #[.int .i64 l0, .int .i64 l1, .int .i64 l2, .int .i64 l3], .slice A xs.length c, .int .i64 leaf] w fun e w' => e = .returned (.bool true) ∧ Below w.heap.size w w' := by
  obtain ⟨b, hg, hlen⟩ := great_eq xs
  cases b with
  | true => exact fills_calls 500 200 200 200 200 l0 l1 l2 l3 leaf 0 A c xs [] [] true w hr hc hg (fun h => by cases h)
  | false =>
    have h40 := hlen rfl
    have ht := twin_all xs h40 hb
    have hsx := same_all xs (by omega) (show xs.length < 200 by omega)
    have hse := stash_eq l0 l1 l2 l3 xs h40
    have hre := ref_stash_eq l0 l1 l2 l3 xs w3 h40
    unfold stashS at hse hre
    by_cases hok : stashOk l0 l1 l2 l3 xs
    · rw [if_pos hok] at hse hre
      have hl := hok.1
      have hh := hl.1
      obtain ⟨hh1, hh6⟩ := (isHigh_iff l2).1 hh
      have hmem := okS_mem xs (-1) hok.2
      have hmay : ref07_Many.f 20 l2 = some (two l2) := many_eq hh
      by_cases hleaf : isLeaf l2 leaf = true
      · obtain ⟨hi, rfl⟩ := Int.eq_ofNat_of_zero_le (show 0 ≤ l2 by omega)
        have hi6 : hi ≤ 6 := by omega
        have hmp := manyS_pos hl
        obtain ⟨many, hmany⟩ := Int.eq_ofNat_of_zero_le (show 0 ≤ manyS l0 l1 hi l3 by omega)
        have hm4 : many ≤ 4 := by
          have hm := hmany
          unfold manyS at hm
          rw [if_pos hl] at hm
          have hl' := hl
          unfold levelOk at hl'
          obtain ⟨q, e, q1, q4, ed⟩ := quot_of hl'.2.2.2.2.1 hl'.2.2.2.2.2.2.1 hl'.2.2.2.2.2.2.2.1 hl'.2.2.2.2.2.2.2.2
          omega
        have hslots : slot_Slots.f 20 l0 l1 hi l3 = some ((many : Int), 0) := by
          rw [slots_eq20]
          unfold slotsS
          rw [if_pos hl]
          unfold manyS at hmany
          rw [if_pos hl] at hmany
          rw [hmany]
        have hrmany : ref09_Many.f 20 l0 l1 hi l3 = some (many : Int) := by rw [manyS_eq l0 l1 hi l3 w3, hmany]
        have hpath : geo_Path.f hi leaf = some ((wayAll hi leaf).map (·.2), 0) := by
          unfold geo_Path.f
          rw [hh, hleaf]
          rfl
        obtain ⟨lf0, lf1⟩ := (isLeaf_iff hi leaf).1 hleaf
        have hdeep : ∀ x ∈ xs, ref07_Both.f 19 hi x.f1 leaf = some (deepOf hi x.f1 leaf) ∧ geo_Deep.f 20 hi x.f1 leaf = some (deepOf hi x.f1 leaf, 0) := fun x hx => by
          have hm := hmem x hx
          unfold mayS at hm
          exact deep_leaves hh ((isLeaf_iff hi x.f1).2 ⟨hm.2.2.1, hm.2.2.2.1⟩) hleaf
        have hbytes : ∀ x ∈ xs, x.f2.length ≤ 100000 := fun x hx => by
          have hm := hmem x hx
          unfold mayS at hm
          have hl' := hl
          unfold levelOk at hl'
          omega
        obtain ⟨hroom, hrl⟩ := partS_room many (fun t (x : S62) => decide ((t : Int) ≤ deepOf hi x.f1 leaf)) (hi + 1) xs
        have hpl := partS_length many (fun t (x : S62) => decide ((t : Int) ≤ deepOf hi x.f1 leaf)) (hi + 1) xs
        exact fills_calls 500 200 200 200 200 l0 l1 hi l3 leaf 0 A c xs (partS many (fun t (x : S62) => decide ((t : Int) ≤ deepOf hi x.f1 leaf)) (hi + 1) xs).2 (partS many (fun t (x : S62) => decide ((t : Int) ≤ deepOf hi x.f1 leaf)) (hi + 1) xs).1 false w hr hc hg
          (fun _ => ⟨ht, same_rows _ (by omega) (fun r hr => by have := hroom r hr; omega), same_all _ (by omega) (by omega), hsx, by omega, by omega,
            fun W A c h1 h2 => (callsIn_wide.1 (fillB_good 200 20 20 l0 l1 l3 leaf 0 hi many _ A c xs (fun x => deepOf hi x.f1 leaf) W h1 h2 hse hpath hslots (by omega) hbytes hi6 (by omega) (fun x hx => ⟨0, (hdeep x hx).2⟩))).mono (fun e w' h => fillR_good hi6 (by omega) hbytes h),
            fun W A c h1 h2 => (refFill_good 200 20 200 20 19 l0 l1 l3 leaf (two hi) hi many A c xs (fun t (x : S62) => decide ((t : Int) ≤ deepOf hi x.f1 leaf)) W h1 h2 hre hmay lf0 lf1 (by omega) hi6 ht hrmany (fun x hx t ht => by
              unfold ref17_May.f
              rw [(hdeep x hx).1]
              rfl)).mono (fun e w' h => refR_good hpl h)⟩)
      · have hpath : geo_Path.f l2 leaf = some ([], 2) := by
          unfold geo_Path.f
          rw [Bool.eq_false_iff.2 hleaf, Bool.and_false]
          rfl
        have hout : leaf < 0 ∨ two l2 ≤ leaf := by
          by_cases h1 : leaf < 0
          · exact .inl h1
          · by_cases h2 : two l2 ≤ leaf
            · exact .inr h2
            · exact absurd ((isLeaf_iff l2 leaf).2 ⟨by omega, by omega⟩) hleaf
        exact fills_calls 500 200 200 200 200 l0 l1 l2 l3 leaf 2 A c xs [] [] false w hr hc hg
          (fun _ => ⟨ht, same_rows [] (by simp) (fun r hr => by cases hr), same_all [] (by simp) (by simp), hsx, by simp, by simp,
            fun W A c h1 h2 => (fillB_leaf 200 l0 l1 l2 l3 leaf [] 2 A c xs W h1 h2 hse hpath (by decide)).mono (fun e w' h => fillR_nil h),
            fun W A c h1 h2 => (refFill_leaf 200 20 l0 l1 l2 l3 leaf (two l2) A c xs W h1 h2 hre hmay hout).mono (fun e w' h => refR_nil h)⟩)
    · rw [if_neg hok] at hse hre
      exact fills_calls 500 200 200 200 200 l0 l1 l2 l3 leaf 8 A c xs [] [] false w hr hc hg
        (fun _ => ⟨ht, same_rows [] (by simp) (fun r hr => by cases hr), same_all [] (by simp) (by simp), hsx, by simp, by simp,
          fun W A c h1 h2 => (fillB_bad 200 l0 l1 l2 l3 leaf 8 A c xs W h1 h2 hse (by decide)).mono (fun e w' h => fillR_nil h),
          fun W A c h1 h2 => (refFill_bad 200 l0 l1 l2 l3 leaf 8 A c xs W h1 h2 hre (by decide)).mono (fun e w' h => refR_nil h)⟩)
end Go.Proofs.Ytknmokpnkcckeaa
