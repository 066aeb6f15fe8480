/-
Levels, blocks that may be: plain facts of the program's functions and of the document's.
-/
import Derived.Test.YtknmokpnkcckeaaGeoLow
import Derived.Test.YtknmokpnkcckeaaPAll31
import Derived.Test.YtknmokpnkcckeaaPAll14
import Derived.Test.YtknmokpnkcckeaaSpoilB
namespace Go.Proofs.Ytknmokpnkcckeaa
open Go.RowKit Go.Proofs.YtknmokpnkcckeaaW.PrintWords Go.Proofs.YtknmokpnkcckeaaW.PrintLast Go.Proofs.YtknmokpnkcckeaaW.PrintMore Go.Proofs.Ytknmokpnkcckeaa.PAll
set_option linter.unusedVariables false
set_option linter.unusedSimpArgs false

theorem high_bounds {high : Int} (h : isHigh high = true) : 2 ≤ two high ∧ two high ≤ 64 := by
  obtain ⟨v1, v2, v3, v4, v5, v6⟩ := two_vals
  rcases high_cases h with rfl | rfl | rfl | rfl | rfl | rfl <;> omega
def levelOk (a0 a1 a2 a3 : Int) : Prop := isHigh a2 = true ∧ 1 ≤ a0 ∧ a0 ≤ 64 ∧ a0 ≤ two a2 ∧ 1 ≤ a1 ∧ a1 ≤ 32 ∧ 8 + a1 ≤ wrap64 (a3 - 64) ∧ wrap64 (a3 - 64) ≤ 4 * (8 + a1) ∧ wrap64 (a3 - 64) % (8 + a1) = 0
instance (a0 a1 a2 a3 : Int) : Decidable (levelOk a0 a1 a2 a3) := by unfold levelOk; infer_instance
def slotsS (a0 a1 a2 a3 : Int) : Int × Int := if levelOk a0 a1 a2 a3 then (wrap64 (a3 - 64) / (8 + a1), 0) else (0, 8)
theorem slots_eq20 (a0 a1 a2 a3 : Int) : slot_Slots.f 20 a0 a1 a2 a3 = some (slotsS a0 a1 a2 a3) := by
  unfold slot_Slots.f slotsS
  rw [leaves_eq, Option.bind_some]
  by_cases hh : isHigh a2 = true
  · have hb := high_bounds hh
    rw [if_pos hh]
    simp only [if_true]
    have hm : mn 64 (two a2) = two a2 := by unfold mn; omega
    rw [hm]
    by_cases h1 : a0 < 1
    · rw [if_pos h1, if_neg (by unfold levelOk; omega)]; rfl
    · rw [if_neg h1]
      by_cases h2 : two a2 < a0
      · rw [if_pos h2, if_neg (by unfold levelOk; omega)]; rfl
      · rw [if_neg h2]
        by_cases h3 : a1 < 1
        · rw [if_pos h3, if_neg (by unfold levelOk; omega)]; rfl
        · rw [if_neg h3, slot_Slots.j0]
          by_cases h4 : 32 < a1
          · rw [if_pos (by simpa using h4), if_neg (by unfold levelOk; omega)]
          · have e1 : wrap64 (8 + a1) = 8 + a1 := by unfold wrap64; omega
            have e2 : wrap64 (4 * (8 + a1)) = 4 * (8 + a1) := by unfold wrap64; omega
            rw [if_neg (by simpa using h4), e1, e2]
            by_cases h5 : wrap64 (a3 - 64) < 8 + a1
            · rw [if_pos h5, if_neg (by unfold levelOk; omega)]; rfl
            · rw [if_neg h5]
              by_cases h6 : 4 * (8 + a1) < wrap64 (a3 - 64)
              · rw [if_pos h6, if_neg (by unfold levelOk; omega)]; rfl
              · rw [if_neg h6, if_neg (by omega), slot_Slots.j1]
                have hmod : Int.tmod (wrap64 (a3 - 64)) (8 + a1) = wrap64 (a3 - 64) % (8 + a1) := Int.tmod_eq_emod_of_nonneg (by omega)
                have hdiv : Int.tdiv (wrap64 (a3 - 64)) (8 + a1) = wrap64 (a3 - 64) / (8 + a1) := Int.tdiv_eq_ediv_of_nonneg (by omega)
                have hpos : 0 ≤ wrap64 (a3 - 64) % (8 + a1) := Int.emod_nonneg _ (by omega)
                rw [hmod]
                by_cases h7 : wrap64 (a3 - 64) % (8 + a1) = 0
                · have hq : wrap64 (wrap64 (a3 - 64) / (8 + a1)) = wrap64 (a3 - 64) / (8 + a1) := by
                    have q0 : 0 ≤ wrap64 (a3 - 64) / (8 + a1) := Int.ediv_nonneg (by omega) (by omega)
                    have q1 : wrap64 (a3 - 64) / (8 + a1) ≤ wrap64 (a3 - 64) := Int.ediv_le_self _ (by omega)
                    generalize wrap64 (a3 - 64) / (8 + a1) = q at q0 q1
                    have : wrap64 (a3 - 64) ≤ 160 := by omega
                    unfold wrap64 at *; omega
                  rw [if_neg (by simp [h7]), if_neg (by omega), hdiv, hq, if_pos (by unfold levelOk; exact ⟨hh, by omega, by omega, by omega, by omega, by omega, by omega, by omega, h7⟩)]
                · rw [if_pos (by simp; omega), if_neg (by unfold levelOk; intro h; exact h7 h.2.2.2.2.2.2.2.2)]
  · rw [if_neg hh, if_neg (show ¬ levelOk a0 a1 a2 a3 from fun h => hh h.1)]
    rfl
def mayS (a0 a1 a2 id leaf : Int) (len : Nat) : Prop := 0 ≤ id ∧ id < a0 ∧ 0 ≤ leaf ∧ leaf < two a2 ∧ (len : Int) = a1
instance (a0 a1 a2 id leaf : Int) (len : Nat) : Decidable (mayS a0 a1 a2 id leaf len) := by unfold mayS; infer_instance
def checkS (a0 a1 a2 a3 id leaf : Int) (len : Nat) : Int := if levelOk a0 a1 a2 a3 ∧ mayS a0 a1 a2 id leaf len then 0 else 8
theorem checkS_eq (a0 a1 a2 a3 id leaf : Int) (d : List Int) : slot_Check.f 20 a0 a1 a2 a3 id leaf d = some (checkS a0 a1 a2 a3 id leaf d.length) := by
  unfold slot_Check.f checkS
  rw [slots_eq20, Option.bind_some]
  unfold slotsS
  by_cases hl : levelOk a0 a1 a2 a3
  · have hh := hl.1
    rw [if_pos hl]
    simp only [if_true]
    rw [leaves_eq, Option.bind_some, if_pos hh]
    simp only
    by_cases h1 : id < 0
    · rw [if_pos h1, if_neg (by unfold mayS; omega)]; rfl
    · rw [if_neg h1]
      by_cases h2 : a0 ≤ id
      · rw [if_pos h2, if_neg (by unfold mayS; omega)]; rfl
      · rw [if_neg h2]
        by_cases h3 : leaf < 0
        · rw [if_pos h3, if_neg (by unfold mayS; omega)]; rfl
        · rw [if_neg h3]
          by_cases h4 : two a2 ≤ leaf
          · rw [if_pos h4, if_neg (by unfold mayS; omega)]; rfl
          · rw [if_neg h4, slot_Check.j0]
            by_cases h5 : (d.length : Int) = a1
            · rw [if_neg (by simpa using h5), if_pos ⟨hl, by unfold mayS; omega⟩]
            · rw [if_pos (by simpa using h5), if_neg (by unfold mayS; omega)]
  · rw [if_neg hl, if_neg (show ¬ (levelOk a0 a1 a2 a3 ∧ mayS a0 a1 a2 id leaf d.length) from fun h => hl h.1)]
    rfl
theorem checkS_zero {a0 a1 a2 a3 id leaf : Int} {len : Nat} : checkS a0 a1 a2 a3 id leaf len = 0 ↔ levelOk a0 a1 a2 a3 ∧ mayS a0 a1 a2 id leaf len := by
  unfold checkS
  by_cases h : levelOk a0 a1 a2 a3 ∧ mayS a0 a1 a2 id leaf len
  · rw [if_pos h]; simp [h]
  · rw [if_neg h]; simp [h]
def fitR (s w : Int) : Int := if w = 1 * (8 + s) + 64 then 1 else if w = 2 * (8 + s) + 64 then 2 else if w = 3 * (8 + s) + 64 then 3 else if w = 4 * (8 + s) + 64 then 4 else 0
theorem many_l0 (a0 a1 a2 a3 : Int) (h1 : 1 ≤ a1) (h4 : a1 ≤ 32) (k : Nat) : ref09_Many.l0 (k + 5) 1 a0 a1 a2 a3 = some (fitR a1 a3) := by
  have e1 : wrap64 (8 + a1) = 8 + a1 := by unfold wrap64; omega
  have w1 : wrap64 (wrap64 (1 * (8 + a1)) + 64) = 1 * (8 + a1) + 64 := by unfold wrap64; omega
  have w2 : wrap64 (wrap64 (2 * (8 + a1)) + 64) = 2 * (8 + a1) + 64 := by unfold wrap64; omega
  have w3 : wrap64 (wrap64 (3 * (8 + a1)) + 64) = 3 * (8 + a1) + 64 := by unfold wrap64; omega
  have w4 : wrap64 (wrap64 (4 * (8 + a1)) + 64) = 4 * (8 + a1) + 64 := by unfold wrap64; omega
  have n1 : wrap64 (1 + 1) = 2 := by unfold wrap64; omega
  have n2 : wrap64 (2 + 1) = 3 := by unfold wrap64; omega
  have n3 : wrap64 (3 + 1) = 4 := by unfold wrap64; omega
  have n4 : wrap64 (4 + 1) = 5 := by unfold wrap64; omega
  unfold fitR
  rw [ref09_Many.l0, if_pos (by decide), e1, w1]
  by_cases c1 : a3 = 1 * (8 + a1) + 64
  · rw [if_pos c1, if_pos c1]
  · rw [if_neg c1, if_neg c1, n1, ref09_Many.l0, if_pos (by decide), e1, w2]
    by_cases c2 : a3 = 2 * (8 + a1) + 64
    · rw [if_pos c2, if_pos c2]
    · rw [if_neg c2, if_neg c2, n2, ref09_Many.l0, if_pos (by decide), e1, w3]
      by_cases c3 : a3 = 3 * (8 + a1) + 64
      · rw [if_pos c3, if_pos c3]
      · rw [if_neg c3, if_neg c3, n3, ref09_Many.l0, if_pos (by decide), e1, w4]
        by_cases c4 : a3 = 4 * (8 + a1) + 64
        · rw [if_pos c4, if_pos c4]
        · rw [if_neg c4, if_neg c4, n4, ref09_Many.l0, if_neg (by decide)]
theorem fit_of {s w q : Int} (h1 : 1 ≤ s) (hw : w - 64 = (8 + s) * q) (q1 : 1 ≤ q) (q4 : q ≤ 4) : fitR s w = q := by
  have hc : q = 1 ∨ q = 2 ∨ q = 3 ∨ q = 4 := by omega
  unfold fitR
  rcases hc with rfl | rfl | rfl | rfl
  · rw [if_pos (by omega)]
  · rw [if_neg (by omega), if_pos (by omega)]
  · rw [if_neg (by omega), if_neg (by omega), if_pos (by omega)]
  · rw [if_neg (by omega), if_neg (by omega), if_neg (by omega), if_pos (by omega)]
theorem quot_of {s v : Int} (h1 : 1 ≤ s) (hlo : 8 + s ≤ v) (hhi : v ≤ 4 * (8 + s)) (hm : v % (8 + s) = 0) : ∃ q, v = (8 + s) * q ∧ 1 ≤ q ∧ q ≤ 4 ∧ v / (8 + s) = q := by
  have hp : 0 < 8 + s := by omega
  have he : (8 + s) * (v / (8 + s)) = v := Int.mul_ediv_cancel' (Int.dvd_of_emod_eq_zero hm)
  refine ⟨v / (8 + s), he.symm, ?_, ?_, rfl⟩
  · exact (Int.le_ediv_iff_mul_le hp).2 (by omega)
  · have := (Int.ediv_lt_iff_lt_mul (a := v) (b := 5) hp).2 (by omega)
    omega
def manyS (a0 a1 a2 a3 : Int) : Int := if levelOk a0 a1 a2 a3 then wrap64 (a3 - 64) / (8 + a1) else 0
theorem ok_of {a0 a1 a2 a3 q : Int} (w3 : (Lit.int .i64 a3).wf = true) (hh : isHigh a2 = true) (c1 : ¬ a0 < 1) (c2 : ¬ a0 > 64) (c3 : ¬ a1 < 1) (c4 : ¬ a1 > 32) (c5 : ¬ two a2 < a0) (q1 : 1 ≤ q) (q4 : q ≤ 4) (he : a3 = q * (8 + a1) + 64) : levelOk a0 a1 a2 a3 := by
  have hc : q = 1 ∨ q = 2 ∨ q = 3 ∨ q = 4 := by omega
  have e : wrap64 (a3 - 64) = q * (8 + a1) := by rcases hc with rfl | rfl | rfl | rfl <;> (unfold wrap64; omega)
  unfold levelOk
  rw [e]
  refine ⟨hh, by omega, by omega, by omega, by omega, by omega, ?_, ?_, Int.mul_emod_left ..⟩
  · rcases hc with rfl | rfl | rfl | rfl <;> omega
  · rcases hc with rfl | rfl | rfl | rfl <;> omega
theorem manyS_eq (a0 a1 a2 a3 : Int) (w3 : (Lit.int .i64 a3).wf = true) : ref09_Many.f 20 a0 a1 a2 a3 = some (manyS a0 a1 a2 a3) := by
  unfold ref09_Many.f manyS
  have hj : ∀ k, ref09_Many.j0 (k + 1) true a0 a1 a2 a3 = some 0 := fun k => by rw [ref09_Many.j0, if_pos rfl]
  have hb3 := w3
  rw [Lit.wf, Bool.and_eq_true, decide_eq_true_eq, decide_eq_true_eq] at hb3
  have hlo : -9223372036854775808 ≤ a3 := hb3.1
  have hhi : a3 ≤ 9223372036854775807 := hb3.2
  by_cases hl : levelOk a0 a1 a2 a3
  · have hl' := hl
    unfold levelOk at hl'
    obtain ⟨h0, h1, h2, h3, h4, h5, h6, h7, h8⟩ := hl'
    rw [if_neg (by omega), if_neg (by omega), if_neg (by omega), if_neg (by omega), may_eq, Option.bind_some, if_pos h0, many_eq h0, Option.bind_some, decide_eq_false (by omega), if_pos hl, ref09_Many.j0, if_neg (by decide), many_l0 a0 a1 a2 a3 h4 h5 14]
    obtain ⟨q, e, q1, q4, ed⟩ := quot_of h4 h6 h7 h8
    have ew : wrap64 (a3 - 64) = a3 - 64 := by
      have : 0 < wrap64 (a3 - 64) ∧ wrap64 (a3 - 64) ≤ 1000 := by omega
      unfold wrap64 at this ⊢
      omega
    rw [ed, fit_of h4 (by rw [← ew]; exact e) q1 q4]
  · rw [if_neg hl]
    by_cases c1 : a0 < 1
    · rw [if_pos c1, hj]
    by_cases c2 : a0 > 64
    · rw [if_neg c1, if_pos c2, hj]
    by_cases c3 : a1 < 1
    · rw [if_neg c1, if_neg c2, if_pos c3, hj]
    by_cases c4 : a1 > 32
    · rw [if_neg c1, if_neg c2, if_neg c3, if_pos c4, hj]
    rw [if_neg c1, if_neg c2, if_neg c3, if_neg c4, may_eq, Option.bind_some]
    by_cases h0 : isHigh a2 = true
    · rw [if_pos h0, many_eq h0, Option.bind_some]
      by_cases c5 : two a2 < a0
      · rw [decide_eq_true c5, hj]
      · rw [decide_eq_false c5, ref09_Many.j0, if_neg (by decide), many_l0 a0 a1 a2 a3 (by omega) (by omega) 14]
        have e : fitR a1 a3 = 0 := by
          unfold fitR
          rw [if_neg (fun he => hl (ok_of w3 h0 c1 c2 c3 c4 c5 (by decide) (by decide) he)), if_neg (fun he => hl (ok_of w3 h0 c1 c2 c3 c4 c5 (by decide) (by decide) he)),
            if_neg (fun he => hl (ok_of w3 h0 c1 c2 c3 c4 c5 (by decide) (by decide) he)), if_neg (fun he => hl (ok_of w3 h0 c1 c2 c3 c4 c5 (by decide) (by decide) he))]
        rw [e]
    · rw [if_neg h0, hj]
theorem manyS_pos {a0 a1 a2 a3 : Int} (hl : levelOk a0 a1 a2 a3) : ¬ manyS a0 a1 a2 a3 < 1 := by
  unfold manyS
  rw [if_pos hl]
  unfold levelOk at hl
  obtain ⟨q, e, q1, q4, ed⟩ := quot_of hl.2.2.2.2.1 hl.2.2.2.2.2.2.1 hl.2.2.2.2.2.2.2.1 hl.2.2.2.2.2.2.2.2
  omega
theorem manyS_zero {a0 a1 a2 a3 : Int} (hl : ¬ levelOk a0 a1 a2 a3) : manyS a0 a1 a2 a3 < 1 := by
  unfold manyS
  rw [if_neg hl]
  decide
theorem refMay_eq {a0 a1 a2 a3 id leaf : Int} (d : List Int) (hh : isHigh a2 = true) : ref09_May.f 20 a0 a1 a2 a3 id leaf d = some (decide (mayS a0 a1 a2 id leaf d.length)) := by
  unfold ref09_May.f
  by_cases c1 : id ≥ 0
  · rw [if_pos c1]
    by_cases c2 : id < a0
    · rw [if_pos c2]
      by_cases c3 : leaf ≥ 0
      · rw [if_pos c3, many_eq hh, Option.bind_some]
        by_cases c4 : leaf < two a2
        · rw [if_pos c4]
          by_cases c5 : (d.length : Int) = a1
          · rw [decide_eq_true (show mayS a0 a1 a2 id leaf d.length from ⟨c1, c2, c3, c4, c5⟩)]; simp [c5]
          · rw [decide_eq_false (fun h : mayS a0 a1 a2 id leaf d.length => c5 h.2.2.2.2)]; simp [c5]
        · rw [if_neg c4, decide_eq_false (fun h : mayS a0 a1 a2 id leaf d.length => c4 h.2.2.2.1)]
      · rw [if_neg c3, decide_eq_false (fun h : mayS a0 a1 a2 id leaf d.length => c3 h.2.2.1)]
    · rw [if_neg c2, decide_eq_false (fun h : mayS a0 a1 a2 id leaf d.length => c2 h.2.1)]
  · rw [if_neg c1, decide_eq_false (fun h : mayS a0 a1 a2 id leaf d.length => c1 h.1)]
end Go.Proofs.Ytknmokpnkcckeaa
