/-
Levels, blocks that may be: plain facts of the program's functions and of the document's.
-/
import Derived.Test.YtknmokpnkcckeaaGeoLow
import Derived.Test.YtknmokpnkcckeaaPAll31
import Derived.Test.YtknmokpnkcckeaaPAll14
import Derived.Test.YtknmokpnkcckeaaSpoilB
namespace Go.Proofs.Ytknmokpnkcckeaa
open Go.RowKit Go.Proofs.YtknmokpnkcckeaaW.PrintWords Go.Proofs.YtknmokpnkcckeaaW.PrintLast Go.Proofs.YtknmokpnkcckeaaW.PrintMore Go.Proofs.Ytknmokpnkcckeaa.PAll
set_option linter.unusedVariables false
set_option linter.unusedSimpArgs false

theorem high_bounds {high : Int} (h : isHigh high = true) : 2 ≤ two high ∧ two high ≤ 64 := by
  obtain ⟨v1, v2, v3, v4, v5, v6⟩ := two_vals
  rcases high_cases h with rfl | rfl | rfl | rfl | rfl | rfl <;> omega
def levelOk (a0 a1 a2 a3 : Int) : Prop := isHigh a2 = true ∧ 1 ≤ a0 ∧ a0 ≤ 64 ∧ a0 ≤ two a2 ∧ 1 ≤ a1 ∧ a1 ≤ 32 ∧ 8 + a1 ≤ wrap64 (a3 - 64) ∧ wrap64 (a3 - 64) ≤ 4 * (8 + a1) ∧ wrap64 (a3 - 64) % (8 + a1) = 0
instance (a0 a1 a2 a3 : Int) : Decidable (levelOk a0 a1 a2 a3) := by unfold levelOk; infer_instance
def slotsS (a0 a1 a2 a3 : Int) : Int × Int := if levelOk a0 a1 a2 a3 then (wrap64 (a3 - 64) / (8 + a1), 0) else (0, 8)
theorem slots_eq20 (a0 a1 a2 a3 : Int) : slot_Slots.f 20 a0 a1 a2 a3 = some (slotsS a0 a1 a2 a3) := by
  unfold slot_Slots.f slotsS
  rw [leaves_eq, Option.bind_some]
  by_cases hh : isHigh a2 = true
  · have hb := high_bounds hh
    rw [if_pos hh]
    simp only [if_true]
    have hm : mn 64 (two a2) = two a2 := by unfold mn; omega
    rw [hm]
    by_cases h1 : a0 < 1
    · rw [if_pos h1, if_neg (by unfold levelOk; omega)]; rfl
    · rw [if_neg h1]
      by_cases h2 : two a2 < a0
      · rw [if_pos h2, if_neg (by unfold levelOk; omega)]; rfl
      · rw [if_neg h2]
        by_cases h3 : a1 < 1
        · rw [if_pos h3, if_neg (by unfold levelOk; omega)]; rfl
        · rw [if_neg h3, slot_Slots.j0]
          by_cases h4 : 32 < a1
          · rw [if_pos (by simpa using h4), if_neg (by unfold levelOk; omega)]
          · have e1 : wrap64 (8 + a1) = 8 + a1 := by unfold wrap64; omega
            have e2 : wrap64 (4 * (8 + a1)) = 4 * (8 + a1) := by unfold wrap64; omega
            rw [if_neg (by simpa using h4), e1, e2]
            by_cases h5 : wrap64 (a3 - 64) < 8 + a1
            · rw [if_pos h5, if_neg (by unfold levelOk; omega)]; rfl
            · rw [if_neg h5]
              by_cases h6 : 4 * (8 + a1) < wrap64 (a3 - 64)
              · rw [if_pos h6, if_neg (by unfold levelOk; omega)]; rfl
              · rw [if_neg h6, if_neg (by omega), slot_Slots.j1]
                have hmod : Int.tmod (wrap64 (a3 - 64)) (8 + a1) = wrap64 (a3 - 64) % (8 + a1) := Int.tmod_eq_emod_of_nonneg (by omega)
                have hdiv : Int.tdiv (wrap64 (a3 - 64)) (8 + a1) = wrap64 (a3 - 64) / (8 + a1) := Int.tdiv_eq_ediv_of_nonneg (by omega)
                have hpos : 0 ≤ wrap64 (a3 - 64) % (8 + a1) := Int.emod_nonneg _ (by omega)
                rw [hmod]
                by_cases h7 : wrap64 (a3 - 64) % (8 + a1) = 0
                · have hq : wrap64 (wrap64 (a3 - 64) / (8 + a1)) = wrap64 (a3 - 64) / (8 + a1) := by
                    have q0 : 0 ≤ wrap64 (a3 - 64) / (8 + a1) := Int.ediv_nonneg (by omega) (by omega)
                    have q1 : wrap64 (a3 - 64) / (8 + a1) ≤ wrap64 (a3 - 64) := Int.ediv_le_self _ (by omega)
                    generalize wrap64 (a3 - 64) / (8 + a1) = q at q0 q1
                    have : wrap64 (a3 - 64) ≤ 160 := by omega
                    unfold wrap64 at *; omega
                  rw [if_neg (by simp [h7]), if_neg (by omega), hdiv, hq, if_pos (by unfold levelOk; exact ⟨hh, by omega, by omega, by omega, by omega, by omega, by omega, by omega, h7⟩)]
                · rw [if_pos (by simp; omega), if_neg (by unfold levelOk; intro h; exact h7 h.2.2.2.2.2.2.2.2)]
  · rw [if_neg hh, if_neg (show ¬ levelOk a0 a1 a2 a3 from fun h => hh h.1)]
    rfl
theorem slots_eq (a0 a1 a2 a3 : Int) {k : Nat} (hk : 20 ≤ k) : slot_Slots.f k a0 a1 a2 a3 = some (slotsS a0 a1 a2 a3) :=
  at_rounds (g := fun k => slot_Slots.f k a0 a1 a2 a3) (slot_Slots.mono a0 a1 a2 a3) hk (slots_eq20 a0 a1 a2 a3)
def mayS (a0 a1 a2 id leaf : Int) (len : Nat) : Prop := 0 ≤ id ∧ id < a0 ∧ 0 ≤ leaf ∧ leaf < two a2 ∧ (len : Int) = a1
instance (a0 a1 a2 id leaf : Int) (len : Nat) : Decidable (mayS a0 a1 a2 id leaf len) := by unfold mayS; infer_instance
def checkS (a0 a1 a2 a3 id leaf : Int) (len : Nat) : Int := if levelOk a0 a1 a2 a3 ∧ mayS a0 a1 a2 id leaf len then 0 else 8
theorem checkS_eq (a0 a1 a2 a3 id leaf : Int) (d : List Int) : slot_Check.f 20 a0 a1 a2 a3 id leaf d = some (checkS a0 a1 a2 a3 id leaf d.length) := by
  unfold slot_Check.f checkS
  rw [slots_eq20, Option.bind_some]
  unfold slotsS
  by_cases hl : levelOk a0 a1 a2 a3
  · have hh := hl.1
    rw [if_pos hl]
    simp only [if_true]
    rw [leaves_eq, Option.bind_some, if_pos hh]
    simp only
    by_cases h1 : id < 0
    · rw [if_pos h1, if_neg (by unfold mayS; omega)]; rfl
    · rw [if_neg h1]
      by_cases h2 : a0 ≤ id
      · rw [if_pos h2, if_neg (by unfold mayS; omega)]; rfl
      · rw [if_neg h2]
        by_cases h3 : leaf < 0
        · rw [if_pos h3, if_neg (by unfold mayS; omega)]; rfl
        · rw [if_neg h3]
          by_cases h4 : two a2 ≤ leaf
          · rw [if_pos h4, if_neg (by unfold mayS; omega)]; rfl
          · rw [if_neg h4, slot_Check.j0]
            by_cases h5 : (d.length : Int) = a1
            · rw [if_neg (by simpa using h5), if_pos ⟨hl, by unfold mayS; omega⟩]
            · rw [if_pos (by simpa using h5), if_neg (by unfold mayS; omega)]
  · rw [if_neg hl, if_neg (show ¬ (levelOk a0 a1 a2 a3 ∧ mayS a0 a1 a2 id leaf d.length) from fun h => hl h.1)]
    rfl
theorem checkS_zero {a0 a1 a2 a3 id leaf : Int} {len : Nat} : checkS a0 a1 a2 a3 id leaf len = 0 ↔ levelOk a0 a1 a2 a3 ∧ mayS a0 a1 a2 id leaf len := by
  unfold checkS
  by_cases h : levelOk a0 a1 a2 a3 ∧ mayS a0 a1 a2 id leaf len
  · rw [if_pos h]; simp [h]
  · rw [if_neg h]; simp [h]
def fitR (s w : Int) : Int := if w = 1 * (8 + s) + 64 then 1 else if w = 2 * (8 + s) + 64 then 2 else if w = 3 * (8 + s) + 64 then 3 else if w = 4 * (8 + s) + 64 then 4 else 0
theorem quot_of {s v : Int} (h1 : 1 ≤ s) (hlo : 8 + s ≤ v) (hhi : v ≤ 4 * (8 + s)) (hm : v % (8 + s) = 0) : ∃ q, v = (8 + s) * q ∧ 1 ≤ q ∧ q ≤ 4 ∧ v / (8 + s) = q := by
  have hp : 0 < 8 + s := by omega
  have he : (8 + s) * (v / (8 + s)) = v := Int.mul_ediv_cancel' (Int.dvd_of_emod_eq_zero hm)
  refine ⟨v / (8 + s), he.symm, ?_, ?_, rfl⟩
  · exact (Int.le_ediv_iff_mul_le hp).2 (by omega)
  · have := (Int.ediv_lt_iff_lt_mul (a := v) (b := 5) hp).2 (by omega)
    omega
def manyS (a0 a1 a2 a3 : Int) : Int := if levelOk a0 a1 a2 a3 then wrap64 (a3 - 64) / (8 + a1) else 0
end Go.Proofs.Ytknmokpnkcckeaa
