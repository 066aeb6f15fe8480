/-
What geo.asked answers, as plain Lean.
-/
import Derived.Test.YtnnknbbgkjgbcaaPAll12
namespace Go.Proofs.Ytnnknbbgkjgbcaa
open Go.RowKit Go.Proofs.YtnnknbbgkjgbcaaW.PrintWords Go.Proofs.YtnnknbbgkjgbcaaW.PrintLast Go.Proofs.YtnnknbbgkjgbcaaW.PrintMore Go.Proofs.Ytnnknbbgkjgbcaa.PAll
set_option linter.unusedVariables false
set_option linter.unusedSimpArgs false

/-- 2 to a height that may be. -/
def two (high : Int) : Int := 2 ^ high.toNat
def isHigh (high : Int) : Bool := decide (1 ≤ high) && decide (high ≤ 6)
theorem isHigh_iff (high : Int) : isHigh high = true ↔ 1 ≤ high ∧ high ≤ 6 := by simp [isHigh]
theorem high_cases {high : Int} (h : isHigh high = true) : high = 1 ∨ high = 2 ∨ high = 3 ∨ high = 4 ∨ high = 5 ∨ high = 6 := by
  obtain ⟨h1, h2⟩ := (isHigh_iff high).1 h
  omega
theorem shl_high {high : Int} (h : isHigh high = true) : shl .i64 1 high = two high := by
  rcases high_cases h with rfl | rfl | rfl | rfl | rfl | rfl <;> rfl
theorem check_yes (k : Nat) {high : Int} (h : isHigh high = true) : geo_Check.f (k + 1) high = some 0 := by
  obtain ⟨h1, h2⟩ := (isHigh_iff high).1 h
  unfold geo_Check.f
  rw [if_neg (by omega)]
  simp only [geo_Check.j0]
  rw [if_neg (by simp; omega)]
theorem check_no (k : Nat) {high : Int} (h : isHigh high = false) : geo_Check.f (k + 1) high = some 2 := by
  have h' : ¬ (1 ≤ high ∧ high ≤ 6) := fun x => by rw [(isHigh_iff high).2 x] at h; cases h
  unfold geo_Check.f
  by_cases h1 : high < 1
  · rw [if_pos h1]; rfl
  · rw [if_neg h1]
    simp only [geo_Check.j0]
    rw [if_pos (by simp; omega)]
theorem asked_low (k : Nat) {high : Int} (h : isHigh high = false) (l : List Int) : geo_asked.f (k + 1) high l = some 2 := by
  unfold geo_asked.f
  rw [check_no k h]
  rfl
theorem asked_nil (k : Nat) {high : Int} (h : isHigh high = true) : geo_asked.f (k + 1) high [] = some 0 := by
  unfold geo_asked.f
  rw [check_yes k h]
  rfl
def isLeaf (high leaf : Int) : Bool := decide (0 ≤ leaf) && decide (leaf < two high)
theorem isLeaf_iff (high leaf : Int) : isLeaf high leaf = true ↔ 0 ≤ leaf ∧ leaf < two high := by simp [isLeaf]
/-- One round over the leaves. -/
theorem asked_l0 (k : Nat) {high : Int} (h : isHigh high = true) (l : List Int) (i : Nat) (hi : i < l.length) (hm : l.length ≤ 1000) :
    geo_asked.l0 (k + 2) high l (l.length : Int) i = if isLeaf high (rd l i) = true then geo_asked.l0 k high l (l.length : Int) ((i + 1 : Nat) : Int) else some 2 := by
  have h0 : 0 ≤ high := by have := ((isHigh_iff high).1 h).1; omega
  have hw : wrap64 ((i : Int) + 1) = ((i + 1 : Nat) : Int) := by unfold wrap64; omega
  simp only [geo_asked.l0, geo_asked.j1, shl_high h, isLeaf_iff]
  rw [if_pos (show (i : Int) < (l.length : Int) by omega), if_pos (show (0 : Int) ≤ (i : Int) by omega), if_pos (show (i : Int) < (l.length : Int) by omega), if_pos h0, hw]
  by_cases h1 : rd l i < 0
  · rw [if_pos h1, if_pos trivial, if_neg (by omega)]
  · rw [if_neg h1]
    by_cases h2 : two high ≤ rd l i
    · rw [if_pos (by simpa using h2), if_neg (by omega)]
    · rw [if_neg (by simpa using h2), if_pos (by omega)]
theorem asked_end (k : Nat) (high : Int) (l : List Int) (i : Nat) (hi : l.length ≤ i) : geo_asked.l0 (k + 1) high l (l.length : Int) i = some 0 := by
  simp only [geo_asked.l0]
  rw [if_neg (by omega)]
theorem asked_one (k : Nat) {high : Int} (h : isHigh high = true) (leaf : Int) : geo_asked.f (k + 3) high [leaf] = some (if isLeaf high leaf = true then 0 else 2) := by
  unfold geo_asked.f
  rw [check_yes (k + 2) h]
  have h1 := asked_l0 (k + 1) h [leaf] 0 (by simp) (by simp)
  have h2 := asked_end k high [leaf] (0 + 1) (by simp)
  have r0 : rd [leaf] ((0 : Nat) : Int) = leaf := rfl
  rw [h2, r0] at h1
  simp only [Option.bind_some, if_pos rfl]
  refine Eq.trans h1 ?_
  split <;> rfl
theorem asked_two (k : Nat) {high : Int} (h : isHigh high = true) (a b : Int) : geo_asked.f (k + 5) high [a, b] = some (if (isLeaf high a && isLeaf high b) = true then 0 else 2) := by
  unfold geo_asked.f
  rw [check_yes (k + 4) h]
  have h1 := asked_l0 (k + 3) h [a, b] 0 (by simp) (by simp)
  have h2 := asked_l0 (k + 1) h [a, b] 1 (by simp) (by simp)
  have h3 := asked_end k high [a, b] (1 + 1) (by simp)
  have r0 : rd [a, b] ((0 : Nat) : Int) = a := rfl
  have r1 : rd [a, b] ((1 : Nat) : Int) = b := rfl
  rw [h3, r1] at h2
  rw [r0] at h1
  simp only [Option.bind_some, if_pos rfl]
  refine Eq.trans h1 ?_
  rw [show ((0 + 1 : Nat) : Int) = ((1 : Nat) : Int) from rfl, h2]
  cases isLeaf high a <;> cases isLeaf high b <;> rfl
end Go.Proofs.Ytnnknbbgkjgbcaa
