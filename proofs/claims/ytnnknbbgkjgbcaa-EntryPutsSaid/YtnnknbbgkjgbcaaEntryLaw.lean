/-
Positions and cells' leaves: what the plain functions of entry and of the document's answer tell, in the same words.
-/
import Derived.Test.YtnnknbbgkjgbcaaGeoPure
import Derived.Test.YtnnknbbgkjgbcaaPAll3
import Derived.Test.YtnnknbbgkjgbcaaPAll5
import Derived.Test.YtnnknbbgkjgbcaaPAll6
import Derived.Test.YtnnknbbgkjgbcaaPAll4
import Derived.Test.YtnnknbbgkjgbcaaPAll8
import Derived.Test.YtnnknbbgkjgbcaaPAll11
import Derived.Test.YtnnknbbgkjgbcaaPAll16
import Derived.Test.YtnnknbbgkjgbcaaPAll17
import Derived.Laws.Bits128
import Derived.Laws.BitsAllLaws
namespace Go.Proofs.Ytnnknbbgkjgbcaa
open Go.RowKit Go.Proofs.YtnnknbbgkjgbcaaW.PrintWords Go.Proofs.YtnnknbbgkjgbcaaW.PrintLast Go.Proofs.YtnnknbbgkjgbcaaW.PrintMore Go.Proofs.Ytnnknbbgkjgbcaa.PAll
set_option linter.unusedVariables false
set_option linter.unusedSimpArgs false

theorem may_eq (high : Int) : ref07_May.f high = some (isHigh high) := by
  unfold ref07_May.f isHigh
  by_cases h : high ≥ 1
  · rw [if_pos h]; simp [h]
  · rw [if_neg h]; simp [h]

theorem two_vals : two 1 = 2 ∧ two 2 = 4 ∧ two 3 = 8 ∧ two 4 = 16 ∧ two 5 = 32 ∧ two 6 = 64 := by decide

theorem many_eq {high : Int} (h : isHigh high = true) : ref07_Many.f 20 high = some (two high) := by
  rcases high_cases h with rfl | rfl | rfl | rfl | rfl | rfl <;> decide +kernel

theorem leaves_eq (high : Int) : geo_Leaves.f 20 high = some (if isHigh high = true then (two high, 0) else (0, 2)) := by
  unfold geo_Leaves.f
  cases h : isHigh high with
  | false => rw [asked_low 19 h]; rfl
  | true =>
    rw [asked_nil 19 h]
    have h1 := ((isHigh_iff high).1 h).1
    have h2 : 0 ≤ high := by omega
    simp only [Option.bind_some, if_pos, h2, shl_high h]


theorem high_bounds {high : Int} (h : isHigh high = true) : 2 ≤ two high ∧ two high ≤ 64 := by
  obtain ⟨v1, v2, v3, v4, v5, v6⟩ := two_vals
  rcases high_cases h with rfl | rfl | rfl | rfl | rfl | rfl <;> omega

theorem and_mask (n m : Int) (k : Nat) (hm : (BitVec.ofInt 64 m).toNat = 2 ^ k - 1) (hk : k = 1 ∨ k = 2 ∨ k = 3 ∨ k = 4 ∨ k = 5 ∨ k = 6) : Go.bits .and .i64 n m = n % ((2 ^ k : Nat) : Int) := by
  have key : (BitVec.ofInt 64 n &&& BitVec.ofInt 64 m).toNat = (n % ((2 ^ 64 : Nat) : Int)).toNat % 2 ^ k := by
    rw [BitVec.toNat_and, BitVec.toNat_ofInt, hm, Nat.and_two_pow_sub_one_eq_mod]
  show IntKind.i64.wrap ((BitVec.ofInt 64 n &&& BitVec.ofInt 64 m).toNat : Nat) = n % ((2 ^ k : Nat) : Int)
  rw [key, IntKind.wrap_i64]
  rcases hk with rfl | rfl | rfl | rfl | rfl | rfl <;> omega

theorem leaf_eq {high cell : Int} (c0 : 0 ≤ cell) (c1 : cell ≤ 4294967295) {k : Nat} (hk : 20 ≤ k) : entry_Leaf.f k high cell = some (if isHigh high = true then (cell % two high, 0) else (0, 2)) := by
  have hl : geo_Leaves.f k high = _ := at_rounds (g := fun k => geo_Leaves.f k high) (geo_Leaves.mono high) hk (leaves_eq high)
  unfold entry_Leaf.f
  rw [hl]
  cases h : isHigh high with
  | false => rfl
  | true =>
    have e1 : wrap64 cell = cell := by unfold wrap64; omega
    obtain ⟨v1, v2, v3, v4, v5, v6⟩ := two_vals
    simp only [Option.bind_some, if_true, e1]
    rcases high_cases h with rfl | rfl | rfl | rfl | rfl | rfl
    · rw [v1, show wrap64 ((2 : Int) - 1) = 1 from by unfold wrap64; omega, and_mask cell 1 1 (by decide) (by decide)]; rfl
    · rw [v2, show wrap64 ((4 : Int) - 1) = 3 from by unfold wrap64; omega, and_mask cell 3 2 (by decide) (by decide)]; rfl
    · rw [v3, show wrap64 ((8 : Int) - 1) = 7 from by unfold wrap64; omega, and_mask cell 7 3 (by decide) (by decide)]; rfl
    · rw [v4, show wrap64 ((16 : Int) - 1) = 15 from by unfold wrap64; omega, and_mask cell 15 4 (by decide) (by decide)]; rfl
    · rw [v5, show wrap64 ((32 : Int) - 1) = 31 from by unfold wrap64; omega, and_mask cell 31 5 (by decide) (by decide)]; rfl
    · rw [v6, show wrap64 ((64 : Int) - 1) = 63 from by unfold wrap64; omega, and_mask cell 63 6 (by decide) (by decide)]; rfl

theorem ref_leaf_eq {high cell : Int} (c0 : 0 ≤ cell) (c1 : cell ≤ 4294967295) {k : Nat} (hk : 20 ≤ k) : ref19_Leaf.f k high cell = some (if isHigh high = true then (cell % two high, 0) else (0, 2)) := by
  unfold ref19_Leaf.f ref19_Of.f
  rw [may_eq]
  cases h : isHigh high with
  | false => rfl
  | true =>
    have hm : ref07_Many.f k high = _ := at_rounds (g := fun k => ref07_Many.f k high) (ref07_Many.mono high) hk (many_eq h)
    have e1 : wrap64 cell = cell := by unfold wrap64; omega
    have hb := high_bounds h
    rw [hm]
    simp only [Option.bind_some, if_true, e1]
    rw [if_neg (by omega), Int.tmod_eq_emod_of_nonneg c0]
    rfl

/-- What a position's check answers. -/
def checkR (high n : Int) : Int := if isHigh high = true then (if 0 ≤ n ∧ n ≤ two high then 0 else 8) else 2

theorem check_eq (high n : Int) {k : Nat} (hk : 20 ≤ k) : entry_Check.f k high n = some (checkR high n) := by
  obtain ⟨k, rfl⟩ : ∃ m, k = m + 1 := ⟨k - 1, by omega⟩
  have hl : geo_Leaves.f (k + 1) high = _ := at_rounds (g := fun k => geo_Leaves.f k high) (geo_Leaves.mono high) hk (leaves_eq high)
  unfold entry_Check.f checkR
  rw [hl]
  cases h : isHigh high with
  | false => rfl
  | true =>
    have hb := high_bounds h
    have e1 : wrap64 (1 + two high) = 1 + two high := by unfold wrap64; omega
    simp only [Option.bind_some, if_true, e1]
    by_cases h0 : n < 0
    · rw [if_pos h0, if_neg (by omega)]; rfl
    · rw [if_neg h0]
      by_cases h1 : n ≥ 1 + two high
      · rw [decide_eq_true h1, if_neg (by omega)]; rfl
      · rw [decide_eq_false h1, if_pos (by omega)]; rfl

theorem ref_check_eq (high n : Int) {k : Nat} (hk : 20 ≤ k) : ref19_Check.f k high n = some (checkR high n) := by
  unfold ref19_Check.f ref19_May.f checkR
  rw [may_eq]
  cases h : isHigh high with
  | false => rfl
  | true =>
    have hm : ref07_Many.f k high = _ := at_rounds (g := fun k => ref07_Many.f k high) (ref07_Many.mono high) hk (many_eq h)
    simp only [Option.bind_some, if_true]
    by_cases h0 : n ≥ 0
    · rw [if_pos h0, hm, Option.bind_some, Option.bind_some]
      by_cases h1 : n ≤ two high
      · rw [decide_eq_true h1, if_pos rfl, if_pos (by omega)]
      · rw [decide_eq_false h1, if_neg (by decide), if_neg (by omega)]
    · rw [if_neg h0, if_neg (by omega)]; rfl

/-- A position's bytes. -/
def writeR (high n : Int) : List Int × Int := if checkR high n = 0 then ([n, 0, 0, 0], 0) else ([], checkR high n)

theorem put4 : ∀ p : Fin 65, num_Put.f 60 [(p.val : Int)] [4] = some ([(p.val : Int), 0, 0, 0], 0) := by decide +kernel
theorem digits4 : ∀ p : Fin 65, ref01_Digits.f 60 (p.val : Int) 4 = some ([(p.val : Int), 0, 0, 0], true) := by decide +kernel

theorem check_small {high n : Int} (h : checkR high n = 0) : ∃ p : Fin 65, n = (p.val : Int) := by
  unfold checkR at h
  cases hh : isHigh high with
  | false => rw [hh] at h; simp at h
  | true =>
    rw [hh, if_pos rfl] at h
    have hb := high_bounds hh
    by_cases hc : 0 ≤ n ∧ n ≤ two high
    · exact ⟨⟨n.toNat, by omega⟩, by simp only; omega⟩
    · rw [if_neg hc] at h; simp at h

theorem write_eq (high n : Int) {k : Nat} (hk : 60 ≤ k) : entry_Write.f k high n = some (writeR high n) := by
  unfold entry_Write.f writeR
  rw [check_eq high n (by omega)]
  simp only [Option.bind_some]
  by_cases h : checkR high n = 0
  · rw [if_pos h, if_pos h]
    obtain ⟨p, rfl⟩ := check_small h
    have e1 : IntKind.u64.wrap (p.val : Int) = (p.val : Int) := by
      rw [show ∀ z, IntKind.u64.wrap z = z % 18446744073709551616 from fun _ => rfl]
      have := p.isLt
      omega
    have hp : num_Put.f k [(p.val : Int)] [4] = _ := at_rounds (g := fun k => num_Put.f k [(p.val : Int)] [4]) (num_Put.mono _ _) hk (put4 p)
    rw [e1, hp]; rfl
  · rw [if_neg h, if_neg h]

theorem ref_write_eq (high n : Int) {k : Nat} (hk : 60 ≤ k) : ref19_Write.f k high n = some (writeR high n) := by
  unfold ref19_Write.f writeR ref19_Bytes.f
  rw [ref_check_eq high n (by omega)]
  simp only [Option.bind_some]
  by_cases h : checkR high n = 0
  · rw [if_pos h, if_pos h]
    obtain ⟨p, rfl⟩ := check_small h
    have e1 : IntKind.u64.wrap (p.val : Int) = (p.val : Int) := by
      rw [show ∀ z, IntKind.u64.wrap z = z % 18446744073709551616 from fun _ => rfl]
      have := p.isLt
      omega
    have hp : ref01_Digits.f k (p.val : Int) 4 = _ := at_rounds (g := fun k => ref01_Digits.f k (p.val : Int) 4) (ref01_Digits.mono _ _) hk (digits4 p)
    rw [e1, hp]; rfl
  · rw [if_neg h, if_neg h]

theorem same_self (l : List Int) : ref01_Same.f l l = some true := by
  unfold ref01_Same.f
  rw [beq_self_eq_true]

end Go.Proofs.Ytnnknbbgkjgbcaa
