/-
Plain facts on heights, leaves and counts, of the program's functions and of the reference's.
-/
import Derived.Test.YtncpilnallghpaaHandOn
import Derived.Test.YtncpilnallghpaaPAll7
import Derived.Test.YtncpilnallghpaaPAll3
import Derived.Test.YtncpilnallghpaaPAll10
import Derived.Test.YtncpilnallghpaaPAll6
import Derived.Test.YtncpilnallghpaaPAll8
import Derived.Test.YtncpilnallghpaaPAll11
import Derived.WalkSmall
namespace Go.Proofs.Ytncpilnallghpaa
open Go.RowKit Go.Proofs.YtncpilnallghpaaW.PrintWords Go.Proofs.YtncpilnallghpaaW.PrintLast Go.Proofs.YtncpilnallghpaaW.PrintMore Go.Proofs.Ytncpilnallghpaa.PAll
set_option linter.unusedVariables false
set_option linter.unusedSimpArgs false

theorem may_eq (high : Int) : ref07_May.f high = some (isHigh high) := by
  unfold ref07_May.f isHigh
  by_cases h : high ≥ 1
  · rw [if_pos h]; simp [h]
  · rw [if_neg h]; simp [h]

theorem u64_bounds {n : Int} (h : (Lit.int .u64 n).wf = true) : 0 ≤ n ∧ n ≤ 18446744073709551615 := by
  have h := h
  simp only [Lit.wf, Bool.and_eq_true, decide_eq_true_eq] at h
  have hmin : IntKind.u64.min = 0 := rfl
  have hmax : IntKind.u64.max = 18446744073709551615 := rfl
  omega

/-! ### numbers' leaves -/
theorem rev_all : (∀ m : Fin 2, ref07_Turned.f 20 1 m.val = some (revGo 1 m.val 1 0 0)) ∧ (∀ m : Fin 4, ref07_Turned.f 20 2 m.val = some (revGo 2 m.val 2 0 0)) ∧ (∀ m : Fin 8, ref07_Turned.f 20 3 m.val = some (revGo 3 m.val 3 0 0)) ∧
    (∀ m : Fin 16, ref07_Turned.f 20 4 m.val = some (revGo 4 m.val 4 0 0)) ∧ (∀ m : Fin 32, ref07_Turned.f 20 5 m.val = some (revGo 5 m.val 5 0 0)) ∧ (∀ m : Fin 64, ref07_Turned.f 20 6 m.val = some (revGo 6 m.val 6 0 0)) := by decide +kernel

theorem revGo_congr {h n m : Int} : ∀ (d k : Nat) (o : Int), (∀ j, k ≤ j → j < k + d → Go.bits .and .u64 (n / 2 ^ j) 1 = Go.bits .and .u64 (m / 2 ^ j) 1) → revGo h n d k o = revGo h m d k o
  | 0, _, _, _ => rfl
  | d + 1, k, o, hb => by
    have e : revPut h n o k = revPut h m o k := by simp only [revPut, Int.toNat_natCast, hb k (Nat.le_refl _) (by omega)]
    show revGo h n d ((k : Int) + 1) (revPut h n o k) = revGo h m d ((k : Int) + 1) (revPut h m o k)
    rw [e, show ((k : Int) + 1) = ((k + 1 : Nat) : Int) from rfl]
    exact revGo_congr d (k + 1) _ (fun j h1 h2 => hb j (by omega) (by omega))
/-- One bit of a number, and of what is left of it by a height. -/
theorem bit_mod {n : Int} (h0 : 0 ≤ n) (h1 : n ≤ 18446744073709551615) {high : Int} (h : isHigh high = true) (j : Nat) (hj : j < high.toNat) :
    Go.bits .and .u64 (n / 2 ^ j) 1 = Go.bits .and .u64 ((n % two high) / 2 ^ j) 1 := by
  have e : ∀ x : Int, 0 ≤ x → x ≤ n → Go.bits .and .u64 (x / 2 ^ j) 1 = x / 2 ^ j % 2 := fun x x0 x1 =>
    and_one_u64 _ (Int.ediv_nonneg x0 (by exact Int.le_of_lt (Int.pow_pos (by decide)))) (Int.le_trans (Int.ediv_le_self _ x0) (by omega))
  have t : 0 < two high := Int.pow_pos (by decide)
  have m0 : 0 ≤ n % two high := Int.emod_nonneg _ (by omega)
  have m1 : n % two high ≤ n := by
    have := Int.mul_ediv_add_emod n (two high)
    have := Int.mul_nonneg (Int.le_of_lt t) (Int.ediv_nonneg h0 (Int.le_of_lt t))
    omega
  rw [e n h0 (Int.le_refl _), e _ m0 m1]
  clear e t m0 m1
  rcases high_cases h with rfl | rfl | rfl | rfl | rfl | rfl
  all_goals
    simp only [two, Int.reduceToNat, Int.reducePow] at hj ⊢
    have hj5 : j = 0 ∨ j = 1 ∨ j = 2 ∨ j = 3 ∨ j = 4 ∨ j = 5 := by omega
    rcases hj5 with rfl | rfl | rfl | rfl | rfl | rfl <;> first | (exfalso; omega) | (simp only [Int.reducePow]; omega)
theorem two_vals : two 1 = 2 ∧ two 2 = 4 ∧ two 3 = 8 ∧ two 4 = 16 ∧ two 5 = 32 ∧ two 6 = 64 := by decide
theorem many_eq {high : Int} (h : isHigh high = true) : ref07_Many.f 20 high = some (two high) := by
  rcases high_cases h with rfl | rfl | rfl | rfl | rfl | rfl <;> decide +kernel
theorem turned_mod {n : Int} (h0 : 0 ≤ n) {high : Int} (h : isHigh high = true) : ref07_Turned.f 20 high n = ref07_Turned.f 20 high (n % two high) := by
  have t : 0 < two high := Int.pow_pos (by decide)
  have ht := two_le h
  have m0 : 0 ≤ n % two high := Int.emod_nonneg _ (by omega)
  have hw : IntKind.u64.wrap (two high) = two high := by
    rcases high_cases h with rfl | rfl | rfl | rfl | rfl | rfl <;> decide +kernel
  unfold ref07_Turned.f
  rw [many_eq h]
  simp only [Option.bind_some, hw]
  rw [Int.tmod_eq_emod_of_nonneg h0, Int.tmod_eq_emod_of_nonneg m0, Int.emod_emod_of_dvd n (Int.dvd_refl _)]
/-- The two say the same of a number's leaf. -/
theorem turned_eq {n : Int} (h0 : 0 ≤ n) (h1 : n ≤ 18446744073709551615) {high : Int} (h : isHigh high = true) : ref07_Turned.f 20 high n = some (revGo high n high.toNat 0 0) := by
  have t : 0 < two high := Int.pow_pos (by decide)
  have m0 : 0 ≤ n % two high := Int.emod_nonneg _ (by omega)
  have m1 : n % two high < two high := Int.emod_lt_of_pos _ t
  have hg : revGo high n high.toNat ((0 : Nat) : Int) 0 = revGo high (n % two high) high.toNat ((0 : Nat) : Int) 0 := revGo_congr _ _ _ (fun j _ hj => bit_mod h0 h1 h j (by omega))
  rw [turned_mod h0 h]
  have hg' : revGo high n high.toNat 0 0 = revGo high (n % two high) high.toNat 0 0 := hg
  rw [hg']
  generalize hm : n % two high = m at m0 m1
  clear hm hg hg'
  obtain ⟨r1, r2, r3, r4, r5, r6⟩ := rev_all
  obtain ⟨v1, v2, v3, v4, v5, v6⟩ := two_vals
  obtain ⟨a, rfl⟩ := Int.eq_ofNat_of_zero_le m0
  rcases high_cases h with rfl | rfl | rfl | rfl | rfl | rfl
  · exact r1 ⟨a, by omega⟩
  · exact r2 ⟨a, by omega⟩
  · exact r3 ⟨a, by omega⟩
  · exact r4 ⟨a, by omega⟩
  · exact r5 ⟨a, by omega⟩
  · exact r6 ⟨a, by omega⟩

/-! ### the program's functions at once -/
theorem leaves_eq (high : Int) : geo_Leaves.f 20 high = some (if isHigh high = true then (two high, 0) else (0, 2)) := by
  unfold geo_Leaves.f
  cases h : isHigh high with
  | false => rw [asked_low 19 h]; rfl
  | true =>
    rw [asked_nil 19 h]
    have h1 := ((isHigh_iff high).1 h).1
    have h2 : 0 ≤ high := by omega
    simp only [Option.bind_some, if_pos, h2, shl_high h]
theorem ref_leaves_eq (high : Int) : ref07_Leaves.f 20 high = some (if isHigh high = true then (two high, 0) else (0, 2)) := by
  unfold ref07_Leaves.f
  rw [may_eq]
  cases h : isHigh high with
  | false => rfl
  | true => simp only [Option.bind_some, if_pos, many_eq h]
theorem buckets_eq (high : Int) : geo_Buckets.f 20 high = some (if isHigh high = true then (2 * two high - 1, 0) else (0, 2)) := by
  unfold geo_Buckets.f
  cases h : isHigh high with
  | false => rw [asked_low 19 h]; rfl
  | true =>
    rw [asked_nil 19 h]
    rcases high_cases h with rfl | rfl | rfl | rfl | rfl | rfl <;> decide +kernel
theorem ref_buckets_eq (high : Int) : ref07_Buckets.f 20 high = some (if isHigh high = true then (2 * two high - 1, 0) else (0, 2)) := by
  unfold ref07_Buckets.f
  rw [may_eq]
  cases h : isHigh high with
  | false => rfl
  | true =>
    simp only [Option.bind_some, if_pos, many_eq h]
    rcases high_cases h with rfl | rfl | rfl | rfl | rfl | rfl <;> decide +kernel
theorem check_eq (high : Int) : geo_Check.f 20 high = some (if isHigh high = true then 0 else 2) := by
  cases h : isHigh high with
  | false => exact check_no 19 h
  | true => exact check_yes 19 h
theorem ref_check_eq (high : Int) : ref07_Check.f high = some (if isHigh high = true then 0 else 2) := by
  unfold ref07_Check.f
  rw [may_eq]
  cases h : isHigh high <;> rfl
theorem reverse_eq {n : Int} (h0 : 0 ≤ n) (h1 : n ≤ 18446744073709551615) (high : Int) : geo_Reverse.f high n = some (if isHigh high = true then (revGo high n high.toNat 0 0, 0) else (0, 2)) := by
  unfold geo_Reverse.f
  rw [if_pos h0, if_pos h1]
theorem ref_reverse_eq {n : Int} (h0 : 0 ≤ n) (h1 : n ≤ 18446744073709551615) (high : Int) : ref07_Reverse.f 20 high n = some (if isHigh high = true then (revGo high n high.toNat 0 0, 0) else (0, 2)) := by
  unfold ref07_Reverse.f
  rw [may_eq]
  cases h : isHigh high with
  | false => rfl
  | true => simp only [Option.bind_some, if_pos, turned_eq h0 h1 h]
end Go.Proofs.Ytncpilnallghpaa
