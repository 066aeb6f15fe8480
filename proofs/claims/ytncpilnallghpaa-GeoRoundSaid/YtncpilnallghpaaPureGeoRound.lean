/-
For every height and number: numbers one behind the other go round all leaves, each once (law GeoRound answers true).
Conditions: none beside the law's own.
-/
import Derived.Test.YtncpilnallghpaaPAll32
import Derived.Test.YtncpilnallghpaaGeoWay
namespace Go.Proofs.Ytncpilnallghpaa.Pure
open Go.RowKit Go.Proofs.Ytncpilnallghpaa Go.Proofs.Ytncpilnallghpaa.PAll Go.Proofs.YtncpilnallghpaaW.PrintWords Go.Proofs.YtncpilnallghpaaW.PrintLast

theorem alive_eq2 : law07_alive.f 300 = some true := by decide +kernel
theorem u64_wrap (z : Int) : IntKind.u64.wrap z = z % 18446744073709551616 := rfl

/-- A number's leaf hangs on what is left of it alone. -/
theorem reverse_mod {high : Int} (hh : isHigh high = true) (n z : Int) : geo_Reverse.f high (IntKind.u64.wrap (n + z)) = geo_Reverse.f high (IntKind.u64.wrap (n % two high + z)) := by
  rw [u64_wrap, u64_wrap]
  have e : ∀ x : Int, geo_Reverse.f high (x % 18446744073709551616) = some (revGo high (x % two high) high.toNat 0 0, 0) := by
    intro x
    have x0 : 0 ≤ x % 18446744073709551616 := by omega
    have x1 : x % 18446744073709551616 ≤ 18446744073709551615 := by omega
    rw [reverse_eq x0 x1, hh, if_pos rfl]
    have hg : revGo high (x % 18446744073709551616) high.toNat ((0 : Nat) : Int) 0 = revGo high (x % 18446744073709551616 % two high) high.toNat ((0 : Nat) : Int) 0 := revGo_congr _ _ _ (fun j _ hj => bit_mod x0 x1 hh j (by omega))
    have hm : x % 18446744073709551616 % two high = x % two high := by
      obtain ⟨v1, v2, v3, v4, v5, v6⟩ := two_vals
      rcases high_cases hh with rfl | rfl | rfl | rfl | rfl | rfl
      · rw [v1]; omega
      · rw [v2]; omega
      · rw [v3]; omega
      · rw [v4]; omega
      · rw [v5]; omega
      · rw [v6]; omega
    rw [hm] at hg
    exact congrArg (fun r => some (r, (0 : Int))) hg
  rw [e, e]
  have hm : (n + z) % two high = (n % two high + z) % two high := by rw [Int.emod_add_emod]
  rw [hm]

theorem round_mod {high : Int} (hh : isHigh high = true) (n : Int) (ok : Bool) (many : Int) : ∀ k,
    (∀ l i, law07_GeoRound.l0 k high n ok many l i = law07_GeoRound.l0 k high (n % two high) ok many l i) ∧
    (∀ l i b, law07_GeoRound.j2 k high n ok many l i b = law07_GeoRound.j2 k high (n % two high) ok many l i b) ∧
    (∀ l i x b, law07_GeoRound.j3 k high n ok many l i x b = law07_GeoRound.j3 k high (n % two high) ok many l i x b)
  | 0 => ⟨fun _ _ => rfl, fun _ _ _ => rfl, fun _ _ _ _ => rfl⟩
  | k + 1 => by
    obtain ⟨h1, h2, h3⟩ := round_mod hh n ok many k
    refine ⟨fun l i => ?_, fun l i b => ?_, fun l i x b => ?_⟩
    · simp only [law07_GeoRound.l0, h2]
    · simp only [law07_GeoRound.j2, h3, reverse_mod hh n]
    · simp only [law07_GeoRound.j3, h1]

theorem round_1 : ∀ m : Fin 2, law07_GeoRound.l0 298 1 m.val true 2 (List.replicate 128 0) 0 = some true := by decide +kernel
theorem round_2 : ∀ m : Fin 4, law07_GeoRound.l0 298 2 m.val true 4 (List.replicate 128 0) 0 = some true := by decide +kernel
theorem round_3 : ∀ m : Fin 8, law07_GeoRound.l0 298 3 m.val true 8 (List.replicate 128 0) 0 = some true := by decide +kernel
theorem round_4 : ∀ m : Fin 16, law07_GeoRound.l0 298 4 m.val true 16 (List.replicate 128 0) 0 = some true := by decide +kernel
theorem round_5 : ∀ m : Fin 32, law07_GeoRound.l0 298 5 m.val true 32 (List.replicate 128 0) 0 = some true := by decide +kernel
theorem round_6_0 : ∀ (m : Fin 16), law07_GeoRound.l0 298 6 (16 * 0 + m.val : Nat) true 64 (List.replicate 128 0) 0 = some true := by decide +kernel
theorem round_6_1 : ∀ (m : Fin 16), law07_GeoRound.l0 298 6 (16 * 1 + m.val : Nat) true 64 (List.replicate 128 0) 0 = some true := by decide +kernel
theorem round_6_2 : ∀ (m : Fin 16), law07_GeoRound.l0 298 6 (16 * 2 + m.val : Nat) true 64 (List.replicate 128 0) 0 = some true := by decide +kernel
theorem round_6_3 : ∀ (m : Fin 16), law07_GeoRound.l0 298 6 (16 * 3 + m.val : Nat) true 64 (List.replicate 128 0) 0 = some true := by decide +kernel

theorem round_6 (n : Nat) (hn : n < 64) : law07_GeoRound.l0 298 6 n true 64 (List.replicate 128 0) 0 = some true := by
  rcases (by omega : n < 16 ∨ (16 ≤ n ∧ n < 32) ∨ (32 ≤ n ∧ n < 48) ∨ (48 ≤ n ∧ n < 64)) with h | h | h | h
  · have := round_6_0 ⟨n, h⟩
    rwa [show 16 * 0 + (⟨n, h⟩ : Fin 16).val = n from by simp] at this
  · have := round_6_1 ⟨n - 16, by omega⟩
    rwa [show 16 * 1 + (⟨n - 16, by omega⟩ : Fin 16).val = n from by simp only; omega] at this
  · have := round_6_2 ⟨n - 32, by omega⟩
    rwa [show 16 * 2 + (⟨n - 32, by omega⟩ : Fin 16).val = n from by simp only; omega] at this
  · have := round_6_3 ⟨n - 48, by omega⟩
    rwa [show 16 * 3 + (⟨n - 48, by omega⟩ : Fin 16).val = n from by simp only; omega] at this

theorem GeoRound : law07_GeoRound.Pure := by
  intro high n _ _
  refine ⟨300, ?_⟩
  have hl : geo_Leaves.f 300 high = some (if isHigh high = true then (two high, 0) else (0, 2)) := at_rounds (g := fun k => geo_Leaves.f k high) (geo_Leaves.mono high) (by decide : 20 ≤ 300) (leaves_eq high)
  unfold law07_GeoRound.f
  rw [alive_eq2, hl]
  cases hh : isHigh high with
  | false => rfl
  | true =>
    have t0 : 0 < two high := Int.pow_pos (by decide)
    have m0 : 0 ≤ n % two high := Int.emod_nonneg _ (by omega)
    have m1 : n % two high < two high := Int.emod_lt_of_pos _ t0
    have e : law07_GeoRound.j0 300 high n true (two high) false = law07_GeoRound.l0 299 high n true (two high) (List.replicate 128 0) 0 := rfl
    simp only [Option.bind_some, if_pos, Bool.not_true, e]
    rw [(round_mod hh n true (two high) 299).1]
    generalize n % two high = m at m0 m1
    obtain ⟨a, rfl⟩ := Int.eq_ofNat_of_zero_le m0
    obtain ⟨v1, v2, v3, v4, v5, v6⟩ := two_vals
    have up : ∀ (h t : Int), law07_GeoRound.l0 298 h (a : Int) true t (List.replicate 128 0) 0 = some true → law07_GeoRound.l0 299 h (a : Int) true t (List.replicate 128 0) 0 = some true := fun h t => (law07_GeoRound.mono_l 298).2.1 h a true t _ 0 true
    rcases high_cases hh with rfl | rfl | rfl | rfl | rfl | rfl
    · rw [v1] at m1 ⊢; exact up _ _ (round_1 ⟨a, by omega⟩)
    · rw [v2] at m1 ⊢; exact up _ _ (round_2 ⟨a, by omega⟩)
    · rw [v3] at m1 ⊢; exact up _ _ (round_3 ⟨a, by omega⟩)
    · rw [v4] at m1 ⊢; exact up _ _ (round_4 ⟨a, by omega⟩)
    · rw [v5] at m1 ⊢; exact up _ _ (round_5 ⟨a, by omega⟩)
    · rw [v6] at m1 ⊢; exact up _ _ (round_6 a (by omega))

end Go.Proofs.Ytncpilnallghpaa.Pure
