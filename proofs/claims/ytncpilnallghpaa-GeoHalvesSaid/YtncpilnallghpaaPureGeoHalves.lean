/-
For every height and two leaves: paths begin at 1, go down by halves, end at their leaf, and two are the same down to where they go together and nowhere else; or the calls err (law GeoHalves answers true).
Conditions: none beside the law's own.
-/
import Derived.Test.YtncpilnallghpaaPAll33
import Derived.Test.YtncpilnallghpaaGeoWay
namespace Go.Proofs.Ytncpilnallghpaa.Pure
open Go.RowKit Go.Proofs.Ytncpilnallghpaa Go.Proofs.Ytncpilnallghpaa.PAll Go.Proofs.YtncpilnallghpaaW.PrintWords Go.Proofs.YtncpilnallghpaaW.PrintLast

theorem halves_1 : ∀ a b : Fin 2, law07_GeoHalves.f 60 1 a.val b.val = some true := by decide +kernel
theorem halves_2 : ∀ a b : Fin 4, law07_GeoHalves.f 60 2 a.val b.val = some true := by decide +kernel
theorem halves_3 : ∀ a b : Fin 8, law07_GeoHalves.f 60 3 a.val b.val = some true := by decide +kernel
theorem halves_4 : ∀ a b : Fin 16, law07_GeoHalves.f 60 4 a.val b.val = some true := by decide +kernel
theorem halves_5 : ∀ a b : Fin 32, law07_GeoHalves.f 60 5 a.val b.val = some true := by decide +kernel
theorem halves_6_0 : ∀ (a : Fin 64) (b : Fin 16), law07_GeoHalves.f 60 6 a.val (16 * 0 + b.val : Nat) = some true := by decide +kernel
theorem halves_6_1 : ∀ (a : Fin 64) (b : Fin 16), law07_GeoHalves.f 60 6 a.val (16 * 1 + b.val : Nat) = some true := by decide +kernel
theorem halves_6_2 : ∀ (a : Fin 64) (b : Fin 16), law07_GeoHalves.f 60 6 a.val (16 * 2 + b.val : Nat) = some true := by decide +kernel
theorem halves_6_3 : ∀ (a : Fin 64) (b : Fin 16), law07_GeoHalves.f 60 6 a.val (16 * 3 + b.val : Nat) = some true := by decide +kernel

theorem halves_6 (m n : Nat) (hm : m < 64) (hn : n < 64) : law07_GeoHalves.f 60 6 m n = some true := by
  rcases (by omega : n < 16 ∨ (16 ≤ n ∧ n < 32) ∨ (32 ≤ n ∧ n < 48) ∨ (48 ≤ n ∧ n < 64)) with h | h | h | h
  · have := halves_6_0 ⟨m, hm⟩ ⟨n, h⟩
    rwa [show 16 * 0 + (⟨n, h⟩ : Fin 16).val = n from by simp] at this
  · have := halves_6_1 ⟨m, hm⟩ ⟨n - 16, by omega⟩
    rwa [show 16 * 1 + (⟨n - 16, by omega⟩ : Fin 16).val = n from by simp only; omega] at this
  · have := halves_6_2 ⟨m, hm⟩ ⟨n - 32, by omega⟩
    rwa [show 16 * 2 + (⟨n - 32, by omega⟩ : Fin 16).val = n from by simp only; omega] at this
  · have := halves_6_3 ⟨m, hm⟩ ⟨n - 48, by omega⟩
    rwa [show 16 * 3 + (⟨n - 48, by omega⟩ : Fin 16).val = n from by simp only; omega] at this

theorem alive_eq : law07_alive.f 60 = some true := by decide +kernel

theorem GeoHalves : law07_GeoHalves.Pure := by
  intro high a b _ _ _
  refine ⟨60, ?_⟩
  cases hv : isHigh high && isLeaf high a && isLeaf high b with
  | true =>
    simp only [Bool.and_eq_true] at hv
    obtain ⟨⟨hh, ha⟩, hb⟩ := hv
    obtain ⟨a0, a1⟩ := (isLeaf_iff high a).1 ha
    obtain ⟨b0, b1⟩ := (isLeaf_iff high b).1 hb
    obtain ⟨v1, v2, v3, v4, v5, v6⟩ := two_vals
    obtain ⟨m, rfl⟩ := Int.eq_ofNat_of_zero_le a0
    obtain ⟨n, rfl⟩ := Int.eq_ofNat_of_zero_le b0
    rcases high_cases hh with rfl | rfl | rfl | rfl | rfl | rfl
    · exact halves_1 ⟨m, by omega⟩ ⟨n, by omega⟩
    · exact halves_2 ⟨m, by omega⟩ ⟨n, by omega⟩
    · exact halves_3 ⟨m, by omega⟩ ⟨n, by omega⟩
    · exact halves_4 ⟨m, by omega⟩ ⟨n, by omega⟩
    · exact halves_5 ⟨m, by omega⟩ ⟨n, by omega⟩
    · exact halves_6 m n (by omega) (by omega)
  | false =>
    have hd : geo_Deep.f 60 high a b = some (0, 2) := at_rounds (g := fun k => geo_Deep.f k high a b) (geo_Deep.mono high a b) (by decide : 20 ≤ 60) (by rw [deep_eq, hv]; rfl)
    unfold law07_GeoHalves.f
    rw [alive_eq, hd]
    unfold geo_Path.f
    simp only [Option.bind_some]
    cases ha : isHigh high && isLeaf high a with
    | false => rfl
    | true =>
      have hb : (isHigh high && isLeaf high b) = false := by
        simp only [Bool.and_eq_true] at ha
        rw [ha.1, ha.2] at hv
        rw [ha.1]
        simpa using hv
      rw [hb]
      rfl

end Go.Proofs.Ytncpilnallghpaa.Pure
