/-
For every height and cell: cells one behind the other go round all leaves, each once (law EntryFair answers true).
Conditions: none beside the law's own.
-/
import Derived.Test.YtnnknbbgkjgbcaaPAll26
import Derived.Test.YtnnknbbgkjgbcaaEntryLaw
namespace Go.Proofs.Ytnnknbbgkjgbcaa.Pure
open Go.RowKit Go.Proofs.Ytnnknbbgkjgbcaa Go.Proofs.Ytnnknbbgkjgbcaa.PAll Go.Proofs.YtnnknbbgkjgbcaaW.PrintWords Go.Proofs.YtnnknbbgkjgbcaaW.PrintLast

theorem alive_fair : law19_alive.f 300 = some true := by decide +kernel

theorem leaves_any (k : Nat) (high : Int) : geo_Leaves.f k high = none ∨ geo_Leaves.f k high = some (if isHigh high = true then (two high, 0) else (0, 2)) := by
  cases e : geo_Leaves.f k high with
  | none => exact .inl rfl
  | some r =>
    have h1 : geo_Leaves.f (k + 20) high = some r := at_rounds (g := fun k => geo_Leaves.f k high) (geo_Leaves.mono high) (by omega : k ≤ k + 20) e
    have h2 : geo_Leaves.f (k + 20) high = _ := at_rounds (g := fun k => geo_Leaves.f k high) (geo_Leaves.mono high) (by omega : 20 ≤ k + 20) (leaves_eq high)
    rw [h1] at h2
    exact .inr h2

theorem leaf_mod (k : Nat) {high : Int} (hh : isHigh high = true) (n z : Int) : entry_Leaf.f k high ((n + z) % 4294967296) = entry_Leaf.f k high ((n % two high + z) % 4294967296) := by
  unfold entry_Leaf.f
  rcases leaves_any k high with e | e
  · simp only [e, Option.bind_none]
  · rw [e, hh]
    have w1 : wrap64 ((n + z) % 4294967296) = (n + z) % 4294967296 := by unfold wrap64; omega
    have w2 : wrap64 ((n % two high + z) % 4294967296) = (n % two high + z) % 4294967296 := by unfold wrap64; omega
    obtain ⟨v1, v2, v3, v4, v5, v6⟩ := two_vals
    simp only [Option.bind_some, if_true, w1, w2]
    rcases high_cases hh with rfl | rfl | rfl | rfl | rfl | rfl
    · rw [v1, show wrap64 ((2 : Int) - 1) = 1 from by unfold wrap64; omega, and_mask _ 1 1 (by decide) (by decide), and_mask _ 1 1 (by decide) (by decide), show ((n + z) % 4294967296) % ((2 ^ 1 : Nat) : Int) = ((n % 2 + z) % 4294967296) % ((2 ^ 1 : Nat) : Int) from by omega]
    · rw [v2, show wrap64 ((4 : Int) - 1) = 3 from by unfold wrap64; omega, and_mask _ 3 2 (by decide) (by decide), and_mask _ 3 2 (by decide) (by decide), show ((n + z) % 4294967296) % ((2 ^ 2 : Nat) : Int) = ((n % 4 + z) % 4294967296) % ((2 ^ 2 : Nat) : Int) from by omega]
    · rw [v3, show wrap64 ((8 : Int) - 1) = 7 from by unfold wrap64; omega, and_mask _ 7 3 (by decide) (by decide), and_mask _ 7 3 (by decide) (by decide), show ((n + z) % 4294967296) % ((2 ^ 3 : Nat) : Int) = ((n % 8 + z) % 4294967296) % ((2 ^ 3 : Nat) : Int) from by omega]
    · rw [v4, show wrap64 ((16 : Int) - 1) = 15 from by unfold wrap64; omega, and_mask _ 15 4 (by decide) (by decide), and_mask _ 15 4 (by decide) (by decide), show ((n + z) % 4294967296) % ((2 ^ 4 : Nat) : Int) = ((n % 16 + z) % 4294967296) % ((2 ^ 4 : Nat) : Int) from by omega]
    · rw [v5, show wrap64 ((32 : Int) - 1) = 31 from by unfold wrap64; omega, and_mask _ 31 5 (by decide) (by decide), and_mask _ 31 5 (by decide) (by decide), show ((n + z) % 4294967296) % ((2 ^ 5 : Nat) : Int) = ((n % 32 + z) % 4294967296) % ((2 ^ 5 : Nat) : Int) from by omega]
    · rw [v6, show wrap64 ((64 : Int) - 1) = 63 from by unfold wrap64; omega, and_mask _ 63 6 (by decide) (by decide), and_mask _ 63 6 (by decide) (by decide), show ((n + z) % 4294967296) % ((2 ^ 6 : Nat) : Int) = ((n % 64 + z) % 4294967296) % ((2 ^ 6 : Nat) : Int) from by omega]

theorem fair_mod {high : Int} (hh : isHigh high = true) (n : Int) (ok : Bool) (many : Int) : ∀ k,
    (∀ l i, law19_EntryFair.l0 k high n ok many l i = law19_EntryFair.l0 k high (n % two high) ok many l i) ∧
    (∀ l i x b, law19_EntryFair.j2 k high n ok many l i x b = law19_EntryFair.j2 k high (n % two high) ok many l i x b)
  | 0 => ⟨fun _ _ => rfl, fun _ _ _ _ => rfl⟩
  | k + 1 => by
    obtain ⟨h1, h2⟩ := fair_mod hh n ok many k
    refine ⟨fun l i => ?_, fun l i x b => ?_⟩
    · simp only [law19_EntryFair.l0, leaf_mod k hh n, h2]
    · simp only [law19_EntryFair.j2, h1]

theorem fair_1 : ∀ m : Fin 2, law19_EntryFair.l0 299 1 m.val true 2 (List.replicate 64 0) 0 = some true := by decide +kernel
theorem fair_2 : ∀ m : Fin 4, law19_EntryFair.l0 299 2 m.val true 4 (List.replicate 64 0) 0 = some true := by decide +kernel
theorem fair_3 : ∀ m : Fin 8, law19_EntryFair.l0 299 3 m.val true 8 (List.replicate 64 0) 0 = some true := by decide +kernel
theorem fair_4 : ∀ m : Fin 16, law19_EntryFair.l0 299 4 m.val true 16 (List.replicate 64 0) 0 = some true := by decide +kernel
theorem fair_5 : ∀ m : Fin 32, law19_EntryFair.l0 299 5 m.val true 32 (List.replicate 64 0) 0 = some true := by decide +kernel
theorem fair_6 : ∀ m : Fin 64, law19_EntryFair.l0 299 6 m.val true 64 (List.replicate 64 0) 0 = some true := by decide +kernel
theorem EntryFair : law19_EntryFair.Pure := by
  intro high cell _ hc
  rw [Lit.wf, Bool.and_eq_true, decide_eq_true_eq, decide_eq_true_eq] at hc
  have c0 : 0 ≤ cell := hc.1
  have c1 : cell ≤ 4294967295 := hc.2
  refine ⟨300, ?_⟩
  have hl : geo_Leaves.f 300 high = some (if isHigh high = true then (two high, 0) else (0, 2)) := at_rounds (g := fun k => geo_Leaves.f k high) (geo_Leaves.mono high) (by decide : 20 ≤ 300) (leaves_eq high)
  unfold law19_EntryFair.f
  rw [alive_fair, hl]
  cases hh : isHigh high with
  | false =>
    have he := leaf_eq (high := high) c0 c1 (k := 299) (by decide)
    rw [hh] at he
    simp only [Option.bind_some, Bool.false_eq_true, if_false, law19_EntryFair.j0, if_true, he]
    rfl
  | true =>
    have hb := high_bounds hh
    have m0 : 0 ≤ cell % two high := Int.emod_nonneg _ (by omega)
    have m1 : cell % two high < two high := Int.emod_lt_of_pos _ (by omega)
    have e : law19_EntryFair.j0 300 high cell true (two high) 0 false = law19_EntryFair.l0 299 high cell true (two high) (List.replicate 64 0) 0 := rfl
    simp only [Option.bind_some, if_true, Bool.not_true]
    rw [if_neg (by omega), e, (fair_mod hh cell true (two high) 299).1]
    generalize cell % two high = m at m0 m1
    obtain ⟨a, rfl⟩ := Int.eq_ofNat_of_zero_le m0
    obtain ⟨v1, v2, v3, v4, v5, v6⟩ := two_vals
    rcases high_cases hh with rfl | rfl | rfl | rfl | rfl | rfl
    · rw [v1] at m1 ⊢; exact fair_1 ⟨a, by omega⟩
    · rw [v2] at m1 ⊢; exact fair_2 ⟨a, by omega⟩
    · rw [v3] at m1 ⊢; exact fair_3 ⟨a, by omega⟩
    · rw [v4] at m1 ⊢; exact fair_4 ⟨a, by omega⟩
    · rw [v5] at m1 ⊢; exact fair_5 ⟨a, by omega⟩
    · rw [v6] at m1 ⊢; exact fair_6 ⟨a, by omega⟩

end Go.Proofs.Ytnnknbbgkjgbcaa.Pure
