/-
StreamGoesOn as a plain function, and that the call does so.
-/
import Derived.Test.YteichdiioidlcaaLawGoes
import Derived.Test.YteichdiioidlcaaRowWords
namespace Go.Proofs.Yteichdiioidlcaa
open Go.RowKit Go.Proofs.YteichdiioidlcaaW.PrintWords
set_option linter.unusedVariables false

def allIn (k : IntKind) (z : List Int) : Bool := z.all fun x => decide (k.min ≤ x) && decide (x ≤ k.max)
theorem allIn_spec {k : IntKind} {z : List Int} (h : allIn k z = true) : ∀ x ∈ z, k.min ≤ x ∧ x ≤ k.max := by
  intro x hx
  have := List.all_eq_true.1 h x hx
  simpa using this
theorem allIn_wf {k : IntKind} {z : List Int} (h : ∀ x ∈ z, (Lit.int k x).wf = true) : allIn k z = true := by
  rw [allIn, List.all_eq_true]
  intro x hx
  have := h x hx
  rw [Lit.wf, Bool.and_eq_true, decide_eq_true_eq, decide_eq_true_eq] at this
  simp only [Bool.and_eq_true, decide_eq_true_eq]
  exact ⟨this.1, this.2⟩
theorem u64_spec {n : Int} (h : allIn .u64 [n] = true) : 0 ≤ n ∧ n < 18446744073709551616 := by
  have := allIn_spec h n (by simp)
  simp [IntKind.min, IntKind.max, IntKind.signed, IntKind.bits] at this
  omega
theorem goes_all (k : List Int) (n a b : Int) (hkl : k.length = 32) (hk : ∀ x ∈ k, B8 x) (hn0 : 0 ≤ n) (hn1 : n < 18446744073709551616) (w : World) :
    Calls Try.prog 9 #[.agg ⟨k.map (Value.int .u8)⟩, .int .u64 n, .int .i64 a, .int .i64 b] w fun e w' => e = .returned (.bool true) ∧ Below w.heap.size w w' := by
  by_cases ha : a < 0 ∨ 2048 < a
  · by_cases hb : b < 0 ∨ 2048 < b
    · exact goes_bb k n a b hkl hk hn0 hn1 ha hb w
    · obtain ⟨m, rfl⟩ := Int.eq_ofNat_of_zero_le (show 0 ≤ b by omega)
      exact goes_bg k n a m hkl hk hn0 hn1 ha (by omega) w
  · obtain ⟨j, rfl⟩ := Int.eq_ofNat_of_zero_le (show 0 ≤ a by omega)
    by_cases hb : b < 0 ∨ 2048 < b
    · exact goes_gb k n j b hkl hk hn0 hn1 (by omega) hb w
    · obtain ⟨m, rfl⟩ := Int.eq_ofNat_of_zero_le (show 0 ≤ b by omega)
      by_cases hjm : j ≤ m
      · exact goes_gg k n j m hkl hk hn0 hn1 (by omega) (by omega) hjm w
      · exact goes_gx k n j m hkl hk hn0 hn1 (by omega) (by omega) (by omega) w

def law04_StreamGoesOn.f (r : Nat) (k : List Int) (n a b : Int) : Option Bool := if (allIn .u8 k && allIn .u64 [n]) = true then some true else none
theorem law04_StreamGoesOn.calls (j : Nat) (k : List Int) (n a b : Int) (r : Bool) (w : World) (hk : k.length = 32) (h : law04_StreamGoesOn.f j k n a b = some r) :
    Calls Try.prog 9 #[.agg (numCells .u8 k), .int .u64 n, .int .i64 a, .int .i64 b] w fun e w' => e = .returned (.bool r) ∧ Below w.heap.size w w' := by
  unfold law04_StreamGoesOn.f at h
  split at h
  · rename_i hz
    injection h with h
    subst h
    simp only [Bool.and_eq_true] at hz
    exact goes_all k n a b hk (allIn_spec hz.1) (u64_spec hz.2).1 (u64_spec hz.2).2 w
  · cases h
end Go.Proofs.Yteichdiioidlcaa
