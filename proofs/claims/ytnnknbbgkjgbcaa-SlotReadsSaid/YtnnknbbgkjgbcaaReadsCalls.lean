/-
SlotReads as a plain function, and that the call does so.
-/
import Derived.Test.YtnnknbbgkjgbcaaLawReads
import Derived.Test.YtnnknbbgkjgbcaaRowWords
namespace Go.Proofs.Ytnnknbbgkjgbcaa
open Go.RowKit Go.Proofs.YtnnknbbgkjgbcaaW.PrintWords Go.Proofs.Ytnnknbbgkjgbcaa.PAll
set_option linter.unusedVariables false

def law09_SlotReads.f (K : Nat) (a0 a1 a2 a3 : Int) (l1 : List Int) : Option Bool :=
  if 1000 < l1.length then some true else
  match slot_Read.f a0 a1 a2 a3 l1 with
  | some p => if ref09_Read.f K a0 a1 a2 a3 l1 = some p ∧ ref09_Same.f p.1 p.2.1 p.2.2.1 p.1 p.2.1 p.2.2.1 = some true ∧ ref01_Same.f l1 l1 = some true then some true else none
  | none => none
theorem law09_SlotReads.calls (K : Nat) (a0_0 a0_1 a0_2 a0_3 : Int) (A1 : Option Addr) (c1 : Nat) (l1 : List Int) (r : Bool) (w : World) (hr1 : Kd.C (Kd.int .u8) w A1 l1.length l1) (hc1 : l1.length ≤ c1) (h : law09_SlotReads.f K a0_0 a0_1 a0_2 a0_3 l1 = some r) :
    Calls Try.prog 5 #[.agg #[.int .i64 a0_0, .int .i64 a0_1, .int .i64 a0_2, .int .i64 a0_3], .slice A1 l1.length c1] w fun e w' => e = .returned (.bool r) ∧ Below w.heap.size w w' := by
  unfold law09_SlotReads.f at h
  split at h
  · rename_i hz
    injection h with h
    subst h
    exact reads_big _ _ _ _ A1 c1 _ hz w
  · rename_i hz
    split at h
    · rename_i p h1
      split at h
      · rename_i hy
        injection h with h
        subst h
        obtain ⟨h2, h3, h4⟩ := hy
        exact reads_small K a0_0 a0_1 a0_2 a0_3 A1 c1 l1 p.1 p.2.1 p.2.2.1 p.2.2.2.1 p.2.2.2.2 (by omega) h1 h2 h3 h4 w hr1 hc1
      · cases h
    · cases h
end Go.Proofs.Ytnnknbbgkjgbcaa
