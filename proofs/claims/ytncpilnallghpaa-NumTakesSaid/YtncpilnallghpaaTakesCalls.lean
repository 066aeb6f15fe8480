/-
NumTakes as a plain function, and that the call does so.
-/
import Derived.Test.YtncpilnallghpaaLawTakes
import Derived.Test.YtncpilnallghpaaRowWords
namespace Go.Proofs.Ytncpilnallghpaa
open Go.RowKit Go.Proofs.YtncpilnallghpaaW.PrintWords Go.Proofs.Ytncpilnallghpaa.PAll
set_option linter.unusedVariables false

def law01_NumTakes.f (K : Nat) (l0 l1 : List Int) : Option Bool :=
  if 5000 < l0.length ∨ 100 < l1.length then some true else
  match num_Take.f K l0 l1, num_Cut.f l0 l1 with
  | some p, some q => if ref01_Take.f K l0 l1 = some p ∧ ref01_Cut.f K l0 l1 = some q ∧ ref01_SameNumbers.f K p.1 p.1 = some true ∧ ref01_SameAll.f K q.1 q.1 = some true ∧ ref01_Same.f l0 l0 = some true ∧ ref01_SameInts.f K l1 l1 = some true ∧ q.1.length ≤ 100 then some true else none
  | _, _ => none
theorem law01_NumTakes.calls (K : Nat) (A0 : Option Addr) (c0 : Nat) (l0 : List Int) (A1 : Option Addr) (c1 : Nat) (l1 : List Int) (r : Bool) (w : World) (hr0 : Kd.C (Kd.int .u8) w A0 l0.length l0) (hc0 : l0.length ≤ c0) (hr1 : Kd.C (Kd.int .i64) w A1 l1.length l1) (hc1 : l1.length ≤ c1) (h : law01_NumTakes.f K l0 l1 = some r) :
    Calls Try.prog 5 #[.slice A0 l0.length c0, .slice A1 l1.length c1] w fun e w' => e = .returned (.bool r) ∧ Below w.heap.size w w' := by
  unfold law01_NumTakes.f at h
  split at h
  · rename_i hz
    injection h with h
    subst h
    refine (takes_big A0 c0 _ A1 c1 _ hz w).mono ?_
    rintro e w' ⟨rfl, rfl⟩
    exact ⟨rfl, Below.refl _ _⟩
  · rename_i hz
    split at h
    · rename_i p q h1 h2
      split at h
      · rename_i hy
        injection h with h
        subst h
        obtain ⟨h3, h4, h5, h6, h7, h8, h9⟩ := hy
        exact takes_small K A0 c0 l0 A1 c1 l1 p.1 p.2 q.1 q.2 (by omega) (by omega) h1 h3 h2 h4 h5 h6 h7 h8 h9 w hr0 hc0 hr1 hc1
      · cases h
    · cases h
end Go.Proofs.Ytncpilnallghpaa
