/-
ChachaTold as a plain function, and that the call does so.
-/
import Derived.Test.YteichdiioidlcaaSxTold
import Derived.Test.YteichdiioidlcaaRowWords
namespace Go.Proofs.Yteichdiioidlcaa
open Go.RowKit Go.Proofs.YteichdiioidlcaaW.PrintWords
set_option linter.unusedVariables false

def allIn (k : IntKind) (z : List Int) : Bool := z.all fun x => decide (k.min ≤ x) && decide (x ≤ k.max)
theorem allIn_spec {k : IntKind} {z : List Int} (h : allIn k z = true) : ∀ x ∈ z, k.min ≤ x ∧ x ≤ k.max := by
  intro x hx
  have := List.all_eq_true.1 h x hx
  simpa using this
theorem allIn_wf {k : IntKind} {z : List Int} (h : ∀ x ∈ z, (Lit.int k x).wf = true) : allIn k z = true := by
  rw [allIn, List.all_eq_true]
  intro x hx
  have := h x hx
  rw [Lit.wf, Bool.and_eq_true, decide_eq_true_eq, decide_eq_true_eq] at this
  simp only [Bool.and_eq_true, decide_eq_true_eq]
  exact ⟨this.1, this.2⟩
def law03_ChachaTold.f (r : Nat) (k : List Int) (c : Int) (n : List Int) : Option Bool := if (allIn .u8 k && allIn .u32 [c] && allIn .u8 n) = true then some true else none
theorem law03_ChachaTold.calls (j : Nat) (k : List Int) (c : Int) (n : List Int) (r : Bool) (w : World) (hk : k.length = 32) (hn : n.length = 12) (h : law03_ChachaTold.f j k c n = some r) :
    Calls Try.prog 7 #[.agg (numCells .u8 k), .int .u32 c, .agg (numCells .u8 n)] w fun e w' => e = .returned (.bool r) ∧ Below w.heap.size w w' := by
  unfold law03_ChachaTold.f at h
  split at h
  · rename_i hz
    injection h with h
    subst h
    simp only [Bool.and_eq_true] at hz
    obtain ⟨⟨h1, h2⟩, h3⟩ := hz
    exact SxCha.told_calls k n c hk hn (allIn_spec h1) (allIn_spec h3) (SxCha.in_u32 (allIn_spec h2 c (by simp))) w
  · cases h
end Go.Proofs.Yteichdiioidlcaa
