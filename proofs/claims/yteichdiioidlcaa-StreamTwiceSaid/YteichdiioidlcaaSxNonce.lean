/-
Shadow run of stream.Nonce: for any number.
-/
import Derived.Test.YteichdiioidlcaaSxTold
import Derived.Test.YteichdiioidlcaaChecked
namespace Go.Proofs.Yteichdiioidlcaa.SxCha
open Go Go.Sx Go.Proofs.Yteichdiioidlcaa
set_option linter.unusedVariables false
set_option linter.unusedSimpArgs false

noncomputable def fnsN : List (Nat × Func) := [(36, Try.f36), (39, Try.f39), (40, Try.f40), (41, Try.f41), (42, Try.f42), (43, Try.f43), (44, Try.f44), (45, Try.f45)]
theorem fnsN_ok : ∀ p ∈ fnsN, FnOk Try.prog p := by
  unfold fnsN
  refine fnsAll_cons Try.func36 (by decide +kernel) (by decide +kernel) ?_
  refine fnsAll_cons Try.func39 (by decide +kernel) (by decide +kernel) ?_
  refine fnsAll_cons Try.func40 (by decide +kernel) (by decide +kernel) ?_
  refine fnsAll_cons Try.func41 (by decide +kernel) (by decide +kernel) ?_
  refine fnsAll_cons Try.func42 (by decide +kernel) (by decide +kernel) ?_
  refine fnsAll_cons Try.func43 (by decide +kernel) (by decide +kernel) ?_
  refine fnsAll_cons Try.func44 (by decide +kernel) (by decide +kernel) ?_
  refine fnsAll_cons Try.func45 (by decide +kernel) (by decide +kernel) ?_
  exact fnsAll_nil
noncomputable def cxN : Ctx := ⟨Try.prog, fnsN, noCon, [(39, 49, .bool false)]⟩
theorem cxN_ok : CtxOk cxN := ctx_ok (by decide +kernel) fnsN_ok noCon_sound

def sh8 (x : Int) : Int := x.fdiv (2 ^ min (Int.toNat 8) IntKind.u64.bits)
theorem sh8_eq (x : Int) : sh8 x = x / 256 := by
  unfold sh8
  rw [Int.fdiv_eq_ediv_of_nonneg _ (by decide)]
  rfl
def nonceL (n : Int) : List Int := [0, 0, 0, 0, IntKind.u8.wrap n, IntKind.u8.wrap (sh8 n), IntKind.u8.wrap (sh8 (sh8 n)), IntKind.u8.wrap (sh8 (sh8 (sh8 n))), IntKind.u8.wrap (sh8 (sh8 (sh8 (sh8 n)))), IntKind.u8.wrap (sh8 (sh8 (sh8 (sh8 (sh8 n))))), IntKind.u8.wrap (sh8 (sh8 (sh8 (sh8 (sh8 (sh8 n)))))), IntKind.u8.wrap (sh8 (sh8 (sh8 (sh8 (sh8 (sh8 (sh8 n))))))) ]
theorem nonce_run (n : Int) : (callFn cxN (exec cxN 2000) 36 [.int .u64 n] []).map (fun p => (p.1.val, p.2)) =
    some (.agg ⟨(nonceL n).map (Value.int .u8)⟩, [(.bool (decide (sh8 (sh8 (sh8 (sh8 (sh8 (sh8 (sh8 (sh8 n))))))) > 0)), .bool false)]) := by
  kernel_rfl
theorem nonceL_all (n : Int) : ∀ x ∈ nonceL n, IntKind.u8.min ≤ x ∧ x ≤ IntKind.u8.max := by
  intro x hx
  simp only [nonceL, List.mem_cons, List.not_mem_nil, or_false] at hx
  have h0 : IntKind.u8.min ≤ (0 : Int) ∧ (0 : Int) ≤ IntKind.u8.max := by decide
  rcases hx with rfl | rfl | rfl | rfl | rfl | rfl | rfl | rfl | rfl | rfl | rfl | rfl
  all_goals first | exact h0 | exact wrap_in .u8 _
theorem nonce_calls (n : Int) (h0 : 0 ≤ n) (h1 : n < 18446744073709551616) (w : World) :
    Calls Try.prog 36 #[.int .u64 n] w fun e w' => e = .returned (.agg ⟨(nonceL n).map (Value.int .u8)⟩) ∧ RowKit.Below w.heap.size w w' :=
  below_of_run (cx := cxN) rfl cxN_ok 2000 (nonce_run n) (fun p hp => by
    rw [List.mem_singleton] at hp
    subst hp
    simp only [sh8_eq, Value.bool.injEq, decide_eq_false_iff_not]
    omega) (fun v hv => by
    rw [List.mem_singleton] at hv
    subst hv
    exact .int (by simp [IntKind.min, IntKind.max, IntKind.signed, IntKind.bits]; omega)) (nums_flat fun x hx => nonceL_all n x hx) w
end Go.Proofs.Yteichdiioidlcaa.SxCha
