/-
Law SlotNames' run, over the program's own text.
-/
import Derived.Test.YtnnknbbgkjgbcaaSx
import Derived.Test.YtnnknbbgkjgbcaaChecked
namespace Go.Proofs.Ytnnknbbgkjgbcaa.SxSlotNames
open Go Go.Sx Go.Proofs.Ytnnknbbgkjgbcaa
set_option linter.unusedVariables false
instance globs : Globs := ⟨[]⟩
noncomputable def fns : List (Nat × Func) := [(10, Try.f10), (16, Try.f16), (20, Try.f20), (22, Try.f22), (24, Try.f24), (27, Try.f27), (30, Try.f30), (31, Try.f31), (38, Try.f38), (39, Try.f39), (40, Try.f40), (41, Try.f41), (44, Try.f44), (50, Try.f50), (52, Try.f52), (53, Try.f53), (56, Try.f56), (59, Try.f59), (60, Try.f60), (63, Try.f63), (64, Try.f64), (65, Try.f65), (67, Try.f67), (68, Try.f68), (69, Try.f69), (70, Try.f70), (72, Try.f72), (73, Try.f73), (74, Try.f74)]
theorem fns_ok : ∀ p ∈ fns, FnOk Try.prog p := by
  unfold fns
  refine fnsAll_cons Try.func10 (by decide +kernel) (by decide +kernel) ?_
  refine fnsAll_cons Try.func16 (by decide +kernel) (by decide +kernel) ?_
  refine fnsAll_cons Try.func20 (by decide +kernel) (by decide +kernel) ?_
  refine fnsAll_cons Try.func22 (by decide +kernel) (by decide +kernel) ?_
  refine fnsAll_cons Try.func24 (by decide +kernel) (by decide +kernel) ?_
  refine fnsAll_cons Try.func27 (by decide +kernel) (by decide +kernel) ?_
  refine fnsAll_cons Try.func30 (by decide +kernel) (by decide +kernel) ?_
  refine fnsAll_cons Try.func31 (by decide +kernel) (by decide +kernel) ?_
  refine fnsAll_cons Try.func38 (by decide +kernel) (by decide +kernel) ?_
  refine fnsAll_cons Try.func39 (by decide +kernel) (by decide +kernel) ?_
  refine fnsAll_cons Try.func40 (by decide +kernel) (by decide +kernel) ?_
  refine fnsAll_cons Try.func41 (by decide +kernel) (by decide +kernel) ?_
  refine fnsAll_cons Try.func44 (by decide +kernel) (by decide +kernel) ?_
  refine fnsAll_cons Try.func50 (by decide +kernel) (by decide +kernel) ?_
  refine fnsAll_cons Try.func52 (by decide +kernel) (by decide +kernel) ?_
  refine fnsAll_cons Try.func53 (by decide +kernel) (by decide +kernel) ?_
  refine fnsAll_cons Try.func56 (by decide +kernel) (by decide +kernel) ?_
  refine fnsAll_cons Try.func59 (by decide +kernel) (by decide +kernel) ?_
  refine fnsAll_cons Try.func60 (by decide +kernel) (by decide +kernel) ?_
  refine fnsAll_cons Try.func63 (by decide +kernel) (by decide +kernel) ?_
  refine fnsAll_cons Try.func64 (by decide +kernel) (by decide +kernel) ?_
  refine fnsAll_cons Try.func65 (by decide +kernel) (by decide +kernel) ?_
  refine fnsAll_cons Try.func67 (by decide +kernel) (by decide +kernel) ?_
  refine fnsAll_cons Try.func68 (by decide +kernel) (by decide +kernel) ?_
  refine fnsAll_cons Try.func69 (by decide +kernel) (by decide +kernel) ?_
  refine fnsAll_cons Try.func70 (by decide +kernel) (by decide +kernel) ?_
  refine fnsAll_cons Try.func72 (by decide +kernel) (by decide +kernel) ?_
  refine fnsAll_cons Try.func73 (by decide +kernel) (by decide +kernel) ?_
  refine fnsAll_cons Try.func74 (by decide +kernel) (by decide +kernel) ?_
  exact fnsAll_nil
noncomputable def cx0 : Ctx := ⟨Try.prog, fns, noCon, []⟩
theorem cx0_ok : CtxOk cx0 := ctx_ok (by decide +kernel) fns_ok noCon_sound
def m0 : Memo := ⟨20, [.agg ⟨[.int .i64 8, .int .i64 4, .int .i64 3, .int .i64 88]⟩], .tuple ⟨[.int .i64 2, .int .i64 0]⟩⟩
theorem run0 : (callFn cx0 (exec cx0 3000) m0.f m0.args []).map (fun p => (p.1.val, p.2)) = some (m0.val, []) := by
  kernel_rfl
theorem m0_ok : MemoOk Try.prog m0 := memoOk_of_run (cx := cx0) rfl cx0_ok 3000 (enter_of Try.func20 (by decide +kernel) (by decide +kernel)) run0 (by decide +kernel) (by decide +kernel)
noncomputable def con0 : Con := memoCon noCon [m0]
theorem con0_ok : ∀ f args hp E, con0 f args hp = some E → CallSound Try.prog f args hp E := memo_sound noCon_sound (fun m hm => by rw [List.mem_singleton] at hm; subst hm; exact m0_ok)
noncomputable def cx1 : Ctx := ⟨Try.prog, fns, con0, []⟩
theorem cx1_ok : CtxOk cx1 := ctx_ok (by decide +kernel) fns_ok con0_ok
def m1 : Memo := ⟨40, [], .bool true⟩
theorem run1 : (callFn cx1 (exec cx1 3000) m1.f m1.args []).map (fun p => (p.1.val, p.2)) = some (m1.val, []) := by
  kernel_rfl
theorem m1_ok : MemoOk Try.prog m1 := memoOk_of_run (cx := cx1) rfl cx1_ok 3000 (enter_of Try.func40 (by decide +kernel) (by decide +kernel)) run1 (by decide +kernel) (by decide +kernel)
noncomputable def con1 : Con := memoCon con0 [m1]
theorem con1_ok : ∀ f args hp E, con1 f args hp = some E → CallSound Try.prog f args hp E := memo_sound con0_ok (fun m hm => by rw [List.mem_singleton] at hm; subst hm; exact m1_ok)
noncomputable def cx : Ctx := ⟨Try.prog, fns, con1, []⟩
theorem cx_ok : CtxOk cx := ctx_ok (by decide +kernel) fns_ok con1_ok
theorem run : (callFn cx (exec cx 3000) 10 [] []).map (fun p => (p.1.val, p.2)) = some (.bool true, []) := by
  kernel_rfl
theorem calls (w : World) : Calls Try.prog 10 #[] w fun e w' => e = .returned (.bool true) ∧ RowKit.Below w.heap.size w w' := law_of_run rfl cx_ok 3000 run w
end Go.Proofs.Ytnnknbbgkjgbcaa.SxSlotNames
