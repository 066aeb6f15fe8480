/-
Law NumNames' run, over the program's own text.
-/
import Derived.Test.YtncpilnallghpaaSx
import Derived.Test.YtncpilnallghpaaChecked
namespace Go.Proofs.Ytncpilnallghpaa.SxNumNames
open Go Go.Sx Go.Proofs.Ytncpilnallghpaa
set_option linter.unusedVariables false
instance globs : Globs := ⟨[]⟩
noncomputable def fns : List (Nat × Func) := [(9, Try.f9), (21, Try.f21), (23, Try.f23), (25, Try.f25), (26, Try.f26), (28, Try.f28), (30, Try.f30), (32, Try.f32), (40, Try.f40), (46, Try.f46), (49, Try.f49), (52, Try.f52), (58, Try.f58), (59, Try.f59), (63, Try.f63)]
theorem fns_ok : ∀ p ∈ fns, FnOk Try.prog p := by
  unfold fns
  refine fnsAll_cons Try.func9 (by decide +kernel) (by decide +kernel) ?_
  refine fnsAll_cons Try.func21 (by decide +kernel) (by decide +kernel) ?_
  refine fnsAll_cons Try.func23 (by decide +kernel) (by decide +kernel) ?_
  refine fnsAll_cons Try.func25 (by decide +kernel) (by decide +kernel) ?_
  refine fnsAll_cons Try.func26 (by decide +kernel) (by decide +kernel) ?_
  refine fnsAll_cons Try.func28 (by decide +kernel) (by decide +kernel) ?_
  refine fnsAll_cons Try.func30 (by decide +kernel) (by decide +kernel) ?_
  refine fnsAll_cons Try.func32 (by decide +kernel) (by decide +kernel) ?_
  refine fnsAll_cons Try.func40 (by decide +kernel) (by decide +kernel) ?_
  refine fnsAll_cons Try.func46 (by decide +kernel) (by decide +kernel) ?_
  refine fnsAll_cons Try.func49 (by decide +kernel) (by decide +kernel) ?_
  refine fnsAll_cons Try.func52 (by decide +kernel) (by decide +kernel) ?_
  refine fnsAll_cons Try.func58 (by decide +kernel) (by decide +kernel) ?_
  refine fnsAll_cons Try.func59 (by decide +kernel) (by decide +kernel) ?_
  refine fnsAll_cons Try.func63 (by decide +kernel) (by decide +kernel) ?_
  exact fnsAll_nil
noncomputable def cx : Ctx := ⟨Try.prog, fns, noCon, []⟩
theorem cx_ok : CtxOk cx := ctx_ok (by decide +kernel) fns_ok noCon_sound
theorem run : (callFn cx (exec cx 2000) 9 [] []).map (fun p => (p.1.val, p.2)) = some (.bool true, []) := by
  kernel_rfl
theorem calls (w : World) : Calls Try.prog 9 #[] w fun e w' => e = .returned (.bool true) ∧ RowKit.Below w.heap.size w w' := law_of_run rfl cx_ok 2000 run w
end Go.Proofs.Ytncpilnallghpaa.SxNumNames
