/-
Shadow runs of ChaCha: the quarter rounds' contracts, and the functions that are run.
-/
import Derived.Test.YteichdiioidlcaaSx
import Derived.Test.YteichdiioidlcaaRefCha
import Derived.Test.YteichdiioidlcaaChaPure
namespace Go.Proofs.Yteichdiioidlcaa.SxCha
open Go Go.Sx Go.Proofs.Yteichdiioidlcaa
set_option linter.unusedVariables false
set_option linter.unusedSimpArgs false
instance globs : Globs := ⟨[]⟩

def quarterV (a b c d : Int) : Value := .agg ⟨[.int .u32 (quarterR ⟨a, b, c, d⟩).a, .int .u32 (quarterR ⟨a, b, c, d⟩).b, .int .u32 (quarterR ⟨a, b, c, d⟩).c, .int .u32 (quarterR ⟨a, b, c, d⟩).d]⟩
def undoV (a b c d : Int) : Value := .agg ⟨[.int .u32 (undoR ⟨a, b, c, d⟩).a, .int .u32 (undoR ⟨a, b, c, d⟩).b, .int .u32 (undoR ⟨a, b, c, d⟩).c, .int .u32 (undoR ⟨a, b, c, d⟩).d]⟩
noncomputable def con : Con := fun f args hp =>
  match args with
  | [.agg ⟨[.int .u32 a, .int .u32 b, .int .u32 c, .int .u32 d]⟩] =>
    match decide (f = 16) || decide (f = 17) with
    | true => some ⟨quarterV a b c d, [], []⟩
    | false => match decide (f = 15) || decide (f = 18) with
      | true => some ⟨undoV a b c d, [], []⟩
      | false => none
  | _ => none

theorem u32_in {n : Int} (h : U32 n) : IntKind.u32.min ≤ n ∧ n ≤ IntKind.u32.max := by
  unfold U32 at h
  simp [IntKind.min, IntKind.max, IntKind.signed, IntKind.bits]
  omega
theorem in_u32 {n : Int} (h : IntKind.u32.min ≤ n ∧ n ≤ IntKind.u32.max) : U32 n := by
  unfold U32
  simp [IntKind.min, IntKind.max, IntKind.signed, IntKind.bits] at h
  omega
theorem four_flat {q : Four} (h : q.U) : Flat (.agg ⟨[.int .u32 q.a, .int .u32 q.b, .int .u32 q.c, .int .u32 q.d]⟩) := by
  refine .agg fun v hv => ?_
  simp at hv
  rcases hv with rfl | rfl | rfl | rfl
  · exact .int (u32_in h.1)
  · exact .int (u32_in h.2.1)
  · exact .int (u32_in h.2.2.1)
  · exact .int (u32_in h.2.2.2)
theorem four_ok {D : Nat → Prop} {a b c d : Int} (h : ∀ v ∈ [Value.agg ⟨[.int .u32 a, .int .u32 b, .int .u32 c, .int .u32 d]⟩], Vok D v) : (Four.mk a b c d).U := by
  have h0 := h _ (List.mem_singleton.2 rfl)
  cases h0
  rename_i hc
  have key : ∀ n, Value.int .u32 n ∈ (Array.mk [Value.int .u32 a, .int .u32 b, .int .u32 c, .int .u32 d]) → U32 n := by
    intro n hn
    have := hc _ hn
    cases this
    rename_i hin
    exact in_u32 hin
  exact ⟨key a (by simp), key b (by simp), key c (by simp), key d (by simp)⟩

theorem four_sound {f : Nat} {fn : Func} {a b c d : Int} {q : Four} (hf : Try.prog.funcs[f]? = some fn) (hn : (fn.name == "runtime.NumGoroutine") = false) (hb : fn.body.isSome = true) (hq : (Four.mk a b c d).U → q.U)
    (h : (Four.mk a b c d).U → ∀ w, Calls Try.prog f #[.agg (Four.mk a b c d).cells] w fun e w' => e = .returned (.agg q.cells) ∧ RowKit.Below w.heap.size w w') (hp : Hp) :
    CallSound Try.prog f [.agg ⟨[.int .u32 a, .int .u32 b, .int .u32 c, .int .u32 d]⟩] hp ⟨.agg ⟨[.int .u32 q.a, .int .u32 q.b, .int .u32 q.c, .int .u32 q.d]⟩, [], []⟩ :=
  sound_of_below (enter_of hf hn hb) (fun hfl => four_flat (hq (four_ok hfl))) (fun D hD v hv => by
    rw [List.mem_singleton] at hv
    subst hv
    exact four_flat (q := ⟨a, b, c, d⟩) (four_ok hD)) (fun hfl w => h (four_ok hfl) w) hp

theorem con_sound : ∀ f args hp E, con f args hp = some E → CallSound Try.prog f args hp E := by
  intro f args hp E h
  unfold con at h
  split at h
  · rename_i a b c d
    split at h
    · rename_i hf
      cases h
      simp only [Bool.or_eq_true, decide_eq_true_eq] at hf
      rcases hf with rfl | rfl
      · exact four_sound Try.func16 (by decide +kernel) (by decide +kernel) quarterR_U (fun hu w => quarter_calls0 ⟨a, b, c, d⟩ w hu) hp
      · exact four_sound Try.func17 (by decide +kernel) (by decide +kernel) quarterR_U (fun hu w => refQuarter_calls ⟨a, b, c, d⟩ w hu) hp
    · split at h
      · rename_i hf
        cases h
        simp only [Bool.or_eq_true, decide_eq_true_eq] at hf
        rcases hf with rfl | rfl
        · exact four_sound Try.func15 (by decide +kernel) (by decide +kernel) undoR_U (fun hu w => callsIn_wide.1 (undo_in ⟨a, b, c, d⟩ w hu)) hp
        · exact four_sound Try.func18 (by decide +kernel) (by decide +kernel) undoR_U (fun hu w => refUndo_calls ⟨a, b, c, d⟩ w hu) hp
      · cases h
  · cases h

theorem fn_ok {P : Program} {f : Nat} {fn : Func} (h : P.funcs[f]? = some fn) (hn : (fn.name == "runtime.NumGoroutine") = false) (hb : fn.body.isSome = true) : P.funcs[f]? = some fn ∧ ∀ (vs : Array Value) (w : World), (callFunc f vs).run P w = .ok (.enter f vs) w := ⟨h, enter_of h hn hb⟩

/-- Functions that are run. -/
noncomputable def fns : List (Nat × Func) := [(19, Try.f19),
  (31, Try.f31),
  (32, Try.f32),
  (33, Try.f33),
  (20, Try.f20),
  (5, Try.f5),
  (21, Try.f21),
  (22, Try.f22),
  (34, Try.f34),
  (14, Try.f14),
  (23, Try.f23),
  (6, Try.f6),
  (7, Try.f7)]
theorem fns_ok : ∀ p ∈ fns, Try.prog.funcs[p.1]? = some p.2 ∧ (p.2.name == "runtime.NumGoroutine") = false ∧ p.2.body.isSome = true := by
  unfold fns
  simp only [List.forall_mem_cons, List.not_mem_nil, false_imp_iff, implies_true, and_true]
  exact ⟨⟨Try.func19, by decide +kernel, by decide +kernel⟩,
    ⟨Try.func31, by decide +kernel, by decide +kernel⟩,
    ⟨Try.func32, by decide +kernel, by decide +kernel⟩,
    ⟨Try.func33, by decide +kernel, by decide +kernel⟩,
    ⟨Try.func20, by decide +kernel, by decide +kernel⟩,
    ⟨Try.func5, by decide +kernel, by decide +kernel⟩,
    ⟨Try.func21, by decide +kernel, by decide +kernel⟩,
    ⟨Try.func22, by decide +kernel, by decide +kernel⟩,
    ⟨Try.func34, by decide +kernel, by decide +kernel⟩,
    ⟨Try.func14, by decide +kernel, by decide +kernel⟩,
    ⟨Try.func23, by decide +kernel, by decide +kernel⟩,
    ⟨Try.func6, by decide +kernel, by decide +kernel⟩,
    ⟨Try.func7, by decide +kernel, by decide +kernel⟩⟩

noncomputable def cx : Ctx := ⟨Try.prog, fns, con, [(5, 9, .bool true), (5, 15, .bool true), (5, 22, .bool true)]⟩

theorem findFn_mem : ∀ {T : List (Nat × Func)} {f : Nat} {fn : Func}, findFn T f = some fn → (f, fn) ∈ T
  | [], f, fn, h => by simp [findFn] at h
  | (g, fn') :: T, f, fn, h => by
    simp only [findFn] at h
    split at h
    · rename_i hg
      simp at hg
      cases h
      subst hg
      exact List.mem_cons_self
    · exact List.mem_cons_of_mem _ (findFn_mem h)

theorem cx_ok : CtxOk cx := by
  refine ⟨by decide +kernel, fun f fn h => ?_, con_sound⟩
  obtain ⟨h1, h2, h3⟩ := fns_ok _ (findFn_mem h)
  exact fn_ok h1 h2 h3
end Go.Proofs.Yteichdiioidlcaa.SxCha
