/-
Arrays and structs, read and written whole.
-/
import Derived.Test.YtknmokpnkcckeaaHandWords
import Derived.Test.YtknmokpnkcckeaaProg
import Derived.OpenShut
import Derived.Deep.MidRow
namespace Go.Proofs.Ytknmokpnkcckeaa
open Go.RowKit Go.Proofs.YtknmokpnkcckeaaW.PrintWords Go.Proofs.YtknmokpnkcckeaaW.PrintLast Go.Proofs.YtknmokpnkcckeaaW.PrintMore
set_option linter.unusedVariables false
set_option linter.unusedSimpArgs false

theorem bl {w a b : World} (h : Below w.heap.size w a) (k : Below a.heap.size a b) : Below w.heap.size w b := h.trans (k.mono h.size)
theorem ite_wanted {c : Bool} {p q : Prop} (hc : c = true) (h : p) : if c = true then p else q := by subst hc; exact h
section
variable {P : Program} {ops : Array Oper} {rest : List Oper} {op : Oper} {a : Act} {w : World} {Q : Exit → Act → World → Prop}
theorem load_whole {ty : TypeId} {b u : Nat} {cs : Array Value} {d : TypeDesc} (hg : w.heap[b]? = some (.cells cs u (0, 0))) (hu : P.underlying ty = some d) (hd : d.isRow = true) (hi : (P.info? ty).map (·.size) = some cs.size) :
    (Instr.loadAt ty (.pointer (some ⟨b, 0, none⟩))).run P w = .ok (.agg cs) w := by
  have := run_loadAt_mid w b 0 ty cs.toList d (fun j v hv => by rw [Nat.zero_add, blk_cell hg j]; simpa using hv) hu hd (by rw [hi, Array.length_toList])
  simpa using this
theorem setAll {b t : Nat} {cs : Array Value} {vs : List Value} (h : w.heap[b]? = some (.cells cs t (0, 0))) (hl : cs.size = vs.length) : (w.setCells b 0 vs).heap[b]? = some (.cells ⟨vs⟩ t (0, 0)) := by
  obtain ⟨cur, h1, h2, h3⟩ := setCells_row vs 0 w cs h (by omega)
  rw [h1]
  have : cur.toList = vs := by rw [h3, List.take_zero, List.nil_append, List.drop_of_length_le (by rw [Array.length_toList]; omega), List.append_nil]
  rw [show cur = ⟨vs⟩ from by rw [← this]]
theorem setAll_below {B b : Nat} {w0 : World} (vs : List Value) (h : Below B w0 w) (hb : B ≤ b) : Below B w0 (w.setCells b 0 vs) := by
  obtain ⟨s1, s2, s3, s4⟩ := setCells_same b vs 0 w
  refine ⟨s1.trans h.os, s2.trans h.tape, s3.trans h.output, by rw [s4]; exact h.size, fun k hk => ?_⟩
  rw [setCells_far vs 0 k (by omega)]
  exact h.block k hk
/-- A whole value is stored over a block's cells. -/
theorem op_store {K : Act → World → Prop} (ty : TypeId) (x y : Operand) (b u : Nat) (cs cs' : Array Value) (ho : op.op = .store ty x y) (hx : a.eval x = .pointer (some ⟨b, 0, none⟩)) (hy : a.eval y = .agg cs') (hg : w.heap[b]? = some (.cells cs u (0, 0)))
    (hs : cs.size = cs'.size) (hi : (P.info? ty).map (·.size) = some cs'.size) (h1 : ∀ v ∈ cs'.toList, v.oneCell' = true)
    (h : ∀ w1, w1.heap[b]? = some (.cells cs' u (0, 0)) → (∀ k, k ≠ b → w1.heap[k]? = w.heap[k]?) → (∀ B w0, Below B w0 w → B ≤ b → Below B w0 w1) → w1.heap.size = w.heap.size → K (a.put op.dst undef) w1) : op.wp P a w K Q := by
  refine wp_store_mid ty x y ho b 0 cs' hx hy (fun j hj => ⟨?_, ?_⟩) hi ?_ (h _ ?_ ?_ ?_ ?_)
  · rw [blk_cell hg]
    simp
    omega
  · exact blk_frozen hg _
  · exact Array.all_eq_true_iff_forall_mem.2 (fun v hv => h1 v (by simpa using hv))
  · have := setAll (vs := cs'.toList) hg (by rw [hs, Array.length_toList])
    simpa using this
  · exact fun k hk => setCells_far _ 0 k hk
  · exact fun B w0 hb hle => setAll_below _ hb hle
  · exact (setCells_same b _ 0 w).2.2.2
/-- A copy whose run is known. -/
theorem op_copy {K : Act → World → Prop} (d s : Operand) (t t' : TypeId) (ho : op.op = .call { callee := .builtin .copy, args := #[d, s], argTypes := #[t, t'] }) (v u : Value) (hd : a.eval d = v) (hs : a.eval s = u) {v' : Value} {w' : World}
    (hr : (Builtin.copy_ #[t, t'] op.type #[v, u]).run P w = .ok v' w') (h : K (a.put op.dst v') w') : op.wp P a w K Q := by
  unfold Oper.wp execOp
  simp only [ho, resolve, invoke, builtin, Sem.run_bind, Sem.run_pure, Result.andThen_ok, List.map_toArray, List.map_cons, List.map_nil, hd, hs, hr]
  exact h
theorem wpList_store (ty : TypeId) (x y : Operand) (b u : Nat) (cs cs' : Array Value) (hgd : op.guard = none) (ho : op.op = .store ty x y) (hx : a.eval x = .pointer (some ⟨b, 0, none⟩)) (hy : a.eval y = .agg cs') (hg : w.heap[b]? = some (.cells cs u (0, 0)))
    (hs : cs.size = cs'.size) (hi : (P.info? ty).map (·.size) = some cs'.size) (h1 : ∀ v ∈ cs'.toList, v.oneCell' = true)
    (h : ∀ w1, w1.heap[b]? = some (.cells cs' u (0, 0)) → (∀ k, k ≠ b → w1.heap[k]? = w.heap[k]?) → (∀ B w0, Below B w0 w → B ≤ b → Below B w0 w1) → w1.heap.size = w.heap.size → wpList P ops Q rest (a.put op.dst undef) w1) : wpList P ops Q (op :: rest) a w := by
  refine wpList_plain hgd fun K hK => wp_store_mid ty x y ho b 0 cs' hx hy (fun j hj => ⟨?_, ?_⟩) hi ?_ (hK _ _ (h _ ?_ ?_ ?_ ?_))
  · rw [blk_cell hg]
    simp
    omega
  · exact blk_frozen hg _
  · exact Array.all_eq_true_iff_forall_mem.2 (fun v hv => h1 v (by simpa using hv))
  · have := setAll (vs := cs'.toList) hg (by rw [hs, Array.length_toList])
    simpa using this
  · exact fun k hk => setCells_far _ 0 k hk
  · exact fun B w0 hb hle => setAll_below _ hb hle
  · exact (setCells_same b _ 0 w).2.2.2
end
end Go.Proofs.Ytknmokpnkcckeaa
