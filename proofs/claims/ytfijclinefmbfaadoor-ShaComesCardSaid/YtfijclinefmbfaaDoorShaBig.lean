/-
ShaParts: the law's walk where a length is great.
-/
import Derived.Test.YtfijclinefmbfaaDoorShaBoth
import Derived.Test.YtfijclinefmbfaaDoorShaWhole
namespace Go.Proofs.YtfijclinefmbfaaDoor
open Go.RowKit Go.Proofs.YtfijclinefmbfaaDoorW.PrintWords Go.Proofs.YtfijclinefmbfaaDoorW.PrintLast Go.Proofs.YtfijclinefmbfaaDoorW.PrintMore Go.Proofs.YtfijclinefmbfaaDoor.PAll
set_option linter.unusedVariables false
set_option linter.unusedSimpArgs false

section
variable {P : Program} {ops : Array Oper} {rest : List Oper} {op : Oper} {a : Act} {w : World} {Q : Exit → Act → World → Prop}
/-- The same for a guarded load that comes to be done. -/
theorem wpList_load_g (ty : TypeId) (x : Operand) (b u : Nat) (cs : Array Value) (d : TypeDesc) (hw : Region.wanted op (yielded ops a.tmps) = true) (ho : op.op = .load ty x) (hx : a.eval x = .pointer (some ⟨b, 0, none⟩)) (hg : w.heap[b]? = some (.cells cs u (0, 0)))
    (hu : P.underlying ty = some d) (hd : d.isRow = true) (hi : (P.info? ty).map (·.size) = some cs.size) (h : wpList P ops Q rest (a.put op.dst (.agg cs)) w) : wpList P ops Q (op :: rest) a w := by
  refine wpList_step fun K hK => ?_
  rw [if_pos hw]
  have hl := load_whole hg hu hd hi
  have hr : (execOp a.eval op).run P w = .ok (.value (.agg cs)) w := by
    unfold execOp
    simp only [ho, hx, Sem.run_bind, hl, Result.andThen_ok, Sem.run_pure]
  unfold Oper.wp
  rw [hr]
  exact hK _ _ h
/-- A part of a block, from its beginning on. -/
theorem wpList_part_g (ty : TypeId) (x : Operand) (b u : Nat) (vs tail : List Value) (d : TypeDesc) (hw : Region.wanted op (yielded ops a.tmps) = true) (ho : op.op = .load ty x) (hx : a.eval x = .pointer (some ⟨b, 0, none⟩)) (hg : w.heap[b]? = some (.cells ⟨vs ++ tail⟩ u (0, 0)))
    (hu : P.underlying ty = some d) (hd : d.isRow = true) (hi : (P.info? ty).map (·.size) = some vs.length) (h : wpList P ops Q rest (a.put op.dst (.agg ⟨vs⟩)) w) : wpList P ops Q (op :: rest) a w := by
  refine wpList_step fun K hK => ?_
  rw [if_pos hw]
  have hl := run_loadAt_mid w b 0 ty vs d (fun j v hv => by
    rw [Nat.zero_add, blk_cell hg j, List.getElem?_toArray, List.getElem?_append_left (List.getElem?_eq_some_iff.1 hv).1]
    exact hv) hu hd hi
  have hr : (execOp a.eval op).run P w = .ok (.value (.agg ⟨vs⟩)) w := by
    unfold execOp
    simp only [ho, hx, Sem.run_bind, hl, Result.andThen_ok, Sem.run_pure]
  unfold Oper.wp
  rw [hr]
  exact hK _ _ h
end
theorem eq_words {l : List Int} (hl : l.length = 8) (W : World) : (Op.equalIn 10000 31 (.agg ⟨l.map (Value.int .u32)⟩) (.agg ⟨l.map (Value.int .u32)⟩)).run Tryd.prog W = .ok true W := by
  obtain ⟨i, hi, _⟩ := info_parts (show (Tryd.prog.info? 30).map (fun i => (i.zero, i.size, i.bytes)) = some (some (.int .u32 0), 1, 4) by kernel_rfl)
  rw [run_equalIn_array W 9999 _ _ Tryd.underlying31 hi, show Tryd.prog.cellsOf 30 = 1 from by kernel_rfl, show (⟨l.map (Value.int .u32)⟩ : Array Value) = numCells .u32 l from rfl, run_eqItems_num W 9998 Tryd.underlying30 l l rfl _ (by simp; omega)]
  simp
def law02_ShaParts.f (k : Nat) (hs r : List Int) (m : Int) (l0 l1 : List Int) : Option Bool := some true

set_option maxHeartbeats 4000000 in
set_option maxRecDepth 100000 in
theorem parts_big (hs : List Int) (R : Option Addr) (rc : Nat) (n : Nat) (m : Int) (A : Option Addr) (ca : Nat) (la : List Int) (B : Option Addr) (cb : Nat) (lb : List Int) (w : World) (hh : hs.length = 8) (hbig : 500 < n ∨ 500 < la.length ∨ 500 < lb.length) (hk : Ktab w) :
    Calls Tryd.prog 6 #[.agg (sumC hs R n rc m), .slice A la.length ca, .slice B lb.length cb] w fun e w' => e = .returned (.bool true) ∧ Below w.heap.size w w' := by
  have HK := Aside0.mk hk
  have HG0 := Aside0.mk (heap_alloc_new w (.cells (sumC hs R n rc m) 34))
  have HB0 := Aside0.mk (below_alloc (Below.refl w.heap.size w) (.cells (sumC hs R n rc m) 34))
  have HC8 := Aside0.mk ((blk_cell HG0.out 8).trans (sum_cell8 R n rc m hh))
  clear hk
  obtain ⟨D, hD⟩ : ∃ D : Bool × Bool × Bool, (decide ((500 : Int) < (n : Int)) = D.1 ∧ decide ((500 : Int) < (la.length : Int)) = D.2.1 ∧ decide ((500 : Int) < (lb.length : Int)) = D.2.2) := ⟨(_, _, _), rfl, rfl, rfl⟩
  have hD2 : D.1 = true ∨ D.2.1 = true ∨ D.2.2 = true := by
    obtain ⟨a1, a2, a3⟩ := hD
    rw [← a1, ← a2, ← a3]
    rcases hbig with h | h | h
    · exact .inl (decide_eq_true (by omega))
    · exact .inr (.inl (decide_eq_true (by omega)))
    · exact .inr (.inr (decide_eq_true (by omega)))
  obtain ⟨d0, d1, d2⟩ := D
  obtain ⟨h0, h1, h2⟩ := hD
  dsimp only at h0 h1 h2 hD2
  clear hbig hh HG0
  rcases d0 with _ | _ <;> rcases d1 with _ | _ <;> rcases d2 with _ | _ <;> first
    | (simp at hD2; done)
    | (clear hD2
       go_enter Tryd.func6, Tryd.ntmps6
       repeat (first
         | (go_at_call 20; (with_reducible refine (alive_calls _ (HK.out.below HB0.out)).mono ?_); rintro e1 w1 ⟨rfl, hb1⟩; have HB1 := Aside0.mk (bl HB0.out hb1); have hc8 : w1.cell? ⟨w.heap.size, 8, none⟩ = some (.slice R n rc) := pw_cell_below hb1 HC8.out; clear hb1; dsimp only)
         | go_values | go_guarded | go_step | go_upon | go_back)
       go_ret
       exact ⟨rfl, HB1.out⟩)
end Go.Proofs.YtfijclinefmbfaaDoor
