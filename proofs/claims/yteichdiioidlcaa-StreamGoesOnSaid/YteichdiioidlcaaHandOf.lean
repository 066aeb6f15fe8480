/-
stream.Of: a stream's first bytes.
-/
import Derived.Test.YteichdiioidlcaaHandBlocks
import Derived.Test.YteichdiioidlcaaHandXor
import Derived.Scope
namespace Go.Proofs.Yteichdiioidlcaa
open Go.RowKit Go.Shelf Go.Proofs.YteichdiioidlcaaW.PrintWords Go.Proofs.YteichdiioidlcaaW.PrintLast Go.Proofs.YteichdiioidlcaaW.PrintMore
open Go.Proofs.Yteichdiioidlcaa.SxCha (ten wordsL blockL nonceL block_calls nonce_calls)
set_option linter.unusedVariables false
set_option linter.unusedSimpArgs false
attribute [local go_sem] Oper.semAt_some

/-- A stream's bytes. -/
def streamAt (k n : List Int) (i : Nat) : Int := (streamB k n (i / 64)).getD (i % 64) 0
def streamL (k n : List Int) (m : Nat) : List Int := (List.range m).map (streamAt k n)
theorem streamL_succ (k n : List Int) (m : Nat) : streamL k n (m + 1) = streamL k n m ++ [streamAt k n m] := by simp [streamL, List.range_succ]
theorem streamL_length (k n : List Int) (m : Nat) : (streamL k n m).length = m := by simp [streamL]

theorem of_two {W w2 : World} (h : Below W.drew.heap.size W.drew w2) (o1 o2 : Obj) : Below W.heap.size W ((w2.alloc o1).alloc o2) ∧ W.heap.size ≤ w2.heap.size ∧ ((w2.alloc o1).alloc o2).heap[w2.heap.size]? = some o1 ∧ ((w2.alloc o1).alloc o2).heap[w2.heap.size + 1]? = some o2 := by
  have hb : Below W.heap.size W w2 := ⟨h.os, h.tape, h.output, h.size, h.block⟩
  exact ⟨below_alloc (below_alloc hb _) _, hb.size, (heap_pair w2 o1 o2).1, (heap_pair w2 o1 o2).2⟩
/-- What has come: m bytes, in a row of the call's own. -/
def Come (W0 : World) (k n : List Int) (m : Nat) (V : World) : Prop :=
  Below W0.heap.size W0 V ∧ ∃ v, V.heap[W0.heap.size]? = some (.cells #[v] 22 (0, 0)) ∧ V.ownsRow (W0.heap.size + 1) 5 1 v m ((streamL k n m).map (Value.int .u8))
/-- The two boxes of the iterator's. -/
def Boxes (B : Nat) (k n : List Int) (V : World) : Prop := V.heap[B]? = some (.cells ⟨k.map (Value.int .u8)⟩ 38 (0, 0)) ∧ V.heap[B + 1]? = some (.cells ⟨n.map (Value.int .u8)⟩ 42 (0, 0))

theorem blk_put {V : World} {b l : Nat} {cs : Array Value} {t : TypeId} {f : Nat × Nat} {o o' : Obj} (h : V.heap[b]? = some (.cells cs t f)) (hl : V.heap[l]? = some o) (ho : o.isCells = false) : (V.putObj l o').heap[b]? = some (.cells cs t f) := by
  by_cases hbl : b = l
  · subst hbl
    rw [h] at hl
    injection hl with hl
    subst hl
    cases ho
  · exact (World.putObj_heap_other hbl).trans h
theorem own_put {V : World} {base l n size : Nat} {e : TypeId} {v : Value} {xs : List Value} {o o' : Obj} (h : V.ownsRow base e size v n xs) (hl : V.heap[l]? = some o) (ho : o.isCells = false) : (V.putObj l o').ownsRow base e size v n xs := by
  refine h.kept (grownBy_putObj' V l o') ?_
  rcases h.2 with ⟨rfl, _⟩ | ⟨g, cap, cur, rfl, _, hg, _⟩
  · exact .inl rfl
  · refine .inr fun e => ?_
    simp only [Value.ownBlock, Option.some.injEq] at e
    subst e
    rw [hg] at hl
    injection hl with hl
    subst hl
    cases ho
theorem own_ne {V : World} {base b n size : Nat} {e t : TypeId} {v : Value} {xs : List Value} {cs : Array Value} {f : Nat × Nat} (h : V.ownsRow base e size v n xs) (hb : V.heap[b]? = some (.cells cs t f)) (hne : t ≠ e) : some b ≠ v.ownBlock := by
  rcases h.2 with ⟨rfl, _⟩ | ⟨g, cap, cur, rfl, _, hg, _⟩
  · simp [Value.ownBlock]
  · intro e
    simp only [Value.ownBlock, Option.some.injEq] at e
    subst e
    rw [hg] at hb
    injection hb with hb
    injection hb with _ hb _
    exact hne hb.symm
theorem Come.grow {W0 V V' : World} {k n : List Int} {m : Nat} (h : Come W0 k n m V) (hb : Below V.heap.size V V') : Come W0 k n m V' := by
  obtain ⟨h1, v, h2, h3⟩ := h
  exact ⟨h1.trans (hb.mono h1.size), v, blk_below h2 hb, pw_own_below h3 hb⟩
theorem Come.put {W0 V : World} {k n : List Int} {m l : Nat} {o o' : Obj} (h : Come W0 k n m V) (hle : W0.heap.size ≤ l) (hl : V.heap[l]? = some o) (ho : o.isCells = false) : Come W0 k n m (V.putObj l o') := by
  obtain ⟨h1, v, h2, h3⟩ := h
  exact ⟨h1.grown (grownBy_putObj' V l o') h1.size (fun k e => by cases e; exact hle), v, blk_put h2 hl ho, own_put h3 hl ho⟩
theorem Boxes.grow {B : Nat} {V V' : World} {k n : List Int} (h : Boxes B k n V) (hb : Below V.heap.size V V') : Boxes B k n V' := ⟨blk_below h.1 hb, blk_below h.2 hb⟩
theorem Boxes.put {B l : Nat} {V : World} {k n : List Int} {o o' : Obj} (h : Boxes B k n V) (hl : V.heap[l]? = some o) (ho : o.isCells = false) : Boxes B k n (V.putObj l o') := ⟨blk_put h.1 hl ho, blk_put h.2 hl ho⟩

def OfI (W0 : World) (B : Nat) (k n : List Int) (many c : Nat) (V : World) : Prop := 64 * c ≤ many ∧ Boxes B k n V ∧ Come W0 k n (64 * c) V
def OfI1 (W0 : World) (B : Nat) (k n : List Int) (many : Nat) (act : Nat → Nat → Act) (c : Nat) (a : Act) (V : World) : Prop := ∃ b, a = act c b ∧ V.heap[b]? = some (.cells ⟨(streamB k n c).map (Value.int .u8)⟩ 39 (0, 0)) ∧ OfI W0 B k n many c V
def OfX (W0 : World) (k n : List Int) (many : Nat) (id : Nat) (V : World) : Prop := id = 0 ∧ Come W0 k n many V
/-- The block of an array's variable, written whole. -/
theorem blk_whole (W : World) (z : Array Value) (t : TypeId) (vs : List Value) (h : z.size = vs.length) : ((W.alloc (.cells z t)).setCells W.heap.size 0 vs).heap[W.heap.size]? = some (.cells ⟨vs⟩ t (0, 0)) ∧ Below W.heap.size W ((W.alloc (.cells z t)).setCells W.heap.size 0 vs) := by
  have h0 := heap_alloc_new W (.cells z t)
  refine ⟨?_, ?_⟩
  · rw [Sx.heap_setCells vs _ _ 0 z t (0, 0) h0 (by omega)]
    have : Sx.splice z.toList 0 vs = vs := by simp [Sx.splice, h]
    rw [this]
  · obtain ⟨r1, r2, r3⟩ := Sx.setCells_rest vs (W.alloc (.cells z t)) W.heap.size 0
    exact ⟨r1, r2, r3, by rw [Sx.setCells_size]; simp, fun k hk => by rw [Sx.heap_setCells_other _ _ _ _ _ (by omega)]; exact Below.heap_alloc _ _ _ hk⟩
theorem store_new {P : Program} (W : World) (z : Array Value) (t : TypeId) (vs : List Value) (h : z.size = vs.length) (h1 : ∀ v ∈ vs, v.oneCell' = true) :
    (storeCells ⟨W.heap.size, 0, none⟩ vs).run P (W.alloc (.cells z t)) = .ok () ((W.alloc (.cells z t)).setCells W.heap.size 0 vs) := by
  have h0 := heap_alloc_new W (.cells z t)
  have := run_storeCells_cells (P := P) W.heap.size 0 vs 0 (W.alloc (.cells z t)) (fun j hj => ?_) (fun j hj => ?_) h1
  · simpa using this
  · rw [blk_cell h0]
    simp
    omega
  · exact blk_frozen h0 _
theorem keepsFrom_below {B : Nat} {V V' : World} (h : Below V.heap.size V V') : KeepsFrom B V V' := ⟨h.size, fun k o _ hk _ => blk_below hk h⟩
theorem blockL_length (w f : List Int) : (blockL w f).length = 64 := by simp [blockL]
theorem streamB_length (k n : List Int) (c : Nat) : (streamB k n c).length = 64 := blockL_length _ _
theorem one_nums (l : List Int) : ∀ v ∈ l.map (Value.int .u8), v.oneCell' = true := by
  intro v hv
  simp only [List.mem_map] at hv
  obtain ⟨x, _, rfl⟩ := hv
  rfl
theorem index_row {W : World} {l : List Int} (hl : l.length = 64) (j : Nat) (hj : j < 64) : (Instr.index 39 (.agg ⟨l.map (Value.int .u8)⟩) (.int .i64 j)).run Try.prog W = .ok (.int .u8 (l.getD j 0)) W := by
  have hu : Try.prog.underlying 39 = some (.array 64 5) := rfl
  have h1 : (sizeOf 5).run Try.prog W = .ok 1 W := rfl
  have h2 : (isAgg 5).run Try.prog W = .ok false W := rfl
  have hj2 : (j : Int) < 64 := by omega
  have hlj : j < l.length := by omega
  have hg : (⟨l.map (Value.int .u8)⟩ : Array Value)[j]? = some (.int .u8 (l.getD j 0)) := by
    simp [List.getD, List.getElem?_eq_getElem hlj]
  simp [List.getElem?_eq_getElem hlj] at hg
  simp [Instr.index, asIntOf, Sem.run_bind, run_underlying hu, Result.andThen, h1, part, h2, hj, List.getElem?_eq_getElem hlj]
theorem gate_index_in {F : Fence} {n : Nat} {P : Program} {o : Oper} {a : Act} {w : World} {K : Act → World → Prop} {Q : Exit → Act → World → Prop} {t : TypeId} {x y : Operand} {p q v : Value}
    (ho : o.op = .index t x y) (hx : a.eval x = p) (hy : a.eval y = q) (hl : (Instr.index t p q).run P w = .ok v w) (h : K (a.put o.dst v) w) : o.wpIn F n P a w K Q := by
  refine gate_in (fun c e => by rw [ho] at e; cases e) (fun c e => by rw [ho] at e; cases e) ?_ h
  obtain ⟨dst, op, type, pos, after, guard⟩ := o
  simp only at ho
  subst ho
  simp only [execOp, hx, hy, Sem.run_bind, hl, Result.andThen_ok, Sem.run_pure]
theorem one_cell (W : World) (x : Value) (t : TypeId) : ∀ (j : Nat) (u : Value), [x][j]? = some u → (W.alloc (.cells #[x] t)).cell? ((⟨W.heap.size, 0, none⟩ : Addr).add j) = some u := by
  intro j u hu
  match j with
  | 0 =>
    simp at hu
    subst hu
    exact blk_cell (heap_alloc_new W (.cells #[x] t)) 0
  | j + 1 => simp at hu
/-- What lies as it lay behind an append to the row. -/
theorem body_row {W0 W w1 : World} {B : Nat} {k nn : List Int} {v v1 x : Value} {m m' : Nat} {xs xs' : List Value} (hv : W.heap[W0.heap.size]? = some (.cells #[v] 22 (0, 0))) (hb : Boxes B k nn W)
    (hown : W.ownsRow (W0.heap.size + 1) 5 1 v m xs) (hbel : Below W0.heap.size W0 W) (hr : w1.ownsRow (W0.heap.size + 1) 5 1 v1 m' xs') (hg : (W.alloc (.cells #[x] 5)).grownBy w1 v.ownBlock) :
    Aside1 (w1.heap[W0.heap.size]? = some (.cells #[v] 22 (0, 0))) ∧ Aside1 (Boxes B k nn w1) ∧ Aside1 (Below W0.heap.size W0 w1) ∧ Aside1 (∀ C, KeepsFrom C W w1) := by
  have ho := hown.alloc (.cells #[x] 5)
  have keep : ∀ (b : Nat) (cs : Array Value) (t : TypeId), t ≠ 5 → W.heap[b]? = some (.cells cs t (0, 0)) → w1.heap[b]? = some (.cells cs t (0, 0)) := fun b cs t hne hbb =>
    blk_grown (blk_alloc hbb _) hg (own_ne ho (blk_alloc hbb (.cells #[x] 5)) hne)
  refine ⟨⟨keep _ _ _ (by decide) hv⟩, ⟨keep _ _ _ (by decide) hb.1, keep _ _ _ (by decide) hb.2⟩, ⟨(below_alloc hbel _).grown hg (by have := hbel.size; simp; omega) (fun k e => by have := own_base ho k e; omega)⟩, ⟨fun C => ⟨by have := hg.size; simp at this; omega, fun i o _ hi hoc => ?_⟩⟩⟩
  refine blk_grown (blk_alloc hi _) hg ?_
  rcases ho.2 with ⟨rfl, _⟩ | ⟨g, cap, cur, rfl, _, hgg, _⟩
  · simp [Value.ownBlock]
  · intro e
    simp only [Value.ownBlock, Option.some.injEq] at e
    subst e
    rw [blk_alloc hi _] at hgg
    injection hgg with hgg
    subst hgg
    cases hoc
theorem own_lower {V : World} {b b' n size : Nat} {e : TypeId} {v : Value} {xs : List Value} (h : V.ownsRow b e size v n xs) (hb : b' ≤ b) : V.ownsRow b' e size v n xs := by
  refine ⟨h.1, ?_⟩
  rcases h.2 with hn | ⟨g, cap, cur, hv, hg, rest⟩
  · exact .inl hn
  · exact .inr ⟨g, cap, cur, hv, Nat.le_trans hb hg, rest⟩
theorem ite_wanted {c : Bool} {p q : Prop} (hc : c = true) (h : p) : if c = true then p else q := by subst hc; exact h
theorem wpInW_scope {P : Program} {n : Nat} {c : Code} {Q : Exit → Act → World → Prop} {a : Act} {w : World} (h : c.wpIn Fence.wide n P (Exit.noGoto Q) a w) : (Code.scope c).wpIn Fence.wide n P Q a w :=
  wpIn_wide.2 (wp_scope_straight (wpIn_wide.1 h))

set_option maxHeartbeats 4000000 in
set_option maxRecDepth 100000 in
theorem of_good (k : List Int) (n : Int) (many : Nat) (hkl : k.length = 32) (hk : ∀ x ∈ k, B8 x) (hn0 : 0 ≤ n) (hn1 : n < 18446744073709551616) (hm : many ≤ 2048) (w : World) :
    CallsIn Fence.wide 8 Try.prog 24 #[.agg ⟨k.map (Value.int .u8)⟩, .int .u64 n, .int .i64 many] w fun e w' => ∃ v, e = .returned (.tuple #[v, .int .i64 0]) ∧
      w'.ownsRow w.heap.size 5 1 v many ((streamL k (nonceL n) many).map (Value.int .u8)) ∧ Below w.heap.size w w' := by
  have HKL := Aside1.mk hkl
  have HK := Aside1.mk hk
  have HN0 := Aside1.mk hn0
  have HN1 := Aside1.mk hn1
  have HM := Aside1.mk hm
  have c1 : ¬ (many : Int) < 0 := by omega
  have c2 : ¬ (many : Int) > 2048 := by omega
  have c3 : ¬ (2048 : Int) < (many : Int) := by omega
  have hmo : Try.prog.follows .mixedOrders = true := rfl
  clear hkl hk hn0 hn1 hm
  refine callsIn_of_wp_marks Try.func24 rfl trivial ?_
  simp only [Try.ntmps24, List.size_toArray, List.length_cons, List.length_nil, Nat.reduceAdd, Nat.reduceSub, Array.replicate_succ, Array.replicate_zero, List.push_toArray, List.append_toArray, List.nil_append, List.cons_append]
  gi_wp2
  refine wpInW_scope ?_
  generalize hW0 : (w.alloc (.cells ⟨k.map (Value.int .u8)⟩ 38)).alloc (.cells #[.int .i64 many] 3) = W0
  obtain ⟨hp1, hp2⟩ := heap_pair w (.cells ⟨k.map (Value.int .u8)⟩ 38) (.cells #[.int .i64 many] 3)
  rw [hW0] at hp1 hp2
  have hsz : W0.heap.size = w.heap.size + 2 := by rw [← hW0]; simp
  have HB0 : Aside1 (Below w.heap.size w W0) := ⟨by rw [← hW0]; exact below_alloc (below_alloc (Below.refl _ _) _) _⟩
  have HKey := Aside1.mk hp1
  have HMany := Aside1.mk hp2
  have HSZ := Aside1.mk hsz
  have hc2 := blk_cell hp2 0
  clear hW0 hp1 hp2 hsz
  gi_wp2
  refine wpIn_label ?_
  gi_wp2
  refine wpIn_mono (Q := fun e a' W' => e = .normal ∧ ∃ B, a' = { tmps := #[.agg ⟨k.map (Value.int .u8)⟩, .int .u64 n, .int .i64 many, .pointer (some ⟨w.heap.size, 0, none⟩), undef, .pointer (some ⟨w.heap.size + 1, 0, none⟩), .slice none 0 0, .int .i64 0, .pointer (some ⟨W0.heap.size, 0, none⟩), undef, undef, undef, .int .i64 many, .bool (decide ((many : Int) < 0)), .bool (decide ((many : Int) < 0)), .int .i64 many, .bool (decide (2048 < (many : Int))), .bool (decide ((many : Int) < 0) || decide (2048 < (many : Int))), .agg ⟨k.map (Value.int .u8)⟩, .int .u64 n, .agg ⟨(nonceL n).map (Value.int .u8)⟩, .func (.func 38) #[] #[.pointer (some ⟨B, 0, none⟩), .pointer (some ⟨B + 1, 0, none⟩)], undef, undef, undef, undef, undef, undef, undef, undef, undef, undef, undef, undef, undef, undef, undef], defers := [] } ∧
      Below (W0.heap.size + 1) (W0.alloc (.cells #[.slice none 0 0] 22)) W' ∧ W0.heap.size + 1 ≤ B ∧ W'.heap[B]? = some (.cells ⟨k.map (Value.int .u8)⟩ 38 (0, 0)) ∧ W'.heap[B + 1]? = some (.cells ⟨(nonceL n).map (Value.int .u8)⟩ 42 (0, 0))) ?_ ?_
  · refine wpIn_region_any hmo ?_
    change wpAnyIn _ _ _ _ _ _ _ _ _ (World.drew _)
    refine wpAnyIn_take (i := 1) (v := .int .u64 n) rfl rfl (by kernel_rfl) (by kernel_rfl) (by kernel_rfl) (fun c a w h => by cases h.1) ⟨Or.inl ⟨by rfl, fun w => by go_simp⟩, fun _ => rfl⟩ ?_
    refine wpAnyIn_ready (rs := [0, 2]) (by kernel_rfl) (by simp) ?_
    refine AllReadyIn.cons rfl (fun K hK => ?_) (AllReadyIn.cons rfl (fun K hK => ?_) AllReadyIn.nil)
    · refine ite_wanted rfl ?_
      refine gate_load_in rfl rfl (load_row HKL.out (blk_alloc HKey.out _) rfl rfl rfl) ?_
      refine hK _ _ ?_
      refine wpAnyIn_ready (rs := [2]) (by kernel_rfl) (by simp) ?_
      refine AllReadyIn.cons rfl (fun K hK => ?_) AllReadyIn.nil
      refine ite_wanted rfl ?_
      go_simp
      refine ⟨trivial, (callsIn_wide.2 (nonce_calls n HN0.out HN1.out _)).mono ?_⟩
      rintro e w2 ⟨rfl, hw2⟩
      dsimp only
      refine hK _ _ ?_
      refine wpAnyIn_ready (rs := [3]) (by kernel_rfl) (by simp) ?_
      refine AllReadyIn.cons rfl (fun K hK => ?_) AllReadyIn.nil
      refine ite_wanted rfl ?_
      go_simp
      refine ⟨trivial, (blocks_in _ _ _ _).mono ?_⟩
      rintro e w3 ⟨rfl, rfl⟩
      dsimp only
      refine hK _ _ ?_
      refine wpAnyIn_done (by kernel_rfl) ?_ _
      obtain ⟨q1, q2, q3, q4⟩ := of_two (W := W0.alloc (.cells #[.slice none 0 0] 22)) (w2 := w2) hw2 (.cells ⟨k.map (Value.int .u8)⟩ 38) (.cells ⟨(nonceL n).map (Value.int .u8)⟩ 42)
      exact ⟨rfl, w2.heap.size, rfl, by simpa using q1, by simpa using q2, q3, q4⟩
    · refine ite_wanted rfl ?_
      go_simp
      refine ⟨trivial, (callsIn_wide.2 (nonce_calls n HN0.out HN1.out _)).mono ?_⟩
      rintro e w2 ⟨rfl, hw2⟩
      dsimp only
      refine hK _ _ ?_
      refine wpAnyIn_ready (rs := [0]) (by kernel_rfl) (by simp) ?_
      refine AllReadyIn.cons rfl (fun K hK => ?_) AllReadyIn.nil
      refine ite_wanted rfl ?_
      refine gate_load_in rfl rfl (load_row HKL.out (blk_below (blk_drew (blk_alloc HKey.out _)) hw2) rfl rfl rfl) ?_
      refine hK _ _ ?_
      refine wpAnyIn_ready (rs := [3]) (by kernel_rfl) (by simp) ?_
      refine AllReadyIn.cons rfl (fun K hK => ?_) AllReadyIn.nil
      refine ite_wanted rfl ?_
      go_simp
      refine ⟨trivial, (blocks_in _ _ _ _).mono ?_⟩
      rintro e w3 ⟨rfl, rfl⟩
      dsimp only
      refine hK _ _ ?_
      refine wpAnyIn_done (by kernel_rfl) ?_ _
      obtain ⟨q1, q2, q3, q4⟩ := of_two (W := W0.alloc (.cells #[.slice none 0 0] 22)) (w2 := w2) hw2 (.cells ⟨k.map (Value.int .u8)⟩ 38) (.cells ⟨(nonceL n).map (Value.int .u8)⟩ 42)
      exact ⟨rfl, w2.heap.size, rfl, by simpa using q1, by simpa using q2, q3, q4⟩
  · rintro e a4 W4 ⟨rfl, B, rfl, hB4, hle, hb1, hb2⟩
    have HB4 := Aside1.mk hB4
    have HLE := Aside1.mk hle
    have HB1 := Aside1.mk hb1
    have HB2 := Aside1.mk hb2
    clear hB4 hle hb1 hb2
    gi_wp2
    refine wpIn_endless rfl (by omega) (gf := 38) (lb := #[.pointer (some ⟨B, 0, none⟩), .pointer (some ⟨B + 1, 0, none⟩)]) rfl trivial (enters_of Try.func38 (by kernel_rfl) rfl)
      (blocks1_seq 7 (by omega) 34 B (B + 1) k (nonceL n) (by omega) HKL.out rfl HK.out (SxCha.nonceL_all n)) (fun _ => rfl)
      (OfI W0 B k (nonceL n) many) (OfI1 W0 B k (nonceL n) many (fun c b => { tmps := #[.agg ⟨k.map (Value.int .u8)⟩, .int .u64 n, .int .i64 many, .pointer (some ⟨w.heap.size, 0, none⟩), undef, .pointer (some ⟨w.heap.size + 1, 0, none⟩), .slice none 0 0, .int .i64 0, .pointer (some ⟨W0.heap.size, 0, none⟩), .pointer (some ⟨b, 0, none⟩), undef, undef, .int .i64 many, .bool (decide ((many : Int) < 0)), .bool (decide ((many : Int) < 0)), .int .i64 many, .bool (decide (2048 < (many : Int))), .bool (decide ((many : Int) < 0) || decide (2048 < (many : Int))), .agg ⟨k.map (Value.int .u8)⟩, .int .u64 n, .agg ⟨(nonceL n).map (Value.int .u8)⟩, .func (.func 38) #[] #[.pointer (some ⟨B, 0, none⟩), .pointer (some ⟨B + 1, 0, none⟩)], .agg ⟨(streamB k (nonceL n) c).map (Value.int .u8)⟩, undef, undef, undef, undef, undef, undef, undef, undef, undef, undef, undef, undef, undef, undef], defers := [] })) (OfX W0 k (nonceL n) many) ?grow ?put ?put1 ?putx ?kp ?start ?assign ?body ?stop
    case grow => exact fun c V V' h hb => ⟨h.1, h.2.1.grow hb, h.2.2.grow hb⟩
    case put => exact fun c V l o o' h hl hV ho => ⟨h.1, h.2.1.put hV ho, h.2.2.put (by have := HB4.out.size; simp at this; omega) hV ho⟩
    case put1 => exact fun c a V l o o' ⟨b, ha, hb, h⟩ hl hV ho => ⟨b, ha, blk_put hb hV ho, h.1, h.2.1.put hV ho, h.2.2.put (by have := HB4.out.size; simp at this; omega) hV ho⟩
    case putx => exact fun id V l o o' h hl hV ho => ⟨h.1, h.2.put (by have := HB4.out.size; simp at this; omega) hV ho⟩
    case kp => exact fun c V h => ⟨by have := h.1; have := HM.out; omega, h.2.1⟩
    case start =>
      refine ⟨by omega, ⟨HB1.out, HB2.out⟩, ?_, .slice none 0 0, ?_, ?_⟩
      · exact (below_alloc (Below.refl _ _) _).trans (HB4.out.mono (by omega))
      · exact (HB4.out.block _ (by omega)).trans (heap_alloc_new W0 _)
      · exact own_nil _ _ _ _
    case assign =>
      intro l c V hI
      have HI := Aside1.mk hI
      clear hI
      gi_wp2
      rw [store_new V _ _ _ (by simp [streamB_length]) (one_nums _)]
      obtain ⟨hw1, hw2⟩ := blk_whole V (Array.replicate 64 (.int .u8 0)) 39 ((streamB k (nonceL n) c).map (Value.int .u8)) (by simp [streamB_length])
      generalize hV1 : (V.alloc _).setCells V.heap.size 0 _ = V1
      have hV2 : (V.alloc (.cells (Array.replicate 64 (.int .u8 0)) 39)).setCells V.heap.size 0 ((streamB k (nonceL n) c).map (Value.int .u8)) = V1 := hV1
      rw [hV2] at hw1 hw2
      clear hV1 hV2
      gi_wp2
      exact ⟨keepsFrom_below hw2, V.heap.size, rfl, hw1, HI.out.1, HI.out.2.1.grow hw2, HI.out.2.2.grow hw2⟩
    case body =>
      rintro l c a1 V ⟨b, rfl, hb, hle, hbx, hcome⟩
      have hl1 := load_row (t := 39) (streamB_length k (nonceL n) c) hb rfl rfl rfl
      have HBX := Aside1.mk hbx
      have HCM := Aside1.mk hcome
      have HCL := Aside1.mk hle
      clear hb hle hbx hcome
      repeat (first | ((with_reducible refine gate_load_in (x := .tmp 9) ?_ ?_ hl1 ?_); rfl; rfl; go_simp) | go_values | gi_guarded | gi_step | gi_upon)
      gi_loopw [24] (fun i wr => ∃ j : Nat, i = .int .i64 j ∧ j ≤ 64 ∧ 64 * c + j ≤ many ∧ Aside1 (Boxes B k (nonceL n) wr) ∧ Aside1 (Come W0 k (nonceL n) (64 * c + j) wr) ∧ Aside1 (KeepsFrom W4.heap.size V wr))
        (fun i _ => 64 - (intOf i).toNat)
      case atStart => exact ⟨0, rfl, by omega, HCL.out, HBX, HCM, ⟨KeepsFrom.refl _ _⟩⟩
      case round =>
        obtain ⟨j, rfl, hj, hjm, HBX, HCM, HKP⟩ := hrel
        by_cases hlt : j < 64
        · have hget := index_row (W := wr) (streamB_length k (nonceL n) c) j hlt
          obtain ⟨hbel, v, hv, hown⟩ := HCM.out
          have hco := blk_cell hv 0
          have hfo := blk_frozen hv 0
          have hcm := blk_cell (blk_below HMany.out hbel) 0
          obtain ⟨A, cp, rfl⟩ := own_slice hown
          have HOwn := Aside1.mk hown
          have HBel := Aside1.mk hbel
          have HV := Aside1.mk hv
          have hdl : decide ((j : Int) < 64) = true := by simp; omega
          clear hown hbel hv
          by_cases heq : 64 * c + j = many
          · have hde : ((64 * (c : Int) + (j : Int)) == (many : Int)) = true := by simp; omega
            repeat (first | ((with_reducible refine gate_index_in (x := .tmp 23) (y := .tmp 24) ?_ ?_ ?_ hget ?_); rfl; rfl; rfl; go_simp) | go_values | gi_guarded | gi_step | gi_upon)
            exact ⟨HKP.out, rfl, heq ▸ HCM.out⟩
          · have hde : ((64 * (c : Int) + (j : Int)) == (many : Int)) = false := by simp; omega
            have HNE := Aside1.mk heq
            repeat (first | ((with_reducible refine gate_index_in (x := .tmp 23) (y := .tmp 24) ?_ ?_ ?_ hget ?_); rfl; rfl; rfl; go_simp) |
              (refine wpListIn_append_own _ rfl (.tmp 31) (.tmp 33) 22 rfl (W0.heap.size + 1) 5 Try.t5 (.int .u8 0) 1 1 rfl rfl rfl rfl rfl rfl (by decide) (.slice A (64 * c + j) cp) (64 * c + j) ((streamL k (nonceL n) (64 * c + j)).map (Value.int .u8)) rfl (HOwn.out.alloc _) ⟨wr.heap.size, 0, none⟩ 1 1 [.int .u8 ((streamB k (nonceL n) c)[j]?.getD 0)] rfl rfl (one_cell _ _ _) (by simp [Value.oneCell']) (by have := HM.out; simp only [maxLen]; omega) (by have := HM.out; omega) (by have := HBel.out.size; have := blk_lt HV.out; simp; omega) ?_; intro v1 w1 hr1 hg1 _; obtain ⟨HV1, HBX1, HB1', HK1⟩ := body_row HV.out HBX.out HOwn.out HBel.out hr1 hg1; obtain ⟨A1, cp1, rfl⟩ := own_slice hr1; have HR1 := Aside1.mk hr1; have hco1 := blk_cell HV1.out 0; have hfo1 := blk_frozen HV1.out 0; clear hr1 hg1) | go_values | gi_guarded | gi_step | gi_upon)
            go_roundw
            case rel =>
              refine ⟨j + 1, rfl, by omega, by have := HNE.out; omega, ⟨?_, ?_⟩, ⟨?_, .slice A1 (64 * c + j + 1) cp1, ?_, ?_⟩, ⟨?_⟩⟩
              · exact (Below.heap_setCell _ _ _ _ (by have := HLE.out; simp; omega)).trans HBX1.out.1
              · exact (Below.heap_setCell _ _ _ _ (by have := HLE.out; simp; omega)).trans HBX1.out.2
              · exact HB1'.out.setCell (Nat.le_refl _) _
              · exact blk_set HV1.out 0 _
              · have hs : streamAt k (nonceL n) (64 * c + j) = (streamB k (nonceL n) c)[j]?.getD 0 := by
                  unfold streamAt
                  rw [show (64 * c + j) / 64 = c by omega, show (64 * c + j) % 64 = j by omega]
                  rfl
                have hr := ownsRow_setCell_below HR1.out (a := ⟨W0.heap.size, 0, none⟩) (by simp) (.slice A1 (64 * c + j + 1) cp1)
                rw [show 64 * c + (j + 1) = 64 * c + j + 1 by omega, streamL_succ, hs, List.map_append]
                exact hr
              · exact (HKP.out.trans (HK1.out _)).trans ((KeepsOthers.setCell _ _ _).from _)
            case measure => simp [intOf]; omega
        · gi_wp2
          have hj64 : j = 64 := by omega
          subst hj64
          exact ⟨HKP.out, by omega, HBX.out, HCM.out⟩
    case stop =>
      rintro D id V hD ⟨rfl, hcome⟩ hK
      obtain ⟨hbel, v, hv, hown⟩ := hcome
      have hco := blk_cell hv 0
      have HOwn := Aside1.mk hown
      have HBel := Aside1.mk hbel
      have HK' := Aside1.mk hK
      clear hown hbel hv hK
      gi_wp2
      simp only [Exit.noGoto]
      refine ⟨by simp, .inl ⟨_, _, rfl, run_takeDeferred HK'.out, ?_⟩⟩
      refine ⟨.tuple #[v, .int .i64 0], by simp [results, Try.results24, go_sem], v, rfl, own_lower (own_put HOwn.out HK'.out rfl) (by have := HSZ.out; omega), ?_⟩
      have h1 : Below w.heap.size W0 V := HBel.out.mono (by have := HSZ.out; omega)
      exact (HB0.out.trans h1).trans ((Below.refl w.heap.size V).grown (grownBy_putObj' V D _) (HB0.out.trans h1).size (fun k e => by cases e; have := HB4.out.size; have := HSZ.out; simp at *; omega))

set_option maxHeartbeats 4000000 in
set_option maxRecDepth 100000 in
theorem of_bad (k : Array Value) (n many : Int) (hm : many < 0 ∨ 2048 < many) (w : World) :
    CallsIn Fence.wide 8 Try.prog 24 #[.agg k, .int .u64 n, .int .i64 many] w fun e w' => e = .returned (.tuple #[.slice none 0 0, .int .i64 4]) ∧ Below w.heap.size w w' := by
  have hd : (decide (many < 0) || decide (2048 < many)) = true := by
    simp
    exact hm
  refine callsIn_of_wp Try.func24 rfl trivial ?_
  simp only [Try.ntmps24, List.size_toArray, List.length_cons, List.length_nil, Nat.reduceAdd, Nat.reduceSub, Array.replicate_succ, Array.replicate_zero, List.push_toArray, List.append_toArray, List.nil_append, List.cons_append]
  clear hd
  gi_wp2
  refine wpInW_scope ?_
  generalize hW0 : (w.alloc (.cells k 38)).alloc (.cells #[.int .i64 many] 3) = W0
  obtain ⟨hp1, hp2⟩ := heap_pair w (.cells k 38) (.cells #[.int .i64 many] 3)
  rw [hW0] at hp1 hp2
  have HB0 : Aside1 (Below w.heap.size w W0) := ⟨by rw [← hW0]; exact below_alloc (below_alloc (Below.refl _ _) _) _⟩
  have hc2 := blk_cell hp2 0
  clear hW0 hp1 hp2
  rcases hm with hm | hm
  · gi_wp2
    simp only [Exit.noGoto]
    go_ret2
    exact ⟨rfl, HB0.out⟩
  · have hm0 : ¬ many < 0 := by omega
    gi_wp2
    go_ret2
    exact ⟨rfl, HB0.out⟩

/-- The contract, as the laws' walks take it. -/
theorem of_calls (k : List Int) (n : Int) (many : Nat) (hkl : k.length = 32) (hk : ∀ x ∈ k, B8 x) (hn0 : 0 ≤ n) (hn1 : n < 18446744073709551616) (hm : many ≤ 2048) (w : World) :
    Calls Try.prog 24 #[.agg ⟨k.map (Value.int .u8)⟩, .int .u64 n, .int .i64 many] w fun e w' => ∃ v, e = .returned (.tuple #[v, .int .i64 0]) ∧
      Kd.R (Kd.int .u8) 5 w' w.heap.size (fun _ => True) v (streamL k (nonceL n) many) ∧ Below w.heap.size w w' :=
  (callsIn_wide.1 (of_good k n many hkl hk hn0 hn1 hm w)).mono fun e w' ⟨v, he, ho, hb⟩ => ⟨v, he, Kd.R_of_own (by rw [streamL_length]; exact ho) (fun _ _ => trivial), hb⟩
theorem of_bad_calls (k : Array Value) (n many : Int) (hm : many < 0 ∨ 2048 < many) (w : World) :
    Calls Try.prog 24 #[.agg k, .int .u64 n, .int .i64 many] w fun e w' => e = .returned (.tuple #[.slice none 0 0, .int .i64 4]) ∧ Below w.heap.size w w' := callsIn_wide.1 (of_bad k n many hm w)
end Go.Proofs.Yteichdiioidlcaa
