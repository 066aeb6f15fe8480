/-
Blocks of a stash as cells: slices.Clone of blocks, stash.Twin.
-/
import Derived.Test.YtknmokpnkcckeaaPAll2
import Derived.Test.YtknmokpnkcckeaaSpoilB
import Derived.Test.YtknmokpnkcckeaaWhole
import Derived.Lib.SliceRun
namespace Go.Proofs.Ytknmokpnkcckeaa
open Go.RowKit Go.Proofs.YtknmokpnkcckeaaW.PrintWords Go.Proofs.YtknmokpnkcckeaaW.PrintLast Go.Proofs.YtknmokpnkcckeaaW.PrintMore Go.Proofs.Ytknmokpnkcckeaa.PAll
set_option linter.unusedVariables false
set_option linter.unusedSimpArgs false

/-- A block with where its bytes lie, and its cells. -/
abbrev BD := S62 × Option Addr × Nat
def cell3 (d : BD) : List Value := [.int .i64 d.1.f0, .int .i64 d.1.f1, .slice d.2.1 d.1.f2.length d.2.2]
theorem cell3_length (d : BD) : (cell3 d).length = 3 := rfl
theorem cell3_one (d : BD) : ∀ u ∈ cell3 d, u.oneCell' = true := by
  intro u hu
  simp only [cell3, List.mem_cons, List.not_mem_nil, or_false] at hu
  rcases hu with rfl | rfl | rfl <;> rfl
theorem cells3_length (ds : List BD) : (ds.map cell3).flatten.length = ds.length * 3 := by
  induction ds with
  | nil => rfl
  | cons d ds ih => rw [List.map_cons, List.flatten_cons, List.length_append, ih, cell3_length, List.length_cons]; omega
def GoodB (W : World) (d : BD) : Prop := d.1.f2.length ≤ d.2.2 ∧ (Kd.int .u8).C W d.2.1 d.1.f2.length d.1.f2
theorem GoodB.below {W W' : World} {d : BD} (h : GoodB W d) (hb : Below W.heap.size W W') : GoodB W' d := ⟨h.1, Kd.C_below h.2 hb⟩
/-- Blocks that are read, as cells. -/
theorem raw_of_C {W : World} {A : Option Addr} {n : Nat} {xs : List S62} (h : Kd.C k62 W A n xs) : ∃ ds : List BD, ds.map (·.1) = xs ∧ Kd.C (Kd.raw 3) W A n (ds.map cell3) ∧ ∀ d ∈ ds, GoodB W d := by
  classical
  obtain ⟨hn, hm, hr⟩ := h
  have key : ∀ j : Nat, ∃ d : BD, ∀ x, xs[j]? = some x → d.1 = x ∧ GoodB W d ∧ ∃ ad, A = some ad ∧ ∀ i u, (cell3 d)[i]? = some u → W.cell? (ad.add (j * 3 + i)) = some u := by
    intro j
    by_cases hj : j < xs.length
    · obtain ⟨ad, ha, hc⟩ := hr (by omega)
      obtain ⟨c, hl, hK, hcell⟩ := hc j xs[j] (List.getElem?_eq_getElem hj)
      obtain ⟨A2, c2, rfl, l2, g2⟩ := k62_open hK
      refine ⟨(xs[j], A2, c2), fun x hx => ?_⟩
      rw [List.getElem?_eq_getElem hj] at hx
      cases hx
      exact ⟨rfl, ⟨l2, g2⟩, ad, ha, hcell⟩
    · exact ⟨(z62, none, 0), fun x hx => by rw [List.getElem?_eq_none (by omega)] at hx; cases hx⟩
  let f : Nat → BD := fun j => Classical.choose (key j)
  have hf : ∀ j x, xs[j]? = some x → (f j).1 = x ∧ GoodB W (f j) ∧ ∃ ad, A = some ad ∧ ∀ i u, (cell3 (f j))[i]? = some u → W.cell? (ad.add (j * 3 + i)) = some u := fun j => Classical.choose_spec (key j)
  refine ⟨(List.range xs.length).map f, ?_, ⟨by simpa using hn, hm, fun h0 => ?_⟩, fun d hd => ?_⟩
  · apply List.ext_getElem?
    intro j
    by_cases hj : j < xs.length
    · simp [hj, (hf j xs[j] (List.getElem?_eq_getElem hj)).1]
    · rw [List.getElem?_eq_none (by simp; omega), List.getElem?_eq_none (by omega)]
  · obtain ⟨ad, ha, _⟩ := hr h0
    refine ⟨ad, ha, fun j p hp => ?_⟩
    have hj : j < xs.length := by
      have := (List.getElem?_eq_some_iff.1 hp).1
      simpa using this
    have hpe : p = cell3 (f j) := by
      rw [List.getElem?_map, List.getElem?_map, List.getElem?_range hj] at hp
      simpa using hp.symm
    subst hpe
    obtain ⟨_, _, ad', ha', hcell⟩ := hf j xs[j] (List.getElem?_eq_getElem hj)
    rw [ha] at ha'
    cases ha'
    exact ⟨cell3 (f j), cell3_length _, ⟨rfl, cell3_length _, cell3_one _⟩, hcell⟩
  · simp only [List.mem_map, List.mem_range] at hd
    obtain ⟨j, hj, rfl⟩ := hd
    exact (hf j xs[j] (List.getElem?_eq_getElem hj)).2.1
/-- And back. -/
theorem raw_to_C {W : World} {A : Option Addr} {n : Nat} {ds : List BD} (h : Kd.C (Kd.raw 3) W A n (ds.map cell3)) (hg : ∀ d ∈ ds, GoodB W d) : Kd.C k62 W A n (ds.map (·.1)) := by
  obtain ⟨hn, hm, hr⟩ := h
  refine ⟨by simpa using hn, hm, fun h0 => ?_⟩
  obtain ⟨ad, ha, hc⟩ := hr h0
  refine ⟨ad, ha, fun j p hp => ?_⟩
  rw [List.getElem?_map, Option.map_eq_some_iff] at hp
  obtain ⟨d, hd, rfl⟩ := hp
  obtain ⟨c, hl, ⟨hce, _, _⟩, hcell⟩ := hc j (cell3 d) (by rw [List.getElem?_map, hd]; rfl)
  subst hce
  have hgd := hg d (List.mem_of_getElem? hd)
  exact ⟨cell3 d, rfl, k62_mk W d.1 hgd.1 hgd.2, hcell⟩

set_option maxHeartbeats 4000000 in
set_option maxRecDepth 100000 in
theorem cloneB_calls (A : Option Addr) (n c : Nat) (css : List (List Value)) (w : World) (h : Kd.C (Kd.raw 3) w A n css) (hn : n ≤ 1000000) :
    Calls Try.prog 49 #[.slice A n c] w fun e w' => ∃ A' c', e = .returned (.slice A' n c') ∧ Kd.R (Kd.raw 3) 62 w' w.heap.size (fun _ => True) (.slice A' n c') css ∧ Below w.heap.size w w' := by
  have hl := h.1
  have H := Aside0.mk h
  have HN := Aside0.mk hn
  have HL := Aside0.mk hl
  clear h hn
  have qT : ∀ (w : World) (a : Option Addr) (n c n' c' : Nat), (binOp .eql 24 (.slice a n c) (.slice none n' c')).run Try.prog w = .ok (.bool a.isNone) w := fun w a n c n' c' => Lib.run_eql_slice_nil w _ _ a n c n' c' Try.underlying24
  rcases A with _ | a
  · have hn0 : n = 0 := by
      rcases Nat.eq_zero_or_pos n with h0 | h0
      · exact h0
      · obtain ⟨ad, h1, _⟩ := H.out.2.2 h0
        cases h1
    subst hn0
    have hnil : css = [] := List.length_eq_zero_iff.1 hl
    subst hnil
    go_enter Try.func49, Try.ntmps49
    go_wp2
    go_ret
    exact ⟨none, 0, rfl, Kd.R_nil _ _ _ _ _, Below.refl _ _⟩
  · clear hl
    go_enter Try.func49, Try.ntmps49
    repeat (first
      | ((with_reducible refine gate_dst (N := 5) rfl ?_); refine Kd.R_lit (Kd.raw 3) _ 62 ?hg (N := 5) ?hd (xs := ([] : List (List Value))) (inner := []) (ok := fun _ => True) (okp := fun _ => True) ?hr ?hp (fun _ hk => hk) trivial (Below.refl _ _) (Nat.le_refl _) (by simp) ?_; (case hd => rfl); (case hg => rfl); (case hr => first | (go_simp; done) | (go_simp; rfl)); (case hp => exact (Reps.none _ _)); intro v1 w1 ho hb hg_ hnew_; have HB1 := Aside0.mk hb; have HO1 := Aside0.mk ho; clear hg_ hnew_ ho hb)
      | ((with_reducible refine gate_builtin (b := .append) (xs := #[.tmp 5, .tmp 6]) rfl ?_); at_builtin; refine Kd.R_append_rows (Kd.raw 3) (w0 := w) w.heap.size rfl (.tmp 5) (.tmp 6) 24 62 _ 40 rfl Try.underlying24 info62 rfl (by decide) (by omega) v1 [] css _ _ _ (fun _ => True) (fun _ => False) rfl rfl ?aO ?aR (fun _ _ h => h) (fun _ h => h.elim) ?aF ?aB ?aS ?aL ?_; (case aR => exact Kd.C_below H.out HB1.out); (case aB => exact HB1.out); (case aF => exact (fun _ _ => trivial)); (case aO => exact HO1.out); (case aS => exact HB1.out.size); (case aL => have := HN.out; simp; omega); intro v2 w2 ho hb hg hat; rw [List.nil_append] at ho; obtain ⟨A2, c2, rfl⟩ := Kd.R_slice ho; have HO2 := Aside0.mk ho; have HB2 := Aside0.mk hb; clear ho hb hg hat HO1 HB1)
      | go_values | go_guarded | go_step | go_upon | go_back)
    go_ret
    refine ⟨A2, c2, by rw [← HL.out]; rfl, ?_, HB2.out⟩
    rw [← HL.out]
    exact HO2.out

theorem reps_raw : ∀ {css : List (List Value)} {inner : List Value}, Reps (fun (x cs : List Value) => cs = x ∧ cs.length = 3 ∧ ∀ u ∈ cs, u.oneCell' = true) 3 css inner → inner = css.flatten
  | [], inner, h => by
    have := h.1
    simp at this
    simp [this]
  | c :: css, inner, h => by
    have h0 := (h.2 0 c rfl).1
    simp only [Nat.zero_mul, List.drop_zero] at h0
    have ht : Reps (fun (x cs : List Value) => cs = x ∧ cs.length = 3 ∧ ∀ u ∈ cs, u.oneCell' = true) 3 css (inner.drop 3) := by
      refine ⟨by rw [List.length_drop, h.1, List.length_cons]; omega, fun j p hp => ?_⟩
      have := h.2 (j + 1) p (by simpa using hp)
      rw [List.drop_drop, show 3 + j * 3 = (j + 1) * 3 by omega]
      exact this
    rw [List.flatten_cons, ← reps_raw ht, ← h0, List.take_append_drop]
/-- The block of a row of one's own. -/
theorem raw_block {w : World} {base n c : Nat} {ok : Nat → Prop} {A : Option Addr} {css : List (List Value)} (h : Kd.R (Kd.raw 3) 62 w base ok (.slice A n c) css) (hn : n ≠ 0) : ∃ g rest, A = some ⟨g, 0, none⟩ ∧ base ≤ g ∧ n ≤ c ∧ w.heap[g]? = some (.cells ⟨css.flatten ++ rest⟩ 62 (0, 0)) := by
  obtain ⟨_, inner, ho, hr⟩ := h
  have hin := reps_raw hr
  rcases ho.2 with ⟨hv, _⟩ | ⟨g, cap, cur, hv, hb, hg, hc1, _, _, htk⟩
  · cases hv
    exact absurd rfl hn
  · have e := hv
    injection e with e1 e2 e3
    refine ⟨g, cur.toList.drop (css.length * 3), e1, hb, by omega, ?_⟩
    rw [hg, ← hin, ← htk]
    show some (Obj.cells cur 62) = some (Obj.cells ⟨cur.toList.take (css.length * 3) ++ cur.toList.drop (css.length * 3)⟩ 62)
    rw [List.take_append_drop]
section
variable {P : Program} {ops : Array Oper} {rest : List Oper} {op : Oper} {a : Act} {w : World} {Q : Exit → Act → World → Prop}
/-- A value is stored over some cells of a block. -/
theorem wpList_store_at (ty : TypeId) (x y : Operand) (b u o : Nat) (pre old new post : List Value) (hgd : op.guard = none) (ho : op.op = .store ty x y) (hx : a.eval x = .pointer (some ⟨b, o, none⟩)) (hy : a.eval y = .agg ⟨new⟩) (hg : w.heap[b]? = some (.cells ⟨pre ++ (old ++ post)⟩ u (0, 0)))
    (hp : pre.length = o) (hs : old.length = new.length) (hi : (P.info? ty).map (·.size) = some new.length) (h1 : ∀ v ∈ new, v.oneCell' = true)
    (h : ∀ w1, w1.heap[b]? = some (.cells ⟨pre ++ (new ++ post)⟩ u (0, 0)) → (∀ k, k ≠ b → w1.heap[k]? = w.heap[k]?) → (∀ B w0, Below B w0 w → B ≤ b → Below B w0 w1) → w1.heap.size = w.heap.size → wpList P ops Q rest (a.put op.dst undef) w1) : wpList P ops Q (op :: rest) a w := by
  refine wpList_plain hgd fun K hK => wp_store_mid ty x y ho b o ⟨new⟩ hx hy (fun j hj => ⟨?_, ?_⟩) hi ?_ (hK _ _ (h _ ?_ ?_ ?_ ?_))
  · rw [blk_cell hg]
    have : j < new.length := hj
    simp
    omega
  · exact blk_frozen hg _
  · exact Array.all_eq_true_iff_forall_mem.2 (fun v hv => h1 v (by simpa using hv))
  · obtain ⟨cur, q1, q2, q3⟩ := setCells_row new o w ⟨pre ++ (old ++ post)⟩ hg (by simp; omega)
    have : cur.toList = pre ++ (new ++ post) := by
      rw [q3]
      subst hp
      simp [hs, List.take_append_of_le_length]
    rw [q1, show cur = ⟨pre ++ (new ++ post)⟩ from by rw [← this]]
  · exact fun k hk => setCells_far _ o k hk
  · intro B w0 hb hle
    obtain ⟨s1, s2, s3, s4⟩ := setCells_same b new o w
    refine ⟨s1.trans hb.os, s2.trans hb.tape, s3.trans hb.output, by rw [s4]; exact hb.size, fun k hk => ?_⟩
    rw [setCells_far new o k (by omega)]
    exact hb.block k hk
  · exact (setCells_same b _ o w).2.2.2
end
/-- A block's bytes lie in memory of the call's own. -/
def YoungD (base : Nat) (W : World) (d : BD) : Prop := d.1.f2.length ≠ 0 → ∃ g cells, d.2.1 = some ⟨g, 0, none⟩ ∧ base ≤ g ∧ W.heap[g]? = some (.cells cells 5 (0, 0))
theorem YoungD.below {base : Nat} {W W' : World} {d : BD} (h : YoungD base W d) (hb : Below W.heap.size W W') : YoungD base W' d := fun hn => by
  obtain ⟨g, cells, h1, h2, h3⟩ := h hn
  exact ⟨g, cells, h1, h2, blk_below h3 hb⟩
theorem youngD_of_R {w : World} {base base' m c : Nat} {ok : Nat → Prop} {A : Option Addr} {x : S62} (h : Kd.R (Kd.int .u8) 5 w base' ok (.slice A m c) x.f2) (hb : base ≤ base') (cc : Nat) : YoungD base w (x, A, cc) := fun hn => by
  have hm := (Kd.R_reads' h).1
  obtain ⟨_, inner, ho, hr⟩ := h
  rcases ho.2 with ⟨hv, _⟩ | ⟨g, cap, cur, hv, hgb, hg, _⟩
  · cases hv
    exact absurd hm.symm hn
  · injection hv with e1 _ _
    exact ⟨g, cur, e1, Nat.le_trans hb hgb, hg⟩
theorem cell_same {W W' : World} {k : Nat} (h : W'.heap[k]? = W.heap[k]?) (j : Nat) : W'.cell? ⟨k, j, none⟩ = W.cell? ⟨k, j, none⟩ := by
  simp [World.cell?, h]
theorem goodB_store {base g : Nat} {W W' : World} {d : BD} {cs : Array Value} (h : GoodB W d ∧ YoungD base W d) (hg : W.heap[g]? = some (.cells cs 62 (0, 0))) (hk : ∀ k, k ≠ g → W'.heap[k]? = W.heap[k]?) : GoodB W' d ∧ YoungD base W' d := by
  obtain ⟨⟨hl, hn, hm, hr⟩, hy⟩ := h
  by_cases h0 : d.1.f2.length = 0
  · exact ⟨⟨hl, hn, hm, fun hp => absurd h0 (by omega)⟩, fun hp => absurd h0 hp⟩
  · obtain ⟨gd, cells, hA, hb, hc⟩ := hy h0
    have hne : gd ≠ g := by
      rintro rfl
      rw [hc] at hg
      cases hg
    refine ⟨⟨hl, hn, hm, fun hp => ?_⟩, fun _ => ⟨gd, cells, hA, hb, (hk gd hne).trans hc⟩⟩
    obtain ⟨ad, ha, hcell⟩ := hr hp
    rw [hA] at ha
    cases ha
    refine ⟨_, hA, fun j p hj => ?_⟩
    obtain ⟨c, hcl, hK, hcc⟩ := hcell j p hj
    refine ⟨c, hcl, hK, fun i u hu => ?_⟩
    have := hcc i u hu
    rw [add_at] at this ⊢
    rw [cell_same (hk gd hne)]
    exact this
theorem box3B {W : World} {b t : Nat} {x y z : Value} (h : W.heap[b]? = some (.cells #[x, y, z] t (0, 0))) : W.cell? ⟨b, 0, none⟩ = some x ∧ W.cell? ⟨b, 1, none⟩ = some y ∧ W.cell? ⟨b, 2, none⟩ = some z := ⟨blk_cell h 0, blk_cell h 1, blk_cell h 2⟩
theorem drop_cons {α : Type} {l : List α} {i : Nat} (h : i < l.length) : l.drop i = l[i] :: l.drop (i + 1) := List.drop_eq_getElem_cons h
/-- The three cells of a block at its place. -/
theorem cells_at {W : World} {g t : Nat} {pre post : List Value} {x y z : Value} (h : W.heap[g]? = some (.cells ⟨pre ++ ([x, y, z] ++ post)⟩ t (0, 0))) {o : Nat} (hp : pre.length = o) : W.cell? ⟨g, o, none⟩ = some x ∧ W.cell? ⟨g, o + 1, none⟩ = some y ∧ W.cell? ⟨g, o + 2, none⟩ = some z := by
  subst hp
  refine ⟨?_, ?_, ?_⟩ <;> rw [blk_cell h] <;> simp

set_option maxHeartbeats 8000000 in
set_option maxRecDepth 100000 in
theorem twinB_calls (A : Option Addr) (n c : Nat) (xs : List S62) (w : World) (h : Kd.C k62 w A n xs) (hn : n ≤ 1000) (hx : ∀ x ∈ xs, x.f2.length ≤ 100000) :
    Calls Try.prog 38 #[.slice A n c] w fun e w' => ∃ (A' : Option Addr) (c' : Nat) (ds : List BD), e = .returned (.slice A' n c') ∧ ds.map (·.1) = xs ∧ (∀ d ∈ ds, GoodB w' d ∧ YoungD w.heap.size w' d) ∧ (n ≠ 0 → ∃ g rest, A' = some ⟨g, 0, none⟩ ∧ w.heap.size ≤ g ∧ n ≤ c' ∧ w'.heap[g]? = some (.cells ⟨(ds.map cell3).flatten ++ rest⟩ 62 (0, 0))) ∧ Below w.heap.size w w' := by
  obtain ⟨ds, hds, hraw, hgood⟩ := raw_of_C h
  have hdl : ds.length = n := by have := hraw.1; simpa using this
  have HRAW := Aside0.mk hraw
  have HGD := Aside0.mk hgood
  have HDS := Aside0.mk hds
  have HDL := Aside0.mk hdl
  have HX := Aside0.mk hx
  have hn3 : (n : Int) ≤ 1000 := by omega
  have HN := Aside0.mk hn
  clear h hds hraw hgood hdl hx
  go_enter Try.func38, Try.ntmps38
  repeat (first
    | (go_at_call 49; (with_reducible refine (cloneB_calls A n c _ w HRAW.out (by have := HN.out; omega)).mono ?_); rintro e1 w1 ⟨A1, c1, rfl, hR, hb⟩; have HR1 := Aside0.mk hR; have HB1 := Aside0.mk hb; clear hR hb; (try dsimp only))
    | go_values | go_guarded | go_step | go_upon | go_back)
  have hstart : Aside0 (n ≠ 0 → ∃ g rest, A1 = some ⟨g, 0, none⟩ ∧ w.heap.size ≤ g ∧ n ≤ c1 ∧ w1.heap[g]? = some (.cells ⟨(([] : List BD).map cell3).flatten ++ (((ds.drop 0).map cell3).flatten ++ rest)⟩ 62 (0, 0))) := ⟨fun h0 => by
    obtain ⟨g, rest, h1, h2, h3, h4⟩ := raw_block HR1.out h0
    exact ⟨g, rest, h1, h2, h3, by simpa using h4⟩⟩
  clear HR1
  go_loopw [10] (fun v wr => ∃ (i : Nat) (es : List BD), v = .int .i64 i ∧ i ≤ n ∧ es.length = i ∧ es.map (·.1) = (ds.take i).map (·.1) ∧ Aside0 (n ≠ 0 → ∃ g rest, A1 = some ⟨g, 0, none⟩ ∧ w.heap.size ≤ g ∧ n ≤ c1 ∧ wr.heap[g]? = some (.cells ⟨(es.map cell3).flatten ++ (((ds.drop i).map cell3).flatten ++ rest)⟩ 62 (0, 0))) ∧ Aside0 (∀ d ∈ es, GoodB wr d ∧ YoungD w.heap.size wr d) ∧ Aside0 (Below w.heap.size w wr)) (fun v _ => n - (intOf v).toNat)
  case atStart => exact ⟨0, [], rfl, by omega, rfl, rfl, hstart, ⟨fun d hd => by simp at hd⟩, HB1⟩
  case round =>
    clear hstart HB1
    obtain ⟨i, es, rfl, hi, hel, hem, HBK, HES, HB⟩ := hrel
    by_cases hlt : i < n
    · have hd1 : decide ((i : Int) < (n : Int)) = true := decide_eq_true (by omega)
      have hlt2 : (i : Int) < (n : Int) := by omega
      obtain ⟨g, rest, rfl, hgb, hnc, hgc⟩ := HBK.out (by omega)
      have hil : i < ds.length := by rw [HDL.out]; exact hlt
      have hgd := HGD.out ds[i] (List.getElem_mem hil)
      have hxl : ds[i].1.f2.length ≤ 100000 := HX.out _ (by rw [← HDS.out]; exact List.mem_map_of_mem (List.getElem_mem hil))
      rw [drop_cons hil, List.map_cons, List.flatten_cons, List.append_assoc] at hgc
      have hdt : (ds.take (i + 1)).map (·.1) = (ds.take i).map (·.1) ++ [ds[i].1] := by rw [List.take_succ_eq_append_getElem hil, List.map_append]; rfl
      have HDT := Aside0.mk hdt
      clear hdt
      generalize ds[i] = d at hgc hgd hxl HDT
      obtain ⟨⟨f0, f1, f2⟩, Ad, cd⟩ := d
      dsimp only [cell3] at hgc hgd hxl
      obtain ⟨hx0, hx1, hx2⟩ := cells_at hgc (o := i * 3) (by rw [cells3_length, hel])
      have HGC := Aside0.mk hgc
      have HGDD := Aside0.mk hgd
      have HEL := Aside0.mk hel
      have HEM := Aside0.mk hem
      have hnew := heap_alloc_new wr (.cells #[.int .i64 f0, .int .i64 f1, .slice Ad f2.length cd] 62)
      obtain ⟨hy0, hy1, hy2⟩ := box3B hnew
      have hslot : slot_Twin.f f0 f1 f2 = some (f0, f1, f2) := by
        unfold slot_Twin.f slices_Clone_byte_byte.f
        rw [if_pos (by omega)]
        rfl
      have HSL := Aside0.mk hslot
      clear hgc hgd hel hem hnew hslot HBK
      repeat (first
        | (go_at_call 50; (refine (slot_Twin.calls f0 f1 Ad cd f2 f0 f1 f2 _ (Kd.C_alloc (Kd.C_below HGDD.out.2 HB.out) _) HGDD.out.1 HSL.out).mono ?_); rintro e2 w2 ⟨v2, rfl, hR2, hb2⟩; obtain ⟨A2, c2, rfl⟩ := Kd.R_slice hR2; have HR2 := Aside0.mk hR2; have HB2 := Aside0.mk hb2; have HG2 := Aside0.mk (blk_below (blk_alloc HGC.out (.cells #[.int .i64 f0, .int .i64 f1, .slice Ad f2.length cd] 62)) hb2); clear hR2 hb2 hx0 hx1 hx2 hy0 hy1 hy2; (try dsimp only))
        | ((with_reducible refine wpList_store_at 62 (.tmp 19) (.tmp 18) g _ (i * 3) _ _ [.int .i64 f0, .int .i64 f1, .slice A2 f2.length c2] _ rfl rfl ?hx ?hy HG2.out ?hp ?hs ?hi ?h1 ?_); (case hx => rfl); (case hy => rfl); (case hp => rw [cells3_length, HEL.out]); (case hs => rfl); (case hi => rfl); (case h1 => exact cell3_one (⟨f0, f1, f2⟩, A2, c2)); intro w3 q1 q2 q3 q4; have HG3 := Aside0.mk q1; have HQ2 := Aside0.mk q2; have HQ3 := Aside0.mk q3; clear q1 q2 q3 q4)
        | go_values | go_guarded | go_step | go_upon | go_back)
      have hbw2 : Below w.heap.size w w2 := bl (below_alloc HB.out (.cells #[.int .i64 f0, .int .i64 f1, .slice Ad f2.length cd] 62)) HB2.out
      have hbase : w.heap.size ≤ (wr.alloc (.cells #[.int .i64 f0, .int .i64 f1, .slice Ad f2.length cd] 62)).heap.size := (below_alloc HB.out (.cells #[.int .i64 f0, .int .i64 f1, .slice Ad f2.length cd] 62)).size
      refine ⟨⟨i + 1, es ++ [(⟨f0, f1, f2⟩, A2, c2)], rfl, by omega, by rw [List.length_append, HEL.out]; rfl, ?_, ⟨fun _ => ⟨g, rest, rfl, hgb, hnc, ?_⟩⟩, ⟨fun d hd => ?_⟩, ⟨HQ3.out _ _ hbw2 hgb⟩⟩, by simp [intOf]; omega⟩
      · rw [List.map_append, HEM.out, HDT.out]
        rfl
      · rw [HG3.out, List.map_append, List.flatten_append]
        simp [cell3]
      · rcases List.mem_append.1 hd with hd | hd
        · have h2 := HES.out d hd
          exact goodB_store ⟨(h2.1.below (below_alloc (Below.refl _ _) _)).below HB2.out, (h2.2.below (below_alloc (Below.refl _ _) _)).below HB2.out⟩ HG2.out HQ2.out
        · simp only [List.mem_singleton] at hd
          subst hd
          exact goodB_store ⟨⟨(Kd.R_reads' HR2.out).2.1, (Kd.R_reads' HR2.out).2.2⟩, youngD_of_R (x := ⟨f0, f1, f2⟩) HR2.out hbase c2⟩ HG2.out HQ2.out
    · have hd1 : decide ((i : Int) < (n : Int)) = false := decide_eq_false (by omega)
      have hin : i = n := by omega
      subst hin
      have hxs : es.map (·.1) = xs := by rw [hem, List.take_of_length_le (by rw [HDL.out]; exact Nat.le_refl _), HDS.out]
      have HXS := Aside0.mk hxs
      clear hem hxs
      go_wp2
      go_ret
      refine ⟨A1, c1, es, rfl, HXS.out, HES.out, fun h0 => ?_, HB.out⟩
      obtain ⟨g, rest, h1, h2, h3, h4⟩ := HBK.out h0
      refine ⟨g, rest, h1, h2, h3, ?_⟩
      rw [h4, List.drop_of_length_le (by rw [HDL.out]; exact Nat.le_refl _)]
      rfl
end Go.Proofs.Ytknmokpnkcckeaa

namespace Go.Proofs.Ytknmokpnkcckeaa
open Go.RowKit Go.Proofs.YtknmokpnkcckeaaW.PrintWords Go.Proofs.YtknmokpnkcckeaaW.PrintLast Go.Proofs.YtknmokpnkcckeaaW.PrintMore Go.Proofs.Ytknmokpnkcckeaa.PAll
set_option linter.unusedVariables false
set_option linter.unusedSimpArgs false

theorem foot_onlyB {P : World → Prop} {W : World} {ok : Nat → Prop} (h : Foot P W ok) : ∃ W', P W' ∧ ∀ a v, W'.cell? a = some v → ok a.block ∧ W.cell? a = some v := by
  classical
  refine ⟨{W with heap := W.heap.mapIdx fun i o => if ok i then o else .cells #[] 0 (0, 0)}, h _ (fun k hk hl => ?_), fun a v ha => ?_⟩
  · simp [Array.getElem?_mapIdx, hk]
  · by_cases hk : ok a.block
    · refine ⟨hk, ?_⟩
      simpa [World.cell?, Array.getElem?_mapIdx, hk] using ha
    · exfalso
      simp only [World.cell?, Array.getElem?_mapIdx] at ha
      cases hb : W.heap[a.block]? with
      | none => simp [hb] at ha
      | some o => simp [hb, hk] at ha
theorem cell_agree {W W' : World} {a : Addr} (h : W'.heap[a.block]? = W.heap[a.block]?) : W'.cell? a = W.cell? a := by
  simp [World.cell?, h]
theorem cell_heap {W : World} {a : Addr} {v : Value} (h : W.cell? a = some v) : a.block < W.heap.size := by
  refine Classical.byContradiction fun hn => ?_
  have : W.heap[a.block]? = none := Array.getElem?_eq_none (by omega)
  simp [World.cell?, this] at h
/-- A row is read wherever its cells are. -/
theorem C_sub {α : Type} {d : Kd α} {W W' : World} {A : Option Addr} {n : Nat} {xs : List α} (hK : ∀ x cs, d.K W x cs → d.K W' x cs) (hc : ∀ a v, W.cell? a = some v → W'.cell? a = some v) (h : d.C W A n xs) : d.C W' A n xs := by
  refine ⟨h.1, h.2.1, fun h0 => ?_⟩
  obtain ⟨ad, ha, hr⟩ := h.2.2 h0
  refine ⟨ad, ha, fun j p hp => ?_⟩
  obtain ⟨c, hl, hk, hcc⟩ := hr j p hp
  exact ⟨c, hl, hK _ _ hk, fun i u hu => hc _ _ (hcc i u hu)⟩
/-- Blocks that stay, as cells that stay. -/
theorem raw_of_F {W : World} {ok : Nat → Prop} {A : Option Addr} {n : Nat} {xs : List S62} (h : Kd.F k62 W ok A n xs) : ∃ ds : List BD, ds.map (·.1) = xs ∧ Kd.F (Kd.raw 3) W ok A n (ds.map cell3) ∧ ∀ d ∈ ds, d.1.f2.length ≤ d.2.2 ∧ Kd.F (Kd.int .u8) W ok d.2.1 d.1.f2.length d.1.f2 := by
  obtain ⟨W0, hC, hsub⟩ := foot_onlyB (P := fun W => k62.C W A n xs) h
  obtain ⟨ds, h1, h2, h3⟩ := raw_of_C hC
  have hmove : ∀ W' : World, (∀ k, ok k → k < W.heap.size → W'.heap[k]? = W.heap[k]?) → ∀ a v, W0.cell? a = some v → W'.cell? a = some v := by
    intro W' hW a v ha
    obtain ⟨hk, hw⟩ := hsub a v ha
    rw [cell_agree (hW _ hk (cell_heap hw))]
    exact hw
  exact ⟨ds, h1, fun W' hW => C_sub (W := W0) (fun _ _ hk => hk) (hmove W' hW) h2, fun d hd => ⟨(h3 d hd).1, fun W' hW => C_sub (W := W0) (fun _ _ hk => hk) (hmove W' hW) (h3 d hd).2⟩⟩
/-- And back: what stays is read now. -/
theorem F_of_raw {W : World} {ok : Nat → Prop} {A : Option Addr} {n : Nat} {ds : List BD} (h : Kd.F (Kd.raw 3) W ok A n (ds.map cell3)) (hg : ∀ d ∈ ds, d.1.f2.length ≤ d.2.2 ∧ Kd.F (Kd.int .u8) W ok d.2.1 d.1.f2.length d.1.f2) : Kd.F k62 W ok A n (ds.map (·.1)) :=
  fun W' hW => raw_to_C (h W' hW) (fun d hd => ⟨(hg d hd).1, (hg d hd).2 W' hW⟩)

/-- One row of a leaf's path takes what fits, in order, while it has room; the rest is left. -/
def goP {α : Type} (many : Nat) (fits : α → Bool) : List α → List α → List α → List α × List α
  | row, left, [] => (row, left)
  | row, left, d :: ds => if row.length < many ∧ fits d = true then goP many fits (row ++ [d]) left ds else goP many fits row (left ++ [d]) ds
/-- All rows, from the deepest one (number t) to the root's: the rows from 0 on, and what is left. -/
def partP {α : Type} (many : Nat) (fits : Nat → α → Bool) : Nat → List α → List (List α) × List α
  | 0, rest => let q := goP many (fits 0) [] [] rest; ([q.1], q.2)
  | t + 1, rest => let q := goP many (fits (t + 1)) [] [] rest; let z := partP many fits t q.2; (z.1 ++ [q.1], z.2)
theorem goP_map {α β : Type} (many : Nat) (f : α → β) (fits : β → Bool) : ∀ (ds row left : List α), goP many fits (row.map f) (left.map f) (ds.map f) = ((goP many (fun a => fits (f a)) row left ds).1.map f, (goP many (fun a => fits (f a)) row left ds).2.map f)
  | [], row, left => rfl
  | d :: ds, row, left => by
    simp only [goP, List.map_cons, List.length_map]
    split
    · have := goP_map many f fits ds (row ++ [d]) left
      rw [List.map_append] at this
      exact this
    · have := goP_map many f fits ds row (left ++ [d])
      rw [List.map_append] at this
      exact this
theorem goP_mem {α : Type} (many : Nat) (fits : α → Bool) : ∀ (ds row left : List α) (x : α), (x ∈ (goP many fits row left ds).1 ∨ x ∈ (goP many fits row left ds).2) → x ∈ row ∨ x ∈ left ∨ x ∈ ds
  | [], row, left, x, h => by
    simp only [goP] at h
    rcases h with h | h
    · exact .inl h
    · exact .inr (.inl h)
  | d :: ds, row, left, x, h => by
    simp only [goP] at h
    split at h
    · rcases goP_mem many fits ds (row ++ [d]) left x h with h | h | h
      · rcases List.mem_append.1 h with h | h
        · exact .inl h
        · exact .inr (.inr (by simp_all))
      · exact .inr (.inl h)
      · exact .inr (.inr (List.mem_cons_of_mem _ h))
    · rcases goP_mem many fits ds row (left ++ [d]) x h with h | h | h
      · exact .inl h
      · rcases List.mem_append.1 h with h | h
        · exact .inr (.inl h)
        · exact .inr (.inr (by simp_all))
      · exact .inr (.inr (List.mem_cons_of_mem _ h))
theorem goP_length {α : Type} (many : Nat) (fits : α → Bool) : ∀ (ds row left : List α), (goP many fits row left ds).1.length + (goP many fits row left ds).2.length = row.length + left.length + ds.length
  | [], row, left => rfl
  | d :: ds, row, left => by
    simp only [goP]
    split
    · rw [goP_length many fits ds]
      simp
      omega
    · rw [goP_length many fits ds]
      simp
      omega
theorem goP_room {α : Type} (many : Nat) (fits : α → Bool) : ∀ (ds row left : List α), row.length ≤ many → (goP many fits row left ds).1.length ≤ many
  | [], row, left, h => h
  | d :: ds, row, left, h => by
    simp only [goP]
    split
    · exact goP_room many fits ds _ _ (by simp; omega)
    · exact goP_room many fits ds _ _ h
end Go.Proofs.Ytknmokpnkcckeaa

namespace Go.Proofs.Ytknmokpnkcckeaa
open Go.RowKit Go.Proofs.YtknmokpnkcckeaaW.PrintWords Go.Proofs.YtknmokpnkcckeaaW.PrintLast Go.Proofs.YtknmokpnkcckeaaW.PrintMore Go.Proofs.Ytknmokpnkcckeaa.PAll
set_option linter.unusedVariables false
set_option linter.unusedSimpArgs false

/-- All blocks under B but g stay. -/
structure Still (g B : Nat) (a b : World) : Prop where
  os : b.os = a.os
  tape : b.tape = a.tape
  output : b.output = a.output
  size : a.heap.size ≤ b.heap.size
  block : ∀ k, k < B → k ≠ g → b.heap[k]? = a.heap[k]?
theorem Still.refl (g B : Nat) (a : World) : Still g B a a := ⟨rfl, rfl, rfl, Nat.le_refl _, fun _ _ _ => rfl⟩
theorem Still.mono {g B B' : Nat} {a b : World} (h : Still g B a b) (hb : B' ≤ B) : Still g B' a b := ⟨h.os, h.tape, h.output, h.size, fun k hk => h.block k (by omega)⟩
theorem Still.below {g B B' : Nat} {a b c : World} (h : Still g B a b) (hb : Below B' b c) (hle : B ≤ B') : Still g B a c :=
  ⟨hb.os.trans h.os, hb.tape.trans h.tape, hb.output.trans h.output, Nat.le_trans h.size hb.size, fun k hk hne => (hb.block k (by omega)).trans (h.block k hk hne)⟩
theorem Still.trans {g B : Nat} {a b c : World} (h : Still g B a b) (h2 : Still g B b c) : Still g B a c :=
  ⟨h2.os.trans h.os, h2.tape.trans h.tape, h2.output.trans h.output, Nat.le_trans h.size h2.size, fun k hk hne => (h2.block k hk hne).trans (h.block k hk hne)⟩
theorem Still.to_below {g B base : Nat} {a b : World} (h : Still g B a b) (h1 : base ≤ g) (h2 : base ≤ B) : Below base a b :=
  ⟨h.os, h.tape, h.output, h.size, fun k hk => h.block k (by omega) (by omega)⟩
/-- A row of blocks of the call's own; block g is none of it. -/
def RowB (g base : Nat) (W : World) (v : Value) (D : List BD) : Prop :=
  ∃ A c, v = .slice A D.length c ∧ D.length ≤ c ∧ Kd.F (Kd.raw 3) W (fun k => k ≠ g) A D.length (D.map cell3) ∧ (D.length ≠ 0 → ∃ b cells, A = some ⟨b, 0, none⟩ ∧ base ≤ b ∧ b ≠ g ∧ W.heap[b]? = some (.cells cells 62 (0, 0)))
theorem heap_lt {W : World} {k : Nat} {o : Obj} (h : W.heap[k]? = some o) : k < W.heap.size := (Array.getElem?_eq_some_iff.1 h).1
theorem RowB.step {g base : Nat} {W W' : World} {v : Value} {D : List BD} (h : RowB g base W v D) (hs : ∀ k, k < W.heap.size → k ≠ g → W'.heap[k]? = W.heap[k]?) : RowB g base W' v D := by
  obtain ⟨A, c, h1, h2, h3, h4⟩ := h
  refine ⟨A, c, h1, h2, Kd.F_step h3 (fun k hk hlt => hs k hlt hk), fun hn => ?_⟩
  obtain ⟨b, cells, e1, e2, e3, e4⟩ := h4 hn
  exact ⟨b, cells, e1, e2, e3, (hs b (heap_lt e4) e3).trans e4⟩
theorem RowB.nil (g base : Nat) (W : World) : RowB g base W (.slice none 0 0) [] := ⟨none, 0, rfl, Nat.le_refl _, Kd.F_nil _ _ _, fun h => absurd rfl h⟩
/-- A row under way: its one block is its own. -/
def OwnR (B : Nat) (W : World) (v : Value) (D : List BD) : Prop := Kd.R (Kd.raw 3) 62 W B (fun k => some k = v.ownBlock) v (D.map cell3)
theorem OwnR.nil (B : Nat) (W : World) : OwnR B W (.slice none 0 0) [] := Kd.R_tight rfl (Kd.R_nil (Kd.raw 3) _ _ _ (fun _ => True))
theorem OwnR.base {B : Nat} {W : World} {v : Value} {D : List BD} (h : OwnR B W v D) : ∀ k, v.ownBlock = some k → B ≤ k := Kd.R_base h
theorem OwnR.lt {B : Nat} {W : World} {v : Value} {D : List BD} (h : OwnR B W v D) : ∀ k, v.ownBlock = some k → k < W.heap.size := Kd.R_lt h
theorem OwnR.below {B : Nat} {W W' : World} {v : Value} {D : List BD} (h : OwnR B W v D) (hb : Below W.heap.size W W') : OwnR B W' v D := Kd.R_below h hb
theorem OwnR.step {B : Nat} {W W' : World} {v : Value} {D : List BD} (h : OwnR B W v D) (hs : ∀ k, some k = v.ownBlock → W'.heap[k]? = W.heap[k]?) : OwnR B W' v D := Kd.R_step h (fun k hk _ => hs k hk)
theorem OwnR.row {g base B : Nat} {W : World} {v : Value} {D : List BD} (h : OwnR B W v D) (hg : g < B) (hb : base ≤ B) : RowB g base W v D := by
  obtain ⟨A, c, rfl⟩ := Kd.R_slice h
  rw [List.length_map] at h ⊢
  have hF := Kd.R_F h
  refine ⟨A, c, rfl, by have := (Kd.R_reads' h).2.1; omega, Kd.F_mono hF (fun k hk => ?_), fun hn => ?_⟩
  · have := h.base k hk.symm
    omega
  · obtain ⟨g', rest, e1, e2, e3, e4⟩ := raw_block h hn
    exact ⟨g', _, e1, by omega, by omega, e4⟩
/-- Two rows have no block in common. -/
def Apart (u v : Value) : Prop := ∀ k, u.ownBlock = some k → v.ownBlock ≠ some k
theorem Apart.symm {u v : Value} (h : Apart u v) : Apart v u := fun k hk he => h k he hk
theorem apart_nil (v : Value) : Apart (.slice none 0 0) v := fun k hk => by simp [Value.ownBlock] at hk
/-- Behind an append to v: the other row. -/
theorem OwnR.after {B : Nat} {W w1 : World} {u v v1 : Value} {D : List BD} (h : OwnR B W u D) (ha : Apart u v) (hg : W.grownBy w1 v.ownBlock) (hat : v1.ownBlock = v.ownBlock ∨ ∃ b, v1.ownBlock = some b ∧ W.heap.size ≤ b) : OwnR B w1 u D ∧ Apart u v1 := by
  refine ⟨Kd.R_grown h hg (fun k hk he => ha k hk.symm he.symm), fun k hk => ?_⟩
  rcases hat with hat | ⟨b, hb, hle⟩
  · rw [hat]
    exact ha k hk
  · rw [hb]
    intro he
    injection he with he
    have := h.lt k hk
    omega

/-- The rows from 0 on, when s rows are still to be filled, and what is left. -/
def partS {α : Type} (many : Nat) (fits : Nat → α → Bool) : Nat → List α → List (List α) × List α
  | 0, rest => ([], rest)
  | s + 1, rest => ((partS many fits s (goP many (fits s) [] [] rest).2).1 ++ [(goP many (fits s) [] [] rest).1], (partS many fits s (goP many (fits s) [] [] rest).2).2)
theorem partS_length {α : Type} (many : Nat) (fits : Nat → α → Bool) : ∀ (s : Nat) (D : List α), (partS many fits s D).1.length = s
  | 0, D => rfl
  | s + 1, D => by simp [partS, partS_length many fits s]
theorem partS_map {α β : Type} (many : Nat) (f : α → β) (fits : Nat → β → Bool) : ∀ (s : Nat) (D : List α), partS many fits s (D.map f) = ((partS many (fun t a => fits t (f a)) s D).1.map (·.map f), (partS many (fun t a => fits t (f a)) s D).2.map f)
  | 0, D => rfl
  | s + 1, D => by
    have h := goP_map many f (fits s) D [] []
    simp only [List.map_nil] at h
    simp only [partS, h, partS_map many f fits s, List.map_append, List.map_cons, List.map_nil]
theorem partS_mem {α : Type} (many : Nat) (fits : Nat → α → Bool) : ∀ (s : Nat) (D : List α) (x : α), (x ∈ (partS many fits s D).2 ∨ ∃ r ∈ (partS many fits s D).1, x ∈ r) → x ∈ D
  | 0, D, x, h => by
    rcases h with h | ⟨r, hr, _⟩
    · exact h
    · simp [partS] at hr
  | s + 1, D, x, h => by
    have go : ∀ y, (y ∈ (goP many (fits s) [] [] D).1 ∨ y ∈ (goP many (fits s) [] [] D).2) → y ∈ D := fun y hy => by
      rcases goP_mem many (fits s) D [] [] y hy with h | h | h
      · simp at h
      · simp at h
      · exact h
    simp only [partS, List.mem_append, List.mem_singleton] at h
    rcases h with h | ⟨r, hr | rfl, hx⟩
    · exact go x (.inr (partS_mem many fits s _ x (.inl h)))
    · exact go x (.inr (partS_mem many fits s _ x (.inr ⟨r, hr, hx⟩)))
    · exact go x (.inl hx)

/-- The outer loop: s rows are still to be filled. -/
structure OutB (g base n many : Nat) (fit : Nat → BD → Bool) (D0 : List BD) (s : Nat) (vs : List Value) (v : Value) (D : List BD) (rows : List (List BD)) (W : World) : Prop where
  blk : W.heap[g]? = some (.cells ⟨vs⟩ 24 (0, 0))
  low : ∀ j, j < s → vs[j]? = some (.slice none 0 0)
  len : rows.length + s = n
  done : ∀ j D', rows[j]? = some D' → ∃ v, vs[s + j]? = some v ∧ RowB g base W v D'
  rest : RowB g base W v D
  eq : partS many fit n D0 = ((partS many fit s D).1 ++ rows, (partS many fit s D).2)
  le : D.length ≤ D0.length
  mem : ∀ d ∈ D, d ∈ D0
/-- The inner loop, in row t. -/
structure InB (g B many : Nat) (fit : BD → Bool) (t : Nat) (vs : List Value) (w1 : World) (D : List BD) (i : Nat) (vr vl : Value) (Dr Dl : List BD) (W : World) : Prop where
  blk : W.heap[g]? = some (.cells ⟨vs.set t vr⟩ 24 (0, 0))
  r : OwnR B W vr Dr
  l : OwnR B W vl Dl
  ap : Apart vr vl
  still : Still g B w1 W
  eq : goP many fit [] [] D = goP many fit Dr Dl (D.drop i)
  len : Dr.length + Dl.length = i
  le : i ≤ D.length
theorem OutB.step {g base n many : Nat} {fit : Nat → BD → Bool} {D0 : List BD} {s : Nat} {vs : List Value} {v : Value} {D : List BD} {rows : List (List BD)} {W W' : World} (h : OutB g base n many fit D0 s vs v D rows W) (hs : ∀ k, k < W.heap.size → W'.heap[k]? = W.heap[k]?) : OutB g base n many fit D0 s vs v D rows W' :=
  ⟨(hs g (heap_lt h.blk)).trans h.blk, h.low, h.len, fun j D' hj => by
    obtain ⟨v, h1, h2⟩ := h.done j D' hj
    exact ⟨v, h1, h2.step (fun k hk _ => hs k hk)⟩, h.rest.step (fun k hk _ => hs k hk), h.eq, h.le, h.mem⟩
theorem InB.start {g base n many : Nat} {fit : Nat → BD → Bool} {D0 : List BD} {t : Nat} {vs : List Value} {v : Value} {D : List BD} {rows : List (List BD)} {W : World} (h : OutB g base n many fit D0 (t + 1) vs v D rows W) :
    InB g W.heap.size many (fit t) t vs W D 0 (.slice none 0 0) (.slice none 0 0) [] [] W := by
  refine ⟨?_, OwnR.nil _ _, OwnR.nil _ _, apart_nil _, Still.refl _ _ _, rfl, rfl, Nat.zero_le _⟩
  have h0 := h.low t (by omega)
  have : vs.set t (.slice none 0 0) = vs := by
    apply List.ext_getElem?
    intro j
    rw [List.getElem?_set]
    split
    · next he =>
      subst he
      split
      · exact h0.symm
      · next hn => rw [List.getElem?_eq_none (by omega)]
    · rfl
  rw [this]
  exact h.blk
theorem InB.below {g B many : Nat} {fit : BD → Bool} {t : Nat} {vs : List Value} {w1 : World} {D : List BD} {i : Nat} {vr vl : Value} {Dr Dl : List BD} {W W' : World} (h : InB g B many fit t vs w1 D i vr vl Dr Dl W) (hb : Below W.heap.size W W') (hB : B ≤ W.heap.size) : InB g B many fit t vs w1 D i vr vl Dr Dl W' :=
  ⟨(hb.block g (heap_lt h.blk)).trans h.blk, h.r.below hb, h.l.below hb, h.ap, h.still.below hb hB, h.eq, h.len, h.le⟩
theorem goP_take {α : Type} (many : Nat) (fits : α → Bool) {D row left : List α} {i : Nat} {d : α} (hd : D[i]? = some d) (hr : row.length < many) (hf : fits d = true) : goP many fits row left (D.drop i) = goP many fits (row ++ [d]) left (D.drop (i + 1)) := by
  obtain ⟨hi, rfl⟩ := List.getElem?_eq_some_iff.1 hd
  rw [List.drop_eq_getElem_cons hi, goP, if_pos ⟨hr, hf⟩]
theorem goP_leave {α : Type} (many : Nat) (fits : α → Bool) {D row left : List α} {i : Nat} {d : α} (hd : D[i]? = some d) (hr : ¬ (row.length < many ∧ fits d = true)) : goP many fits row left (D.drop i) = goP many fits row (left ++ [d]) (D.drop (i + 1)) := by
  obtain ⟨hi, rfl⟩ := List.getElem?_eq_some_iff.1 hd
  rw [List.drop_eq_getElem_cons hi, goP, if_neg hr]
/-- A block is left. -/
theorem InB.leave {g B many : Nat} {fit : BD → Bool} {t : Nat} {vs : List Value} {w1 : World} {D : List BD} {i : Nat} {vr vl v1 : Value} {Dr Dl : List BD} {W W2 : World} {ok : Nat → Prop} {d : BD} (h : InB g B many fit t vs w1 D i vr vl Dr Dl W) (hd : D[i]? = some d) (hr : ¬ (Dr.length < many ∧ fit d = true)) (hgB : g < B) (hB : B ≤ W.heap.size)
    (hR : Kd.R (Kd.raw 3) 62 W2 B ok v1 (Dl.map cell3 ++ [cell3 d])) (hb : Below B W W2) (hg : W.grownBy W2 vl.ownBlock) (hat : v1.ownBlock = vl.ownBlock ∨ ∃ b, v1.ownBlock = some b ∧ W.heap.size ≤ b) : InB g B many fit t vs w1 D (i + 1) vr v1 Dr (Dl ++ [d]) W2 := by
  obtain ⟨e1, e2⟩ := h.r.after h.ap hg hat
  refine ⟨(hb.block g hgB).trans h.blk, e1, ?_, e2, h.still.below hb (Nat.le_refl _), by rw [h.eq, goP_leave many fit hd hr], by rw [List.length_append, List.length_singleton]; have := h.len; omega, (List.getElem?_eq_some_iff.1 hd).1⟩
  have := Kd.R_tight rfl hR
  unfold OwnR
  rw [List.map_append]
  exact this
/-- A block is taken: the append, and the store into the rows' block. -/
theorem InB.take {g B many : Nat} {fit : BD → Bool} {t : Nat} {vs : List Value} {w1 : World} {D : List BD} {i : Nat} {vr vl v1 : Value} {Dr Dl : List BD} {W W2 W3 : World} {ok : Nat → Prop} {d : BD} (h : InB g B many fit t vs w1 D i vr vl Dr Dl W) (hd : D[i]? = some d) (hr : Dr.length < many) (hf : fit d = true) (hgB : g < B) (hB : B ≤ W.heap.size)
    (hR : Kd.R (Kd.raw 3) 62 W2 B ok v1 (Dr.map cell3 ++ [cell3 d])) (hb : Below B W W2) (hg : W.grownBy W2 vr.ownBlock) (hat : v1.ownBlock = vr.ownBlock ∨ ∃ b, v1.ownBlock = some b ∧ W.heap.size ≤ b)
    (hs : W3 = W2.setCell ⟨g, t, none⟩ v1) : InB g B many fit t vs w1 D (i + 1) v1 vl (Dr ++ [d]) Dl W3 := by
  obtain ⟨e1, e2⟩ := h.l.after h.ap.symm hg hat
  have hR1 : OwnR B W2 v1 (Dr ++ [d]) := by
    have := Kd.R_tight rfl hR
    unfold OwnR
    rw [List.map_append]
    exact this
  have hoth : ∀ k, k ≠ g → W3.heap[k]? = W2.heap[k]? := fun k hk => by
    subst hs
    exact Below.heap_setCell _ _ _ k hk
  have hblk : W2.heap[g]? = some (.cells ⟨vs.set t vr⟩ 24 (0, 0)) := (hb.block g hgB).trans h.blk
  refine ⟨?_, hR1.step (fun k hk => hoth k ?_), e1.step (fun k hk => hoth k ?_), e2.symm, ?_, by rw [h.eq, goP_take many fit hd hr hf], by rw [List.length_append, List.length_singleton]; have := h.len; omega, (List.getElem?_eq_some_iff.1 hd).1⟩
  · subst hs
    have := blk_set hblk t v1
    simpa [List.set_set] using this
  · have := hR1.base k hk.symm
    omega
  · have := e1.base k hk.symm
    omega
  · have h2 := h.still.below hb (Nat.le_refl _)
    subst hs
    exact ⟨h2.os, h2.tape, h2.output, by simpa [World.setCell] using h2.size, fun k hk hne => (hoth k hne).trans (h2.block k hk hne)⟩
/-- The row is over. -/
theorem OutB.next {g base n many : Nat} {fit : Nat → BD → Bool} {D0 : List BD} {t : Nat} {vs : List Value} {v : Value} {D : List BD} {rows : List (List BD)} {w1 W : World} {vr vl : Value} {Dr Dl : List BD} (h : OutB g base n many fit D0 (t + 1) vs v D rows w1) (h2 : InB g w1.heap.size many (fit t) t vs w1 D D.length vr vl Dr Dl W)
    (hbase : base ≤ g) : OutB g base n many fit D0 t (vs.set t vr) vl Dl (Dr :: rows) W := by
  have hg := heap_lt h.blk
  have hts : t < vs.length := by
    have := h.low t (by omega)
    exact (List.getElem?_eq_some_iff.1 this).1
  have hgo : goP many (fit t) [] [] D = (Dr, Dl) := by
    rw [h2.eq, List.drop_length]
    rfl
  refine ⟨h2.blk, fun j hj => ?_, by rw [List.length_cons]; have := h.len; omega, fun j D' hj => ?_, h2.l.row hg (by omega), ?_, ?_, fun d hd => h.mem d ?_⟩
  · rw [List.getElem?_set_ne (by omega)]
    exact h.low j (by omega)
  · rcases j with _ | j
    · simp only [List.getElem?_cons_zero, Option.some.injEq] at hj
      subst hj
      exact ⟨vr, by simp [hts], h2.r.row hg (by omega)⟩
    · simp only [List.getElem?_cons_succ] at hj
      obtain ⟨u, h3, h4⟩ := h.done j D' hj
      refine ⟨u, ?_, h4.step (fun k hk hne => h2.still.block k hk hne)⟩
      rw [List.getElem?_set_ne (by omega)]
      rw [show t + (j + 1) = t + 1 + j by omega]
      exact h3
  · rw [h.eq]
    simp only [partS, hgo, List.append_assoc, List.singleton_append]
  · have := goP_length many (fit t) D [] []
    rw [hgo] at this
    simp at this
    have := h.le
    omega
  · rcases goP_mem many (fit t) D [] [] d (.inr (by rw [hgo]; exact hd)) with h | h | h
    · simp at h
    · simp at h
    · exact h
/-- A row's i-th block, as cells. -/
theorem RowB.cells {g base : Nat} {W : World} {v : Value} {D : List BD} (h : RowB g base W v D) {i : Nat} {d : BD} (hd : D[i]? = some d) : ∃ b c, v = .slice (some ⟨b, 0, none⟩) D.length c ∧ base ≤ b ∧ b ≠ g ∧ b < W.heap.size ∧ W.cell? ⟨b, i * 3, none⟩ = some (.int .i64 d.1.f0) ∧ W.cell? ⟨b, i * 3 + 1, none⟩ = some (.int .i64 d.1.f1) ∧ W.cell? ⟨b, i * 3 + 2, none⟩ = some (.slice d.2.1 d.1.f2.length d.2.2) := by
  obtain ⟨A, c, rfl, _, hF, hy⟩ := h
  have hi := (List.getElem?_eq_some_iff.1 hd).1
  obtain ⟨b, cells, rfl, h1, h2, h3⟩ := hy (by omega)
  obtain ⟨ad, ha, hc⟩ := (Kd.F_now hF).2.2 (by omega)
  injection ha with ha
  subst ha
  obtain ⟨cs, hl, ⟨hce, _, _⟩, hcell⟩ := hc i (cell3 d) (by rw [List.getElem?_map, hd]; rfl)
  subst hce
  refine ⟨b, c, rfl, h1, h2, heap_lt h3, ?_, ?_, ?_⟩
  · have := hcell 0 (.int .i64 d.1.f0) rfl
    rw [add_at] at this
    simp only [Nat.zero_add, Nat.add_zero] at this
    exact this
  · have := hcell 1 (.int .i64 d.1.f1) rfl
    rw [add_at] at this
    simp only [Nat.zero_add, Nat.add_zero] at this
    exact this
  · have := hcell 2 (.slice d.2.1 d.1.f2.length d.2.2) rfl
    rw [add_at] at this
    simp only [Nat.zero_add, Nat.add_zero] at this
    exact this
end Go.Proofs.Ytknmokpnkcckeaa
