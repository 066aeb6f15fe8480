/-
ref17.Parted: a stash, parted (the document's way).
-/
import Derived.Test.YtknmokpnkcckeaaStillB
import Derived.Test.YtknmokpnkcckeaaPAll11
import Derived.Test.YtknmokpnkcckeaaPAll15
import Derived.Test.YtknmokpnkcckeaaPAll13
namespace Go.Proofs.Ytknmokpnkcckeaa
open Go.RowKit Go.Proofs.YtknmokpnkcckeaaW.PrintWords Go.Proofs.YtknmokpnkcckeaaW.PrintLast Go.Proofs.YtknmokpnkcckeaaW.PrintMore Go.Proofs.Ytknmokpnkcckeaa.PAll
set_option linter.unusedVariables false
set_option linter.unusedSimpArgs false

theorem info24 : (Try.prog.info? 24).map (fun i => (i.zero, i.size, i.bytes)) = some (some (.slice none 0 0), 1, 24) := by kernel_rfl
theorem reps_raw1 : ∀ {css : List (List Value)} {inner : List Value}, Reps (fun (x cs : List Value) => cs = x ∧ cs.length = 1 ∧ ∀ u ∈ cs, u.oneCell' = true) 1 css inner → inner = css.flatten
  | [], inner, h => by
    have := h.1
    simp at this
    simp [this]
  | c :: css, inner, h => by
    have h0 := (h.2 0 c rfl).1
    simp only [Nat.zero_mul, List.drop_zero] at h0
    have ht : Reps (fun (x cs : List Value) => cs = x ∧ cs.length = 1 ∧ ∀ u ∈ cs, u.oneCell' = true) 1 css (inner.drop 1) := by
      refine ⟨by rw [List.length_drop, h.1, List.length_cons]; omega, fun j p hp => ?_⟩
      have := h.2 (j + 1) p (by simpa using hp)
      rw [List.drop_drop, show 1 + j * 1 = (j + 1) * 1 by omega]
      exact this
    rw [List.flatten_cons, ← reps_raw1 ht, ← h0, List.take_append_drop]
theorem flat_rep (n : Nat) (z : Value) : (List.replicate n [z]).flatten = List.replicate n z := by
  induction n with
  | zero => rfl
  | succ n ih => rw [List.replicate_succ, List.flatten_cons, ih]; rfl
/-- The block of made rows. -/
theorem made_block {w : World} {base n : Nat} {ok : Nat → Prop} {v : Value} (h : Kd.R (Kd.raw 1) 24 w base ok v (List.replicate (n + 1) [.slice none 0 0])) : ∃ g c tail, v = .slice (some ⟨g, 0, none⟩) (n + 1) c ∧ base ≤ g ∧ n + 1 ≤ c ∧ w.heap[g]? = some (.cells ⟨List.replicate (n + 1) (.slice none 0 0) ++ tail⟩ 24 (0, 0)) := by
  obtain ⟨_, inner, ho, hr⟩ := h
  have hin := reps_raw1 hr
  rw [flat_rep] at hin
  rw [List.length_replicate] at ho
  rcases ho.2 with ⟨hv, hn⟩ | ⟨g, cap, cur, hv, hb, hg, hc1, _, _, htk⟩
  · omega
  · refine ⟨g, cap, cur.toList.drop (n + 1), hv, hb, by omega, ?_⟩
    rw [hg, ← hin, ← htk]
    show some (Obj.cells cur 24) = some (Obj.cells ⟨cur.toList.take ((n + 1) * 1) ++ cur.toList.drop (n + 1)⟩ 24)
    rw [Nat.mul_one, List.take_append_drop]
theorem OutB.start {g base n many : Nat} {fit : Nat → BD → Bool} {D0 : List BD} {tail : List Value} {v : Value} {W : World} (h : W.heap[g]? = some (.cells ⟨List.replicate n (.slice none 0 0) ++ tail⟩ 24 (0, 0))) (hr : RowB g base W v D0) : OutB g base n many fit D0 n (List.replicate n (.slice none 0 0) ++ tail) v D0 [] W :=
  ⟨h, fun j hj => by rw [List.getElem?_append_left (by simpa using hj)]; simp [hj], by simp, fun j D' hj => by simp at hj, hr, by simp, Nat.le_refl _, fun _ h => h⟩
/-- A stash of the call's own, as cells. -/
theorem rowB_of_S {g base : Nat} {W : World} {v : Value} {xs : List S62} (h : Kd.S k62 62 W base (fun _ => True) v xs) (hg : g < base) : ∃ ds : List BD, ds.map (·.1) = xs ∧ RowB g base W v ds ∧ ∀ d ∈ ds, d.1.f2.length ≤ d.2.2 ∧ Kd.F (Kd.int .u8) W (fun k => k ≠ g) d.2.1 d.1.f2.length d.1.f2 := by
  have h1 : Kd.S k62 62 W base (fun k => k ≠ g) v xs := Kd.S_mono (Kd.S_bound h) (fun k hk => by have := hk.2.1; omega)
  obtain ⟨A, c, rfl, hc, _⟩ := Kd.S_reads h1
  obtain ⟨ds, e1, e2, e3⟩ := raw_of_F (Kd.S_F h1)
  subst e1
  rw [List.length_map] at *
  refine ⟨ds, rfl, ⟨A, c, rfl, hc, e2, fun hn => ?_⟩, e3⟩
  obtain ⟨b, cap, f1, f2, f3, cells, f4⟩ := Kd.S_form h1 (by rw [List.length_map]; omega)
  injection f1 with f1
  exact ⟨b, cells, f1, f2, by omega, f4⟩
theorem RowB.lower {g base base' : Nat} {W : World} {v : Value} {D : List BD} (h : RowB g base W v D) (hb : base' ≤ base) : RowB g base' W v D := by
  obtain ⟨A, c, h1, h2, h3, h4⟩ := h
  refine ⟨A, c, h1, h2, h3, fun hn => ?_⟩
  obtain ⟨b, cells, e1, e2, e3, e4⟩ := h4 hn
  exact ⟨b, cells, e1, by omega, e3, e4⟩
section
variable {P : Program} {ops : Array Oper} {rest : List Oper} {o : Oper} {a : Act} {w : World} {Q : Exit → Act → World → Prop}
theorem exec_load {ty : TypeId} {x : Operand} {b u : Nat} {cs : Array Value} {d : TypeDesc} (ho : o.op = .load ty x) (hx : a.eval x = .pointer (some ⟨b, 0, none⟩)) (hg : w.heap[b]? = some (.cells cs u (0, 0))) (hu : P.underlying ty = some d) (hd : d.isRow = true) (hi : (P.info? ty).map (·.size) = some cs.size) :
    (execOp a.eval o).run P w = .ok (.value (.agg cs)) w := by
  have hl := load_whole hg hu hd hi
  unfold execOp
  simp only [ho, hx, Sem.run_bind, hl, Result.andThen_ok, Sem.run_pure]
end
theorem OutB.eq0 {g base n many : Nat} {fit : Nat → BD → Bool} {D0 : List BD} {vs : List Value} {v : Value} {D : List BD} {rows : List (List BD)} {W : World} (h : OutB g base n many fit D0 0 vs v D rows W) : partS many fit n D0 = (rows, D) := by
  rw [h.eq]
  rfl
theorem rows_C {W : World} {g base n : Nat} {vs : List Value} {rows : List (List BD)} (hb : W.heap[g]? = some (.cells ⟨vs⟩ 24 (0, 0))) (hl : rows.length + 0 = n) (hm : n ≤ 9223372036854775807) (hd : ∀ j D', rows[j]? = some D' → ∃ v, vs[0 + j]? = some v ∧ RowB g base W v D') (hg : ∀ r ∈ rows, ∀ d ∈ r, GoodB W d) :
    Kd.C (Kd.slice 62 k62) W (some ⟨g, 0, none⟩) n (rows.map (·.map (·.1))) := by
  refine ⟨by rw [List.length_map]; omega, hm, fun h0 => ⟨_, rfl, fun j p hj => ?_⟩⟩
  rw [List.getElem?_map, Option.map_eq_some_iff] at hj
  obtain ⟨D', hD, rfl⟩ := hj
  obtain ⟨v, hv, A, c, rfl, hc, hF, _⟩ := hd j D' hD
  refine ⟨[.slice A (D'.map (·.1)).length c], rfl, ⟨A, c, rfl, by rw [List.length_map]; exact hc, ?_⟩, fun i u hu => ?_⟩
  · rw [List.length_map]
    exact raw_to_C (Kd.F_now hF) (hg D' (List.mem_of_getElem? hD))
  · rcases i with _ | i
    · simp only [List.getElem?_cons_zero, Option.some.injEq] at hu
      subst hu
      rw [add_at, blk_cell hb]
      rw [Nat.zero_add] at hv
      have e : 0 + (j * (Kd.slice 62 k62).sz + 0) = j := by show 0 + (j * 1 + 0) = j; omega
      rw [e, List.length_map]
      simpa using hv
    · simp at hu
theorem infoL : (Try.prog.info? 23).map (·.size) = some 4 := by kernel_rfl

set_option maxHeartbeats 8000000 in
set_option maxRecDepth 100000 in
theorem parted_calls (kt km ky : Nat) (l0 l1 l3 leaf : Int) (hi many : Nat) (A : Option Addr) (c : Nat) (xs : List S62) (fits : Nat → S62 → Bool) (w : World) (hr : Kd.C k62 w A xs.length xs) (hc : xs.length ≤ c) (hn : xs.length ≤ 1000) (hh : hi ≤ 6)
    (ht : ref09_TwinAll.f kt xs = some xs) (hm : ref09_Many.f km l0 l1 hi l3 = some (many : Int)) (hf : ∀ x ∈ xs, ∀ t, t ≤ hi → ref17_May.f ky l0 l1 hi l3 x.f0 x.f1 x.f2 leaf t = some (fits t x)) :
    Calls Try.prog 44 #[.agg #[.int .i64 l0, .int .i64 l1, .int .i64 hi, .int .i64 l3], .slice A xs.length c, .int .i64 leaf] w fun e w' => ∃ g c1 tl, e = .returned (.tuple #[.slice (some ⟨g, 0, none⟩) (hi + 1) c1, tl]) ∧ hi + 1 ≤ c1 ∧ Kd.C (Kd.slice 62 k62) w' (some ⟨g, 0, none⟩) (hi + 1) (partS many fits (hi + 1) xs).1 ∧ (∃ A2 c2, tl = .slice A2 (partS many fits (hi + 1) xs).2.length c2 ∧ (partS many fits (hi + 1) xs).2.length ≤ c2 ∧ Kd.C k62 w' A2 (partS many fits (hi + 1) xs).2.length (partS many fits (hi + 1) xs).2) ∧ Below w.heap.size w w' := by
  have HR := Aside0.mk hr
  have HC := Aside0.mk hc
  have HN := Aside0.mk hn
  have HT := Aside0.mk ht
  have HM := Aside0.mk hm
  have HF := Aside0.mk hf
  have hh2 : (hi : Int) ≤ 6 := by omega
  have hu23 := Try.underlying23
  have hu62 := Try.underlying62
  have hB0 := below_alloc (Below.refl w.heap.size w) (.cells #[.int .i64 l0, .int .i64 l1, .int .i64 hi, .int .i64 l3] 23)
  have hL0 := heap_alloc_new w (.cells #[.int .i64 l0, .int .i64 l1, .int .i64 hi, .int .i64 l3] 23)
  have HB0 := Aside0.mk hB0
  have HL0 := Aside0.mk hL0
  clear hr hc hn ht hm hf hB0 hL0
  go_enter Try.func44, Try.ntmps44
  repeat (first
    | ((with_reducible refine gate_dst (N := 16) rfl ?_); refine Kd.R_make (Kd.raw 1) (w0 := w.alloc (.cells #[.int .i64 l0, .int .i64 l1, .int .i64 hi, .int .i64 l3] 23)) (w.heap.size + 1) 24 rfl (N := 16) rfl 27 (.tmp 15) (.tmp 15) rfl ((hi : Int) + 1) rfl rfl Try.underlying27 (.slice none 0 0) 24 info24 rfl (by decide) (by decide) [.slice none 0 0] (ok := fun _ => True) (okp := fun _ => True) ⟨rfl, rfl, by simp [Value.cells, Value.oneCell']⟩ (fun _ h => h) trivial (by omega) (by omega) (Below.refl _ _) (by simp) ?_; intro v1 w1 ho hb hg hat; rw [show ((hi : Int) + 1).toNat = hi + 1 by omega] at ho; obtain ⟨g, c1, tail, rfl, hgb, hgc, hblk⟩ := made_block ho; have HBLK := Aside0.mk hblk; have HGB := Aside0.mk hgb; have HGC := Aside0.mk hgc; have HL1 := Aside0.mk ((hb.block w.heap.size (by omega)).trans HL0.out); have HB1 := Aside0.mk (HB0.out.trans (hb.mono (by omega))); have hl2 := blk_cell HL1.out 2; clear ho hb hg hat hblk hgb hgc)
    | (go_at_call 10; (with_reducible refine (ref09_TwinAll.calls kt A c xs xs _ (Kd.C_below HR.out HB1.out) HC.out HT.out).mono ?_); rintro e2 w2 ⟨v2, rfl, hS, hb2⟩; obtain ⟨ds, hds, hrow, hgood⟩ := rowB_of_S (g := g) hS (heap_lt HBLK.out); have HDS := Aside0.mk hds; have HROW := Aside0.mk (hrow.lower (base' := w.heap.size + 1) (by have := heap_lt HBLK.out; have := HGB.out; omega)); have HGOOD := Aside0.mk hgood; have HBLK2 := Aside0.mk (blk_below HBLK.out hb2); have HB2 := Aside0.mk (HB1.out.trans (hb2.mono HB1.out.size)); have HL2 := Aside0.mk (blk_below HL1.out hb2); replace hl2 := blk_cell HL2.out 2; clear hS hb2 hds hrow hgood; (try dsimp only))
    | go_values | go_guarded | go_step | go_upon | go_back)
  clear hl2
  have hdl : ds.length ≤ 1000 := by have := HN.out; have h2 := congrArg List.length HDS.out; rw [List.length_map] at h2; omega
  have HDL := Aside0.mk hdl
  clear hdl
  have HO := Aside0.mk (OutB.start (base := w.heap.size + 1) (n := hi + 1) (many := many) (fit := fun t d => fits t d.1) HBLK2.out HROW.out)
  go_loopw [9, 10] (fun v9 v10 wr => ∃ (s : Nat) (vs : List Value) (D : List BD) (rows : List (List BD)), v10 = .int .i64 ((s : Int) - 1) ∧ s ≤ hi + 1 ∧ Aside0 (OutB g (w.heap.size + 1) (hi + 1) many (fun t d => fits t d.1) ds s vs v9 D rows wr) ∧ Aside0 (Still g w2.heap.size w2 wr)) (fun _ v10 _ => (intOf v10 + 1).toNat)
  case atStart => exact ⟨hi + 1, _, ds, [], by simp, Nat.le_refl _, HO, ⟨Still.refl _ _ _⟩⟩
  case round =>
    clear HO
    obtain ⟨s, vs, D, rows, rfl, hs, HO, HS⟩ := hrel
    obtain ⟨A9, c9, rfl, _, _, _⟩ := HO.out.rest
    rcases s with _ | t
    · have hd1 : decide ((((0 : Nat) : Int) - 1) ≥ 0) = false := decide_eq_false (by omega)
      go_wp2
      go_ret2
      have hw2q := HS.out
      have hgd : ∀ d ∈ ds, GoodB wr d := fun d hd => by
        obtain ⟨h1, h2⟩ := HGOOD.out d hd
        exact ⟨h1, Kd.F_now (Kd.F_step h2 (fun k hk hlt => hw2q.block k hlt hk))⟩
      have heq := HO.out.eq0
      have hmp := partS_map many (fun d : BD => d.1) fits (hi + 1) ds
      rw [HDS.out, heq] at hmp
      have hgw : g < w2.heap.size := heap_lt HBLK2.out
      have hmem := partS_mem many (fun t (d : BD) => fits t d.1) (hi + 1) ds
      rw [heq] at hmem
      rw [hmp]
      refine ⟨g, c1, .slice A9 D.length c9, rfl, HGC.out, rows_C HO.out.blk HO.out.len (by omega) HO.out.done (fun r hr d hd => hgd d (hmem d (.inr ⟨r, hr, hd⟩))), ?_, ?_⟩
      · obtain ⟨A, c, e, hc, hF, _⟩ := HO.out.rest
        injection e with e1 e2 e3
        subst e1 e3
        refine ⟨A9, c9, by rw [List.length_map], by rw [List.length_map]; exact hc, ?_⟩
        rw [List.length_map]
        exact raw_to_C (Kd.F_now hF) (fun d hd => hgd d (hmem d (.inl hd)))
      · exact HB2.out.trans (hw2q.to_below (by have := HGB.out; omega) (by have := HB2.out.size; omega))
    · have hst : (((t + 1 : Nat) : Int) - 1) = (t : Int) := by omega
      rw [hst]
      have hd1 : decide ((t : Int) ≥ 0) = true := decide_eq_true (by omega)
      have hDD : D.length ≤ 1000 := Nat.le_trans HO.out.le HDL.out
      have HDD := Aside0.mk hDD
      have hDD3 : (D.length : Int) ≤ 1000 := by omega
      clear hDD
      go_wp2
      obtain ⟨wo, hwo⟩ : ∃ wo, wo = wr := ⟨_, rfl⟩
      subst hwo
      have HI := Aside0.mk (InB.start HO.out)
      go_loopw [11, 12] (fun v11 v12 wr => ∃ (i : Nat) (vr : Value) (Dr Dl : List BD), v12 = .int .i64 i ∧ Aside0 (InB g wo.heap.size many (fun d => fits t d.1) t vs wo D i vr v11 Dr Dl wr)) (fun _ v12 _ => D.length - (intOf v12).toNat)
      case atStart => exact ⟨0, _, [], [], rfl, HI⟩
      case round =>
        clear HI
        obtain ⟨i, vr, Dr, Dl, rfl, HI⟩ := hrel
        by_cases hlt : i < D.length
        · have hd2 : decide ((i : Int) < (D.length : Int)) = true := decide_eq_true (by omega)
          have hlt2 : (i : Int) < (D.length : Int) := by omega
          have htH : (t : Int) < (hi : Int) + 1 := by omega
          have hget : D[i]? = some D[i] := List.getElem?_eq_getElem hlt
          have hdm := HO.out.mem D[i] (List.getElem_mem hlt)
          have hgw : g < wo.heap.size := heap_lt HO.out.blk
          have hgb2 : w.heap.size + 1 ≤ g := HGB.out
          have hsz : wo.heap.size ≤ wr.heap.size := HI.out.still.size
          obtain ⟨b, c', he, hb1, hb2, hb3, hx0, hx1, hx2⟩ := (HO.out.rest.step (fun k hk hne => HI.out.still.block k hk hne)).cells hget
          injection he with e1 e2 e3
          subst e1 e3
          have hgood := HGOOD.out D[i] hdm
          have hmay := HF.out D[i].1 (by rw [← HDS.out]; exact List.mem_map_of_mem hdm) t (by omega)
          have hw2q : Still g w2.heap.size w2 wr := HS.out.trans (HI.out.still.mono HS.out.size)
          have hF : Kd.F (Kd.int .u8) wr (fun k => k ≠ g) D[i].2.1 D[i].1.f2.length D[i].1.f2 := Kd.F_step hgood.2 (fun k hk hlt => hw2q.block k hlt hk)
          have hcap := hgood.1
          have HGT := Aside0.mk hget
          clear hgood hget hdm
          obtain ⟨Ar, cr, rfl⟩ : ∃ A c, vr = .slice A Dr.length c := by
            obtain ⟨A, c, e⟩ := Kd.R_slice HI.out.r
            exact ⟨A, c, by rw [e, List.length_map]⟩
          generalize D[i] = d at hx0 hx1 hx2 hmay hF hcap HGT
          obtain ⟨⟨x0, x1, x2⟩, Ad, cd⟩ := d
          dsimp only at hx0 hx1 hx2 hmay hF hcap
          have HRW : Aside0 (∀ w', Below wr.heap.size wr w' → w'.cell? ⟨g, t, none⟩ = some (.slice Ar Dr.length cr)) := ⟨fun w' hb => by
            rw [blk_cell ((hb.block g (heap_lt HI.out.blk)).trans HI.out.blk) t]
            have := (List.getElem?_eq_some_iff.1 (HO.out.low t (by omega))).1
            simp [this]⟩
          have HLV : Aside0 (∀ w', Below wr.heap.size wr w' → w'.heap[w.heap.size]? = some (.cells #[.int .i64 l0, .int .i64 l1, .int .i64 hi, .int .i64 l3] 23 (0, 0))) := ⟨fun w' hb => (hb.block _ (by omega)).trans ((hw2q.block _ (heap_lt HL2.out) (by omega)).trans HL2.out)⟩
          have HBC : Aside0 (∀ w', Below wr.heap.size wr w' → w'.cell? ⟨b, i * 3, none⟩ = some (.int .i64 x0) ∧ w'.cell? ⟨b, i * 3 + 1, none⟩ = some (.int .i64 x1) ∧ w'.cell? ⟨b, i * 3 + 2, none⟩ = some (.slice Ad x2.length cd)) := ⟨fun w' hb => by
            have hbk := hb.block b (by omega)
            rw [cell_same hbk, cell_same hbk, cell_same hbk]
            exact ⟨hx0, hx1, hx2⟩⟩
          have HDT : Aside0 (∀ w', Below wr.heap.size wr w' → Kd.C (Kd.int .u8) w' Ad x2.length x2) := ⟨fun w' hb => Kd.C_below (Kd.F_now hF) hb⟩
          have HDC := Aside0.mk hcap
          have HMY := Aside0.mk hmay
          have HSZ := Aside0.mk hsz
          have HGW := Aside0.mk hgw
          clear hx0 hx1 hx2 hmay hF hcap hw2q hsz hgw hgb2 hb1 hb2 hb3
          go_wp2
          by_cases hroom : Dr.length < many
          · have hd3 : decide ((Dr.length : Int) < (many : Int)) = true := decide_eq_true (by omega)
            have hd3' : decide (Dr.length < many) = true := decide_eq_true hroom
            refine start_ (n := 18) (S := fun w' => Below wr.heap.size wr w') (ds := []) #[false, false, false, false, false, false, false, false, false, false, false, false, false, false, false, false, false, false] (by kernel_rfl) rfl rfl (below_drew (Below.refl _ _)) (fun hHeld => ?_)
            refine pure_ (i := 0) (N := (some 31)) (v := ?_) (a' := ?_) #[true, false, false, false, false, false, false, false, false, false, false, false, false, false, false, false, false, false] rfl rfl (by kernel_rfl) (fun _ _ _ h => h) (Or.inl ⟨by rfl, ?_⟩) ?_ ?_
            rotate_left
            · intro w'
              go_simp
              with_reducible rfl
            rotate_left
            · simp only [Act.put, List.setIfInBounds_toArray, List.set_cons_zero, List.set_cons_succ, i64_w, i32_w]
              rfl
            refine pure_ (i := 1) (N := (some 32)) (v := ?_) (a' := ?_) #[true, true, false, false, false, false, false, false, false, false, false, false, false, false, false, false, false, false] rfl rfl (by kernel_rfl) (fun _ _ _ h => h) (Or.inl ⟨by rfl, ?_⟩) ?_ ?_
            rotate_left
            · intro w'
              go_simp
              with_reducible rfl
            rotate_left
            · simp only [Act.put, List.setIfInBounds_toArray, List.set_cons_zero, List.set_cons_succ, i64_w, i32_w]
              rfl
            refine pure_ (i := 2) (N := (some 33)) (v := ?_) (a' := ?_) #[true, true, true, false, false, false, false, false, false, false, false, false, false, false, false, false, false, false] rfl rfl (by kernel_rfl) (fun _ _ _ h => h) (Or.inl ⟨by rfl, ?_⟩) ?_ ?_
            rotate_left
            · intro w'
              go_simp
              with_reducible rfl
            rotate_left
            · simp only [Act.put, List.setIfInBounds_toArray, List.set_cons_zero, List.set_cons_succ, i64_w, i32_w]
              rfl
            refine take_ (i := 3) (N := (some 34)) (v := ?_) (a' := ?_) #[true, true, true, true, false, false, false, false, false, false, false, false, false, false, false, false, false, false] rfl rfl (by kernel_rfl) (fun _ _ _ h => h) (Or.inl ⟨by rfl, ?_⟩) hHeld ?_ ?_
            rotate_left
            · rintro w' z0
              have hc := HRW.out _ z0
              go_simp
              with_reducible rfl
            rotate_left
            · simp only [Act.put, List.setIfInBounds_toArray, List.set_cons_zero, List.set_cons_succ, i64_w, i32_w]
              rfl
            refine pure_ (i := 4) (N := (some 35)) (v := ?_) (a' := ?_) #[true, true, true, true, true, false, false, false, false, false, false, false, false, false, false, false, false, false] rfl rfl (by kernel_rfl) (fun _ _ _ h => h) (Or.inl ⟨by rfl, ?_⟩) ?_ ?_
            rotate_left
            · intro w'
              go_simp
              with_reducible rfl
            rotate_left
            · simp only [Act.put, List.setIfInBounds_toArray, List.set_cons_zero, List.set_cons_succ, i64_w, i32_w]
              rfl
            refine take_ (i := 5) (N := (some 36)) (v := ?_) (a' := ?_) #[true, true, true, true, true, true, false, false, false, false, false, false, false, false, false, false, false, false] rfl rfl (by kernel_rfl) (fun _ _ _ h => h) (Or.inl ⟨by rfl, ?_⟩) hHeld ?_ ?_
            rotate_left
            · rintro w' z0
              have hc := HLV.out _ z0
              refine exec_load (ty := 23) (x := .tmp 3) ?_ ?_ hc Try.underlying23 rfl infoL
              · rfl
              · rfl
            rotate_left
            · simp only [Act.put, List.setIfInBounds_toArray, List.set_cons_zero, List.set_cons_succ, i64_w, i32_w]
              rfl
            refine one_ (i := 6) (N := (some 37)) #[true, true, true, true, true, true, true, false, false, false, false, false, false, false, false, false, false, false] rfl rfl (by kernel_rfl) (by decide) (fun K hK => ?_)
            refine goes_ Try.func46 (by kernel_rfl) rfl #[.agg #[.int .i64 l0, .int .i64 l1, .int .i64 hi, .int .i64 l3]] (by rfl) rfl rfl (by (try simp only [List.map_toArray, List.map_cons, List.map_nil]); first | done | rfl) ?_
            refine (ref09_Many.calls km l0 l1 hi l3 many _ HM.out).mono ?_
            rintro e w5 ⟨rfl, hb⟩
            have hS := hHeld.trans (hb.mono hHeld.size)
            clear hb
            refine ⟨_, rfl, ?_⟩
            refine hK.out _ _ hS (fun hHeld => ?_)
            clear hK K
            refine norm_ (a' := ?_) ?_ ?_
            rotate_left
            · show Act.put _ (some 37) _ = _
              simp only [Act.put, List.setIfInBounds_toArray, List.set_cons_zero, List.set_cons_succ, i64_w, i32_w]
              rfl
            refine pure_ (i := 7) (N := (some 38)) (v := ?_) (a' := ?_) #[true, true, true, true, true, true, true, true, false, false, false, false, false, false, false, false, false, false] rfl rfl (by kernel_rfl) (fun _ _ _ h => h) (Or.inl ⟨by rfl, ?_⟩) ?_ ?_
            rotate_left
            · intro w'
              go_simp
              with_reducible rfl
            rotate_left
            · simp only [Act.put, List.setIfInBounds_toArray, List.set_cons_zero, List.set_cons_succ, i64_w, i32_w]
              rfl
            refine pure_ (i := 8) (N := (some 39)) (v := ?_) (a' := ?_) #[true, true, true, true, true, true, true, true, true, false, false, false, false, false, false, false, false, false] rfl rfl (by kernel_rfl) (fun _ _ _ h => h) (Or.inl ⟨by rfl, ?_⟩) ?_ ?_
            rotate_left
            · intro w'
              go_simp
              with_reducible rfl
            rotate_left
            · simp only [Act.put, List.setIfInBounds_toArray, List.set_cons_zero, List.set_cons_succ, i64_w, i32_w]
              rfl
            refine take_ (i := 9) (N := (some 40)) (v := ?_) (a' := ?_) #[true, true, true, true, true, true, true, true, true, true, false, false, false, false, false, false, false, false] rfl rfl (by kernel_rfl) (fun _ _ _ h => h) (Or.inl ⟨by rfl, ?_⟩) hHeld ?_ ?_
            rotate_left
            · rintro w' z0
              have hc := HLV.out _ z0
              refine exec_load (ty := 23) (x := .tmp 3) ?_ ?_ hc Try.underlying23 rfl infoL
              · rfl
              · rfl
            rotate_left
            · simp only [Act.put, List.setIfInBounds_toArray, List.set_cons_zero, List.set_cons_succ, i64_w, i32_w]
              rfl
            refine pure_ (i := 10) (N := (some 41)) (v := ?_) (a' := ?_) #[true, true, true, true, true, true, true, true, true, true, true, false, false, false, false, false, false, false] rfl rfl (by kernel_rfl) (fun _ _ _ h => h) (Or.inl ⟨by rfl, ?_⟩) ?_ ?_
            rotate_left
            · intro w'
              go_simp
              with_reducible rfl
            rotate_left
            · simp only [Act.put, List.setIfInBounds_toArray, List.set_cons_zero, List.set_cons_succ, i64_w, i32_w]
              rfl
            refine pure_ (i := 11) (N := (some 42)) (v := ?_) (a' := ?_) #[true, true, true, true, true, true, true, true, true, true, true, true, false, false, false, false, false, false] rfl rfl (by kernel_rfl) (fun _ _ _ h => h) (Or.inl ⟨by rfl, ?_⟩) ?_ ?_
            rotate_left
            · intro w'
              go_simp
              with_reducible rfl
            rotate_left
            · simp only [Act.put, List.setIfInBounds_toArray, List.set_cons_zero, List.set_cons_succ, i64_w, i32_w]
              rfl
            refine pure_ (i := 12) (N := (some 43)) (v := ?_) (a' := ?_) #[true, true, true, true, true, true, true, true, true, true, true, true, true, false, false, false, false, false] rfl rfl (by kernel_rfl) (fun _ _ _ h => h) (Or.inl ⟨by rfl, ?_⟩) ?_ ?_
            rotate_left
            · intro w'
              go_simp
              with_reducible rfl
            rotate_left
            · simp only [Act.put, List.setIfInBounds_toArray, List.set_cons_zero, List.set_cons_succ, i64_w, i32_w]
              rfl
            refine take_ (i := 13) (N := (some 44)) (v := ?_) (a' := ?_) #[true, true, true, true, true, true, true, true, true, true, true, true, true, true, false, false, false, false] rfl rfl (by kernel_rfl) (fun _ _ _ h => h) (Or.inl ⟨by rfl, ?_⟩) hHeld ?_ ?_
            rotate_left
            · rintro w' z0
              obtain ⟨hc0, hc1, hc2⟩ := HBC.out _ z0
              go_simp
              with_reducible rfl
            rotate_left
            · simp only [Act.put, List.setIfInBounds_toArray, List.set_cons_zero, List.set_cons_succ, i64_w, i32_w]
              rfl
            refine pure_ (i := 14) (N := (some 45)) (v := ?_) (a' := ?_) #[true, true, true, true, true, true, true, true, true, true, true, true, true, true, true, false, false, false] rfl rfl (by kernel_rfl) (fun _ _ _ h => h) (Or.inl ⟨by rfl, ?_⟩) ?_ ?_
            rotate_left
            · intro w'
              go_simp
              with_reducible rfl
            rotate_left
            · simp only [Act.put, List.setIfInBounds_toArray, List.set_cons_zero, List.set_cons_succ, i64_w, i32_w]
              rfl
            refine pure_ (i := 15) (N := (some 46)) (v := ?_) (a' := ?_) #[true, true, true, true, true, true, true, true, true, true, true, true, true, true, true, true, false, false] rfl rfl (by kernel_rfl) (fun _ _ _ h => h) (Or.inl ⟨by rfl, ?_⟩) ?_ ?_
            rotate_left
            · intro w'
              go_simp
              with_reducible rfl
            rotate_left
            · simp only [Act.put, List.setIfInBounds_toArray, List.set_cons_zero, List.set_cons_succ, i64_w, i32_w]
              rfl
            refine one_ (i := 16) (N := (some 47)) #[true, true, true, true, true, true, true, true, true, true, true, true, true, true, true, true, true, false] rfl rfl (by kernel_rfl) (by decide) (fun K hK => ?_)
            refine goes_ Try.func68 (by kernel_rfl) rfl #[.agg #[.int .i64 l0, .int .i64 l1, .int .i64 hi, .int .i64 l3], .agg #[.int .i64 x0, .int .i64 x1, .slice Ad x2.length cd], .int .i64 leaf, .int .i64 t] (by rfl) rfl rfl (by (try simp only [List.map_toArray, List.map_cons, List.map_nil]); first | done | rfl) ?_
            refine (ref17_May.calls ky l0 l1 hi l3 x0 x1 Ad cd x2 leaf t _ _ (HDT.out _ hHeld) HDC.out HMY.out).mono ?_
            rintro e w6 ⟨rfl, hb⟩
            have hS2 := hHeld.trans (hb.mono hHeld.size)
            clear hb
            refine ⟨_, rfl, ?_⟩
            refine hK.out _ _ hS2 (fun hHeld => ?_)
            clear hK K
            refine norm_ (a' := ?_) ?_ ?_
            rotate_left
            · show Act.put _ (some 47) _ = _
              simp only [Act.put, List.setIfInBounds_toArray, List.set_cons_zero, List.set_cons_succ, i64_w, i32_w]
              rfl
            refine pure_ (i := 17) (N := (some 48)) (v := ?_) (a' := ?_) #[true, true, true, true, true, true, true, true, true, true, true, true, true, true, true, true, true, true] rfl rfl (by kernel_rfl) (fun _ _ _ h => h) (Or.inl ⟨by rfl, ?_⟩) ?_ ?_
            rotate_left
            · intro w'
              go_simp
              with_reducible rfl
            rotate_left
            · simp only [Act.put, List.setIfInBounds_toArray, List.set_cons_zero, List.set_cons_succ, i64_w, i32_w]
              rfl
            refine done_ (by kernel_rfl) ?_
            have HW6 := Aside0.mk hHeld
            have HI6 := Aside0.mk (HI.out.below hHeld HSZ.out)
            clear hHeld HI
            have HS6 : wo.heap.size ≤ w6.heap.size := Nat.le_trans HSZ.out HW6.out.size
            cases hft : fits t ⟨x0, x1, x2⟩ with
            | true =>
              go_wp2
              have HI6d := Aside0.mk (HI6.out.below (below_drew (Below.refl _ _)) HS6)
              refine start_ (n := 14) (S := fun w' => Below w6.heap.size w6 w') (ds := [11, 13]) #[false, false, false, false, false, false, false, false, false, false, false, false, false, false] (by kernel_rfl) rfl rfl (below_drew (Below.refl _ _)) (fun hHeld => ?_)
              refine pure_ (i := 0) (N := (some 49)) (v := ?_) (a' := ?_) #[true, false, false, false, false, false, false, false, false, false, false, false, false, false] rfl rfl (by kernel_rfl) (fun _ _ _ h => h) (Or.inl ⟨by rfl, ?_⟩) ?_ ?_
              rotate_left
              · intro w'
                go_simp
                with_reducible rfl
              rotate_left
              · simp only [Act.put, List.setIfInBounds_toArray, List.set_cons_zero, List.set_cons_succ, i64_w, i32_w]
                rfl
              refine pure_ (i := 1) (N := (some 50)) (v := ?_) (a' := ?_) #[true, true, false, false, false, false, false, false, false, false, false, false, false, false] rfl rfl (by kernel_rfl) (fun _ _ _ h => h) (Or.inl ⟨by rfl, ?_⟩) ?_ ?_
              rotate_left
              · intro w'
                go_simp
                with_reducible rfl
              rotate_left
              · simp only [Act.put, List.setIfInBounds_toArray, List.set_cons_zero, List.set_cons_succ, i64_w, i32_w]
                rfl
              refine pure_ (i := 2) (N := (some 51)) (v := ?_) (a' := ?_) #[true, true, true, false, false, false, false, false, false, false, false, false, false, false] rfl rfl (by kernel_rfl) (fun _ _ _ h => h) (Or.inl ⟨by rfl, ?_⟩) ?_ ?_
              rotate_left
              · intro w'
                go_simp
                with_reducible rfl
              rotate_left
              · simp only [Act.put, List.setIfInBounds_toArray, List.set_cons_zero, List.set_cons_succ, i64_w, i32_w]
                rfl
              refine pure_ (i := 3) (N := (some 52)) (v := ?_) (a' := ?_) #[true, true, true, true, false, false, false, false, false, false, false, false, false, false] rfl rfl (by kernel_rfl) (fun _ _ _ h => h) (Or.inl ⟨by rfl, ?_⟩) ?_ ?_
              rotate_left
              · intro w'
                go_simp
                with_reducible rfl
              rotate_left
              · simp only [Act.put, List.setIfInBounds_toArray, List.set_cons_zero, List.set_cons_succ, i64_w, i32_w]
                rfl
              refine pure_ (i := 4) (N := (some 53)) (v := ?_) (a' := ?_) #[true, true, true, true, true, false, false, false, false, false, false, false, false, false] rfl rfl (by kernel_rfl) (fun _ _ _ h => h) (Or.inl ⟨by rfl, ?_⟩) ?_ ?_
              rotate_left
              · intro w'
                go_simp
                with_reducible rfl
              rotate_left
              · simp only [Act.put, List.setIfInBounds_toArray, List.set_cons_zero, List.set_cons_succ, i64_w, i32_w]
                rfl
              refine take_ (i := 5) (N := (some 54)) (v := ?_) (a' := ?_) #[true, true, true, true, true, true, false, false, false, false, false, false, false, false] rfl rfl (by kernel_rfl) (fun _ _ _ h => h) (Or.inl ⟨by rfl, ?_⟩) hHeld ?_ ?_
              rotate_left
              · rintro w' z0
                have hc := HRW.out _ (bl HW6.out z0)
                go_simp
                with_reducible rfl
              rotate_left
              · simp only [Act.put, List.setIfInBounds_toArray, List.set_cons_zero, List.set_cons_succ, i64_w, i32_w]
                rfl
              refine pure_ (i := 6) (N := (some 55)) (v := ?_) (a' := ?_) #[true, true, true, true, true, true, true, false, false, false, false, false, false, false] rfl rfl (by kernel_rfl) (fun _ _ _ h => h) (Or.inl ⟨by rfl, ?_⟩) ?_ ?_
              rotate_left
              · intro w'
                go_simp
                with_reducible rfl
              rotate_left
              · simp only [Act.put, List.setIfInBounds_toArray, List.set_cons_zero, List.set_cons_succ, i64_w, i32_w]
                rfl
              refine pure_ (i := 7) (N := (some 56)) (v := ?_) (a' := ?_) #[true, true, true, true, true, true, true, true, false, false, false, false, false, false] rfl rfl (by kernel_rfl) (fun _ _ _ h => h) (Or.inl ⟨by rfl, ?_⟩) ?_ ?_
              rotate_left
              · intro w'
                go_simp
                with_reducible rfl
              rotate_left
              · simp only [Act.put, List.setIfInBounds_toArray, List.set_cons_zero, List.set_cons_succ, i64_w, i32_w]
                rfl
              refine pure_ (i := 8) (N := (some 57)) (v := ?_) (a' := ?_) #[true, true, true, true, true, true, true, true, true, false, false, false, false, false] rfl rfl (by kernel_rfl) (fun _ _ _ h => h) (Or.inl ⟨by rfl, ?_⟩) ?_ ?_
              rotate_left
              · intro w'
                go_simp
                with_reducible rfl
              rotate_left
              · simp only [Act.put, List.setIfInBounds_toArray, List.set_cons_zero, List.set_cons_succ, i64_w, i32_w]
                rfl
              refine take_ (i := 9) (N := (some 58)) (v := ?_) (a' := ?_) #[true, true, true, true, true, true, true, true, true, true, false, false, false, false] rfl rfl (by kernel_rfl) (fun _ _ _ h => h) (Or.inl ⟨by rfl, ?_⟩) hHeld ?_ ?_
              rotate_left
              · rintro w' z0
                obtain ⟨hc0, hc1, hc2⟩ := HBC.out _ (bl HW6.out z0)
                go_simp
                with_reducible rfl
              rotate_left
              · simp only [Act.put, List.setIfInBounds_toArray, List.set_cons_zero, List.set_cons_succ, i64_w, i32_w]
                rfl
              refine one_ (i := 10) (N := (some 59)) #[true, true, true, true, true, true, true, true, true, true, true, false, false, false] rfl rfl (by kernel_rfl) (by decide) (fun K hK => ?_)
              refine ite_wanted rfl ?_
              have hS := below_alloc hHeld (.cells #[.int .i64 x0, .int .i64 x1, .slice Ad x2.length cd] 62)
              go_simp
              refine hK.out _ _ hS (fun hHeld => ?_)
              clear hS hK K
              refine last_ (i := 11) (N := (some 60)) #[true, true, true, true, true, true, true, true, true, true, true, true, false, false] rfl rfl (by kernel_rfl) (by decide) (fun K hK => ?_)
              refine Kd.R_append_step (Kd.raw 3) (w0 := w6.drew) wo.heap.size rfl (.tmp 54) (.tmp 59) 24 62 _ 40 rfl Try.underlying24 info62 rfl (by decide) (by decide) (.slice Ar Dr.length cr) (Dr.map cell3) (cell3 (⟨x0, x1, x2⟩, Ad, cd)) (cell3 (⟨x0, x1, x2⟩, Ad, cd)) (fun _ => True) (fun _ => False) rfl rfl ⟨rfl, rfl, cell3_one _⟩ (fun _ h => h.elim) (fun _ _ => trivial) (Kd.R_mono HI6d.out.r (fun _ _ => trivial)) (Below.refl _ _) HS6 ?aL ?_
              (case aL => have := HI6d.out.len; have := HI6d.out.le; have := HDD.out; rw [List.length_map]; omega)
              intro v8 w8 hR hb hg hat
              obtain ⟨A8, c8, rfl⟩ := Kd.R_slice hR
              refine hK.out _ _ ?_
              clear hK K
              refine norm_ (a' := ?_) ?_ ?_
              rotate_left
              · show Act.put _ (some 60) _ = _
                simp only [Act.put, List.setIfInBounds_toArray, List.set_cons_zero, List.set_cons_succ, i64_w, i32_w]
                rfl
              refine pure_ (i := 12) (N := (some 61)) (v := ?_) (a' := ?_) #[true, true, true, true, true, true, true, true, true, true, true, true, true, false] rfl rfl (by kernel_rfl) (fun _ _ _ h => h) (Or.inl ⟨by rfl, ?_⟩) ?_ ?_
              rotate_left
              · intro w'
                go_simp
                with_reducible rfl
              rotate_left
              · simp only [Act.put, List.setIfInBounds_toArray, List.set_cons_zero, List.set_cons_succ, i64_w, i32_w]
                rfl
              refine last_ (i := 13) (N := none) #[true, true, true, true, true, true, true, true, true, true, true, true, true, true] rfl rfl (by kernel_rfl) (by decide) (fun K hK => ?_)
              refine ite_wanted rfl ?_
              have hb8 := (hb.block g HGW.out).trans HI6.out.blk
              have htv : t < (vs.set t (.slice Ar Dr.length cr)).length := by rw [List.length_set]; exact (List.getElem?_eq_some_iff.1 (HO.out.low t (by omega))).1
              have hcw := (blk_cell hb8 t).trans ((List.getElem?_toArray ..).trans (List.getElem?_eq_getElem htv))
              have hfw := blk_frozen hb8 t
              go_simp
              refine hK.out _ _ ?_
              clear hK K hcw hfw
              refine done_ (by kernel_rfl) ?_
              go_wp2
              exact ⟨⟨i + 1, _, Dr ++ [(⟨x0, x1, x2⟩, Ad, cd)], Dl, rfl, ⟨HI6d.out.take HGT.out hroom hft HGW.out HS6 hR hb hg hat (by simp)⟩⟩, by simp [intOf]; omega⟩
            | false =>
              obtain ⟨hc0, hc1, hc2⟩ := HBC.out _ HW6.out
              repeat (first
                | ((with_reducible refine gate_builtin (b := .append) (xs := #[.tmp 62, .tmp 67]) rfl ?_); at_builtin; refine Kd.R_append (Kd.raw 3) (w0 := w6) wo.heap.size rfl (.tmp 62) (.tmp 67) 24 62 _ 40 rfl Try.underlying24 info62 rfl (by decide) (by decide) u11 (Dl.map cell3) (cell3 (⟨x0, x1, x2⟩, Ad, cd)) (cell3 (⟨x0, x1, x2⟩, Ad, cd)) (fun _ => True) (fun _ => False) rfl rfl ⟨rfl, rfl, cell3_one _⟩ (fun _ h => h.elim) (fun _ _ => trivial) (Kd.R_mono HI6.out.l (fun _ _ => trivial)) (Below.refl _ _) HS6 ?aL ?_; (case aL => have := HI6.out.len; have := HI6.out.le; have := HDD.out; rw [List.length_map]; omega); intro v7 w7 hR hb hg hat; clear hc0 hc1 hc2)
                | go_values | go_guarded | go_step | go_upon | go_back)
              exact ⟨⟨i + 1, _, Dr, Dl ++ [(⟨x0, x1, x2⟩, Ad, cd)], rfl, ⟨HI6.out.leave HGT.out (fun h => by rw [hft] at h; exact absurd h.2 (by decide)) HGW.out HS6 hR hb hg hat⟩⟩, by simp [intOf]; omega⟩
          · have hd3 : decide ((Dr.length : Int) < (many : Int)) = false := decide_eq_false (by omega)
            have hd3' : decide (Dr.length < many) = false := decide_eq_false hroom
            refine start_ (n := 18) (S := fun w' => Below wr.heap.size wr w') (ds := []) #[false, false, false, false, false, false, false, false, false, false, false, false, false, false, false, false, false, false] (by kernel_rfl) rfl rfl (below_drew (Below.refl _ _)) (fun hHeld => ?_)
            refine pure_ (i := 0) (N := (some 31)) (v := ?_) (a' := ?_) #[true, false, false, false, false, false, false, false, false, false, false, false, false, false, false, false, false, false] rfl rfl (by kernel_rfl) (fun _ _ _ h => h) (Or.inl ⟨by rfl, ?_⟩) ?_ ?_
            rotate_left
            · intro w'
              go_simp
              with_reducible rfl
            rotate_left
            · simp only [Act.put, List.setIfInBounds_toArray, List.set_cons_zero, List.set_cons_succ, i64_w, i32_w]
              rfl
            refine pure_ (i := 1) (N := (some 32)) (v := ?_) (a' := ?_) #[true, true, false, false, false, false, false, false, false, false, false, false, false, false, false, false, false, false] rfl rfl (by kernel_rfl) (fun _ _ _ h => h) (Or.inl ⟨by rfl, ?_⟩) ?_ ?_
            rotate_left
            · intro w'
              go_simp
              with_reducible rfl
            rotate_left
            · simp only [Act.put, List.setIfInBounds_toArray, List.set_cons_zero, List.set_cons_succ, i64_w, i32_w]
              rfl
            refine pure_ (i := 2) (N := (some 33)) (v := ?_) (a' := ?_) #[true, true, true, false, false, false, false, false, false, false, false, false, false, false, false, false, false, false] rfl rfl (by kernel_rfl) (fun _ _ _ h => h) (Or.inl ⟨by rfl, ?_⟩) ?_ ?_
            rotate_left
            · intro w'
              go_simp
              with_reducible rfl
            rotate_left
            · simp only [Act.put, List.setIfInBounds_toArray, List.set_cons_zero, List.set_cons_succ, i64_w, i32_w]
              rfl
            refine take_ (i := 3) (N := (some 34)) (v := ?_) (a' := ?_) #[true, true, true, true, false, false, false, false, false, false, false, false, false, false, false, false, false, false] rfl rfl (by kernel_rfl) (fun _ _ _ h => h) (Or.inl ⟨by rfl, ?_⟩) hHeld ?_ ?_
            rotate_left
            · rintro w' z0
              have hc := HRW.out _ z0
              go_simp
              with_reducible rfl
            rotate_left
            · simp only [Act.put, List.setIfInBounds_toArray, List.set_cons_zero, List.set_cons_succ, i64_w, i32_w]
              rfl
            refine pure_ (i := 4) (N := (some 35)) (v := ?_) (a' := ?_) #[true, true, true, true, true, false, false, false, false, false, false, false, false, false, false, false, false, false] rfl rfl (by kernel_rfl) (fun _ _ _ h => h) (Or.inl ⟨by rfl, ?_⟩) ?_ ?_
            rotate_left
            · intro w'
              go_simp
              with_reducible rfl
            rotate_left
            · simp only [Act.put, List.setIfInBounds_toArray, List.set_cons_zero, List.set_cons_succ, i64_w, i32_w]
              rfl
            refine take_ (i := 5) (N := (some 36)) (v := ?_) (a' := ?_) #[true, true, true, true, true, true, false, false, false, false, false, false, false, false, false, false, false, false] rfl rfl (by kernel_rfl) (fun _ _ _ h => h) (Or.inl ⟨by rfl, ?_⟩) hHeld ?_ ?_
            rotate_left
            · rintro w' z0
              have hc := HLV.out _ z0
              refine exec_load (ty := 23) (x := .tmp 3) ?_ ?_ hc Try.underlying23 rfl infoL
              · rfl
              · rfl
            rotate_left
            · simp only [Act.put, List.setIfInBounds_toArray, List.set_cons_zero, List.set_cons_succ, i64_w, i32_w]
              rfl
            refine one_ (i := 6) (N := (some 37)) #[true, true, true, true, true, true, true, false, false, false, false, false, false, false, false, false, false, false] rfl rfl (by kernel_rfl) (by decide) (fun K hK => ?_)
            refine goes_ Try.func46 (by kernel_rfl) rfl #[.agg #[.int .i64 l0, .int .i64 l1, .int .i64 hi, .int .i64 l3]] (by rfl) rfl rfl (by (try simp only [List.map_toArray, List.map_cons, List.map_nil]); first | done | rfl) ?_
            refine (ref09_Many.calls km l0 l1 hi l3 many _ HM.out).mono ?_
            rintro e w5 ⟨rfl, hb⟩
            have hS := hHeld.trans (hb.mono hHeld.size)
            clear hb
            refine ⟨_, rfl, ?_⟩
            refine hK.out _ _ hS (fun hHeld => ?_)
            clear hK K
            refine norm_ (a' := ?_) ?_ ?_
            rotate_left
            · show Act.put _ (some 37) _ = _
              simp only [Act.put, List.setIfInBounds_toArray, List.set_cons_zero, List.set_cons_succ, i64_w, i32_w]
              rfl
            refine pure_ (i := 7) (N := (some 38)) (v := ?_) (a' := ?_) #[true, true, true, true, true, true, true, true, false, false, false, false, false, false, false, false, false, false] rfl rfl (by kernel_rfl) (fun _ _ _ h => h) (Or.inl ⟨by rfl, ?_⟩) ?_ ?_
            rotate_left
            · intro w'
              go_simp
              with_reducible rfl
            rotate_left
            · simp only [Act.put, List.setIfInBounds_toArray, List.set_cons_zero, List.set_cons_succ, i64_w, i32_w]
              rfl
            refine pure_ (i := 8) (N := (some 39)) (v := ?_) (a' := ?_) #[true, true, true, true, true, true, true, true, true, false, false, false, false, false, false, false, false, false] rfl rfl (by kernel_rfl) (fun _ _ _ h => h) (Or.inl ⟨by rfl, ?_⟩) ?_ ?_
            rotate_left
            · intro w'
              go_simp
              with_reducible rfl
            rotate_left
            · simp only [Act.put, List.setIfInBounds_toArray, List.set_cons_zero, List.set_cons_succ, i64_w, i32_w]
              rfl
            refine pure_ (i := 9) (N := (some 40)) (v := undef) (a' := ?_) #[true, true, true, true, true, true, true, true, true, true, false, false, false, false, false, false, false, false] rfl rfl (by kernel_rfl) (fun _ _ _ h => h) (Or.inr ⟨by rfl, rfl⟩) ?_ ?_
            rotate_left
            · simp only [Act.put, List.setIfInBounds_toArray, List.set_cons_zero, List.set_cons_succ, i64_w, i32_w]
              rfl
            refine pure_ (i := 10) (N := (some 41)) (v := undef) (a' := ?_) #[true, true, true, true, true, true, true, true, true, true, true, false, false, false, false, false, false, false] rfl rfl (by kernel_rfl) (fun _ _ _ h => h) (Or.inr ⟨by rfl, rfl⟩) ?_ ?_
            rotate_left
            · simp only [Act.put, List.setIfInBounds_toArray, List.set_cons_zero, List.set_cons_succ, i64_w, i32_w]
              rfl
            refine pure_ (i := 11) (N := (some 42)) (v := undef) (a' := ?_) #[true, true, true, true, true, true, true, true, true, true, true, true, false, false, false, false, false, false] rfl rfl (by kernel_rfl) (fun _ _ _ h => h) (Or.inr ⟨by rfl, rfl⟩) ?_ ?_
            rotate_left
            · simp only [Act.put, List.setIfInBounds_toArray, List.set_cons_zero, List.set_cons_succ, i64_w, i32_w]
              rfl
            refine pure_ (i := 12) (N := (some 43)) (v := undef) (a' := ?_) #[true, true, true, true, true, true, true, true, true, true, true, true, true, false, false, false, false, false] rfl rfl (by kernel_rfl) (fun _ _ _ h => h) (Or.inr ⟨by rfl, rfl⟩) ?_ ?_
            rotate_left
            · simp only [Act.put, List.setIfInBounds_toArray, List.set_cons_zero, List.set_cons_succ, i64_w, i32_w]
              rfl
            refine pure_ (i := 13) (N := (some 44)) (v := undef) (a' := ?_) #[true, true, true, true, true, true, true, true, true, true, true, true, true, true, false, false, false, false] rfl rfl (by kernel_rfl) (fun _ _ _ h => h) (Or.inr ⟨by rfl, rfl⟩) ?_ ?_
            rotate_left
            · simp only [Act.put, List.setIfInBounds_toArray, List.set_cons_zero, List.set_cons_succ, i64_w, i32_w]
              rfl
            refine pure_ (i := 14) (N := (some 45)) (v := undef) (a' := ?_) #[true, true, true, true, true, true, true, true, true, true, true, true, true, true, true, false, false, false] rfl rfl (by kernel_rfl) (fun _ _ _ h => h) (Or.inr ⟨by rfl, rfl⟩) ?_ ?_
            rotate_left
            · simp only [Act.put, List.setIfInBounds_toArray, List.set_cons_zero, List.set_cons_succ, i64_w, i32_w]
              rfl
            refine pure_ (i := 15) (N := (some 46)) (v := undef) (a' := ?_) #[true, true, true, true, true, true, true, true, true, true, true, true, true, true, true, true, false, false] rfl rfl (by kernel_rfl) (fun _ _ _ h => h) (Or.inr ⟨by rfl, rfl⟩) ?_ ?_
            rotate_left
            · simp only [Act.put, List.setIfInBounds_toArray, List.set_cons_zero, List.set_cons_succ, i64_w, i32_w]
              rfl
            refine pure_ (i := 16) (N := (some 47)) (v := undef) (a' := ?_) #[true, true, true, true, true, true, true, true, true, true, true, true, true, true, true, true, true, false] rfl rfl (by kernel_rfl) (fun _ _ _ h => h) (Or.inr ⟨by rfl, rfl⟩) ?_ ?_
            rotate_left
            · simp only [Act.put, List.setIfInBounds_toArray, List.set_cons_zero, List.set_cons_succ, i64_w, i32_w]
              rfl
            refine pure_ (i := 17) (N := (some 48)) (v := ?_) (a' := ?_) #[true, true, true, true, true, true, true, true, true, true, true, true, true, true, true, true, true, true] rfl rfl (by kernel_rfl) (fun _ _ _ h => h) (Or.inl ⟨by rfl, ?_⟩) ?_ ?_
            rotate_left
            · intro w'
              go_simp
              with_reducible rfl
            rotate_left
            · simp only [Act.put, List.setIfInBounds_toArray, List.set_cons_zero, List.set_cons_succ, i64_w, i32_w]
              rfl
            refine done_ (by kernel_rfl) ?_
            have HW6 := Aside0.mk hHeld
            have HI6 := Aside0.mk (HI.out.below hHeld HSZ.out)
            clear hHeld HI
            have HS6 : wo.heap.size ≤ w5.heap.size := Nat.le_trans HSZ.out HW6.out.size
            obtain ⟨hc0, hc1, hc2⟩ := HBC.out _ HW6.out
            repeat (first
              | ((with_reducible refine gate_builtin (b := .append) (xs := #[.tmp 62, .tmp 67]) rfl ?_); at_builtin; refine Kd.R_append (Kd.raw 3) (w0 := w5) wo.heap.size rfl (.tmp 62) (.tmp 67) 24 62 _ 40 rfl Try.underlying24 info62 rfl (by decide) (by decide) u11 (Dl.map cell3) (cell3 (⟨x0, x1, x2⟩, Ad, cd)) (cell3 (⟨x0, x1, x2⟩, Ad, cd)) (fun _ => True) (fun _ => False) rfl rfl ⟨rfl, rfl, cell3_one _⟩ (fun _ h => h.elim) (fun _ _ => trivial) (Kd.R_mono HI6.out.l (fun _ _ => trivial)) (Below.refl _ _) HS6 ?aL ?_; (case aL => have := HI6.out.len; have := HI6.out.le; have := HDD.out; rw [List.length_map]; omega); intro v7 w7 hR hb hg hat; clear hc0 hc1 hc2)
              | go_values | go_guarded | go_step | go_upon | go_back)
            exact ⟨⟨i + 1, _, Dr, Dl ++ [(⟨x0, x1, x2⟩, Ad, cd)], rfl, ⟨HI6.out.leave HGT.out (fun h => hroom h.1) HGW.out HS6 hR hb hg hat⟩⟩, by simp [intOf]; omega⟩
        · have hd2 : decide ((i : Int) < (D.length : Int)) = false := decide_eq_false (by omega)
          have hiD : i = D.length := by have := HI.out.le; omega
          subst hiD
          go_wp2
          have hg := heap_lt HO.out.blk
          refine ⟨⟨t, vs.set t vr, Dl, Dr :: rows, rfl, by omega, ⟨OutB.next HO.out HI.out (by have := HGB.out; omega)⟩, ⟨HS.out.trans (HI.out.still.mono HS.out.size)⟩⟩, by first | (simp [intOf]; done) | (simp [intOf]; omega)⟩
end Go.Proofs.Ytknmokpnkcckeaa

namespace Go.Proofs.Ytknmokpnkcckeaa
open Go.RowKit Go.Proofs.YtknmokpnkcckeaaW.PrintWords Go.Proofs.YtknmokpnkcckeaaW.PrintLast Go.Proofs.YtknmokpnkcckeaaW.PrintMore Go.Proofs.Ytknmokpnkcckeaa.PAll
set_option linter.unusedVariables false
set_option linter.unusedSimpArgs false

theorem flat_get : ∀ (D : List BD) (i j : Nat) (d : BD), D[i]? = some d → j < 3 → ((D.map cell3).flatten)[i * 3 + j]? = (cell3 d)[j]?
  | [], i, j, d, h, _ => by simp at h
  | e :: D, 0, j, d, h, hj => by
    simp only [List.getElem?_cons_zero, Option.some.injEq] at h
    subst h
    rw [List.map_cons, List.flatten_cons, List.getElem?_append_left (by rw [cell3_length]; omega), Nat.zero_mul, Nat.zero_add]
  | e :: D, i + 1, j, d, h, hj => by
    simp only [List.getElem?_cons_succ] at h
    rw [List.map_cons, List.flatten_cons, List.getElem?_append_right (by rw [cell3_length]; omega), cell3_length, show (i + 1) * 3 + j - 3 = i * 3 + j by omega]
    exact flat_get D i j d h hj
theorem flat_get' {D : List BD} {i j : Nat} {d : BD} {tail : List Value} (h : D[i]? = some d) (hj : j < 3) : ((D.map cell3).flatten ++ tail)[i * 3 + j]? = (cell3 d)[j]? := by
  have hi := (List.getElem?_eq_some_iff.1 h).1
  rw [List.getElem?_append_left (by rw [cells3_length]; omega)]
  exact flat_get D i j d h hj
/-- The rest of a stash, in a block of its own. -/
def RestB (base : Nat) (W : World) (v : Value) (D : List BD) : Prop :=
  ∃ A c, v = .slice A D.length c ∧ D.length ≤ c ∧ (D.length ≠ 0 → ∃ b tail, A = some ⟨b, 0, none⟩ ∧ base ≤ b ∧ W.heap[b]? = some (.cells ⟨(D.map cell3).flatten ++ tail⟩ 62 (0, 0)))
theorem RestB.own {base : Nat} {W : World} {v : Value} {D : List BD} (h : RestB base W v D) (hn : D.length ≠ 0) : ∃ k, v.ownBlock = some k ∧ k < W.heap.size := by
  obtain ⟨A, c, rfl, h2, h3⟩ := h
  obtain ⟨b, tail, rfl, e2, e3⟩ := h3 hn
  exact ⟨b, rfl, heap_lt e3⟩
theorem RestB.step {base : Nat} {W W' : World} {v : Value} {D : List BD} (h : RestB base W v D) (hs : ∀ k, v.ownBlock = some k → k < W.heap.size → W'.heap[k]? = W.heap[k]?) : RestB base W' v D := by
  obtain ⟨A, c, rfl, h2, h3⟩ := h
  refine ⟨A, c, rfl, h2, fun hn => ?_⟩
  obtain ⟨b, tail, rfl, e2, e3⟩ := h3 hn
  exact ⟨b, tail, rfl, e2, (hs b rfl (heap_lt e3)).trans e3⟩
theorem RestB.of_own {base B : Nat} {W : World} {v : Value} {D : List BD} (h : OwnR B W v D) (hb : base ≤ B) : RestB base W v D := by
  obtain ⟨A, c, rfl⟩ := Kd.R_slice h
  rw [List.length_map] at h ⊢
  refine ⟨A, c, rfl, by have := (Kd.R_reads' h).2.1; omega, fun hn => ?_⟩
  obtain ⟨g', rest, e1, e2, e3, e4⟩ := raw_block h hn
  exact ⟨g', rest, e1, by omega, e4⟩
theorem RestB.cells {base : Nat} {W : World} {v : Value} {D : List BD} (h : RestB base W v D) {i : Nat} {d : BD} (hd : D[i]? = some d) : ∃ b c, v = .slice (some ⟨b, 0, none⟩) D.length c ∧ base ≤ b ∧ b < W.heap.size ∧ W.cell? ⟨b, i * 3, none⟩ = some (.int .i64 d.1.f0) ∧ W.cell? ⟨b, i * 3 + 1, none⟩ = some (.int .i64 d.1.f1) ∧ W.cell? ⟨b, i * 3 + 2, none⟩ = some (.slice d.2.1 d.1.f2.length d.2.2) := by
  obtain ⟨A, c, rfl, _, h3⟩ := h
  have hi := (List.getElem?_eq_some_iff.1 hd).1
  obtain ⟨b, tail, rfl, h1, h2⟩ := h3 (by omega)
  refine ⟨b, c, rfl, h1, heap_lt h2, ?_, ?_, ?_⟩
  · rw [blk_cell h2]
    have := flat_get' (tail := tail) hd (j := 0) (by omega)
    simpa [cell3] using this
  · rw [blk_cell h2]
    have := flat_get' (tail := tail) hd (j := 1) (by omega)
    simpa [cell3] using this
  · rw [blk_cell h2]
    have := flat_get' (tail := tail) hd (j := 2) (by omega)
    simpa [cell3] using this
/-- .. as it is read. -/
theorem RestB.raw {base : Nat} {W : World} {v : Value} {D : List BD} (h : RestB base W v D) (hm : D.length ≤ 1000) : ∃ A c, v = .slice A D.length c ∧ D.length ≤ c ∧ Kd.C (Kd.raw 3) W A D.length (D.map cell3) := by
  obtain ⟨A, c, rfl, hc, h3⟩ := h
  refine ⟨A, c, rfl, hc, by rw [List.length_map], by omega, fun h0 => ?_⟩
  obtain ⟨b, tail, rfl, h1, h2⟩ := h3 (by omega)
  refine ⟨_, rfl, fun j p hj => ?_⟩
  rw [List.getElem?_map, Option.map_eq_some_iff] at hj
  obtain ⟨d, hd, rfl⟩ := hj
  refine ⟨cell3 d, cell3_length d, ⟨rfl, cell3_length d, cell3_one d⟩, fun i u hu => ?_⟩
  have hi : i < 3 := (List.getElem?_eq_some_iff.1 hu).1
  rw [add_at, blk_cell h2]
  have := flat_get' (tail := tail) hd hi
  show (List.toArray _)[0 + (j * 3 + i)]? = _
  rw [Nat.zero_add]
  rw [hu] at this
  simpa using this

/-- One row more is filled. -/
def stepP {α : Type} (many : Nat) (fits : Nat → α → Bool) (s : List (List α) × List α) (t : Nat) : List (List α) × List α :=
  (s.1.set t (goP many (fits t) (s.1.getD t []) [] s.2).1, (goP many (fits t) (s.1.getD t []) [] s.2).2)
theorem stepP_length {α : Type} (many : Nat) (fits : Nat → α → Bool) (s : List (List α) × List α) (t : Nat) : (stepP many fits s t).1.length = s.1.length := by simp [stepP]
/-- From the deepest row to the root's: as partS says. -/
theorem seq_part {α : Type} (many : Nat) (fits : Nat → α → Bool) (n : Nat) (D0 : List α) : ∀ k, k ≤ n → ∃ tl rest, ((List.range k).map (fun j => n - 1 - j)).foldl (stepP many fits) (List.replicate n [], D0) = (List.replicate (n - k) [] ++ tl, rest) ∧ partS many fits n D0 = ((partS many fits (n - k) rest).1 ++ tl, (partS many fits (n - k) rest).2)
  | 0, _ => ⟨[], D0, by simp, by simp⟩
  | k + 1, hk => by
    obtain ⟨tl, rest, h1, h2⟩ := seq_part many fits n D0 k (by omega)
    obtain ⟨m, hm⟩ : ∃ m, n - k = m + 1 := ⟨n - k - 1, by omega⟩
    have hm2 : n - (k + 1) = m := by omega
    have ht : n - 1 - k = m := by omega
    refine ⟨(goP many (fits m) [] [] rest).1 :: tl, (goP many (fits m) [] [] rest).2, ?_, ?_⟩
    · rw [List.range_succ, List.map_append, List.foldl_append, h1, hm, hm2]
      have hget : (List.replicate (m + 1) ([] : List α) ++ tl).getD m [] = [] := by simp [List.getD_eq_getElem?_getD, List.getElem?_append_left]
      simp only [List.map_cons, List.map_nil, List.foldl_cons, List.foldl_nil, stepP, ht, hget]
      congr 1
      apply List.ext_getElem?
      intro j
      rw [List.getElem?_set]
      by_cases hj : m = j
      · subst hj
        rw [if_pos rfl, if_pos (by simp; omega), List.getElem?_append_right (by simp)]
        simp
      · rw [if_neg hj]
        by_cases hlt : j < m
        · rw [List.getElem?_append_left (by simp; omega), List.getElem?_append_left (by simpa using hlt)]
          simp [hlt, show j < m + 1 by omega]
        · rw [List.getElem?_append_right (by simp; omega), List.getElem?_append_right (by simp; omega)]
          simp only [List.length_replicate]
          rw [show j - m = (j - (m + 1)) + 1 by omega, List.getElem?_cons_succ]
    · rw [h2, hm, hm2]
      simp only [partS, List.append_assoc, List.singleton_append]
theorem seq_all {α : Type} (many : Nat) (fits : Nat → α → Bool) (n : Nat) (D0 : List α) : ((List.range n).map (fun j => n - 1 - j)).foldl (stepP many fits) (List.replicate n [], D0) = partS many fits n D0 := by
  obtain ⟨tl, rest, h1, h2⟩ := seq_part many fits n D0 n (Nat.le_refl _)
  rw [h1, h2]
  simp [partS]

/-- Between two rounds. -/
structure OutG (g B0 base n many N : Nat) (vs : List Value) (v : Value) (S : List (List BD) × List BD) (W : World) : Prop where
  blk : W.heap[g]? = some (.cells ⟨vs⟩ 24 (0, 0))
  len : S.1.length = n
  row : ∀ (j : Nat) (D' : List BD), S.1[j]? = some D' → D'.length ≤ many ∧ ∃ u, vs[j]? = some u ∧ OwnR B0 W u D'
  ap : ∀ (i j : Nat) (u u' : Value), i < n → j < n → i ≠ j → vs[i]? = some u → vs[j]? = some u' → Apart u u'
  rest : RestB base W v S.2
  rap : ∀ (j : Nat) (u : Value), j < n → vs[j]? = some u → Apart u v
  le : S.2.length ≤ N
  lt : B0 ≤ W.heap.size
  gB : g < B0
  bB : base ≤ B0
/-- In a round, in row t. -/
structure InG (g B0 N many : Nat) (fit : BD → Bool) (t : Nat) (vs : List Value) (v0 : Value) (R0 D : List BD) (w1 : World) (i : Nat) (vr vl : Value) (Dr Dl : List BD) (W : World) : Prop where
  blk : W.heap[g]? = some (.cells ⟨vs.set t vr⟩ 24 (0, 0))
  r : OwnR B0 W vr Dr
  rb : ∀ k, vr.ownBlock = some k → v0.ownBlock = some k ∨ w1.heap.size ≤ k
  l : OwnR w1.heap.size W vl Dl
  ap : Apart vr vl
  os : W.os = w1.os ∧ W.tape = w1.tape ∧ W.output = w1.output ∧ w1.heap.size ≤ W.heap.size
  still : ∀ k, k < w1.heap.size → k ≠ g → v0.ownBlock ≠ some k → W.heap[k]? = w1.heap[k]?
  eq : goP many fit R0 [] D = goP many fit Dr Dl (D.drop i)
  room : Dr.length ≤ many
  dl : Dl.length ≤ i
  le : i ≤ D.length
theorem InG.start {g B0 base n many N : Nat} {fit : BD → Bool} {t : Nat} {vs : List Value} {v v0 : Value} {S : List (List BD) × List BD} {W : World} (h : OutG g B0 base n many N vs v S W) (ht : t < n) (h0 : vs[t]? = some v0) : InG g B0 N many fit t vs v0 (S.1.getD t []) S.2 W 0 v0 (.slice none 0 0) (S.1.getD t []) [] W := by
  have hS : S.1[t]? = some (S.1.getD t []) := by
    rw [List.getD_eq_getElem?_getD, List.getElem?_eq_getElem (by rw [h.len]; exact ht)]
    rfl
  obtain ⟨hm, u, hu, hR⟩ := h.row t _ hS
  rw [h0] at hu
  cases hu
  refine ⟨?_, hR, fun k hk => .inl hk, OwnR.nil _ _, (apart_nil _).symm, ⟨rfl, rfl, rfl, Nat.le_refl _⟩, fun _ _ _ _ => rfl, rfl, hm, Nat.le_refl _, Nat.zero_le _⟩
  have : vs.set t v0 = vs := by
    apply List.ext_getElem?
    intro j
    rw [List.getElem?_set]
    split
    · next he =>
      subst he
      rw [if_pos (List.getElem?_eq_some_iff.1 h0).1, h0]
    · rfl
  rw [this]
  exact h.blk
theorem InG.below {g B0 N many : Nat} {fit : BD → Bool} {t : Nat} {vs : List Value} {v0 : Value} {R0 D : List BD} {w1 : World} {i : Nat} {vr vl : Value} {Dr Dl : List BD} {W W' : World} (h : InG g B0 N many fit t vs v0 R0 D w1 i vr vl Dr Dl W) (hb : Below W.heap.size W W') : InG g B0 N many fit t vs v0 R0 D w1 i vr vl Dr Dl W' :=
  ⟨(hb.block g (heap_lt h.blk)).trans h.blk, h.r.below hb, h.rb, h.l.below hb, h.ap, ⟨hb.os.trans h.os.1, hb.tape.trans h.os.2.1, hb.output.trans h.os.2.2.1, Nat.le_trans h.os.2.2.2 hb.size⟩, fun k hk h1 h2 => (hb.block k (by have := h.os.2.2.2; omega)).trans (h.still k hk h1 h2), h.eq, h.room, h.dl, h.le⟩
/-- A block is left. -/
theorem InG.leave {g B0 N many : Nat} {fit : BD → Bool} {t : Nat} {vs : List Value} {v0 : Value} {R0 D : List BD} {w1 : World} {i : Nat} {vr vl v1 : Value} {Dr Dl : List BD} {W W2 : World} {ok : Nat → Prop} {d : BD} (h : InG g B0 N many fit t vs v0 R0 D w1 i vr vl Dr Dl W) (hd : D[i]? = some d) (hr : ¬ (Dr.length < many ∧ fit d = true)) (hgB : g < w1.heap.size)
    (hR : Kd.R (Kd.raw 3) 62 W2 w1.heap.size ok v1 (Dl.map cell3 ++ [cell3 d])) (hb : Below w1.heap.size W W2) (hg : W.grownBy W2 vl.ownBlock) (hat : v1.ownBlock = vl.ownBlock ∨ ∃ b, v1.ownBlock = some b ∧ W.heap.size ≤ b) : InG g B0 N many fit t vs v0 R0 D w1 (i + 1) vr v1 Dr (Dl ++ [d]) W2 := by
  obtain ⟨e1, e2⟩ := h.r.after h.ap hg hat
  refine ⟨(hb.block g hgB).trans h.blk, e1, h.rb, ?_, e2, ⟨hb.os.trans h.os.1, hb.tape.trans h.os.2.1, hb.output.trans h.os.2.2.1, Nat.le_trans h.os.2.2.2 hb.size⟩, fun k hk h1 h2 => (hb.block k hk).trans (h.still k hk h1 h2), by rw [h.eq, goP_leave many fit hd hr], h.room, by rw [List.length_append, List.length_singleton]; have := h.dl; omega, (List.getElem?_eq_some_iff.1 hd).1⟩
  have := Kd.R_tight rfl hR
  unfold OwnR
  rw [List.map_append]
  exact this
/-- A block is taken. -/
theorem InG.take {g B0 N many : Nat} {fit : BD → Bool} {t : Nat} {vs : List Value} {v0 : Value} {R0 D : List BD} {w1 : World} {i : Nat} {vr vl v1 : Value} {Dr Dl : List BD} {W W2 W3 : World} {ok : Nat → Prop} {d : BD} (h : InG g B0 N many fit t vs v0 R0 D w1 i vr vl Dr Dl W) (hd : D[i]? = some d) (hr : Dr.length < many) (hf : fit d = true) (hgB : g < B0) (hBw : B0 ≤ w1.heap.size)
    (hR : Kd.R (Kd.raw 3) 62 W2 B0 ok v1 (Dr.map cell3 ++ [cell3 d])) (hb : Below B0 W W2) (hg : W.grownBy W2 vr.ownBlock) (hat : v1.ownBlock = vr.ownBlock ∨ ∃ b, v1.ownBlock = some b ∧ W.heap.size ≤ b)
    (hs : W3 = W2.setCell ⟨g, t, none⟩ v1) : InG g B0 N many fit t vs v0 R0 D w1 (i + 1) v1 vl (Dr ++ [d]) Dl W3 := by
  obtain ⟨e1, e2⟩ := h.l.after h.ap.symm hg hat
  have hR1 : OwnR B0 W2 v1 (Dr ++ [d]) := by
    have := Kd.R_tight rfl hR
    unfold OwnR
    rw [List.map_append]
    exact this
  have hsz := h.os.2.2.2
  have hoth : ∀ k, k ≠ g → W3.heap[k]? = W2.heap[k]? := fun k hk => by
    subst hs
    exact Below.heap_setCell _ _ _ k hk
  have hblk : W2.heap[g]? = some (.cells ⟨vs.set t vr⟩ 24 (0, 0)) := (hb.block g hgB).trans h.blk
  refine ⟨?_, hR1.step (fun k hk => hoth k ?_), fun k hk => ?_, e1.step (fun k hk => hoth k ?_), e2.symm, ?_, fun k hk h1 h2 => ?_, by rw [h.eq, goP_take many fit hd hr hf], by rw [List.length_append, List.length_singleton]; omega, by have := h.dl; omega, (List.getElem?_eq_some_iff.1 hd).1⟩
  · subst hs
    have := blk_set hblk t v1
    simpa [List.set_set] using this
  · have := hR1.base k hk.symm
    omega
  · rcases hat with hat | ⟨b, hb2, hle⟩
    · exact h.rb k (hat ▸ hk)
    · rw [hb2] at hk
      cases hk
      exact .inr (by omega)
  · have := e1.base k hk.symm
    omega
  · have h4 : W3.heap.size = W2.heap.size := by
      subst hs
      simp [World.setCell]
    have h5 : W3.os = W2.os ∧ W3.tape = W2.tape ∧ W3.output = W2.output := by
      subst hs
      exact ⟨rfl, rfl, rfl⟩
    exact ⟨h5.1.trans (hb.os.trans h.os.1), h5.2.1.trans (hb.tape.trans h.os.2.1), h5.2.2.trans (hb.output.trans h.os.2.2.1), by rw [h4]; exact Nat.le_trans hsz hb.size⟩
  · rw [hoth k h1, ← h.still k hk h1 h2]
    refine hg.block k (by omega) (fun he => ?_)
    rcases h.rb k he.symm with h3 | h3
    · exact h2 h3
    · omega
/-- The round is over. -/
theorem OutG.next {g B0 base n many N : Nat} {fits : Nat → BD → Bool} {t : Nat} {vs : List Value} {v v0 : Value} {S : List (List BD) × List BD} {w1 W : World} {vr vl : Value} {Dr Dl : List BD} (h : OutG g B0 base n many N vs v S w1) (ht : t < n) (h0 : vs[t]? = some v0) (h2 : InG g B0 N many (fits t) t vs v0 (S.1.getD t []) S.2 w1 S.2.length vr vl Dr Dl W) :
    OutG g B0 base n many N (vs.set t vr) vl (stepP many fits S t) W := by
  have hgo : goP many (fits t) (S.1.getD t []) [] S.2 = (Dr, Dl) := by
    rw [h2.eq, List.drop_length]
    rfl
  have hts : t < vs.length := (List.getElem?_eq_some_iff.1 h0).1
  have hsz := h2.os.2.2.2
  have hB := h.lt
  have hgB := h.gB
  have hS : stepP many fits S t = (S.1.set t Dr, Dl) := by simp only [stepP, hgo]
  rw [hS]
  have hlt : ∀ j u, j < n → vs[j]? = some u → ∀ k, u.ownBlock = some k → k < w1.heap.size ∧ B0 ≤ k := by
    intro j u hj hu k hk
    obtain ⟨_, u', hu', hR⟩ := h.row j _ (List.getElem?_eq_getElem (by rw [h.len]; exact hj))
    rw [hu] at hu'
    cases hu'
    exact ⟨hR.lt k hk, hR.base k hk⟩
  refine ⟨h2.blk, by rw [List.length_set]; exact h.len, fun j D' hj => ?_, fun i j u u' hi hj hne hu hu' => ?_, RestB.of_own h2.l (by have := h.bB; omega), fun j u hj hu => ?_, ?_, by omega, hgB, h.bB⟩
  · rw [List.getElem?_set] at hj
    by_cases hjt : t = j
    · subst hjt
      rw [if_pos rfl, if_pos (by rw [h.len]; exact ht)] at hj
      cases hj
      exact ⟨h2.room, vr, by simp [hts], h2.r⟩
    · rw [if_neg hjt] at hj
      obtain ⟨hm, u, hu, hR⟩ := h.row j D' hj
      refine ⟨hm, u, by rw [List.getElem?_set_ne hjt]; exact hu, hR.step (fun k hk => ?_)⟩
      have hjn : j < n := by have := (List.getElem?_eq_some_iff.1 hj).1; rw [h.len] at this; exact this
      obtain ⟨h3, h4⟩ := hlt j u hjn hu k hk.symm
      exact h2.still k h3 (by omega) (h.ap j t u v0 hjn ht (Ne.symm hjt) hu h0 k hk.symm)
  · rw [List.getElem?_set] at hu hu'
    by_cases hit : t = i
    · subst hit
      rw [if_pos rfl, if_pos hts] at hu
      cases hu
      rw [if_neg hne] at hu'
      intro k hk he
      obtain ⟨h3, h4⟩ := hlt j u' hj hu' k he
      rcases h2.rb k hk with h5 | h5
      · exact h.ap t j v0 u' ht hj hne h0 hu' k h5 he
      · omega
    · rw [if_neg hit] at hu
      by_cases hjt : t = j
      · subst hjt
        rw [if_pos rfl, if_pos hts] at hu'
        cases hu'
        intro k hk he
        obtain ⟨h3, h4⟩ := hlt i u hi hu k hk
        rcases h2.rb k he with h5 | h5
        · exact h.ap i t u v0 hi ht hne hu h0 k hk h5
        · omega
      · rw [if_neg hjt] at hu'
        exact h.ap i j u u' hi hj hne hu hu'
  · rw [List.getElem?_set] at hu
    by_cases hjt : t = j
    · subst hjt
      rw [if_pos rfl, if_pos hts] at hu
      cases hu
      exact h2.ap
    · rw [if_neg hjt] at hu
      intro k hk he
      obtain ⟨h3, h4⟩ := hlt j u hj hu k hk
      have := h2.l.base k he
      omega
  · show Dl.length ≤ N
    have := h2.dl
    have := h.le
    omega
theorem OutG.start {g B0 base n many N : Nat} {tail : List Value} {v : Value} {D0 : List BD} {W : World} (h : W.heap[g]? = some (.cells ⟨List.replicate n (.slice none 0 0) ++ tail⟩ 24 (0, 0))) (hr : RestB base W v D0) (hN : D0.length ≤ N) (hB : B0 = W.heap.size) (hb : base ≤ B0) : OutG g B0 base n many N (List.replicate n (.slice none 0 0) ++ tail) v (List.replicate n [], D0) W := by
  have hnil : ∀ j u, j < n → (List.replicate n (.slice none 0 0) ++ tail : List Value)[j]? = some u → u = .slice none 0 0 := fun j u hj hu => by
    rw [List.getElem?_append_left (by simpa using hj)] at hu
    simp [hj] at hu
    exact hu.symm
  refine ⟨h, by simp, fun j D' hj => ?_, fun i j u u' hi hj _ hu _ => ?_, hr, fun j u hj hu => ?_, hN, by omega, by subst hB; exact heap_lt h, hb⟩
  · have hjn : j < n := by have := (List.getElem?_eq_some_iff.1 hj).1; simpa using this
    simp [hjn] at hj
    subst hj
    exact ⟨Nat.zero_le _, _, by rw [List.getElem?_append_left (by simpa using hjn)]; simp [hjn], OwnR.nil _ _⟩
  · rw [hnil i u hi hu]
    exact apart_nil _
  · rw [hnil j u hj hu]
    exact apart_nil _
theorem OutG.step {g B0 base n many N : Nat} {vs : List Value} {v : Value} {S : List (List BD) × List BD} {W W' : World} (h : OutG g B0 base n many N vs v S W) (hs : ∀ k, g ≤ k → k < W.heap.size → (k = g ∨ B0 ≤ k ∨ v.ownBlock = some k) → W'.heap[k]? = W.heap[k]?) (hsz : W.heap.size ≤ W'.heap.size) (hvg : ∀ k, v.ownBlock = some k → g ≤ k) : OutG g B0 base n many N vs v S W' :=
  ⟨(hs g (Nat.le_refl _) (heap_lt h.blk) (.inl rfl)).trans h.blk, h.len, fun j D' hj => by
    obtain ⟨hm, u, hu, hR⟩ := h.row j D' hj
    exact ⟨hm, u, hu, hR.step (fun k hk => hs k (by have := hR.base k hk.symm; have := h.gB; omega) (hR.lt k hk.symm) (.inr (.inl (hR.base k hk.symm))))⟩, h.ap, h.rest.step (fun k hk hlt => hs k (hvg k hk) hlt (.inr (.inr hk))), h.rap, h.le, Nat.le_trans h.lt hsz, h.gB, h.bB⟩
end Go.Proofs.Ytknmokpnkcckeaa
