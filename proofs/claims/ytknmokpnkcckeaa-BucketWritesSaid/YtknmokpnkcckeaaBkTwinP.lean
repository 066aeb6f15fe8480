/-
The document's Twin of a bucket.
-/
import Derived.Test.YtknmokpnkcckeaaBkRef
import Derived.Test.YtknmokpnkcckeaaTwinB
namespace Go.Proofs.Ytknmokpnkcckeaa
open Go.RowKit Go.Proofs.YtknmokpnkcckeaaW.PrintWords Go.Proofs.YtknmokpnkcckeaaW.PrintLast Go.Proofs.YtknmokpnkcckeaaW.PrintMore Go.Proofs.Ytknmokpnkcckeaa.PAll
set_option linter.unusedVariables false
set_option linter.unusedSimpArgs false

theorem results_cell {fn : Func} {t : Tmp} {ty : TypeId} {tmps : Array Value} {P : Program} {w : World} {v : Value} {ad : Addr} (h : fn.results = #[.cell t ty]) (hp : tmps.getD t undef = .pointer (some ad)) (hl : (loadVar ty ad).run P w = .ok v w) : (results fn tmps).run P w = .ok v w := by
  have hp' : tmps[t]?.getD undef = .pointer (some ad) := by simpa using hp
  simp [results, h, hp', hl, asAddr, Result.andThen]
/-- A bucket's cells, its row turned. -/
theorem bk_set0 {W : World} {b t : Nat} {A A' : Option Addr} {n n' c c' : Nat} {L R : List Int} (h : W.heap[b]? = some (.cells ⟨bkC A n c L R⟩ t (0, 0))) : (W.setCell ⟨b, 0, none⟩ (.slice A' n' c')).heap[b]? = some (.cells ⟨bkC A' n' c' L R⟩ t (0, 0)) := by
  have := blk_set h 0 (.slice A' n' c')
  simpa [bkC] using this
theorem bk_ones (A : Option Addr) (n c : Nat) (L R : List Int) : ∀ v ∈ bkC A n c L R, v.oneCell' = true := by
  intro v hv
  simp only [bkC, List.mem_cons, List.mem_append, List.mem_map] at hv
  rcases hv with rfl | ⟨x, _, rfl⟩ | ⟨x, _, rfl⟩ <;> rfl
/-- Rows of the call's own stay when two older blocks turn. -/
theorem S_stays {W W' : World} {base : Nat} {A : Option Addr} {c : Nat} {xs : List S62} {h : Nat} (hS : Kd.S k62 62 W base (fun _ => True) (.slice A xs.length c) xs) (hb : h + 1 < base) (hs : ∀ k, k ≠ h → k ≠ h + 1 → W'.heap[k]? = W.heap[k]?) : xs.length ≤ c ∧ Kd.C k62 W' A xs.length xs := by
  have h1 : Kd.S k62 62 W base (fun k => k ≠ h ∧ k ≠ h + 1) (.slice A xs.length c) xs := Kd.S_mono (Kd.S_bound hS) (fun k hk => by have := hk.2.1; omega)
  obtain ⟨A', c', e, hc, _⟩ := Kd.S_reads h1
  injection e with e1 e2 e3
  subst e1 e3
  exact ⟨hc, Kd.F_now (Kd.F_step (Kd.S_F h1) (fun k hk _ => hs k hk.1 hk.2))⟩

set_option maxHeartbeats 4000000 in
set_option maxRecDepth 100000 in
theorem refTwinB_calls (k : Nat) (A : Option Addr) (c : Nat) (xs : List S62) (L R : List Int) (w : World) (hL : L.length = 32) (hR : R.length = 32) (hr : Kd.C k62 w A xs.length xs) (hc : xs.length ≤ c) (h : ref09_TwinAll.f k xs = some xs) :
    Calls Try.prog 17 #[.agg ⟨bkC A xs.length c L R⟩] w fun e w' => ∃ A2 c2, e = .returned (.agg ⟨bkC A2 xs.length c2 L R⟩) ∧ xs.length ≤ c2 ∧ Kd.C k62 w' A2 xs.length xs ∧ Below w.heap.size w w' := by
  have HR := Aside0.mk hr
  have HC := Aside0.mk hc
  have H := Aside0.mk h
  have HB0 := Aside0.mk (below_alloc (below_alloc (Below.refl w.heap.size w) (.cells ⟨bkC A xs.length c L R⟩ 40)) (.cells Try.zeroCells40 40))
  have hb0 := blk_alloc (heap_alloc_new w (.cells ⟨bkC A xs.length c L R⟩ 40)) (.cells Try.zeroCells40 40)
  have hb1 := heap_alloc_new (w.alloc (.cells ⟨bkC A xs.length c L R⟩ 40)) (.cells Try.zeroCells40 40)
  rw [World.size_alloc] at hb1
  have HK0 := Aside0.mk hb0
  have HK1 := Aside0.mk hb1
  have hk0 := bk_cell0 hb0
  have hk00 : (bkC A xs.length c L R)[0]? = some (.slice A xs.length c) := rfl
  clear hr hc h hb0 hb1
  go_enter Try.func17, Try.ntmps17
  repeat (first
    | (go_at_call 10; (with_reducible refine (ref09_TwinAll.calls k A c xs xs _ (Kd.C_below HR.out HB0.out) HC.out H.out).mono ?_); rintro e2 w2 ⟨v2, rfl, hS2, hb2⟩; obtain ⟨A2, c2, rfl, _, _⟩ := Kd.S_reads hS2; have HS2 := Aside0.mk hS2; have HB2 := Aside0.mk (bl HB0.out hb2); have HK2 := Aside0.mk (blk_below HK0.out hb2); have HK3 := Aside0.mk (blk_below HK1.out hb2); have hk2 := bk_cell0 HK2.out; have hf2 := blk_frozen HK2.out 0; clear hS2 hb2 hk0; (try dsimp only))
    | ((with_reducible refine wpList_whole_g 40 (.tmp 1) w.heap.size 40 (bkC A2 xs.length c2 L R) _ ?hw rfl ?hx ?hg Try.underlying40 ?hd ?hi ?_); (case hg => exact bk_set0 HK2.out); (case hw => rfl); (case hx => rfl); (case hd => rfl); (case hi => rw [bkC_length hL hR]; exact info40))
    | ((with_reducible refine wpList_store 40 (.tmp 2) (.tmp 7) (w.heap.size + 1) 40 Try.zeroCells40 ⟨bkC A2 xs.length c2 L R⟩ rfl rfl ?hx ?hy ?hg ?hs ?hi ?h1 ?_); (case hx => rfl); (case hy => rfl); (case hg => exact (Below.heap_setCell w2 ⟨w.heap.size, 0, none⟩ _ (w.heap.size + 1) (by show w.heap.size + 1 ≠ w.heap.size; omega)).trans HK3.out); (case hs => show _ = (bkC A2 xs.length c2 L R).length; rw [bkC_length hL hR]; rfl); (case hi => show _ = some (bkC A2 xs.length c2 L R).length; rw [bkC_length hL hR]; exact info40); (case h1 => exact bk_ones A2 xs.length c2 L R); intro w4 q1 q2 q3 q4)
    | go_values | go_guarded | go_step | go_upon | go_back)
  have hl := run_loadVar_mid (P := Try.prog) w4 (w.heap.size + 1) 0 40 (bkC A2 xs.length c2 L R) _ (fun j v hv => by rw [Nat.zero_add, blk_cell q1]; simpa using hv) Try.underlying40 rfl (by rw [bkC_length hL hR]; exact info40)
  have hst := S_stays (W' := w4) (h := w.heap.size) HS2.out (by simp) (fun k hk1 hk2 => (q2 k hk2).trans (Below.heap_setCell w2 ⟨w.heap.size, 0, none⟩ _ k hk1))
  refine bodyPost_ret (results_cell rfl rfl hl) rfl ⟨A2, c2, rfl, hst.1, hst.2, ?_⟩
  exact q3 _ _ (HB2.out.setCell (p := ⟨w.heap.size, 0, none⟩) (Nat.le_refl _) _) (by omega)
end Go.Proofs.Ytknmokpnkcckeaa

namespace Go.Proofs.Ytknmokpnkcckeaa
open Go.RowKit Go.Proofs.YtknmokpnkcckeaaW.PrintWords Go.Proofs.YtknmokpnkcckeaaW.PrintLast Go.Proofs.YtknmokpnkcckeaaW.PrintMore Go.Proofs.Ytknmokpnkcckeaa.PAll
set_option linter.unusedVariables false
set_option linter.unusedSimpArgs false

section
variable {P : Program} {op : Oper} {a : Act} {w : World} {Q : Exit → Act → World → Prop}
/-- A value is stored over some cells of a block. -/
theorem op_store_at {K : Act → World → Prop} (ty : TypeId) (x y : Operand) (b u o : Nat) (pre old new post : List Value) (ho : op.op = .store ty x y) (hx : a.eval x = .pointer (some ⟨b, o, none⟩)) (hy : a.eval y = .agg ⟨new⟩) (hg : w.heap[b]? = some (.cells ⟨pre ++ (old ++ post)⟩ u (0, 0)))
    (hp : pre.length = o) (hs : old.length = new.length) (hi : (P.info? ty).map (·.size) = some new.length) (h1 : ∀ v ∈ new, v.oneCell' = true)
    (h : ∀ w1, w1.heap[b]? = some (.cells ⟨pre ++ (new ++ post)⟩ u (0, 0)) → (∀ k, k ≠ b → w1.heap[k]? = w.heap[k]?) → (∀ B w0, Below B w0 w → B ≤ b → Below B w0 w1) → w1.heap.size = w.heap.size → K (a.put op.dst undef) w1) : op.wp P a w K Q := by
  refine wp_store_mid ty x y ho b o ⟨new⟩ hx hy (fun j hj => ⟨?_, ?_⟩) hi ?_ (h _ ?_ ?_ ?_ ?_)
  · rw [blk_cell hg]
    have : j < new.length := hj
    simp
    omega
  · exact blk_frozen hg _
  · exact Array.all_eq_true_iff_forall_mem.2 (fun v hv => h1 v (by simpa using hv))
  · obtain ⟨cur, q1, q2, q3⟩ := setCells_row new o w ⟨pre ++ (old ++ post)⟩ hg (by simp; omega)
    have : cur.toList = pre ++ (new ++ post) := by
      rw [q3]
      subst hp
      simp [hs, List.take_append_of_le_length]
    rw [q1, show cur = ⟨pre ++ (new ++ post)⟩ from by rw [← this]]
  · exact fun k hk => setCells_far _ o k hk
  · intro B w0 hb hle
    obtain ⟨s1, s2, s3, s4⟩ := setCells_same b new o w
    refine ⟨s1.trans hb.os, s2.trans hb.tape, s3.trans hb.output, by rw [s4]; exact hb.size, fun k hk => ?_⟩
    rw [setCells_far new o k (by omega)]
    exact hb.block k hk
  · exact (setCells_same b _ o w).2.2.2
end

theorem goodB_box {base g : Nat} {W W' : World} {d : BD} {cs : Array Value} (h : GoodB W d ∧ YoungD base W d) (hg : W.heap[g]? = some (.cells cs 40 (0, 0))) (hk : ∀ k, k ≠ g → W'.heap[k]? = W.heap[k]?) : GoodB W' d ∧ YoungD base W' d := by
  obtain ⟨⟨hl, hn, hm, hr⟩, hy⟩ := h
  by_cases h0 : d.1.f2.length = 0
  · exact ⟨⟨hl, hn, hm, fun hp => absurd h0 (by omega)⟩, fun hp => absurd h0 hp⟩
  · obtain ⟨gd, cells, hA, hb, hc⟩ := hy h0
    have hne : gd ≠ g := by
      rintro rfl
      rw [hc] at hg
      cases hg
    refine ⟨⟨hl, hn, hm, fun hp => ?_⟩, fun _ => ⟨gd, cells, hA, hb, (hk gd hne).trans hc⟩⟩
    obtain ⟨ad, ha, hcell⟩ := hr hp
    rw [hA] at ha
    cases ha
    refine ⟨_, hA, fun j p hj => ?_⟩
    obtain ⟨c, hcl, hK, hcc⟩ := hcell j p hj
    refine ⟨c, hcl, hK, fun i u hu => ?_⟩
    have := hcc i u hu
    rw [add_at] at this ⊢
    rw [cell_same (hk gd hne)]
    exact this

set_option maxHeartbeats 8000000 in
set_option maxRecDepth 100000 in
theorem twinBk_calls (A : Option Addr) (n c : Nat) (xs : List S62) (L R : List Int) (w : World) (hL : L.length = 32) (hR : R.length = 32) (h : Kd.C k62 w A n xs) (hn : n ≤ 1000) (hx : ∀ x ∈ xs, x.f2.length < 140737488355328) :
    Calls Try.prog 20 #[.agg ⟨bkC A n c L R⟩] w fun e w' => ∃ (A' : Option Addr) (c' : Nat) (ds : List BD), e = .returned (.agg ⟨bkC A' n c' L R⟩) ∧ ds.map (·.1) = xs ∧ (∀ d ∈ ds, GoodB w' d ∧ YoungD w.heap.size w' d) ∧ (n ≠ 0 → ∃ g rest, A' = some ⟨g, 0, none⟩ ∧ w.heap.size ≤ g ∧ n ≤ c' ∧ w'.heap[g]? = some (.cells ⟨(ds.map cell3).flatten ++ rest⟩ 62 (0, 0))) ∧ Below w.heap.size w w' := by
  obtain ⟨ds, hds, hraw, hgood⟩ := raw_of_C h
  have hdl : ds.length = n := by have := hraw.1; simpa using this
  have HRAW := Aside0.mk hraw
  have HGD := Aside0.mk hgood
  have HDS := Aside0.mk hds
  have HDL := Aside0.mk hdl
  have HX := Aside0.mk hx
  have hn3 : (n : Int) ≤ 1000 := by omega
  have HN := Aside0.mk hn
  have HB0 := Aside0.mk (below_alloc (below_alloc (Below.refl w.heap.size w) (.cells ⟨bkC A n c L R⟩ 40)) (.cells Try.zeroCells40 40))
  have hb0 := blk_alloc (heap_alloc_new w (.cells ⟨bkC A n c L R⟩ 40)) (.cells Try.zeroCells40 40)
  have hb1 := heap_alloc_new (w.alloc (.cells ⟨bkC A n c L R⟩ 40)) (.cells Try.zeroCells40 40)
  rw [World.size_alloc] at hb1
  have HK0 := Aside0.mk hb0
  have HK1 := Aside0.mk hb1
  have hk00 : (bkC A n c L R)[0]? = some (.slice A n c) := rfl
  have hk0 := bk_cell0 hb0
  clear h hds hraw hgood hdl hx hb0 hb1
  go_enter Try.func20, Try.ntmps20
  repeat (first
    | (go_at_call 49; (with_reducible refine (cloneB_calls A n c _ _ (Kd.C_below HRAW.out HB0.out) (by have := HN.out; omega)).mono ?_); rintro e1 w1 ⟨A1, c1, rfl, hR, hb⟩; have HR1 := Aside0.mk hR; have HB1 := Aside0.mk (bl HB0.out hb); have HK2 := Aside0.mk (blk_below HK0.out hb); have HK3 := Aside0.mk (blk_below HK1.out hb); have hk2 := bk_cell0 HK2.out; have hf2 := blk_frozen HK2.out 0; clear hR hb hk0; (try dsimp only))
    | go_values | go_guarded | go_step | go_upon | go_back)
  clear hk2 hf2 hk00
  obtain ⟨ws, hws⟩ : ∃ W, w1.setCell ⟨w.heap.size, 0, none⟩ (.slice A1 n c1) = W := ⟨_, rfl⟩
  rw [hws]
  have hfar : ∀ k, k ≠ w.heap.size → ws.heap[k]? = w1.heap[k]? := fun k hk => hws ▸ Below.heap_setCell w1 ⟨w.heap.size, 0, none⟩ _ k hk
  have HKS : Aside0 (ws.heap[w.heap.size]? = some (.cells ⟨bkC A1 n c1 L R⟩ 40 (0, 0))) := ⟨hws ▸ bk_set0 HK2.out⟩
  have HZS : Aside0 (ws.heap[w.heap.size + 1]? = some (.cells Try.zeroCells40 40 (0, 0))) := ⟨(hfar _ (by omega)).trans HK3.out⟩
  have HBS : Aside0 (Below w.heap.size w ws) := ⟨hws ▸ HB1.out.setCell (p := ⟨w.heap.size, 0, none⟩) (Nat.le_refl _) _⟩
  have hstart : Aside0 (n ≠ 0 → ∃ g rest, A1 = some ⟨g, 0, none⟩ ∧ w.heap.size + 2 ≤ g ∧ n ≤ c1 ∧ ws.heap[g]? = some (.cells ⟨(([] : List BD).map cell3).flatten ++ (((ds.drop 0).map cell3).flatten ++ rest)⟩ 62 (0, 0))) := ⟨fun h0 => by
    obtain ⟨g, rest, h1, h2, h3, h4⟩ := raw_block HR1.out h0
    have h2' : w.heap.size + 2 ≤ g := by simpa using h2
    exact ⟨g, rest, h1, h2', h3, by rw [hfar g (by omega)]; simpa using h4⟩⟩
  clear HR1 HB1 HK2 HK3 hfar hws HB0 HK0 HK1
  have hk2 := bk_cell0 HKS.out
  go_loopw [12] (fun v wr => ∃ (i : Nat) (es : List BD), v = .int .i64 i ∧ i ≤ n ∧ es.length = i ∧ es.map (·.1) = (ds.take i).map (·.1) ∧ Aside0 (n ≠ 0 → ∃ g rest, A1 = some ⟨g, 0, none⟩ ∧ w.heap.size + 2 ≤ g ∧ n ≤ c1 ∧ wr.heap[g]? = some (.cells ⟨(es.map cell3).flatten ++ (((ds.drop i).map cell3).flatten ++ rest)⟩ 62 (0, 0))) ∧ Aside0 (∀ d ∈ es, GoodB wr d ∧ YoungD w.heap.size wr d) ∧ Aside0 (wr.heap[w.heap.size]? = some (.cells ⟨bkC A1 n c1 L R⟩ 40 (0, 0))) ∧ Aside0 (wr.heap[w.heap.size + 1]? = some (.cells Try.zeroCells40 40 (0, 0))) ∧ Aside0 (Below w.heap.size w wr)) (fun v _ => n - (intOf v).toNat)
  case atStart => exact ⟨0, [], rfl, by omega, rfl, rfl, hstart, ⟨fun d hd => by simp at hd⟩, HKS, HZS, HBS⟩
  case round =>
    clear hstart HBS HKS HZS hk2
    obtain ⟨i, es, rfl, hi, hel, hem, HBK, HES, HKR, HZR, HB⟩ := hrel
    by_cases hlt : i < n
    · have hd1 : decide ((i : Int) < (n : Int)) = true := decide_eq_true (by omega)
      have hlt2 : (i : Int) < (n : Int) := by omega
      obtain ⟨g, rest, rfl, hgb, hnc, hgc⟩ := HBK.out (by omega)
      have hil : i < ds.length := by rw [HDL.out]; exact hlt
      have hgd := HGD.out ds[i] (List.getElem_mem hil)
      have hxl : ds[i].1.f2.length < 140737488355328 := HX.out _ (by rw [← HDS.out]; exact List.mem_map_of_mem (List.getElem_mem hil))
      rw [drop_cons hil, List.map_cons, List.flatten_cons, List.append_assoc] at hgc
      have hdt : (ds.take (i + 1)).map (·.1) = (ds.take i).map (·.1) ++ [ds[i].1] := by rw [List.take_succ_eq_append_getElem hil, List.map_append]; rfl
      have HDT := Aside0.mk hdt
      clear hdt
      generalize ds[i] = d at hgc hgd hxl HDT
      obtain ⟨⟨f0, f1, f2⟩, Ad, cd⟩ := d
      dsimp only [cell3] at hgc hgd hxl
      obtain ⟨hx0, hx1, hx2⟩ := cells_at hgc (o := i * 3) (by rw [cells3_length, hel])
      have HGC := Aside0.mk hgc
      have HGDD := Aside0.mk hgd
      have HEL := Aside0.mk hel
      have HEM := Aside0.mk hem
      have hslot : slot_Twin.f f0 f1 f2 = some (f0, f1, f2) := by
        unfold slot_Twin.f slices_Clone_byte_byte.f
        rw [if_pos (by omega)]
        rfl
      have HSL := Aside0.mk hslot
      have hnewN := below_alloc (Below.refl wr.heap.size wr) (.cells #[.int .i64 f0, .int .i64 f1, .slice Ad f2.length cd] 62)
      have HBN := Aside0.mk (bl HB.out hnewN)
      have HNW := Aside0.mk hnewN
      have HBXN : Aside0 (∀ w', Below (wr.alloc (.cells #[.int .i64 f0, .int .i64 f1, .slice Ad f2.length cd] 62)).heap.size (wr.alloc (.cells #[.int .i64 f0, .int .i64 f1, .slice Ad f2.length cd] 62)) w' → w'.heap[w.heap.size]? = some (.cells ⟨bkC (some ⟨g, 0, none⟩) n c1 L R⟩ 40 (0, 0))) := ⟨fun w' hb => blk_below (blk_alloc HKR.out (.cells #[.int .i64 f0, .int .i64 f1, .slice Ad f2.length cd] 62)) hb⟩
      have HNB : Aside0 (∀ w', Below (wr.alloc (.cells #[.int .i64 f0, .int .i64 f1, .slice Ad f2.length cd] 62)).heap.size (wr.alloc (.cells #[.int .i64 f0, .int .i64 f1, .slice Ad f2.length cd] 62)) w' → w'.cell? ⟨wr.heap.size, 0, none⟩ = some (.int .i64 f0) ∧ w'.cell? ⟨wr.heap.size, 1, none⟩ = some (.int .i64 f1) ∧ w'.cell? ⟨wr.heap.size, 2, none⟩ = some (.slice Ad f2.length cd)) := ⟨fun w' hb => box3B (blk_below (heap_alloc_new wr (.cells #[.int .i64 f0, .int .i64 f1, .slice Ad f2.length cd] 62)) hb)⟩
      have HDC : Aside0 (∀ w', Below (wr.alloc (.cells #[.int .i64 f0, .int .i64 f1, .slice Ad f2.length cd] 62)).heap.size (wr.alloc (.cells #[.int .i64 f0, .int .i64 f1, .slice Ad f2.length cd] 62)) w' → Kd.C (Kd.int .u8) w' Ad f2.length f2) := ⟨fun w' hb => Kd.C_below HGDD.out.2 (bl HBN.out hb)⟩
      have HGN : Aside0 (∀ w', Below (wr.alloc (.cells #[.int .i64 f0, .int .i64 f1, .slice Ad f2.length cd] 62)).heap.size (wr.alloc (.cells #[.int .i64 f0, .int .i64 f1, .slice Ad f2.length cd] 62)) w' → w'.heap[g]? = some (.cells ⟨(es.map cell3).flatten ++ ([.int .i64 f0, .int .i64 f1, .slice Ad f2.length cd] ++ (((ds.drop (i + 1)).map cell3).flatten ++ rest))⟩ 62 (0, 0))) := ⟨fun w' hb => blk_below (blk_alloc HGC.out (.cells #[.int .i64 f0, .int .i64 f1, .slice Ad f2.length cd] 62)) hb⟩
      clear hgc hgd hel hem hslot HBK hnewN
      go_wp2
      refine start_ (n := 7) (S := fun w' => Below (wr.alloc (.cells #[.int .i64 f0, .int .i64 f1, .slice Ad f2.length cd] 62)).heap.size (wr.alloc (.cells #[.int .i64 f0, .int .i64 f1, .slice Ad f2.length cd] 62)) w') (ds := [6]) #[false, false, false, false, false, false, false] (by kernel_rfl) rfl rfl (below_drew (Below.refl _ _)) (fun hHeld => ?_)
      refine pure_ (i := 0) (N := (some 17)) (v := ?_) (a' := ?_) #[true, false, false, false, false, false, false] rfl rfl (by kernel_rfl) (fun _ _ _ h => h) (Or.inl ⟨by rfl, ?_⟩) ?_ ?_
      rotate_left
      · intro w'
        go_simp
        with_reducible rfl
      rotate_left
      · simp only [Act.put, List.setIfInBounds_toArray, List.set_cons_zero, List.set_cons_succ, i64_w, i32_w]
        rfl
      refine take_ (i := 1) (N := (some 18)) (v := ?_) (a' := ?_) #[true, true, false, false, false, false, false] rfl rfl (by kernel_rfl) (fun _ _ _ h => h) (Or.inl ⟨by rfl, ?_⟩) hHeld ?_ ?_
      rotate_left
      · rintro w' z0
        have hc := bk_cell0 (HBXN.out _ z0)
        go_simp
        with_reducible rfl
      rotate_left
      · simp only [Act.put, List.setIfInBounds_toArray, List.set_cons_zero, List.set_cons_succ, i64_w, i32_w]
        rfl
      refine pure_ (i := 2) (N := (some 19)) (v := ?_) (a' := ?_) #[true, true, true, false, false, false, false] rfl rfl (by kernel_rfl) (fun _ _ _ h => h) (Or.inl ⟨by rfl, ?_⟩) ?_ ?_
      rotate_left
      · intro w'
        go_simp
        with_reducible rfl
      rotate_left
      · simp only [Act.put, List.setIfInBounds_toArray, List.set_cons_zero, List.set_cons_succ, i64_w, i32_w]
        rfl
      refine take_ (i := 3) (N := (some 20)) (v := ?_) (a' := ?_) #[true, true, true, true, false, false, false] rfl rfl (by kernel_rfl) (fun _ _ _ h => h) (Or.inl ⟨by rfl, ?_⟩) hHeld ?_ ?_
      rotate_left
      · rintro w' z0
        obtain ⟨hc0, hc1, hc2⟩ := HNB.out _ z0
        go_simp
        with_reducible rfl
      rotate_left
      · simp only [Act.put, List.setIfInBounds_toArray, List.set_cons_zero, List.set_cons_succ, i64_w, i32_w]
        rfl
      refine one_ (i := 4) (N := (some 21)) #[true, true, true, true, true, false, false] rfl rfl (by kernel_rfl) (by decide) (fun K hK => ?_)
      refine goes_ Try.func50 (by kernel_rfl) rfl #[.agg #[.int .i64 f0, .int .i64 f1, .slice Ad f2.length cd]] (by rfl) rfl rfl (by (try simp only [List.map_toArray, List.map_cons, List.map_nil]); first | done | rfl) ?_
      refine (slot_Twin.calls f0 f1 Ad cd f2 f0 f1 f2 _ (HDC.out _ hHeld) HGDD.out.1 HSL.out).mono ?_
      rintro e2 w2 ⟨v2, rfl, hR2, hb2⟩
      obtain ⟨A2, c2, rfl⟩ := Kd.R_slice hR2
      have HR2 := Aside0.mk hR2
      have hszN := hHeld.size
      have hS := hHeld.trans (hb2.mono hHeld.size)
      clear hb2 hR2
      refine ⟨_, rfl, ?_⟩
      refine hK.out _ _ hS (fun hHeld => ?_)
      clear hK K
      refine norm_ (a' := ?_) ?_ ?_
      rotate_left
      · show Act.put _ (some 21) _ = _
        simp only [Act.put, List.setIfInBounds_toArray, List.set_cons_zero, List.set_cons_succ, i64_w, i32_w]
        rfl
      refine pure_ (i := 5) (N := (some 22)) (v := ?_) (a' := ?_) #[true, true, true, true, true, true, false] rfl rfl (by kernel_rfl) (fun _ _ _ h => h) (Or.inl ⟨by rfl, ?_⟩) ?_ ?_
      rotate_left
      · intro w'
        go_simp
        with_reducible rfl
      rotate_left
      · simp only [Act.put, List.setIfInBounds_toArray, List.set_cons_zero, List.set_cons_succ, i64_w, i32_w]
        rfl
      refine last_ (i := 6) (N := none) #[true, true, true, true, true, true, true] rfl rfl (by kernel_rfl) (by decide) (fun K hK => ?_)
      refine ite_wanted rfl ?_
      refine op_store_at 62 (.tmp 22) (.tmp 21) g _ (i * 3) _ _ [.int .i64 f0, .int .i64 f1, .slice A2 f2.length c2] _ rfl ?hx ?hy (HGN.out _ hHeld) ?hp ?hs ?hi ?h1 ?_
      case hx => rfl
      case hy => rfl
      case hp => rw [cells3_length, HEL.out]
      case hs => rfl
      case hi => rfl
      case h1 => exact cell3_one (⟨f0, f1, f2⟩, A2, c2)
      intro w3 q1 q2 q3 q4
      refine hK.out _ _ ?_
      clear hK K
      refine done_ (by kernel_rfl) ?_
      have hwr2 : Below wr.heap.size wr w2 := bl HNW.out hHeld
      have hw2 : Below w.heap.size w w2 := bl HBN.out hHeld
      have hz2 := blk_below (blk_alloc HZR.out (.cells #[.int .i64 f0, .int .i64 f1, .slice Ad f2.length cd] 62)) hHeld
      have hk2 := HBXN.out _ hHeld
      have hg2 := HGN.out _ hHeld
      have Q1 := Aside0.mk q1
      have Q2 := Aside0.mk q2
      have Q3 := Aside0.mk q3
      have HW2 := Aside0.mk hw2
      have HZ2 := Aside0.mk hz2
      have HK2 := Aside0.mk hk2
      have HG2 := Aside0.mk hg2
      have HWR := Aside0.mk hwr2
      clear q1 q2 q3 q4 hw2 hz2 hk2 hg2 hwr2 hHeld hszN
      go_wp2
      refine ⟨⟨i + 1, es ++ [(⟨f0, f1, f2⟩, A2, c2)], rfl, by omega, by rw [List.length_append, HEL.out]; rfl, ?_, ⟨fun _ => ⟨g, rest, rfl, hgb, hnc, ?_⟩⟩, ⟨fun d hd => ?_⟩, ⟨(Q2.out _ (by omega)).trans HK2.out⟩, ⟨(Q2.out _ (by omega)).trans HZ2.out⟩, ⟨Q3.out _ _ HW2.out (by omega)⟩⟩, by simp [intOf]; omega⟩
      · rw [List.map_append, HEM.out, HDT.out]
        rfl
      · rw [Q1.out, List.map_append, List.flatten_append]
        simp [cell3]
      · rcases List.mem_append.1 hd with hd | hd
        · have h2 := HES.out d hd
          exact goodB_store ⟨h2.1.below HWR.out, h2.2.below HWR.out⟩ HG2.out Q2.out
        · simp only [List.mem_singleton] at hd
          subst hd
          exact goodB_store ⟨⟨(Kd.R_reads' HR2.out).2.1, (Kd.R_reads' HR2.out).2.2⟩, youngD_of_R (x := ⟨f0, f1, f2⟩) HR2.out HBN.out.size c2⟩ HG2.out Q2.out
    · have hd1 : decide ((i : Int) < (n : Int)) = false := decide_eq_false (by omega)
      have hin : i = n := by omega
      subst hin
      have hxs : es.map (·.1) = xs := by rw [hem, List.take_of_length_le (by rw [HDL.out]; exact Nat.le_refl _), HDS.out]
      have HXS := Aside0.mk hxs
      clear hem hxs
      repeat (first
        | ((with_reducible refine wpList_whole_g 40 (.tmp 1) w.heap.size 40 (bkC A1 i c1 L R) _ ?hw rfl ?hx ?hg Try.underlying40 ?hd ?hi ?_); (case hg => exact HKR.out); (case hw => rfl); (case hx => rfl); (case hd => rfl); (case hi => rw [bkC_length hL hR]; exact info40))
        | ((with_reducible refine wpList_store 40 (.tmp 2) (.tmp 24) (w.heap.size + 1) 40 Try.zeroCells40 ⟨bkC A1 i c1 L R⟩ rfl rfl ?hx ?hy ?hg ?hs ?hi ?h1 ?_); (case hx => rfl); (case hy => rfl); (case hg => exact HZR.out); (case hs => show _ = (bkC A1 i c1 L R).length; rw [bkC_length hL hR]; rfl); (case hi => show _ = some (bkC A1 i c1 L R).length; rw [bkC_length hL hR]; exact info40); (case h1 => exact bk_ones A1 i c1 L R); intro w4 q1 q2 q3 q4)
        | go_values | go_guarded | go_step | go_upon | go_back)
      have hl := run_loadVar_mid (P := Try.prog) w4 (w.heap.size + 1) 0 40 (bkC A1 i c1 L R) _ (fun j v hv => by rw [Nat.zero_add, blk_cell q1]; simpa using hv) Try.underlying40 rfl (by rw [bkC_length hL hR]; exact info40)
      refine bodyPost_ret (results_cell rfl rfl hl) rfl ⟨A1, c1, es, rfl, HXS.out, fun d hd => ?_, fun h0 => ?_, ?_⟩
      · exact goodB_box (HES.out d hd) HZR.out q2
      · obtain ⟨g, rest, h1, h2, h3, h4⟩ := HBK.out h0
        refine ⟨g, rest, h1, by omega, h3, ?_⟩
        rw [q2 g (by omega), h4, List.drop_of_length_le (by rw [HDL.out]; exact Nat.le_refl _)]
        rfl
      · exact q3 _ _ HB.out (by omega)
end Go.Proofs.Ytknmokpnkcckeaa
