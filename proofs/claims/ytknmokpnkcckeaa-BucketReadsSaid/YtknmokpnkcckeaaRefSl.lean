/-
The document's digest: 32 bytes at a place.
-/
import Derived.Test.YtknmokpnkcckeaaBkRdG
import Derived.Test.YtknmokpnkcckeaaRefNum
namespace Go.Proofs.Ytknmokpnkcckeaa
open Go.RowKit Go.Proofs.YtknmokpnkcckeaaW.PrintWords Go.Proofs.YtknmokpnkcckeaaW.PrintLast Go.Proofs.YtknmokpnkcckeaaW.PrintMore Go.Proofs.Ytknmokpnkcckeaa.PAll
set_option linter.unusedVariables false
set_option linter.unusedSimpArgs false

theorem info38D : (Try.prog.info? 38).map (·.size) = some 32 := by kernel_rfl
theorem dig_set {l : List Int} {a i : Nat} (h : a + i < l.length) (hi : i < 32) : (⟨((l.drop a).take i).map (Value.int .u8) ++ List.replicate (32 - i) (Value.int .u8 0)⟩ : Array Value).setIfInBounds i (Value.int .u8 l[a + i]) = ⟨((l.drop a).take (i + 1)).map (Value.int .u8) ++ List.replicate (32 - (i + 1)) (Value.int .u8 0)⟩ := by
  apply Array.ext'
  have hl : (((l.drop a).take i).map (Value.int .u8)).length = i := by rw [List.length_map, List.length_take, List.length_drop]; omega
  rw [Array.toList_setIfInBounds]
  show (((l.drop a).take i).map (Value.int .u8) ++ List.replicate (32 - i) (Value.int .u8 0)).set i (Value.int .u8 l[a + i]) = ((l.drop a).take (i + 1)).map (Value.int .u8) ++ List.replicate (32 - (i + 1)) (Value.int .u8 0)
  rw [List.set_append_right _ _ (by omega), hl, Nat.sub_self, show 32 - i = (32 - (i + 1)) + 1 by omega, List.replicate_succ, List.set_cons_zero, List.take_succ_eq_append_getElem (by rw [List.length_drop]; omega), List.map_append, List.append_assoc]
  congr 2
  simp [List.getElem_drop]

set_option maxHeartbeats 8000000 in
set_option maxRecDepth 100000 in
theorem dig_calls (a : Nat) (A : Option Addr) (c : Nat) (l : List Int) (w : World) (hr : Kd.C (Kd.int .u8) w A l.length l) (ha : a + 32 ≤ l.length) (hm : l.length ≤ 140737488355328) :
    Calls Try.prog 58 #[.slice A l.length c, .int .i64 (a : Int)] w fun e w' => e = .returned (.agg ⟨((l.drop a).take 32).map (Value.int .u8)⟩) ∧ Below w.heap.size w w' := by
  obtain ⟨ad, rfl⟩ : ∃ ad, A = some ad := by
    obtain ⟨ad, e, _⟩ := hr.2.2 (by omega)
    exact ⟨ad, e⟩
  have HR := Aside0.mk hr
  clear hr
  go_enter Try.func58, Try.ntmps58
  go_wp2
  generalize hw1 : World.alloc (World.alloc w _) _ = w1
  have HB : Aside0 (Below w.heap.size w w1) := ⟨by rw [← hw1]; exact below_alloc (below_alloc (Below.refl w.heap.size w) _) _⟩
  have HZ : Aside0 (w1.heap[w.heap.size]? = some (.cells ⟨List.replicate 32 (Value.int .u8 0)⟩ 38 (0, 0))) := ⟨by rw [← hw1]; exact blk_alloc (heap_alloc_new w _) _⟩
  have HD : Aside0 (w1.heap[w.heap.size + 1]? = some (.cells ⟨((l.drop a).take 0).map (Value.int .u8) ++ List.replicate (32 - 0) (Value.int .u8 0)⟩ 38 (0, 0))) := ⟨by
    have h := heap_alloc_new (w.alloc (.cells ⟨List.replicate 32 (Value.int .u8 0)⟩ 38)) (.cells ⟨List.replicate 32 (Value.int .u8 0)⟩ 38)
    rw [World.size_alloc] at h
    rw [← hw1]
    exact h⟩
  clear hw1
  go_loopw [6] (fun v wr => ∃ i : Nat, v = .int .i64 i ∧ i ≤ 32 ∧ Aside0 (wr.heap[w.heap.size + 1]? = some (.cells ⟨((l.drop a).take i).map (Value.int .u8) ++ List.replicate (32 - i) (.int .u8 0)⟩ 38 (0, 0))) ∧ Aside0 (wr.heap[w.heap.size]? = some (.cells ⟨List.replicate 32 (Value.int .u8 0)⟩ 38 (0, 0))) ∧ Aside0 (Below w.heap.size w wr)) (fun v _ => 32 - (intOf v).toNat)
  case atStart => exact ⟨0, rfl, by omega, HD, HZ, HB⟩
  case round =>
    clear HB HZ HD
    obtain ⟨i, rfl, hi, HD, HZ, HB⟩ := hrel
    by_cases hlt : i < 32
    · have hlt2 : (i : Int) < 32 := by omega
      have hd1 : decide ((i : Int) < 32) = true := decide_eq_true (by omega)
      have hil : a + i < l.length := by omega
      have hil2 : ((a + i : Nat) : Int) < (l.length : Int) := by omega
      have hw : IntKind.i64.wrap ((a : Int) + (i : Int)) = ((a + i : Nat) : Int) := by rw [IntWalk.i64_in _ (by omega)]; rfl
      have hw' : wrap64 ((a : Int) + (i : Int)) = ((a + i : Nat) : Int) := (i64_w _).symm.trans hw
      have hcell : wr.cell? (ad.add (a + i)) = some (.int .u8 l[a + i]) := cell_belowK HB.out (C_srcB HR.out (a + i) _ (by rw [List.getElem?_map, List.getElem?_eq_getElem hil]; rfl))
      have hold : wr.cell? ⟨w.heap.size + 1, i, none⟩ = some (.int .u8 0) := by
        rw [blk_cell HD.out i, List.getElem?_toArray, List.getElem?_append_right (by rw [List.length_map, List.length_take]; omega)]
        have : (((l.drop a).take i).map (Value.int .u8)).length = i := by rw [List.length_map, List.length_take, List.length_drop]; omega
        rw [this, Nat.sub_self, List.getElem?_replicate, if_pos (by omega)]
      have hfr := blk_frozen HD.out i
      have hn := blk_set HD.out i (.int .u8 l[a + i])
      rw [dig_set hil hlt] at hn
      have HN := Aside0.mk hn
      have HZN := Aside0.mk (blk_far (p := ⟨w.heap.size + 1, i, none⟩) HZ.out (by show w.heap.size ≠ w.heap.size + 1; omega) (.int .u8 l[a + i]))
      have HBN := Aside0.mk (HB.out.setCell (p := ⟨w.heap.size + 1, i, none⟩) (by show w.heap.size ≤ w.heap.size + 1; omega) (.int .u8 l[a + i]))
      clear hn HD HZ HB
      generalize l[a + i] = b at hcell HN HZN HBN
      go_wp2
      exact ⟨⟨i + 1, rfl, by omega, HN, HZN, HBN⟩, by simp [intOf]; omega⟩
    · have hd1 : decide ((i : Int) < 32) = false := decide_eq_false (by omega)
      have h32 : i = 32 := by omega
      subst h32
      have hd := HD.out
      rw [Nat.sub_self, List.replicate_zero, List.append_nil] at hd
      have HDD := Aside0.mk hd
      have hlen : (((l.drop a).take 32).map (Value.int .u8)).length = 32 := by rw [List.length_map, List.length_take, List.length_drop]; omega
      have HLN := Aside0.mk hlen
      clear hd hlen HD
      repeat (first
        | ((with_reducible refine wpList_whole_g 38 (.tmp 5) (w.heap.size + 1) 38 (((l.drop a).take 32).map (Value.int .u8)) _ ?hw rfl ?hx ?hg Try.underlying38 ?hd ?hi ?_); (case hg => exact HDD.out); (case hw => rfl); (case hx => rfl); (case hd => rfl); (case hi => rw [HLN.out]; exact info38D))
        | ((with_reducible refine wpList_store 38 (.tmp 4) (.tmp 19) w.heap.size 38 ⟨List.replicate 32 (Value.int .u8 0)⟩ ⟨((l.drop a).take 32).map (Value.int .u8)⟩ rfl rfl ?hx ?hy ?hg ?hs ?hi ?h1 ?_); (case hg => exact HZ.out); (case hx => rfl); (case hy => rfl); (case hs => exact HLN.out.symm); (case hi => show _ = some (((l.drop a).take 32).map (Value.int .u8)).length; rw [HLN.out]; exact info38D); (case h1 => intro v hv; obtain ⟨x, _, rfl⟩ := List.mem_map.1 hv; rfl); intro w7 q1 q2 q3 q4; have HR7 := Aside0.mk q1; have HB7 := Aside0.mk (q3 _ _ HB.out (Nat.le_refl _)); clear q1 q2 q3 q4)
        | go_values | go_guarded | go_step | go_upon | go_back)
      refine bodyPost_ret (results_single rfl (.cell w.heap.size _ _ (0, 0) _ rfl HR7.out Try.underlying38 rfl ?_ .nil)) rfl ?_
      · show _ = some (((l.drop a).take 32).map (Value.int .u8)).length
        rw [HLN.out]
        exact info38D
      · exact ⟨rfl, HB7.out⟩
end Go.Proofs.Ytknmokpnkcckeaa

namespace Go.Proofs.Ytknmokpnkcckeaa
open Go.RowKit Go.Proofs.YtknmokpnkcckeaaW.PrintWords Go.Proofs.YtknmokpnkcckeaaW.PrintLast Go.Proofs.YtknmokpnkcckeaaW.PrintMore Go.Proofs.Ytknmokpnkcckeaa.PAll
set_option linter.unusedVariables false
set_option linter.unusedSimpArgs false

theorem list32 {L : List Int} (h : L.length = 32) : ∃ a0 a1 a2 a3 a4 a5 a6 a7 a8 a9 a10 a11 a12 a13 a14 a15 a16 a17 a18 a19 a20 a21 a22 a23 a24 a25 a26 a27 a28 a29 a30 a31, L = [a0, a1, a2, a3, a4, a5, a6, a7, a8, a9, a10, a11, a12, a13, a14, a15, a16, a17, a18, a19, a20, a21, a22, a23, a24, a25, a26, a27, a28, a29, a30, a31] := by
  match L, h with
  | [a0, a1, a2, a3, a4, a5, a6, a7, a8, a9, a10, a11, a12, a13, a14, a15, a16, a17, a18, a19, a20, a21, a22, a23, a24, a25, a26, a27, a28, a29, a30, a31], _ => exact ⟨a0, a1, a2, a3, a4, a5, a6, a7, a8, a9, a10, a11, a12, a13, a14, a15, a16, a17, a18, a19, a20, a21, a22, a23, a24, a25, a26, a27, a28, a29, a30, a31, rfl⟩
set_option maxRecDepth 100000 in
theorem build_bk {L R : List Int} (hL : L.length = 32) (hR : R.length = 32) : Try.prog.built 40 [(1, .agg ⟨L.map (Value.int .u8)⟩), (2, .agg ⟨R.map (Value.int .u8)⟩)] = some ⟨bkC none 0 0 L R⟩ := by
  obtain ⟨a0, a1, a2, a3, a4, a5, a6, a7, a8, a9, a10, a11, a12, a13, a14, a15, a16, a17, a18, a19, a20, a21, a22, a23, a24, a25, a26, a27, a28, a29, a30, a31, rfl⟩ := list32 hL
  obtain ⟨b0, b1, b2, b3, b4, b5, b6, b7, b8, b9, b10, b11, b12, b13, b14, b15, b16, b17, b18, b19, b20, b21, b22, b23, b24, b25, b26, b27, b28, b29, b30, b31, rfl⟩ := list32 hR
  kernel_rfl
theorem exec_build {o : Oper} {a : Act} {x y : Operand} {L R : List Int} (hL : L.length = 32) (hR : R.length = 32) (ho : o.op = .build 40 #[(1, x), (2, y)]) (hx : a.eval x = .agg ⟨L.map (Value.int .u8)⟩) (hy : a.eval y = .agg ⟨R.map (Value.int .u8)⟩) (w : World) :
    (execOp a.eval o).run Try.prog w = .ok (.value (.agg ⟨bkC none 0 0 L R⟩)) w := by
  have hb := run_build (P := Try.prog) w 40 #[(1, .agg ⟨L.map (Value.int .u8)⟩), (2, .agg ⟨R.map (Value.int .u8)⟩)] _ (build_bk hL hR)
  unfold execOp
  simp only [ho, List.map_toArray, List.map_cons, List.map_nil, hx, hy, Sem.run_bind, hb, Result.andThen_ok, Sem.run_pure]
end Go.Proofs.Ytknmokpnkcckeaa

namespace Go.Proofs.Ytknmokpnkcckeaa
open Go.RowKit Go.Proofs.YtknmokpnkcckeaaW.PrintWords Go.Proofs.YtknmokpnkcckeaaW.PrintLast Go.Proofs.YtknmokpnkcckeaaW.PrintMore Go.Proofs.Ytknmokpnkcckeaa.PAll
set_option linter.unusedVariables false
set_option linter.unusedSimpArgs false

theorem at_world {K : Act → World → Prop} {a : Act} {X Y : World} (h : Y = X) (hk : K a Y) : K a X := h ▸ hk
/-- A part of a text, as it is read. -/
theorem cut_mid (A : Option Addr) (c : Nat) (t : List Int) (lo hi : Nat) (h1 : lo ≤ hi) (h2 : hi ≤ t.length) (hc : t.length ≤ c) :
    ∃ A' : Option Addr, (∀ W : World, (Instr.slice 43 (.slice A t.length c) (some (.int .i64 (lo : Int))) (some (.int .i64 (hi : Int))) none).run Try.prog W = .ok (.slice A' ((t.drop lo).take (hi - lo)).length (c - lo)) W) ∧
      (∀ W : World, Kd.C (Kd.int .u8) W A t.length t → Kd.C (Kd.int .u8) W A' ((t.drop lo).take (hi - lo)).length ((t.drop lo).take (hi - lo))) ∧ ((t.drop lo).take (hi - lo)).length ≤ c - lo := by
  obtain ⟨i, hi0, hsz⟩ : ∃ i, Try.prog.info? 5 = some i ∧ i.size = 1 := by
    have h := info1U
    cases hq : Try.prog.info? 5 with
    | none => rw [hq] at h; cases h
    | some i => exact ⟨i, rfl, by rw [hq] at h; simpa using h⟩
  obtain ⟨A', h3, h4, h5⟩ := print_mid_of (P := Try.prog) (Value.int .u8) (0 : Int) 43 5 .i64 .i64 Try.underlying43 hi0 hsz A c t (lo : Int) (hi : Int) (by omega) (by omega) (by omega) hc
  simp only [Int.toNat_natCast] at h3 h4 h5
  have e : (t.take hi).drop lo = (t.drop lo).take (hi - lo) := by rw [List.drop_take]
  rw [e] at h3 h4 h5
  exact ⟨A', h3, fun W hC => Kd.C_of_reads (h1 := fun _ => rfl) (h4 W (Kd.reads_of_C (h1 := fun _ => rfl) hC)), h5⟩
theorem exec_cut {P : Program} {o : Oper} {a : Act} {w : World} {ty : TypeId} {x l h : Operand} {v u r s : Value} (hu : P.underlying ty = some (.slice (P.elem ty))) (ho : o.op = .slice ty x (some l) (some h) none) (hx : a.eval x = v) (hl : a.eval l = u) (hh : a.eval h = r) (hrun : (Instr.slice ty v (some u) (some r) none).run P w = .ok s w) :
    (execOp a.eval o).run P w = .ok (.value s) w := by
  unfold execOp
  simp only [ho, Option.map_some, Option.map_none, hx, hl, hh, Sem.run_bind, run_sliceAt_slice _ ty v (some u) (some r) none hu, hrun, Result.andThen_ok, Sem.run_pure]
/-- The two boxes of the call. -/
structure BoxD (h : Nat) (l0 l1 l2 l3 : Int) (W : World) : Prop where
  lev : W.heap[h]? = some (.cells #[.int .i64 l0, .int .i64 l1, .int .i64 l2, .int .i64 l3] 23 (0, 0))
  res : W.heap[h + 1]? = some (.cells Try.zeroCells40 40 (0, 0))
theorem BoxD.below {h : Nat} {l0 l1 l2 l3 : Int} {W W' : World} (b : BoxD h l0 l1 l2 l3 W) (hb : Below W.heap.size W W') : BoxD h l0 l1 l2 l3 W' := ⟨blk_below b.lev hb, blk_below b.res hb⟩
theorem BoxD.new (l0 l1 l2 l3 : Int) (w : World) : BoxD w.heap.size l0 l1 l2 l3 ((w.alloc (.cells #[.int .i64 l0, .int .i64 l1, .int .i64 l2, .int .i64 l3] 23)).alloc (.cells Try.zeroCells40 40)) := by
  refine ⟨blk_alloc (heap_alloc_new _ _) _, ?_⟩
  have := heap_alloc_new (w.alloc (.cells #[.int .i64 l0, .int .i64 l1, .int .i64 l2, .int .i64 l3] 23)) (.cells Try.zeroCells40 40)
  rwa [World.size_alloc] at this
theorem boxD_below (l0 l1 l2 l3 : Int) (w : World) : Below w.heap.size w ((w.alloc (.cells #[.int .i64 l0, .int .i64 l1, .int .i64 l2, .int .i64 l3] 23)).alloc (.cells Try.zeroCells40 40)) := below_alloc (below_alloc (Below.refl _ _) _) _

set_option maxHeartbeats 8000000 in
set_option maxRecDepth 100000 in
theorem refRead_bad (l0 l1 l2 l3 many : Int) (A : Option Addr) (c : Nat) (t : List Int) (w : World) (hm : ref09_Many.f 20 l0 l1 l2 l3 = some many) (h1 : many < 1) :
    Calls Try.prog 28 #[.agg #[.int .i64 l0, .int .i64 l1, .int .i64 l2, .int .i64 l3], .slice A t.length c] w fun e w' => e = .returned (.tuple #[.agg ⟨bkC none 0 0 dig0 dig0⟩, .int .i64 8]) ∧ Below w.heap.size w w' := by
  have HM := Aside0.mk hm
  have hd1 : decide (many < 1) = true := decide_eq_true h1
  have hu23 := Try.underlying23
  have HF := Aside0.mk (BoxD.new l0 l1 l2 l3 w)
  have HB := Aside0.mk (boxD_below l0 l1 l2 l3 w)
  clear hm
  go_enter Try.func28, Try.ntmps28
  repeat (first
    | ((with_reducible refine wpList_whole_g 23 (.tmp 2) (w.heap.size) 23 [.int .i64 l0, .int .i64 l1, .int .i64 l2, .int .i64 l3] _ ?hw rfl ?hx ?hg Try.underlying23 ?hd ?hi ?_); (case hg => exact HF.out.lev); (case hw => rfl); (case hx => rfl); (case hd => rfl); (case hi => exact infoLB))
    | (go_at_call 46; (with_reducible refine (ref09_Many.calls 20 l0 l1 l2 l3 many _ HM.out).mono ?_); rintro e2 w2 ⟨rfl, hb2⟩; have HF2 := Aside0.mk (HF.out.below hb2); have HB2 := Aside0.mk (bl HB.out hb2); have hl3 := blk_cell HF2.out.lev 3; clear hb2; (try dsimp only))
    | ((with_reducible refine wpList_store 40 (.tmp 4) (.tmp 16) (w.heap.size + 1) 40 Try.zeroCells40 Try.zeroCells40 rfl rfl ?hx ?hy ?hg rfl ?hi ?h1 ?_); (case hg => exact HF2.out.res); (case hx => rfl); (case hy => rfl); (case hi => exact info40); (case h1 => rw [bk_zero]; exact bk_ones _ _ _ _ _); intro w7 q1 q2 q3 q4; have HR7 := Aside0.mk q1; have HB7 := Aside0.mk (q3 _ _ HB2.out (by omega)); clear q1 q2 q3 q4)
    | go_values | go_guarded | go_step | go_upon | go_back)
  exact bodyPost_ret (results_list (rs := [.cell 4 40, .tmp 5]) rfl (by simp) (.cell (w.heap.size + 1) _ _ (0, 0) _ rfl HR7.out Try.underlying40 rfl info40 (.tmp .nil))) rfl ⟨by rw [bk_zero]; rfl, HB7.out⟩

set_option maxHeartbeats 8000000 in
set_option maxRecDepth 100000 in
theorem refRead_short (l0 l1 l2 l3 many : Int) (A : Option Addr) (c : Nat) (t : List Int) (w : World) (hm : ref09_Many.f 20 l0 l1 l2 l3 = some many) (h1 : ¬ many < 1) (hlen : ¬ (t.length : Int) = l3) :
    Calls Try.prog 28 #[.agg #[.int .i64 l0, .int .i64 l1, .int .i64 l2, .int .i64 l3], .slice A t.length c] w fun e w' => e = .returned (.tuple #[.agg ⟨bkC none 0 0 dig0 dig0⟩, .int .i64 10]) ∧ Below w.heap.size w w' := by
  have HM := Aside0.mk hm
  have hd1 : decide (many < 1) = false := decide_eq_false h1
  have hd2 : decide ((t.length : Int) = l3) = false := decide_eq_false hlen
  have hu23 := Try.underlying23
  have HF := Aside0.mk (BoxD.new l0 l1 l2 l3 w)
  have HB := Aside0.mk (boxD_below l0 l1 l2 l3 w)
  clear hm
  go_enter Try.func28, Try.ntmps28
  repeat (first
    | ((with_reducible refine wpList_whole_g 23 (.tmp 2) (w.heap.size) 23 [.int .i64 l0, .int .i64 l1, .int .i64 l2, .int .i64 l3] _ ?hw rfl ?hx ?hg Try.underlying23 ?hd ?hi ?_); (case hg => exact HF.out.lev); (case hw => rfl); (case hx => rfl); (case hd => rfl); (case hi => exact infoLB))
    | (go_at_call 46; (with_reducible refine (ref09_Many.calls 20 l0 l1 l2 l3 many _ HM.out).mono ?_); rintro e2 w2 ⟨rfl, hb2⟩; have HF2 := Aside0.mk (HF.out.below hb2); have HB2 := Aside0.mk (bl HB.out hb2); have hl3 := blk_cell HF2.out.lev 3; clear hb2; (try dsimp only))
    | ((with_reducible refine wpList_store 40 (.tmp 4) (.tmp 22) (w.heap.size + 1) 40 Try.zeroCells40 Try.zeroCells40 rfl rfl ?hx ?hy ?hg rfl ?hi ?h1 ?_); (case hg => exact HF2.out.res); (case hx => rfl); (case hy => rfl); (case hi => exact info40); (case h1 => rw [bk_zero]; exact bk_ones _ _ _ _ _); intro w7 q1 q2 q3 q4; have HR7 := Aside0.mk q1; have HB7 := Aside0.mk (q3 _ _ HB2.out (by omega)); clear q1 q2 q3 q4)
    | go_values | go_guarded | go_step | go_upon | go_back)
  exact bodyPost_ret (results_list (rs := [.cell 4 40, .tmp 5]) rfl (by simp) (.cell (w.heap.size + 1) _ _ (0, 0) _ rfl HR7.out Try.underlying40 rfl info40 (.tmp .nil))) rfl ⟨by rw [bk_zero]; rfl, HB7.out⟩
end Go.Proofs.Ytknmokpnkcckeaa

namespace Go.Proofs.Ytknmokpnkcckeaa
open Go.RowKit Go.Proofs.YtknmokpnkcckeaaW.PrintWords Go.Proofs.YtknmokpnkcckeaaW.PrintLast Go.Proofs.YtknmokpnkcckeaaW.PrintMore Go.Proofs.Ytknmokpnkcckeaa.PAll
set_option linter.unusedVariables false
set_option linter.unusedSimpArgs false

/-- What the document's Read of a slot answers. -/
def RefSl (l0 l1 l2 l3 : Int) (s : List Int) (r1 r2 : Int) (r3 : List Int) (r4 : Bool) (r5 : Int) : Prop :=
  ∀ (A : Option Addr) (c : Nat) (w : World), Kd.C (Kd.int .u8) w A s.length s → s.length ≤ c →
    Calls Try.prog 59 #[.agg #[.int .i64 l0, .int .i64 l1, .int .i64 l2, .int .i64 l3], .slice A s.length c] w fun e w' => ∃ v2_ : Value, e = .returned (.tuple #[.agg #[.int .i64 r1, .int .i64 r2, v2_], .bool r4, .int .i64 r5]) ∧ Kd.R (Kd.int .u8) 5 w' w.heap.size (fun _ => True) v2_ r3 ∧ Below w.heap.size w w'
/-- The two boxes of the call. -/
structure BoxE (h : Nat) (l0 l1 l2 l3 : Int) (W : World) : Prop where
  lev : W.heap[h]? = some (.cells #[.int .i64 l0, .int .i64 l1, .int .i64 l2, .int .i64 l3] 23 (0, 0))
  res : W.heap[h + 1]? = some (.cells #[.int .i64 0, .int .i64 0, .slice none 0 0] 62 (0, 0))
theorem BoxE.below {h : Nat} {l0 l1 l2 l3 : Int} {W W' : World} (b : BoxE h l0 l1 l2 l3 W) (hb : Below W.heap.size W W') : BoxE h l0 l1 l2 l3 W' := ⟨blk_below b.lev hb, blk_below b.res hb⟩
theorem BoxE.new (l0 l1 l2 l3 : Int) (w : World) : BoxE w.heap.size l0 l1 l2 l3 ((w.alloc (.cells #[.int .i64 l0, .int .i64 l1, .int .i64 l2, .int .i64 l3] 23)).alloc (.cells #[.int .i64 0, .int .i64 0, .slice none 0 0] 62)) := by
  refine ⟨blk_alloc (heap_alloc_new _ _) _, ?_⟩
  have := heap_alloc_new (w.alloc (.cells #[.int .i64 l0, .int .i64 l1, .int .i64 l2, .int .i64 l3] 23)) (.cells #[.int .i64 0, .int .i64 0, .slice none 0 0] 62)
  rwa [World.size_alloc] at this
theorem boxE_below (l0 l1 l2 l3 : Int) (w : World) : Below w.heap.size w ((w.alloc (.cells #[.int .i64 l0, .int .i64 l1, .int .i64 l2, .int .i64 l3] 23)).alloc (.cells #[.int .i64 0, .int .i64 0, .slice none 0 0] 62)) := below_alloc (below_alloc (Below.refl _ _) _) _
theorem same_rep (q : Nat) (A : Option Addr) (c : Nat) (s : List Int) (A6 : Option Addr) (c6 : Nat) (r : Bool) (w : World) (h1 : Kd.C (Kd.int .u8) w A s.length s) (hc : s.length ≤ c) (h2 : Kd.C (Kd.int .u8) w A6 (List.replicate q (0 : Int)).length (List.replicate q 0)) (hc6 : q ≤ c6) (h : ref01_Same.f s (List.replicate q 0) = some r) :
    Calls Try.prog 21 #[.slice A s.length c, .slice A6 q c6] w fun e w' => e = .returned (.bool r) ∧ Below w.heap.size w w' := by
  have hp := ref01_Same.calls A c s A6 c6 (List.replicate q 0) r w h1 hc h2 (by rw [List.length_replicate]; exact hc6) h
  rw [List.length_replicate] at hp
  refine hp.mono ?_
  rintro e w' ⟨rfl, ⟨nd, rfl⟩⟩
  exact ⟨rfl, pw_below_drewN (Below.refl _ _) nd⟩
theorem num_below (A : Option Addr) (c : Nat) (p : List Int) (v : Int) (w : World) (h1 : Kd.C (Kd.int .u8) w A p.length p) (hc : p.length ≤ c) (h : ref01_Number.f 20 p = some v) :
    Calls Try.prog 79 #[.slice A p.length c] w fun e w' => e = .returned (.int .u64 v) ∧ Below w.heap.size w w' := by
  refine (ref01_Number.calls 20 A c p v w h1 hc h).mono ?_
  rintro e w' ⟨rfl, ⟨nd, rfl⟩⟩
  exact ⟨rfl, pw_below_drewN (Below.refl _ _) nd⟩
theorem exec_cut0 {P : Program} {o : Oper} {a : Act} {w : World} {ty : TypeId} {x h : Operand} {v r s : Value} (hu : P.underlying ty = some (.slice (P.elem ty))) (ho : o.op = .slice ty x none (some h) none) (hx : a.eval x = v) (hh : a.eval h = r) (hrun : (Instr.slice ty v none (some r) none).run P w = .ok s w) :
    (execOp a.eval o).run P w = .ok (.value s) w := by
  unfold execOp
  simp only [ho, Option.map_some, Option.map_none, hx, hh, Sem.run_bind, run_sliceAt_slice _ ty v none (some r) none hu, hrun, Result.andThen_ok, Sem.run_pure]

set_option maxHeartbeats 8000000 in
set_option maxRecDepth 100000 in
theorem refSl_bad (l0 l1 l2 l3 many : Int) (s : List Int) (hm : ref09_Many.f 20 l0 l1 l2 l3 = some many) (h1 : many < 1) : RefSl l0 l1 l2 l3 s 0 0 [] false 8 := by
  intro A c w hr hc
  have HM := Aside0.mk hm
  have hd1 : decide (many < 1) = true := decide_eq_true h1
  have HF := Aside0.mk (BoxE.new l0 l1 l2 l3 w)
  have HB := Aside0.mk (boxE_below l0 l1 l2 l3 w)
  clear hm hr hc
  go_enter Try.func59, Try.ntmps59
  repeat (first
    | ((with_reducible refine wpList_whole_g 23 (.tmp 2) (w.heap.size) 23 [.int .i64 l0, .int .i64 l1, .int .i64 l2, .int .i64 l3] _ ?hw rfl ?hx ?hg Try.underlying23 ?hd ?hi ?_); (case hg => first | exact HF.out.lev | exact HF2.out.lev); (case hw => rfl); (case hx => rfl); (case hd => rfl); (case hi => exact infoLB))
    | (go_at_call 46; (with_reducible refine (ref09_Many.calls 20 l0 l1 l2 l3 many _ HM.out).mono ?_); rintro e2 w2 ⟨rfl, hb2⟩; have HF2 := Aside0.mk (HF.out.below hb2); have HB2 := Aside0.mk (bl HB.out hb2); have hl1 := blk_cell HF2.out.lev 1; clear hb2; (try dsimp only))
    | ((with_reducible refine wpList_store 62 (.tmp 4) (.tmp 13) (w.heap.size + 1) 62 #[.int .i64 0, .int .i64 0, .slice none 0 0] #[.int .i64 0, .int .i64 0, .slice none 0 0] rfl rfl ?hx ?hy ?hg rfl ?hi ?h1 ?_); (case hg => exact HF2.out.res); (case hx => rfl); (case hy => rfl); (case hi => exact info62S); (case h1 => exact cell3_one (⟨0, 0, []⟩, none, 0)); intro w7 q1 q2 q3 q4; have HR7 := Aside0.mk q1; have HB7 := Aside0.mk (q3 _ _ HB2.out (by omega)); clear q1 q2 q3 q4)
    | go_values | go_guarded | go_step | go_upon | go_back)
  exact bodyPost_ret (results_list (rs := [.cell 4 62, .tmp 5, .tmp 6]) rfl (by simp) (.cell (w.heap.size + 1) _ _ (0, 0) _ rfl HR7.out Try.underlying62 rfl info62S (.tmp (.tmp .nil)))) rfl ⟨_, rfl, Kd.R_nil _ _ _ _ _, HB7.out⟩

set_option maxHeartbeats 8000000 in
set_option maxRecDepth 100000 in
theorem refSl_short (l0 l1 l2 l3 many : Int) (q : Nat) (s : List Int) (hm : ref09_Many.f 20 l0 l1 l2 l3 = some many) (h1 : ¬ many < 1) (hq : 8 + l1 = (q : Int)) (hq40 : q ≤ 40) (hlen : ¬ s.length = q) : RefSl l0 l1 l2 l3 s 0 0 [] false 10 := by
  intro A c w hr hc
  have HM := Aside0.mk hm
  have hd1 : decide (many < 1) = false := decide_eq_false h1
  have hwq : IntKind.i64.wrap (8 + l1) = (q : Int) := by rw [hq]; exact IntWalk.i64_in _ (by omega)
  have hwq' : wrap64 (8 + l1) = (q : Int) := (i64_w _).symm.trans hwq
  have hd2 : decide ((s.length : Int) = (q : Int)) = false := decide_eq_false (by omega)
  have hd3 : decide (s.length = q) = false := decide_eq_false hlen
  have HF := Aside0.mk (BoxE.new l0 l1 l2 l3 w)
  have HB := Aside0.mk (boxE_below l0 l1 l2 l3 w)
  clear hm hr hc hq
  go_enter Try.func59, Try.ntmps59
  repeat (first
    | ((with_reducible refine wpList_whole_g 23 (.tmp 2) (w.heap.size) 23 [.int .i64 l0, .int .i64 l1, .int .i64 l2, .int .i64 l3] _ ?hw rfl ?hx ?hg Try.underlying23 ?hd ?hi ?_); (case hg => first | exact HF.out.lev | exact HF2.out.lev); (case hw => rfl); (case hx => rfl); (case hd => rfl); (case hi => exact infoLB))
    | (go_at_call 46; (with_reducible refine (ref09_Many.calls 20 l0 l1 l2 l3 many _ HM.out).mono ?_); rintro e2 w2 ⟨rfl, hb2⟩; have HF2 := Aside0.mk (HF.out.below hb2); have HB2 := Aside0.mk (bl HB.out hb2); have hl1 := blk_cell HF2.out.lev 1; clear hb2; (try dsimp only))
    | ((with_reducible refine wpList_store 62 (.tmp 4) (.tmp 20) (w.heap.size + 1) 62 #[.int .i64 0, .int .i64 0, .slice none 0 0] #[.int .i64 0, .int .i64 0, .slice none 0 0] rfl rfl ?hx ?hy ?hg rfl ?hi ?h1 ?_); (case hg => exact HF2.out.res); (case hx => rfl); (case hy => rfl); (case hi => exact info62S); (case h1 => exact cell3_one (⟨0, 0, []⟩, none, 0)); intro w7 q1 q2 q3 q4; have HR7 := Aside0.mk q1; have HB7 := Aside0.mk (q3 _ _ HB2.out (by omega)); clear q1 q2 q3 q4)
    | go_values | go_guarded | go_step | go_upon | go_back)
  exact bodyPost_ret (results_list (rs := [.cell 4 62, .tmp 5, .tmp 6]) rfl (by simp) (.cell (w.heap.size + 1) _ _ (0, 0) _ rfl HR7.out Try.underlying62 rfl info62S (.tmp (.tmp .nil)))) rfl ⟨_, rfl, Kd.R_nil _ _ _ _ _, HB7.out⟩

set_option maxHeartbeats 8000000 in
set_option maxRecDepth 100000 in
theorem refSl_zero (l0 l1 l2 l3 many : Int) (q : Nat) (s : List Int) (hm : ref09_Many.f 20 l0 l1 l2 l3 = some many) (h1 : ¬ many < 1) (hq : 8 + l1 = (q : Int)) (hq40 : q ≤ 40) (hlen : s.length = q) (hs : ref01_Same.f s (List.replicate q 0) = some true) : RefSl l0 l1 l2 l3 s 0 0 [] false 0 := by
  intro A c w hr hc
  have HM := Aside0.mk hm
  have HR := Aside0.mk hr
  have HC := Aside0.mk hc
  have HSM := Aside0.mk hs
  have hd1 : decide (many < 1) = false := decide_eq_false h1
  have hwq : IntKind.i64.wrap (8 + l1) = (q : Int) := by rw [hq]; exact IntWalk.i64_in _ (by omega)
  have hwq' : wrap64 (8 + l1) = (q : Int) := (i64_w _).symm.trans hwq
  have hd2 : decide ((s.length : Int) = (q : Int)) = true := decide_eq_true (by omega)
  have hd3 : decide (s.length = q) = true := decide_eq_true hlen
  have hd4 : ((s.length : Int) != (q : Int)) = false := by rw [hlen]; simp
  have hd5 : (s.length != q) = false := by rw [hlen]; simp
  have HF := Aside0.mk (BoxE.new l0 l1 l2 l3 w)
  have HB := Aside0.mk (boxE_below l0 l1 l2 l3 w)
  clear hm hr hc hq hs hlen
  go_enter Try.func59, Try.ntmps59
  repeat (first
    | ((with_reducible refine wpList_whole_g 23 (.tmp 2) (w.heap.size) 23 [.int .i64 l0, .int .i64 l1, .int .i64 l2, .int .i64 l3] _ ?hw rfl ?hx ?hg Try.underlying23 ?hd ?hi ?_); (case hg => first | exact HF.out.lev | exact HF2.out.lev); (case hw => rfl); (case hx => rfl); (case hd => rfl); (case hi => exact infoLB))
    | (go_at_call 46; (with_reducible refine (ref09_Many.calls 20 l0 l1 l2 l3 many _ HM.out).mono ?_); rintro e2 w2 ⟨rfl, hb2⟩; have HF2 := Aside0.mk (HF.out.below hb2); have HB2 := Aside0.mk (bl HB.out hb2); have hl1 := blk_cell HF2.out.lev 1; clear hb2; (try dsimp only))
    | ((with_reducible refine gate_dst (N := 25) rfl ?_); refine Kd.R_make (Kd.int .u8) (w0 := w2) w2.heap.size 5 rfl (N := 25) rfl 43 (.tmp 24) (.tmp 24) rfl (q : Int) rfl rfl Try.underlying43 (.int .u8 0) 1 info5B rfl (by decide) (by decide) 0 (ok := fun _ => True) (okp := fun _ => True) rfl (fun _ h => h) trivial (by omega) (by omega) (Below.refl _ _) (Nat.le_refl _) ?_; intro v6 w6 ho hb hg hat; rw [Int.toNat_natCast] at ho; obtain ⟨A6, c6, hv6⟩ := Kd.R_slice ho; rw [List.length_replicate] at hv6; subst hv6; have HO6 := Aside0.mk (Kd.R_reads' ho).2.2; have HC6 := Aside0.mk (Kd.R_reads' ho).2.1; have HB6 := Aside0.mk (bl HB2.out hb); have HF2 := Aside0.mk (HF2.out.below hb); clear ho hb hg hat)
    | (go_at_call 21; (with_reducible refine (same_rep q A c s A6 c6 true _ (Kd.C_below HR.out HB6.out) HC.out HO6.out HC6.out HSM.out).mono ?_); rintro e4 w4 ⟨rfl, hb⟩; have HB4 := Aside0.mk (bl HB6.out hb); have HB2 := Aside0.mk (bl HB6.out hb); have HF2 := Aside0.mk (HF2.out.below hb); clear hb; (try dsimp only))
    | ((with_reducible refine wpList_store 62 (.tmp 4) (.tmp 27) (w.heap.size + 1) 62 #[.int .i64 0, .int .i64 0, .slice none 0 0] #[.int .i64 0, .int .i64 0, .slice none 0 0] rfl rfl ?hx ?hy ?hg rfl ?hi ?h1 ?_); (case hg => exact HF2.out.res); (case hx => rfl); (case hy => rfl); (case hi => exact info62S); (case h1 => exact cell3_one (⟨0, 0, []⟩, none, 0)); intro w7 q1 q2 q3 q4; have HR7 := Aside0.mk q1; have HB7 := Aside0.mk (q3 _ _ HB2.out (by omega)); clear q1 q2 q3 q4)
    | go_values | go_guarded | go_step | go_upon | go_back)
  exact bodyPost_ret (results_list (rs := [.cell 4 62, .tmp 5, .tmp 6]) rfl (by simp) (.cell (w.heap.size + 1) _ _ (0, 0) _ rfl HR7.out Try.underlying62 rfl info62S (.tmp (.tmp .nil)))) rfl ⟨_, rfl, Kd.R_nil _ _ _ _ _, HB7.out⟩

set_option maxHeartbeats 8000000 in
set_option maxRecDepth 100000 in
theorem refSl_more (l0 l1 l2 l3 many : Int) (q : Nat) (s : List Int) (v1 v2 : Int) (MY : Bool) (hm : ref09_Many.f 20 l0 l1 l2 l3 = some many) (h1 : ¬ many < 1) (hq : 8 + l1 = (q : Int)) (hq9 : 9 ≤ q) (hq40 : q ≤ 40) (hlen : s.length = q) (hs : ref01_Same.f s (List.replicate q 0) = some false)
    (hn1 : ref01_Number.f 20 (s.take 4) = some v1) (hn2 : ref01_Number.f 20 ((s.drop 4).take 4) = some v2) (hv1 : 0 ≤ v1 ∧ v1 < 4294967296) (hv2 : 0 ≤ v2 ∧ v2 < 4294967296) (hmy : ref09_May.f 20 l0 l1 l2 l3 (v1 - 1) v2 (s.drop 8) = some MY) : RefSl l0 l1 l2 l3 s (if MY then v1 - 1 else 0) (if MY then v2 else 0) (if MY then s.drop 8 else []) MY (if MY then 0 else 8) := by
  intro A c w hr hc
  obtain ⟨ad, rfl⟩ : ∃ ad, A = some ad := by
    obtain ⟨ad, e, _⟩ := hr.2.2 (by omega)
    exact ⟨ad, e⟩
  have HM := Aside0.mk hm
  have HR := Aside0.mk hr
  have HC := Aside0.mk hc
  have HSM := Aside0.mk hs
  have hd1 : decide (many < 1) = false := decide_eq_false h1
  obtain ⟨ii, hii, hsz⟩ : ∃ i, Try.prog.info? 5 = some i ∧ i.size = 1 := by
    have h := info1U
    cases hq : Try.prog.info? 5 with
    | none => rw [hq] at h; cases h
    | some i => exact ⟨i, rfl, by rw [hq] at h; simpa using h⟩
  obtain ⟨hrun1, hC1, hl1c⟩ := print_take_of (P := Try.prog) (Value.int .u8) (0 : Int) 43 5 .i64 Try.underlying43 hii hsz (some ad) c s (4 : Int) (by omega) (by omega) hc
  obtain ⟨A2, hrun2, hC2, hl2c⟩ := cut_mid (some ad) c s 4 8 (by omega) (by omega) hc
  obtain ⟨A3, hrun3, hC3, hl3c⟩ := print_drop_of (P := Try.prog) (Value.int .u8) (0 : Int) 43 5 .i64 Try.underlying43 hii hsz (some ad) c s (8 : Int) (by omega) (by omega) hc
  rw [show (4 : Int).toNat = 4 from rfl] at hrun1 hC1 hl1c
  rw [show (8 : Int).toNat = 8 from rfl] at hrun3 hC3 hl3c
  rw [show 8 - 4 = 4 from rfl] at hrun2 hC2 hl2c
  obtain ⟨p1, hp1⟩ : ∃ p, p = s.take 4 := ⟨_, rfl⟩
  obtain ⟨p2, hp2⟩ : ∃ p, p = (s.drop 4).take 4 := ⟨_, rfl⟩
  obtain ⟨p3, hp3⟩ : ∃ p, p = s.drop 8 := ⟨_, rfl⟩
  have hp3l : p3.length ≤ 32 := by rw [hp3, List.length_drop]; omega
  rw [← hp1] at hrun1 hC1 hl1c hn1
  rw [← hp2] at hrun2 hC2 hl2c hn2
  rw [← hp3] at hrun3 hC3 hl3c hmy ⊢
  have HR1 : Aside0 (∀ W : World, Kd.C (Kd.int .u8) W (some ad) s.length s → Kd.C (Kd.int .u8) W (some ad) p1.length p1) := ⟨fun W h => Kd.C_of_reads (h1 := fun _ => rfl) (hC1 W (Kd.reads_of_C (h1 := fun _ => rfl) h))⟩
  have HR2 := Aside0.mk hC2
  have HR3 : Aside0 (∀ W : World, Kd.C (Kd.int .u8) W (some ad) s.length s → Kd.C (Kd.int .u8) W A3 p3.length p3) := ⟨fun W h => Kd.C_of_reads (h1 := fun _ => rfl) (hC3 W (Kd.reads_of_C (h1 := fun _ => rfl) h))⟩
  have HL1 := Aside0.mk hl1c
  have HL2 := Aside0.mk hl2c
  have HL3 := Aside0.mk hl3c
  have HN1 := Aside0.mk hn1
  have HN2 := Aside0.mk hn2
  have HMY := Aside0.mk hmy
  have HP3 := Aside0.mk hp3l
  have HRUN1 := Aside0.mk hrun1
  have HRUN2 := Aside0.mk hrun2
  have hwq : IntKind.i64.wrap (8 + l1) = (q : Int) := by rw [hq]; exact IntWalk.i64_in _ (by omega)
  have hwq' : wrap64 (8 + l1) = (q : Int) := (i64_w _).symm.trans hwq
  have hw1 : IntKind.i64.wrap v1 = v1 := IntWalk.i64_in _ (by omega)
  have hw2 : IntKind.i64.wrap v2 = v2 := IntWalk.i64_in _ (by omega)
  have hw3 : IntKind.i64.wrap (v1 - 1) = v1 - 1 := IntWalk.i64_in _ (by omega)
  have hw1' : wrap64 v1 = v1 := (i64_w _).symm.trans hw1
  have hw2' : wrap64 v2 = v2 := (i64_w _).symm.trans hw2
  have hw3' : wrap64 (v1 - 1) = v1 - 1 := (i64_w _).symm.trans hw3
  have hd2 : decide ((s.length : Int) = (q : Int)) = true := decide_eq_true (by omega)
  have hd3 : decide (s.length = q) = true := decide_eq_true hlen
  have hd4 : ((s.length : Int) != (q : Int)) = false := by rw [hlen]; simp
  have hd5 : (s.length != q) = false := by rw [hlen]; simp
  have HF := Aside0.mk (BoxE.new l0 l1 l2 l3 w)
  have HB := Aside0.mk (boxE_below l0 l1 l2 l3 w)
  clear hm hr hc hq hs hlen hn1 hn2 hmy hC1 hC2 hC3 hl1c hl2c hl3c hp1 hp2 hp3 hp3l hv1 hv2 hrun1 hrun2
  go_enter Try.func59, Try.ntmps59
  repeat (first
    | ((with_reducible refine wpList_whole_g 23 (.tmp 2) (w.heap.size) 23 [.int .i64 l0, .int .i64 l1, .int .i64 l2, .int .i64 l3] _ ?hw rfl ?hx ?hg Try.underlying23 ?hd ?hi ?_); (case hg => first | exact HF.out.lev | exact HF2.out.lev); (case hw => rfl); (case hx => rfl); (case hd => rfl); (case hi => exact infoLB))
    | (go_at_call 46; (with_reducible refine (ref09_Many.calls 20 l0 l1 l2 l3 many _ HM.out).mono ?_); rintro e2 w2 ⟨rfl, hb2⟩; have HF2 := Aside0.mk (HF.out.below hb2); have HB2 := Aside0.mk (bl HB.out hb2); have hl1 := blk_cell HF2.out.lev 1; clear hb2; (try dsimp only))
    | ((with_reducible refine gate_dst (N := 25) rfl ?_); refine Kd.R_make (Kd.int .u8) (w0 := w2) w2.heap.size 5 rfl (N := 25) rfl 43 (.tmp 24) (.tmp 24) rfl (q : Int) rfl rfl Try.underlying43 (.int .u8 0) 1 info5B rfl (by decide) (by decide) 0 (ok := fun _ => True) (okp := fun _ => True) rfl (fun _ h => h) trivial (by omega) (by omega) (Below.refl _ _) (Nat.le_refl _) ?_; intro v6 w6 ho hb hg hat; rw [Int.toNat_natCast] at ho; obtain ⟨A6, c6, hv6⟩ := Kd.R_slice ho; rw [List.length_replicate] at hv6; subst hv6; have HO6 := Aside0.mk (Kd.R_reads' ho).2.2; have HC6 := Aside0.mk (Kd.R_reads' ho).2.1; have HB6 := Aside0.mk (bl HB2.out hb); have HF2 := Aside0.mk (HF2.out.below hb); clear ho hb hg hat)
    | (go_at_call 21; (with_reducible refine (same_rep q (some ad) c s A6 c6 false _ (Kd.C_below HR.out HB6.out) HC.out HO6.out HC6.out HSM.out).mono ?_); rintro e4 w4 ⟨rfl, hb⟩; have HB4 := Aside0.mk (bl HB6.out hb); have HB2 := Aside0.mk (bl HB6.out hb); have HF2 := Aside0.mk (HF2.out.below hb); clear hb; (try dsimp only))
    | go_values | go_guarded | go_step | go_upon | go_back)
  refine start_ (n := 8) (S := fun w' => Below w4.heap.size w4 w') (ds := []) #[false, false, false, false, false, false, false, false] (by kernel_rfl) rfl rfl (below_drew (Below.refl _ _)) (fun hHeld => ?_)
  refine pure_ (i := 0) (N := (some 28)) (v := ?_) (a' := ?_) #[true, false, false, false, false, false, false, false] rfl rfl (by kernel_rfl) (fun _ _ _ h => h) (Or.inl ⟨by rfl, ?_⟩) ?_ ?_
  rotate_left
  · intro w'
    go_simp
    with_reducible rfl
  rotate_left
  · simp only [Act.put, List.setIfInBounds_toArray, List.set_cons_zero, List.set_cons_succ, i64_w, i32_w]
    rfl
  refine pure_ (i := 1) (N := (some 29)) (v := ?_) (a' := ?_) #[true, true, false, false, false, false, false, false] rfl rfl (by kernel_rfl) (fun _ _ _ h => h) (Or.inl ⟨by rfl, ?_⟩) ?_ ?_
  rotate_left
  · intro w'
    refine exec_cut0 (s := .slice (some ad) p1.length c) (x := .tmp 28) (h := .const (.int .i64 4)) (by rw [Try.underlying43]; rfl) ?_ ?_ ?_ (HRUN1.out w')
    · rfl
    · rfl
    · rfl
  rotate_left
  · simp only [Act.put, List.setIfInBounds_toArray, List.set_cons_zero, List.set_cons_succ, i64_w, i32_w]
    rfl
  refine pure_ (i := 3) (N := (some 31)) (v := ?_) (a' := ?_) #[true, true, false, true, false, false, false, false] rfl rfl (by kernel_rfl) (fun _ _ _ h => h) (Or.inl ⟨by rfl, ?_⟩) ?_ ?_
  rotate_left
  · intro w'
    go_simp
    with_reducible rfl
  rotate_left
  · simp only [Act.put, List.setIfInBounds_toArray, List.set_cons_zero, List.set_cons_succ, i64_w, i32_w]
    rfl
  refine pure_ (i := 4) (N := (some 32)) (v := ?_) (a' := ?_) #[true, true, false, true, true, false, false, false] rfl rfl (by kernel_rfl) (fun _ _ _ h => h) (Or.inl ⟨by rfl, ?_⟩) ?_ ?_
  rotate_left
  · intro w'
    refine exec_cut (s := .slice A2 p2.length (c - 4)) (x := .tmp 31) (l := .const (.int .i64 4)) (h := .const (.int .i64 8)) (by rw [Try.underlying43]; rfl) ?_ ?_ ?_ ?_ (HRUN2.out w')
    · rfl
    · rfl
    · rfl
    · rfl
  rotate_left
  · simp only [Act.put, List.setIfInBounds_toArray, List.set_cons_zero, List.set_cons_succ, i64_w, i32_w]
    rfl
  refine one_ (i := 2) (N := (some 30)) #[true, true, true, true, true, false, false, false] rfl rfl (by kernel_rfl) (by decide) (fun K hK => ?_)
  refine goes_ Try.func79 (by kernel_rfl) rfl #[.slice (some ad) p1.length c] (by rfl) rfl rfl (by (try simp only [List.map_toArray, List.map_cons, List.map_nil]); first | done | rfl) ?_
  refine (num_below (some ad) (c) p1 v1 _ (HR1.out _ (Kd.C_below HR.out (bl HB4.out hHeld))) HL1.out HN1.out).mono ?_
  rintro e w' ⟨rfl, hb⟩
  refine ⟨_, rfl, ?_⟩
  refine hK.out _ _ (bl hHeld hb) (fun hHeld => ?_)
  clear hK K
  refine norm_ (a' := ?_) ?_ ?_
  rotate_left
  · show Act.put _ (some 30) _ = _
    simp only [Act.put, List.setIfInBounds_toArray, List.set_cons_zero, List.set_cons_succ, i64_w, i32_w]
    rfl
  refine one_ (i := 5) (N := (some 33)) #[true, true, true, true, true, true, false, false] rfl rfl (by kernel_rfl) (by decide) (fun K hK => ?_)
  refine goes_ Try.func79 (by kernel_rfl) rfl #[.slice A2 p2.length (c - 4)] (by rfl) rfl rfl (by (try simp only [List.map_toArray, List.map_cons, List.map_nil]); first | done | rfl) ?_
  refine (num_below A2 ((c - 4)) p2 v2 _ (HR2.out _ (Kd.C_below HR.out (bl HB4.out hHeld))) HL2.out HN2.out).mono ?_
  rintro e w5 ⟨rfl, hb⟩
  refine ⟨_, rfl, ?_⟩
  refine hK.out _ _ (bl hHeld hb) (fun hHeld => ?_)
  clear hK K
  refine norm_ (a' := ?_) ?_ ?_
  rotate_left
  · show Act.put _ (some 33) _ = _
    simp only [Act.put, List.setIfInBounds_toArray, List.set_cons_zero, List.set_cons_succ, i64_w, i32_w]
    rfl
  refine pure_ (i := 6) (N := (some 7)) (v := ?_) (a' := ?_) #[true, true, true, true, true, true, true, false] rfl rfl (by kernel_rfl) (fun _ _ _ h => h) (Or.inl ⟨by rfl, ?_⟩) ?_ ?_
  rotate_left
  · intro w'
    go_simp
    with_reducible rfl
  rotate_left
  · simp only [Act.put, List.setIfInBounds_toArray, List.set_cons_zero, List.set_cons_succ, i64_w, i32_w]
    rfl
  refine pure_ (i := 7) (N := (some 8)) (v := ?_) (a' := ?_) #[true, true, true, true, true, true, true, true] rfl rfl (by kernel_rfl) (fun _ _ _ h => h) (Or.inl ⟨by rfl, ?_⟩) ?_ ?_
  rotate_left
  · intro w'
    go_simp
    with_reducible rfl
  rotate_left
  · simp only [Act.put, List.setIfInBounds_toArray, List.set_cons_zero, List.set_cons_succ, i64_w, i32_w]
    rfl
  refine done_ (by kernel_rfl) ?_
  have HB5 := Aside0.mk hHeld
  have HBw := Aside0.mk (bl HB4.out hHeld)
  clear hHeld
  have hwsz : w.heap.size + 1 < w5.heap.size := by have h1 := heap_ltB HF2.out.res; have h2 := HB5.out.size; clear hw1 hw1' hw2 hw2' hw3 hw3' hwq hwq'; omega
  cases MY with
  | false =>
    repeat (first
      | ((with_reducible refine gate_dst (N := 39) rfl ?_); refine Kd.R_lit (Kd.int .u8) _ 5 ?hg (N := 39) ?hd (xs := ([] : List Int)) (inner := []) (ok := fun _ => True) (okp := fun _ => True) ?hr ?hp (fun _ hk => hk) trivial (Below.refl _ _) (Nat.le_refl _) (by simp) ?_; (case hd => rfl); (case hg => rfl); (case hr => first | (go_simp; done) | (go_simp; rfl)); (case hp => exact (Reps.none _ _)); intro v8 w8 ho hb hg_ hnew_; have HO8 := Aside0.mk ho; have HB8 := Aside0.mk hb; have hbs := hb.size; clear hg_ hnew_ ho hb)
      | ((with_reducible refine gate_builtin (b := .append) (xs := #[.tmp 39, .tmp 41]) rfl ?_); at_builtin; refine Kd.R_append_rows (Kd.int .u8) (w0 := w5) w5.heap.size rfl (.tmp 39) (.tmp 41) 43 5 (.int .u8 0) 1 rfl Try.underlying43 info5B rfl (by decide) (by omega) v8 [] p3 _ _ _ (fun _ => True) (fun _ => False) rfl rfl ?aO ?aR (fun _ _ h => h) (fun _ h => h.elim) ?aF ?aB ?aS ?aL ?_; (case aR => exact Kd.C_below (HR3.out _ (Kd.C_below HR.out HBw.out)) HB8.out); (case aB => exact HB8.out); (case aF => exact (fun _ _ => trivial)); (case aO => exact HO8.out); (case aS => exact hbs); (case aL => have := HP3.out; simp; omega); intro v9 w9 ho hb hg hat; rw [List.nil_append] at ho; obtain ⟨A9, c9, rfl⟩ := Kd.R_slice ho; have HO9 := Aside0.mk ho; have HB9 := Aside0.mk (bl HBw.out hb); have HF9 := Aside0.mk (HF2.out.below (bl HB5.out hb)); have HZ9 := Aside0.mk (heap_alloc_new w9 (.cells #[.int .i64 0, .int .i64 0, .slice none 0 0] 62)); clear ho hb hg hat hbs)
      | ((with_reducible refine wpList_store 62 (.tmp 9) (.tmp 43) w9.heap.size 62 #[.int .i64 0, .int .i64 0, .slice none 0 0] #[.int .i64 (v1 - 1), .int .i64 v2, .slice A9 p3.length c9] rfl rfl ?hx ?hy ?hg ?hs ?hi ?h1 ?_); (case hg => exact HZ9.out); (case hx => rfl); (case hy => rfl); (case hs => rfl); (case hi => exact info62S); (case h1 => exact cell3_one (⟨v1 - 1, v2, p3⟩, A9, c9)); intro wa q1 q2 q3 q4; have hba := q3 w9.heap.size w9 (below_alloc (Below.refl _ _) _) (Nat.le_refl _); have HXa := Aside0.mk q1; have HOa := Aside0.mk (Kd.R_below HO9.out hba); have HBa := Aside0.mk (bl HB9.out hba); have HFa := Aside0.mk (HF9.out.below hba); clear q1 q2 q3 q4 hba)
      | ((with_reducible refine wpList_whole_g 23 (.tmp 2) (w.heap.size) 23 [.int .i64 l0, .int .i64 l1, .int .i64 l2, .int .i64 l3] _ ?hw rfl ?hx ?hg Try.underlying23 ?hd ?hi ?_); (case hg => exact HFa.out.lev); (case hw => rfl); (case hx => rfl); (case hd => rfl); (case hi => exact infoLB))
      | ((with_reducible refine wpList_whole_g 62 (.tmp 9) (w9.heap.size) 62 [.int .i64 (v1 - 1), .int .i64 v2, .slice A9 p3.length c9] _ ?hw rfl ?hx ?hg Try.underlying62 ?hd ?hi ?_); (case hg => exact HXa.out); (case hw => rfl); (case hx => rfl); (case hd => rfl); (case hi => exact info62S))
      | ((with_reducible refine wpList_whole_g 62 (.tmp 9) (w9.heap.size) 62 [.int .i64 (v1 - 1), .int .i64 v2, .slice A9 p3.length c9] _ ?hw rfl ?hx ?hg Try.underlying62 ?hd ?hi ?_); (case hg => exact HXb.out); (case hw => rfl); (case hx => rfl); (case hd => rfl); (case hi => exact info62S))
      | (go_at_call 70; (with_reducible refine (ref09_May.calls 20 l0 l1 l2 l3 (v1 - 1) v2 A9 c9 p3 false _ (Kd.R_reads' HOa.out).2.2 (Kd.R_reads' HOa.out).2.1 HMY.out).mono ?_); rintro eb wb ⟨rfl, hb⟩; have HXb := Aside0.mk (blk_below HXa.out hb); have HOb := Aside0.mk (Kd.R_below HOa.out hb); have HB2 := Aside0.mk (bl HBa.out hb); have HF2 := Aside0.mk (HFa.out.below hb); clear hb; (try dsimp only))
      | ((with_reducible refine wpList_store 62 (.tmp 4) (.tmp 48) (w.heap.size + 1) 62 #[.int .i64 0, .int .i64 0, .slice none 0 0] #[.int .i64 0, .int .i64 0, .slice none 0 0] rfl rfl ?hx ?hy ?hg rfl ?hi ?h1 ?_); (case hg => exact HF2.out.res); (case hx => rfl); (case hy => rfl); (case hi => exact info62S); (case h1 => exact cell3_one (⟨0, 0, []⟩, none, 0)); intro w7 q1 q2 q3 q4; have HR7 := Aside0.mk q1; have HB7 := Aside0.mk (q3 _ _ HB2.out (by omega)); clear q1 q2 q3 q4)
      | go_values | go_guarded | go_step | go_upon | go_back)
    exact bodyPost_ret (results_list (rs := [.cell 4 62, .tmp 5, .tmp 6]) rfl (by simp) (.cell (w.heap.size + 1) _ _ (0, 0) _ rfl HR7.out Try.underlying62 rfl info62S (.tmp (.tmp .nil)))) rfl ⟨_, rfl, Kd.R_nil _ _ _ _ _, HB7.out⟩
  | true =>
    repeat (first
      | ((with_reducible refine gate_dst (N := 39) rfl ?_); refine Kd.R_lit (Kd.int .u8) _ 5 ?hg (N := 39) ?hd (xs := ([] : List Int)) (inner := []) (ok := fun _ => True) (okp := fun _ => True) ?hr ?hp (fun _ hk => hk) trivial (Below.refl _ _) (Nat.le_refl _) (by simp) ?_; (case hd => rfl); (case hg => rfl); (case hr => first | (go_simp; done) | (go_simp; rfl)); (case hp => exact (Reps.none _ _)); intro v8 w8 ho hb hg_ hnew_; have HO8 := Aside0.mk ho; have HB8 := Aside0.mk hb; have hbs := hb.size; clear hg_ hnew_ ho hb)
      | ((with_reducible refine gate_builtin (b := .append) (xs := #[.tmp 39, .tmp 41]) rfl ?_); at_builtin; refine Kd.R_append_rows (Kd.int .u8) (w0 := w5) w5.heap.size rfl (.tmp 39) (.tmp 41) 43 5 (.int .u8 0) 1 rfl Try.underlying43 info5B rfl (by decide) (by omega) v8 [] p3 _ _ _ (fun _ => True) (fun _ => False) rfl rfl ?aO ?aR (fun _ _ h => h) (fun _ h => h.elim) ?aF ?aB ?aS ?aL ?_; (case aR => exact Kd.C_below (HR3.out _ (Kd.C_below HR.out HBw.out)) HB8.out); (case aB => exact HB8.out); (case aF => exact (fun _ _ => trivial)); (case aO => exact HO8.out); (case aS => exact hbs); (case aL => have := HP3.out; simp; omega); intro v9 w9 ho hb hg hat; rw [List.nil_append] at ho; obtain ⟨A9, c9, rfl⟩ := Kd.R_slice ho; have HO9 := Aside0.mk ho; have HB9 := Aside0.mk (bl HBw.out hb); have HF9 := Aside0.mk (HF2.out.below (bl HB5.out hb)); have HZ9 := Aside0.mk (heap_alloc_new w9 (.cells #[.int .i64 0, .int .i64 0, .slice none 0 0] 62)); clear ho hb hg hat hbs)
      | ((with_reducible refine wpList_store 62 (.tmp 9) (.tmp 43) w9.heap.size 62 #[.int .i64 0, .int .i64 0, .slice none 0 0] #[.int .i64 (v1 - 1), .int .i64 v2, .slice A9 p3.length c9] rfl rfl ?hx ?hy ?hg ?hs ?hi ?h1 ?_); (case hg => exact HZ9.out); (case hx => rfl); (case hy => rfl); (case hs => rfl); (case hi => exact info62S); (case h1 => exact cell3_one (⟨v1 - 1, v2, p3⟩, A9, c9)); intro wa q1 q2 q3 q4; have hba := q3 w9.heap.size w9 (below_alloc (Below.refl _ _) _) (Nat.le_refl _); have HXa := Aside0.mk q1; have HOa := Aside0.mk (Kd.R_below HO9.out hba); have HBa := Aside0.mk (bl HB9.out hba); have HFa := Aside0.mk (HF9.out.below hba); clear q1 q2 q3 q4 hba)
      | ((with_reducible refine wpList_whole_g 23 (.tmp 2) (w.heap.size) 23 [.int .i64 l0, .int .i64 l1, .int .i64 l2, .int .i64 l3] _ ?hw rfl ?hx ?hg Try.underlying23 ?hd ?hi ?_); (case hg => exact HFa.out.lev); (case hw => rfl); (case hx => rfl); (case hd => rfl); (case hi => exact infoLB))
      | ((with_reducible refine wpList_whole_g 62 (.tmp 9) (w9.heap.size) 62 [.int .i64 (v1 - 1), .int .i64 v2, .slice A9 p3.length c9] _ ?hw rfl ?hx ?hg Try.underlying62 ?hd ?hi ?_); (case hg => exact HXa.out); (case hw => rfl); (case hx => rfl); (case hd => rfl); (case hi => exact info62S))
      | ((with_reducible refine wpList_whole_g 62 (.tmp 9) (w9.heap.size) 62 [.int .i64 (v1 - 1), .int .i64 v2, .slice A9 p3.length c9] _ ?hw rfl ?hx ?hg Try.underlying62 ?hd ?hi ?_); (case hg => exact HXb.out); (case hw => rfl); (case hx => rfl); (case hd => rfl); (case hi => exact info62S))
      | (go_at_call 70; (with_reducible refine (ref09_May.calls 20 l0 l1 l2 l3 (v1 - 1) v2 A9 c9 p3 true _ (Kd.R_reads' HOa.out).2.2 (Kd.R_reads' HOa.out).2.1 HMY.out).mono ?_); rintro eb wb ⟨rfl, hb⟩; have HXb := Aside0.mk (blk_below HXa.out hb); have HOb := Aside0.mk (Kd.R_below HOa.out hb); have HB2 := Aside0.mk (bl HBa.out hb); have HF2 := Aside0.mk (HFa.out.below hb); clear hb; (try dsimp only))
      | ((with_reducible refine wpList_store 62 (.tmp 4) (.tmp 49) (w.heap.size + 1) 62 #[.int .i64 0, .int .i64 0, .slice none 0 0] #[.int .i64 (v1 - 1), .int .i64 v2, .slice A9 p3.length c9] rfl rfl ?hx ?hy ?hg rfl ?hi ?h1 ?_); (case hg => exact HF2.out.res); (case hx => rfl); (case hy => rfl); (case hi => exact info62S); (case h1 => exact cell3_one (⟨v1 - 1, v2, p3⟩, A9, c9)); intro w7 q1 q2 q3 q4; have HR7 := Aside0.mk q1; have HB7 := Aside0.mk (q3 _ _ HB2.out (by omega)); have HK7 := Aside0.mk q2; clear q1 q2 q3 q4)
      | go_values | go_guarded | go_step | go_upon | go_back)
    have hO7 : Kd.R (Kd.int .u8) 5 w7 w.heap.size (fun _ => True) (.slice A9 p3.length c9) p3 := Kd.R_lower (Kd.R_mono (Kd.R_step (Kd.R_bound HOb.out) (fun k hk _ => HK7.out k (fun e => by have := hk.2.1; clear hw1 hw1' hw2 hw2' hw3 hw3' hwq hwq'; omega))) (fun _ _ => trivial)) (by clear hw1 hw1' hw2 hw2' hw3 hw3' hwq hwq'; omega)
    exact bodyPost_ret (results_list (rs := [.cell 4 62, .tmp 5, .tmp 6]) rfl (by simp) (.cell (w.heap.size + 1) _ _ (0, 0) _ rfl HR7.out Try.underlying62 rfl info62S (.tmp (.tmp .nil)))) rfl ⟨_, rfl, hO7, HB7.out⟩
/-- The document's Read of a slot, at every level and slot. -/
theorem refSl_all (l0 l1 l2 l3 : Int) (s : List Int) (hb : Bytes s) (w3 : (Lit.int .i64 l3).wf = true) : RefSl l0 l1 l2 l3 s (readS l0 l1 l2 l3 s).1 (readS l0 l1 l2 l3 s).2.1 (readS l0 l1 l2 l3 s).2.2.1 (readS l0 l1 l2 l3 s).2.2.2.1 (readS l0 l1 l2 l3 s).2.2.2.2 := by
  have hm := manyS_eq l0 l1 l2 l3 w3
  by_cases hl : levelOk l0 l1 l2 l3
  · have hl' := hl
    unfold levelOk at hl'
    obtain ⟨h0, h1, h2, h3, h4, h5, h6, h7, h8⟩ := hl'
    clear h6 h7 h8
    obtain ⟨q, hq⟩ := Int.eq_ofNat_of_zero_le (show 0 ≤ 8 + l1 by omega)
    have hqn : (8 + l1).toNat = q := by omega
    by_cases hn : (s.length : Int) = 8 + l1
    · have hz0 : Bytes (List.replicate q (0 : Int)) := fun x hx => by rw [List.eq_of_mem_replicate hx]; decide
      have hs := same_bytes hb hz0
      by_cases hz : s = List.replicate q 0
      · have hr : readS l0 l1 l2 l3 s = (0, 0, [], false, 0) := by
          unfold readS
          rw [if_pos hl, if_pos hn, if_pos (by rw [hqn]; exact hz)]
        rw [hr]
        rw [decide_eq_true hz] at hs
        exact refSl_zero l0 l1 l2 l3 _ q s hm (manyS_pos hl) hq (by omega) (by omega) hs
      · have e1 : (s.take 4).length = 4 := by rw [List.length_take]; omega
        have e2 : ((s.drop 4).take 4).length = 4 := by rw [List.length_take, List.length_drop]; omega
        have hmy := refMay_eq (a0 := l0) (a1 := l1) (a2 := l2) (a3 := l3) (id := val (s.take 4) - 1) (leaf := val ((s.drop 4).take 4)) (s.drop 8) h0
        rw [decide_eq_false hz] at hs
        have hmore := refSl_more l0 l1 l2 l3 _ q s _ _ _ hm (manyS_pos hl) hq (by omega) (by omega) (by omega) hs (number_eq (s.take 4) (hb.take 4) e1) (number_eq ((s.drop 4).take 4) ((hb.drop 4).take 4) e2) (val_four e1 (hb.take 4)) (val_four e2 ((hb.drop 4).take 4)) hmy
        by_cases hmm : mayS l0 l1 l2 (val (s.take 4) - 1) (val ((s.drop 4).take 4)) (s.drop 8).length
        · have hr : readS l0 l1 l2 l3 s = (val (s.take 4) - 1, val ((s.drop 4).take 4), s.drop 8, true, 0) := by
            unfold readS
            rw [if_pos hl, if_pos hn, if_neg (by rw [hqn]; exact hz), if_pos hmm]
          rw [hr]
          rw [decide_eq_true hmm] at hmore
          exact hmore
        · have hr : readS l0 l1 l2 l3 s = (0, 0, [], false, 8) := by
            unfold readS
            rw [if_pos hl, if_pos hn, if_neg (by rw [hqn]; exact hz), if_neg hmm]
          rw [hr]
          rw [decide_eq_false hmm] at hmore
          exact hmore
    · have hr : readS l0 l1 l2 l3 s = (0, 0, [], false, 10) := by
        unfold readS
        rw [if_pos hl, if_neg hn]
      rw [hr]
      exact refSl_short l0 l1 l2 l3 _ q s hm (manyS_pos hl) hq (by omega) (by omega)
  · have hr : readS l0 l1 l2 l3 s = (0, 0, [], false, 8) := by
      unfold readS
      rw [if_neg hl]
    rw [hr]
    exact refSl_bad l0 l1 l2 l3 _ s hm (manyS_zero hl)
end Go.Proofs.Ytknmokpnkcckeaa
