/-
chacha.Undo: what the call computes, as plain Lean, and that the call does so.
-/
import Derived.Test.YteichdiioidlcaaHandHalf
import Derived.Sort.CutIn
namespace Go.Proofs.Yteichdiioidlcaa
open Go.RowKit Go.Shelf Go.Proofs.YteichdiioidlcaaW.PrintWords Go.Proofs.YteichdiioidlcaaW.PrintLast Go.Proofs.YteichdiioidlcaaW.PrintMore
set_option linter.unusedVariables false
set_option linter.unusedSimpArgs false
attribute [local go_sem] Oper.semAt_some

set_option maxHeartbeats 4000000 in
set_option maxRecDepth 100000 in
theorem undo_in (q0 : Four) (w : World) (hq : q0.U) :
    CallsIn Fence.wide 6 Try.prog 15 #[.agg q0.cells] w fun e w' => e = .returned (.agg (undoR q0).cells) ∧ Below w.heap.size w w' := by
  have HQ := Aside1.mk hq
  clear hq
  refine callsIn_of_wp_marks Try.func15 rfl trivial ?_
  simp only [Try.ntmps15, List.size_toArray, List.length_cons, List.length_nil, Nat.reduceAdd, Nat.reduceSub, Array.replicate_succ, Array.replicate_zero, List.push_toArray, List.append_toArray, List.nil_append, List.cons_append]
  gi_wp2_with (refine ⟨trivial, ?_⟩; gi_at_call 28; refine (rolls_in _ _ _).mono ?_; rintro e w2 ⟨rfl, rfl⟩)
  generalize hW0 : ((w.alloc (.cells q0.cells 30)).alloc (.cells #[.int .u32 0, .int .u32 0, .int .u32 0, .int .u32 0] 30)).alloc (.cells #[.bool true] 4) = W0
  obtain ⟨hsz, hB0, hq0, hr0, hb0⟩ := quarter_start w _ _ _ W0 hW0
  have HD := Aside1.mk (rolls_stops 5 (by omega) (w.heap.size + 1 + 1) w.heap.size true W0 hb0 (by omega) (by omega))
  clear hb0
  have HSZ := Aside1.mk hsz
  refine wpIn_rangeFunc_ownG rfl (by omega) (gf := 37) (lb := #[.pointer (some ⟨w.heap.size + 1 + 1, 0, none⟩)]) rfl trivial (enters_of Try.func37 (by kernel_rfl) rfl)
    HD.out KeepC.trans KeepC.put (Below.refl _ _) (fun _ => rfl)
    (fun (pre : List Roll) W => W.heap[w.heap.size]? = some (.cells (runB q0 pre).cells 30 (0, 0)) ∧ W.heap[w.heap.size + 1]? = some (.cells #[.int .u32 0, .int .u32 0, .int .u32 0, .int .u32 0] 30 (0, 0)) ∧ Below w.heap.size w W)
    (fun _ _ _ => False)
    (OwnFrom.and (own_blk (by omega)) (OwnFrom.and (own_blk (by omega)) (ownFrom_below (Nat.le_refl _) (by omega))))
    (fun _ _ _ _ _ hs _ _ => hs)
    ⟨hq0, hr0, hB0⟩
    (fun x => { tmps := #[.agg q0.cells, .pointer (some ⟨w.heap.size, 0, none⟩), .pointer (some ⟨w.heap.size + 1, 0, none⟩), .int .i64 x.1.1, .bool x.1.2, .func (.func 37) #[] #[.pointer (some ⟨w.heap.size + 1 + 1, 0, none⟩)], .int .i64 x.1.1, .bool x.1.2, undef, undef, undef, undef, undef, undef, undef, undef, undef, undef, undef, undef, undef, undef, undef, undef, undef, undef, undef, undef, undef, undef, undef, undef, undef, undef, undef, undef, undef, undef, undef, undef], defers := [] }) ?assign ?body ?done ?stop
  case assign =>
    intro l x W K hK
    gi_wp2
    exact hK
  case body =>
    rintro l pre ⟨⟨n, f⟩, hx⟩ W ⟨h0, h1, hB⟩ hlt
    have hU := runB_U HQ.out pre
    have hrun := runB_snoc q0 pre ⟨(n, f), hx⟩
    generalize runB q0 pre = q at *
    obtain ⟨a, b, c, d⟩ := q
    obtain ⟨⟨a0, a1⟩, ⟨b0, b1⟩, ⟨c0, c1⟩, d0, d1⟩ := hU
    have HRun := Aside1.mk hrun
    have HH0 := Aside1.mk h0
    have HH1 := Aside1.mk h1
    have HBW := Aside1.mk hB
    have g0 := blk_cell h0 0
    have g1 := blk_cell h0 1
    have g2 := blk_cell h0 2
    have g3 := blk_cell h0 3
    have k0 := blk_frozen h0 0
    have k1 := blk_frozen h0 1
    have k2 := blk_frozen h0 2
    have k3 := blk_frozen h0 3
    dsimp only at a0 a1 b0 b1 c0 c1 d0 d1 g0 g1 g2 g3
    have hn1 : 1 ≤ 6 - 1 - 1 := by omega
    clear h0 h1 hB hrun hlt HQ HD
    have HX := Aside1.mk (show n = 16 ∨ n = 12 ∨ n = 8 ∨ n = 7 from hx)
    have e1 : W.heap.size = W.heap.size := rfl
    have hn0 : 0 ≤ n := by omega
    have hn2 : n ≤ 16 := by omega
    cases f
    · have hh : halfB ⟨(n, false), hx⟩ ⟨a, b, c, d⟩ = ⟨a, Go.bits .xor .u32 (rotL b (32 - n.toNat)) c, (c - d) % 4294967296, d⟩ := rfl
      have HH := Aside1.mk hh
      clear hh e1
      gi_upto_region 7 with (fail)
      refine wpIn_mono (Q := fun e a' w' => e = .normal ∧ a' = { tmps := #[.agg q0.cells, .pointer (some ⟨w.heap.size, 0, none⟩), .pointer (some ⟨w.heap.size + 1, 0, none⟩), .int .i64 n, .bool false, .func (.func 37) #[] #[.pointer (some ⟨w.heap.size + 1 + 1, 0, none⟩)], .int .i64 n, .bool false, .bool false, undef, undef, undef, undef, undef, undef, undef, undef, undef, undef, undef, undef, undef, undef, undef, .pointer (some ⟨w.heap.size, 1, none⟩), .int .u32 b, .int .i64 n, .int .i64 (IntKind.i64.wrap (-n)), .int .u32 (rotL b (32 - n.toNat)), .pointer (some ⟨w.heap.size, 2, none⟩), .int .u32 c, .int .u32 (Go.bits .xor .u32 (rotL b (32 - n.toNat)) c), .pointer (some ⟨w.heap.size, 1, none⟩), undef, undef, undef, undef, undef, undef, undef], defers := [] } ∧ w' = (W.setCell ⟨w.heap.size, 1, none⟩ (.int .u32 (Go.bits .xor .u32 (rotL b (32 - n.toNat)) c))).drew) ?reg ?cont
      case reg =>
        gi_region_with (refine ⟨trivial, ?_⟩; gi_at_call 29; refine (CallsIn.inRound l (callsIn_wide.2 (backW _ _ _ HX.out (And.intro b0 b1)))).mono ?_; rintro e w' ⟨rfl, rfl⟩)
        all_goals exact ⟨rfl, rfl, rfl⟩
      rintro _ _ _ ⟨rfl, rfl, rfl⟩
      gi_wp2
      exact ⟨(((KeepsOthers.setCell _ _ _).trans (KeepsOthers.setCell _ _ _)).trans (KeepsOthers.drew _)).from _, (KeepC.set _ _ _).trans (KeepC.set _ _ _), by rw [HRun.out, HH.out]; exact blk_drew (by simpa using blk_set (blk_set HH0.out 1 (.int .u32 (Go.bits .xor .u32 (rotL b (32 - n.toNat)) c))) 2 (.int .u32 ((c - d) % 4294967296))), blk_far (blk_far HH1.out (by simp) _) (by simp) _, below_drew ((HBW.out.setCell (p := ⟨w.heap.size, 1, none⟩) (by simp) _).setCell (p := ⟨w.heap.size, 2, none⟩) (by simp) _)⟩
    · have hh : halfB ⟨(n, true), hx⟩ ⟨a, b, c, d⟩ = ⟨(a - b) % 4294967296, b, c, Go.bits .xor .u32 (rotL d (32 - n.toNat)) a⟩ := rfl
      have HH := Aside1.mk hh
      clear hh e1
      gi_upto_region 5 with (fail)
      refine wpIn_mono (Q := fun e a' w' => e = .normal ∧ a' = { tmps := #[.agg q0.cells, .pointer (some ⟨w.heap.size, 0, none⟩), .pointer (some ⟨w.heap.size + 1, 0, none⟩), .int .i64 n, .bool true, .func (.func 37) #[] #[.pointer (some ⟨w.heap.size + 1 + 1, 0, none⟩)], .int .i64 n, .bool true, .bool true, .pointer (some ⟨w.heap.size, 3, none⟩), .int .u32 d, .int .i64 n, .int .i64 (IntKind.i64.wrap (-n)), .int .u32 (rotL d (32 - n.toNat)), .pointer (some ⟨w.heap.size, 0, none⟩), .int .u32 a, .int .u32 (Go.bits .xor .u32 (rotL d (32 - n.toNat)) a), .pointer (some ⟨w.heap.size, 3, none⟩), undef, undef, undef, undef, undef, undef, undef, undef, undef, undef, undef, undef, undef, undef, undef, undef, undef, undef, undef, undef, undef, undef], defers := [] } ∧ w' = (W.setCell ⟨w.heap.size, 3, none⟩ (.int .u32 (Go.bits .xor .u32 (rotL d (32 - n.toNat)) a))).drew) ?reg2 ?cont2
      case reg2 =>
        gi_region_with (refine ⟨trivial, ?_⟩; gi_at_call 29; refine (CallsIn.inRound l (callsIn_wide.2 (backW _ _ _ HX.out (And.intro d0 d1)))).mono ?_; rintro e w' ⟨rfl, rfl⟩)
        all_goals exact ⟨rfl, rfl, rfl⟩
      rintro _ _ _ ⟨rfl, rfl, rfl⟩
      gi_wp2
      exact ⟨(((KeepsOthers.setCell _ _ _).trans (KeepsOthers.setCell _ _ _)).trans (KeepsOthers.drew _)).from _, (KeepC.set _ _ _).trans (KeepC.set _ _ _), by rw [HRun.out, HH.out]; exact blk_drew (by simpa using blk_set (blk_set HH0.out 3 (.int .u32 (Go.bits .xor .u32 (rotL d (32 - n.toNat)) a))) 0 (.int .u32 ((a - b) % 4294967296))), blk_far (blk_far HH1.out (by simp) _) (by simp) _, below_drew ((HBW.out.setCell (p := ⟨w.heap.size, 3, none⟩) (by simp) _).setCell (p := ⟨w.heap.size, 0, none⟩) (by simp) _)⟩
  case done =>
    rintro D ys W hD rfl ⟨h0, h1, hB⟩ hK
    have HH0 := Aside1.mk h0
    have HH1 := Aside1.mk h1
    have HBW := Aside1.mk hB
    have hrr : undoR q0 = runB q0 (upto (rollOf true) 4) := rfl
    rw [← hrr] at h0
    obtain ⟨⟨a, b, c, d⟩, hqq⟩ : ∃ q, undoR q0 = q := ⟨_, rfl⟩
    rw [hqq] at h0
    have HQQ := Aside1.mk hqq
    have g0 := blk_cell h0 0
    have g1 := blk_cell h0 1
    have g2 := blk_cell h0 2
    have g3 := blk_cell h0 3
    have i0 := blk_cell h1 0
    have i1 := blk_cell h1 1
    have i2 := blk_cell h1 2
    have i3 := blk_cell h1 3
    have k0 := blk_frozen h1 0
    have k1 := blk_frozen h1 1
    have k2 := blk_frozen h1 2
    have k3 := blk_frozen h1 3
    clear h0 h1 hB hrr HQ HD hqq
    gi_wp2
    generalize hW4 : (((W.setCell ⟨w.heap.size + 1, 0, none⟩ (.int .u32 a)).setCell ⟨w.heap.size + 1, 1, none⟩ (.int .u32 b)).setCell ⟨w.heap.size + 1, 2, none⟩ (.int .u32 c)).setCell ⟨w.heap.size + 1, 3, none⟩ (.int .u32 d) = W4
    obtain ⟨hh4, hb4, hk4⟩ := put4_all HH1.out HBW.out (by omega) _ _ _ _ D _ hK W4 hW4
    have hh5 := KeepC.put (q := w.heap.size) (n := 0) W4 D _ (.deferred none) (Nat.zero_le _) hk4 rfl rfl _ _ _ _ (by omega) hh4
    have j0 := blk_cell hh5 0
    have j1 := blk_cell hh5 1
    have j2 := blk_cell hh5 2
    have j3 := blk_cell hh5 3
    refine ⟨by simp, .inl ⟨_, _, rfl, run_takeDeferred hk4, ?_⟩⟩
    refine ⟨.agg #[.int .u32 a, .int .u32 b, .int .u32 c, .int .u32 d], by simp [results, Try.results15, go_sem, j0, j1, j2, j3], by rw [HQQ.out], ?_⟩
    exact hb4.trans (belowK_b (w := w) (Nat.le_refl _) _ D _ _ (by omega) hk4 rfl rfl)
  case stop =>
    rintro D c pre W _ _ h _
    exact h.elim
end Go.Proofs.Yteichdiioidlcaa
