/-
chacha.Quarter, chacha.Undo: what the calls compute, as plain Lean, and that the calls do so.
-/
import Derived.Test.YteichdiioidlcaaHandRolls
import Derived.Test.YteichdiioidlcaaHandRot
namespace Go.Proofs.Yteichdiioidlcaa
open Go.RowKit Go.Shelf Go.Proofs.YteichdiioidlcaaW.PrintWords Go.Proofs.YteichdiioidlcaaW.PrintLast Go.Proofs.YteichdiioidlcaaW.PrintMore
set_option linter.unusedVariables false
set_option linter.unusedSimpArgs false
attribute [local go_sem] Oper.semAt_some

/-- Four words. -/
structure Four where
  a : Int
  b : Int
  c : Int
  d : Int
def Four.U (q : Four) : Prop := U32 q.a ∧ U32 q.b ∧ U32 q.c ∧ U32 q.d
abbrev Four.cells (q : Four) : Array Value := #[.int .u32 q.a, .int .u32 q.b, .int .u32 q.c, .int .u32 q.d]
/-- One half of a quarter round. -/
def halfQ (x : Roll) (q : Four) : Four :=
  if x.1.2 then ⟨(q.a + q.b) % 4294967296, q.b, q.c, rotL (Go.bits .xor .u32 q.d ((q.a + q.b) % 4294967296)) x.1.1.toNat⟩
  else ⟨q.a, rotL (Go.bits .xor .u32 q.b ((q.c + q.d) % 4294967296)) x.1.1.toNat, (q.c + q.d) % 4294967296, q.d⟩
theorem mod_u32 (x : Int) : U32 (x % 4294967296) := by unfold U32; omega
theorem halfQ_U (x : Roll) {q : Four} (h : q.U) : (halfQ x q).U := by
  unfold halfQ
  split
  · exact ⟨mod_u32 _, h.2.1, h.2.2.1, rotL_u32 _ _⟩
  · exact ⟨h.1, rotL_u32 _ _, mod_u32 _, h.2.2.2⟩
def runQ (q : Four) (pre : List Roll) : Four := pre.foldl (fun q x => halfQ x q) q
theorem runQ_snoc (q : Four) (pre : List Roll) (x : Roll) : runQ q (pre ++ [x]) = halfQ x (runQ q pre) := by simp [runQ]
theorem runQ_U {q : Four} (h : q.U) (pre : List Roll) : (runQ q pre).U := by
  induction pre generalizing q with
  | nil => exact h
  | cons x t ih => exact ih (halfQ_U x h)
def quarterR (q : Four) : Four := runQ q (upto (rollOf false) 4)

theorem own_blk {β : Type} {n g : Nat} {o : β → Obj} (hg : g < n) : OwnFrom n (fun (s : β) (W : World) => W.heap[g]? = some (o s)) := fun s A B row hs hgr hr =>
  blk_grown hs hgr (fun e => by have := (hr g e.symm).1; omega)

theorem quarter_start (w : World) (o1 o2 o3 : Obj) (W0 : World) (h : ((w.alloc o1).alloc o2).alloc o3 = W0) : W0.heap.size = w.heap.size + 3 ∧ Below w.heap.size w W0 ∧ W0.heap[w.heap.size]? = some o1 ∧ W0.heap[w.heap.size + 1]? = some o2 ∧ W0.heap[w.heap.size + 1 + 1]? = some o3 := by
  subst h
  have h1 := blk_new w o1
  have h2 := blk_new (w.alloc o1) o2
  have h3 := blk_new ((w.alloc o1).alloc o2) o3
  rw [World.size_alloc] at h2
  rw [World.size_alloc, World.size_alloc] at h3
  exact ⟨by simp, below_alloc (below_alloc (below_alloc (Below.refl _ _) _) _) _, blk_alloc (blk_alloc h1 _) _, blk_alloc h2 _, h3⟩

/-- Four cells of an own block written over. -/
theorem put4_all {w W : World} {b t : Nat} {x y z u : Value} (h : W.heap[b]? = some (.cells #[x, y, z, u] t (0, 0))) (hb : Below w.heap.size w W) (hle : w.heap.size ≤ b) (x' y' z' u' : Value) (D : Nat) (o : Option (List Deferred)) (hD : W.heap[D]? = some (.deferred o)) (W4 : World)
    (hW4 : (((W.setCell ⟨b, 0, none⟩ x').setCell ⟨b, 1, none⟩ y').setCell ⟨b, 2, none⟩ z').setCell ⟨b, 3, none⟩ u' = W4) :
    W4.heap[b]? = some (.cells #[x', y', z', u'] t (0, 0)) ∧ Below w.heap.size w W4 ∧ W4.heap[D]? = some (.deferred o) := by
  subst hW4
  have hne : D ≠ b := fun e => by subst e; rw [h] at hD; cases hD
  refine ⟨by simpa using blk_set (blk_set (blk_set (blk_set h 0 x') 1 y') 2 z') 3 u', below_set (below_set (below_set (below_set hb hle) hle) hle) hle, ?_⟩
  rw [Below.heap_setCell _ _ _ D (by exact hne), Below.heap_setCell _ _ _ D (by exact hne), Below.heap_setCell _ _ _ D (by exact hne), Below.heap_setCell _ _ _ D (by exact hne)]
  exact hD

set_option maxHeartbeats 4000000 in
set_option maxRecDepth 100000 in
theorem quarter_in (q0 : Four) (w : World) (hq : q0.U) :
    CallsIn Fence.wide 6 Try.prog 16 #[.agg q0.cells] w fun e w' => e = .returned (.agg (quarterR q0).cells) ∧ Below w.heap.size w w' := by
  have HQ := Aside1.mk hq
  clear hq
  refine callsIn_of_wp_marks Try.func16 rfl trivial ?_
  simp only [Try.ntmps16, List.size_toArray, List.length_cons, List.length_nil, Nat.reduceAdd, Nat.reduceSub, Array.replicate_succ, Array.replicate_zero, List.push_toArray, List.append_toArray, List.nil_append, List.cons_append]
  gi_wp2_with (refine ⟨trivial, ?_⟩; gi_at_call 28; refine (rolls_in _ _ _).mono ?_; rintro e w2 ⟨rfl, rfl⟩)
  generalize hW0 : ((w.alloc (.cells q0.cells 30)).alloc (.cells #[.int .u32 0, .int .u32 0, .int .u32 0, .int .u32 0] 30)).alloc (.cells #[.bool false] 4) = W0
  obtain ⟨hsz, hB0, hq0, hr0, hb0⟩ := quarter_start w _ _ _ W0 hW0
  have HD := Aside1.mk (rolls_stops 5 (by omega) (w.heap.size + 1 + 1) w.heap.size false W0 hb0 (by omega) (by omega))
  clear hb0
  have HSZ := Aside1.mk hsz
  refine wpIn_rangeFunc_ownG rfl (by omega) (gf := 37) (lb := #[.pointer (some ⟨w.heap.size + 1 + 1, 0, none⟩)]) rfl trivial (enters_of Try.func37 (by kernel_rfl) rfl)
    HD.out KeepC.trans KeepC.put (Below.refl _ _) (fun _ => rfl)
    (fun (pre : List Roll) W => W.heap[w.heap.size]? = some (.cells (runQ q0 pre).cells 30 (0, 0)) ∧ W.heap[w.heap.size + 1]? = some (.cells #[.int .u32 0, .int .u32 0, .int .u32 0, .int .u32 0] 30 (0, 0)) ∧ Below w.heap.size w W)
    (fun _ _ _ => False)
    (OwnFrom.and (own_blk (by omega)) (OwnFrom.and (own_blk (by omega)) (ownFrom_below (Nat.le_refl _) (by omega))))
    (fun _ _ _ _ _ hs _ _ => hs)
    ⟨hq0, hr0, hB0⟩
    (fun x => { tmps := #[.agg q0.cells, .pointer (some ⟨w.heap.size, 0, none⟩), .pointer (some ⟨w.heap.size + 1, 0, none⟩), .int .i64 x.1.1, .bool x.1.2, .func (.func 37) #[] #[.pointer (some ⟨w.heap.size + 1 + 1, 0, none⟩)], .int .i64 x.1.1, .bool x.1.2, undef, undef, undef, undef, undef, undef, undef, undef, undef, undef, undef, undef, undef, undef, undef, undef, undef, undef, undef, undef, undef, undef, undef, undef, undef, undef, undef, undef, undef, undef], defers := [] }) ?assign ?body ?done ?stop
  case assign =>
    intro l x W K hK
    gi_wp2
    exact hK
  case body =>
    rintro l pre ⟨⟨n, f⟩, hx⟩ W ⟨h0, h1, hB⟩ hlt
    have hU := runQ_U HQ.out pre
    have hrun := runQ_snoc q0 pre ⟨(n, f), hx⟩
    generalize runQ q0 pre = q at *
    obtain ⟨a, b, c, d⟩ := q
    obtain ⟨⟨a0, a1⟩, ⟨b0, b1⟩, ⟨c0, c1⟩, d0, d1⟩ := hU
    have HRun := Aside1.mk hrun
    have HH0 := Aside1.mk h0
    have HH1 := Aside1.mk h1
    have HBW := Aside1.mk hB
    have g0 := blk_cell h0 0
    have g1 := blk_cell h0 1
    have g2 := blk_cell h0 2
    have g3 := blk_cell h0 3
    have k0 := blk_frozen h0 0
    have k1 := blk_frozen h0 1
    have k2 := blk_frozen h0 2
    have k3 := blk_frozen h0 3
    dsimp only at a0 a1 b0 b1 c0 c1 d0 d1 g0 g1 g2 g3
    have hn1 : 1 ≤ 6 - 1 - 1 := by omega
    clear h0 h1 hB hrun hlt HQ HD
    have HX := Aside1.mk (show n = 16 ∨ n = 12 ∨ n = 8 ∨ n = 7 from hx)
    have e1 : W.heap.size = W.heap.size := rfl
    cases f
    · have hh : halfQ ⟨(n, false), hx⟩ ⟨a, b, c, d⟩ = ⟨a, rotL (Go.bits .xor .u32 b ((c + d) % 4294967296)) n.toNat, (c + d) % 4294967296, d⟩ := rfl
      have HH := Aside1.mk hh
      clear hh e1
      gi_wp2_with (refine ⟨trivial, ?_⟩; gi_at_call 29; refine (CallsIn.inRound l (callsIn_wide.2 (rotAny _ _ _ HX.out (bits_u32 _ _ _)))).mono ?_; rintro e w' ⟨rfl, rfl⟩)
      exact ⟨((KeepsOthers.setCell _ _ _).trans (KeepsOthers.setCell _ _ _)).from _, (KeepC.set _ _ _).trans (KeepC.set _ _ _), by rw [HRun.out, HH.out]; simpa using blk_set (blk_set HH0.out 2 (.int .u32 ((c + d) % 4294967296))) 1 (.int .u32 (rotL (Go.bits .xor .u32 b ((c + d) % 4294967296)) n.toNat)), blk_far (blk_far HH1.out (by simp) _) (by simp) _, (HBW.out.setCell (p := ⟨w.heap.size, 2, none⟩) (by simp) _).setCell (p := ⟨w.heap.size, 1, none⟩) (by simp) _⟩
    · have hh : halfQ ⟨(n, true), hx⟩ ⟨a, b, c, d⟩ = ⟨(a + b) % 4294967296, b, c, rotL (Go.bits .xor .u32 d ((a + b) % 4294967296)) n.toNat⟩ := rfl
      have HH := Aside1.mk hh
      clear hh e1
      gi_wp2_with (refine ⟨trivial, ?_⟩; gi_at_call 29; refine (CallsIn.inRound l (callsIn_wide.2 (rotAny _ _ _ HX.out (bits_u32 _ _ _)))).mono ?_; rintro e w' ⟨rfl, rfl⟩)
      exact ⟨((KeepsOthers.setCell _ _ _).trans (KeepsOthers.setCell _ _ _)).from _, (KeepC.set _ _ _).trans (KeepC.set _ _ _), by rw [HRun.out, HH.out]; simpa using blk_set (blk_set HH0.out 0 (.int .u32 ((a + b) % 4294967296))) 3 (.int .u32 (rotL (Go.bits .xor .u32 d ((a + b) % 4294967296)) n.toNat)), blk_far (blk_far HH1.out (by simp) _) (by simp) _, (HBW.out.setCell (p := ⟨w.heap.size, 0, none⟩) (by simp) _).setCell (p := ⟨w.heap.size, 3, none⟩) (by simp) _⟩
  case done =>
    rintro D ys W hD rfl ⟨h0, h1, hB⟩ hK
    have HH0 := Aside1.mk h0
    have HH1 := Aside1.mk h1
    have HBW := Aside1.mk hB
    have hrr : quarterR q0 = runQ q0 (upto (rollOf false) 4) := rfl
    rw [← hrr] at h0
    obtain ⟨⟨a, b, c, d⟩, hqq⟩ : ∃ q, quarterR q0 = q := ⟨_, rfl⟩
    rw [hqq] at h0
    have HQQ := Aside1.mk hqq
    have g0 := blk_cell h0 0
    have g1 := blk_cell h0 1
    have g2 := blk_cell h0 2
    have g3 := blk_cell h0 3
    have i0 := blk_cell h1 0
    have i1 := blk_cell h1 1
    have i2 := blk_cell h1 2
    have i3 := blk_cell h1 3
    have k0 := blk_frozen h1 0
    have k1 := blk_frozen h1 1
    have k2 := blk_frozen h1 2
    have k3 := blk_frozen h1 3
    clear h0 h1 hB hrr HQ HD hqq
    gi_wp2
    generalize hW4 : (((W.setCell ⟨w.heap.size + 1, 0, none⟩ (.int .u32 a)).setCell ⟨w.heap.size + 1, 1, none⟩ (.int .u32 b)).setCell ⟨w.heap.size + 1, 2, none⟩ (.int .u32 c)).setCell ⟨w.heap.size + 1, 3, none⟩ (.int .u32 d) = W4
    obtain ⟨hh4, hb4, hk4⟩ := put4_all HH1.out HBW.out (by omega) _ _ _ _ D _ hK W4 hW4
    have hh5 := KeepC.put (q := w.heap.size) (n := 0) W4 D _ (.deferred none) (Nat.zero_le _) hk4 rfl rfl _ _ _ _ (by omega) hh4
    have j0 := blk_cell hh5 0
    have j1 := blk_cell hh5 1
    have j2 := blk_cell hh5 2
    have j3 := blk_cell hh5 3
    refine ⟨by simp, .inl ⟨_, _, rfl, run_takeDeferred hk4, ?_⟩⟩
    refine ⟨.agg #[.int .u32 a, .int .u32 b, .int .u32 c, .int .u32 d], by simp [results, Try.results16, go_sem, j0, j1, j2, j3], by rw [HQQ.out], ?_⟩
    exact hb4.trans (belowK_b (w := w) (Nat.le_refl _) _ D _ _ (by omega) hk4 rfl rfl)
  case stop =>
    rintro D c pre W _ _ h _
    exact h.elim
end Go.Proofs.Yteichdiioidlcaa
