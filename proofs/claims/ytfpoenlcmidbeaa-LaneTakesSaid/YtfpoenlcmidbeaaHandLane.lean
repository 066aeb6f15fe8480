/-
lane.Two (with lane.Check, lane.Left, (*lane.reader).two, slices.Clone of words): what the call computes, as plain Lean, and that the call does so.
-/
import Derived.Test.YtfpoenlcmidbeaaProg
import Derived.Test.YtfpoenlcmidbeaaHandWords
import Derived.Lib.SliceRun
import Derived.BigRegion
import Derived.Deep.RegionHeld3
namespace Go.Proofs.Ytfpoenlcmidbeaa
open Go.RowKit Go.Proofs.YtfpoenlcmidbeaaW.PrintWords Go.Proofs.YtfpoenlcmidbeaaW.PrintLast Go.Proofs.YtfpoenlcmidbeaaW.PrintMore
set_option linter.unusedVariables false
set_option linter.unusedSimpArgs false

/-! ### slices.Clone of words -/
def clone32.f (l : List Int) : Option (List Int) := if l.length ≤ 35184372088831 then some l else none
theorem info26 : (Try.prog.info? 26).map (fun i => (i.zero, i.size, i.bytes)) = some (some (.int .u32 0), 1, 4) := by kernel_rfl

theorem ownsRow_empty (W : World) (e : TypeId) (base : Nat) (hb : base ≤ W.heap.size) (ok : Nat → Prop) (hok : ok W.heap.size) (d : Kd Int) : d.R e (W.alloc (.cells #[] e)) base ok (.slice (some ⟨W.heap.size, 0, none⟩) 0 0) [] := by
  refine ⟨fun k hk => ?_, [], ⟨by simp, .inr ⟨W.heap.size, 0, #[], rfl, hb, heap_alloc_new W _, Nat.le_refl _, by simp only [maxLen]; omega, by simp, by simp⟩⟩, Reps.none _ _⟩
  have : W.heap.size = k := by simpa [Value.ownBlock] using hk
  subst this
  exact hok

set_option maxHeartbeats 1000000 in
theorem clone32.calls (A0 : Option Addr) (c0 : Nat) (l0 : List Int) (r : List Int) (w : World) (hr0 : Kd.C (Kd.int .u32) w A0 l0.length l0) (hc0 : l0.length ≤ c0) (h : clone32.f l0 = some r) :
    Calls Try.prog 12 #[.slice A0 l0.length c0] w fun e w' => ∃ v0_ : Value, e = .returned v0_ ∧ Kd.R (Kd.int .u32) 26 w' w.heap.size (fun _ => True) v0_ r ∧ Below w.heap.size w w' := by
  have hh : l0.length ≤ 35184372088831 ∧ l0 = r := by
    unfold clone32.f at h
    split at h
    · exact ⟨by assumption, Option.some.inj h⟩
    · cases h
  clear h
  obtain ⟨hl, rfl⟩ := hh
  have HR0 := Aside0.mk hr0
  have HC0 := Aside0.mk hc0
  have HM := Aside0.mk hl
  have qT : ∀ (w : World) (a : Option Addr) (n c n' c' : Nat), (binOp .eql 22 (.slice a n c) (.slice none n' c')).run Try.prog w = .ok (.bool a.isNone) w := fun w a n c n' c' => Lib.run_eql_slice_nil w _ _ a n c n' c' Try.underlying22
  cases A0 with
  | none =>
    have he : l0 = [] := by
      rcases Nat.eq_zero_or_pos l0.length with h0 | h0
      · exact List.eq_nil_of_length_eq_zero h0
      · obtain ⟨ad, h1, _⟩ := hr0.2.2 h0
        cases h1
    clear hr0 hc0 hl
    subst he
    go_enter Try.func12, Try.ntmps12
    go_wp2
    go_ret
    exact ⟨_, rfl, Kd.R_nil _ _ _ _ _, Below.refl _ _⟩
  | some ad =>
    clear hr0 hc0 hl
    go_enter Try.func12, Try.ntmps12
    go_wp2_with (at_builtin; refine Kd.R_append_rows (Kd.int .u32) (w0 := w) w.heap.size rfl (.tmp 5) (.tmp 6) 22 26 (.int .u32 0) 4 rfl Try.underlying22 info26 rfl (by decide) (by omega) (.slice (some ⟨w.heap.size, 0, none⟩) 0 0) [] l0 _ _ _ (fun _ => True) (fun _ => False) rfl rfl ?aO ?aR (fun _ _ h => h) (fun _ h => h.elim) ?aF ?aB ?aS ?aL ?_; (case aO => exact ownsRow_empty w _ _ (Nat.le_refl _) _ trivial _); (case aR => exact Kd.C_alloc HR0.out _); (case aF => exact fun _ _ => trivial); (case aB => exact below_alloc (Below.refl _ _) _); (case aS => simp); (case aL => have := HM.out; simp; omega); intro v1 w1 hown hb hg hat; have HO := Aside0.mk hown; have HB := Aside0.mk hb; clear hown hb hg hat)
    go_ret
    exact ⟨_, rfl, HO.out, HB.out⟩

/-! ### lane.Check, lane.Left -/
/-- A lane that may be. -/
def LaneOk (m : Nat) (a : Int) : Prop := m ≤ 4096 ∧ 0 ≤ a ∧ a ≤ m
set_option maxHeartbeats 1000000 in
theorem check_bad (A : Option Addr) (m c : Nat) (a : Int) (w : World) (h : ¬ LaneOk m a) : Calls Try.prog 8 #[.agg #[.slice A m c, .int .i64 a]] w fun e w' => e = .returned (.int .i64 8) ∧ Below w.heap.size w w' := by
  have hb := Aside0.mk (below_alloc (Below.refl w.heap.size w) (.cells #[.slice A m c, .int .i64 a] 24))
  have hc : (4096 : Int) < (m : Int) ∨ (¬ (4096 : Int) < (m : Int) ∧ a < 0) ∨ (¬ (4096 : Int) < (m : Int) ∧ ¬ a < 0 ∧ (m : Int) < a) := by
    unfold LaneOk at h
    omega
  clear h
  rcases hc with h1 | ⟨h1, h2⟩ | ⟨h1, h2, h3⟩
  · go_enter Try.func8, Try.ntmps8
    go_wp2
    go_ret
    exact ⟨rfl, hb.out⟩
  · go_enter Try.func8, Try.ntmps8
    go_wp2
    go_ret
    exact ⟨rfl, hb.out⟩
  · go_enter Try.func8, Try.ntmps8
    go_wp2
    go_ret
    exact ⟨rfl, hb.out⟩
set_option maxHeartbeats 1000000 in
theorem check_good (A : Option Addr) (m c : Nat) (a : Int) (w : World) (h : LaneOk m a) : Calls Try.prog 8 #[.agg #[.slice A m c, .int .i64 a]] w fun e w' => e = .returned (.int .i64 0) ∧ Below w.heap.size w w' := by
  have hb := Aside0.mk (below_alloc (Below.refl w.heap.size w) (.cells #[.slice A m c, .int .i64 a] 24))
  have h1 : ¬ (4096 : Int) < (m : Int) := by unfold LaneOk at h; omega
  have h2 : ¬ a < 0 := by unfold LaneOk at h; omega
  have h3 : ¬ (m : Int) < a := by unfold LaneOk at h; omega
  clear h
  go_enter Try.func8, Try.ntmps8
  go_wp2
  go_ret
  exact ⟨rfl, hb.out⟩
set_option maxHeartbeats 1000000 in
theorem left_good (A : Option Addr) (m c : Nat) (a : Int) (w : World) (h : LaneOk m a) : Calls Try.prog 10 #[.agg #[.slice A m c, .int .i64 a]] w fun e w' => e = .returned (.int .i64 (m - a)) ∧ Below w.heap.size w w' := by
  have H := Aside0.mk h
  have h1 : -9223372036854775808 ≤ (m : Int) - a := by unfold LaneOk at h; omega
  have h2 : (m : Int) - a ≤ 9223372036854775807 := by unfold LaneOk at h; omega
  clear h
  go_enter Try.func10, Try.ntmps10
  repeat (first
    | (go_at_call 8; (with_reducible refine (check_good A m c a _ H.out).mono ?_); rintro e w2 ⟨rfl, hb⟩; have HB2 := Aside0.mk hb; have hx := blk_below (heap_alloc_new w (.cells #[.slice A m c, .int .i64 a] 24)) hb; have hc0 := blk_cell hx 0; have hc1 := blk_cell hx 1; clear hb hx; dsimp only)
    | go_values | go_guarded | go_step | go_upon | go_back)
  go_ret
  exact ⟨rfl, (below_alloc (Below.refl _ _) _).trans (HB2.out.mono (by simp))⟩

/-! ### (*lane.reader).two -/
theorem add_block (ad : Addr) (n : Nat) : (ad.add n).block = ad.block := by unfold Addr.add; split <;> rfl
theorem lane_pair (w : World) (a b : Obj) : ((w.alloc a).alloc b).heap[w.heap.size]? = some a ∧ ((w.alloc a).alloc b).heap[w.heap.size + 1]? = some b := by
  have h0 := heap_alloc_new w a
  have h1 := heap_alloc_new (w.alloc a) b
  rw [World.size_alloc] at h1
  exact ⟨blk_alloc h0 b, h1⟩
set_option maxHeartbeats 4000000 in
set_option maxRecDepth 100000 in
theorem two_calls (ad : Addr) (m c rb : Nat) (a x y : Int) (w : World) (hr : w.heap[rb]? = some (.cells #[.slice (some ad) m c, .int .i64 a] 39 (0, 0)))
    (h0 : 0 ≤ a) (h1 : a + 1 < m) (hm : (m : Int) ≤ 4096) (hx : w.cell? (ad.add a.toNat) = some (.int .u32 x)) (hy : w.cell? (ad.add (a.toNat + 1)) = some (.int .u32 y)) (hlt : ad.block < w.heap.size) (hne : ad.block ≠ rb) :
    Calls Try.prog 13 #[.pointer (some ⟨rb, 0, none⟩)] w fun e w' => e = .returned (.agg #[.int .u32 x, .int .u32 y]) ∧ w'.heap[rb]? = some (.cells #[.slice (some ad) m c, .int .i64 (a + 2)] 39 (0, 0)) ∧ (∀ B, B ≤ rb → B ≤ w.heap.size → Below B w w') := by
  have hmo : Try.prog.follows .mixedOrders = true := rfl
  have hr0 := blk_cell hr 0
  have hr1 := blk_cell hr 1
  have hf1 := blk_frozen hr 1
  have hrl := blk_lt hr
  have HR := Aside0.mk hr
  clear hr
  go_enter Try.func13, Try.ntmps13
  go_wp2
  obtain ⟨q1, q2⟩ := lane_pair w (.cells #[.int .u32 0, .int .u32 0] 41) (.cells #[.pointer (some ⟨w.heap.size, 0, none⟩), .pointer (some ⟨w.heap.size, 1, none⟩)] 43)
  have hbw : Below w.heap.size w ((w.alloc (.cells #[.int .u32 0, .int .u32 0] 41)).alloc (.cells #[.pointer (some ⟨w.heap.size, 0, none⟩), .pointer (some ⟨w.heap.size, 1, none⟩)] 43)) := below_alloc (below_alloc (Below.refl _ _) _) _
  generalize (w.alloc (.cells #[.int .u32 0, .int .u32 0] 41)).alloc (.cells #[.pointer (some ⟨w.heap.size, 0, none⟩), .pointer (some ⟨w.heap.size, 1, none⟩)] 43) = W at q1 q2 hbw ⊢
  have hx1 := pw_cell_below hbw hx
  have hy1 := pw_cell_below hbw hy
  have HR1 := blk_below HR.out hbw
  have gr0 := blk_cell HR1 0
  have gr1 := blk_cell HR1 1
  have gf1 := blk_frozen HR1 1
  have gp0 := blk_frozen q1 0
  have gp1 := blk_frozen q1 1
  have gc0 := blk_cell q1 0
  have gc1 := blk_cell q1 1
  have gs0 := blk_cell q2 0
  have gs1 := blk_cell q2 1
  have hn1 : rb ≠ w.heap.size := by omega
  have hn2 : w.heap.size ≠ rb := by omega
  have hn3 : ad.block ≠ w.heap.size := by omega
  have Q1 := Aside0.mk q1
  have Q2 := Aside0.mk q2
  have HR1' := Aside0.mk HR1
  have HBW := Aside0.mk hbw
  have ha : ((a.toNat : Nat) : Int) = a := by omega
  have hlt0 : a < (m : Int) := by omega
  have ha1 : a + 1 ≤ 9223372036854775807 := by omega
  have ha2 : a + 1 + 1 ≤ 9223372036854775807 := by omega
  have hz0 : (0 : Int) ≤ a + 1 := by omega
  have ht : (a + 1).toNat = a.toNat + 1 := by omega
  clear q1 q2 hbw HR1 hr0 hr1 hf1 hx hy
  refine wp_loop_rounds 3 ?_
  rw [rounds_succ]
  go_wp2
  go_region
  go_wp2
  have j1 := blk_drew (blk_far (blk_set Q1.out 0 (.int .u32 x)) (show w.heap.size ≠ (⟨rb, 1, none⟩ : Addr).block from hn2) (.int .i64 (a + 1)))
  have j2 := blk_drew (blk_set (blk_far HR1'.out (show rb ≠ (⟨w.heap.size, 0, none⟩ : Addr).block from hn1) (.int .u32 x)) 1 (.int .i64 (a + 1)))
  have j3 := blk_drew (blk_far (blk_far Q2.out (show w.heap.size + 1 ≠ (⟨w.heap.size, 0, none⟩ : Addr).block by simp) (.int .u32 x)) (show w.heap.size + 1 ≠ (⟨rb, 1, none⟩ : Addr).block by simp; omega) (.int .i64 (a + 1)))
  have j4 : ((W.setCell ⟨w.heap.size, 0, none⟩ (.int .u32 x)).setCell ⟨rb, 1, none⟩ (.int .i64 (a + 1))).drew.cell? (ad.add (a.toNat + 1)) = some (.int .u32 y) := by
    rw [← hy1]
    refine World.cell?_of_block (w := W) ?_
    rw [add_block]
    exact (Below.heap_setCell _ _ _ _ hne).trans (Below.heap_setCell _ _ _ _ hn3)
  have hbel : ∀ B, B ≤ rb → B ≤ w.heap.size → Below B w ((W.setCell ⟨w.heap.size, 0, none⟩ (.int .u32 x)).setCell ⟨rb, 1, none⟩ (.int .i64 (a + 1))).drew := fun B h1 h2 => below_drew (((HBW.out.mono h2).setCell (p := ⟨w.heap.size, 0, none⟩) h2 _).setCell (p := ⟨rb, 1, none⟩) h1 _)
  clear gr0 gr1 gf1 gp0 gp1 gc0 gc1 gs0 gs1 hx1 hy1 Q1 Q2 HR1' HBW
  generalize ((W.setCell ⟨w.heap.size, 0, none⟩ (.int .u32 x)).setCell ⟨rb, 1, none⟩ (.int .i64 (a + 1))).drew = W2 at j1 j2 j3 j4 hbel ⊢
  simp only [List.setIfInBounds_toArray, List.set_cons_zero, List.set_cons_succ] at j1 j2 j3
  have hadd : ad.add (a.toNat + 1) = ⟨ad.block, ad.off + (a.toNat + 1), none⟩ := by simp [Addr.add]
  rw [hadd] at j4
  have gr0 := blk_cell j2 0
  have gr1 := blk_cell j2 1
  have gf1 := blk_frozen j2 1
  have gp0 := blk_frozen j1 0
  have gp1 := blk_frozen j1 1
  have gc0 := blk_cell j1 0
  have gc1 := blk_cell j1 1
  have gs0 := blk_cell j3 0
  have gs1 := blk_cell j3 1
  have Q1 := Aside0.mk j1
  have HR1' := Aside0.mk j2
  have HBL := Aside0.mk hbel
  clear j1 j2 j3 hbel
  rw [rounds_succ]
  go_wp2
  go_region
  go_wp2
  have j1 := blk_drew (blk_far (blk_set Q1.out 1 (.int .u32 y)) (show w.heap.size ≠ (⟨rb, 1, none⟩ : Addr).block from hn2) (.int .i64 (a + 1 + 1)))
  have j2 := blk_drew (blk_set (blk_far HR1'.out (show rb ≠ (⟨w.heap.size, 1, none⟩ : Addr).block from hn1) (.int .u32 y)) 1 (.int .i64 (a + 1 + 1)))
  have hbel : ∀ B, B ≤ rb → B ≤ w.heap.size → Below B w ((W2.setCell ⟨w.heap.size, 1, none⟩ (.int .u32 y)).setCell ⟨rb, 1, none⟩ (.int .i64 (a + 1 + 1))).drew := fun B h1 h2 => below_drew (((HBL.out B h1 h2).setCell (p := ⟨w.heap.size, 1, none⟩) h2 _).setCell (p := ⟨rb, 1, none⟩) h1 _)
  clear gr0 gr1 gf1 gp0 gp1 gc0 gc1 gs0 gs1 j4 Q1 HR1' HBL
  generalize ((W2.setCell ⟨w.heap.size, 1, none⟩ (.int .u32 y)).setCell ⟨rb, 1, none⟩ (.int .i64 (a + 1 + 1))).drew = W3 at j1 j2 hbel ⊢
  simp only [List.setIfInBounds_toArray, List.set_cons_zero, List.set_cons_succ] at j1 j2
  have gp0 := blk_frozen j1 0
  have gp1 := blk_frozen j1 1
  have gc0 := blk_cell j1 0
  have gc1 := blk_cell j1 1
  have HR1' := Aside0.mk j2
  have HBL := Aside0.mk hbel
  clear j1 j2 hbel
  rw [rounds_succ]
  go_wp2
  refine bodyPost_ret (by simp [results, Try.results13, go_sem, gc0, gc1, gp0, gp1]) rfl ⟨rfl, ?_, fun B h1 h2 => ?_⟩
  · rw [show a + 2 = a + 1 + 1 by omega]
    exact blk_far (blk_far HR1'.out hn1 _) hn1 _
  · exact ((HBL.out B h1 h2).setCell (p := ⟨w.heap.size, 0, none⟩) h2 _).setCell (p := ⟨w.heap.size, 1, none⟩) h2 _

/-! ### lane.Two -/
theorem new_two (w : World) (o : Obj) : (w.alloc o).heap[w.heap.size]? = some o ∧ Below w.heap.size w (w.alloc o) := ⟨heap_alloc_new w o, below_alloc (Below.refl _ _) _⟩
set_option maxHeartbeats 4000000 in
set_option maxRecDepth 100000 in
theorem lane_two_good (A : Option Addr) (c : Nat) (l : List Int) (a : Int) (w : World) (hr : Kd.C (Kd.int .u32) w A l.length l) (hc : l.length ≤ c) (h : LaneOk l.length a) (h2 : a + 1 < l.length) :
    Calls Try.prog 5 #[.agg #[.slice A l.length c, .int .i64 a]] w fun e w' => ∃ v, e = .returned (.tuple #[.agg #[v, .int .i64 (a + 2)], .int .u32 (rd l a), .int .u32 (rd l (a + 1)), .int .i64 0]) ∧
      Kd.R (Kd.int .u32) 26 w' w.heap.size (fun _ => True) v l ∧ Below w.heap.size w w' := by
  have hmo : Try.prog.follows .mixedOrders = true := rfl
  have HR := Aside0.mk hr
  have HC := Aside0.mk hc
  have H := Aside0.mk h
  have H2 := Aside0.mk h2
  have hl2 : ¬ (l.length : Int) - a < 2 := by omega
  have HCL := Aside0.mk (show clone32.f l = some l by unfold clone32.f; rw [if_pos (by have := h.1; omega)])
  clear hr hc h h2
  go_enter Try.func5, Try.ntmps5
  repeat (first
    | (go_at_call 8; (with_reducible refine (check_good A l.length c a _ H.out).mono ?_); rintro e w2 ⟨rfl, hb⟩; have HB2 := Aside0.mk hb; obtain ⟨p1, p2⟩ := lane_pair w (.cells #[.slice A l.length c, .int .i64 a] 24) (.cells #[.slice none 0 0, .int .i64 0] 24); have P1 := Aside0.mk (blk_below p1 hb); have P2 := Aside0.mk (blk_below p2 hb); have hc0 := blk_cell P1.out 0; have hc1 := blk_cell P1.out 1; clear hb p1 p2; dsimp only)
    | (go_at_call 10; (with_reducible refine (left_good A l.length c a _ H.out).mono ?_); rintro e w3 ⟨rfl, hb⟩; have HB3 := Aside0.mk hb; have P1' := Aside0.mk (blk_below P1.out hb); have P2' := Aside0.mk (blk_below P2.out hb); clear hc0 hc1; have hc0 := blk_cell P1'.out 0; have hc1 := blk_cell P1'.out 1; clear hb; dsimp only)
    | go_values | go_guarded | go_step | go_upon | go_back)
  go_region_with (go_at_call 12; refine (clone32.calls A c l l _ (Kd.C_drew (Kd.C_below (Kd.C_below (Kd.C_alloc (Kd.C_alloc HR.out _) _) HB2.out) HB3.out)) HC.out HCL.out).mono ?_; rintro e w4 ⟨v, rfl, hv, hb⟩; obtain ⟨Av, cv, rfl⟩ := Kd.R_slice hv; have HV := Aside0.mk hv; have HB4 := Aside0.mk hb; have P1'' := Aside0.mk (blk_below (blk_drew P1'.out) hb); have P2'' := Aside0.mk (blk_below (blk_drew P2'.out) hb); clear hc0 hc1; have hc0 := blk_cell P1''.out 0; have hc1 := blk_cell P1''.out 1; clear hb hv)
  all_goals
    obtain ⟨ad, e1, hx0⟩ := Kd.at_int (Kd.R_reads' HV.out).2.2 a H.out.2.1 (by have := H2.out; omega)
    obtain ⟨ad', e2, hy0⟩ := Kd.at_int (Kd.R_reads' HV.out).2.2 (a + 1) (by have := H.out.2.1; omega) (by have := H2.out; omega)
    subst e1
    injection e2 with e2
    subst e2
    have hlt : ad.block < w4.heap.size := Kd.R_lt HV.out _ rfl
    have ht : (a + 1).toNat = a.toNat + 1 := by have := H.out.2.1; omega
    rw [ht] at hy0
    have hbx := heap_alloc_new w4 (.cells #[.slice (some ad) l.length cv, .int .i64 a] 39)
    have HT := Aside0.mk (two_calls ad l.length cv w4.heap.size a (rd l a) (rd l (a + 1)) (w4.alloc (.cells #[.slice (some ad) l.length cv, .int .i64 a] 39)) hbx H.out.2.1 (by have := H2.out; omega) (by have := H.out.1; omega)
      (pw_cell_below (below_alloc (Below.refl _ _) _) hx0) (pw_cell_below (below_alloc (Below.refl _ _) _) hy0) (by simp; omega) (by omega))
    clear hx0 hy0 hbx hc0 hc1 ht
    have Hlt := Aside0.mk hlt
    clear hlt
    repeat (first
      | (go_at_call 13; (with_reducible refine HT.out.mono ?_); rintro e w6 ⟨rfl, hq, hbel⟩; have HQ := Aside0.mk hq; have HBL := Aside0.mk (hbel w4.heap.size (Nat.le_refl _) (by simp)); clear hq hbel; dsimp only)
      | go_values | go_guarded | go_step | go_upon | go_back)
    have hW8 := new_two w6 (.cells #[.int .u32 (rd l a), .int .u32 (rd l (a + 1))] 41)
    generalize w6.alloc (.cells #[.int .u32 (rd l a), .int .u32 (rd l (a + 1))] 41) = W8 at hW8 ⊢
    obtain ⟨hp8, hb8⟩ := hW8
    have hr8 := blk_below HQ.out hb8
    have ht6 := (HBL.out.block (w.heap.size + 1) (blk_lt P2''.out)).trans (blk_alloc P2''.out (.cells #[.slice (some ad) l.length cv, .int .i64 a] 39))
    have ht8 := blk_below ht6 hb8
    have hb46 : Below w4.heap.size w4 W8 := ((below_alloc (Below.refl _ _) _).trans HBL.out).trans (hb8.mono (by have := HBL.out.size; simp at this; omega))
    have HV8 := Aside0.mk (Kd.R_below HV.out hb46)
    have hw4 : w.heap.size + 2 ≤ w3.heap.size := by have := HB2.out.size; have := HB3.out.size; simp at *; omega
    have HBW := Aside0.mk (show Below w.heap.size w W8 from ((((below_alloc (below_alloc (Below.refl _ _) _) _).trans (HB2.out.mono (by simp; omega))).trans (HB3.out.mono (by have := HB2.out.size; simp at this; omega))).trans ((below_drew (Below.refl w.heap.size w3)).trans (HB4.out.mono (by simp; omega)))).trans (hb46.mono (by have := HB4.out.size; simp at this; omega)))
    have HT8 := Aside0.mk ht8
    have gp0 := blk_cell hp8 0
    have gp1 := blk_cell hp8 1
    have gr0 := blk_cell hr8 0
    have gr1 := blk_cell hr8 1
    have gt0 := blk_cell ht8 0
    have gt1 := blk_cell ht8 1
    have gf0 := blk_frozen ht8 0
    have gf1 := blk_frozen ht8 1
    have hs4 : w3.heap.size ≤ w4.heap.size := HB4.out.size
    have hs6 : w4.heap.size + 1 ≤ w6.heap.size := by have := HBL.out.size; simpa using this
    have hm1 : w6.heap.size ≠ w.heap.size + 1 := by omega
    have hm2 : w.heap.size + 1 ≠ w6.heap.size := by omega
    have hm3 : w4.heap.size ≠ w.heap.size + 1 := by omega
    have hm4 : w.heap.size + 1 ≠ w4.heap.size := by omega
    clear hp8 hb8 hr8 ht6 ht8 hb46 hw4 hs4 hs6
    go_region
  all_goals
    have k1 := blk_drew (blk_set (blk_set HT8.out 0 (.slice (some ad) l.length cv)) 1 (.int .i64 (a + 2)))
    have kR := Kd.R_drew (Kd.R_far (p := ⟨w.heap.size + 1, 1, none⟩) (Kd.R_far (p := ⟨w.heap.size + 1, 0, none⟩) (Kd.R_types HV8.out HT8.out (by decide)) (fun _ hk => hk.2) (.slice (some ad) l.length cv)) (fun _ hk => hk.2) (.int .i64 (a + 2)))
    have kB := below_drew ((HBW.out.setCell (p := ⟨w.heap.size + 1, 0, none⟩) (by simp) (.slice (some ad) l.length cv)).setCell (p := ⟨w.heap.size + 1, 1, none⟩) (by simp) (.int .i64 (a + 2)))
    have kR' := Kd.R_mono (ok' := fun _ => True) (Kd.R_lower kR (show w.heap.size ≤ w3.drew.heap.size by have := HB2.out.size; have := HB3.out.size; simp at *; omega)) (fun _ _ => trivial)
    clear kR gp0 gp1 gr0 gr1 gt0 gt1 gf0 gf1 HT8 HV8 HBW
    generalize ((W8.setCell ⟨w.heap.size + 1, 0, none⟩ (.slice (some ad) l.length cv)).setCell ⟨w.heap.size + 1, 1, none⟩ (.int .i64 (a + 2))).drew = F at k1 kR' kB ⊢
    simp only [List.setIfInBounds_toArray, List.set_cons_zero, List.set_cons_succ] at k1
    have kc0 := blk_cell k1 0
    have kc1 := blk_cell k1 1
    have KR := Aside0.mk kR'
    have KB := Aside0.mk kB
    clear k1 kR' kB
    go_wp2
    exact bodyPost_ret (by simp [results, Try.results5, go_sem, kc0, kc1]) rfl ⟨_, rfl, KR.out, KB.out⟩

set_option maxHeartbeats 4000000 in
set_option maxRecDepth 100000 in
theorem lane_two_bad (A : Option Addr) (c : Nat) (l : List Int) (a : Int) (w : World) (h : ¬ LaneOk l.length a) :
    Calls Try.prog 5 #[.agg #[.slice A l.length c, .int .i64 a]] w fun e w' => e = .returned (.tuple #[.agg #[.slice none 0 0, .int .i64 0], .int .u32 0, .int .u32 0, .int .i64 8]) ∧ Below w.heap.size w w' := by
  have hmo : Try.prog.follows .mixedOrders = true := rfl
  have H := Aside0.mk h
  clear h
  go_enter Try.func5, Try.ntmps5
  repeat (first
    | (go_at_call 8; (with_reducible refine (check_bad A l.length c a _ H.out).mono ?_); rintro e w2 ⟨rfl, hb⟩; have HB2 := Aside0.mk hb; obtain ⟨p1, p2⟩ := lane_pair w (.cells #[.slice A l.length c, .int .i64 a] 24) (.cells #[.slice none 0 0, .int .i64 0] 24); have P1 := Aside0.mk (blk_below p1 hb); have P2 := Aside0.mk (blk_below p2 hb); have hc0 := blk_cell P1.out 0; have hc1 := blk_cell P1.out 1; have hd0 := blk_cell P2.out 0; have hd1 := blk_cell P2.out 1; have hf0 := blk_frozen P2.out 0; have hf1 := blk_frozen P2.out 1; clear hb p1 p2; dsimp only)
    | go_values | go_guarded | go_step | go_upon | go_back)
  have k1 := blk_set (blk_set P2.out 0 (.slice none 0 0)) 1 (.int .i64 0)
  have kB := (((below_alloc (below_alloc (Below.refl w.heap.size w) _) _).trans (HB2.out.mono (by simp; omega))).setCell (p := ⟨w.heap.size + 1, 0, none⟩) (by simp) (.slice none 0 0)).setCell (p := ⟨w.heap.size + 1, 1, none⟩) (by simp) (.int .i64 0)
  clear hc0 hc1 hd0 hd1 hf0 hf1
  generalize (w2.setCell ⟨w.heap.size + 1, 0, none⟩ (.slice none 0 0)).setCell ⟨w.heap.size + 1, 1, none⟩ (.int .i64 0) = F at k1 kB ⊢
  simp only [List.setIfInBounds_toArray, List.set_cons_zero, List.set_cons_succ] at k1
  have kc0 := blk_cell k1 0
  have kc1 := blk_cell k1 1
  have KB := Aside0.mk kB
  clear k1 kB
  exact bodyPost_ret (by simp [results, Try.results5, go_sem, kc0, kc1]) rfl ⟨rfl, KB.out⟩

set_option maxHeartbeats 4000000 in
set_option maxRecDepth 100000 in
theorem lane_two_few (A : Option Addr) (c : Nat) (l : List Int) (a : Int) (w : World) (h : LaneOk l.length a) (h2 : ¬ a + 1 < l.length) :
    Calls Try.prog 5 #[.agg #[.slice A l.length c, .int .i64 a]] w fun e w' => e = .returned (.tuple #[.agg #[.slice none 0 0, .int .i64 0], .int .u32 0, .int .u32 0, .int .i64 50]) ∧ Below w.heap.size w w' := by
  have hmo : Try.prog.follows .mixedOrders = true := rfl
  have H := Aside0.mk h
  have hl2 : (l.length : Int) - a < 2 := by omega
  clear h h2
  go_enter Try.func5, Try.ntmps5
  repeat (first
    | (go_at_call 8; (with_reducible refine (check_good A l.length c a _ H.out).mono ?_); rintro e w2 ⟨rfl, hb⟩; have HB2 := Aside0.mk hb; obtain ⟨p1, p2⟩ := lane_pair w (.cells #[.slice A l.length c, .int .i64 a] 24) (.cells #[.slice none 0 0, .int .i64 0] 24); have P1 := Aside0.mk (blk_below p1 hb); have P2 := Aside0.mk (blk_below p2 hb); have hc0 := blk_cell P1.out 0; have hc1 := blk_cell P1.out 1; have hd0 := blk_cell P2.out 0; have hd1 := blk_cell P2.out 1; have hf0 := blk_frozen P2.out 0; have hf1 := blk_frozen P2.out 1; clear hb p1 p2; dsimp only)
    | (go_at_call 10; (with_reducible refine (left_good A l.length c a _ H.out).mono ?_); rintro e w3 ⟨rfl, hb⟩; have HB3 := Aside0.mk hb; have P1' := Aside0.mk (blk_below P1.out hb); have P2' := Aside0.mk (blk_below P2.out hb); clear hc0 hc1 hd0 hd1 hf0 hf1; have hc0 := blk_cell P1'.out 0; have hc1 := blk_cell P1'.out 1; have hd0 := blk_cell P2'.out 0; have hd1 := blk_cell P2'.out 1; have hf0 := blk_frozen P2'.out 0; have hf1 := blk_frozen P2'.out 1; clear hb; dsimp only)
    | go_values | go_guarded | go_step | go_upon | go_back)
  have k1 := blk_set (blk_set P2'.out 0 (.slice none 0 0)) 1 (.int .i64 0)
  have kB := ((((below_alloc (below_alloc (Below.refl w.heap.size w) _) _).trans (HB2.out.mono (by simp; omega))).trans (HB3.out.mono (by have := HB2.out.size; simp at this; omega))).setCell (p := ⟨w.heap.size + 1, 0, none⟩) (by simp) (.slice none 0 0)).setCell (p := ⟨w.heap.size + 1, 1, none⟩) (by simp) (.int .i64 0)
  clear hc0 hc1 hd0 hd1 hf0 hf1
  generalize (w3.setCell ⟨w.heap.size + 1, 0, none⟩ (.slice none 0 0)).setCell ⟨w.heap.size + 1, 1, none⟩ (.int .i64 0) = F at k1 kB ⊢
  simp only [List.setIfInBounds_toArray, List.set_cons_zero, List.set_cons_succ] at k1
  have kc0 := blk_cell k1 0
  have kc1 := blk_cell k1 1
  have KB := Aside0.mk kB
  clear k1 kB
  exact bodyPost_ret (by simp [results, Try.results5, go_sem, kc0, kc1]) rfl ⟨rfl, KB.out⟩

def lane_Two.f (l : List Int) (a : Int) : Option (List Int × Int × Int × Int × Int) :=
  if l.length ≤ 4096 ∧ 0 ≤ a ∧ a ≤ l.length then (if a + 1 < l.length then some (l, a + 2, rd l a, rd l (a + 1), 0) else some ([], 0, 0, 0, 50)) else some ([], 0, 0, 0, 8)
theorem lane_Two.calls (A0_0 : Option Addr) (c0_0 : Nat) (l0_0 : List Int) (a0_1 : Int) (r1 : List Int) (r2 : Int) (r3 : Int) (r4 : Int) (r5 : Int) (w : World) (hr0_0 : Kd.C (Kd.int .u32) w A0_0 l0_0.length l0_0) (hc0_0 : l0_0.length ≤ c0_0) (h : lane_Two.f l0_0 a0_1 = some (r1, r2, r3, r4, r5)) :
    Calls Try.prog 5 #[.agg #[.slice A0_0 l0_0.length c0_0, .int .i64 a0_1]] w fun e w' => ∃ v0_ : Value, e = .returned (.tuple #[.agg #[v0_, .int .i64 r2], .int .u32 r3, .int .u32 r4, .int .i64 r5]) ∧ Kd.R (Kd.int .u32) 26 w' w.heap.size (fun _ => True) v0_ r1 ∧ Below w.heap.size w w' := by
  unfold lane_Two.f at h
  by_cases hk : l0_0.length ≤ 4096 ∧ 0 ≤ a0_1 ∧ a0_1 ≤ l0_0.length
  · rw [if_pos hk] at h
    by_cases h2 : a0_1 + 1 < l0_0.length
    · rw [if_pos h2] at h
      cases h
      exact lane_two_good A0_0 c0_0 l0_0 a0_1 w hr0_0 hc0_0 hk h2
    · rw [if_neg h2] at h
      cases h
      exact (lane_two_few A0_0 c0_0 l0_0 a0_1 w hk h2).mono fun e w' ⟨he, hb⟩ => ⟨_, he, Kd.R_nil _ _ _ _ _, hb⟩
  · rw [if_neg hk] at h
    cases h
    exact (lane_two_bad A0_0 c0_0 l0_0 a0_1 w hk).mono fun e w' ⟨he, hb⟩ => ⟨_, he, Kd.R_nil _ _ _ _ _, hb⟩
end Go.Proofs.Ytfpoenlcmidbeaa
