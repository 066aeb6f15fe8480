import Derived.Test.YtknmokpnkcckeaaPAll0
import Derived.Test.YtknmokpnkcckeaaBkCheck
import Derived.Test.YtknmokpnkcckeaaRowWords
import Derived.Test.YtknmokpnkcckeaaSpoilB
-- Printed for this claim by a program of this session, over the kit's print.
namespace Go.Proofs.Ytknmokpnkcckeaa.PAll
open Go.RowKit Go.Proofs.YtknmokpnkcckeaaW.PrintWords Go.Proofs.YtknmokpnkcckeaaW.PrintLast Go.Proofs.YtknmokpnkcckeaaW.PrintMore
attribute [local go_sem] max2_int min2_int max_two min_two max_three min_three max_four min_four   -- for this text's walks alone
set_option linter.unusedVariables false
set_option linter.unusedSimpArgs false

/-! ### ref09_Twin: function 35 -/
def ref09_Twin.f (a0_0 : Int) (a0_1 : Int) (l0_2 : List Int) : Option (Int × Int × List Int) := (some (([] : List Int) : List Int)).bind fun y148 => (if y148.length + l0_2.length < 140737488355328 then (some (a0_0, a0_1, (y148 ++ l0_2))) else (none))
set_option maxHeartbeats 8000000 in
set_option maxRecDepth 100000 in
theorem ref09_Twin.calls (a0_0 : Int) (a0_1 : Int) (A0_2 : Option Addr) (c0_2 : Nat) (l0_2 : List Int) (r1 : Int) (r2 : Int) (r3 : List Int) (w : World) (hr0_2 : Kd.C (Kd.int .u8) w A0_2 l0_2.length l0_2) (hc0_2 : l0_2.length ≤ c0_2) (h : ref09_Twin.f a0_0 a0_1 l0_2 = some (r1, r2, r3)) :
    Calls Try.prog 35 #[.agg #[.int .i64 a0_0, .int .i64 a0_1, .slice A0_2 l0_2.length c0_2]] w fun e w' => ∃ v2_ : Value, e = .returned (.agg #[.int .i64 r1, .int .i64 r2, v2_]) ∧ Kd.R (Kd.int .u8) 5 w' w.heap.size (fun _ => True) v2_ r3 ∧ Below w.heap.size w w' := by
  have hu62 := Try.underlying62
  have HR0_2 := Aside0.mk hr0_2
  have HC0_2 := Aside0.mk hc0_2
  clear hr0_2 hc0_2
  have HB := Aside0.mk (Below.refl w.heap.size w)
  have H : ((some (([] : List Int) : List Int)).bind fun y148 => (if y148.length + l0_2.length < 140737488355328 then (some (a0_0, a0_1, (y148 ++ l0_2))) else (none))) = some (r1, r2, r3) := h
  clear h
  obtain ⟨y148, hy148⟩ : ∃ y_ : List Int, y_ = (([] : List Int)) := ⟨_, rfl⟩
  replace H : (if y148.length + l0_2.length < 140737488355328 then (some (a0_0, a0_1, (y148 ++ l0_2))) else (none)) = some (r1, r2, r3) := by first | (rw [hy148]; with_reducible exact H) | (have H2_ := (Option.bind_some _ _).symm.trans H; rw [hy148]; with_reducible exact H2_) | (have H2_ := (Option.bind_some _ _).symm.trans H; with_reducible exact H2_) | with_reducible exact H | (rw [hy148]; exact H) | exact H
  have Ny148 := Aside0.mk hy148
  clear hy148
  by_cases c2 : y148.length + l0_2.length < 140737488355328
  · rw [if_pos c2] at H
    have LMc2 := Aside0.mk c2
    clear c2
    obtain ⟨y151, hy151⟩ : ∃ y_ : List Int, y_ = (y148 ++ l0_2) := ⟨_, rfl⟩
    replace H : (some (a0_0, a0_1, y151)) = some (r1, r2, r3) := by first | (rw [hy151]; with_reducible exact H) | (have H2_ := (Option.bind_some _ _).symm.trans H; rw [hy151]; with_reducible exact H2_) | (have H2_ := (Option.bind_some _ _).symm.trans H; with_reducible exact H2_) | with_reducible exact H | (rw [hy151]; exact H) | exact H
    have Ny151 := Aside0.mk hy151
    clear hy151
    simp only [Option.some.injEq, Prod.mk.injEq] at H
    obtain ⟨rfl, rfl, rfl⟩ := H
    go_enter Try.func35, Try.ntmps35
    go_wp2_with (first | ((with_reducible refine gate_dst (N := 1) rfl ?_); refine box_event ?hg (N := 1) ?hd (cs := #[.int .i64 a0_0, .int .i64 a0_1, .slice A0_2 l0_2.length c0_2]) (t := 62) ?hr ?_; (case hd => rfl); (case hg => rfl); (case hr => first | (go_simp; done) | (go_simp; rfl)); intro gb146 hg w3 hbox hb; have n0_ := Aside0.mk (below_step (by repeat (first | (with_reducible first | exact HB.out | apply below_alloc | apply pw_below_drewN | apply below_drew1) | exact HB.out)) hb); have n1_ := Aside0.mk (hbox); have n2_ := Aside0.mk ((by rw [hg]; exact (below_size (by repeat (first | (with_reducible first | exact HB.out | apply below_alloc | apply pw_below_drewN | apply below_drew1) | exact HB.out))) : w.heap.size ≤ gb146)); have n3_ := Aside0.mk ((by rw [hg]; exact (below_size (by repeat (first | (with_reducible first | exact HB.out | apply below_alloc | apply pw_below_drewN | apply below_drew1) | exact HB.out))) : w.heap.size ≤ gb146)); clear HB; have HB := n0_; have BK146 := n1_; have GW146 := n2_; have GE146 := n3_; clear n0_ n1_ n2_ n3_; clear hb hbox hg) | ((with_reducible refine gate_dst (N := 2) rfl ?_); refine box_event ?hg (N := 2) ?hd (cs := #[.int .i64 0, .int .i64 0, .slice none 0 0]) (t := 62) ?hr ?_; (case hd => rfl); (case hg => rfl); (case hr => first | (go_simp; done) | (go_simp; rfl)); intro gb147 hg w4 hbox hb; have n0_ := Aside0.mk (blk_below (g := gb146) (o := .cells #[.int .i64 a0_0, .int .i64 a0_1, .slice A0_2 l0_2.length c0_2] 62 (0, 0)) (by (with_reducible repeat (first | refine blk_drewN ?_ _ | refine blk_drew ?_ | refine blk_alloc ?_ _)); exact BK146.out) hb); have n1_ := Aside0.mk (below_step (by repeat (first | (with_reducible first | exact HB.out | apply below_alloc | apply pw_below_drewN | apply below_drew1 | refine below_set ?_ GE146.out) | exact HB.out)) hb); have n2_ := Aside0.mk (hbox); have n3_ := Aside0.mk ((by rw [hg]; exact (below_size (by repeat (first | (with_reducible first | exact HB.out | apply below_alloc | apply pw_below_drewN | apply below_drew1 | refine below_set ?_ GE146.out) | exact HB.out))) : w.heap.size ≤ gb147)); have n4_ := Aside0.mk ((by rw [hg]; exact (below_size (by repeat (first | (with_reducible first | exact HB.out | apply below_alloc | apply pw_below_drewN | apply below_drew1 | refine below_set ?_ GE146.out) | exact HB.out))) : w.heap.size ≤ gb147)); have n5_ := Aside0.mk ((by rw [hg]; exact Nat.ne_of_lt (blk_lt (g := gb146) (o := .cells #[.int .i64 a0_0, .int .i64 a0_1, .slice A0_2 l0_2.length c0_2] 62 (0, 0)) (by (with_reducible repeat (first | refine blk_drewN ?_ _ | refine blk_drew ?_ | refine blk_alloc ?_ _)); exact BK146.out)) : gb146 ≠ gb147)); have n6_ := Aside0.mk ((by rw [hg]; exact Nat.ne_of_gt (blk_lt (g := gb146) (o := .cells #[.int .i64 a0_0, .int .i64 a0_1, .slice A0_2 l0_2.length c0_2] 62 (0, 0)) (by (with_reducible repeat (first | refine blk_drewN ?_ _ | refine blk_drew ?_ | refine blk_alloc ?_ _)); exact BK146.out)) : gb147 ≠ gb146)); clear BK146; clear HB; have BK146 := n0_; have HB := n1_; have BK147 := n2_; have GW147 := n3_; have GE147 := n4_; have NB146_147 := n5_; have NB147_146 := n6_; clear n0_ n1_ n2_ n3_ n4_ n5_ n6_; clear hb hbox hg) | ((with_reducible refine gate_dst (N := 3) rfl ?_); refine Kd.R_lit (Kd.int .u8) _ 5 ?hg (N := 3) ?hd (xs := ([] : List Int)) (inner := []) (ok := fun _ => True) (okp := fun _ => True) ?hr ?hp (fun _ hk => hk) trivial (Below.refl _ _) (Nat.le_refl _) (by simp) ?_; (case hd => rfl); (case hg => rfl); (case hr => first | (go_simp; done) | (go_simp; rfl)); (case hp => exact (Reps.none _ _)); intro v149 w5 ho6 hb hg_ hnew_; clear hg_ hnew_; (first | rw [← Ny148.out] at ho6 | (simp only [Int.reduceToNat] at ho6; rw [← Ny148.out] at ho6)); have n0_ := Aside0.mk (Kd.R_lower ho6 (below_size (by repeat (first | (with_reducible first | exact HB.out | apply below_alloc | apply pw_below_drewN | apply below_drew1 | refine below_set ?_ GE146.out | refine below_set ?_ GE147.out) | exact HB.out)))); have n1_ := Aside0.mk (blk_below (g := gb146) (o := .cells #[.int .i64 a0_0, .int .i64 a0_1, .slice A0_2 l0_2.length c0_2] 62 (0, 0)) (by (with_reducible repeat (first | refine blk_drewN ?_ _ | refine blk_drew ?_ | refine blk_alloc ?_ _)); exact BK146.out) hb); have n2_ := Aside0.mk (blk_below (g := gb147) (o := .cells #[.int .i64 0, .int .i64 0, .slice none 0 0] 62 (0, 0)) (by (with_reducible repeat (first | refine blk_drewN ?_ _ | refine blk_drew ?_ | refine blk_alloc ?_ _)); exact BK147.out) hb); have n3_ := Aside0.mk (below_step (by repeat (first | (with_reducible first | exact HB.out | apply below_alloc | apply pw_below_drewN | apply below_drew1 | refine below_set ?_ GE146.out | refine below_set ?_ GE147.out) | exact HB.out)) hb); clear BK146; clear BK147; clear HB; have HO150 := n0_; have BK146 := n1_; have BK147 := n2_; have HB := n3_; clear n0_ n1_ n2_ n3_; clear hb ho6; have hnb7 := NB146_147.out; have hnc7 := NB147_146.out; have hcz8_0 : w5.cell? ⟨gb146, 0, none⟩ = some (.int .i64 a0_0) := (blk_cell BK146.out 0).trans rfl; have hcz8_1 : w5.cell? ⟨gb146, 1, none⟩ = some (.int .i64 a0_1) := (blk_cell BK146.out 1).trans rfl; have hcz8_2 : w5.cell? ⟨gb146, 2, none⟩ = some (.slice A0_2 l0_2.length c0_2) := (blk_cell BK146.out 2).trans rfl; have hfz8_0 := blk_frozen BK146.out 0; have hfz8_1 := blk_frozen BK146.out 1; have hfz8_2 := blk_frozen BK146.out 2) | ((with_reducible refine gate_builtin (b := .append) (xs := #[.tmp 3, .tmp 5]) rfl ?_); at_builtin; refine Kd.R_append_rows (Kd.int .u8) (w0 := w) w.heap.size rfl (.tmp 3) (.tmp 5) 43 5 (.int .u8 0) 1 rfl Try.underlying43 info5 rfl (by decide) (by omega) v149 y148 l0_2 _ _ _ (fun _ => True) (fun _ => False) rfl rfl ?aO ?aR (fun _ _ h => h) (fun _ h => h.elim) ?aF ?aB ?aS ?aL ?_; (case aR => repeat (first | exact (Kd.C_below HR0_2.out HB.out) | (with_reducible refine Kd.C_alloc ?_ _) | (with_reducible refine Kd.C_drewN ?_ _) | (with_reducible refine Kd.C_drew ?_))); (case aB => exact (by repeat (first | (with_reducible first | exact HB.out | apply below_alloc | apply pw_below_drewN | apply below_drew1 | refine below_set ?_ GE146.out | refine below_set ?_ GE147.out) | exact HB.out))); (case aF => exact (fun _ _ => trivial)); (case aO => exact (by (with_reducible repeat (first | apply Kd.R_alloc | apply Kd.R_drewN | apply Kd.R_drew)); exact HO150.out)); (case aS => exact (below_size (by repeat (first | (with_reducible first | exact HB.out | apply below_alloc | apply pw_below_drewN | apply below_drew1 | refine below_set ?_ GE146.out | refine below_set ?_ GE147.out) | exact HB.out)))); (case aL => have := LMc2.out; omega); intro v152 w9 ho hb hg hat; rw [← Ny151.out] at ho; have n0_ := Aside0.mk (blk_grown (g := gb146) (o := .cells #[.int .i64 a0_0, .int .i64 a0_1, .slice A0_2 l0_2.length c0_2] 62 (0, 0)) (by (with_reducible repeat (first | refine blk_drewN ?_ _ | refine blk_drew ?_ | refine blk_alloc ?_ _)); exact BK146.out) hg (Kd.R_ne HO150.out BK146.out (by decide))); have n1_ := Aside0.mk (blk_grown (g := gb147) (o := .cells #[.int .i64 0, .int .i64 0, .slice none 0 0] 62 (0, 0)) (by (with_reducible repeat (first | refine blk_drewN ?_ _ | refine blk_drew ?_ | refine blk_alloc ?_ _)); exact BK147.out) hg (Kd.R_ne HO150.out BK147.out (by decide))); have n2_ := Aside0.mk (hb); have n3_ := Aside0.mk (ho); clear BK146; clear BK147; clear HB; clear HO150; have BK146 := n0_; have BK147 := n1_; have HB := n2_; have HO153 := n3_; clear n0_ n1_ n2_ n3_; clear ho hb hg hat; obtain ⟨Ao10, co10, eo10⟩ := Kd.R_slice HO153.out; subst eo10; have hcz11_0 : w9.cell? ⟨gb146, 0, none⟩ = some (.int .i64 a0_0) := (blk_cell BK146.out 0).trans rfl; have hcz11_1 : w9.cell? ⟨gb146, 1, none⟩ = some (.int .i64 a0_1) := (blk_cell BK146.out 1).trans rfl; have hcz11_2 : w9.cell? ⟨gb146, 2, none⟩ = some (.slice A0_2 l0_2.length c0_2) := (blk_cell BK146.out 2).trans rfl; have hfz11_0 := blk_frozen BK146.out 0; have hfz11_1 := blk_frozen BK146.out 1; have hfz11_2 := blk_frozen BK146.out 2; have hcz12_0 : w9.cell? ⟨gb147, 0, none⟩ = some (.int .i64 0) := (blk_cell BK147.out 0).trans rfl; have hcz12_1 : w9.cell? ⟨gb147, 1, none⟩ = some (.int .i64 0) := (blk_cell BK147.out 1).trans rfl; have hcz12_2 : w9.cell? ⟨gb147, 2, none⟩ = some (.slice none 0 0) := (blk_cell BK147.out 2).trans rfl; have hfz12_0 := blk_frozen BK147.out 0; have hfz12_1 := blk_frozen BK147.out 1; have hfz12_2 := blk_frozen BK147.out 2))
    refine bodyPost_ret (results_cell_row rfl _ _ gb147 62 #[.int .i64 a0_0, .int .i64 a0_1, .slice Ao10 y151.length co10] (0, 0) _ rfl (by (with_reducible repeat (first | refine blk_drewN ?_ _ | refine blk_drew ?_ | refine blk_alloc ?_ _)); refine blk_put (cs := #[.int .i64 a0_0, .int .i64 a0_1, .slice none 0 0]) ?_ 2 _ rfl; (with_reducible repeat (first | refine blk_drewN ?_ _ | refine blk_drew ?_ | refine blk_alloc ?_ _)); refine blk_put (cs := #[.int .i64 a0_0, .int .i64 0, .slice none 0 0]) ?_ 1 _ rfl; (with_reducible repeat (first | refine blk_drewN ?_ _ | refine blk_drew ?_ | refine blk_alloc ?_ _)); refine blk_put (cs := #[.int .i64 0, .int .i64 0, .slice none 0 0]) ?_ 0 _ rfl; (with_reducible repeat (first | refine blk_drewN ?_ _ | refine blk_drew ?_ | refine blk_alloc ?_ _)); refine blk_far ?_ NB147_146.out _; (with_reducible repeat (first | refine blk_drewN ?_ _ | refine blk_drew ?_ | refine blk_alloc ?_ _)); exact BK147.out) Try.underlying62 rfl (by kernel_rfl)) rfl ?_
    exact ⟨_, by first | rfl | (simp [errW_none, errW_some] <;> rfl) | (simp [*, errW_none, errW_some] <;> rfl), by (with_reducible repeat (first | apply Kd.R_alloc | apply Kd.R_drewN | apply Kd.R_drew)); exact Kd.R_mono (Kd.R_far (p := ⟨gb147, 2, none⟩) (Kd.R_far (p := ⟨gb147, 1, none⟩) (Kd.R_far (p := ⟨gb147, 0, none⟩) (Kd.R_far (p := ⟨gb146, 2, none⟩) (Kd.R_types (Kd.R_types HO153.out BK146.out (by decide)) BK147.out (by decide)) (fun _ hk => hk.1.2) (.slice Ao10 y151.length co10)) (fun _ hk => hk.2) (.int .i64 a0_0)) (fun _ hk => hk.2) (.int .i64 a0_1)) (fun _ hk => hk.2) (.slice Ao10 y151.length co10)) (fun _ hk => trivial), by repeat (first | (with_reducible first | exact HB.out | apply below_alloc | apply pw_below_drewN | apply below_drew1 | refine below_set ?_ GE146.out | refine below_set ?_ GE147.out) | exact HB.out)⟩
  · rw [if_neg c2] at H
    exact absurd H (by simp)

end Go.Proofs.Ytknmokpnkcckeaa.PAll

-- Printed for this claim by a program of this session, over the kit's print.
namespace Go.Proofs.Ytknmokpnkcckeaa.PAll
open Go.RowKit Go.Proofs.YtknmokpnkcckeaaW.PrintWords Go.Proofs.YtknmokpnkcckeaaW.PrintLast Go.Proofs.YtknmokpnkcckeaaW.PrintMore
attribute [local go_sem] max2_int min2_int max_two min_two max_three min_three max_four min_four   -- for this text's walks alone
set_option linter.unusedVariables false
set_option linter.unusedSimpArgs false

/-! ### ref09_TwinAll: function 10 -/
def ref09_TwinAll.l0 : Nat → List (S62) → List (S62) → Int → Option ((List (S62)))
  | 0, _, _, _ => none
  | k + 1, x0, x3, x4 => if x4 < (x0.length : Int) then (if 0 ≤ x4 then ((ref09_Twin.f ((rd_T62 x0 x4).f0) ((rd_T62 x0 x4).f1) ((rd_T62 x0 x4).f2)).bind fun bt155 => (if x3.length < 3518437208883 then (ref09_TwinAll.l0 k x0 (x3 ++ [(⟨bt155.1, bt155.2.1, bt155.2.2⟩ : S62)]) (wrap64 (x4 + 1))) else (none))) else (none)) else (some x3)
def ref09_TwinAll.f (k : Nat) (l0 : List (S62)) : Option ((List (S62))) := ref09_TwinAll.l0 k l0 ([] : List (S62)) 0
theorem ref09_TwinAll.mono_l : ∀ k, (∀ y0 y1 y2, LeO (ref09_TwinAll.l0 k y0 y1 y2) (ref09_TwinAll.l0 (k + 1) y0 y1 y2))
  | 0 => fun _ _ _ r h => by simp [ref09_TwinAll.l0] at h
  | k + 1 => by
    have ih0 := ref09_TwinAll.mono_l k
    · intro y0 y1 y2
      unfold ref09_TwinAll.l0
      repeat' first
      | (with_reducible exact ih0 _ _ _)
      | (with_reducible exact LeO.refl _)
      | (with_reducible exact LeO.none _)
      | (with_reducible refine LeO.ite ?_ ?_)
      | (with_reducible refine LeO.bind ?_ (fun _ => ?_))
      | exact ih0 _ _ _
      | exact LeO.none _
      | refine LeO.ite ?_ ?_
      | refine LeO.bind ?_ (fun _ => ?_)
theorem ref09_TwinAll.mono : ∀ a0 k, LeO (ref09_TwinAll.f k a0) (ref09_TwinAll.f (k + 1) a0) := by
  intro a0 k
  have ih0 := ref09_TwinAll.mono_l k
  unfold ref09_TwinAll.f
  repeat' first
      | (with_reducible exact ih0 _ _ _)
      | (with_reducible exact LeO.refl _)
      | (with_reducible exact LeO.none _)
      | (with_reducible refine LeO.ite ?_ ?_)
      | (with_reducible refine LeO.bind ?_ (fun _ => ?_))
      | exact ih0 _ _ _
      | exact LeO.none _
      | refine LeO.ite ?_ ?_
      | refine LeO.bind ?_ (fun _ => ?_)
set_option maxHeartbeats 8000000 in
set_option maxRecDepth 100000 in
theorem ref09_TwinAll.calls (k : Nat) (A0 : Option Addr) (c0 : Nat) (l0 : List (S62)) (r : List (S62)) (w : World) (hr0 : Kd.C k62 w A0 l0.length l0) (hc0 : l0.length ≤ c0) (h : ref09_TwinAll.f k l0 = some r) :
    Calls Try.prog 10 #[.slice A0 l0.length c0] w fun e w' => ∃ v0_ : Value, e = .returned (v0_) ∧ Kd.S k62 62 w' w.heap.size (fun _ => True) v0_ r ∧ Below w.heap.size w w' := by
  have hu62 := Try.underlying62
  have HR0 := Aside0.mk hr0
  have HC0 := Aside0.mk hc0
  clear hr0 hc0
  have HB := Aside0.mk (Below.refl w.heap.size w)
  have H : (ref09_TwinAll.l0 k l0 ([] : List (S62)) 0) = some r := h
  clear h
  have H' := Aside0.mk H
  clear H
  go_enter Try.func10, Try.ntmps10
  go_wp2
  go_loopg [3, 4] k (fun kq v3 v4 w' => ∃ (x3_1 : List (S62)) (x4_1 : Int), v4 = .int .i64 x4_1 ∧ Aside0 (ref09_TwinAll.l0 kq l0 x3_1 x4_1 = some r) ∧ Aside0 (kq ≤ k) ∧ Aside0 (Kd.S k62 62 w' w.heap.size (fun _ => True) v3 x3_1) ∧ Aside0 (Below w.heap.size w w'))
  case atStart => exact ⟨(([] : List (S62))), (0), (by first | rfl | (simp; done) | (simp [*]; done)), H', ⟨Nat.le_refl _⟩, ⟨by first | exact Kd.S_nil _ _ _ _ _ | exact Kd.N_nil _ _ _ _ _ | exact Kd.V_nil _ _ _ _ _ | exact Kd.Q_nil _ _ _ _ _ | exact Kd.R_nil _ _ _ _ _⟩, ⟨by repeat (first | (with_reducible first | exact HB.out | apply below_alloc | apply pw_below_drewN | apply below_drew1) | exact HB.out)⟩⟩
  case round =>
    clear H'
    try clear c1
    obtain ⟨x3_1, x4_1, rfl, HA, HK1, HO_3, HB⟩ := hrel
    cases gk with
    | zero => exact absurd HA.out (by simp [ref09_TwinAll.l0])
    | succ k1 =>
      have H := HA.out
      clear HA
      simp only [ref09_TwinAll.l0] at H
      by_cases c2 : x4_1 < (l0.length : Int)
      · rw [if_pos c2] at H
        have c2b0 : decide (x4_1 < (l0.length : Int)) = true := decide_eq_true c2
        clear c2
        by_cases c3 : 0 ≤ x4_1
        · rw [if_pos c3] at H
          have c3b0 : decide (0 ≤ x4_1) = true := decide_eq_true c3
          clear c3
          replace H := Option.bind_eq_some_iff.mp H
          obtain ⟨⟨t155, t156, t157⟩, A40, H⟩ := H
          replace H : (if x3_1.length < 3518437208883 then (ref09_TwinAll.l0 k1 l0 (x3_1 ++ [(⟨t155, t156, t157⟩ : S62)]) (wrap64 (x4_1 + 1))) else (none)) = some r := H
          have A4 := Aside0.mk A40
          clear A40
          by_cases c5 : x3_1.length < 3518437208883
          · rw [if_pos c5] at H
            have LMc5 := Aside0.mk c5
            clear c5
            obtain ⟨y160, hy160⟩ : ∃ y_ : List (S62), y_ = (x3_1 ++ [(⟨t155, t156, t157⟩ : S62)]) := ⟨_, rfl⟩
            replace H : (ref09_TwinAll.l0 k1 l0 y160 (wrap64 (x4_1 + 1))) = some r := by first | (rw [hy160]; with_reducible exact H) | (have H2_ := (Option.bind_some _ _).symm.trans H; rw [hy160]; with_reducible exact H2_) | (have H2_ := (Option.bind_some _ _).symm.trans H; with_reducible exact H2_) | with_reducible exact H | (rw [hy160]; exact H) | exact H
            have Ny160 := Aside0.mk hy160
            clear hy160
            have H' := Aside0.mk H
            clear H
            have p154 : 0 ≤ (x4_1 : Int) := of_decide_eq_true (by first | (with_reducible assumption) | assumption)
            have q154 : x4_1 < (l0.length : Int) := of_decide_eq_true (by first | (with_reducible assumption) | assumption)
            obtain ⟨ad154, A154_2, c154_2, e154, hx154_0, hx154_1, hx154_2, hl154_2, hi154_2⟩ := at_T62 HR0.out x4_1 p154 q154
            cases e154
            replace hx154_0 := (HB.out.cell (World.block_lt_of_cell? w _ hx154_0)).trans hx154_0
            replace hx154_1 := (HB.out.cell (World.block_lt_of_cell? w _ hx154_1)).trans hx154_1
            replace hx154_2 := (HB.out.cell (World.block_lt_of_cell? w _ hx154_2)).trans hx154_2
            have HR154_2 := Aside0.mk hi154_2
            have HC154_2 := Aside0.mk hl154_2
            clear hi154_2 hl154_2
            replace p154 := eq_true p154
            replace q154 := eq_true q154
            go_wp2_with (first | ((with_reducible refine gate_callee (f := 35) rfl ?_); refine goesL_ (some 16) rfl rfl Try.func35 (by kernel_rfl) rfl #[.agg #[.int .i64 ((rd_T62 l0 x4_1).f0), .int .i64 ((rd_T62 l0 x4_1).f1), .slice A154_2 ((rd_T62 l0 x4_1).f2).length c154_2]] rfl (by (try simp only [List.map_toArray, List.map_cons, List.map_nil]); first | done | rfl | (simp only [List.length_drop, List.length_take]; rfl)) ?_; (with_reducible refine (ref09_Twin.calls ((rd_T62 l0 x4_1).f0) ((rd_T62 l0 x4_1).f1) _ _ ((rd_T62 l0 x4_1).f2) t155 t156 t157 _ ?side1 ?side2 A4.out).mono ?_); (case side1 => repeat (first | exact (Kd.C_below HR154_2.out HB.out) | (with_reducible refine Kd.C_alloc ?_ _) | (with_reducible refine Kd.C_drewN ?_ _) | (with_reducible refine Kd.C_drew ?_))); (case side2 => exact HC154_2.out); rintro e w6 ⟨v158, rfl, ho0, hb⟩; refine ⟨_, rfl, ?_⟩; have n0_ := Aside0.mk (Kd.S_elder' (by (with_reducible repeat (first | apply Kd.S_alloc | apply Kd.S_drewN | apply Kd.S_drew)); exact HO_3.out) (Kd.R_base ho0) hb); have n1_ := Aside0.mk (Kd.R_lower ho0 (below_size (by repeat (first | (with_reducible first | exact HB.out | apply below_alloc | apply pw_below_drewN | apply below_drew1) | exact HB.out)))); have n2_ := Aside0.mk (below_step (by repeat (first | (with_reducible first | exact HB.out | apply below_alloc | apply pw_below_drewN | apply below_drew1) | exact HB.out)) hb); clear HO_3; clear HB; have HO_3 := n0_; have HO159 := n1_; have HB := n2_; clear n0_ n1_ n2_; (try clear hb); (try clear hb2); (try clear hk); (try clear hi); (try clear ho0); obtain ⟨Ao8, co8, eo8⟩ := Kd.R_slice HO159.out; subst eo8) | ((with_reducible refine gate_builtin (b := .append) (xs := #[.tmp 11, .tmp 17]) rfl ?_); at_builtin; refine Kd.S_append k62 (w0 := w) w.heap.size rfl (.tmp 11) (.tmp 17) 24 62 (.agg #[(.int .i64 0), (.int .i64 0), (.slice none 0 0)]) 40 rfl Try.underlying24 info62 rfl (by decide) (by omega) u3 x3_1 (⟨t155, t156, t157⟩ : S62) [.int .i64 t155, .int .i64 t156, .slice Ao8 t157.length co8] (fun _ => True) (fun k_ => some k_ = (.slice Ao8 t157.length co8 : Value).ownBlock) rfl rfl ?aP (fun k_ hk_ => ((Kd.R_mono (ok' := fun k_ => ((fun _ => True)) k_ ∧ some k_ ≠ (u3 : Value).ownBlock) (Kd.R_apart' (HO159.out) (Kd.S_typed HO_3.out) (by decide)) (fun k_ hk => ⟨trivial, hk.2⟩))).1 k_ hk_.symm) ?aF ?aO ?aB ?aS ?aL ?_; (case aP => exact k62_mkM _ _ _ (⟨t155, t156, t157⟩ : S62) (Kd.R_mono (Kd.R_tight rfl (Kd.R_mono (ok' := fun k_ => ((fun _ => True)) k_ ∧ some k_ ≠ (u3 : Value).ownBlock) (Kd.R_apart' (HO159.out) (Kd.S_typed HO_3.out) (by decide)) (fun k_ hk => ⟨trivial, hk.2⟩))) (fun _ h_ => h_))); (case aB => exact (by repeat (first | (with_reducible first | exact HB.out | apply below_alloc | apply pw_below_drewN | apply below_drew1) | exact HB.out))); (case aF => exact (fun _ _ => trivial)); (case aO => exact (by (with_reducible repeat (first | apply Kd.S_alloc | apply Kd.S_drewN | apply Kd.S_drew)); exact Kd.S_mono HO_3.out (fun k_ hk => ⟨trivial, fun e_ => hk.2 e_⟩))); (case aS => exact (below_size (by repeat (first | (with_reducible first | exact HB.out | apply below_alloc | apply pw_below_drewN | apply below_drew1) | exact HB.out)))); (case aL => have := LMc5.out; omega); intro v161 w7 ho hb hg hat; rw [← Ny160.out] at ho; have n0_ := Aside0.mk (hb); have n1_ := Aside0.mk (ho); clear HB; clear HO_3; clear HO159; have HB := n0_; have HO162 := n1_; clear n0_ n1_; clear ho hb hg hat))
            go_roundg k1
            case measure => have := HK1.out; omega
            case rel => exact ⟨(y160), (wrap64 (x4_1 + 1)), (by first | rfl | (simp; done) | (simp [*]; done)), H', ⟨by have := HK1.out; omega⟩, ⟨by (with_reducible repeat (first | apply Kd.S_alloc | apply Kd.S_drewN | apply Kd.S_drew)); exact HO162.out⟩, ⟨by repeat (first | (with_reducible first | exact HB.out | apply below_alloc | apply pw_below_drewN | apply below_drew1) | exact HB.out)⟩⟩
          · rw [if_neg c5] at H
            exact absurd H (by simp)
        · rw [if_neg c3] at H
          exact absurd H (by simp)
      · rw [if_neg c2] at H
        have c2b0 : decide (x4_1 < (l0.length : Int)) = false := decide_eq_false c2
        clear c2
        obtain rfl := Option.some.inj H
        go_wp2
        go_ret
        exact ⟨_, by first | rfl | (simp [errW_none, errW_some] <;> rfl) | (simp [*, errW_none, errW_some] <;> rfl), by (with_reducible repeat (first | apply Kd.S_alloc | apply Kd.S_drewN | apply Kd.S_drew)); exact HO_3.out, by repeat (first | (with_reducible first | exact HB.out | apply below_alloc | apply pw_below_drewN | apply below_drew1) | exact HB.out)⟩

end Go.Proofs.Ytknmokpnkcckeaa.PAll

-- Printed for this claim by a program of this session, over the kit's print.
namespace Go.Proofs.Ytknmokpnkcckeaa.PAll
open Go.RowKit Go.Proofs.YtknmokpnkcckeaaW.PrintWords Go.Proofs.YtknmokpnkcckeaaW.PrintLast Go.Proofs.YtknmokpnkcckeaaW.PrintMore
attribute [local go_sem] max2_int min2_int max_two min_two max_three min_three max_four min_four   -- for this text's walks alone
set_option linter.unusedVariables false
set_option linter.unusedSimpArgs false

/-! ### ref09_Great: function 9 -/
mutual
def ref09_Great.l0 : Nat → List (S62) → Int → Int → Int → Option (Bool)
  | 0, _, _, _, _ => none
  | k + 1, x0, x1, x5, x6 => if x6 < (x0.length : Int) then (ref09_Great.j1 k x0 x1 x5 x6 (decide (x6 < 200))) else (ref09_Great.j1 k x0 x1 x5 x6 false)
def ref09_Great.j1 : Nat → List (S62) → Int → Int → Int → Bool → Option (Bool)
  | 0, _, _, _, _, _ => none
  | k + 1, x0, x1, x5, x6, x14 => if x14 = true then (if 0 ≤ x6 then (if x6 < (x0.length : Int) then (ref09_Great.l0 k x0 x1 (wrap64 (x5 + (mn (((rd_T62 x0 x6).f2).length : Int) 1000))) (wrap64 (x6 + 1))) else (none)) else (none)) else (if (x0.length : Int) > x1 then (some true) else (some (decide (x5 > 5000))))
end
def ref09_Great.f (k : Nat) (l0 : List (S62)) (a1 : Int) : Option (Bool) := ref09_Great.l0 k l0 a1 0 0
theorem ref09_Great.mono_l : ∀ k, (∀ y0 y1 y2 y3, LeO (ref09_Great.l0 k y0 y1 y2 y3) (ref09_Great.l0 (k + 1) y0 y1 y2 y3)) ∧ (∀ y0 y1 y2 y3 y4, LeO (ref09_Great.j1 k y0 y1 y2 y3 y4) (ref09_Great.j1 (k + 1) y0 y1 y2 y3 y4))
  | 0 => ⟨fun _ _ _ _ r h => by simp [ref09_Great.l0] at h, fun _ _ _ _ _ r h => by simp [ref09_Great.j1] at h⟩
  | k + 1 => by
    obtain ⟨ih0, ih1⟩ := ref09_Great.mono_l k
    refine ⟨?_, ?_⟩
    · intro y0 y1 y2 y3
      unfold ref09_Great.l0
      repeat' first
      | (with_reducible exact ih0 _ _ _ _)
      | (with_reducible exact ih1 _ _ _ _ _)
      | (with_reducible exact LeO.refl _)
      | (with_reducible exact LeO.none _)
      | (with_reducible refine LeO.ite ?_ ?_)
      | (with_reducible refine LeO.bind ?_ (fun _ => ?_))
      | exact ih0 _ _ _ _
      | exact ih1 _ _ _ _ _
      | exact LeO.none _
      | refine LeO.ite ?_ ?_
      | refine LeO.bind ?_ (fun _ => ?_)
    · intro y0 y1 y2 y3 y4
      unfold ref09_Great.j1
      repeat' first
      | (with_reducible exact ih0 _ _ _ _)
      | (with_reducible exact ih1 _ _ _ _ _)
      | (with_reducible exact LeO.refl _)
      | (with_reducible exact LeO.none _)
      | (with_reducible refine LeO.ite ?_ ?_)
      | (with_reducible refine LeO.bind ?_ (fun _ => ?_))
      | exact ih0 _ _ _ _
      | exact ih1 _ _ _ _ _
      | exact LeO.none _
      | refine LeO.ite ?_ ?_
      | refine LeO.bind ?_ (fun _ => ?_)
theorem ref09_Great.mono : ∀ a0 a1 k, LeO (ref09_Great.f k a0 a1) (ref09_Great.f (k + 1) a0 a1) := by
  intro a0 a1 k
  obtain ⟨ih0, ih1⟩ := ref09_Great.mono_l k
  unfold ref09_Great.f
  repeat' first
      | (with_reducible exact ih0 _ _ _ _)
      | (with_reducible exact ih1 _ _ _ _ _)
      | (with_reducible exact LeO.refl _)
      | (with_reducible exact LeO.none _)
      | (with_reducible refine LeO.ite ?_ ?_)
      | (with_reducible refine LeO.bind ?_ (fun _ => ?_))
      | exact ih0 _ _ _ _
      | exact ih1 _ _ _ _ _
      | exact LeO.none _
      | refine LeO.ite ?_ ?_
      | refine LeO.bind ?_ (fun _ => ?_)
set_option maxHeartbeats 8000000 in
set_option maxRecDepth 100000 in
theorem ref09_Great.calls (k : Nat) (A0 : Option Addr) (c0 : Nat) (l0 : List (S62)) (a1 : Int) (r : Bool) (w : World) (hr0 : Kd.C k62 w A0 l0.length l0) (hc0 : l0.length ≤ c0) (h : ref09_Great.f k l0 a1 = some r) :
    Calls Try.prog 9 #[.slice A0 l0.length c0, .int .i64 a1] w fun e w' => e = .returned (.bool r) ∧ Below w.heap.size w w' := by
  have HR0 := Aside0.mk hr0
  have HC0 := Aside0.mk hc0
  clear hr0 hc0
  have HB := Aside0.mk (Below.refl w.heap.size w)
  have H : (ref09_Great.l0 k l0 a1 0 0) = some r := h
  clear h
  have H' := Aside0.mk H
  clear H
  go_enter Try.func9, Try.ntmps9
  go_wp2
  go_loopg [5, 6] k (fun kq v5 v6 w' => ∃ (x5_1 : Int) (x6_1 : Int), v5 = .int .i64 x5_1 ∧ v6 = .int .i64 x6_1 ∧ Aside0 (ref09_Great.l0 kq l0 a1 x5_1 x6_1 = some r) ∧ Aside0 (kq ≤ k) ∧ Aside0 (Below w.heap.size w w'))
  case atStart => exact ⟨(0), (0), (by first | rfl | (simp; done) | (simp [*]; done)), (by first | rfl | (simp; done) | (simp [*]; done)), H', ⟨Nat.le_refl _⟩, ⟨by repeat (first | (with_reducible first | exact HB.out | apply below_alloc | apply pw_below_drewN | apply below_drew1) | exact HB.out)⟩⟩
  case round =>
    clear H'
    try clear p2
    obtain ⟨x5_1, x6_1, rfl, rfl, HA, HK1, HB⟩ := hrel
    cases gk with
    | zero => exact absurd HA.out (by simp [ref09_Great.l0])
    | succ k1 =>
      have H := HA.out
      clear HA
      simp only [ref09_Great.l0] at H
      have HC3 := Aside0.mk H
      clear H
      go_upto_region 3 with (fail)
      go_cut [14] (fun v14 wc => ∃ (kq : Nat) (x14_2 : Bool), v14 = .bool x14_2 ∧ Aside0 (ref09_Great.j1 kq l0 a1 x5_1 x6_1 x14_2 = some r) ∧ Aside0 (kq ≤ k1) ∧ Aside0 (Below w.heap.size w wc))
      case first =>
        have H := HC3.out
        clear HC3
        by_cases c4 : x6_1 < (l0.length : Int)
        · rw [if_pos c4] at H
          have c4b0 : decide (x6_1 < (l0.length : Int)) = true := decide_eq_true c4
          clear c4
          (first | rw [c4b0] | (simp only [i64_w, i32_w]; rw [c4b0]) | skip)
          have H' := Aside0.mk H
          clear H
          go_wp2
          go_meet
          case rel => exact ⟨_, (decide (x6_1 < 200)), (by first | rfl | (simp; done) | (simp [*]; done)), H', ⟨by have := HK1.out; first | omega | exact Nat.le_refl _⟩, ⟨by repeat (first | (with_reducible first | exact HB.out | apply below_alloc | apply pw_below_drewN | apply below_drew1) | exact HB.out)⟩⟩
        · rw [if_neg c4] at H
          have c4b0 : decide (x6_1 < (l0.length : Int)) = false := decide_eq_false c4
          clear c4
          (first | rw [c4b0] | (simp only [i64_w, i32_w]; rw [c4b0]) | skip)
          have H' := Aside0.mk H
          clear H
          go_wp2
          go_meet
          case rel => exact ⟨_, (false), (by first | rfl | (simp; done) | (simp [*]; done)), H', ⟨by have := HK1.out; first | omega | exact Nat.le_refl _⟩, ⟨by repeat (first | (with_reducible first | exact HB.out | apply below_alloc | apply pw_below_drewN | apply below_drew1) | exact HB.out)⟩⟩
      case rest =>
        clear HC3
        try clear p2
        try clear c4
        try clear c4b0
        try clear p2
        obtain ⟨kq, x14_2, rfl, HA, HJ2, HB⟩ := hcut
        cases kq with
        | zero => exact absurd HA.out (by simp [ref09_Great.j1])
        | succ kj2 =>
          have H := HA.out
          clear HA
          simp only [ref09_Great.j1] at H
          by_cases c5 : x14_2 = true
          · subst c5
            have H1 : (if 0 ≤ x6_1 then (if x6_1 < (l0.length : Int) then (ref09_Great.l0 kj2 l0 a1 (wrap64 (x5_1 + (mn (((rd_T62 l0 x6_1).f2).length : Int) 1000))) (wrap64 (x6_1 + 1))) else (none)) else (none)) = some r := by rw [if_pos rfl] at H; exact H
            clear H
            have H := H1
            clear H1
            by_cases c6 : 0 ≤ x6_1
            · rw [if_pos c6] at H
              have c6b0 : decide (0 ≤ x6_1) = true := decide_eq_true c6
              clear c6
              by_cases c7 : x6_1 < (l0.length : Int)
              · rw [if_pos c7] at H
                have c7b0 : decide (x6_1 < (l0.length : Int)) = true := decide_eq_true c7
                clear c7
                obtain ⟨ji8, hji8⟩ : ∃ j_ : Int, (mn (((rd_T62 l0 x6_1).f2).length : Int) 1000) = j_ := ⟨_, rfl⟩
                replace H : (ref09_Great.l0 kj2 l0 a1 (wrap64 (x5_1 + (ji8))) (wrap64 (x6_1 + 1))) = some r := by first | (rw [hji8] at H; exact H) | (simp only [hji8] at H ⊢; exact H)
                have hji8_ : (if 1000 < (((rd_T62 l0 x6_1).f2).length : Int) then 1000 else (((rd_T62 l0 x6_1).f2).length : Int)) = ji8 := hji8
                have H' := Aside0.mk H
                clear H
                have p204 : 0 ≤ (x6_1 : Int) := of_decide_eq_true (by first | (with_reducible assumption) | assumption)
                have q204 : x6_1 < (l0.length : Int) := of_decide_eq_true (by first | (with_reducible assumption) | assumption)
                obtain ⟨ad204, A204_2, c204_2, e204, hx204_0, hx204_1, hx204_2, hl204_2, hi204_2⟩ := at_T62 HR0.out x6_1 p204 q204
                cases e204
                replace hx204_0 := (HB.out.cell (World.block_lt_of_cell? w _ hx204_0)).trans hx204_0
                replace hx204_1 := (HB.out.cell (World.block_lt_of_cell? w _ hx204_1)).trans hx204_1
                replace hx204_2 := (HB.out.cell (World.block_lt_of_cell? w _ hx204_2)).trans hx204_2
                have HR204_2 := Aside0.mk hi204_2
                have HC204_2 := Aside0.mk hl204_2
                clear hi204_2 hl204_2
                replace p204 := eq_true p204
                replace q204 := eq_true q204
                go_wp2
                go_roundg kj2
                case measure => have := HK1.out; have := HJ2.out; omega
                case rel => exact ⟨(wrap64 (x5_1 + (ji8))), (wrap64 (x6_1 + 1)), (by first | rfl | (simp; done) | (simp only [← hji8] <;> (first | rfl | simp)) | (simp [*]; done)), (by first | rfl | (simp; done) | (simp [*]; done)), H', ⟨by have := HK1.out; have := HJ2.out; omega⟩, ⟨by repeat (first | (with_reducible first | exact HB.out | apply below_alloc | apply pw_below_drewN | apply below_drew1) | exact HB.out)⟩⟩
              · rw [if_neg c7] at H
                exact absurd H (by simp)
            · rw [if_neg c6] at H
              exact absurd H (by simp)
          · replace c5 := Bool.eq_false_iff.mpr c5
            subst c5
            have H1 : (if (l0.length : Int) > a1 then (some true) else (some (decide (x5_1 > 5000)))) = some r := by rw [if_neg (show ¬ (false = true) by decide)] at H; exact H
            clear H
            have H := H1
            clear H1
            by_cases c9 : (l0.length : Int) > a1
            · rw [if_pos c9] at H
              have c9b0 : decide (a1 < (l0.length : Int)) = true := decide_eq_true c9
              clear c9
              obtain rfl := Option.some.inj H
              go_wp2
              go_ret
              exact ⟨by first | rfl | (simp [errW_none, errW_some] <;> rfl) | (simp [*, errW_none, errW_some] <;> rfl), by repeat (first | (with_reducible first | exact HB.out | apply below_alloc | apply pw_below_drewN | apply below_drew1) | exact HB.out)⟩
            · rw [if_neg c9] at H
              have c9b0 : decide (a1 < (l0.length : Int)) = false := decide_eq_false c9
              clear c9
              obtain rfl := Option.some.inj H
              go_wp2
              go_ret
              exact ⟨by first | rfl | (simp [errW_none, errW_some] <;> rfl) | (simp [*, errW_none, errW_some] <;> rfl), by repeat (first | (with_reducible first | exact HB.out | apply below_alloc | apply pw_below_drewN | apply below_drew1) | exact HB.out)⟩

end Go.Proofs.Ytknmokpnkcckeaa.PAll

namespace Go.Proofs.Ytknmokpnkcckeaa
open Go.RowKit Go.Proofs.YtknmokpnkcckeaaW.PrintWords Go.Proofs.YtknmokpnkcckeaaW.PrintLast Go.Proofs.YtknmokpnkcckeaaW.PrintMore Go.Proofs.Ytknmokpnkcckeaa.PAll
set_option linter.unusedVariables false
set_option linter.unusedSimpArgs false

section
variable {P : Program} {ops : Array Oper} {rest : List Oper} {op : Oper} {a : Act} {w : World} {Q : Exit → Act → World → Prop}
/-- Some cells of a block, read as one value. -/
theorem wpList_at_g (ty : TypeId) (x : Operand) (b o u : Nat) (pre vs tail : List Value) (d : TypeDesc) (hw : Region.wanted op (yielded ops a.tmps) = true) (ho : op.op = .load ty x) (hx : a.eval x = .pointer (some ⟨b, o, none⟩)) (hg : w.heap[b]? = some (.cells ⟨pre ++ (vs ++ tail)⟩ u (0, 0))) (hp : pre.length = o)
    (hu : P.underlying ty = some d) (hd : d.isRow = true) (hi : (P.info? ty).map (·.size) = some vs.length) (h : wpList P ops Q rest (a.put op.dst (.agg ⟨vs⟩)) w) : wpList P ops Q (op :: rest) a w := by
  refine wpList_step fun K hK => ?_
  rw [if_pos hw]
  have hl := run_loadAt_mid w b o ty vs d (fun j v hv => by
    have hj := (List.getElem?_eq_some_iff.1 hv).1
    rw [blk_cell hg, List.getElem?_toArray, List.getElem?_append_right (by omega), show o + j - pre.length = j by omega, List.getElem?_append_left hj]
    exact hv) hu hd hi
  have hr : (execOp a.eval op).run P w = .ok (.value (.agg ⟨vs⟩)) w := by
    unfold execOp
    simp only [ho, hx, Sem.run_bind, hl, Result.andThen_ok, Sem.run_pure]
  unfold Oper.wp
  rw [hr]
  exact hK _ _ h
theorem wpList_whole_g (ty : TypeId) (x : Operand) (b u : Nat) (vs : List Value) (d : TypeDesc) (hw : Region.wanted op (yielded ops a.tmps) = true) (ho : op.op = .load ty x) (hx : a.eval x = .pointer (some ⟨b, 0, none⟩)) (hg : w.heap[b]? = some (.cells ⟨vs⟩ u (0, 0)))
    (hu : P.underlying ty = some d) (hd : d.isRow = true) (hi : (P.info? ty).map (·.size) = some vs.length) (h : wpList P ops Q rest (a.put op.dst (.agg ⟨vs⟩)) w) : wpList P ops Q (op :: rest) a w :=
  wpList_at_g ty x b 0 u [] vs [] d hw ho hx (by simpa using hg) rfl hu hd hi h
end
theorem bk_right {W : World} {b t : Nat} {A : Option Addr} {n c : Nat} {L R : List Int} (h : W.heap[b]? = some (.cells ⟨bkC A n c L R⟩ t (0, 0))) : W.heap[b]? = some (.cells ⟨(.slice A n c :: L.map (Value.int .u8)) ++ (R.map (Value.int .u8) ++ [])⟩ t (0, 0)) := by
  rw [h, List.append_nil]
  rfl
theorem info38 : (Try.prog.info? 38).map (·.size) = some 32 := by kernel_rfl
theorem info40 : (Try.prog.info? 40).map (·.size) = some 65 := by kernel_rfl
theorem eq_digests {L L' : List Int} (hl : L.length = 32) (hl' : L'.length = 32) (W : World) : (Op.equalIn 10000 38 (.agg ⟨L.map (Value.int .u8)⟩) (.agg ⟨L'.map (Value.int .u8)⟩)).run Try.prog W = .ok (decide (L = L')) W := by
  obtain ⟨i, hi, _⟩ := info_parts (show (Try.prog.info? 5).map (fun i => (i.zero, i.size, i.bytes)) = some (some (.int .u8 0), 1, 1) by kernel_rfl)
  rw [run_equalIn_array W 9999 _ _ Try.underlying38 hi, show Try.prog.cellsOf 5 = 1 from by kernel_rfl, show (⟨L.map (Value.int .u8)⟩ : Array Value) = numCells .u8 L from rfl, show (⟨L'.map (Value.int .u8)⟩ : Array Value) = numCells .u8 L' from rfl, run_eqItems_num W 9998 Try.underlying5 L L' (by omega) _ (by simp; omega)]
  have : ((List.range 32).all fun j => L[j]? == L'[j]?) = decide (L = L') := by
    rw [Bool.eq_iff_iff, List.all_eq_true, decide_eq_true_eq]
    constructor
    · intro h
      refine List.ext_getElem? fun j => ?_
      by_cases hj : j < 32
      · simpa using h j (List.mem_range.2 hj)
      · rw [List.getElem?_eq_none (by omega), List.getElem?_eq_none (by omega)]
    · rintro rfl j _
      simp
  rw [this]

set_option maxHeartbeats 4000000 in
set_option maxRecDepth 100000 in
theorem refGreat_calls (k : Nat) (A : Option Addr) (c : Nat) (xs : List S62) (L R : List Int) (b : Bool) (w : World) (hr : Kd.C k62 w A xs.length xs) (hc : xs.length ≤ c) (h : ref09_Great.f k xs 10 = some b) :
    Calls Try.prog 16 #[.agg ⟨bkC A xs.length c L R⟩] w fun e w' => e = .returned (.bool b) ∧ Below w.heap.size w w' := by
  have HR := Aside0.mk hr
  have HC := Aside0.mk hc
  have H := Aside0.mk h
  have HB0 := Aside0.mk (below_alloc (Below.refl w.heap.size w) (.cells ⟨bkC A xs.length c L R⟩ 40))
  have hk0 := bk_cell0 (heap_alloc_new w (.cells ⟨bkC A xs.length c L R⟩ 40))
  clear hr hc h
  go_enter Try.func16, Try.ntmps16
  repeat (first
    | (go_at_call 9; (with_reducible refine (ref09_Great.calls k A c xs 10 b _ (Kd.C_below HR.out HB0.out) HC.out H.out).mono ?_); rintro e1 w1 ⟨rfl, hb1⟩; have HB1 := Aside0.mk (bl HB0.out hb1); clear hb1; (try dsimp only))
    | go_values | go_guarded | go_step | go_upon | go_back)
  go_ret
  exact ⟨rfl, HB1.out⟩

set_option maxHeartbeats 4000000 in
set_option maxRecDepth 100000 in
theorem refSameB_calls (k : Nat) (A A' : Option Addr) (c c' : Nat) (xs ys : List S62) (L R L' R' : List Int) (r : Bool) (w : World) (hL : L.length = 32) (hR : R.length = 32) (hL' : L'.length = 32) (hR' : R'.length = 32) (hx : Kd.C k62 w A xs.length xs) (hc : xs.length ≤ c) (hy : Kd.C k62 w A' ys.length ys) (hc' : ys.length ≤ c') (h : ref09_SameAll.f k xs ys = some r) :
    Calls Try.prog 25 #[.agg ⟨bkC A xs.length c L R⟩, .agg ⟨bkC A' ys.length c' L' R'⟩] w fun e w' => e = .returned (.bool (r && decide (L = L') && decide (R = R'))) ∧ Below w.heap.size w w' := by
  have HX := Aside0.mk hx
  have HC := Aside0.mk hc
  have HY := Aside0.mk hy
  have HC' := Aside0.mk hc'
  have H := Aside0.mk h
  have HB0 := Aside0.mk (below_alloc (below_alloc (Below.refl w.heap.size w) (.cells ⟨bkC A xs.length c L R⟩ 40)) (.cells ⟨bkC A' ys.length c' L' R'⟩ 40))
  have hb0 := blk_alloc (heap_alloc_new w (.cells ⟨bkC A xs.length c L R⟩ 40)) (.cells ⟨bkC A' ys.length c' L' R'⟩ 40)
  have hb1 := heap_alloc_new (w.alloc (.cells ⟨bkC A xs.length c L R⟩ 40)) (.cells ⟨bkC A' ys.length c' L' R'⟩ 40)
  rw [World.size_alloc] at hb1
  have HK0 := Aside0.mk hb0
  have HK1 := Aside0.mk hb1
  have hk0 := bk_cell0 hb0
  have hk1 := bk_cell0 hb1
  have heL := eq_digests hL hL'
  have heR := eq_digests hR hR'
  clear hx hc hy hc' h hb0 hb1
  have hu38 := Try.underlying38
  go_enter Try.func25, Try.ntmps25
  cases r with
  | false =>
    repeat (first
      | (go_at_call 14; (with_reducible refine (ref09_SameAll.calls k A c xs A' c' ys false _ (Kd.C_below HX.out HB0.out) HC.out (Kd.C_below HY.out HB0.out) HC'.out H.out).mono ?_); rintro e2 w2 ⟨rfl, hb2⟩; have HB2 := Aside0.mk (bl HB0.out hb2); clear hb2; (try dsimp only))
      | go_values | go_guarded | go_step | go_upon | go_back)
    go_ret
    exact ⟨rfl, HB2.out⟩
  | true =>
    by_cases e1 : L = L'
    · have d1 := decide_eq_true e1
      simp only [d1] at heL ⊢
      clear d1 e1
      by_cases e2 : R = R'
      · have d2 := decide_eq_true e2
        simp only [d2] at heR ⊢
        clear d2 e2
        repeat (first
          | (go_at_call 14; (with_reducible refine (ref09_SameAll.calls k A c xs A' c' ys true _ (Kd.C_below HX.out HB0.out) HC.out (Kd.C_below HY.out HB0.out) HC'.out H.out).mono ?_); rintro e2 w2 ⟨rfl, hb2⟩; have HB2 := Aside0.mk (bl HB0.out hb2); have HK2 := Aside0.mk (blk_below HK0.out hb2); have HK3 := Aside0.mk (blk_below HK1.out hb2); clear hb2; (try dsimp only))
          | ((with_reducible refine wpList_at_g 38 (.tmp 11) w.heap.size 1 40 [.slice A xs.length c] (L.map (Value.int .u8)) (R.map (Value.int .u8)) _ ?hw rfl ?hx ?hg ?hp Try.underlying38 ?hd ?hi ?_); (case hg => exact HK2.out); (case hw => rfl); (case hp => rfl); (case hx => rfl); (case hd => rfl); (case hi => rw [List.length_map, hL]; exact info38))
          | ((with_reducible refine wpList_at_g 38 (.tmp 13) (w.heap.size + 1) 1 40 [.slice A' ys.length c'] (L'.map (Value.int .u8)) (R'.map (Value.int .u8)) _ ?hw rfl ?hx ?hg ?hp Try.underlying38 ?hd ?hi ?_); (case hg => exact HK3.out); (case hw => rfl); (case hp => rfl); (case hx => rfl); (case hd => rfl); (case hi => rw [List.length_map, hL']; exact info38))
          | ((with_reducible refine wpList_at_g 38 (.tmp 18) w.heap.size 33 40 (.slice A xs.length c :: L.map (Value.int .u8)) (R.map (Value.int .u8)) [] _ ?hw rfl ?hx (bk_right HK2.out) ?hp Try.underlying38 ?hd ?hi ?_); (case hw => rfl); (case hx => rfl); (case hp => simp [hL]); (case hd => rfl); (case hi => rw [List.length_map, hR]; exact info38))
          | ((with_reducible refine wpList_at_g 38 (.tmp 20) (w.heap.size + 1) 33 40 (.slice A' ys.length c' :: L'.map (Value.int .u8)) (R'.map (Value.int .u8)) [] _ ?hw rfl ?hx (bk_right HK3.out) ?hp Try.underlying38 ?hd ?hi ?_); (case hw => rfl); (case hx => rfl); (case hp => simp [hL']); (case hd => rfl); (case hi => rw [List.length_map, hR']; exact info38))
          | go_values | go_guarded | go_step | go_upon | go_back)
        go_ret
        exact ⟨rfl, HB2.out⟩
      · have d2 := decide_eq_false e2
        simp only [d2] at heR ⊢
        clear d2 e2
        repeat (first
          | (go_at_call 14; (with_reducible refine (ref09_SameAll.calls k A c xs A' c' ys true _ (Kd.C_below HX.out HB0.out) HC.out (Kd.C_below HY.out HB0.out) HC'.out H.out).mono ?_); rintro e2 w2 ⟨rfl, hb2⟩; have HB2 := Aside0.mk (bl HB0.out hb2); have HK2 := Aside0.mk (blk_below HK0.out hb2); have HK3 := Aside0.mk (blk_below HK1.out hb2); clear hb2; (try dsimp only))
          | ((with_reducible refine wpList_at_g 38 (.tmp 11) w.heap.size 1 40 [.slice A xs.length c] (L.map (Value.int .u8)) (R.map (Value.int .u8)) _ ?hw rfl ?hx ?hg ?hp Try.underlying38 ?hd ?hi ?_); (case hg => exact HK2.out); (case hw => rfl); (case hp => rfl); (case hx => rfl); (case hd => rfl); (case hi => rw [List.length_map, hL]; exact info38))
          | ((with_reducible refine wpList_at_g 38 (.tmp 13) (w.heap.size + 1) 1 40 [.slice A' ys.length c'] (L'.map (Value.int .u8)) (R'.map (Value.int .u8)) _ ?hw rfl ?hx ?hg ?hp Try.underlying38 ?hd ?hi ?_); (case hg => exact HK3.out); (case hw => rfl); (case hp => rfl); (case hx => rfl); (case hd => rfl); (case hi => rw [List.length_map, hL']; exact info38))
          | ((with_reducible refine wpList_at_g 38 (.tmp 18) w.heap.size 33 40 (.slice A xs.length c :: L.map (Value.int .u8)) (R.map (Value.int .u8)) [] _ ?hw rfl ?hx (bk_right HK2.out) ?hp Try.underlying38 ?hd ?hi ?_); (case hw => rfl); (case hx => rfl); (case hp => simp [hL]); (case hd => rfl); (case hi => rw [List.length_map, hR]; exact info38))
          | ((with_reducible refine wpList_at_g 38 (.tmp 20) (w.heap.size + 1) 33 40 (.slice A' ys.length c' :: L'.map (Value.int .u8)) (R'.map (Value.int .u8)) [] _ ?hw rfl ?hx (bk_right HK3.out) ?hp Try.underlying38 ?hd ?hi ?_); (case hw => rfl); (case hx => rfl); (case hp => simp [hL']); (case hd => rfl); (case hi => rw [List.length_map, hR']; exact info38))
          | go_values | go_guarded | go_step | go_upon | go_back)
        go_ret
        exact ⟨rfl, HB2.out⟩
    · simp only [decide_eq_false e1] at heL ⊢
      repeat (first
        | (go_at_call 14; (with_reducible refine (ref09_SameAll.calls k A c xs A' c' ys true _ (Kd.C_below HX.out HB0.out) HC.out (Kd.C_below HY.out HB0.out) HC'.out H.out).mono ?_); rintro e2 w2 ⟨rfl, hb2⟩; have HB2 := Aside0.mk (bl HB0.out hb2); have HK2 := Aside0.mk (blk_below HK0.out hb2); have HK3 := Aside0.mk (blk_below HK1.out hb2); clear hb2; (try dsimp only))
        | ((with_reducible refine wpList_at_g 38 (.tmp 11) w.heap.size 1 40 [.slice A xs.length c] (L.map (Value.int .u8)) (R.map (Value.int .u8)) _ ?hw rfl ?hx ?hg ?hp Try.underlying38 ?hd ?hi ?_); (case hg => exact HK2.out); (case hw => rfl); (case hp => rfl); (case hx => rfl); (case hd => rfl); (case hi => rw [List.length_map, hL]; exact info38))
        | ((with_reducible refine wpList_at_g 38 (.tmp 13) (w.heap.size + 1) 1 40 [.slice A' ys.length c'] (L'.map (Value.int .u8)) (R'.map (Value.int .u8)) _ ?hw rfl ?hx ?hg ?hp Try.underlying38 ?hd ?hi ?_); (case hg => exact HK3.out); (case hw => rfl); (case hp => rfl); (case hx => rfl); (case hd => rfl); (case hi => rw [List.length_map, hL']; exact info38))
        | ((with_reducible refine wpList_at_g 38 (.tmp 18) w.heap.size 33 40 (.slice A xs.length c :: L.map (Value.int .u8)) (R.map (Value.int .u8)) [] _ ?hw rfl ?hx (bk_right HK2.out) ?hp Try.underlying38 ?hd ?hi ?_); (case hw => rfl); (case hx => rfl); (case hp => simp [hL]); (case hd => rfl); (case hi => rw [List.length_map, hR]; exact info38))
        | ((with_reducible refine wpList_at_g 38 (.tmp 20) (w.heap.size + 1) 33 40 (.slice A' ys.length c' :: L'.map (Value.int .u8)) (R'.map (Value.int .u8)) [] _ ?hw rfl ?hx (bk_right HK3.out) ?hp Try.underlying38 ?hd ?hi ?_); (case hw => rfl); (case hx => rfl); (case hp => simp [hL']); (case hd => rfl); (case hi => rw [List.length_map, hR']; exact info38))
        | go_values | go_guarded | go_step | go_upon | go_back)
      go_ret
      exact ⟨rfl, HB2.out⟩
end Go.Proofs.Ytknmokpnkcckeaa
