import Derived.Test.YtknmokpnkcckeaaPAll0
import Derived.Test.YtknmokpnkcckeaaHandSlot
import Derived.Test.YtknmokpnkcckeaaSpoilB
import Derived.Test.YtknmokpnkcckeaaWhole
import Derived.Lib.SliceRun
-- Printed for this claim by a program of this session, over the kit's print.
namespace Go.Proofs.Ytknmokpnkcckeaa.PAll
open Go.RowKit Go.Proofs.YtknmokpnkcckeaaW.PrintWords Go.Proofs.YtknmokpnkcckeaaW.PrintLast Go.Proofs.YtknmokpnkcckeaaW.PrintMore
attribute [local go_sem] max2_int min2_int max_two min_two max_three min_three max_four min_four   -- for this text's walks alone
set_option linter.unusedVariables false
set_option linter.unusedSimpArgs false

/-! ### slot_Twin: function 50 -/
def slot_Twin.f (a0_0 : Int) (a0_1 : Int) (l0_2 : List Int) : Option (Int × Int × List Int) := (slices_Clone_byte_byte.f l0_2).bind fun t103 => (some (a0_0, a0_1, t103))
set_option maxHeartbeats 8000000 in
set_option maxRecDepth 100000 in
theorem slot_Twin.calls (a0_0 : Int) (a0_1 : Int) (A0_2 : Option Addr) (c0_2 : Nat) (l0_2 : List Int) (r1 : Int) (r2 : Int) (r3 : List Int) (w : World) (hr0_2 : Kd.C (Kd.int .u8) w A0_2 l0_2.length l0_2) (hc0_2 : l0_2.length ≤ c0_2) (h : slot_Twin.f a0_0 a0_1 l0_2 = some (r1, r2, r3)) :
    Calls Try.prog 50 #[.agg #[.int .i64 a0_0, .int .i64 a0_1, .slice A0_2 l0_2.length c0_2]] w fun e w' => ∃ v2_ : Value, e = .returned (.agg #[.int .i64 r1, .int .i64 r2, v2_]) ∧ Kd.R (Kd.int .u8) 5 w' w.heap.size (fun _ => True) v2_ r3 ∧ Below w.heap.size w w' := by
  have hu62 := Try.underlying62
  have HR0_2 := Aside0.mk hr0_2
  have HC0_2 := Aside0.mk hc0_2
  clear hr0_2 hc0_2
  have HB := Aside0.mk (Below.refl w.heap.size w)
  have H : ((slices_Clone_byte_byte.f l0_2).bind fun t103 => (some (a0_0, a0_1, t103))) = some (r1, r2, r3) := h
  clear h
  replace H := Option.bind_eq_some_iff.mp H
  obtain ⟨t103, A20, H⟩ := H
  replace H : (some (a0_0, a0_1, t103)) = some (r1, r2, r3) := H
  have A2 := Aside0.mk A20
  clear A20
  simp only [Option.some.injEq, Prod.mk.injEq] at H
  obtain ⟨rfl, rfl, rfl⟩ := H
  go_enter Try.func50, Try.ntmps50
  go_wp2_with (first | ((with_reducible refine gate_dst (N := 1) rfl ?_); refine box_event ?hg (N := 1) ?hd (cs := #[.int .i64 a0_0, .int .i64 a0_1, .slice A0_2 l0_2.length c0_2]) (t := 62) ?hr ?_; (case hd => rfl); (case hg => rfl); (case hr => first | (go_simp; done) | (go_simp; rfl)); intro gb101 hg w3 hbox hb; have n0_ := Aside0.mk (below_step (by repeat (first | (with_reducible first | exact HB.out | apply below_alloc | apply pw_below_drewN | apply below_drew1) | exact HB.out)) hb); have n1_ := Aside0.mk (hbox); have n2_ := Aside0.mk ((by rw [hg]; exact (below_size (by repeat (first | (with_reducible first | exact HB.out | apply below_alloc | apply pw_below_drewN | apply below_drew1) | exact HB.out))) : w.heap.size ≤ gb101)); have n3_ := Aside0.mk ((by rw [hg]; exact (below_size (by repeat (first | (with_reducible first | exact HB.out | apply below_alloc | apply pw_below_drewN | apply below_drew1) | exact HB.out))) : w.heap.size ≤ gb101)); clear HB; have HB := n0_; have BK101 := n1_; have GW101 := n2_; have GE101 := n3_; clear n0_ n1_ n2_ n3_; clear hb hbox hg) | ((with_reducible refine gate_dst (N := 2) rfl ?_); refine box_event ?hg (N := 2) ?hd (cs := #[.int .i64 0, .int .i64 0, .slice none 0 0]) (t := 62) ?hr ?_; (case hd => rfl); (case hg => rfl); (case hr => first | (go_simp; done) | (go_simp; rfl)); intro gb102 hg w4 hbox hb; have n0_ := Aside0.mk (blk_below (g := gb101) (o := .cells #[.int .i64 a0_0, .int .i64 a0_1, .slice A0_2 l0_2.length c0_2] 62 (0, 0)) (by (with_reducible repeat (first | refine blk_drewN ?_ _ | refine blk_drew ?_ | refine blk_alloc ?_ _)); exact BK101.out) hb); have n1_ := Aside0.mk (below_step (by repeat (first | (with_reducible first | exact HB.out | apply below_alloc | apply pw_below_drewN | apply below_drew1 | refine below_set ?_ GE101.out) | exact HB.out)) hb); have n2_ := Aside0.mk (hbox); have n3_ := Aside0.mk ((by rw [hg]; exact (below_size (by repeat (first | (with_reducible first | exact HB.out | apply below_alloc | apply pw_below_drewN | apply below_drew1 | refine below_set ?_ GE101.out) | exact HB.out))) : w.heap.size ≤ gb102)); have n4_ := Aside0.mk ((by rw [hg]; exact (below_size (by repeat (first | (with_reducible first | exact HB.out | apply below_alloc | apply pw_below_drewN | apply below_drew1 | refine below_set ?_ GE101.out) | exact HB.out))) : w.heap.size ≤ gb102)); have n5_ := Aside0.mk ((by rw [hg]; exact Nat.ne_of_lt (blk_lt (g := gb101) (o := .cells #[.int .i64 a0_0, .int .i64 a0_1, .slice A0_2 l0_2.length c0_2] 62 (0, 0)) (by (with_reducible repeat (first | refine blk_drewN ?_ _ | refine blk_drew ?_ | refine blk_alloc ?_ _)); exact BK101.out)) : gb101 ≠ gb102)); have n6_ := Aside0.mk ((by rw [hg]; exact Nat.ne_of_gt (blk_lt (g := gb101) (o := .cells #[.int .i64 a0_0, .int .i64 a0_1, .slice A0_2 l0_2.length c0_2] 62 (0, 0)) (by (with_reducible repeat (first | refine blk_drewN ?_ _ | refine blk_drew ?_ | refine blk_alloc ?_ _)); exact BK101.out)) : gb102 ≠ gb101)); clear BK101; clear HB; have BK101 := n0_; have HB := n1_; have BK102 := n2_; have GW102 := n3_; have GE102 := n4_; have NB101_102 := n5_; have NB102_101 := n6_; clear n0_ n1_ n2_ n3_ n4_ n5_ n6_; clear hb hbox hg; have hnb5 := NB101_102.out; have hnc5 := NB102_101.out; have hcz6_0 : w4.cell? ⟨gb101, 0, none⟩ = some (.int .i64 a0_0) := (blk_cell BK101.out 0).trans rfl; have hcz6_1 : w4.cell? ⟨gb101, 1, none⟩ = some (.int .i64 a0_1) := (blk_cell BK101.out 1).trans rfl; have hcz6_2 : w4.cell? ⟨gb101, 2, none⟩ = some (.slice A0_2 l0_2.length c0_2) := (blk_cell BK101.out 2).trans rfl; have hfz6_0 := blk_frozen BK101.out 0; have hfz6_1 := blk_frozen BK101.out 1; have hfz6_2 := blk_frozen BK101.out 2) | ((with_reducible refine gate_callee (f := 72) rfl ?_); refine goesL_ (some 5) rfl rfl Try.func72 (by kernel_rfl) rfl #[.slice A0_2 l0_2.length c0_2] rfl (by (try simp only [List.map_toArray, List.map_cons, List.map_nil]); first | done | rfl | (simp only [List.length_drop, List.length_take]; rfl)) ?_; (with_reducible refine (slices_Clone_byte_byte.calls _ _ l0_2 t103 _ ?side1 ?side2 A2.out).mono ?_); (case side1 => repeat (first | exact (Kd.C_below HR0_2.out HB.out) | (with_reducible refine Kd.C_alloc ?_ _) | (with_reducible refine Kd.C_drewN ?_ _) | (with_reducible refine Kd.C_drew ?_))); (case side2 => exact HC0_2.out); rintro e w7 ⟨v104, rfl, ho0, hb⟩; refine ⟨_, rfl, ?_⟩; have n0_ := Aside0.mk (Kd.R_lower ho0 (below_size (by repeat (first | (with_reducible first | exact HB.out | apply below_alloc | apply pw_below_drewN | apply below_drew1 | refine below_set ?_ GE101.out | refine below_set ?_ GE102.out) | exact HB.out)))); have n1_ := Aside0.mk (blk_below (g := gb101) (o := .cells #[.int .i64 a0_0, .int .i64 a0_1, .slice A0_2 l0_2.length c0_2] 62 (0, 0)) (by (with_reducible repeat (first | refine blk_drewN ?_ _ | refine blk_drew ?_ | refine blk_alloc ?_ _)); exact BK101.out) hb); have n2_ := Aside0.mk (blk_below (g := gb102) (o := .cells #[.int .i64 0, .int .i64 0, .slice none 0 0] 62 (0, 0)) (by (with_reducible repeat (first | refine blk_drewN ?_ _ | refine blk_drew ?_ | refine blk_alloc ?_ _)); exact BK102.out) hb); have n3_ := Aside0.mk (below_step (by repeat (first | (with_reducible first | exact HB.out | apply below_alloc | apply pw_below_drewN | apply below_drew1 | refine below_set ?_ GE101.out | refine below_set ?_ GE102.out) | exact HB.out)) hb); clear BK101; clear BK102; clear HB; have HO105 := n0_; have BK101 := n1_; have BK102 := n2_; have HB := n3_; clear n0_ n1_ n2_ n3_; (try clear hb); (try clear hb2); (try clear hk); (try clear hi); (try clear ho0); obtain ⟨Ao8, co8, eo8⟩ := Kd.R_slice HO105.out; subst eo8; have hcz9_0 : w7.cell? ⟨gb101, 0, none⟩ = some (.int .i64 a0_0) := (blk_cell BK101.out 0).trans rfl; have hcz9_1 : w7.cell? ⟨gb101, 1, none⟩ = some (.int .i64 a0_1) := (blk_cell BK101.out 1).trans rfl; have hcz9_2 : w7.cell? ⟨gb101, 2, none⟩ = some (.slice A0_2 l0_2.length c0_2) := (blk_cell BK101.out 2).trans rfl; have hfz9_0 := blk_frozen BK101.out 0; have hfz9_1 := blk_frozen BK101.out 1; have hfz9_2 := blk_frozen BK101.out 2; have hcz10_0 : w7.cell? ⟨gb102, 0, none⟩ = some (.int .i64 0) := (blk_cell BK102.out 0).trans rfl; have hcz10_1 : w7.cell? ⟨gb102, 1, none⟩ = some (.int .i64 0) := (blk_cell BK102.out 1).trans rfl; have hcz10_2 : w7.cell? ⟨gb102, 2, none⟩ = some (.slice none 0 0) := (blk_cell BK102.out 2).trans rfl; have hfz10_0 := blk_frozen BK102.out 0; have hfz10_1 := blk_frozen BK102.out 1; have hfz10_2 := blk_frozen BK102.out 2))
  refine bodyPost_ret (results_cell_row rfl _ _ gb102 62 #[.int .i64 a0_0, .int .i64 a0_1, .slice Ao8 t103.length co8] (0, 0) _ rfl (by (with_reducible repeat (first | refine blk_drewN ?_ _ | refine blk_drew ?_ | refine blk_alloc ?_ _)); refine blk_put (cs := #[.int .i64 a0_0, .int .i64 a0_1, .slice none 0 0]) ?_ 2 _ rfl; (with_reducible repeat (first | refine blk_drewN ?_ _ | refine blk_drew ?_ | refine blk_alloc ?_ _)); refine blk_put (cs := #[.int .i64 a0_0, .int .i64 0, .slice none 0 0]) ?_ 1 _ rfl; (with_reducible repeat (first | refine blk_drewN ?_ _ | refine blk_drew ?_ | refine blk_alloc ?_ _)); refine blk_put (cs := #[.int .i64 0, .int .i64 0, .slice none 0 0]) ?_ 0 _ rfl; (with_reducible repeat (first | refine blk_drewN ?_ _ | refine blk_drew ?_ | refine blk_alloc ?_ _)); refine blk_far ?_ NB102_101.out _; (with_reducible repeat (first | refine blk_drewN ?_ _ | refine blk_drew ?_ | refine blk_alloc ?_ _)); exact BK102.out) Try.underlying62 rfl (by kernel_rfl)) rfl ?_
  exact ⟨_, by first | rfl | (simp [errW_none, errW_some] <;> rfl) | (simp [*, errW_none, errW_some] <;> rfl), by (with_reducible repeat (first | apply Kd.R_alloc | apply Kd.R_drewN | apply Kd.R_drew)); exact Kd.R_mono (Kd.R_far (p := ⟨gb102, 2, none⟩) (Kd.R_far (p := ⟨gb102, 1, none⟩) (Kd.R_far (p := ⟨gb102, 0, none⟩) (Kd.R_far (p := ⟨gb101, 2, none⟩) (Kd.R_types (Kd.R_types HO105.out BK101.out (by decide)) BK102.out (by decide)) (fun _ hk => hk.1.2) (.slice Ao8 t103.length co8)) (fun _ hk => hk.2) (.int .i64 a0_0)) (fun _ hk => hk.2) (.int .i64 a0_1)) (fun _ hk => hk.2) (.slice Ao8 t103.length co8)) (fun _ hk => trivial), by repeat (first | (with_reducible first | exact HB.out | apply below_alloc | apply pw_below_drewN | apply below_drew1 | refine below_set ?_ GE101.out | refine below_set ?_ GE102.out) | exact HB.out)⟩

end Go.Proofs.Ytknmokpnkcckeaa.PAll

namespace Go.Proofs.Ytknmokpnkcckeaa
open Go.RowKit Go.Proofs.YtknmokpnkcckeaaW.PrintWords Go.Proofs.YtknmokpnkcckeaaW.PrintLast Go.Proofs.YtknmokpnkcckeaaW.PrintMore Go.Proofs.Ytknmokpnkcckeaa.PAll
set_option linter.unusedVariables false
set_option linter.unusedSimpArgs false

/-- A block with where its bytes lie, and its cells. -/
abbrev BD := S62 × Option Addr × Nat
def cell3 (d : BD) : List Value := [.int .i64 d.1.f0, .int .i64 d.1.f1, .slice d.2.1 d.1.f2.length d.2.2]
theorem cell3_length (d : BD) : (cell3 d).length = 3 := rfl
theorem cell3_one (d : BD) : ∀ u ∈ cell3 d, u.oneCell' = true := by
  intro u hu
  simp only [cell3, List.mem_cons, List.not_mem_nil, or_false] at hu
  rcases hu with rfl | rfl | rfl <;> rfl
theorem cells3_length (ds : List BD) : (ds.map cell3).flatten.length = ds.length * 3 := by
  induction ds with
  | nil => rfl
  | cons d ds ih => rw [List.map_cons, List.flatten_cons, List.length_append, ih, cell3_length, List.length_cons]; omega
def GoodB (W : World) (d : BD) : Prop := d.1.f2.length ≤ d.2.2 ∧ (Kd.int .u8).C W d.2.1 d.1.f2.length d.1.f2
theorem GoodB.below {W W' : World} {d : BD} (h : GoodB W d) (hb : Below W.heap.size W W') : GoodB W' d := ⟨h.1, Kd.C_below h.2 hb⟩
/-- Blocks that are read, as cells. -/
theorem raw_of_C {W : World} {A : Option Addr} {n : Nat} {xs : List S62} (h : Kd.C k62 W A n xs) : ∃ ds : List BD, ds.map (·.1) = xs ∧ Kd.C (Kd.raw 3) W A n (ds.map cell3) ∧ ∀ d ∈ ds, GoodB W d := by
  classical
  obtain ⟨hn, hm, hr⟩ := h
  have key : ∀ j : Nat, ∃ d : BD, ∀ x, xs[j]? = some x → d.1 = x ∧ GoodB W d ∧ ∃ ad, A = some ad ∧ ∀ i u, (cell3 d)[i]? = some u → W.cell? (ad.add (j * 3 + i)) = some u := by
    intro j
    by_cases hj : j < xs.length
    · obtain ⟨ad, ha, hc⟩ := hr (by omega)
      obtain ⟨c, hl, hK, hcell⟩ := hc j xs[j] (List.getElem?_eq_getElem hj)
      obtain ⟨A2, c2, rfl, l2, g2⟩ := k62_open hK
      refine ⟨(xs[j], A2, c2), fun x hx => ?_⟩
      rw [List.getElem?_eq_getElem hj] at hx
      cases hx
      exact ⟨rfl, ⟨l2, g2⟩, ad, ha, hcell⟩
    · exact ⟨(z62, none, 0), fun x hx => by rw [List.getElem?_eq_none (by omega)] at hx; cases hx⟩
  let f : Nat → BD := fun j => Classical.choose (key j)
  have hf : ∀ j x, xs[j]? = some x → (f j).1 = x ∧ GoodB W (f j) ∧ ∃ ad, A = some ad ∧ ∀ i u, (cell3 (f j))[i]? = some u → W.cell? (ad.add (j * 3 + i)) = some u := fun j => Classical.choose_spec (key j)
  refine ⟨(List.range xs.length).map f, ?_, ⟨by simpa using hn, hm, fun h0 => ?_⟩, fun d hd => ?_⟩
  · apply List.ext_getElem?
    intro j
    by_cases hj : j < xs.length
    · simp [hj, (hf j xs[j] (List.getElem?_eq_getElem hj)).1]
    · rw [List.getElem?_eq_none (by simp; omega), List.getElem?_eq_none (by omega)]
  · obtain ⟨ad, ha, _⟩ := hr h0
    refine ⟨ad, ha, fun j p hp => ?_⟩
    have hj : j < xs.length := by
      have := (List.getElem?_eq_some_iff.1 hp).1
      simpa using this
    have hpe : p = cell3 (f j) := by
      rw [List.getElem?_map, List.getElem?_map, List.getElem?_range hj] at hp
      simpa using hp.symm
    subst hpe
    obtain ⟨_, _, ad', ha', hcell⟩ := hf j xs[j] (List.getElem?_eq_getElem hj)
    rw [ha] at ha'
    cases ha'
    exact ⟨cell3 (f j), cell3_length _, ⟨rfl, cell3_length _, cell3_one _⟩, hcell⟩
  · simp only [List.mem_map, List.mem_range] at hd
    obtain ⟨j, hj, rfl⟩ := hd
    exact (hf j xs[j] (List.getElem?_eq_getElem hj)).2.1
/-- And back. -/
theorem raw_to_C {W : World} {A : Option Addr} {n : Nat} {ds : List BD} (h : Kd.C (Kd.raw 3) W A n (ds.map cell3)) (hg : ∀ d ∈ ds, GoodB W d) : Kd.C k62 W A n (ds.map (·.1)) := by
  obtain ⟨hn, hm, hr⟩ := h
  refine ⟨by simpa using hn, hm, fun h0 => ?_⟩
  obtain ⟨ad, ha, hc⟩ := hr h0
  refine ⟨ad, ha, fun j p hp => ?_⟩
  rw [List.getElem?_map, Option.map_eq_some_iff] at hp
  obtain ⟨d, hd, rfl⟩ := hp
  obtain ⟨c, hl, ⟨hce, _, _⟩, hcell⟩ := hc j (cell3 d) (by rw [List.getElem?_map, hd]; rfl)
  subst hce
  have hgd := hg d (List.mem_of_getElem? hd)
  exact ⟨cell3 d, rfl, k62_mk W d.1 hgd.1 hgd.2, hcell⟩

set_option maxHeartbeats 4000000 in
set_option maxRecDepth 100000 in
theorem cloneB_calls (A : Option Addr) (n c : Nat) (css : List (List Value)) (w : World) (h : Kd.C (Kd.raw 3) w A n css) (hn : n ≤ 1000000) :
    Calls Try.prog 49 #[.slice A n c] w fun e w' => ∃ A' c', e = .returned (.slice A' n c') ∧ Kd.R (Kd.raw 3) 62 w' w.heap.size (fun _ => True) (.slice A' n c') css ∧ Below w.heap.size w w' := by
  have hl := h.1
  have H := Aside0.mk h
  have HN := Aside0.mk hn
  have HL := Aside0.mk hl
  clear h hn
  have qT : ∀ (w : World) (a : Option Addr) (n c n' c' : Nat), (binOp .eql 24 (.slice a n c) (.slice none n' c')).run Try.prog w = .ok (.bool a.isNone) w := fun w a n c n' c' => Lib.run_eql_slice_nil w _ _ a n c n' c' Try.underlying24
  rcases A with _ | a
  · have hn0 : n = 0 := by
      rcases Nat.eq_zero_or_pos n with h0 | h0
      · exact h0
      · obtain ⟨ad, h1, _⟩ := H.out.2.2 h0
        cases h1
    subst hn0
    have hnil : css = [] := List.length_eq_zero_iff.1 hl
    subst hnil
    go_enter Try.func49, Try.ntmps49
    go_wp2
    go_ret
    exact ⟨none, 0, rfl, Kd.R_nil _ _ _ _ _, Below.refl _ _⟩
  · clear hl
    go_enter Try.func49, Try.ntmps49
    repeat (first
      | ((with_reducible refine gate_dst (N := 5) rfl ?_); refine Kd.R_lit (Kd.raw 3) _ 62 ?hg (N := 5) ?hd (xs := ([] : List (List Value))) (inner := []) (ok := fun _ => True) (okp := fun _ => True) ?hr ?hp (fun _ hk => hk) trivial (Below.refl _ _) (Nat.le_refl _) (by simp) ?_; (case hd => rfl); (case hg => rfl); (case hr => first | (go_simp; done) | (go_simp; rfl)); (case hp => exact (Reps.none _ _)); intro v1 w1 ho hb hg_ hnew_; have HB1 := Aside0.mk hb; have HO1 := Aside0.mk ho; clear hg_ hnew_ ho hb)
      | ((with_reducible refine gate_builtin (b := .append) (xs := #[.tmp 5, .tmp 6]) rfl ?_); at_builtin; refine Kd.R_append_rows (Kd.raw 3) (w0 := w) w.heap.size rfl (.tmp 5) (.tmp 6) 24 62 _ 40 rfl Try.underlying24 info62 rfl (by decide) (by omega) v1 [] css _ _ _ (fun _ => True) (fun _ => False) rfl rfl ?aO ?aR (fun _ _ h => h) (fun _ h => h.elim) ?aF ?aB ?aS ?aL ?_; (case aR => exact Kd.C_below H.out HB1.out); (case aB => exact HB1.out); (case aF => exact (fun _ _ => trivial)); (case aO => exact HO1.out); (case aS => exact HB1.out.size); (case aL => have := HN.out; simp; omega); intro v2 w2 ho hb hg hat; rw [List.nil_append] at ho; obtain ⟨A2, c2, rfl⟩ := Kd.R_slice ho; have HO2 := Aside0.mk ho; have HB2 := Aside0.mk hb; clear ho hb hg hat HO1 HB1)
      | go_values | go_guarded | go_step | go_upon | go_back)
    go_ret
    refine ⟨A2, c2, by rw [← HL.out]; rfl, ?_, HB2.out⟩
    rw [← HL.out]
    exact HO2.out

theorem reps_raw : ∀ {css : List (List Value)} {inner : List Value}, Reps (fun (x cs : List Value) => cs = x ∧ cs.length = 3 ∧ ∀ u ∈ cs, u.oneCell' = true) 3 css inner → inner = css.flatten
  | [], inner, h => by
    have := h.1
    simp at this
    simp [this]
  | c :: css, inner, h => by
    have h0 := (h.2 0 c rfl).1
    simp only [Nat.zero_mul, List.drop_zero] at h0
    have ht : Reps (fun (x cs : List Value) => cs = x ∧ cs.length = 3 ∧ ∀ u ∈ cs, u.oneCell' = true) 3 css (inner.drop 3) := by
      refine ⟨by rw [List.length_drop, h.1, List.length_cons]; omega, fun j p hp => ?_⟩
      have := h.2 (j + 1) p (by simpa using hp)
      rw [List.drop_drop, show 3 + j * 3 = (j + 1) * 3 by omega]
      exact this
    rw [List.flatten_cons, ← reps_raw ht, ← h0, List.take_append_drop]
/-- The block of a row of one's own. -/
theorem raw_block {w : World} {base n c : Nat} {ok : Nat → Prop} {A : Option Addr} {css : List (List Value)} (h : Kd.R (Kd.raw 3) 62 w base ok (.slice A n c) css) (hn : n ≠ 0) : ∃ g rest, A = some ⟨g, 0, none⟩ ∧ base ≤ g ∧ n ≤ c ∧ w.heap[g]? = some (.cells ⟨css.flatten ++ rest⟩ 62 (0, 0)) := by
  obtain ⟨_, inner, ho, hr⟩ := h
  have hin := reps_raw hr
  rcases ho.2 with ⟨hv, _⟩ | ⟨g, cap, cur, hv, hb, hg, hc1, _, _, htk⟩
  · cases hv
    exact absurd rfl hn
  · have e := hv
    injection e with e1 e2 e3
    refine ⟨g, cur.toList.drop (css.length * 3), e1, hb, by omega, ?_⟩
    rw [hg, ← hin, ← htk]
    show some (Obj.cells cur 62) = some (Obj.cells ⟨cur.toList.take (css.length * 3) ++ cur.toList.drop (css.length * 3)⟩ 62)
    rw [List.take_append_drop]
section
variable {P : Program} {ops : Array Oper} {rest : List Oper} {op : Oper} {a : Act} {w : World} {Q : Exit → Act → World → Prop}
/-- A value is stored over some cells of a block. -/
theorem wpList_store_at (ty : TypeId) (x y : Operand) (b u o : Nat) (pre old new post : List Value) (hgd : op.guard = none) (ho : op.op = .store ty x y) (hx : a.eval x = .pointer (some ⟨b, o, none⟩)) (hy : a.eval y = .agg ⟨new⟩) (hg : w.heap[b]? = some (.cells ⟨pre ++ (old ++ post)⟩ u (0, 0)))
    (hp : pre.length = o) (hs : old.length = new.length) (hi : (P.info? ty).map (·.size) = some new.length) (h1 : ∀ v ∈ new, v.oneCell' = true)
    (h : ∀ w1, w1.heap[b]? = some (.cells ⟨pre ++ (new ++ post)⟩ u (0, 0)) → (∀ k, k ≠ b → w1.heap[k]? = w.heap[k]?) → (∀ B w0, Below B w0 w → B ≤ b → Below B w0 w1) → w1.heap.size = w.heap.size → wpList P ops Q rest (a.put op.dst undef) w1) : wpList P ops Q (op :: rest) a w := by
  refine wpList_plain hgd fun K hK => wp_store_mid ty x y ho b o ⟨new⟩ hx hy (fun j hj => ⟨?_, ?_⟩) hi ?_ (hK _ _ (h _ ?_ ?_ ?_ ?_))
  · rw [blk_cell hg]
    have : j < new.length := hj
    simp
    omega
  · exact blk_frozen hg _
  · exact Array.all_eq_true_iff_forall_mem.2 (fun v hv => h1 v (by simpa using hv))
  · obtain ⟨cur, q1, q2, q3⟩ := setCells_row new o w ⟨pre ++ (old ++ post)⟩ hg (by simp; omega)
    have : cur.toList = pre ++ (new ++ post) := by
      rw [q3]
      subst hp
      simp [hs, List.take_append_of_le_length]
    rw [q1, show cur = ⟨pre ++ (new ++ post)⟩ from by rw [← this]]
  · exact fun k hk => setCells_far _ o k hk
  · intro B w0 hb hle
    obtain ⟨s1, s2, s3, s4⟩ := setCells_same b new o w
    refine ⟨s1.trans hb.os, s2.trans hb.tape, s3.trans hb.output, by rw [s4]; exact hb.size, fun k hk => ?_⟩
    rw [setCells_far new o k (by omega)]
    exact hb.block k hk
  · exact (setCells_same b _ o w).2.2.2
end
/-- A block's bytes lie in memory of the call's own. -/
def YoungD (base : Nat) (W : World) (d : BD) : Prop := d.1.f2.length ≠ 0 → ∃ g cells, d.2.1 = some ⟨g, 0, none⟩ ∧ base ≤ g ∧ W.heap[g]? = some (.cells cells 5 (0, 0))
theorem YoungD.below {base : Nat} {W W' : World} {d : BD} (h : YoungD base W d) (hb : Below W.heap.size W W') : YoungD base W' d := fun hn => by
  obtain ⟨g, cells, h1, h2, h3⟩ := h hn
  exact ⟨g, cells, h1, h2, blk_below h3 hb⟩
theorem youngD_of_R {w : World} {base base' m c : Nat} {ok : Nat → Prop} {A : Option Addr} {x : S62} (h : Kd.R (Kd.int .u8) 5 w base' ok (.slice A m c) x.f2) (hb : base ≤ base') (cc : Nat) : YoungD base w (x, A, cc) := fun hn => by
  have hm := (Kd.R_reads' h).1
  obtain ⟨_, inner, ho, hr⟩ := h
  rcases ho.2 with ⟨hv, _⟩ | ⟨g, cap, cur, hv, hgb, hg, _⟩
  · cases hv
    exact absurd hm.symm hn
  · injection hv with e1 _ _
    exact ⟨g, cur, e1, Nat.le_trans hb hgb, hg⟩
theorem cell_same {W W' : World} {k : Nat} (h : W'.heap[k]? = W.heap[k]?) (j : Nat) : W'.cell? ⟨k, j, none⟩ = W.cell? ⟨k, j, none⟩ := by
  simp [World.cell?, h]
theorem goodB_store {base g : Nat} {W W' : World} {d : BD} {cs : Array Value} (h : GoodB W d ∧ YoungD base W d) (hg : W.heap[g]? = some (.cells cs 62 (0, 0))) (hk : ∀ k, k ≠ g → W'.heap[k]? = W.heap[k]?) : GoodB W' d ∧ YoungD base W' d := by
  obtain ⟨⟨hl, hn, hm, hr⟩, hy⟩ := h
  by_cases h0 : d.1.f2.length = 0
  · exact ⟨⟨hl, hn, hm, fun hp => absurd h0 (by omega)⟩, fun hp => absurd h0 hp⟩
  · obtain ⟨gd, cells, hA, hb, hc⟩ := hy h0
    have hne : gd ≠ g := by
      rintro rfl
      rw [hc] at hg
      cases hg
    refine ⟨⟨hl, hn, hm, fun hp => ?_⟩, fun _ => ⟨gd, cells, hA, hb, (hk gd hne).trans hc⟩⟩
    obtain ⟨ad, ha, hcell⟩ := hr hp
    rw [hA] at ha
    cases ha
    refine ⟨_, hA, fun j p hj => ?_⟩
    obtain ⟨c, hcl, hK, hcc⟩ := hcell j p hj
    refine ⟨c, hcl, hK, fun i u hu => ?_⟩
    have := hcc i u hu
    rw [add_at] at this ⊢
    rw [cell_same (hk gd hne)]
    exact this
theorem box3B {W : World} {b t : Nat} {x y z : Value} (h : W.heap[b]? = some (.cells #[x, y, z] t (0, 0))) : W.cell? ⟨b, 0, none⟩ = some x ∧ W.cell? ⟨b, 1, none⟩ = some y ∧ W.cell? ⟨b, 2, none⟩ = some z := ⟨blk_cell h 0, blk_cell h 1, blk_cell h 2⟩
theorem drop_cons {α : Type} {l : List α} {i : Nat} (h : i < l.length) : l.drop i = l[i] :: l.drop (i + 1) := List.drop_eq_getElem_cons h
/-- The three cells of a block at its place. -/
theorem cells_at {W : World} {g t : Nat} {pre post : List Value} {x y z : Value} (h : W.heap[g]? = some (.cells ⟨pre ++ ([x, y, z] ++ post)⟩ t (0, 0))) {o : Nat} (hp : pre.length = o) : W.cell? ⟨g, o, none⟩ = some x ∧ W.cell? ⟨g, o + 1, none⟩ = some y ∧ W.cell? ⟨g, o + 2, none⟩ = some z := by
  subst hp
  refine ⟨?_, ?_, ?_⟩ <;> rw [blk_cell h] <;> simp

set_option maxHeartbeats 8000000 in
set_option maxRecDepth 100000 in
theorem twinB_calls (A : Option Addr) (n c : Nat) (xs : List S62) (w : World) (h : Kd.C k62 w A n xs) (hn : n ≤ 1000) (hx : ∀ x ∈ xs, x.f2.length ≤ 100000) :
    Calls Try.prog 38 #[.slice A n c] w fun e w' => ∃ (A' : Option Addr) (c' : Nat) (ds : List BD), e = .returned (.slice A' n c') ∧ ds.map (·.1) = xs ∧ (∀ d ∈ ds, GoodB w' d ∧ YoungD w.heap.size w' d) ∧ (n ≠ 0 → ∃ g rest, A' = some ⟨g, 0, none⟩ ∧ w.heap.size ≤ g ∧ n ≤ c' ∧ w'.heap[g]? = some (.cells ⟨(ds.map cell3).flatten ++ rest⟩ 62 (0, 0))) ∧ Below w.heap.size w w' := by
  obtain ⟨ds, hds, hraw, hgood⟩ := raw_of_C h
  have hdl : ds.length = n := by have := hraw.1; simpa using this
  have HRAW := Aside0.mk hraw
  have HGD := Aside0.mk hgood
  have HDS := Aside0.mk hds
  have HDL := Aside0.mk hdl
  have HX := Aside0.mk hx
  have hn3 : (n : Int) ≤ 1000 := by omega
  have HN := Aside0.mk hn
  clear h hds hraw hgood hdl hx
  go_enter Try.func38, Try.ntmps38
  repeat (first
    | (go_at_call 49; (with_reducible refine (cloneB_calls A n c _ w HRAW.out (by have := HN.out; omega)).mono ?_); rintro e1 w1 ⟨A1, c1, rfl, hR, hb⟩; have HR1 := Aside0.mk hR; have HB1 := Aside0.mk hb; clear hR hb; (try dsimp only))
    | go_values | go_guarded | go_step | go_upon | go_back)
  have hstart : Aside0 (n ≠ 0 → ∃ g rest, A1 = some ⟨g, 0, none⟩ ∧ w.heap.size ≤ g ∧ n ≤ c1 ∧ w1.heap[g]? = some (.cells ⟨(([] : List BD).map cell3).flatten ++ (((ds.drop 0).map cell3).flatten ++ rest)⟩ 62 (0, 0))) := ⟨fun h0 => by
    obtain ⟨g, rest, h1, h2, h3, h4⟩ := raw_block HR1.out h0
    exact ⟨g, rest, h1, h2, h3, by simpa using h4⟩⟩
  clear HR1
  go_loopw [10] (fun v wr => ∃ (i : Nat) (es : List BD), v = .int .i64 i ∧ i ≤ n ∧ es.length = i ∧ es.map (·.1) = (ds.take i).map (·.1) ∧ Aside0 (n ≠ 0 → ∃ g rest, A1 = some ⟨g, 0, none⟩ ∧ w.heap.size ≤ g ∧ n ≤ c1 ∧ wr.heap[g]? = some (.cells ⟨(es.map cell3).flatten ++ (((ds.drop i).map cell3).flatten ++ rest)⟩ 62 (0, 0))) ∧ Aside0 (∀ d ∈ es, GoodB wr d ∧ YoungD w.heap.size wr d) ∧ Aside0 (Below w.heap.size w wr)) (fun v _ => n - (intOf v).toNat)
  case atStart => exact ⟨0, [], rfl, by omega, rfl, rfl, hstart, ⟨fun d hd => by simp at hd⟩, HB1⟩
  case round =>
    clear hstart HB1
    obtain ⟨i, es, rfl, hi, hel, hem, HBK, HES, HB⟩ := hrel
    by_cases hlt : i < n
    · have hd1 : decide ((i : Int) < (n : Int)) = true := decide_eq_true (by omega)
      have hlt2 : (i : Int) < (n : Int) := by omega
      obtain ⟨g, rest, rfl, hgb, hnc, hgc⟩ := HBK.out (by omega)
      have hil : i < ds.length := by rw [HDL.out]; exact hlt
      have hgd := HGD.out ds[i] (List.getElem_mem hil)
      have hxl : ds[i].1.f2.length ≤ 100000 := HX.out _ (by rw [← HDS.out]; exact List.mem_map_of_mem (List.getElem_mem hil))
      rw [drop_cons hil, List.map_cons, List.flatten_cons, List.append_assoc] at hgc
      have hdt : (ds.take (i + 1)).map (·.1) = (ds.take i).map (·.1) ++ [ds[i].1] := by rw [List.take_succ_eq_append_getElem hil, List.map_append]; rfl
      have HDT := Aside0.mk hdt
      clear hdt
      generalize ds[i] = d at hgc hgd hxl HDT
      obtain ⟨⟨f0, f1, f2⟩, Ad, cd⟩ := d
      dsimp only [cell3] at hgc hgd hxl
      obtain ⟨hx0, hx1, hx2⟩ := cells_at hgc (o := i * 3) (by rw [cells3_length, hel])
      have HGC := Aside0.mk hgc
      have HGDD := Aside0.mk hgd
      have HEL := Aside0.mk hel
      have HEM := Aside0.mk hem
      have hnew := heap_alloc_new wr (.cells #[.int .i64 f0, .int .i64 f1, .slice Ad f2.length cd] 62)
      obtain ⟨hy0, hy1, hy2⟩ := box3B hnew
      have hslot : slot_Twin.f f0 f1 f2 = some (f0, f1, f2) := by
        unfold slot_Twin.f slices_Clone_byte_byte.f
        rw [if_pos (by omega)]
        rfl
      have HSL := Aside0.mk hslot
      clear hgc hgd hel hem hnew hslot HBK
      repeat (first
        | (go_at_call 50; (refine (slot_Twin.calls f0 f1 Ad cd f2 f0 f1 f2 _ (Kd.C_alloc (Kd.C_below HGDD.out.2 HB.out) _) HGDD.out.1 HSL.out).mono ?_); rintro e2 w2 ⟨v2, rfl, hR2, hb2⟩; obtain ⟨A2, c2, rfl⟩ := Kd.R_slice hR2; have HR2 := Aside0.mk hR2; have HB2 := Aside0.mk hb2; have HG2 := Aside0.mk (blk_below (blk_alloc HGC.out (.cells #[.int .i64 f0, .int .i64 f1, .slice Ad f2.length cd] 62)) hb2); clear hR2 hb2 hx0 hx1 hx2 hy0 hy1 hy2; (try dsimp only))
        | ((with_reducible refine wpList_store_at 62 (.tmp 19) (.tmp 18) g _ (i * 3) _ _ [.int .i64 f0, .int .i64 f1, .slice A2 f2.length c2] _ rfl rfl ?hx ?hy HG2.out ?hp ?hs ?hi ?h1 ?_); (case hx => rfl); (case hy => rfl); (case hp => rw [cells3_length, HEL.out]); (case hs => rfl); (case hi => rfl); (case h1 => exact cell3_one (⟨f0, f1, f2⟩, A2, c2)); intro w3 q1 q2 q3 q4; have HG3 := Aside0.mk q1; have HQ2 := Aside0.mk q2; have HQ3 := Aside0.mk q3; clear q1 q2 q3 q4)
        | go_values | go_guarded | go_step | go_upon | go_back)
      have hbw2 : Below w.heap.size w w2 := bl (below_alloc HB.out (.cells #[.int .i64 f0, .int .i64 f1, .slice Ad f2.length cd] 62)) HB2.out
      have hbase : w.heap.size ≤ (wr.alloc (.cells #[.int .i64 f0, .int .i64 f1, .slice Ad f2.length cd] 62)).heap.size := (below_alloc HB.out (.cells #[.int .i64 f0, .int .i64 f1, .slice Ad f2.length cd] 62)).size
      refine ⟨⟨i + 1, es ++ [(⟨f0, f1, f2⟩, A2, c2)], rfl, by omega, by rw [List.length_append, HEL.out]; rfl, ?_, ⟨fun _ => ⟨g, rest, rfl, hgb, hnc, ?_⟩⟩, ⟨fun d hd => ?_⟩, ⟨HQ3.out _ _ hbw2 hgb⟩⟩, by simp [intOf]; omega⟩
      · rw [List.map_append, HEM.out, HDT.out]
        rfl
      · rw [HG3.out, List.map_append, List.flatten_append]
        simp [cell3]
      · rcases List.mem_append.1 hd with hd | hd
        · have h2 := HES.out d hd
          exact goodB_store ⟨(h2.1.below (below_alloc (Below.refl _ _) _)).below HB2.out, (h2.2.below (below_alloc (Below.refl _ _) _)).below HB2.out⟩ HG2.out HQ2.out
        · simp only [List.mem_singleton] at hd
          subst hd
          exact goodB_store ⟨⟨(Kd.R_reads' HR2.out).2.1, (Kd.R_reads' HR2.out).2.2⟩, youngD_of_R (x := ⟨f0, f1, f2⟩) HR2.out hbase c2⟩ HG2.out HQ2.out
    · have hd1 : decide ((i : Int) < (n : Int)) = false := decide_eq_false (by omega)
      have hin : i = n := by omega
      subst hin
      have hxs : es.map (·.1) = xs := by rw [hem, List.take_of_length_le (by rw [HDL.out]; exact Nat.le_refl _), HDS.out]
      have HXS := Aside0.mk hxs
      clear hem hxs
      go_wp2
      go_ret
      refine ⟨A1, c1, es, rfl, HXS.out, HES.out, fun h0 => ?_, HB.out⟩
      obtain ⟨g, rest, h1, h2, h3, h4⟩ := HBK.out h0
      refine ⟨g, rest, h1, h2, h3, ?_⟩
      rw [h4, List.drop_of_length_le (by rw [HDL.out]; exact Nat.le_refl _)]
      rfl
end Go.Proofs.Ytknmokpnkcckeaa
