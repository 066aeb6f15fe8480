/-
ChachaBack's own walk: a quarter round is undone, either way round.
-/
import Derived.Test.YteichdiioidlcaaChaPure
import Derived.Test.YteichdiioidlcaaRowWords
import Derived.Test.YteichdiioidlcaaHandUndo
import Derived.Deep.RegionWith
namespace Go.Proofs.Yteichdiioidlcaa
open Go.RowKit Go.Shelf Go.Proofs.YteichdiioidlcaaW.PrintWords Go.Proofs.YteichdiioidlcaaW.PrintLast Go.Proofs.YteichdiioidlcaaW.PrintMore
set_option linter.unusedVariables false
set_option linter.unusedSimpArgs false

theorem quarter_calls (q : Four) (w : World) (hq : q.U) : Calls Try.prog 16 #[.agg q.cells] w fun e w' => e = .returned (.agg (quarterR q).cells) ∧ Below w.heap.size w w' := callsIn_wide.1 (quarter_in q w hq)

theorem undo_calls (q : Four) (w : World) (hq : q.U) : Calls Try.prog 15 #[.agg q.cells] w fun e w' => e = .returned (.agg (undoR q).cells) ∧ Below w.heap.size w w' := callsIn_wide.1 (undo_in q w hq)
theorem fourbox {W : World} {b t : Nat} {x y z u : Value} (h : W.heap[b]? = some (.cells #[x, y, z, u] t (0, 0))) :
    W.cell? ⟨b, 0, none⟩ = some x ∧ W.cell? ⟨b, 1, none⟩ = some y ∧ W.cell? ⟨b, 2, none⟩ = some z ∧ W.cell? ⟨b, 3, none⟩ = some u := ⟨blk_cell h 0, blk_cell h 1, blk_cell h 2, blk_cell h 3⟩
theorem info29 : ∃ i, Try.prog.info? 29 = some i := by
  have : (Try.prog.info? 29).isSome = true := by kernel_rfl
  exact Option.isSome_iff_exists.1 this
theorem eql4 (p q : Four) (w : World) : (binOp .eql 30 (.agg p.cells) (.agg q.cells)).run Try.prog w = .ok (.bool (decide ([p.a, p.b, p.c, p.d] = [q.a, q.b, q.c, q.d]))) w := by
  obtain ⟨i, hi⟩ := info29
  exact run_eql_nums w Try.underlying30 Try.underlying29 hi (by kernel_rfl) [p.a, p.b, p.c, p.d] [q.a, q.b, q.c, q.d] rfl rfl

def aliveQ : Four := ⟨286331153, 16909060, 2609737539, 19088743⟩
theorem alive_quarter : quarterR aliveQ = ⟨3928658676, 3407673550, 1166100270, 1484899515⟩ :=
  four_ext (by decide +kernel) (by decide +kernel) (by decide +kernel) (by decide +kernel)
theorem aliveQ_U : aliveQ.U := by unfold aliveQ Four.U U32; decide

set_option maxHeartbeats 1000000 in
theorem alive3 (w : World) : Calls Try.prog 14 #[] w fun e w' => e = .returned (.bool true) ∧ Below w.heap.size w w' := by
  have hE : ∀ w, (binOp .eql 30 (.agg #[.int .u32 3928658676, .int .u32 3407673550, .int .u32 1166100270, .int .u32 1484899515]) (.agg #[.int .u32 3928658676, .int .u32 3407673550, .int .u32 1166100270, .int .u32 1484899515])).run Try.prog w = .ok (.bool true) w := fun w => by
    have := eql4 ⟨3928658676, 3407673550, 1166100270, 1484899515⟩ ⟨3928658676, 3407673550, 1166100270, 1484899515⟩ w
    rwa [decide_eq_true rfl] at this
  go_enter Try.func14, Try.ntmps14
  go_wp2_with (go_at_call 16; go_loud (refine (quarter_calls aliveQ _ aliveQ_U).mono ?_; rintro e w2 ⟨rfl, hb⟩; rw [alive_quarter]))
  go_ret
  exact ⟨rfl, hb⟩

set_option maxHeartbeats 1500000 in
set_option maxRecDepth 100000 in
theorem back_walk (q : Four) (w : World) (hq : q.U) : Calls Try.prog 4 #[.agg q.cells] w fun e w' => e = .returned (.bool true) ∧ Below w.heap.size w w' := by
  have hE : ∀ w, (binOp .eql 30 (.agg q.cells) (.agg q.cells)).run Try.prog w = .ok (.bool true) w := fun w => by
    have := eql4 q q w
    rwa [decide_eq_true rfl] at this
  have HQ := Aside0.mk hq
  have HQU := Aside0.mk (quarterR_U hq)
  have HUU := Aside0.mk (undoR_U hq)
  have H1 := Aside0.mk (undo_quarter hq)
  have H2 := Aside0.mk (quarter_undo hq)
  clear hq
  go_enter Try.func4, Try.ntmps4
  go_wp2_with (go_at_call 14; go_loud (refine (alive3 _).mono ?_; rintro e w2 ⟨rfl, hb⟩; have hk := blk_below (blk_new w _) hb; have HK := Aside0.mk (blk_drew hk); obtain ⟨g0, g1, g2, g3⟩ := fourbox hk; have HB := Aside0.mk (below_drew (below_step (below_alloc (Below.refl w.heap.size w) _) hb)); clear hb hk))
  go_region_with (first | (go_at_call 16; (with_reducible refine (quarter_calls (q) _ HQ.out).mono ?_); rintro e w3 ⟨rfl, hb3⟩; have hk := blk_below HK.out hb3; obtain ⟨g0, g1, g2, g3⟩ := fourbox hk; have HK := Aside0.mk hk; have HB := Aside0.mk (below_step HB.out hb3); clear hb3 hk) | (go_at_call 15; (with_reducible refine (undo_calls (quarterR q) _ HQU.out).mono ?_); rintro e w4 ⟨rfl, hb4⟩; rw [H1.out]; have hk := blk_below HK.out hb4; obtain ⟨g0, g1, g2, g3⟩ := fourbox hk; have HK := Aside0.mk hk; have HB := Aside0.mk (below_step HB.out hb4); clear hb4 hk) | (go_at_call 15; (with_reducible refine (undo_calls (q) _ HQ.out).mono ?_); rintro e w5 ⟨rfl, hb5⟩; have hk := blk_below HK.out hb5; obtain ⟨g0, g1, g2, g3⟩ := fourbox hk; have HK := Aside0.mk hk; have HB := Aside0.mk (below_step HB.out hb5); clear hb5 hk) | (go_at_call 16; (with_reducible refine (quarter_calls (undoR q) _ HUU.out).mono ?_); rintro e w6 ⟨rfl, hb6⟩; rw [H2.out]; have hk := blk_below HK.out hb6; obtain ⟨g0, g1, g2, g3⟩ := fourbox hk; have HK := Aside0.mk hk; have HB := Aside0.mk (below_step HB.out hb6); clear hb6 hk))
  all_goals
    go_wp2
    go_ret
    exact ⟨rfl, HB.out⟩
end Go.Proofs.Yteichdiioidlcaa
