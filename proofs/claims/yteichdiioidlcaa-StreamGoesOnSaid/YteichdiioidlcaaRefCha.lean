/-
ref03's words: rolled, Quarter, Undo.
-/
import Derived.Test.YteichdiioidlcaaHandUndo
import Derived.Test.YteichdiioidlcaaHandDouble
namespace Go.Proofs.Yteichdiioidlcaa
open Go.RowKit Go.Shelf Go.Proofs.YteichdiioidlcaaW.PrintWords Go.Proofs.YteichdiioidlcaaW.PrintLast Go.Proofs.YteichdiioidlcaaW.PrintMore
set_option linter.unusedVariables false
set_option linter.unusedSimpArgs false

set_option maxHeartbeats 4000000 in
set_option maxRecDepth 100000 in
theorem refQuarter_calls (q : Four) (w : World) (hq : q.U) : Calls Try.prog 17 #[.agg q.cells] w fun e w' => e = .returned (.agg (quarterR q).cells) ∧ Below w.heap.size w w' := by
  obtain ⟨a, b, c, d⟩ := q
  obtain ⟨ha, hb, hc, hd⟩ := hq
  have HB := Aside0.mk (Below.refl w.heap.size w)
  have HE := Aside0.mk (show quarterR ⟨a, b, c, d⟩ = ⟨((((a + b) % 4294967296) + (rotL (Go.bits .xor .u32 b ((c + (rotL (Go.bits .xor .u32 d ((a + b) % 4294967296)) 16)) % 4294967296)) 12)) % 4294967296), (rotL (Go.bits .xor .u32 (rotL (Go.bits .xor .u32 b ((c + (rotL (Go.bits .xor .u32 d ((a + b) % 4294967296)) 16)) % 4294967296)) 12) ((((c + (rotL (Go.bits .xor .u32 d ((a + b) % 4294967296)) 16)) % 4294967296) + (rotL (Go.bits .xor .u32 (rotL (Go.bits .xor .u32 d ((a + b) % 4294967296)) 16) ((((a + b) % 4294967296) + (rotL (Go.bits .xor .u32 b ((c + (rotL (Go.bits .xor .u32 d ((a + b) % 4294967296)) 16)) % 4294967296)) 12)) % 4294967296)) 8)) % 4294967296)) 7), ((((c + (rotL (Go.bits .xor .u32 d ((a + b) % 4294967296)) 16)) % 4294967296) + (rotL (Go.bits .xor .u32 (rotL (Go.bits .xor .u32 d ((a + b) % 4294967296)) 16) ((((a + b) % 4294967296) + (rotL (Go.bits .xor .u32 b ((c + (rotL (Go.bits .xor .u32 d ((a + b) % 4294967296)) 16)) % 4294967296)) 12)) % 4294967296)) 8)) % 4294967296), (rotL (Go.bits .xor .u32 (rotL (Go.bits .xor .u32 d ((a + b) % 4294967296)) 16) ((((a + b) % 4294967296) + (rotL (Go.bits .xor .u32 b ((c + (rotL (Go.bits .xor .u32 d ((a + b) % 4294967296)) 16)) % 4294967296)) 12)) % 4294967296)) 8)⟩ from rfl)
  go_enter Try.func17, Try.ntmps17
  go_wp2_with (first | (go_at_call 30; (with_reducible refine (rolled16 _ _ ?hU16).mono ?_); (case hU16 => first | exact bits_u32 _ _ _ | assumption); rintro e w' ⟨rfl, rfl⟩) | (go_at_call 30; (with_reducible refine (rolled12 _ _ ?hU12).mono ?_); (case hU12 => first | exact bits_u32 _ _ _ | assumption); rintro e w' ⟨rfl, rfl⟩) | (go_at_call 30; (with_reducible refine (rolled8 _ _ ?hU8).mono ?_); (case hU8 => first | exact bits_u32 _ _ _ | assumption); rintro e w' ⟨rfl, rfl⟩) | (go_at_call 30; (with_reducible refine (rolled7 _ _ ?hU7).mono ?_); (case hU7 => first | exact bits_u32 _ _ _ | assumption); rintro e w' ⟨rfl, rfl⟩))
  go_region
  go_wp2_with (first | (go_at_call 30; (with_reducible refine (rolled16 _ _ ?hU16).mono ?_); (case hU16 => first | exact bits_u32 _ _ _ | assumption); rintro e w' ⟨rfl, rfl⟩) | (go_at_call 30; (with_reducible refine (rolled12 _ _ ?hU12).mono ?_); (case hU12 => first | exact bits_u32 _ _ _ | assumption); rintro e w' ⟨rfl, rfl⟩) | (go_at_call 30; (with_reducible refine (rolled8 _ _ ?hU8).mono ?_); (case hU8 => first | exact bits_u32 _ _ _ | assumption); rintro e w' ⟨rfl, rfl⟩) | (go_at_call 30; (with_reducible refine (rolled7 _ _ ?hU7).mono ?_); (case hU7 => first | exact bits_u32 _ _ _ | assumption); rintro e w' ⟨rfl, rfl⟩))
  refine bodyPost_ret (v := .agg (quarterR ⟨a, b, c, d⟩).cells) ?_ rfl ⟨rfl, ?_⟩
  · rw [HE.out]
    simp [results, Try.results17, go_sem]
  · exact below_drew1 (below_alloc (below_alloc HB.out _) _)

set_option maxHeartbeats 4000000 in
set_option maxRecDepth 100000 in
theorem refUndo_calls (q : Four) (w : World) (hq : q.U) : Calls Try.prog 18 #[.agg q.cells] w fun e w' => e = .returned (.agg (undoR q).cells) ∧ Below w.heap.size w w' := by
  obtain ⟨a, b, c, d⟩ := q
  obtain ⟨ha, hb, hc, hd⟩ := hq
  have HB := Aside0.mk (Below.refl w.heap.size w)
  have HE := Aside0.mk (show undoR ⟨a, b, c, d⟩ = ⟨((((a - (Go.bits .xor .u32 (rotL b 25) c)) % 4294967296) - (Go.bits .xor .u32 (rotL (Go.bits .xor .u32 (rotL b 25) c) 20) ((c - d) % 4294967296))) % 4294967296), (Go.bits .xor .u32 (rotL (Go.bits .xor .u32 (rotL b 25) c) 20) ((c - d) % 4294967296)), ((((c - d) % 4294967296) - (Go.bits .xor .u32 (rotL d 24) a)) % 4294967296), (Go.bits .xor .u32 (rotL (Go.bits .xor .u32 (rotL d 24) a) 16) ((a - (Go.bits .xor .u32 (rotL b 25) c)) % 4294967296))⟩ from rfl)
  go_enter Try.func18, Try.ntmps18
  go_wp2_with (first | (go_at_call 30; (with_reducible refine (rolled25 _ _ ?hU25).mono ?_); (case hU25 => first | exact bits_u32 _ _ _ | assumption); rintro e w' ⟨rfl, rfl⟩) | (go_at_call 30; (with_reducible refine (rolled24 _ _ ?hU24).mono ?_); (case hU24 => first | exact bits_u32 _ _ _ | assumption); rintro e w' ⟨rfl, rfl⟩) | (go_at_call 30; (with_reducible refine (rolled20 _ _ ?hU20).mono ?_); (case hU20 => first | exact bits_u32 _ _ _ | assumption); rintro e w' ⟨rfl, rfl⟩) | (go_at_call 30; (with_reducible refine (rolled16 _ _ ?hU16).mono ?_); (case hU16 => first | exact bits_u32 _ _ _ | assumption); rintro e w' ⟨rfl, rfl⟩))
  go_region
  go_wp2_with (first | (go_at_call 30; (with_reducible refine (rolled25 _ _ ?hU25).mono ?_); (case hU25 => first | exact bits_u32 _ _ _ | assumption); rintro e w' ⟨rfl, rfl⟩) | (go_at_call 30; (with_reducible refine (rolled24 _ _ ?hU24).mono ?_); (case hU24 => first | exact bits_u32 _ _ _ | assumption); rintro e w' ⟨rfl, rfl⟩) | (go_at_call 30; (with_reducible refine (rolled20 _ _ ?hU20).mono ?_); (case hU20 => first | exact bits_u32 _ _ _ | assumption); rintro e w' ⟨rfl, rfl⟩) | (go_at_call 30; (with_reducible refine (rolled16 _ _ ?hU16).mono ?_); (case hU16 => first | exact bits_u32 _ _ _ | assumption); rintro e w' ⟨rfl, rfl⟩))
  refine bodyPost_ret (v := .agg (undoR ⟨a, b, c, d⟩).cells) ?_ rfl ⟨rfl, ?_⟩
  · rw [HE.out]
    simp [results, Try.results18, go_sem]
  · exact below_drew1 (below_alloc (below_alloc HB.out _) _)

end Go.Proofs.Yteichdiioidlcaa
