/-
The chapter's block (a literal with bytes of a constant): what the call computes, and that it does so.
-/
import Derived.Test.YtnnknbbgkjgbcaaHandSlot
import Derived.Lib.SlBytesConst
namespace Go.Proofs.Ytnnknbbgkjgbcaa
open Go.RowKit Go.Proofs.YtnnknbbgkjgbcaaW.PrintWords Go.Proofs.YtnnknbbgkjgbcaaW.PrintLast Go.Proofs.YtnnknbbgkjgbcaaW.PrintMore Go.Proofs.Ytnnknbbgkjgbcaa.PAll
set_option linter.unusedVariables false
set_option linter.unusedSimpArgs false

/-- A block of numbers, marked or not, read as a row. -/
theorem F_lit {W : World} {b t : Nat} {fr : Nat × Nat} (k : IntKind) (zs : List Int) (hz : zs.length ≤ 9223372036854775807) {ok : Nat → Prop} (hok : ok b) (h : W.heap[b]? = some (.cells (zs.map (Value.int k)).toArray t fr)) :
    Kd.F (Kd.int k) W ok (some ⟨b, 0, none⟩) zs.length zs := by
  intro W' hW
  have hlt : b < W.heap.size := (Array.getElem?_eq_some_iff.1 h).1
  have h' : W'.heap[b]? = some (.cells (zs.map (Value.int k)).toArray t fr) := (hW b hok hlt).trans h
  refine ⟨rfl, hz, fun _ => ⟨_, rfl, fun j p hj => ?_⟩⟩
  refine ⟨[.int k p], rfl, rfl, fun i u hu => ?_⟩
  have hi : i = 0 := by
    rcases i with _ | i
    · rfl
    · simp at hu
  subst hi
  simp only [List.getElem?_cons_zero, Option.some.injEq] at hu
  subst hu
  have hc : ∀ k', W'.cell? ⟨b, k', none⟩ = (zs.map (Value.int k)).toArray[k']? := fun k' => cell_of_row W' b k' _ t fr h'
  have he : (⟨b, 0, none⟩ : Addr).add (j * (Kd.int k).sz + 0) = ⟨b, j, none⟩ := by rw [add_at]; simp [Kd.int, Kd.scalar]
  rw [he, hc]
  simp [hj]

def law09_block.f : Option (Int × Int × List Int) := some (2, 5, [97, 98, 99, 100])

set_option maxHeartbeats 4000000 in
set_option maxRecDepth 100000 in
theorem block_any (w : World) :
    Calls Try.prog 41 #[] w fun e w' => ∃ v2_ : Value, e = .returned (.agg #[.int .i64 2, .int .i64 5, v2_]) ∧ Kd.V (Kd.int .u8) 5 w' w.heap.size (fun k_ => w.heap.size ≤ k_) v2_ [97, 98, 99, 100] ∧ Below w.heap.size w w' := by
  have hconv : ∀ o : Obj, (convert 28 28 (.slice (some ⟨w.heap.size + 1, 0, none⟩) 4 4)).run Try.prog ((w.alloc o).alloc (.cells #[.int .u8 97, .int .u8 98, .int .u8 99, .int .u8 100] 5)) = .ok (.slice (some ⟨w.heap.size + 1, 0, none⟩) 4 4) ((w.alloc o).alloc (.cells #[.int .u8 97, .int .u8 98, .int .u8 99, .int .u8 100] 5 (4, 5))) := fun o => by
    have := Lib.run_convert_bytes_const (P := Try.prog) (w.alloc o) 28 5 #[.int .u8 97, .int .u8 98, .int .u8 99, .int .u8 100] 4 4 Try.underlying28 (by kernel_rfl)
    rw [World.size_alloc] at this
    exact this
  go_enter Try.func41, Try.ntmps41
  go_wp2
  refine bodyPost_ret (v := .agg #[.int .i64 2, .int .i64 5, .slice (some ⟨w.heap.size + 1, 0, none⟩) 4 4]) ?_ rfl ⟨_, rfl, ?_, ?_⟩
  · simp [results, Try.results41, go_sem]
  · exact Kd.V_mk (xs := [97, 98, 99, 100]) (c := 4) (by decide) (F_lit .u8 [97, 98, 99, 100] (by simp) (by omega) (heap_two w _ _).2)
  · exact below_alloc (below_alloc (Below.refl _ _) _) _

theorem law09_block.calls (r1 r2 : Int) (r3 : List Int) (w : World) (h : law09_block.f = some (r1, r2, r3)) :
    Calls Try.prog 41 #[] w fun e w' => ∃ v2_ : Value, e = .returned (.agg #[.int .i64 r1, .int .i64 r2, v2_]) ∧ Kd.V (Kd.int .u8) 5 w' w.heap.size (fun k_ => w.heap.size ≤ k_) v2_ r3 ∧ Below w.heap.size w w' := by
  simp only [law09_block.f, Option.some.injEq, Prod.mk.injEq] at h
  obtain ⟨rfl, rfl, rfl⟩ := h
  exact block_any w
end Go.Proofs.Ytnnknbbgkjgbcaa
