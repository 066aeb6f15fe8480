/-
The chapter's examples, reckoned; the laws' alive.
-/
import Derived.Test.YtfijclinefmbfaaDoorShaHex
import Derived.Lib.SlBytesConst
namespace Go.Proofs.YtfijclinefmbfaaDoor
open Go.RowKit Go.Proofs.YtfijclinefmbfaaDoorW.PrintWords Go.Proofs.YtfijclinefmbfaaDoorW.PrintLast Go.Proofs.YtfijclinefmbfaaDoorW.PrintMore Go.Proofs.YtfijclinefmbfaaDoor.PAll
set_option linter.unusedVariables false
set_option linter.unusedSimpArgs false

theorem ex_none : hexL (ofA []) = [101, 51, 98, 48, 99, 52, 52, 50, 57, 56, 102, 99, 49, 99, 49, 52, 57, 97, 102, 98, 102, 52, 99, 56, 57, 57, 54, 102, 98, 57, 50, 52, 50, 55, 97, 101, 52, 49, 101, 52, 54, 52, 57, 98, 57, 51, 52, 99, 97, 52, 57, 53, 57, 57, 49, 98, 55, 56, 53, 50, 98, 56, 53, 53] := by decide +kernel
theorem str_none : strOfNums (hexL (ofA [])) = { data := #[101, 51, 98, 48, 99, 52, 52, 50, 57, 56, 102, 99, 49, 99, 49, 52, 57, 97, 102, 98, 102, 52, 99, 56, 57, 57, 54, 102, 98, 57, 50, 52, 50, 55, 97, 101, 52, 49, 101, 52, 54, 52, 57, 98, 57, 51, 52, 99, 97, 52, 57, 53, 57, 57, 49, 98, 55, 56, 53, 50, 98, 56, 53, 53] } := by rw [ex_none]; rfl
theorem ex_abc : hexL (ofA [97, 98, 99]) = [98, 97, 55, 56, 49, 54, 98, 102, 56, 102, 48, 49, 99, 102, 101, 97, 52, 49, 52, 49, 52, 48, 100, 101, 53, 100, 97, 101, 50, 50, 50, 51, 98, 48, 48, 51, 54, 49, 97, 51, 57, 54, 49, 55, 55, 97, 57, 99, 98, 52, 49, 48, 102, 102, 54, 49, 102, 50, 48, 48, 49, 53, 97, 100] := by decide +kernel
theorem str_abc : strOfNums (hexL (ofA [97, 98, 99])) = { data := #[98, 97, 55, 56, 49, 54, 98, 102, 56, 102, 48, 49, 99, 102, 101, 97, 52, 49, 52, 49, 52, 48, 100, 101, 53, 100, 97, 101, 50, 50, 50, 51, 98, 48, 48, 51, 54, 49, 97, 51, 57, 54, 49, 55, 55, 97, 57, 99, 98, 52, 49, 48, 102, 102, 54, 49, 102, 50, 48, 48, 49, 53, 97, 100] } := by rw [ex_abc]; rfl
theorem ex_long : hexL (ofA [97, 98, 99, 100, 98, 99, 100, 101, 99, 100, 101, 102, 100, 101, 102, 103, 101, 102, 103, 104, 102, 103, 104, 105, 103, 104, 105, 106, 104, 105, 106, 107, 105, 106, 107, 108, 106, 107, 108, 109, 107, 108, 109, 110, 108, 109, 110, 111, 109, 110, 111, 112, 110, 111, 112, 113]) = [50, 52, 56, 100, 54, 97, 54, 49, 100, 50, 48, 54, 51, 56, 98, 56, 101, 53, 99, 48, 50, 54, 57, 51, 48, 99, 51, 101, 54, 48, 51, 57, 97, 51, 51, 99, 101, 52, 53, 57, 54, 52, 102, 102, 50, 49, 54, 55, 102, 54, 101, 99, 101, 100, 100, 52, 49, 57, 100, 98, 48, 54, 99, 49] := by decide +kernel
theorem str_long : strOfNums (hexL (ofA [97, 98, 99, 100, 98, 99, 100, 101, 99, 100, 101, 102, 100, 101, 102, 103, 101, 102, 103, 104, 102, 103, 104, 105, 103, 104, 105, 106, 104, 105, 106, 107, 105, 106, 107, 108, 106, 107, 108, 109, 107, 108, 109, 110, 108, 109, 110, 111, 109, 110, 111, 112, 110, 111, 112, 113])) = { data := #[50, 52, 56, 100, 54, 97, 54, 49, 100, 50, 48, 54, 51, 56, 98, 56, 101, 53, 99, 48, 50, 54, 57, 51, 48, 99, 51, 101, 54, 48, 51, 57, 97, 51, 51, 99, 101, 52, 53, 57, 54, 52, 102, 102, 50, 49, 54, 55, 102, 54, 101, 99, 101, 100, 100, 52, 49, 57, 100, 98, 48, 54, 99, 49] } := by rw [ex_long]; rfl
theorem ofA_length (l : List Int) : (ofA l).length = 32 := digestA_length _
theorem ofA_u8 (l : List Int) : ∀ x ∈ ofA l, 0 ≤ x ∧ x < 256 := by
  intro x hx
  simp only [ofA, endA, digestA, List.mem_map] at hx
  obtain ⟨i, _, rfl⟩ := hx
  omega
theorem hex_of (l : List Int) (w : World) : Calls Tryd.prog 21 #[.agg ⟨(ofA l).map (Value.int .u8)⟩] w fun e w' => e = .returned (.string (strOfNums (hexL (ofA l)))) ∧ Below w.heap.size w w' :=
  hex_calls _ (ofA_length l) (ofA_u8 l) w
theorem of_nil (w : World) (hk : Ktab w) : Calls Tryd.prog 8 #[.slice none 0 0] w fun e w' => e = .returned (.agg ⟨(ofA []).map (Value.int .u8)⟩) ∧ Below w.heap.size w w' :=
  of_calls none 0 [] w (fun i p h => by simp at h) (by simp) (by simp [flatP]) hk
/-- A slice's part as of_calls takes it. -/
theorem of_parts1 (w : World) (gb : Nat) (fr : Nat × Nat) (t : Nat) (A1 : Option Addr) (c1 : Nat) (l1 : List Int) (hg : w.heap[gb]? = some (.cells #[.slice A1 l1.length c1] t fr)) (h1 : Kd.C (Kd.int .u8) w A1 l1.length l1) (hc1 : l1.length ≤ c1) (ht : l1.length ≤ 100000) (hk : Ktab w) :
    Calls Tryd.prog 8 #[.slice (some ⟨gb, 0, none⟩) 1 1] w fun e w' => e = .returned (.agg ⟨(ofA l1).map (Value.int .u8)⟩) ∧ Below w.heap.size w w' := by
  have := of_calls (some ⟨gb, 0, none⟩) 1 [(A1, c1, l1)] w (fun i p h => by
    match i, h with
    | 0, h =>
      simp only [List.getElem?_cons_zero, Option.some.injEq] at h
      subst h
      exact ⟨⟨gb, rfl, (cell_of_row w gb 0 _ t fr hg).trans rfl⟩, h1, hc1⟩
    | i + 1, h => simp at h) (by simp) (by simpa [flatP] using ht) hk
  simpa [flatP] using this
theorem of_parts2 (w : World) (gb : Nat) (fr : Nat × Nat) (t : Nat) (A1 : Option Addr) (c1 : Nat) (l1 : List Int) (A2 : Option Addr) (c2 : Nat) (l2 : List Int) (hg : w.heap[gb]? = some (.cells #[.slice A1 l1.length c1, .slice A2 l2.length c2] t fr)) (h1 : Kd.C (Kd.int .u8) w A1 l1.length l1) (hc1 : l1.length ≤ c1) (h2 : Kd.C (Kd.int .u8) w A2 l2.length l2) (hc2 : l2.length ≤ c2) (ht : l1.length + l2.length ≤ 100000) (hk : Ktab w) :
    Calls Tryd.prog 8 #[.slice (some ⟨gb, 0, none⟩) 2 2] w fun e w' => e = .returned (.agg ⟨(ofA (l1 ++ l2)).map (Value.int .u8)⟩) ∧ Below w.heap.size w w' := by
  have := of_calls (some ⟨gb, 0, none⟩) 2 [(A1, c1, l1), (A2, c2, l2)] w (fun i p h => by
    match i, h with
    | 0, h =>
      simp only [List.getElem?_cons_zero, Option.some.injEq] at h
      subst h
      exact ⟨⟨gb, rfl, (cell_of_row w gb 0 _ t fr hg).trans rfl⟩, h1, hc1⟩
    | 1, h =>
      simp only [List.getElem?_cons_succ, List.getElem?_cons_zero, Option.some.injEq] at h
      subst h
      exact ⟨⟨gb, rfl, (cell_of_row w gb 1 _ t fr hg).trans rfl⟩, h2, hc2⟩
    | i + 2, h => simp at h) (by simp) (by simpa [flatP] using ht) hk
  simpa [flatP] using this
theorem of_parts3 (w : World) (gb : Nat) (fr : Nat × Nat) (t : Nat) (A1 : Option Addr) (c1 : Nat) (l1 : List Int) (A2 : Option Addr) (c2 : Nat) (l2 : List Int) (A3 : Option Addr) (c3 : Nat) (l3 : List Int) (hg : w.heap[gb]? = some (.cells #[.slice A1 l1.length c1, .slice A2 l2.length c2, .slice A3 l3.length c3] t fr)) (h1 : Kd.C (Kd.int .u8) w A1 l1.length l1) (hc1 : l1.length ≤ c1) (h2 : Kd.C (Kd.int .u8) w A2 l2.length l2) (hc2 : l2.length ≤ c2) (h3 : Kd.C (Kd.int .u8) w A3 l3.length l3) (hc3 : l3.length ≤ c3) (ht : l1.length + l2.length + l3.length ≤ 100000) (hk : Ktab w) :
    Calls Tryd.prog 8 #[.slice (some ⟨gb, 0, none⟩) 3 3] w fun e w' => e = .returned (.agg ⟨(ofA (l1 ++ l2 ++ l3)).map (Value.int .u8)⟩) ∧ Below w.heap.size w w' := by
  have := of_calls (some ⟨gb, 0, none⟩) 3 [(A1, c1, l1), (A2, c2, l2), (A3, c3, l3)] w (fun i p h => by
    match i, h with
    | 0, h =>
      simp only [List.getElem?_cons_zero, Option.some.injEq] at h
      subst h
      exact ⟨⟨gb, rfl, (cell_of_row w gb 0 _ t fr hg).trans rfl⟩, h1, hc1⟩
    | 1, h =>
      simp only [List.getElem?_cons_succ, List.getElem?_cons_zero, Option.some.injEq] at h
      subst h
      exact ⟨⟨gb, rfl, (cell_of_row w gb 1 _ t fr hg).trans rfl⟩, h2, hc2⟩
    | 2, h =>
      simp only [List.getElem?_cons_succ, List.getElem?_cons_zero, Option.some.injEq] at h
      subst h
      exact ⟨⟨gb, rfl, (cell_of_row w gb 2 _ t fr hg).trans rfl⟩, h3, hc3⟩
    | i + 3, h => simp at h) (by simp) (by simp [flatP]; omega) hk
  simpa [flatP, List.append_assoc] using this
theorem heap3 (w : World) (a b c : Obj) : (((w.alloc a).alloc b).alloc c).heap[w.heap.size]? = some a ∧ (((w.alloc a).alloc b).alloc c).heap[w.heap.size + 1]? = some b ∧ (((w.alloc a).alloc b).alloc c).heap[w.heap.size + 2]? = some c := by
  obtain ⟨h1, h2⟩ := alloc2 w a b
  exact ⟨blk_alloc h1 c, blk_alloc h2 c, alloc_at (X := (w.alloc a).alloc b) c⟩

set_option maxHeartbeats 4000000 in
set_option maxRecDepth 100000 in
theorem alive_calls (w : World) (hk : Ktab w) : Calls Tryd.prog 20 #[] w fun e w' => e = .returned (.bool true) ∧ Below w.heap.size w w' := by
  have HK := Aside0.mk hk
  clear hk
  have hconv1 : ∀ W : World, (convert 22 22 (.slice (some ⟨W.heap.size, 0, none⟩) 1 1)).run Tryd.prog (W.alloc (.cells #[.int .u8 97] 5)) = .ok (.slice (some ⟨W.heap.size, 0, none⟩) 1 1) (W.alloc (.cells #[.int .u8 97] 5 (1, 2))) := fun W =>
    Lib.run_convert_bytes_const (P := Tryd.prog) W 22 5 #[.int .u8 97] 1 1 Tryd.underlying22 (by kernel_rfl)
  have hconv2 : ∀ (W : World) (o : Obj), (convert 22 22 (.slice (some ⟨W.heap.size + 1, 0, none⟩) 2 2)).run Tryd.prog ((W.alloc o).alloc (.cells #[.int .u8 98, .int .u8 99] 5)) = .ok (.slice (some ⟨W.heap.size + 1, 0, none⟩) 2 2) ((W.alloc o).alloc (.cells #[.int .u8 98, .int .u8 99] 5 (2, 3))) := fun W o => by
    have := Lib.run_convert_bytes_const (P := Tryd.prog) (W.alloc o) 22 5 #[.int .u8 98, .int .u8 99] 2 2 Tryd.underlying22 (by kernel_rfl)
    rw [World.size_alloc] at this
    exact this
  go_enter Tryd.func20, Tryd.ntmps20
  repeat (first
    | (go_at_call 8; (with_reducible refine (of_nil _ HK.out).mono ?_); rintro e2 w2 ⟨rfl, hb2⟩; have HB2 := Aside0.mk hb2; clear hb2; dsimp only)
    | (go_at_call 21; (with_reducible refine (hex_of [] w2).mono ?_); rintro e3 w3 ⟨rfl, hb3⟩; rw [str_none]; have HB3 := Aside0.mk (bl HB2.out hb3); clear hb3; dsimp only)
    | (go_at_call 8; (with_reducible refine (of_parts3 _ (w3.heap.size + 1 + 1) (0, 0) 22 (some ⟨w3.heap.size, 0, none⟩) 1 [97] none 0 [] (some ⟨w3.heap.size + 1, 0, none⟩) 2 [98, 99] ?cG ?cA (by decide) ?cB (by decide) ?cC (by decide) (by decide) ?cK).mono ?_); (case cG => exact (heap3 w3 _ _ _).2.2); (case cA => exact Kd.F_now (F_row .u8 [97] (ok := fun _ => True) (by simp) trivial (heap3 w3 _ _ _).1)); (case cB => exact Kd.C_nil _ _); (case cC => exact Kd.F_now (F_row .u8 [98, 99] (ok := fun _ => True) (by simp) trivial (heap3 w3 _ _ _).2.1)); (case cK => exact HK.out.below (below_alloc (below_alloc (below_alloc HB3.out _) _) _)); rintro e4 w4 ⟨rfl, hb4⟩; rw [show ([97] ++ [] ++ [98, 99] : List Int) = [97, 98, 99] from rfl]; have HB4 := Aside0.mk (bl (below_alloc (below_alloc (below_alloc HB3.out _) _) _) hb4); clear hb4; dsimp only)
    | (go_at_call 21; (with_reducible refine (hex_of [97, 98, 99] w4).mono ?_); rintro e5 w5 ⟨rfl, hb5⟩; rw [str_abc]; have HB5 := Aside0.mk (bl HB4.out hb5); clear hb5; dsimp only)
    | go_values | go_guarded | go_step | go_upon | go_back)
  go_ret
  exact ⟨rfl, HB5.out⟩
end Go.Proofs.YtfijclinefmbfaaDoor
