/-
law10.BucketNames.
-/
import Derived.Test.YtknmokpnkcckeaaNamesP
namespace Go.Proofs.Ytknmokpnkcckeaa
open Go.RowKit Go.Proofs.YtknmokpnkcckeaaW.PrintWords Go.Proofs.YtknmokpnkcckeaaW.PrintLast Go.Proofs.YtknmokpnkcckeaaW.PrintMore Go.Proofs.Ytknmokpnkcckeaa.PAll
set_option linter.unusedVariables false
set_option linter.unusedSimpArgs false

theorem rdShort_calls (A : Option Addr) (c : Nat) (w : World) (hr : Kd.C (Kd.int .u8) w A 87 shortT) (hc : 87 ≤ c) :
    Calls Try.prog 27 #[.agg #[.int .i64 8, .int .i64 4, .int .i64 3, .int .i64 88], .slice A 87 c] w fun r w' => ∃ A' c', r = .returned (.tuple #[.agg ⟨bkC A' 0 c' dig0 dig0⟩, .int .i64 10]) ∧ Below w.heap.size w w' := by
  have h := rdBad_calls shortT 10 A c w shortT_bytes short_err (by decide) (by rw [shortT_length]; exact hr) (by rw [shortT_length]; exact hc)
  rw [shortT_length] at h
  exact h

set_option maxHeartbeats 16000000 in
set_option maxRecDepth 100000 in
theorem names_calls (w : World) : Calls Try.prog 6 #[] w fun e w' => e = .returned (.bool true) ∧ Below w.heap.size w w' := by
  have hmk : ∀ W : World, (Instr.makeSlice 43 (.int .i64 12) (.int .i64 12)).run Try.prog W = .ok (.slice (some ⟨W.heap.size, 0, none⟩) 12 12) (W.alloc (.cells (madeCells #[.int .u8 0] 12) 5)) := fun W => print_make (P := Try.prog) 43 5 .u8 1 Try.underlying43 info5 (by decide) 12 (by decide) W
  have hconv1 : ∀ W : World, (convert 43 43 (.slice (some ⟨W.heap.size, 0, none⟩) 4 4)).run Try.prog (W.alloc (.cells #[.int .u8 97, .int .u8 98, .int .u8 99, .int .u8 100] 5)) = .ok (.slice (some ⟨W.heap.size, 0, none⟩) 4 4) (W.alloc (.cells #[.int .u8 97, .int .u8 98, .int .u8 99, .int .u8 100] 5 (4, 5))) := fun W =>
    Lib.run_convert_bytes_const (P := Try.prog) W 43 5 #[.int .u8 97, .int .u8 98, .int .u8 99, .int .u8 100] 4 4 Try.underlying43 (by kernel_rfl)
  have hconv2 : ∀ (W : World) (o : Obj), (convert 43 43 (.slice (some ⟨W.heap.size + 1, 0, none⟩) 4 4)).run Try.prog ((W.alloc o).alloc (.cells #[.int .u8 97, .int .u8 98, .int .u8 99, .int .u8 100] 5)) = .ok (.slice (some ⟨W.heap.size + 1, 0, none⟩) 4 4) ((W.alloc o).alloc (.cells #[.int .u8 97, .int .u8 98, .int .u8 99, .int .u8 100] 5 (4, 5))) := fun W o => by
    have := hconv1 (W.alloc o)
    rw [World.size_alloc] at this
    exact this
  go_enter Try.func6, Try.ntmps6
  repeat (first
    | (go_at_call 18; (with_reducible refine (wr1_calls (some ⟨g2, 0, none⟩) 1 w2 HO.out).mono ?_); rintro e3 w3 ⟨A1, c1, rfl, hc1, hC1, hb⟩; have HC1 := Aside0.mk hc1; have HX1 := Aside0.mk hC1; have HB := Aside0.mk (bl HB.out hb); clear hb hc1 hC1 HO; (try dsimp only))
    | (go_at_call 30; with_reducible refine (one_calls w1).mono ?_; rintro e1 w2 ⟨g2, h2, rfl, hg2, hG2, hC2, hb⟩; have HO := Aside0.mk (one_C hG2 hC2); have HB := Aside0.mk (bl HB.out hb); clear hb hg2 hG2 hC2; (try dsimp only))
    | (go_at_call 29; refine (level_calls w).mono ?_; rintro e1 w1 ⟨rfl, hb⟩; have HB := Aside0.mk hb; clear hb; (try dsimp only))
    | go_values | go_guarded | go_step | go_upon | go_back)
  obtain ⟨hr12, hC12⟩ := z1_take A1 c1 HC1.out
  obtain ⟨A24, hr24, hC24⟩ := z1_drop A1 c1 HC1.out
  have HR12 := Aside0.mk hr12
  have HR24 := Aside0.mk hr24
  have HC12 := Aside0.mk hC12
  have HC24 := Aside0.mk hC24
  clear hr12 hr24 hC12 hC24
  refine start_ (n := 8) (S := fun w' => Below w3.heap.size w3 w') (ds := [3, 6]) #[false, false, false, false, false, false, false, false] (by kernel_rfl) rfl rfl (below_drew (Below.refl _ _)) (fun hHeld => ?_)
  refine pure_ (i := 1) (N := (some 26)) (v := ?_) (a' := ?_) #[false, true, false, false, false, false, false, false] rfl rfl (by kernel_rfl) (fun _ _ _ h => h) (Or.inl ⟨by rfl, ?_⟩) ?_ ?_
  rotate_left
  · intro w'
    go_simp
    with_reducible rfl
  rotate_left
  · simp only [Act.put, List.setIfInBounds_toArray, List.set_cons_zero, List.set_cons_succ, i64_w, i32_w]
    rfl
  refine pure_ (i := 2) (N := (some 27)) (v := ?_) (a' := ?_) #[false, true, true, false, false, false, false, false] rfl rfl (by kernel_rfl) (fun _ _ _ h => h) (Or.inl ⟨by rfl, ?_⟩) ?_ ?_
  rotate_left
  · intro w'
    refine exec_cutT (s := .slice A1 12 c1) (x := .tmp 26) (h := .const (.int .i64 12)) (by rw [Try.underlying43]; rfl) ?_ ?_ ?_ (HR12.out w')
    · rfl
    · rfl
    · rfl
  rotate_left
  · simp only [Act.put, List.setIfInBounds_toArray, List.set_cons_zero, List.set_cons_succ, i64_w, i32_w]
    rfl
  refine pure_ (i := 4) (N := (some 29)) (v := ?_) (a' := ?_) #[false, true, true, false, true, false, false, false] rfl rfl (by kernel_rfl) (fun _ _ _ h => h) (Or.inl ⟨by rfl, ?_⟩) ?_ ?_
  rotate_left
  · intro w'
    go_simp
    with_reducible rfl
  rotate_left
  · simp only [Act.put, List.setIfInBounds_toArray, List.set_cons_zero, List.set_cons_succ, i64_w, i32_w]
    rfl
  refine pure_ (i := 5) (N := (some 30)) (v := ?_) (a' := ?_) #[false, true, true, false, true, true, false, false] rfl rfl (by kernel_rfl) (fun _ _ _ h => h) (Or.inl ⟨by rfl, ?_⟩) ?_ ?_
  rotate_left
  · intro w'
    refine exec_cutD (s := .slice A24 64 (c1 - 24)) (x := .tmp 29) (l := .const (.int .i64 24)) (by rw [Try.underlying43]; rfl) ?_ ?_ ?_ (HR24.out w')
    · rfl
    · rfl
    · rfl
  rotate_left
  · simp only [Act.put, List.setIfInBounds_toArray, List.set_cons_zero, List.set_cons_succ, i64_w, i32_w]
    rfl
  refine one_ (i := 0) (N := (some 25)) #[true, true, true, false, true, true, false, false] rfl rfl (by kernel_rfl) (by decide) (fun K hK => ?_)
  refine ite_wanted rfl ?_
  go_simp
  obtain ⟨w4, hw5⟩ : ∃ Y, Y = w3.drew.alloc (.cells (madeCells #[.int .u8 0] 12) 5) := ⟨_, rfl⟩
  have hz := mk12_R w3.drew w3.heap.size (Nat.le_refl _)
  have hS := below_alloc hHeld (.cells (madeCells #[.int .u8 0] 12) 5)
  have hsz : (w3.drew.alloc (.cells (madeCells #[.int .u8 0] 12) 5)).heap.size = w3.heap.size + 1 := World.size_alloc _ _
  rw [← hw5] at hz hS hsz
  refine at_world (K := K) hw5 ?_
  clear hw5
  have HK9 := Aside0.mk hz
  refine hK.out _ _ hS (fun hHeld => ?_)
  clear hK K hS hz
  refine last_ (i := 3) (N := (some 28)) #[true, true, true, true, true, true, false, false] rfl rfl (by kernel_rfl) (by decide) (fun K hK => ?_)
  refine Kd.R_append_rows_step (Kd.int .u8) (w0 := w3) w3.heap.size rfl (.tmp 25) (.tmp 27) 43 5 (.int .u8 0) 1 rfl Try.underlying43 info5B rfl (by decide) (by omega) (.slice (some ⟨w3.heap.size, 0, none⟩) 12 12) (List.replicate 12 0) (Z1.take 12) A1 12 (c1) (fun _ => True) (fun _ => False) rfl rfl ?aO ?aR (fun _ _ h => h) (fun _ h => h.elim) ?aF ?aB ?aS ?aL ?_
  case aO => exact HK9.out
  case aR => exact HC12.out _ (Kd.C_below HX1.out hHeld)
  case aF => exact (fun _ _ => trivial)
  case aB => exact hHeld
  case aS => omega
  case aL => first | (simp; done) | (simp [take12_length]; done) | (simp; omega)
  intro v5 w5 hown hb hg hat
  have HOWN5 := Aside0.mk hown
  have HB5 := Aside0.mk hb
  clear hown hb hg hat
  refine hK.out _ _ ?_
  clear hK K
  refine norm_ (a' := ?_) ?_ ?_
  rotate_left
  · show Act.put _ (some 28) _ = _
    simp only [Act.put, List.setIfInBounds_toArray, List.set_cons_zero, List.set_cons_succ, i64_w, i32_w]
    rfl
  refine last_ (i := 6) (N := (some 31)) #[true, true, true, true, true, true, true, false] rfl rfl (by kernel_rfl) (by decide) (fun K hK => ?_)
  refine Kd.R_append_rows_step (Kd.int .u8) (w0 := w3) w3.heap.size rfl (.tmp 28) (.tmp 30) 43 5 (.int .u8 0) 1 rfl Try.underlying43 info5B rfl (by decide) (by omega) v5 (List.replicate 12 0 ++ Z1.take 12) (Z1.drop 24) A24 64 (c1 - 24) (fun _ => True) (fun _ => False) rfl rfl ?aO ?aR (fun _ _ h => h) (fun _ h => h.elim) ?aF ?aB ?aS ?aL ?_
  case aO => exact HOWN5.out
  case aR => exact HC24.out _ (Kd.C_below HX1.out HB5.out)
  case aF => exact (fun _ _ => trivial)
  case aB => exact HB5.out
  case aS => exact HB5.out.size
  case aL => first | (simp; done) | (simp [take12_length]; done) | (simp; omega)
  intro v6 w6 hown hb hg hat
  have HOWN6 := Aside0.mk hown
  have HB6 := Aside0.mk hb
  clear hown hb hg hat
  refine hK.out _ _ ?_
  clear hK K
  refine norm_ (a' := ?_) ?_ ?_
  rotate_left
  · show Act.put _ (some 31) _ = _
    simp only [Act.put, List.setIfInBounds_toArray, List.set_cons_zero, List.set_cons_succ, i64_w, i32_w]
    rfl
  refine pure_ (i := 7) (N := (some 3)) (v := ?_) (a' := ?_) #[true, true, true, true, true, true, true, true] rfl rfl (by kernel_rfl) (fun _ _ _ h => h) (Or.inl ⟨by rfl, ?_⟩) ?_ ?_
  rotate_left
  · intro w'
    go_simp
    with_reducible rfl
  rotate_left
  · simp only [Act.put, List.setIfInBounds_toArray, List.set_cons_zero, List.set_cons_succ, i64_w, i32_w]
    rfl
  refine done_ (by kernel_rfl) ?_
  have h9 : Kd.R (Kd.int .u8) 5 w6 w3.heap.size (fun _ => True) v6 turnedT := HOWN6.out
  obtain ⟨At, ct, rfl⟩ := Kd.R_slice h9
  have HTU := Aside0.mk h9
  clear h9
  have HB := Aside0.mk (bl HB.out HB6.out)
  have HX1 := Aside0.mk (Kd.C_below HX1.out HB6.out)
  repeat (first | go_values | go_guarded | go_step | go_upon | go_back)
  refine start_ (n := 11) (S := fun w' => Below w6.heap.size w6 w') (ds := [3, 6, 9]) #[false, false, false, false, false, false, false, false, false, false, false] (by kernel_rfl) rfl rfl (below_drew (Below.refl _ _)) (fun hHeld => ?_)
  refine pure_ (i := 1) (N := (some 33)) (v := ?_) (a' := ?_) #[false, true, false, false, false, false, false, false, false, false, false] rfl rfl (by kernel_rfl) (fun _ _ _ h => h) (Or.inl ⟨by rfl, ?_⟩) ?_ ?_
  rotate_left
  · intro w'
    go_simp
    with_reducible rfl
  rotate_left
  · simp only [Act.put, List.setIfInBounds_toArray, List.set_cons_zero, List.set_cons_succ, i64_w, i32_w]
    rfl
  refine pure_ (i := 2) (N := (some 34)) (v := ?_) (a' := ?_) #[false, true, true, false, false, false, false, false, false, false, false] rfl rfl (by kernel_rfl) (fun _ _ _ h => h) (Or.inl ⟨by rfl, ?_⟩) ?_ ?_
  rotate_left
  · intro w'
    refine exec_cutT (s := .slice A1 12 c1) (x := .tmp 33) (h := .const (.int .i64 12)) (by rw [Try.underlying43]; rfl) ?_ ?_ ?_ (HR12.out w')
    · rfl
    · rfl
    · rfl
  rotate_left
  · simp only [Act.put, List.setIfInBounds_toArray, List.set_cons_zero, List.set_cons_succ, i64_w, i32_w]
    rfl
  refine pure_ (i := 4) (N := (some 36)) (v := ?_) (a' := ?_) #[false, true, true, false, true, false, false, false, false, false, false] rfl rfl (by kernel_rfl) (fun _ _ _ h => h) (Or.inl ⟨by rfl, ?_⟩) ?_ ?_
  rotate_left
  · intro w'
    go_simp
    with_reducible rfl
  rotate_left
  · simp only [Act.put, List.setIfInBounds_toArray, List.set_cons_zero, List.set_cons_succ, i64_w, i32_w]
    rfl
  refine pure_ (i := 5) (N := (some 37)) (v := ?_) (a' := ?_) #[false, true, true, false, true, true, false, false, false, false, false] rfl rfl (by kernel_rfl) (fun _ _ _ h => h) (Or.inl ⟨by rfl, ?_⟩) ?_ ?_
  rotate_left
  · intro w'
    refine exec_cutT (s := .slice A1 12 c1) (x := .tmp 36) (h := .const (.int .i64 12)) (by rw [Try.underlying43]; rfl) ?_ ?_ ?_ (HR12.out w')
    · rfl
    · rfl
    · rfl
  rotate_left
  · simp only [Act.put, List.setIfInBounds_toArray, List.set_cons_zero, List.set_cons_succ, i64_w, i32_w]
    rfl
  refine pure_ (i := 7) (N := (some 39)) (v := ?_) (a' := ?_) #[false, true, true, false, true, true, false, true, false, false, false] rfl rfl (by kernel_rfl) (fun _ _ _ h => h) (Or.inl ⟨by rfl, ?_⟩) ?_ ?_
  rotate_left
  · intro w'
    go_simp
    with_reducible rfl
  rotate_left
  · simp only [Act.put, List.setIfInBounds_toArray, List.set_cons_zero, List.set_cons_succ, i64_w, i32_w]
    rfl
  refine pure_ (i := 8) (N := (some 40)) (v := ?_) (a' := ?_) #[false, true, true, false, true, true, false, true, true, false, false] rfl rfl (by kernel_rfl) (fun _ _ _ h => h) (Or.inl ⟨by rfl, ?_⟩) ?_ ?_
  rotate_left
  · intro w'
    refine exec_cutD (s := .slice A24 64 (c1 - 24)) (x := .tmp 39) (l := .const (.int .i64 24)) (by rw [Try.underlying43]; rfl) ?_ ?_ ?_ (HR24.out w')
    · rfl
    · rfl
    · rfl
  rotate_left
  · simp only [Act.put, List.setIfInBounds_toArray, List.set_cons_zero, List.set_cons_succ, i64_w, i32_w]
    rfl
  refine one_ (i := 0) (N := (some 32)) #[true, true, true, false, true, true, false, true, true, false, false] rfl rfl (by kernel_rfl) (by decide) (fun K hK => ?_)
  refine ite_wanted rfl ?_
  go_simp
  obtain ⟨w7, hw5⟩ : ∃ Y, Y = w6.drew.alloc (.cells #[] 5) := ⟨_, rfl⟩
  have hz : Kd.R (Kd.int .u8) 5 (w6.drew.alloc (.cells #[] 5)) w6.heap.size (fun _ => True) (.slice (some ⟨w6.heap.size, 0, none⟩) 0 0) [] := R_mk8 w6.drew [] (by simp) w6.heap.size (Nat.le_refl _)
  have hS := below_alloc hHeld (.cells #[] 5)
  have hsz : (w6.drew.alloc (.cells #[] 5)).heap.size = w6.heap.size + 1 := World.size_alloc _ _
  rw [← hw5] at hz hS hsz
  refine at_world (K := K) hw5 ?_
  clear hw5
  have HK9 := Aside0.mk hz
  refine hK.out _ _ hS (fun hHeld => ?_)
  clear hK K hS hz
  refine last_ (i := 3) (N := (some 35)) #[true, true, true, true, true, true, false, true, true, false, false] rfl rfl (by kernel_rfl) (by decide) (fun K hK => ?_)
  refine Kd.R_append_rows_step (Kd.int .u8) (w0 := w6) w6.heap.size rfl (.tmp 32) (.tmp 34) 43 5 (.int .u8 0) 1 rfl Try.underlying43 info5B rfl (by decide) (by omega) (.slice (some ⟨w6.heap.size, 0, none⟩) 0 0) ([]) (Z1.take 12) A1 12 (c1) (fun _ => True) (fun _ => False) rfl rfl ?aO ?aR (fun _ _ h => h) (fun _ h => h.elim) ?aF ?aB ?aS ?aL ?_
  case aO => exact HK9.out
  case aR => exact HC12.out _ (Kd.C_below HX1.out hHeld)
  case aF => exact (fun _ _ => trivial)
  case aB => exact hHeld
  case aS => omega
  case aL => first | (simp; done) | (simp [take12_length]; done) | (simp; omega)
  intro v8 w8 hown hb hg hat
  have HOWN8 := Aside0.mk hown
  have HB8 := Aside0.mk hb
  clear hown hb hg hat
  refine hK.out _ _ ?_
  clear hK K
  refine norm_ (a' := ?_) ?_ ?_
  rotate_left
  · show Act.put _ (some 35) _ = _
    simp only [Act.put, List.setIfInBounds_toArray, List.set_cons_zero, List.set_cons_succ, i64_w, i32_w]
    rfl
  refine last_ (i := 6) (N := (some 38)) #[true, true, true, true, true, true, true, true, true, false, false] rfl rfl (by kernel_rfl) (by decide) (fun K hK => ?_)
  refine Kd.R_append_rows_step (Kd.int .u8) (w0 := w6) w6.heap.size rfl (.tmp 35) (.tmp 37) 43 5 (.int .u8 0) 1 rfl Try.underlying43 info5B rfl (by decide) (by omega) v8 ([] ++ Z1.take 12) (Z1.take 12) A1 12 (c1) (fun _ => True) (fun _ => False) rfl rfl ?aO ?aR (fun _ _ h => h) (fun _ h => h.elim) ?aF ?aB ?aS ?aL ?_
  case aO => exact HOWN8.out
  case aR => exact HC12.out _ (Kd.C_below HX1.out HB8.out)
  case aF => exact (fun _ _ => trivial)
  case aB => exact HB8.out
  case aS => exact HB8.out.size
  case aL => first | (simp; done) | (simp [take12_length]; done) | (simp; omega)
  intro v9 w9 hown hb hg hat
  have HOWN9 := Aside0.mk hown
  have HB9 := Aside0.mk hb
  clear hown hb hg hat
  refine hK.out _ _ ?_
  clear hK K
  refine norm_ (a' := ?_) ?_ ?_
  rotate_left
  · show Act.put _ (some 38) _ = _
    simp only [Act.put, List.setIfInBounds_toArray, List.set_cons_zero, List.set_cons_succ, i64_w, i32_w]
    rfl
  refine last_ (i := 9) (N := (some 41)) #[true, true, true, true, true, true, true, true, true, true, false] rfl rfl (by kernel_rfl) (by decide) (fun K hK => ?_)
  refine Kd.R_append_rows_step (Kd.int .u8) (w0 := w6) w6.heap.size rfl (.tmp 38) (.tmp 40) 43 5 (.int .u8 0) 1 rfl Try.underlying43 info5B rfl (by decide) (by omega) v9 ([] ++ Z1.take 12 ++ Z1.take 12) (Z1.drop 24) A24 64 (c1 - 24) (fun _ => True) (fun _ => False) rfl rfl ?aO ?aR (fun _ _ h => h) (fun _ h => h.elim) ?aF ?aB ?aS ?aL ?_
  case aO => exact HOWN9.out
  case aR => exact HC24.out _ (Kd.C_below HX1.out HB9.out)
  case aF => exact (fun _ _ => trivial)
  case aB => exact HB9.out
  case aS => exact HB9.out.size
  case aL => first | (simp; done) | (simp [take12_length]; done) | (simp; omega)
  intro v10 w10 hown hb hg hat
  have HOWN10 := Aside0.mk hown
  have HB10 := Aside0.mk hb
  clear hown hb hg hat
  refine hK.out _ _ ?_
  clear hK K
  refine norm_ (a' := ?_) ?_ ?_
  rotate_left
  · show Act.put _ (some 41) _ = _
    simp only [Act.put, List.setIfInBounds_toArray, List.set_cons_zero, List.set_cons_succ, i64_w, i32_w]
    rfl
  refine pure_ (i := 10) (N := (some 4)) (v := ?_) (a' := ?_) #[true, true, true, true, true, true, true, true, true, true, true] rfl rfl (by kernel_rfl) (fun _ _ _ h => h) (Or.inl ⟨by rfl, ?_⟩) ?_ ?_
  rotate_left
  · intro w'
    go_simp
    with_reducible rfl
  rotate_left
  · simp only [Act.put, List.setIfInBounds_toArray, List.set_cons_zero, List.set_cons_succ, i64_w, i32_w]
    rfl
  refine done_ (by kernel_rfl) ?_
  have h9 : Kd.R (Kd.int .u8) 5 w10 w6.heap.size (fun _ => True) v10 twiceT := HOWN10.out
  obtain ⟨Aw, cw, rfl⟩ := Kd.R_slice h9
  have HTW := Aside0.mk h9
  clear h9
  have HTC := Aside0.mk (Kd.C_below (Kd.R_reads' HTU.out).2.2 HB10.out)
  have HB := Aside0.mk (bl HB.out HB10.out)
  have HX1 := Aside0.mk (Kd.C_below HX1.out HB10.out)
  have HTL := Aside0.mk (Kd.R_reads' HTU.out).2.1
  have HTM := Aside0.mk (Kd.R_reads' HTW.out).2.1
  have HTD := Aside0.mk (Kd.R_reads' HTW.out).2.2
  clear HTU HTW HR12 HR24 HC12 HC24
  repeat (first
    | ((with_reducible refine wpList_store 40 (.tmp 7) (.tmp 52) w15.heap.size 40 Try.zeroCells40 ⟨bkC A4 0 c4 dig0 dig0⟩ rfl rfl ?hx ?hy ?hg ?hs ?hi ?h1 ?_); (case hg => exact HZ.out); (case hx => rfl); (case hy => rfl); (case hs => show _ = (bkC A4 0 c4 dig0 dig0).length; rw [bkC_length dig0_length dig0_length]; rfl); (case hi => show _ = some (bkC A4 0 c4 dig0 dig0).length; rw [bkC_length dig0_length dig0_length]; exact info40); (case h1 => exact bk_ones _ _ _ _ _); intro w16 q1 q2 q3 q4; have hb := q3 w15.heap.size w15 (below_alloc (Below.refl _ _) (.cells Try.zeroCells40 40)) (Nat.le_refl _); have HB := Aside0.mk (bl HB.out hb); have HX1 := Aside0.mk (Kd.C_below HX1.out hb); have HTC := Aside0.mk (Kd.C_below HTC.out hb); have HTD := Aside0.mk (Kd.C_below HTD.out hb); clear q1 q2 q3 q4 hb HZ)
    | (go_at_call 27; (with_reducible refine (rdBad_calls twiceT 8 Aw cw w14 twiceT_bytes twice_err (by decide) HTD.out HTM.out).mono ?_); rintro e2 w15 ⟨A4, c4, rfl, hb⟩; have HB := Aside0.mk (bl HB.out hb); have HX1 := Aside0.mk (Kd.C_below HX1.out hb); have HTC := Aside0.mk (Kd.C_below HTC.out hb); have HTD := Aside0.mk (Kd.C_below HTD.out hb); have HZ := Aside0.mk (heap_alloc_new w15 (.cells Try.zeroCells40 40)); clear hb; (try dsimp only))
    | (go_at_call 29; (with_reducible refine (level_calls w13).mono ?_); rintro e1 w14 ⟨rfl, hb⟩; have HB := Aside0.mk (bl HB.out hb); have HX1 := Aside0.mk (Kd.C_below HX1.out hb); have HTC := Aside0.mk (Kd.C_below HTC.out hb); have HTD := Aside0.mk (Kd.C_below HTD.out hb); clear hb; (try dsimp only))
    | ((with_reducible refine wpList_store 40 (.tmp 5) (.tmp 46) w12.heap.size 40 Try.zeroCells40 ⟨bkC A3 0 c3 dig0 dig0⟩ rfl rfl ?hx ?hy ?hg ?hs ?hi ?h1 ?_); (case hg => exact HZ.out); (case hx => rfl); (case hy => rfl); (case hs => show _ = (bkC A3 0 c3 dig0 dig0).length; rw [bkC_length dig0_length dig0_length]; rfl); (case hi => show _ = some (bkC A3 0 c3 dig0 dig0).length; rw [bkC_length dig0_length dig0_length]; exact info40); (case h1 => exact bk_ones _ _ _ _ _); intro w13 q1 q2 q3 q4; have hb := q3 w12.heap.size w12 (below_alloc (Below.refl _ _) (.cells Try.zeroCells40 40)) (Nat.le_refl _); have HB := Aside0.mk (bl HB.out hb); have HX1 := Aside0.mk (Kd.C_below HX1.out hb); have HTC := Aside0.mk (Kd.C_below HTC.out hb); have HTD := Aside0.mk (Kd.C_below HTD.out hb); clear q1 q2 q3 q4 hb HZ)
    | (go_at_call 27; (with_reducible refine (rdBad_calls turnedT 8 At ct w11 turnedT_bytes turned_err (by decide) HTC.out HTL.out).mono ?_); rintro e2 w12 ⟨A3, c3, rfl, hb⟩; have HB := Aside0.mk (bl HB.out hb); have HX1 := Aside0.mk (Kd.C_below HX1.out hb); have HTC := Aside0.mk (Kd.C_below HTC.out hb); have HTD := Aside0.mk (Kd.C_below HTD.out hb); have HZ := Aside0.mk (heap_alloc_new w12 (.cells Try.zeroCells40 40)); clear hb; (try dsimp only))
    | (go_at_call 29; (with_reducible refine (level_calls w10).mono ?_); rintro e1 w11 ⟨rfl, hb⟩; have HB := Aside0.mk (bl HB.out hb); have HX1 := Aside0.mk (Kd.C_below HX1.out hb); have HTC := Aside0.mk (Kd.C_below HTC.out hb); have HTD := Aside0.mk (Kd.C_below HTD.out hb); clear hb; (try dsimp only))
    | go_values | go_guarded | go_step | go_upon | go_back)
  obtain ⟨As, hrs, hCs, hcl⟩ := z1_short A1 c1 HC1.out
  have HRS := Aside0.mk hrs
  have HCS := Aside0.mk hCs
  have HCL := Aside0.mk hcl
  clear hrs hCs hcl
  refine start_ (n := 10) (S := fun w' => Below w16.heap.size w16 w') (ds := [8]) #[false, false, false, false, false, false, false, false, false, false] (by kernel_rfl) rfl rfl (below_drew (Below.refl _ _)) (fun hHeld => ?_)
  refine pure_ (i := 1) (N := (some 56)) (v := ?_) (a' := ?_) #[false, true, false, false, false, false, false, false, false, false] rfl rfl (by kernel_rfl) (fun _ _ _ h => h) (Or.inl ⟨by rfl, ?_⟩) ?_ ?_
  rotate_left
  · intro w'
    go_simp
    with_reducible rfl
  rotate_left
  · simp only [Act.put, List.setIfInBounds_toArray, List.set_cons_zero, List.set_cons_succ, i64_w, i32_w]
    rfl
  refine pure_ (i := 2) (N := (some 57)) (v := ?_) (a' := ?_) #[false, true, true, false, false, false, false, false, false, false] rfl rfl (by kernel_rfl) (fun _ _ _ h => h) (Or.inl ⟨by rfl, ?_⟩) ?_ ?_
  rotate_left
  · intro w'
    refine exec_cutD (s := .slice As 87 (c1 - 1)) (x := .tmp 56) (l := .const (.int .i64 1)) (by rw [Try.underlying43]; rfl) ?_ ?_ ?_ (HRS.out w')
    · rfl
    · rfl
    · rfl
  rotate_left
  · simp only [Act.put, List.setIfInBounds_toArray, List.set_cons_zero, List.set_cons_succ, i64_w, i32_w]
    rfl
  refine join_ (σ := Option Addr × Nat × Nat) 2 #[true, true, true, true, true, true, true, true, false, false] (fun s => [(55, .agg #[.int .i64 8, .int .i64 4, .int .i64 3, .int .i64 88]), (58, .tuple #[.agg ⟨bkC s.1 0 s.2.1 dig0 dig0⟩, .int .i64 10]), (54, .tuple #[.agg ⟨bkC s.1 0 s.2.1 dig0 dig0⟩, .int .i64 10]), (59, .agg ⟨bkC s.1 0 s.2.1 dig0 dig0⟩), (60, .int .i64 10), (9, .pointer (some ⟨s.2.2, 0, none⟩))]) (fun s w' => Below w16.heap.size w16 w' ∧ w'.heap[s.2.2]? = some (.cells Try.zeroCells40 40 (0, 0)) ∧ w16.heap.size ≤ s.2.2) ?_ ?_
  · rintro ⟨A5, c5, g9⟩ wJ ⟨hHeld, hz, hl⟩
    simp only at hz hl
    refine norm_ (a' := ?_) ?_ ?_
    rotate_left
    · simp only [putAll, Act.put, List.setIfInBounds_toArray, List.set_cons_zero, List.set_cons_succ, i64_w, i32_w]
      rfl
    refine last_ (i := 8) (N := none) #[true, true, true, true, true, true, true, true, true, false] rfl rfl (by kernel_rfl) (by decide) (fun K hK => ?_)
    refine ite_wanted rfl ?_
    refine op_store 40 (.tmp 9) (.tmp 59) g9 40 Try.zeroCells40 ⟨bkC A5 0 c5 dig0 dig0⟩ rfl rfl rfl hz ?_ ?_ (bk_ones _ _ _ _ _) ?_
    · show _ = (bkC A5 0 c5 dig0 dig0).length; rw [bkC_length dig0_length dig0_length]; rfl
    · show _ = some (bkC A5 0 c5 dig0 dig0).length; rw [bkC_length dig0_length dig0_length]; exact info40
    intro w17 q1 q2 q3 q4
    have hb3 := q3 _ _ hHeld hl
    refine hK.out _ _ ?_
    clear hK K
    refine norm_ (a' := ?_) ?_ ?_
    rotate_left
    · show Act.put _ none _ = _
      simp only [Act.put, List.setIfInBounds_toArray, List.set_cons_zero, List.set_cons_succ, i64_w, i32_w]
      rfl
    refine pure_ (i := 9) (N := (some 10)) (v := ?_) (a' := ?_) #[true, true, true, true, true, true, true, true, true, true] rfl rfl (by kernel_rfl) (fun _ _ _ h => h) (Or.inl ⟨by rfl, ?_⟩) ?_ ?_
    rotate_left
    · intro w'
      go_simp
      with_reducible rfl
    rotate_left
    · simp only [Act.put, List.setIfInBounds_toArray, List.set_cons_zero, List.set_cons_succ, i64_w, i32_w]
      rfl
    refine done_ (by kernel_rfl) ?_
    have HB := Aside0.mk (bl HB.out hb3)
    have HS17 := Aside0.mk HB.out.size
    clear hHeld hz hl q1 q2 q3 q4 hb3 HX1 HTC HTD HRS HCS HCL
    repeat (first
      | (go_at_call 30; with_reducible refine (one2_calls w17).mono ?_; rintro e1 w18 ⟨rfl, hG3, hC3, hb⟩; have HG3 := Aside0.mk hG3; have HC3 := Aside0.mk hC3; have HS18 := Aside0.mk (Array.getElem?_eq_some_iff.1 hG3).1; have HB := Aside0.mk (bl HB.out hb); have HZ := Aside0.mk (heap_alloc_new w18 (.cells Try.zeroCells40 40)); clear hb hG3 hC3; (try dsimp only))
      | ((with_reducible refine wpList_store 40 (.tmp 11) (.tmp 61) w18.heap.size 40 Try.zeroCells40 ⟨bkC (some ⟨w17.heap.size + 1 + 1, 0, none⟩) 1 1 rep1 rep2⟩ rfl rfl ?hx ?hy ?hg ?hs ?hi ?h1 ?_); (case hg => exact HZ.out); (case hx => rfl); (case hy => rfl); (case hs => show _ = (bkC (some ⟨w17.heap.size + 1 + 1, 0, none⟩) 1 1 rep1 rep2).length; rw [bkC_length rep1_length rep2_length]; rfl); (case hi => show _ = some (bkC (some ⟨w17.heap.size + 1 + 1, 0, none⟩) 1 1 rep1 rep2).length; rw [bkC_length rep1_length rep2_length]; exact info40); (case h1 => exact bk_ones _ _ _ _ _); intro w19 q1 q2 q3 q4; have hb := q3 w18.heap.size w18 (below_alloc (Below.refl _ _) (.cells Try.zeroCells40 40)) (Nat.le_refl _); have HK11 := Aside0.mk q1; have HB := Aside0.mk (bl HB.out hb); have HG3 := Aside0.mk (blk_below HG3.out hb); have HC3 := Aside0.mk (blk_below HC3.out hb); have HS19 := Aside0.mk hb.size; have hk := bk_cell0 q1; clear q1 q2 q3 q4 hb HZ)
      | ((with_reducible refine gate_builtin (b := .append) (xs := #[.tmp 63, .tmp 70]) rfl ?_); at_builtin; have hO3 : ∀ a b c : Obj, (((w19.alloc a).alloc b).alloc c).heap[w19.heap.size + 1 + 1]? = some c := (fun a b c => by have h := heap_alloc_new ((w19.alloc a).alloc b) c; rw [World.size_alloc, World.size_alloc] at h; exact h); have hO2 : ∀ a b c : Obj, (((w19.alloc a).alloc b).alloc c).heap[w19.heap.size + 1]? = some b := (fun a b c => by have h := blk_alloc (heap_alloc_new (w19.alloc a) b) c; rw [World.size_alloc] at h; exact h); have hO1 : ∀ a b c : Obj, (((w19.alloc a).alloc b).alloc c).heap[w19.heap.size]? = some a := (fun a b c => blk_alloc (blk_alloc (heap_alloc_new w19 a) b) c); refine Kd.R_append_rows (Kd.raw 3) (w0 := w) w.heap.size rfl (.tmp 63) (.tmp 70) 24 62 _ 40 rfl Try.underlying24 info62B rfl (by decide) (by omega) (.slice (some ⟨w17.heap.size + 1 + 1, 0, none⟩) 1 1) [[.int .i64 2, .int .i64 5, .slice (some ⟨w17.heap.size + 1, 0, none⟩) 4 4]] [[.int .i64 3, .int .i64 0, .slice (some ⟨w19.heap.size, 0, none⟩) 4 4], [.int .i64 4, .int .i64 0, .slice (some ⟨w19.heap.size + 1, 0, none⟩) 4 4]] _ _ _ (fun _ => True) (fun _ => False) rfl rfl ?aO ?aR (fun _ _ h => h) (fun _ h => h.elim) ?aF ?aB ?aS ?aL ?_; (case aO => exact R_raw1 (blk_alloc (blk_alloc (blk_alloc HG3.out _) _) _) (by have := HS17.out; omega) rfl rfl rfl); (case aR => exact C_raw2 (hO3 _ _ _) rfl rfl rfl rfl rfl rfl); (case aF => exact (fun _ _ => trivial)); (case aB => exact below_alloc (below_alloc (below_alloc HB.out _) _) _); (case aS => exact (below_alloc (below_alloc (below_alloc HB.out _) _) _).size); (case aL => (simp; done)); intro v20 w20 hown hb hg hat; obtain ⟨A6, c6, hv6⟩ : ∃ A6 c6, v20 = .slice A6 3 c6 := (by obtain ⟨a, c, h⟩ := Kd.R_slice hown; exact ⟨a, c, h⟩); subst hv6; have HOWN := Aside0.mk hown; have HBA := Aside0.mk hb; have HAT := Aside0.mk hat; have HKA := Aside0.mk (blk_grown (blk_alloc (blk_alloc (blk_alloc HK11.out _) _) _) hg (by have := HS18.out; simp [Value.ownBlock]; omega)); have HH3 := Aside0.mk (blk_grown (blk_alloc (blk_alloc (blk_alloc HC3.out _) _) _) hg (by first | (simp [Value.ownBlock]; done) | (simp [Value.ownBlock]; omega))); have HD1 := Aside0.mk (blk_grown (hO1 _ _ _) hg (by have := HS18.out; have := HS19.out; simp [Value.ownBlock]; omega)); have HD2 := Aside0.mk (blk_grown (hO2 _ _ _) hg (by have := HS18.out; have := HS19.out; simp [Value.ownBlock]; omega)); have hk20 := bk_cell0 HKA.out; have hfr := blk_frozen HKA.out 0; clear hown hb hg hat hO1 hO2 hO3 hk)
      | go_values | go_guarded | go_step | go_upon | go_back)
    have HK21 : Aside0 ((w20.setCell ⟨w18.heap.size, 0, none⟩ (.slice A6 3 c6)).heap[w18.heap.size]? = some (.cells ⟨bkC A6 3 c6 rep1 rep2⟩ 40 (0, 0))) := ⟨blk_set HKA.out 0 (.slice A6 3 c6)⟩
    have hs18 := HS18.out
    have hs19 := HS19.out
    have hs17 := HS17.out
    have hs20 := (Array.getElem?_eq_some_iff.1 HK11.out).1
    have kk : ∀ b : Nat, b ≠ w18.heap.size → w20.heap[b]? = some (.cells (([97, 98, 99, 100] : List Int).map (Value.int .u8)).toArray 5 (4, 5)) → Kd.C (Kd.int .u8) (w20.setCell ⟨w18.heap.size, 0, none⟩ (.slice A6 3 c6)) (some ⟨b, 0, none⟩) 4 [97, 98, 99, 100] := fun b hb h => Kd.F_now (F_lit .u8 [97, 98, 99, 100] (by decide) (ok := fun _ => True) trivial ((Below.heap_setCell w20 ⟨w18.heap.size, 0, none⟩ (.slice A6 3 c6) b hb).trans h))
    have hne6 : ∀ ad, A6 = some ad → w18.heap.size ≠ ad.block := fun ad had => by
      rcases HAT.out with h | ⟨b, h, hb⟩
      · rw [had] at h
        simp [Value.ownBlock] at h
        omega
      · rw [had] at h
        simp [Value.ownBlock] at h
        simp only [World.size_alloc] at hb
        omega
    have HC21 := Aside0.mk (k62_of_raw (G := w18.heap.size) (v := .slice A6 3 c6) (Kd.R_reads' HOWN.out).2.2 hne6 (kk _ (by omega) HH3.out) (kk _ (by omega) HD1.out) (kk _ (by omega) HD2.out))
    have HB21 := Aside0.mk (HBA.out.setCell (p := ⟨w18.heap.size, 0, none⟩) (by show w.heap.size ≤ w18.heap.size; omega) (.slice A6 3 c6))
    clear kk hne6 hs20 hs17 hs18 hs19 hk20 hfr
    generalize hw21 : World.setCell w20 ⟨w18.heap.size, 0, none⟩ (.slice A6 3 c6) = w21 at HK21 HC21 HB21 ⊢
    clear hw21
    refine start_ (n := 22) (S := fun w' => Below w21.heap.size w21 w') (ds := []) #[false, false, false, false, false, false, false, false, false, false, false, false, false, false, false, false, false, false, false, false, false, false] (by kernel_rfl) rfl rfl (below_drew (Below.refl _ _)) (fun hHeld => ?_)
    refine pure_ (i := 0) (N := (some 73)) (v := ?_) (a' := ?_) #[true, false, false, false, false, false, false, false, false, false, false, false, false, false, false, false, false, false, false, false, false, false] rfl rfl (by kernel_rfl) (fun _ _ _ h => h) (Or.inl ⟨by rfl, ?_⟩) ?_ ?_
    rotate_left
    · intro w'
      go_simp
      with_reducible rfl
    rotate_left
    · simp only [Act.put, List.setIfInBounds_toArray, List.set_cons_zero, List.set_cons_succ, i64_w, i32_w]
      rfl
    refine one_ (i := 1) (N := (some 74)) #[true, true, false, false, false, false, false, false, false, false, false, false, false, false, false, false, false, false, false, false, false, false] rfl rfl (by kernel_rfl) (by decide) (fun K hK => ?_)
    refine goes_ Try.func31 (by kernel_rfl) rfl #[] (by rfl) rfl rfl (by (try simp only [List.map_toArray, List.map_cons, List.map_nil]); first | done | rfl) ?_
    refine (alive_calls _).mono ?_
    rintro e w22 ⟨rfl, hb⟩
    have hS := bl hHeld hb
    clear hb
    refine ⟨_, rfl, ?_⟩
    refine hK.out _ _ hS (fun hHeld => ?_)
    clear hK K
    refine norm_ (a' := ?_) ?_ ?_
    rotate_left
    · show Act.put _ (some 74) _ = _
      simp only [Act.put, List.setIfInBounds_toArray, List.set_cons_zero, List.set_cons_succ, i64_w, i32_w]
      rfl
    refine pure_ (i := 2) (N := (some 75)) (v := ?_) (a' := ?_) #[true, true, true, false, false, false, false, false, false, false, false, false, false, false, false, false, false, false, false, false, false, false] rfl rfl (by kernel_rfl) (fun _ _ _ h => h) (Or.inl ⟨by rfl, ?_⟩) ?_ ?_
    rotate_left
    · intro w'
      go_simp
      with_reducible rfl
    rotate_left
    · simp only [Act.put, List.setIfInBounds_toArray, List.set_cons_zero, List.set_cons_succ, i64_w, i32_w]
      rfl
    refine pure_ (i := 3) (N := (some 76)) (v := ?_) (a' := ?_) #[true, true, true, true, false, false, false, false, false, false, false, false, false, false, false, false, false, false, false, false, false, false] rfl rfl (by kernel_rfl) (fun _ _ _ h => h) (Or.inl ⟨by rfl, ?_⟩) ?_ ?_
    rotate_left
    · intro w'
      go_simp
      with_reducible rfl
    rotate_left
    · simp only [Act.put, List.setIfInBounds_toArray, List.set_cons_zero, List.set_cons_succ, i64_w, i32_w]
      rfl
    refine pure_ (i := 4) (N := (some 77)) (v := ?_) (a' := ?_) #[true, true, true, true, true, false, false, false, false, false, false, false, false, false, false, false, false, false, false, false, false, false] rfl rfl (by kernel_rfl) (fun _ _ _ h => h) (Or.inl ⟨by rfl, ?_⟩) ?_ ?_
    rotate_left
    · intro w'
      go_simp
      with_reducible rfl
    rotate_left
    · simp only [Act.put, List.setIfInBounds_toArray, List.set_cons_zero, List.set_cons_succ, i64_w, i32_w]
      rfl
    refine pure_ (i := 5) (N := (some 78)) (v := ?_) (a' := ?_) #[true, true, true, true, true, true, false, false, false, false, false, false, false, false, false, false, false, false, false, false, false, false] rfl rfl (by kernel_rfl) (fun _ _ _ h => h) (Or.inl ⟨by rfl, ?_⟩) ?_ ?_
    rotate_left
    · intro w'
      go_simp
      with_reducible rfl
    rotate_left
    · simp only [Act.put, List.setIfInBounds_toArray, List.set_cons_zero, List.set_cons_succ, i64_w, i32_w]
      rfl
    refine pure_ (i := 6) (N := (some 79)) (v := ?_) (a' := ?_) #[true, true, true, true, true, true, true, false, false, false, false, false, false, false, false, false, false, false, false, false, false, false] rfl rfl (by kernel_rfl) (fun _ _ _ h => h) (Or.inl ⟨by rfl, ?_⟩) ?_ ?_
    rotate_left
    · intro w'
      go_simp
      with_reducible rfl
    rotate_left
    · simp only [Act.put, List.setIfInBounds_toArray, List.set_cons_zero, List.set_cons_succ, i64_w, i32_w]
      rfl
    refine pure_ (i := 7) (N := (some 80)) (v := ?_) (a' := ?_) #[true, true, true, true, true, true, true, true, false, false, false, false, false, false, false, false, false, false, false, false, false, false] rfl rfl (by kernel_rfl) (fun _ _ _ h => h) (Or.inl ⟨by rfl, ?_⟩) ?_ ?_
    rotate_left
    · intro w'
      go_simp
      with_reducible rfl
    rotate_left
    · simp only [Act.put, List.setIfInBounds_toArray, List.set_cons_zero, List.set_cons_succ, i64_w, i32_w]
      rfl
    refine pure_ (i := 8) (N := (some 81)) (v := ?_) (a' := ?_) #[true, true, true, true, true, true, true, true, true, false, false, false, false, false, false, false, false, false, false, false, false, false] rfl rfl (by kernel_rfl) (fun _ _ _ h => h) (Or.inl ⟨by rfl, ?_⟩) ?_ ?_
    rotate_left
    · intro w'
      go_simp
      with_reducible rfl
    rotate_left
    · simp only [Act.put, List.setIfInBounds_toArray, List.set_cons_zero, List.set_cons_succ, i64_w, i32_w]
      rfl
    refine pure_ (i := 9) (N := (some 82)) (v := ?_) (a' := ?_) #[true, true, true, true, true, true, true, true, true, true, false, false, false, false, false, false, false, false, false, false, false, false] rfl rfl (by kernel_rfl) (fun _ _ _ h => h) (Or.inl ⟨by rfl, ?_⟩) ?_ ?_
    rotate_left
    · intro w'
      go_simp
      with_reducible rfl
    rotate_left
    · simp only [Act.put, List.setIfInBounds_toArray, List.set_cons_zero, List.set_cons_succ, i64_w, i32_w]
      rfl
    refine pure_ (i := 10) (N := (some 83)) (v := ?_) (a' := ?_) #[true, true, true, true, true, true, true, true, true, true, true, false, false, false, false, false, false, false, false, false, false, false] rfl rfl (by kernel_rfl) (fun _ _ _ h => h) (Or.inl ⟨by rfl, ?_⟩) ?_ ?_
    rotate_left
    · intro w'
      go_simp
      with_reducible rfl
    rotate_left
    · simp only [Act.put, List.setIfInBounds_toArray, List.set_cons_zero, List.set_cons_succ, i64_w, i32_w]
      rfl
    refine pure_ (i := 11) (N := (some 84)) (v := ?_) (a' := ?_) #[true, true, true, true, true, true, true, true, true, true, true, true, false, false, false, false, false, false, false, false, false, false] rfl rfl (by kernel_rfl) (fun _ _ _ h => h) (Or.inl ⟨by rfl, ?_⟩) ?_ ?_
    rotate_left
    · intro w'
      go_simp
      with_reducible rfl
    rotate_left
    · simp only [Act.put, List.setIfInBounds_toArray, List.set_cons_zero, List.set_cons_succ, i64_w, i32_w]
      rfl
    refine pure_ (i := 12) (N := (some 85)) (v := ?_) (a' := ?_) #[true, true, true, true, true, true, true, true, true, true, true, true, true, false, false, false, false, false, false, false, false, false] rfl rfl (by kernel_rfl) (fun _ _ _ h => h) (Or.inl ⟨by rfl, ?_⟩) ?_ ?_
    rotate_left
    · intro w'
      go_simp
      with_reducible rfl
    rotate_left
    · simp only [Act.put, List.setIfInBounds_toArray, List.set_cons_zero, List.set_cons_succ, i64_w, i32_w]
      rfl
    refine pure_ (i := 13) (N := (some 86)) (v := ?_) (a' := ?_) #[true, true, true, true, true, true, true, true, true, true, true, true, true, true, false, false, false, false, false, false, false, false] rfl rfl (by kernel_rfl) (fun _ _ _ h => h) (Or.inl ⟨by rfl, ?_⟩) ?_ ?_
    rotate_left
    · intro w'
      go_simp
      with_reducible rfl
    rotate_left
    · simp only [Act.put, List.setIfInBounds_toArray, List.set_cons_zero, List.set_cons_succ, i64_w, i32_w]
      rfl
    refine pure_ (i := 14) (N := (some 87)) (v := ?_) (a' := ?_) #[true, true, true, true, true, true, true, true, true, true, true, true, true, true, true, false, false, false, false, false, false, false] rfl rfl (by kernel_rfl) (fun _ _ _ h => h) (Or.inl ⟨by rfl, ?_⟩) ?_ ?_
    rotate_left
    · intro w'
      go_simp
      with_reducible rfl
    rotate_left
    · simp only [Act.put, List.setIfInBounds_toArray, List.set_cons_zero, List.set_cons_succ, i64_w, i32_w]
      rfl
    refine pure_ (i := 15) (N := (some 88)) (v := ?_) (a' := ?_) #[true, true, true, true, true, true, true, true, true, true, true, true, true, true, true, true, false, false, false, false, false, false] rfl rfl (by kernel_rfl) (fun _ _ _ h => h) (Or.inl ⟨by rfl, ?_⟩) ?_ ?_
    rotate_left
    · intro w'
      go_simp
      with_reducible rfl
    rotate_left
    · simp only [Act.put, List.setIfInBounds_toArray, List.set_cons_zero, List.set_cons_succ, i64_w, i32_w]
      rfl
    refine take_ (i := 17) (N := (some 90)) (v := ?_) (a' := ?_) #[true, true, true, true, true, true, true, true, true, true, true, true, true, true, true, true, false, true, false, false, false, false] rfl rfl (by kernel_rfl) (fun _ _ _ h => h) (Or.inl ⟨by rfl, ?_⟩) hHeld ?_ ?_
    rotate_left
    · rintro w' z
      refine exec_loadB (ty := 40) (x := .tmp 11) ?_ ?_ (blk_below HK21.out z) Try.underlying40 rfl (by show _ = some (bkC A6 3 c6 rep1 rep2).length; rw [bkC_length rep1_length rep2_length]; exact info40)
      · rfl
      · rfl
    rotate_left
    · simp only [Act.put, List.setIfInBounds_toArray, List.set_cons_zero, List.set_cons_succ, i64_w, i32_w]
      rfl
    refine one_ (i := 16) (N := (some 89)) #[true, true, true, true, true, true, true, true, true, true, true, true, true, true, true, true, true, true, false, false, false, false] rfl rfl (by kernel_rfl) (by decide) (fun K hK => ?_)
    refine goes_ Try.func29 (by kernel_rfl) rfl #[] (by rfl) rfl rfl (by (try simp only [List.map_toArray, List.map_cons, List.map_nil]); first | done | rfl) ?_
    refine (level_calls _).mono ?_
    rintro e w23 ⟨rfl, hb⟩
    have hS := bl hHeld hb
    clear hb
    refine ⟨_, rfl, ?_⟩
    refine hK.out _ _ hS (fun hHeld => ?_)
    clear hK K
    refine norm_ (a' := ?_) ?_ ?_
    rotate_left
    · show Act.put _ (some 89) _ = _
      simp only [Act.put, List.setIfInBounds_toArray, List.set_cons_zero, List.set_cons_succ, i64_w, i32_w]
      rfl
    refine one_ (i := 18) (N := (some 91)) #[true, true, true, true, true, true, true, true, true, true, true, true, true, true, true, true, true, true, true, false, false, false] rfl rfl (by kernel_rfl) (by decide) (fun K hK => ?_)
    refine goes_ Try.func22 (by kernel_rfl) rfl #[.agg #[.int .i64 8, .int .i64 4, .int .i64 3, .int .i64 88], .agg ⟨bkC A6 3 c6 rep1 rep2⟩] (by rfl) rfl rfl (by (try simp only [List.map_toArray, List.map_cons, List.map_nil]); first | done | rfl) ?_
    refine (check3_calls A6 c6 _ (Kd.C_below HC21.out hHeld)).mono ?_
    rintro e w24 ⟨rfl, hb⟩
    have hS := bl hHeld hb
    clear hb
    refine ⟨_, rfl, ?_⟩
    refine hK.out _ _ hS (fun hHeld => ?_)
    clear hK K
    refine norm_ (a' := ?_) ?_ ?_
    rotate_left
    · show Act.put _ (some 91) _ = _
      simp only [Act.put, List.setIfInBounds_toArray, List.set_cons_zero, List.set_cons_succ, i64_w, i32_w]
      rfl
    refine pure_ (i := 19) (N := (some 92)) (v := ?_) (a' := ?_) #[true, true, true, true, true, true, true, true, true, true, true, true, true, true, true, true, true, true, true, true, false, false] rfl rfl (by kernel_rfl) (fun _ _ _ h => h) (Or.inl ⟨by rfl, ?_⟩) ?_ ?_
    rotate_left
    · intro w'
      go_simp
      with_reducible rfl
    rotate_left
    · simp only [Act.put, List.setIfInBounds_toArray, List.set_cons_zero, List.set_cons_succ, i64_w, i32_w]
      rfl
    refine pure_ (i := 20) (N := (some 93)) (v := ?_) (a' := ?_) #[true, true, true, true, true, true, true, true, true, true, true, true, true, true, true, true, true, true, true, true, true, false] rfl rfl (by kernel_rfl) (fun _ _ _ h => h) (Or.inl ⟨by rfl, ?_⟩) ?_ ?_
    rotate_left
    · intro w'
      go_simp
      with_reducible rfl
    rotate_left
    · simp only [Act.put, List.setIfInBounds_toArray, List.set_cons_zero, List.set_cons_succ, i64_w, i32_w]
      rfl
    refine pure_ (i := 21) (N := (some 0)) (v := ?_) (a' := ?_) #[true, true, true, true, true, true, true, true, true, true, true, true, true, true, true, true, true, true, true, true, true, true] rfl rfl (by kernel_rfl) (fun _ _ _ h => h) (Or.inl ⟨by rfl, ?_⟩) ?_ ?_
    rotate_left
    · intro w'
      go_simp
      with_reducible rfl
    rotate_left
    · simp only [Act.put, List.setIfInBounds_toArray, List.set_cons_zero, List.set_cons_succ, i64_w, i32_w]
      rfl
    refine done_ (by kernel_rfl) ?_
    repeat (first | go_values | go_guarded | go_step | go_upon | go_back)
    go_ret
    exact ⟨rfl, bl HB21.out hHeld⟩
  · intro hcont
    have hsz0 : (w16.drew).heap.size = w16.heap.size := rfl
    refine two_ (i := 0) (j := 7) (Ni := (some 55)) (Nj := (some 9)) #[true, true, true, false, false, false, false, false, false, false] #[false, true, true, false, false, false, false, true, false, false] rfl rfl rfl rfl (by kernel_rfl) (by decide) (by decide) (fun K hK => ?_) (fun K hK => ?_)
    · skip
      refine goes_ Try.func29 (by kernel_rfl) rfl #[] (by rfl) rfl rfl (by (try simp only [List.map_toArray, List.map_cons, List.map_nil]); first | done | rfl) ?_
      refine (level_calls _).mono ?_
      rintro e v1 ⟨rfl, hb⟩
      have hsz1 := hb.size
      refine ⟨_, rfl, ?_⟩
      refine hK.out _ _ (bl hHeld hb) (fun hHeld1 => ?_)
      clear hK K
      replace hHeld := hHeld1
      clear hHeld1 hb
      refine norm_ (a' := ?_) ?_ ?_
      rotate_left
      · show Act.put _ (some 55) _ = _
        simp only [Act.put, List.setIfInBounds_toArray, List.set_cons_zero, List.set_cons_succ, i64_w, i32_w]
        rfl
      refine two_ (i := 3) (j := 7) (Ni := (some 58)) (Nj := (some 9)) #[true, true, true, true, false, false, false, false, false, false] #[true, true, true, false, false, false, false, true, false, false] rfl rfl rfl rfl (by kernel_rfl) (by decide) (by decide) (fun K hK => ?_) (fun K hK => ?_)
      · skip
        refine goes_ Try.func27 (by kernel_rfl) rfl #[.agg #[.int .i64 8, .int .i64 4, .int .i64 3, .int .i64 88], .slice As 87 (c1 - 1)] (by rfl) rfl rfl (by (try simp only [List.map_toArray, List.map_cons, List.map_nil]); first | done | rfl) ?_
        refine (rdShort_calls As (c1 - 1) _ (HCS.out _ (Kd.C_below HX1.out hHeld)) HCL.out).mono ?_
        rintro e v2 ⟨A5, c5, rfl, hb⟩
        have hsz2 := hb.size
        refine ⟨_, rfl, ?_⟩
        refine hK.out _ _ (bl hHeld hb) (fun hHeld1 => ?_)
        clear hK K
        replace hHeld := hHeld1
        clear hHeld1 hb
        refine norm_ (a' := ?_) ?_ ?_
        rotate_left
        · show Act.put _ (some 58) _ = _
          simp only [Act.put, List.setIfInBounds_toArray, List.set_cons_zero, List.set_cons_succ, i64_w, i32_w]
          rfl
        refine pure_ (i := 4) (N := (some 54)) (v := ?_) (a' := ?_) #[true, true, true, true, true, false, false, false, false, false] rfl rfl (by kernel_rfl) (fun _ _ _ h => h) (Or.inl ⟨by rfl, ?_⟩) ?_ ?_
        rotate_left
        · intro w'
          go_simp
          with_reducible rfl
        rotate_left
        · simp only [Act.put, List.setIfInBounds_toArray, List.set_cons_zero, List.set_cons_succ, i64_w, i32_w]
          rfl
        refine pure_ (i := 5) (N := (some 59)) (v := ?_) (a' := ?_) #[true, true, true, true, true, true, false, false, false, false] rfl rfl (by kernel_rfl) (fun _ _ _ h => h) (Or.inl ⟨by rfl, ?_⟩) ?_ ?_
        rotate_left
        · intro w'
          go_simp
          with_reducible rfl
        rotate_left
        · simp only [Act.put, List.setIfInBounds_toArray, List.set_cons_zero, List.set_cons_succ, i64_w, i32_w]
          rfl
        refine pure_ (i := 6) (N := (some 60)) (v := ?_) (a' := ?_) #[true, true, true, true, true, true, true, false, false, false] rfl rfl (by kernel_rfl) (fun _ _ _ h => h) (Or.inl ⟨by rfl, ?_⟩) ?_ ?_
        rotate_left
        · intro w'
          go_simp
          with_reducible rfl
        rotate_left
        · simp only [Act.put, List.setIfInBounds_toArray, List.set_cons_zero, List.set_cons_succ, i64_w, i32_w]
          rfl
        refine one_ (i := 7) (N := (some 9)) #[true, true, true, true, true, true, true, true, false, false] rfl rfl (by kernel_rfl) (by decide) (fun K hK => ?_)
        refine ite_wanted rfl ?_
        go_simp
        obtain ⟨Y3, hY⟩ : ∃ Y, Y = v2.alloc (.cells Try.zeroCells40 40) := ⟨_, rfl⟩
        have hz := heap_alloc_new v2 (.cells Try.zeroCells40 40)
        have hl := hHeld.size
        have hS := below_alloc hHeld (.cells Try.zeroCells40 40)
        have hsz3 : Y3.heap.size = v2.heap.size + 1 := by rw [hY]; exact World.size_alloc _ _
        rw [← hY] at hz hS
        refine at_world (K := K) hY ?_
        clear hY
        refine hK.out _ _ hS (fun hHeld1 => ?_)
        clear hS hK K
        replace hHeld := hHeld1
        clear hHeld1
        refine norm_ ?_ (hcont (A5, c5, v2.heap.size) _ ⟨hHeld, hz, by first | exact hl | (have := hHeld.size; omega)⟩)
        simp only [putAll, Act.put, List.setIfInBounds_toArray, List.set_cons_zero, List.set_cons_succ]
        try rfl
      · skip
        refine ite_wanted rfl ?_
        go_simp
        obtain ⟨Y4, hY⟩ : ∃ Y, Y = v1.alloc (.cells Try.zeroCells40 40) := ⟨_, rfl⟩
        have hz := heap_alloc_new v1 (.cells Try.zeroCells40 40)
        have hl := hHeld.size
        have hS := below_alloc hHeld (.cells Try.zeroCells40 40)
        have hsz4 : Y4.heap.size = v1.heap.size + 1 := by rw [hY]; exact World.size_alloc _ _
        rw [← hY] at hz hS
        refine at_world (K := K) hY ?_
        clear hY
        refine hK.out _ _ hS (fun hHeld1 => ?_)
        clear hS hK K
        replace hHeld := hHeld1
        clear hHeld1
        refine one_ (i := 3) (N := (some 58)) #[true, true, true, true, false, false, false, true, false, false] rfl rfl (by kernel_rfl) (by decide) (fun K hK => ?_)
        refine goes_ Try.func27 (by kernel_rfl) rfl #[.agg #[.int .i64 8, .int .i64 4, .int .i64 3, .int .i64 88], .slice As 87 (c1 - 1)] (by rfl) rfl rfl (by (try simp only [List.map_toArray, List.map_cons, List.map_nil]); first | done | rfl) ?_
        refine (rdShort_calls As (c1 - 1) _ (HCS.out _ (Kd.C_below HX1.out hHeld)) HCL.out).mono ?_
        rintro e v5 ⟨A5, c5, rfl, hb⟩
        replace hz := blk_below hz hb
        have hsz5 := hb.size
        refine ⟨_, rfl, ?_⟩
        refine hK.out _ _ (bl hHeld hb) (fun hHeld1 => ?_)
        clear hK K
        replace hHeld := hHeld1
        clear hHeld1 hb
        refine norm_ (a' := ?_) ?_ ?_
        rotate_left
        · show Act.put _ (some 58) _ = _
          simp only [Act.put, List.setIfInBounds_toArray, List.set_cons_zero, List.set_cons_succ, i64_w, i32_w]
          rfl
        refine pure_ (i := 4) (N := (some 54)) (v := ?_) (a' := ?_) #[true, true, true, true, true, false, false, true, false, false] rfl rfl (by kernel_rfl) (fun _ _ _ h => h) (Or.inl ⟨by rfl, ?_⟩) ?_ ?_
        rotate_left
        · intro w'
          go_simp
          with_reducible rfl
        rotate_left
        · simp only [Act.put, List.setIfInBounds_toArray, List.set_cons_zero, List.set_cons_succ, i64_w, i32_w]
          rfl
        refine pure_ (i := 5) (N := (some 59)) (v := ?_) (a' := ?_) #[true, true, true, true, true, true, false, true, false, false] rfl rfl (by kernel_rfl) (fun _ _ _ h => h) (Or.inl ⟨by rfl, ?_⟩) ?_ ?_
        rotate_left
        · intro w'
          go_simp
          with_reducible rfl
        rotate_left
        · simp only [Act.put, List.setIfInBounds_toArray, List.set_cons_zero, List.set_cons_succ, i64_w, i32_w]
          rfl
        refine pure_ (i := 6) (N := (some 60)) (v := ?_) (a' := ?_) #[true, true, true, true, true, true, true, true, false, false] rfl rfl (by kernel_rfl) (fun _ _ _ h => h) (Or.inl ⟨by rfl, ?_⟩) ?_ ?_
        rotate_left
        · intro w'
          go_simp
          with_reducible rfl
        rotate_left
        · simp only [Act.put, List.setIfInBounds_toArray, List.set_cons_zero, List.set_cons_succ, i64_w, i32_w]
          rfl
        refine norm_ ?_ (hcont (A5, c5, v1.heap.size) _ ⟨hHeld, hz, by first | exact hl | (have := hHeld.size; omega)⟩)
        simp only [putAll, Act.put, List.setIfInBounds_toArray, List.set_cons_zero, List.set_cons_succ]
        try rfl
    · skip
      refine ite_wanted rfl ?_
      go_simp
      obtain ⟨Y6, hY⟩ : ∃ Y, Y = w16.drew.alloc (.cells Try.zeroCells40 40) := ⟨_, rfl⟩
      have hz := heap_alloc_new w16.drew (.cells Try.zeroCells40 40)
      have hl := hHeld.size
      have hS := below_alloc hHeld (.cells Try.zeroCells40 40)
      have hsz6 : Y6.heap.size = w16.drew.heap.size + 1 := by rw [hY]; exact World.size_alloc _ _
      rw [← hY] at hz hS
      refine at_world (K := K) hY ?_
      clear hY
      refine hK.out _ _ hS (fun hHeld1 => ?_)
      clear hS hK K
      replace hHeld := hHeld1
      clear hHeld1
      refine one_ (i := 0) (N := (some 55)) #[true, true, true, false, false, false, false, true, false, false] rfl rfl (by kernel_rfl) (by decide) (fun K hK => ?_)
      refine goes_ Try.func29 (by kernel_rfl) rfl #[] (by rfl) rfl rfl (by (try simp only [List.map_toArray, List.map_cons, List.map_nil]); first | done | rfl) ?_
      refine (level_calls _).mono ?_
      rintro e v7 ⟨rfl, hb⟩
      replace hz := blk_below hz hb
      have hsz7 := hb.size
      refine ⟨_, rfl, ?_⟩
      refine hK.out _ _ (bl hHeld hb) (fun hHeld1 => ?_)
      clear hK K
      replace hHeld := hHeld1
      clear hHeld1 hb
      refine norm_ (a' := ?_) ?_ ?_
      rotate_left
      · show Act.put _ (some 55) _ = _
        simp only [Act.put, List.setIfInBounds_toArray, List.set_cons_zero, List.set_cons_succ, i64_w, i32_w]
        rfl
      refine one_ (i := 3) (N := (some 58)) #[true, true, true, true, false, false, false, true, false, false] rfl rfl (by kernel_rfl) (by decide) (fun K hK => ?_)
      refine goes_ Try.func27 (by kernel_rfl) rfl #[.agg #[.int .i64 8, .int .i64 4, .int .i64 3, .int .i64 88], .slice As 87 (c1 - 1)] (by rfl) rfl rfl (by (try simp only [List.map_toArray, List.map_cons, List.map_nil]); first | done | rfl) ?_
      refine (rdShort_calls As (c1 - 1) _ (HCS.out _ (Kd.C_below HX1.out hHeld)) HCL.out).mono ?_
      rintro e v8 ⟨A5, c5, rfl, hb⟩
      replace hz := blk_below hz hb
      have hsz8 := hb.size
      refine ⟨_, rfl, ?_⟩
      refine hK.out _ _ (bl hHeld hb) (fun hHeld1 => ?_)
      clear hK K
      replace hHeld := hHeld1
      clear hHeld1 hb
      refine norm_ (a' := ?_) ?_ ?_
      rotate_left
      · show Act.put _ (some 58) _ = _
        simp only [Act.put, List.setIfInBounds_toArray, List.set_cons_zero, List.set_cons_succ, i64_w, i32_w]
        rfl
      refine pure_ (i := 4) (N := (some 54)) (v := ?_) (a' := ?_) #[true, true, true, true, true, false, false, true, false, false] rfl rfl (by kernel_rfl) (fun _ _ _ h => h) (Or.inl ⟨by rfl, ?_⟩) ?_ ?_
      rotate_left
      · intro w'
        go_simp
        with_reducible rfl
      rotate_left
      · simp only [Act.put, List.setIfInBounds_toArray, List.set_cons_zero, List.set_cons_succ, i64_w, i32_w]
        rfl
      refine pure_ (i := 5) (N := (some 59)) (v := ?_) (a' := ?_) #[true, true, true, true, true, true, false, true, false, false] rfl rfl (by kernel_rfl) (fun _ _ _ h => h) (Or.inl ⟨by rfl, ?_⟩) ?_ ?_
      rotate_left
      · intro w'
        go_simp
        with_reducible rfl
      rotate_left
      · simp only [Act.put, List.setIfInBounds_toArray, List.set_cons_zero, List.set_cons_succ, i64_w, i32_w]
        rfl
      refine pure_ (i := 6) (N := (some 60)) (v := ?_) (a' := ?_) #[true, true, true, true, true, true, true, true, false, false] rfl rfl (by kernel_rfl) (fun _ _ _ h => h) (Or.inl ⟨by rfl, ?_⟩) ?_ ?_
      rotate_left
      · intro w'
        go_simp
        with_reducible rfl
      rotate_left
      · simp only [Act.put, List.setIfInBounds_toArray, List.set_cons_zero, List.set_cons_succ, i64_w, i32_w]
        rfl
      refine norm_ ?_ (hcont (A5, c5, w16.drew.heap.size) _ ⟨hHeld, hz, by first | exact hl | (have := hHeld.size; omega)⟩)
      simp only [putAll, Act.put, List.setIfInBounds_toArray, List.set_cons_zero, List.set_cons_succ]
      try rfl
end Go.Proofs.Ytknmokpnkcckeaa
