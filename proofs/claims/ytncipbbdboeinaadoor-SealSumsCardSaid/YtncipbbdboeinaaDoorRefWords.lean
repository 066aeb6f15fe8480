/-
The document's words of a block: the program's.
-/
import Derived.Test.YtncipbbdboeinaaDoorRefSha1
namespace Go.Proofs.YtncipbbdboeinaaDoor
open Go.RowKit Go.Proofs.YtncipbbdboeinaaDoorW.PrintWords Go.Proofs.YtncipbbdboeinaaDoorW.PrintLast Go.Proofs.YtncipbbdboeinaaDoorW.PrintMore Go.Proofs.YtncipbbdboeinaaDoor.PAll
set_option linter.unusedVariables false
set_option linter.unusedSimpArgs false

theorem ad_swap (a b c : Int) : ad (ad a b) c = ad (ad a c) b := by unfold ad; omega
theorem turned_2 (x : Int) (w : World) : Calls Tryd.prog 42 #[.int .u32 x, .int .u32 2] w fun e w' => e = .returned (.int .u32 (rotR x 2)) ∧ w' = w := turned_calls x 2 (by decide) (by decide) w
theorem turned_6 (x : Int) (w : World) : Calls Tryd.prog 42 #[.int .u32 x, .int .u32 6] w fun e w' => e = .returned (.int .u32 (rotR x 6)) ∧ w' = w := turned_calls x 6 (by decide) (by decide) w
theorem turned_7 (x : Int) (w : World) : Calls Tryd.prog 42 #[.int .u32 x, .int .u32 7] w fun e w' => e = .returned (.int .u32 (rotR x 7)) ∧ w' = w := turned_calls x 7 (by decide) (by decide) w
theorem turned_11 (x : Int) (w : World) : Calls Tryd.prog 42 #[.int .u32 x, .int .u32 11] w fun e w' => e = .returned (.int .u32 (rotR x 11)) ∧ w' = w := turned_calls x 11 (by decide) (by decide) w
theorem turned_13 (x : Int) (w : World) : Calls Tryd.prog 42 #[.int .u32 x, .int .u32 13] w fun e w' => e = .returned (.int .u32 (rotR x 13)) ∧ w' = w := turned_calls x 13 (by decide) (by decide) w
theorem turned_17 (x : Int) (w : World) : Calls Tryd.prog 42 #[.int .u32 x, .int .u32 17] w fun e w' => e = .returned (.int .u32 (rotR x 17)) ∧ w' = w := turned_calls x 17 (by decide) (by decide) w
theorem turned_18 (x : Int) (w : World) : Calls Tryd.prog 42 #[.int .u32 x, .int .u32 18] w fun e w' => e = .returned (.int .u32 (rotR x 18)) ∧ w' = w := turned_calls x 18 (by decide) (by decide) w
theorem turned_19 (x : Int) (w : World) : Calls Tryd.prog 42 #[.int .u32 x, .int .u32 19] w fun e w' => e = .returned (.int .u32 (rotR x 19)) ∧ w' = w := turned_calls x 19 (by decide) (by decide) w
theorem turned_22 (x : Int) (w : World) : Calls Tryd.prog 42 #[.int .u32 x, .int .u32 22] w fun e w' => e = .returned (.int .u32 (rotR x 22)) ∧ w' = w := turned_calls x 22 (by decide) (by decide) w
theorem turned_25 (x : Int) (w : World) : Calls Tryd.prog 42 #[.int .u32 x, .int .u32 25] w fun e w' => e = .returned (.int .u32 (rotR x 25)) ∧ w' = w := turned_calls x 25 (by decide) (by decide) w
set_option maxHeartbeats 4000000 in
set_option maxRecDepth 100000 in
theorem words_calls (A : Addr) (c0 : Nat) (b : List Int) (hb : b.length = 64) (w : World) (hr : Kd.C (Kd.int .u8) w (some A) 64 b) (hc : 64 ≤ c0) :
    Calls Tryd.prog 41 #[.slice (some A) 64 c0] w fun e w' => e = .returned (.agg ⟨(wordsA b 64).map (Value.int .u32)⟩) ∧ Below w.heap.size w w' := by
  have HR := Aside0.mk hr
  have HC := Aside0.mk hc
  have HL := Aside0.mk hb
  clear hr hc hb
  go_enter Tryd.func41, Tryd.ntmps41
  go_wp2
  generalize hW1 : (w.alloc _).alloc _ = W1
  obtain ⟨hk0, hk1⟩ := alloc2 w (.cells (cellsAt b 0) 73) (.cells (cellsAt b 0) 73)
  have hW2 : ((w.alloc (.cells (cellsAt b 0) 73)).alloc (.cells (cellsAt b 0) 73)) = W1 := hW1
  have HB1 : Aside0 (Below w.heap.size w W1) := ⟨by rw [← hW2]; exact below_alloc (below_alloc (Below.refl _ _) _) _⟩
  rw [hW2] at hk0 hk1
  clear hW1 hW2
  have HK0 := Aside0.mk hk0
  have HK1 := Aside0.mk hk1
  clear hk0 hk1
  go_loopw [4] (fun i wr => ∃ t : Nat, i = .int .i64 t ∧ t ≤ 16 ∧ Aside0 (wr.heap[w.heap.size + 1]? = some (.cells (cellsAt b t) 73 (0, 0))) ∧ Aside0 (wr.heap[w.heap.size]? = some (.cells (cellsAt b 0) 73 (0, 0))) ∧ Aside0 (Below w.heap.size w wr)) (fun i _ => 16 - (intOf i).toNat)
  case atStart => exact ⟨0, rfl, by omega, HK1, HK0, HB1⟩
  case round =>
    clear HK0 HK1 HB1
    obtain ⟨t, rfl, ht, HK1, HK0, HB⟩ := hrel
    by_cases hlt : t < 16
    · have hd1 : decide ((t : Int) < 16) = true := decide_eq_true (by omega)
      have HW := HK1.out
      rw [cellsAt_W b (by omega)] at HW
      have HW0 := Aside0.mk HW
      clear HK1 HW
      obtain ⟨p0, e0⟩ : ∃ p, p = 4 * t := ⟨_, rfl⟩
      obtain ⟨p1, e1⟩ : ∃ p, p = 4 * t + 1 := ⟨_, rfl⟩
      obtain ⟨p2, e2⟩ : ∃ p, p = 4 * t + 2 := ⟨_, rfl⟩
      obtain ⟨p3, e3⟩ : ∃ p, p = 4 * t + 3 := ⟨_, rfl⟩
      have hp0 : wrap64 (4 * (t : Int)) = (p0 : Int) := by unfold wrap64; omega
      have hp1 : wrap64 ((p0 : Int) + 1) = (p1 : Int) := by unfold wrap64; omega
      have hp2 : wrap64 ((p0 : Int) + 2) = (p2 : Int) := by unfold wrap64; omega
      have hp3 : wrap64 ((p0 : Int) + 3) = (p3 : Int) := by unfold wrap64; omega
      have k0 : (p0 : Int) < 64 := by omega
      have k1 : (p1 : Int) < 64 := by omega
      have k2 : (p2 : Int) < 64 := by omega
      have k3 : (p3 : Int) < 64 := by omega
      have kt : (t : Int) < 64 := by omega
      have hat : ∀ p, p < 64 → ∀ W, Below w.heap.size w W → W.cell? (A.add p) = some (.int .u8 (b.getD p 0)) := by
        intro p hp W hW
        obtain ⟨ad, e1, hx0⟩ := Kd.at_int (Kd.C_below HR.out hW) (p : Int) (by omega) (by omega)
        cases e1
        rw [rd, Int.toNat_natCast] at hx0
        exact hx0
      have hnext : Aside0 (nextA b (wordsA b t) t = fourR (b.getD p0 0) (b.getD p1 0) (b.getD p2 0) (b.getD p3 0)) := ⟨by unfold nextA; rw [if_pos hlt, e0, e1, e2, e3, four_word]⟩
      have x0 := Aside0.mk (hat p0 (by omega))
      have x1 := Aside0.mk (hat p1 (by omega))
      have x2 := Aside0.mk (hat p2 (by omega))
      have x3 := Aside0.mk (hat p3 (by omega))
      generalize b.getD p0 0 = c0 at x0 hnext
      generalize b.getD p1 0 = c1 at x1 hnext
      generalize b.getD p2 0 = c2 at x2 hnext
      generalize b.getD p3 0 = c3 at x3 hnext
      have HLT := Aside0.mk hlt
      clear e0 e1 e2 e3 hat hlt
      go_wp2
      refine start_ (n := 36) (S := fun w' => w'.heap[w.heap.size + 1]? = some (.cells (cellsW b t 0) 73 (0, 0)) ∧ w'.heap[w.heap.size]? = some (.cells (cellsAt b 0) 73 (0, 0)) ∧ Below w.heap.size w w') (ds := [35]) #[false, false, false, false, false, false, false, false, false, false, false, false, false, false, false, false, false, false, false, false, false, false, false, false, false, false, false, false, false, false, false, false, false, false, false, false] (by kernel_rfl) rfl rfl ⟨blk_drew HW0.out, blk_drew HK0.out, below_drew HB.out⟩ (fun hHeld => ?_)
      refine pure_ (i := 0) (N := (some 14)) (v := ?_) (a' := ?_) #[true, false, false, false, false, false, false, false, false, false, false, false, false, false, false, false, false, false, false, false, false, false, false, false, false, false, false, false, false, false, false, false, false, false, false, false] rfl rfl (by kernel_rfl) (fun _ _ _ h => h) (Or.inl ⟨by rfl, ?_⟩) ?_ ?_
      rotate_left
      · intro w'
        go_simp
        with_reducible rfl
      rotate_left
      · simp only [Act.put, List.setIfInBounds_toArray, List.set_cons_zero, List.set_cons_succ, i64_w, i32_w, hp0, hp1, hp2, hp3]
        rfl
      refine pure_ (i := 1) (N := (some 15)) (v := ?_) (a' := ?_) #[true, true, false, false, false, false, false, false, false, false, false, false, false, false, false, false, false, false, false, false, false, false, false, false, false, false, false, false, false, false, false, false, false, false, false, false] rfl rfl (by kernel_rfl) (fun _ _ _ h => h) (Or.inl ⟨by rfl, ?_⟩) ?_ ?_
      rotate_left
      · intro w'
        go_simp
        with_reducible rfl
      rotate_left
      · simp only [Act.put, List.setIfInBounds_toArray, List.set_cons_zero, List.set_cons_succ, i64_w, i32_w, hp0, hp1, hp2, hp3]
        rfl
      refine pure_ (i := 2) (N := (some 16)) (v := ?_) (a' := ?_) #[true, true, true, false, false, false, false, false, false, false, false, false, false, false, false, false, false, false, false, false, false, false, false, false, false, false, false, false, false, false, false, false, false, false, false, false] rfl rfl (by kernel_rfl) (fun _ _ _ h => h) (Or.inl ⟨by rfl, ?_⟩) ?_ ?_
      rotate_left
      · intro w'
        go_simp
        with_reducible rfl
      rotate_left
      · simp only [Act.put, List.setIfInBounds_toArray, List.set_cons_zero, List.set_cons_succ, i64_w, i32_w, hp0, hp1, hp2, hp3]
        rfl
      refine pure_ (i := 3) (N := (some 17)) (v := ?_) (a' := ?_) #[true, true, true, true, false, false, false, false, false, false, false, false, false, false, false, false, false, false, false, false, false, false, false, false, false, false, false, false, false, false, false, false, false, false, false, false] rfl rfl (by kernel_rfl) (fun _ _ _ h => h) (Or.inl ⟨by rfl, ?_⟩) ?_ ?_
      rotate_left
      · intro w'
        go_simp
        with_reducible rfl
      rotate_left
      · simp only [Act.put, List.setIfInBounds_toArray, List.set_cons_zero, List.set_cons_succ, i64_w, i32_w, hp0, hp1, hp2, hp3]
        rfl
      refine pure_ (i := 4) (N := (some 18)) (v := ?_) (a' := ?_) #[true, true, true, true, true, false, false, false, false, false, false, false, false, false, false, false, false, false, false, false, false, false, false, false, false, false, false, false, false, false, false, false, false, false, false, false] rfl rfl (by kernel_rfl) (fun _ _ _ h => h) (Or.inl ⟨by rfl, ?_⟩) ?_ ?_
      rotate_left
      · intro w'
        go_simp
        with_reducible rfl
      rotate_left
      · simp only [Act.put, List.setIfInBounds_toArray, List.set_cons_zero, List.set_cons_succ, i64_w, i32_w, hp0, hp1, hp2, hp3]
        rfl
      refine take_ (i := 5) (N := (some 19)) (v := ?_) (a' := ?_) #[true, true, true, true, true, true, false, false, false, false, false, false, false, false, false, false, false, false, false, false, false, false, false, false, false, false, false, false, false, false, false, false, false, false, false, false] rfl rfl (by kernel_rfl) (fun _ _ _ h => h) (Or.inl ⟨by rfl, ?_⟩) hHeld ?_ ?_
      rotate_left
      · rintro w' ⟨s0, s1, s2⟩
        have hx := x0.out w' s2
        go_simp
        with_reducible rfl
      rotate_left
      · simp only [Act.put, List.setIfInBounds_toArray, List.set_cons_zero, List.set_cons_succ, i64_w, i32_w, hp0, hp1, hp2, hp3]
        rfl
      refine pure_ (i := 6) (N := (some 20)) (v := ?_) (a' := ?_) #[true, true, true, true, true, true, true, false, false, false, false, false, false, false, false, false, false, false, false, false, false, false, false, false, false, false, false, false, false, false, false, false, false, false, false, false] rfl rfl (by kernel_rfl) (fun _ _ _ h => h) (Or.inl ⟨by rfl, ?_⟩) ?_ ?_
      rotate_left
      · intro w'
        go_simp
        with_reducible rfl
      rotate_left
      · simp only [Act.put, List.setIfInBounds_toArray, List.set_cons_zero, List.set_cons_succ, i64_w, i32_w, hp0, hp1, hp2, hp3]
        rfl
      refine pure_ (i := 7) (N := (some 21)) (v := ?_) (a' := ?_) #[true, true, true, true, true, true, true, true, false, false, false, false, false, false, false, false, false, false, false, false, false, false, false, false, false, false, false, false, false, false, false, false, false, false, false, false] rfl rfl (by kernel_rfl) (fun _ _ _ h => h) (Or.inl ⟨by rfl, ?_⟩) ?_ ?_
      rotate_left
      · intro w'
        go_simp
        with_reducible rfl
      rotate_left
      · simp only [Act.put, List.setIfInBounds_toArray, List.set_cons_zero, List.set_cons_succ, i64_w, i32_w, hp0, hp1, hp2, hp3]
        rfl
      refine pure_ (i := 8) (N := (some 22)) (v := ?_) (a' := ?_) #[true, true, true, true, true, true, true, true, true, false, false, false, false, false, false, false, false, false, false, false, false, false, false, false, false, false, false, false, false, false, false, false, false, false, false, false] rfl rfl (by kernel_rfl) (fun _ _ _ h => h) (Or.inl ⟨by rfl, ?_⟩) ?_ ?_
      rotate_left
      · intro w'
        go_simp
        with_reducible rfl
      rotate_left
      · simp only [Act.put, List.setIfInBounds_toArray, List.set_cons_zero, List.set_cons_succ, i64_w, i32_w, hp0, hp1, hp2, hp3]
        rfl
      refine pure_ (i := 9) (N := (some 23)) (v := ?_) (a' := ?_) #[true, true, true, true, true, true, true, true, true, true, false, false, false, false, false, false, false, false, false, false, false, false, false, false, false, false, false, false, false, false, false, false, false, false, false, false] rfl rfl (by kernel_rfl) (fun _ _ _ h => h) (Or.inl ⟨by rfl, ?_⟩) ?_ ?_
      rotate_left
      · intro w'
        go_simp
        with_reducible rfl
      rotate_left
      · simp only [Act.put, List.setIfInBounds_toArray, List.set_cons_zero, List.set_cons_succ, i64_w, i32_w, hp0, hp1, hp2, hp3]
        rfl
      refine pure_ (i := 10) (N := (some 24)) (v := ?_) (a' := ?_) #[true, true, true, true, true, true, true, true, true, true, true, false, false, false, false, false, false, false, false, false, false, false, false, false, false, false, false, false, false, false, false, false, false, false, false, false] rfl rfl (by kernel_rfl) (fun _ _ _ h => h) (Or.inl ⟨by rfl, ?_⟩) ?_ ?_
      rotate_left
      · intro w'
        go_simp
        with_reducible rfl
      rotate_left
      · simp only [Act.put, List.setIfInBounds_toArray, List.set_cons_zero, List.set_cons_succ, i64_w, i32_w, hp0, hp1, hp2, hp3]
        rfl
      refine pure_ (i := 11) (N := (some 25)) (v := ?_) (a' := ?_) #[true, true, true, true, true, true, true, true, true, true, true, true, false, false, false, false, false, false, false, false, false, false, false, false, false, false, false, false, false, false, false, false, false, false, false, false] rfl rfl (by kernel_rfl) (fun _ _ _ h => h) (Or.inl ⟨by rfl, ?_⟩) ?_ ?_
      rotate_left
      · intro w'
        go_simp
        with_reducible rfl
      rotate_left
      · simp only [Act.put, List.setIfInBounds_toArray, List.set_cons_zero, List.set_cons_succ, i64_w, i32_w, hp0, hp1, hp2, hp3]
        rfl
      refine pure_ (i := 12) (N := (some 26)) (v := ?_) (a' := ?_) #[true, true, true, true, true, true, true, true, true, true, true, true, true, false, false, false, false, false, false, false, false, false, false, false, false, false, false, false, false, false, false, false, false, false, false, false] rfl rfl (by kernel_rfl) (fun _ _ _ h => h) (Or.inl ⟨by rfl, ?_⟩) ?_ ?_
      rotate_left
      · intro w'
        go_simp
        with_reducible rfl
      rotate_left
      · simp only [Act.put, List.setIfInBounds_toArray, List.set_cons_zero, List.set_cons_succ, i64_w, i32_w, hp0, hp1, hp2, hp3]
        rfl
      refine take_ (i := 13) (N := (some 27)) (v := ?_) (a' := ?_) #[true, true, true, true, true, true, true, true, true, true, true, true, true, true, false, false, false, false, false, false, false, false, false, false, false, false, false, false, false, false, false, false, false, false, false, false] rfl rfl (by kernel_rfl) (fun _ _ _ h => h) (Or.inl ⟨by rfl, ?_⟩) hHeld ?_ ?_
      rotate_left
      · rintro w' ⟨s0, s1, s2⟩
        have hx := x1.out w' s2
        go_simp
        with_reducible rfl
      rotate_left
      · simp only [Act.put, List.setIfInBounds_toArray, List.set_cons_zero, List.set_cons_succ, i64_w, i32_w, hp0, hp1, hp2, hp3]
        rfl
      refine pure_ (i := 14) (N := (some 28)) (v := ?_) (a' := ?_) #[true, true, true, true, true, true, true, true, true, true, true, true, true, true, true, false, false, false, false, false, false, false, false, false, false, false, false, false, false, false, false, false, false, false, false, false] rfl rfl (by kernel_rfl) (fun _ _ _ h => h) (Or.inl ⟨by rfl, ?_⟩) ?_ ?_
      rotate_left
      · intro w'
        go_simp
        with_reducible rfl
      rotate_left
      · simp only [Act.put, List.setIfInBounds_toArray, List.set_cons_zero, List.set_cons_succ, i64_w, i32_w, hp0, hp1, hp2, hp3]
        rfl
      refine pure_ (i := 15) (N := (some 29)) (v := ?_) (a' := ?_) #[true, true, true, true, true, true, true, true, true, true, true, true, true, true, true, true, false, false, false, false, false, false, false, false, false, false, false, false, false, false, false, false, false, false, false, false] rfl rfl (by kernel_rfl) (fun _ _ _ h => h) (Or.inl ⟨by rfl, ?_⟩) ?_ ?_
      rotate_left
      · intro w'
        go_simp
        with_reducible rfl
      rotate_left
      · simp only [Act.put, List.setIfInBounds_toArray, List.set_cons_zero, List.set_cons_succ, i64_w, i32_w, hp0, hp1, hp2, hp3]
        rfl
      refine pure_ (i := 16) (N := (some 30)) (v := ?_) (a' := ?_) #[true, true, true, true, true, true, true, true, true, true, true, true, true, true, true, true, true, false, false, false, false, false, false, false, false, false, false, false, false, false, false, false, false, false, false, false] rfl rfl (by kernel_rfl) (fun _ _ _ h => h) (Or.inl ⟨by rfl, ?_⟩) ?_ ?_
      rotate_left
      · intro w'
        go_simp
        with_reducible rfl
      rotate_left
      · simp only [Act.put, List.setIfInBounds_toArray, List.set_cons_zero, List.set_cons_succ, i64_w, i32_w, hp0, hp1, hp2, hp3]
        rfl
      refine pure_ (i := 17) (N := (some 31)) (v := ?_) (a' := ?_) #[true, true, true, true, true, true, true, true, true, true, true, true, true, true, true, true, true, true, false, false, false, false, false, false, false, false, false, false, false, false, false, false, false, false, false, false] rfl rfl (by kernel_rfl) (fun _ _ _ h => h) (Or.inl ⟨by rfl, ?_⟩) ?_ ?_
      rotate_left
      · intro w'
        go_simp
        with_reducible rfl
      rotate_left
      · simp only [Act.put, List.setIfInBounds_toArray, List.set_cons_zero, List.set_cons_succ, i64_w, i32_w, hp0, hp1, hp2, hp3]
        rfl
      refine pure_ (i := 18) (N := (some 32)) (v := ?_) (a' := ?_) #[true, true, true, true, true, true, true, true, true, true, true, true, true, true, true, true, true, true, true, false, false, false, false, false, false, false, false, false, false, false, false, false, false, false, false, false] rfl rfl (by kernel_rfl) (fun _ _ _ h => h) (Or.inl ⟨by rfl, ?_⟩) ?_ ?_
      rotate_left
      · intro w'
        go_simp
        with_reducible rfl
      rotate_left
      · simp only [Act.put, List.setIfInBounds_toArray, List.set_cons_zero, List.set_cons_succ, i64_w, i32_w, hp0, hp1, hp2, hp3]
        rfl
      refine pure_ (i := 19) (N := (some 33)) (v := ?_) (a' := ?_) #[true, true, true, true, true, true, true, true, true, true, true, true, true, true, true, true, true, true, true, true, false, false, false, false, false, false, false, false, false, false, false, false, false, false, false, false] rfl rfl (by kernel_rfl) (fun _ _ _ h => h) (Or.inl ⟨by rfl, ?_⟩) ?_ ?_
      rotate_left
      · intro w'
        go_simp
        with_reducible rfl
      rotate_left
      · simp only [Act.put, List.setIfInBounds_toArray, List.set_cons_zero, List.set_cons_succ, i64_w, i32_w, hp0, hp1, hp2, hp3]
        rfl
      refine pure_ (i := 20) (N := (some 34)) (v := ?_) (a' := ?_) #[true, true, true, true, true, true, true, true, true, true, true, true, true, true, true, true, true, true, true, true, true, false, false, false, false, false, false, false, false, false, false, false, false, false, false, false] rfl rfl (by kernel_rfl) (fun _ _ _ h => h) (Or.inl ⟨by rfl, ?_⟩) ?_ ?_
      rotate_left
      · intro w'
        go_simp
        with_reducible rfl
      rotate_left
      · simp only [Act.put, List.setIfInBounds_toArray, List.set_cons_zero, List.set_cons_succ, i64_w, i32_w, hp0, hp1, hp2, hp3]
        rfl
      refine pure_ (i := 21) (N := (some 35)) (v := ?_) (a' := ?_) #[true, true, true, true, true, true, true, true, true, true, true, true, true, true, true, true, true, true, true, true, true, true, false, false, false, false, false, false, false, false, false, false, false, false, false, false] rfl rfl (by kernel_rfl) (fun _ _ _ h => h) (Or.inl ⟨by rfl, ?_⟩) ?_ ?_
      rotate_left
      · intro w'
        go_simp
        with_reducible rfl
      rotate_left
      · simp only [Act.put, List.setIfInBounds_toArray, List.set_cons_zero, List.set_cons_succ, i64_w, i32_w, hp0, hp1, hp2, hp3]
        rfl
      refine take_ (i := 22) (N := (some 36)) (v := ?_) (a' := ?_) #[true, true, true, true, true, true, true, true, true, true, true, true, true, true, true, true, true, true, true, true, true, true, true, false, false, false, false, false, false, false, false, false, false, false, false, false] rfl rfl (by kernel_rfl) (fun _ _ _ h => h) (Or.inl ⟨by rfl, ?_⟩) hHeld ?_ ?_
      rotate_left
      · rintro w' ⟨s0, s1, s2⟩
        have hx := x2.out w' s2
        go_simp
        with_reducible rfl
      rotate_left
      · simp only [Act.put, List.setIfInBounds_toArray, List.set_cons_zero, List.set_cons_succ, i64_w, i32_w, hp0, hp1, hp2, hp3]
        rfl
      refine pure_ (i := 23) (N := (some 37)) (v := ?_) (a' := ?_) #[true, true, true, true, true, true, true, true, true, true, true, true, true, true, true, true, true, true, true, true, true, true, true, true, false, false, false, false, false, false, false, false, false, false, false, false] rfl rfl (by kernel_rfl) (fun _ _ _ h => h) (Or.inl ⟨by rfl, ?_⟩) ?_ ?_
      rotate_left
      · intro w'
        go_simp
        with_reducible rfl
      rotate_left
      · simp only [Act.put, List.setIfInBounds_toArray, List.set_cons_zero, List.set_cons_succ, i64_w, i32_w, hp0, hp1, hp2, hp3]
        rfl
      refine pure_ (i := 24) (N := (some 38)) (v := ?_) (a' := ?_) #[true, true, true, true, true, true, true, true, true, true, true, true, true, true, true, true, true, true, true, true, true, true, true, true, true, false, false, false, false, false, false, false, false, false, false, false] rfl rfl (by kernel_rfl) (fun _ _ _ h => h) (Or.inl ⟨by rfl, ?_⟩) ?_ ?_
      rotate_left
      · intro w'
        go_simp
        with_reducible rfl
      rotate_left
      · simp only [Act.put, List.setIfInBounds_toArray, List.set_cons_zero, List.set_cons_succ, i64_w, i32_w, hp0, hp1, hp2, hp3]
        rfl
      refine pure_ (i := 25) (N := (some 39)) (v := ?_) (a' := ?_) #[true, true, true, true, true, true, true, true, true, true, true, true, true, true, true, true, true, true, true, true, true, true, true, true, true, true, false, false, false, false, false, false, false, false, false, false] rfl rfl (by kernel_rfl) (fun _ _ _ h => h) (Or.inl ⟨by rfl, ?_⟩) ?_ ?_
      rotate_left
      · intro w'
        go_simp
        with_reducible rfl
      rotate_left
      · simp only [Act.put, List.setIfInBounds_toArray, List.set_cons_zero, List.set_cons_succ, i64_w, i32_w, hp0, hp1, hp2, hp3]
        rfl
      refine pure_ (i := 26) (N := (some 40)) (v := ?_) (a' := ?_) #[true, true, true, true, true, true, true, true, true, true, true, true, true, true, true, true, true, true, true, true, true, true, true, true, true, true, true, false, false, false, false, false, false, false, false, false] rfl rfl (by kernel_rfl) (fun _ _ _ h => h) (Or.inl ⟨by rfl, ?_⟩) ?_ ?_
      rotate_left
      · intro w'
        go_simp
        with_reducible rfl
      rotate_left
      · simp only [Act.put, List.setIfInBounds_toArray, List.set_cons_zero, List.set_cons_succ, i64_w, i32_w, hp0, hp1, hp2, hp3]
        rfl
      refine pure_ (i := 27) (N := (some 41)) (v := ?_) (a' := ?_) #[true, true, true, true, true, true, true, true, true, true, true, true, true, true, true, true, true, true, true, true, true, true, true, true, true, true, true, true, false, false, false, false, false, false, false, false] rfl rfl (by kernel_rfl) (fun _ _ _ h => h) (Or.inl ⟨by rfl, ?_⟩) ?_ ?_
      rotate_left
      · intro w'
        go_simp
        with_reducible rfl
      rotate_left
      · simp only [Act.put, List.setIfInBounds_toArray, List.set_cons_zero, List.set_cons_succ, i64_w, i32_w, hp0, hp1, hp2, hp3]
        rfl
      refine pure_ (i := 28) (N := (some 42)) (v := ?_) (a' := ?_) #[true, true, true, true, true, true, true, true, true, true, true, true, true, true, true, true, true, true, true, true, true, true, true, true, true, true, true, true, true, false, false, false, false, false, false, false] rfl rfl (by kernel_rfl) (fun _ _ _ h => h) (Or.inl ⟨by rfl, ?_⟩) ?_ ?_
      rotate_left
      · intro w'
        go_simp
        with_reducible rfl
      rotate_left
      · simp only [Act.put, List.setIfInBounds_toArray, List.set_cons_zero, List.set_cons_succ, i64_w, i32_w, hp0, hp1, hp2, hp3]
        rfl
      refine pure_ (i := 29) (N := (some 43)) (v := ?_) (a' := ?_) #[true, true, true, true, true, true, true, true, true, true, true, true, true, true, true, true, true, true, true, true, true, true, true, true, true, true, true, true, true, true, false, false, false, false, false, false] rfl rfl (by kernel_rfl) (fun _ _ _ h => h) (Or.inl ⟨by rfl, ?_⟩) ?_ ?_
      rotate_left
      · intro w'
        go_simp
        with_reducible rfl
      rotate_left
      · simp only [Act.put, List.setIfInBounds_toArray, List.set_cons_zero, List.set_cons_succ, i64_w, i32_w, hp0, hp1, hp2, hp3]
        rfl
      refine pure_ (i := 30) (N := (some 44)) (v := ?_) (a' := ?_) #[true, true, true, true, true, true, true, true, true, true, true, true, true, true, true, true, true, true, true, true, true, true, true, true, true, true, true, true, true, true, true, false, false, false, false, false] rfl rfl (by kernel_rfl) (fun _ _ _ h => h) (Or.inl ⟨by rfl, ?_⟩) ?_ ?_
      rotate_left
      · intro w'
        go_simp
        with_reducible rfl
      rotate_left
      · simp only [Act.put, List.setIfInBounds_toArray, List.set_cons_zero, List.set_cons_succ, i64_w, i32_w, hp0, hp1, hp2, hp3]
        rfl
      refine take_ (i := 31) (N := (some 45)) (v := ?_) (a' := ?_) #[true, true, true, true, true, true, true, true, true, true, true, true, true, true, true, true, true, true, true, true, true, true, true, true, true, true, true, true, true, true, true, true, false, false, false, false] rfl rfl (by kernel_rfl) (fun _ _ _ h => h) (Or.inl ⟨by rfl, ?_⟩) hHeld ?_ ?_
      rotate_left
      · rintro w' ⟨s0, s1, s2⟩
        have hx := x3.out w' s2
        go_simp
        with_reducible rfl
      rotate_left
      · simp only [Act.put, List.setIfInBounds_toArray, List.set_cons_zero, List.set_cons_succ, i64_w, i32_w, hp0, hp1, hp2, hp3]
        rfl
      refine pure_ (i := 32) (N := (some 46)) (v := ?_) (a' := ?_) #[true, true, true, true, true, true, true, true, true, true, true, true, true, true, true, true, true, true, true, true, true, true, true, true, true, true, true, true, true, true, true, true, true, false, false, false] rfl rfl (by kernel_rfl) (fun _ _ _ h => h) (Or.inl ⟨by rfl, ?_⟩) ?_ ?_
      rotate_left
      · intro w'
        go_simp
        with_reducible rfl
      rotate_left
      · simp only [Act.put, List.setIfInBounds_toArray, List.set_cons_zero, List.set_cons_succ, i64_w, i32_w, hp0, hp1, hp2, hp3]
        rfl
      refine pure_ (i := 33) (N := (some 47)) (v := ?_) (a' := ?_) #[true, true, true, true, true, true, true, true, true, true, true, true, true, true, true, true, true, true, true, true, true, true, true, true, true, true, true, true, true, true, true, true, true, true, false, false] rfl rfl (by kernel_rfl) (fun _ _ _ h => h) (Or.inl ⟨by rfl, ?_⟩) ?_ ?_
      rotate_left
      · intro w'
        go_simp
        with_reducible rfl
      rotate_left
      · simp only [Act.put, List.setIfInBounds_toArray, List.set_cons_zero, List.set_cons_succ, i64_w, i32_w, hp0, hp1, hp2, hp3]
        rfl
      refine pure_ (i := 34) (N := (some 48)) (v := ?_) (a' := ?_) #[true, true, true, true, true, true, true, true, true, true, true, true, true, true, true, true, true, true, true, true, true, true, true, true, true, true, true, true, true, true, true, true, true, true, true, false] rfl rfl (by kernel_rfl) (fun _ _ _ h => h) (Or.inl ⟨by rfl, ?_⟩) ?_ ?_
      rotate_left
      · intro w'
        go_simp
        with_reducible rfl
      rotate_left
      · simp only [Act.put, List.setIfInBounds_toArray, List.set_cons_zero, List.set_cons_succ, i64_w, i32_w, hp0, hp1, hp2, hp3]
        rfl
      refine last_ (i := 35) (N := none) #[true, true, true, true, true, true, true, true, true, true, true, true, true, true, true, true, true, true, true, true, true, true, true, true, true, true, true, true, true, true, true, true, true, true, true, true] rfl rfl (by kernel_rfl) (by decide) (fun K hK => ?_)
      refine ite_wanted rfl ?_
      have hcw := (blk_cell hHeld.1 t).trans (cellsW_get b 0)
      have hfw := blk_frozen hHeld.1 t
      go_simp
      refine hK.out _ _ ?_
      clear hK K hcw hfw
      refine done_ (by kernel_rfl) ?_
      obtain ⟨z1, z0, z3⟩ := hHeld
      have hnew := blk_setW z1 (nextA b (wordsA b t) t)
      rw [cellsW_next b (show t < 64 by have := HLT.out; omega), hnext.out] at hnew
      have hk0 := (Below.heap_setCell wr.drew ⟨w.heap.size + 1, t, none⟩ (.int .u32 (fourR c0 c1 c2 c3)) w.heap.size (by simp)).trans z0
      have hbb := z3.setCell (p := ⟨w.heap.size + 1, t, none⟩) (by simp) (.int .u32 (fourR c0 c1 c2 c3))
      have HN := Aside0.mk hnew
      have HN0 := Aside0.mk hk0
      have HNB := Aside0.mk hbb
      clear hnew hk0 hbb z0 z1 z3
      go_wp2
      exact ⟨⟨t + 1, rfl, by have := HLT.out; omega, HN, HN0, HNB⟩, by have := HLT.out; simp [intOf]; omega⟩
    · have hd1 : decide ((t : Int) < 16) = false := decide_eq_false (by omega)
      have ht16 : t = 16 := by omega
      have HK16 : Aside0 (wr.heap[w.heap.size + 1]? = some (.cells (cellsAt b 16) 73 (0, 0))) := ⟨by rw [← ht16]; exact HK1.out⟩
      clear HK1 ht16
      go_wp2
      go_loopw [5] (fun i wr => ∃ t : Nat, i = .int .i64 t ∧ 16 ≤ t ∧ t ≤ 64 ∧ Aside0 (wr.heap[w.heap.size + 1]? = some (.cells (cellsAt b t) 73 (0, 0))) ∧ Aside0 (wr.heap[w.heap.size]? = some (.cells (cellsAt b 0) 73 (0, 0))) ∧ Aside0 (Below w.heap.size w wr)) (fun i _ => 64 - (intOf i).toNat)
      case atStart => exact ⟨16, rfl, by omega, by omega, HK16, HK0, HB⟩
      case round =>
        clear HK0 HK16 HB
        obtain ⟨t, rfl, ht16, ht, HK1, HK0, HB⟩ := hrel
        by_cases hlt : t < 64
        · have hd1 : decide ((t : Int) < 64) = true := decide_eq_true (by omega)
          have HW := HK1.out
          rw [cellsAt_W b hlt] at HW
          have HW0 := Aside0.mk HW
          clear HK1 HW
          obtain ⟨p16, e16⟩ : ∃ p, p = t - 16 := ⟨_, rfl⟩
          obtain ⟨p15, e15⟩ : ∃ p, p = t - 15 := ⟨_, rfl⟩
          obtain ⟨p7, e7⟩ : ∃ p, p = t - 7 := ⟨_, rfl⟩
          obtain ⟨p2, e2⟩ : ∃ p, p = t - 2 := ⟨_, rfl⟩
          have hw16 : wrap64 ((t : Int) - 16) = (p16 : Int) := by unfold wrap64; omega
          have hw15 : wrap64 ((t : Int) - 15) = (p15 : Int) := by unfold wrap64; omega
          have hw7 : wrap64 ((t : Int) - 7) = (p7 : Int) := by unfold wrap64; omega
          have hw2 : wrap64 ((t : Int) - 2) = (p2 : Int) := by unfold wrap64; omega
          have k16 : (p16 : Int) < 64 := by omega
          have k15 : (p15 : Int) < 64 := by omega
          have k7 : (p7 : Int) < 64 := by omega
          have k2 : (p2 : Int) < 64 := by omega
          have kt : (t : Int) < 64 := by omega
          have x16 := Aside0.mk (cellsW_low b 0 (show p16 < t by omega))
          have x15 := (cellsW_low b 0 (show p15 < t by omega))
          have x7 := Aside0.mk (cellsW_low b 0 (show p7 < t by omega))
          have x2 := (cellsW_low b 0 (show p2 < t by omega))
          have hnext : Aside0 (nextA b (wordsA b t) t = ad (ad (ad ((wordsA b t).getD p16 0) ((wordsA b t).getD p7 0)) (lowW ((wordsA b t).getD p15 0))) (highW ((wordsA b t).getD p2 0))) := ⟨by unfold nextA; rw [if_neg (by omega), e16, e15, e7, e2, ad_swap (List.getD _ (t - 16) 0)]⟩
          generalize (wordsA b t).getD p16 0 = y16 at x16 hnext
          generalize (wordsA b t).getD p15 0 = y15 at x15 hnext
          generalize (wordsA b t).getD p7 0 = y7 at x7 hnext
          generalize (wordsA b t).getD p2 0 = y2 at x2 hnext
          have hx15 : wr.cell? ⟨w.heap.size + 1, t - 15, none⟩ = some (.int .u32 y15) := by rw [← e15]; exact (blk_cell HW0.out p15).trans x15
          have hx2 : wr.cell? ⟨w.heap.size + 1, t - 2, none⟩ = some (.int .u32 y2) := by rw [← e2]; exact (blk_cell HW0.out p2).trans x2
          clear e16 e15 e7 e2 x15 x2
          repeat (first
            | (go_at_call 42; (with_reducible refine (turned_7 y15 _).mono ?_); rintro e1 w1 ⟨rfl, rfl⟩; dsimp only)
            | (go_at_call 42; (with_reducible refine (turned_18 y15 _).mono ?_); rintro e1 w1 ⟨rfl, rfl⟩; dsimp only)
            | (go_at_call 42; (with_reducible refine (turned_17 y2 _).mono ?_); rintro e1 w1 ⟨rfl, rfl⟩; dsimp only)
            | (go_at_call 42; (with_reducible refine (turned_19 y2 _).mono ?_); rintro e1 w1 ⟨rfl, rfl⟩; dsimp only)
            | go_values | go_guarded | go_step | go_upon | go_back)
          have hlow : Go.bits .xor .u32 (Go.bits .xor .u32 (rotR y15 7) (rotR y15 18)) (y15 / 8) = lowW y15 := rfl
          have hhigh : Go.bits .xor .u32 (Go.bits .xor .u32 (rotR y2 17) (rotR y2 19)) (y2 / 1024) = highW y2 := rfl
          rw [hlow, hhigh]
          generalize lowW y15 = u at hnext ⊢
          generalize highW y2 = v at hnext ⊢
          clear hlow hhigh hx15 hx2
          refine start_ (n := 16) (S := fun w' => w'.heap[w.heap.size + 1]? = some (.cells (cellsW b t 0) 73 (0, 0)) ∧ w'.heap[w.heap.size]? = some (.cells (cellsAt b 0) 73 (0, 0)) ∧ Below w.heap.size w w') (ds := [15]) #[false, false, false, false, false, false, false, false, false, false, false, false, false, false, false, false] (by kernel_rfl) rfl rfl ⟨blk_drew HW0.out, blk_drew HK0.out, below_drew HB.out⟩ (fun hHeld => ?_)
          refine pure_ (i := 0) (N := (some 77)) (v := ?_) (a' := ?_) #[true, false, false, false, false, false, false, false, false, false, false, false, false, false, false, false] rfl rfl (by kernel_rfl) (fun _ _ _ h => h) (Or.inl ⟨by rfl, ?_⟩) ?_ ?_
          rotate_left
          · intro w'
            go_simp
            with_reducible rfl
          rotate_left
          · simp only [Act.put, List.setIfInBounds_toArray, List.set_cons_zero, List.set_cons_succ, i64_w, i32_w, hw16, hw15, hw7, hw2]
            rfl
          refine pure_ (i := 1) (N := (some 78)) (v := ?_) (a' := ?_) #[true, true, false, false, false, false, false, false, false, false, false, false, false, false, false, false] rfl rfl (by kernel_rfl) (fun _ _ _ h => h) (Or.inl ⟨by rfl, ?_⟩) ?_ ?_
          rotate_left
          · intro w'
            go_simp
            with_reducible rfl
          rotate_left
          · simp only [Act.put, List.setIfInBounds_toArray, List.set_cons_zero, List.set_cons_succ, i64_w, i32_w, hw16, hw15, hw7, hw2]
            rfl
          refine pure_ (i := 2) (N := (some 79)) (v := ?_) (a' := ?_) #[true, true, true, false, false, false, false, false, false, false, false, false, false, false, false, false] rfl rfl (by kernel_rfl) (fun _ _ _ h => h) (Or.inl ⟨by rfl, ?_⟩) ?_ ?_
          rotate_left
          · intro w'
            go_simp
            with_reducible rfl
          rotate_left
          · simp only [Act.put, List.setIfInBounds_toArray, List.set_cons_zero, List.set_cons_succ, i64_w, i32_w, hw16, hw15, hw7, hw2]
            rfl
          refine pure_ (i := 3) (N := (some 80)) (v := ?_) (a' := ?_) #[true, true, true, true, false, false, false, false, false, false, false, false, false, false, false, false] rfl rfl (by kernel_rfl) (fun _ _ _ h => h) (Or.inl ⟨by rfl, ?_⟩) ?_ ?_
          rotate_left
          · intro w'
            go_simp
            with_reducible rfl
          rotate_left
          · simp only [Act.put, List.setIfInBounds_toArray, List.set_cons_zero, List.set_cons_succ, i64_w, i32_w, hw16, hw15, hw7, hw2]
            rfl
          refine take_ (i := 4) (N := (some 81)) (v := ?_) (a' := ?_) #[true, true, true, true, true, false, false, false, false, false, false, false, false, false, false, false] rfl rfl (by kernel_rfl) (fun _ _ _ h => h) (Or.inl ⟨by rfl, ?_⟩) hHeld ?_ ?_
          rotate_left
          · rintro w' ⟨s0, s1, s2⟩
            have hx := (blk_cell s0 p16).trans x16.out
            go_simp
            with_reducible rfl
          rotate_left
          · simp only [Act.put, List.setIfInBounds_toArray, List.set_cons_zero, List.set_cons_succ, i64_w, i32_w, hw16, hw15, hw7, hw2]
            rfl
          refine pure_ (i := 5) (N := (some 82)) (v := ?_) (a' := ?_) #[true, true, true, true, true, true, false, false, false, false, false, false, false, false, false, false] rfl rfl (by kernel_rfl) (fun _ _ _ h => h) (Or.inl ⟨by rfl, ?_⟩) ?_ ?_
          rotate_left
          · intro w'
            go_simp
            with_reducible rfl
          rotate_left
          · simp only [Act.put, List.setIfInBounds_toArray, List.set_cons_zero, List.set_cons_succ, i64_w, i32_w, hw16, hw15, hw7, hw2]
            rfl
          refine pure_ (i := 6) (N := (some 83)) (v := ?_) (a' := ?_) #[true, true, true, true, true, true, true, false, false, false, false, false, false, false, false, false] rfl rfl (by kernel_rfl) (fun _ _ _ h => h) (Or.inl ⟨by rfl, ?_⟩) ?_ ?_
          rotate_left
          · intro w'
            go_simp
            with_reducible rfl
          rotate_left
          · simp only [Act.put, List.setIfInBounds_toArray, List.set_cons_zero, List.set_cons_succ, i64_w, i32_w, hw16, hw15, hw7, hw2]
            rfl
          refine pure_ (i := 7) (N := (some 84)) (v := ?_) (a' := ?_) #[true, true, true, true, true, true, true, true, false, false, false, false, false, false, false, false] rfl rfl (by kernel_rfl) (fun _ _ _ h => h) (Or.inl ⟨by rfl, ?_⟩) ?_ ?_
          rotate_left
          · intro w'
            go_simp
            with_reducible rfl
          rotate_left
          · simp only [Act.put, List.setIfInBounds_toArray, List.set_cons_zero, List.set_cons_succ, i64_w, i32_w, hw16, hw15, hw7, hw2]
            rfl
          refine take_ (i := 8) (N := (some 85)) (v := ?_) (a' := ?_) #[true, true, true, true, true, true, true, true, true, false, false, false, false, false, false, false] rfl rfl (by kernel_rfl) (fun _ _ _ h => h) (Or.inl ⟨by rfl, ?_⟩) hHeld ?_ ?_
          rotate_left
          · rintro w' ⟨s0, s1, s2⟩
            have hx := (blk_cell s0 p7).trans x7.out
            go_simp
            with_reducible rfl
          rotate_left
          · simp only [Act.put, List.setIfInBounds_toArray, List.set_cons_zero, List.set_cons_succ, i64_w, i32_w, hw16, hw15, hw7, hw2]
            rfl
          refine pure_ (i := 9) (N := (some 86)) (v := ?_) (a' := ?_) #[true, true, true, true, true, true, true, true, true, true, false, false, false, false, false, false] rfl rfl (by kernel_rfl) (fun _ _ _ h => h) (Or.inl ⟨by rfl, ?_⟩) ?_ ?_
          rotate_left
          · intro w'
            go_simp
            with_reducible rfl
          rotate_left
          · simp only [Act.put, List.setIfInBounds_toArray, List.set_cons_zero, List.set_cons_succ, i64_w, i32_w, hw16, hw15, hw7, hw2]
            rfl
          refine pure_ (i := 10) (N := (some 87)) (v := ?_) (a' := ?_) #[true, true, true, true, true, true, true, true, true, true, true, false, false, false, false, false] rfl rfl (by kernel_rfl) (fun _ _ _ h => h) (Or.inl ⟨by rfl, ?_⟩) ?_ ?_
          rotate_left
          · intro w'
            go_simp
            with_reducible rfl
          rotate_left
          · simp only [Act.put, List.setIfInBounds_toArray, List.set_cons_zero, List.set_cons_succ, i64_w, i32_w, hw16, hw15, hw7, hw2]
            rfl
          refine pure_ (i := 11) (N := (some 88)) (v := ?_) (a' := ?_) #[true, true, true, true, true, true, true, true, true, true, true, true, false, false, false, false] rfl rfl (by kernel_rfl) (fun _ _ _ h => h) (Or.inl ⟨by rfl, ?_⟩) ?_ ?_
          rotate_left
          · intro w'
            go_simp
            with_reducible rfl
          rotate_left
          · simp only [Act.put, List.setIfInBounds_toArray, List.set_cons_zero, List.set_cons_succ, i64_w, i32_w, hw16, hw15, hw7, hw2]
            rfl
          refine pure_ (i := 12) (N := (some 89)) (v := ?_) (a' := ?_) #[true, true, true, true, true, true, true, true, true, true, true, true, true, false, false, false] rfl rfl (by kernel_rfl) (fun _ _ _ h => h) (Or.inl ⟨by rfl, ?_⟩) ?_ ?_
          rotate_left
          · intro w'
            go_simp
            with_reducible rfl
          rotate_left
          · simp only [Act.put, List.setIfInBounds_toArray, List.set_cons_zero, List.set_cons_succ, i64_w, i32_w, hw16, hw15, hw7, hw2]
            rfl
          refine pure_ (i := 13) (N := (some 90)) (v := ?_) (a' := ?_) #[true, true, true, true, true, true, true, true, true, true, true, true, true, true, false, false] rfl rfl (by kernel_rfl) (fun _ _ _ h => h) (Or.inl ⟨by rfl, ?_⟩) ?_ ?_
          rotate_left
          · intro w'
            go_simp
            with_reducible rfl
          rotate_left
          · simp only [Act.put, List.setIfInBounds_toArray, List.set_cons_zero, List.set_cons_succ, i64_w, i32_w, hw16, hw15, hw7, hw2]
            rfl
          refine pure_ (i := 14) (N := (some 91)) (v := ?_) (a' := ?_) #[true, true, true, true, true, true, true, true, true, true, true, true, true, true, true, false] rfl rfl (by kernel_rfl) (fun _ _ _ h => h) (Or.inl ⟨by rfl, ?_⟩) ?_ ?_
          rotate_left
          · intro w'
            go_simp
            with_reducible rfl
          rotate_left
          · simp only [Act.put, List.setIfInBounds_toArray, List.set_cons_zero, List.set_cons_succ, i64_w, i32_w, hw16, hw15, hw7, hw2]
            rfl
          refine last_ (i := 15) (N := none) #[true, true, true, true, true, true, true, true, true, true, true, true, true, true, true, true] rfl rfl (by kernel_rfl) (by decide) (fun K hK => ?_)
          refine ite_wanted rfl ?_
          have hcw := (blk_cell hHeld.1 t).trans (cellsW_get b 0)
          have hfw := blk_frozen hHeld.1 t
          go_simp
          refine hK.out _ _ ?_
          clear hK K hcw hfw
          refine done_ (by kernel_rfl) ?_
          obtain ⟨z1, z0, z3⟩ := hHeld
          have hnew := blk_setW z1 (nextA b (wordsA b t) t)
          rw [cellsW_next b hlt, hnext.out] at hnew
          have hk0 := (Below.heap_setCell w1.drew ⟨w.heap.size + 1, t, none⟩ (.int .u32 (ad (ad (ad y16 y7) u) v)) w.heap.size (by simp)).trans z0
          have hbb := z3.setCell (p := ⟨w.heap.size + 1, t, none⟩) (by simp) (.int .u32 (ad (ad (ad y16 y7) u) v))
          have HN := Aside0.mk hnew
          have HN0 := Aside0.mk hk0
          have HNB := Aside0.mk hbb
          clear hnew hk0 hbb z0 z1 z3
          go_wp2
          exact ⟨⟨t + 1, rfl, by omega, by omega, HN, HN0, HNB⟩, by simp [intOf]; omega⟩
        · have hd1 : decide ((t : Int) < 64) = false := decide_eq_false (by omega)
          have ht64 : t = 64 := by omega
          subst ht64
          have HKA : Aside0 (wr.heap[w.heap.size + 1]? = some (.cells ⟨(wordsA b 64).map (Value.int .u32)⟩ 73 (0, 0))) := ⟨by rw [← cellsAt_all]; exact HK1.out⟩
          have hone := one_u32 (wordsA b 64)
          have hsz : ((wordsA b 64).map (Value.int .u32)).length = 64 := by simp [wordsA_length]
          generalize hvs : (wordsA b 64).map (Value.int .u32) = vs at HKA hone hsz
          have HVS := Aside0.mk hvs
          have HON := Aside0.mk hone
          clear HK1 hvs hone
          have hi : (Tryd.prog.info? 73).map (·.size) = some (⟨vs⟩ : Array Value).size := by
            rw [show (⟨vs⟩ : Array Value).size = 64 from hsz]
            rfl
          have hsz0 : (cellsAt b 0).size = (⟨vs⟩ : Array Value).size := by rw [show (⟨vs⟩ : Array Value).size = 64 from hsz]; rfl
          repeat (first
            | ((with_reducible refine wpList_load 73 (.tmp 3) (w.heap.size + 1) _ _ (.array 64 52) rfl rfl ?hx HKA.out ?hu ?hd hi ?_); (case hx => rfl); (case hu => exact Tryd.underlying73); (case hd => rfl))
            | ((with_reducible refine wpList_store 73 (.tmp 2) (.tmp 92) w.heap.size _ _ ⟨vs⟩ rfl rfl ?hx ?hy HK0.out hsz0 hi HON.out ?_); (case hx => rfl); (case hy => rfl); intro w1 g1 g2 g3 g4; have HG1 := Aside0.mk g1; have HG3 := Aside0.mk (g3 _ _ HB.out (Nat.le_refl _)); clear g1 g2 g3 g4)
            | go_values | go_guarded | go_step | go_upon | go_back)
          refine bodyPost_ret (results_single rfl (.cell w.heap.size _ _ (0, 0) _ rfl HG1.out Tryd.underlying73 rfl hi .nil)) rfl ?_
          exact ⟨by rw [HVS.out], HG3.out⟩
end Go.Proofs.YtncipbbdboeinaaDoor
