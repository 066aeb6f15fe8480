/-
ShaTells: the law's walk.
-/
import Derived.Test.YtfijclinefmbfaaDoorRefEnd
import Derived.Test.YtfijclinefmbfaaDoorShaEx
import Derived.Test.YtfijclinefmbfaaDoorPAll3
namespace Go.Proofs.YtfijclinefmbfaaDoor
open Go.RowKit Go.Proofs.YtfijclinefmbfaaDoorW.PrintWords Go.Proofs.YtfijclinefmbfaaDoorW.PrintLast Go.Proofs.YtfijclinefmbfaaDoorW.PrintMore Go.Proofs.YtfijclinefmbfaaDoor.PAll
set_option linter.unusedVariables false
set_option linter.unusedSimpArgs false

theorem joined_f (l1 l2 l3 : List Int) (ht : l1.length + l2.length + l3.length ≤ 100000) : ref02_Joined.f 4 [l1, l2, l3] = some (l1 ++ l2 ++ l3) := by
  show ref02_Joined.l0 4 [l1, l2, l3] [] 0 = _
  have w1 : wrap64 (0 + 1) = 1 := by unfold wrap64; omega
  have w2 : wrap64 (1 + 1) = 2 := by unfold wrap64; omega
  have w3 : wrap64 (2 + 1) = 3 := by unfold wrap64; omega
  have r0 : rd_L1 [l1, l2, l3] 0 = l1 := rfl
  have r1 : rd_L1 [l1, l2, l3] 1 = l2 := rfl
  have r2 : rd_L1 [l1, l2, l3] 2 = l3 := rfl
  rw [ref02_Joined.l0, if_pos (by simp), if_pos (by decide), r0, if_pos (by simp; omega), w1]
  rw [ref02_Joined.l0, if_pos (by simp), if_pos (by decide), r1, if_pos (by simp; omega), w2]
  rw [ref02_Joined.l0, if_pos (by simp), if_pos (by decide), r2, if_pos (by simp; omega), w3]
  rw [ref02_Joined.l0, if_neg (by simp), List.nil_append]
theorem joined3_calls (w : World) (gb : Nat) (fr : Nat × Nat) (t : Nat) (A1 : Option Addr) (c1 : Nat) (l1 : List Int) (A2 : Option Addr) (c2 : Nat) (l2 : List Int) (A3 : Option Addr) (c3 : Nat) (l3 : List Int) (hg : w.heap[gb]? = some (.cells #[.slice A1 l1.length c1, .slice A2 l2.length c2, .slice A3 l3.length c3] t fr)) (h1 : Kd.C (Kd.int .u8) w A1 l1.length l1) (hc1 : l1.length ≤ c1) (h2 : Kd.C (Kd.int .u8) w A2 l2.length l2) (hc2 : l2.length ≤ c2) (h3 : Kd.C (Kd.int .u8) w A3 l3.length l3) (hc3 : l3.length ≤ c3) (ht : l1.length + l2.length + l3.length ≤ 100000) :
    Calls Tryd.prog 10 #[.slice (some ⟨gb, 0, none⟩) 3 3] w fun e w' => ∃ A c, e = .returned (.slice A (l1 ++ l2 ++ l3).length c) ∧ (l1 ++ l2 ++ l3).length ≤ c ∧ Kd.C (Kd.int .u8) w' A (l1 ++ l2 ++ l3).length (l1 ++ l2 ++ l3) ∧ Below w.heap.size w w' := by
  have hc : ∀ k', w.cell? ⟨gb, k', none⟩ = (#[.slice A1 l1.length c1, .slice A2 l2.length c2, .slice A3 l3.length c3] : Array Value)[k']? := fun k' => cell_of_row w gb k' _ t fr hg
  refine (ref02_Joined.calls 4 (some ⟨gb, 0, none⟩) 3 [l1, l2, l3] _ w ⟨rfl, by simp, fun _ => ⟨_, rfl, fun j p hj => ?_⟩⟩ (Nat.le_refl _) (joined_f l1 l2 l3 ht)).mono ?_
  · match j, hj with
    | 0, hj =>
      simp only [List.getElem?_cons_zero, Option.some.injEq] at hj
      subst hj
      refine ⟨[.slice A1 l1.length c1], rfl, ⟨A1, c1, rfl, hc1, h1⟩, fun i u hu => ?_⟩
      match i, hu with
      | 0, hu => exact (hc 0).trans hu
      | i + 1, hu => simp at hu
    | 1, hj =>
      simp only [List.getElem?_cons_succ, List.getElem?_cons_zero, Option.some.injEq] at hj
      subst hj
      refine ⟨[.slice A2 l2.length c2], rfl, ⟨A2, c2, rfl, hc2, h2⟩, fun i u hu => ?_⟩
      match i, hu with
      | 0, hu => exact (hc 1).trans hu
      | i + 1, hu => simp at hu
    | 2, hj =>
      simp only [List.getElem?_cons_succ, List.getElem?_cons_zero, Option.some.injEq] at hj
      subst hj
      refine ⟨[.slice A3 l3.length c3], rfl, ⟨A3, c3, rfl, hc3, h3⟩, fun i u hu => ?_⟩
      match i, hu with
      | 0, hu => exact (hc 2).trans hu
      | i + 1, hu => simp at hu
    | j + 3, hj => simp at hj
  · rintro e w' ⟨v, rfl, hR, hb⟩
    obtain ⟨A, c, rfl⟩ := Kd.R_slice hR
    exact ⟨A, c, rfl, (Kd.R_reads' hR).2.1, (Kd.R_reads' hR).2.2, hb⟩
def law02_ShaTells.f (k : Nat) (l0 l1 l2 : List Int) : Option Bool := some true

set_option maxHeartbeats 4000000 in
set_option maxRecDepth 100000 in
theorem tells_big (A0 : Option Addr) (c0 : Nat) (l0 : List Int) (A1 : Option Addr) (c1 : Nat) (l1 : List Int) (A2 : Option Addr) (c2 : Nat) (l2 : List Int) (w : World) (hbig : 500 < l0.length ∨ 500 < l1.length ∨ 500 < l2.length) :
    Calls Tryd.prog 3 #[.slice A0 l0.length c0, .slice A1 l1.length c1, .slice A2 l2.length c2] w fun e w' => e = .returned (.bool true) ∧ Below w.heap.size w w' := by
  obtain ⟨D, hD⟩ : ∃ D : Bool × Bool × Bool, (decide ((500 : Int) < (l0.length : Int)) = D.1 ∧ decide ((500 : Int) < (l1.length : Int)) = D.2.1 ∧ decide ((500 : Int) < (l2.length : Int)) = D.2.2) := ⟨(_, _, _), rfl, rfl, rfl⟩
  have hD2 : D.1 = true ∨ D.2.1 = true ∨ D.2.2 = true := by
    obtain ⟨a1, a2, a3⟩ := hD
    rw [← a1, ← a2, ← a3]
    rcases hbig with h | h | h
    · exact .inl (decide_eq_true (by omega))
    · exact .inr (.inl (decide_eq_true (by omega)))
    · exact .inr (.inr (decide_eq_true (by omega)))
  obtain ⟨d0, d1, d2⟩ := D
  obtain ⟨h0, h1, h2⟩ := hD
  dsimp only at h0 h1 h2 hD2
  clear hbig
  rcases d0 with _ | _ <;> rcases d1 with _ | _ <;> rcases d2 with _ | _ <;> first
    | (simp at hD2; done)
    | (clear hD2
       go_enter Tryd.func3, Tryd.ntmps3
       repeat (first | go_values | go_guarded | go_step | go_upon | go_back)
       go_ret
       exact ⟨rfl, Below.refl _ _⟩)

set_option maxHeartbeats 8000000 in
set_option maxRecDepth 100000 in
theorem tells_small (A0 : Option Addr) (c0 : Nat) (l0 : List Int) (A1 : Option Addr) (c1 : Nat) (l1 : List Int) (A2 : Option Addr) (c2 : Nat) (l2 : List Int) (w : World) (h0 : Kd.C (Kd.int .u8) w A0 l0.length l0) (hc0 : l0.length ≤ c0) (h1 : Kd.C (Kd.int .u8) w A1 l1.length l1) (hc1 : l1.length ≤ c1) (h2 : Kd.C (Kd.int .u8) w A2 l2.length l2) (hc2 : l2.length ≤ c2) (hl0 : l0.length ≤ 500) (hl1 : l1.length ≤ 500) (hl2 : l2.length ≤ 500) (hk : Ktab w) :
    Calls Tryd.prog 3 #[.slice A0 l0.length c0, .slice A1 l1.length c1, .slice A2 l2.length c2] w fun e w' => e = .returned (.bool true) ∧ Below w.heap.size w w' := by
  have d0 : decide ((500 : Int) < (l0.length : Int)) = false := decide_eq_false (by omega)
  have d1 : decide ((500 : Int) < (l1.length : Int)) = false := decide_eq_false (by omega)
  have d2 : decide ((500 : Int) < (l2.length : Int)) = false := decide_eq_false (by omega)
  have hel : (ofA (l0 ++ l1 ++ l2)).length = 32 := digestA_length _
  generalize hvs : (ofA (l0 ++ l1 ++ l2)).map (Value.int .u8) = vs
  have heq := eq_digest hel hvs
  have hone : ∀ v ∈ vs, v.oneCell' = true := by rw [← hvs]; exact one_u8 _
  have hsz2 : vs.length = 32 := by rw [← hvs, List.length_map]; exact hel
  have hi : (Tryd.prog.info? 24).map (·.size) = some (⟨vs⟩ : Array Value).size := by
    rw [show (⟨vs⟩ : Array Value).size = 32 from hsz2]
    rfl
  have hzs : zeroD.size = (⟨vs⟩ : Array Value).size := by rw [show (⟨vs⟩ : Array Value).size = 32 from hsz2]; rfl
  have HVS := Aside0.mk hvs
  have HON := Aside0.mk hone
  have HEQ := Aside0.mk heq
  have H0' := Aside0.mk h0
  have H1 := Aside0.mk h1
  have H2 := Aside0.mk h2
  have HC0 := Aside0.mk hc0
  have HC1 := Aside0.mk hc1
  have HC2 := Aside0.mk hc2
  have HL : Aside0 (l0.length ≤ 500 ∧ l1.length ≤ 500 ∧ l2.length ≤ 500) := ⟨⟨hl0, hl1, hl2⟩⟩
  have HK := Aside0.mk hk
  clear hvs hone heq hsz2 hel h0 h1 h2 hc0 hc1 hc2 hl0 hl1 hl2 hk
  go_enter Tryd.func3, Tryd.ntmps3
  repeat (first
    | ((with_reducible refine gate_dst (N := 24) rfl ?_); refine Kd.R_lit (Kd.int .u8) _ 5 ?hg (N := 24) ?hd (xs := ([] : List Int)) (inner := []) (ok := fun _ => True) (okp := fun _ => True) ?hr ?hp (fun _ hk => hk) trivial (Below.refl _ _) (Nat.le_refl _) (by simp) ?_; (case hd => rfl); (case hg => rfl); (case hr => first | (go_simp; done) | (go_simp; rfl)); (case hp => exact (Reps.none _ _)); intro v0 w1 ho hb hg_ hnew_; have HB1 := Aside0.mk hb; have HO0 := Aside0.mk ho; clear hg_ hnew_ ho hb)
    | ((with_reducible refine gate_builtin (b := .append) (xs := #[.tmp 24, .tmp 25]) rfl ?_); at_builtin; refine Kd.R_append_rows (Kd.int .u8) (w0 := w) w.heap.size rfl (.tmp 24) (.tmp 25) 22 5 (.int .u8 0) 1 rfl Tryd.underlying22 info5 rfl (by decide) (by omega) v0 [] l0 _ _ _ (fun _ => True) (fun _ => False) rfl rfl ?aO ?aR (fun _ _ h => h) (fun _ h => h.elim) ?aF ?aB ?aS ?aL ?_; (case aR => exact Kd.C_below H0'.out (bl (Below.refl w.heap.size w) HB1.out)); (case aB => exact HB1.out); (case aF => exact (fun _ _ => trivial)); (case aO => exact HO0.out); (case aS => exact HB1.out.size); (case aL => have := HL.out; simp; omega); intro u0 w2 ho hb hg hat; rw [List.nil_append] at ho; obtain ⟨X0, e0, rfl⟩ := Kd.R_slice ho; have HX0 := Aside0.mk (Kd.F_mono (Kd.R_F ho) (ok' := fun _ => True) (fun _ _ => trivial)); have HE0 := Aside0.mk (Kd.R_reads' ho).2.1; have HB2 := Aside0.mk (bl (Below.refl w.heap.size w) hb); clear ho hb hg hat HO0 HB1)
    | ((with_reducible refine gate_dst (N := 27) rfl ?_); refine Kd.R_lit (Kd.int .u8) _ 5 ?hg (N := 27) ?hd (xs := ([] : List Int)) (inner := []) (ok := fun _ => True) (okp := fun _ => True) ?hr ?hp (fun _ hk => hk) trivial (Below.refl _ _) (Nat.le_refl _) (by simp) ?_; (case hd => rfl); (case hg => rfl); (case hr => first | (go_simp; done) | (go_simp; rfl)); (case hp => exact (Reps.none _ _)); intro v1 w3 ho hb hg_ hnew_; have HB3 := Aside0.mk hb; have HO1 := Aside0.mk ho; clear hg_ hnew_ ho hb)
    | ((with_reducible refine gate_builtin (b := .append) (xs := #[.tmp 27, .tmp 28]) rfl ?_); at_builtin; refine Kd.R_append_rows (Kd.int .u8) (w0 := w2) w2.heap.size rfl (.tmp 27) (.tmp 28) 22 5 (.int .u8 0) 1 rfl Tryd.underlying22 info5 rfl (by decide) (by omega) v1 [] l1 _ _ _ (fun _ => True) (fun _ => False) rfl rfl ?aO ?aR (fun _ _ h => h) (fun _ h => h.elim) ?aF ?aB ?aS ?aL ?_; (case aR => exact Kd.C_below H1.out (bl HB2.out HB3.out)); (case aB => exact HB3.out); (case aF => exact (fun _ _ => trivial)); (case aO => exact HO1.out); (case aS => exact HB3.out.size); (case aL => have := HL.out; simp; omega); intro u1 w4 ho hb hg hat; rw [List.nil_append] at ho; obtain ⟨X1, e1, rfl⟩ := Kd.R_slice ho; have HX0 := Aside0.mk (Kd.F_below HX0.out hb); have HX1 := Aside0.mk (Kd.F_mono (Kd.R_F ho) (ok' := fun _ => True) (fun _ _ => trivial)); have HE1 := Aside0.mk (Kd.R_reads' ho).2.1; have HB4 := Aside0.mk (bl HB2.out hb); clear ho hb hg hat HO1 HB3)
    | ((with_reducible refine gate_dst (N := 30) rfl ?_); refine Kd.R_lit (Kd.int .u8) _ 5 ?hg (N := 30) ?hd (xs := ([] : List Int)) (inner := []) (ok := fun _ => True) (okp := fun _ => True) ?hr ?hp (fun _ hk => hk) trivial (Below.refl _ _) (Nat.le_refl _) (by simp) ?_; (case hd => rfl); (case hg => rfl); (case hr => first | (go_simp; done) | (go_simp; rfl)); (case hp => exact (Reps.none _ _)); intro v2 w5 ho hb hg_ hnew_; have HB5 := Aside0.mk hb; have HO2 := Aside0.mk ho; clear hg_ hnew_ ho hb)
    | ((with_reducible refine gate_builtin (b := .append) (xs := #[.tmp 30, .tmp 31]) rfl ?_); at_builtin; refine Kd.R_append_rows (Kd.int .u8) (w0 := w4) w4.heap.size rfl (.tmp 30) (.tmp 31) 22 5 (.int .u8 0) 1 rfl Tryd.underlying22 info5 rfl (by decide) (by omega) v2 [] l2 _ _ _ (fun _ => True) (fun _ => False) rfl rfl ?aO ?aR (fun _ _ h => h) (fun _ h => h.elim) ?aF ?aB ?aS ?aL ?_; (case aR => exact Kd.C_below H2.out (bl HB4.out HB5.out)); (case aB => exact HB5.out); (case aF => exact (fun _ _ => trivial)); (case aO => exact HO2.out); (case aS => exact HB5.out.size); (case aL => have := HL.out; simp; omega); intro u2 w6 ho hb hg hat; rw [List.nil_append] at ho; obtain ⟨X2, e2, rfl⟩ := Kd.R_slice ho; have HX0 := Aside0.mk (Kd.F_below HX0.out hb); have HX1 := Aside0.mk (Kd.F_below HX1.out hb); have HX2 := Aside0.mk (Kd.F_mono (Kd.R_F ho) (ok' := fun _ => True) (fun _ _ => trivial)); have HE2 := Aside0.mk (Kd.R_reads' ho).2.1; have HB6 := Aside0.mk (bl HB4.out hb); clear ho hb hg hat HO2 HB5)
    | (go_at_call 8; (with_reducible refine (of_parts3 _ w6.heap.size (0, 0) 22 X0 e0 l0 X1 e1 l1 X2 e2 l2 ?hg ?k0 HE0.out ?k1 HE1.out ?k2 HE2.out ?kl ?kk).mono ?_); (case hg => exact heap_alloc_new w6 _); (case k0 => exact Kd.F_now (Kd.F_alloc HX0.out _)); (case k1 => exact Kd.F_now (Kd.F_alloc HX1.out _)); (case k2 => exact Kd.F_now (Kd.F_alloc HX2.out _)); (case kl => have := HL.out; omega); (case kk => exact HK.out.below (below_alloc HB6.out _)); rintro e w7 ⟨he, hb7⟩; rw [HVS.out] at he; subst he; have HB7 := Aside0.mk (below_alloc (bl (below_alloc HB6.out (.cells #[.slice X0 l0.length e0, .slice X1 l1.length e1, .slice X2 l2.length e2] 22)) hb7) (.cells zeroD 24)); have HN7 := Aside0.mk (heap_alloc_new w7 (.cells zeroD 24)); have HL7 := Aside0.mk (bl (below_alloc HB6.out (.cells #[.slice X0 l0.length e0, .slice X1 l1.length e1, .slice X2 l2.length e2] 22)) hb7).size; have HY0 := Aside0.mk (Kd.F_alloc (Kd.F_bound (Kd.F_below (Kd.F_alloc HX0.out (.cells #[.slice X0 l0.length e0, .slice X1 l1.length e1, .slice X2 l2.length e2] 22)) hb7)) (.cells zeroD 24)); have HY1 := Aside0.mk (Kd.F_alloc (Kd.F_bound (Kd.F_below (Kd.F_alloc HX1.out (.cells #[.slice X0 l0.length e0, .slice X1 l1.length e1, .slice X2 l2.length e2] 22)) hb7)) (.cells zeroD 24)); have HY2 := Aside0.mk (Kd.F_alloc (Kd.F_bound (Kd.F_below (Kd.F_alloc HX2.out (.cells #[.slice X0 l0.length e0, .slice X1 l1.length e1, .slice X2 l2.length e2] 22)) hb7)) (.cells zeroD 24)); clear hb7 HX0 HX1 HX2 HB6; dsimp only)
    | ((with_reducible refine wpList_store 24 (.tmp 10) (.tmp 37) w7.heap.size _ _ ⟨vs⟩ rfl rfl ?hx ?hy HN7.out hzs hi HON.out ?_); (case hx => rfl); (case hy => rfl); intro w8 q1 q2 q3 q4; have HD8 := Aside0.mk q1; have HX0 := Aside0.mk (Kd.F_now (Kd.F_step HY0.out (fun k hk _ => q2 k (by have := hk.2; omega)))); have HX1 := Aside0.mk (Kd.F_now (Kd.F_step HY1.out (fun k hk _ => q2 k (by have := hk.2; omega)))); have HX2 := Aside0.mk (Kd.F_now (Kd.F_step HY2.out (fun k hk _ => q2 k (by have := hk.2; omega)))); have HB8 := Aside0.mk (q3 w.heap.size w HB7.out HL7.out); generalize w7.heap.size = g10 at *; clear q1 q2 q3 q4 HN7 HY0 HY1 HY2 HB7 HL7)
    | go_values | go_guarded | go_step | go_upon | go_back)
  refine start_ (n := 30) (S := fun w' => Below w8.heap.size w8 w') (ds := []) #[false, false, false, false, false, false, false, false, false, false, false, false, false, false, false, false, false, false, false, false, false, false, false, false, false, false, false, false, false, false] (by kernel_rfl) rfl rfl (below_drew (Below.refl _ _)) (fun hHeld => ?_)
  refine take_ (i := 0) (N := (some 38)) (v := ?_) (a' := ?_) #[true, false, false, false, false, false, false, false, false, false, false, false, false, false, false, false, false, false, false, false, false, false, false, false, false, false, false, false, false, false] rfl rfl (by kernel_rfl) (fun _ _ _ h => h) (Or.inl ⟨by rfl, ?_⟩) hHeld ?_ ?_
  rotate_left
  · rintro w' z
    refine exec_load (ty := 24) (x := .tmp 10) ?_ ?_ (blk_below HD8.out z) Tryd.underlying24 rfl hi
    · rfl
    · rfl
  rotate_left
  · simp only [Act.put, List.setIfInBounds_toArray, List.set_cons_zero, List.set_cons_succ, i64_w, i32_w]
    rfl
  refine pure_ (i := 1) (N := (some 39)) (v := ?_) (a' := ?_) #[true, true, false, false, false, false, false, false, false, false, false, false, false, false, false, false, false, false, false, false, false, false, false, false, false, false, false, false, false, false] rfl rfl (by kernel_rfl) (fun _ _ _ h => h) (Or.inl ⟨by rfl, ?_⟩) ?_ ?_
  rotate_left
  · intro w'
    go_simp
    with_reducible rfl
  rotate_left
  · simp only [Act.put, List.setIfInBounds_toArray, List.set_cons_zero, List.set_cons_succ, i64_w, i32_w]
    rfl
  refine pure_ (i := 2) (N := (some 40)) (v := ?_) (a' := ?_) #[true, true, true, false, false, false, false, false, false, false, false, false, false, false, false, false, false, false, false, false, false, false, false, false, false, false, false, false, false, false] rfl rfl (by kernel_rfl) (fun _ _ _ h => h) (Or.inl ⟨by rfl, ?_⟩) ?_ ?_
  rotate_left
  · intro w'
    go_simp
    with_reducible rfl
  rotate_left
  · simp only [Act.put, List.setIfInBounds_toArray, List.set_cons_zero, List.set_cons_succ, i64_w, i32_w]
    rfl
  refine pure_ (i := 3) (N := (some 41)) (v := ?_) (a' := ?_) #[true, true, true, true, false, false, false, false, false, false, false, false, false, false, false, false, false, false, false, false, false, false, false, false, false, false, false, false, false, false] rfl rfl (by kernel_rfl) (fun _ _ _ h => h) (Or.inl ⟨by rfl, ?_⟩) ?_ ?_
  rotate_left
  · intro w'
    go_simp
    with_reducible rfl
  rotate_left
  · simp only [Act.put, List.setIfInBounds_toArray, List.set_cons_zero, List.set_cons_succ, i64_w, i32_w]
    rfl
  refine one_ (i := 4) (N := (some 42)) #[true, true, true, true, true, false, false, false, false, false, false, false, false, false, false, false, false, false, false, false, false, false, false, false, false, false, false, false, false, false] rfl rfl (by kernel_rfl) (by decide) (fun K hK => ?_)
  refine ite_wanted rfl ?_
  have hnew := heap_alloc_new w8.drew (.cells #[.slice A0 l0.length c0, .slice A1 l1.length c1, .slice A2 l2.length c2] 22)
  have hS := below_alloc hHeld (.cells #[.slice A0 l0.length c0, .slice A1 l1.length c1, .slice A2 l2.length c2] 22)
  go_simp
  refine hK.out _ _ hS (fun hHeld => ?_)
  clear hS hK K
  refine one_ (i := 5) (N := (some 43)) #[true, true, true, true, true, true, false, false, false, false, false, false, false, false, false, false, false, false, false, false, false, false, false, false, false, false, false, false, false, false] rfl rfl (by kernel_rfl) (by decide) (fun K hK => ?_)
  refine goes_ Tryd.func10 (by kernel_rfl) rfl #[.slice (some ⟨w8.heap.size, 0, none⟩) 3 3] (by rfl) rfl rfl (by (try simp only [List.map_toArray, List.map_cons, List.map_nil]); first | done | rfl) ?_
  refine (joined3_calls _ w8.heap.size (0, 0) 22 A0 c0 l0 A1 c1 l1 A2 c2 l2 hnew (Kd.C_below H0'.out (bl HB8.out hHeld)) HC0.out (Kd.C_below H1.out (bl HB8.out hHeld)) HC1.out (Kd.C_below H2.out (bl HB8.out hHeld)) HC2.out (by have := HL.out; omega)).mono ?_
  rintro e w9 ⟨AJ, cJ, rfl, hcJ, hCJ, hb⟩
  clear hnew
  have HCJ := Aside0.mk hCJ
  have HcJ := Aside0.mk hcJ
  clear hCJ hcJ
  refine ⟨_, rfl, ?_⟩
  refine hK.out _ _ (bl hHeld hb) (fun hHeld => ?_)
  clear hK K
  refine norm_ (a' := ?_) ?_ ?_
  rotate_left
  · show Act.put _ (some 43) _ = _
    simp only [Act.put, List.setIfInBounds_toArray, List.set_cons_zero, List.set_cons_succ, i64_w, i32_w]
    rfl
  refine one_ (i := 6) (N := (some 44)) #[true, true, true, true, true, true, true, false, false, false, false, false, false, false, false, false, false, false, false, false, false, false, false, false, false, false, false, false, false, false] rfl rfl (by kernel_rfl) (by decide) (fun K hK => ?_)
  refine goes_ Tryd.func9 (by kernel_rfl) rfl #[.slice AJ (l0 ++ l1 ++ l2).length cJ] (by rfl) rfl rfl (by (try simp only [List.map_toArray, List.map_cons, List.map_nil]); first | done | rfl) ?_
  refine (refOf_calls AJ cJ (l0 ++ l1 ++ l2) _ HCJ.out HcJ.out (by have := HL.out; simp; omega)).mono ?_
  rintro e w10 ⟨he, hb⟩
  rw [HVS.out] at he
  subst he
  clear HCJ HcJ
  refine ⟨_, rfl, ?_⟩
  refine hK.out _ _ (bl hHeld hb) (fun hHeld => ?_)
  clear hK K
  refine norm_ (a' := ?_) ?_ ?_
  rotate_left
  · show Act.put _ (some 44) _ = _
    simp only [Act.put, List.setIfInBounds_toArray, List.set_cons_zero, List.set_cons_succ, i64_w, i32_w]
    rfl
  refine pure_ (i := 7) (N := (some 45)) (v := ?_) (a' := ?_) #[true, true, true, true, true, true, true, true, false, false, false, false, false, false, false, false, false, false, false, false, false, false, false, false, false, false, false, false, false, false] rfl rfl (by kernel_rfl) (fun _ _ _ h => h) (Or.inl ⟨by rfl, ?_⟩) ?_ ?_
  rotate_left
  · intro w'
    have hq := HEQ.out w'
    go_simp
    with_reducible rfl
  rotate_left
  · simp only [Act.put, List.setIfInBounds_toArray, List.set_cons_zero, List.set_cons_succ, i64_w, i32_w]
    rfl
  refine pure_ (i := 8) (N := (some 46)) (v := ?_) (a' := ?_) #[true, true, true, true, true, true, true, true, true, false, false, false, false, false, false, false, false, false, false, false, false, false, false, false, false, false, false, false, false, false] rfl rfl (by kernel_rfl) (fun _ _ _ h => h) (Or.inl ⟨by rfl, ?_⟩) ?_ ?_
  rotate_left
  · intro w'
    go_simp
    with_reducible rfl
  rotate_left
  · simp only [Act.put, List.setIfInBounds_toArray, List.set_cons_zero, List.set_cons_succ, i64_w, i32_w]
    rfl
  refine pure_ (i := 9) (N := (some 47)) (v := ?_) (a' := ?_) #[true, true, true, true, true, true, true, true, true, true, false, false, false, false, false, false, false, false, false, false, false, false, false, false, false, false, false, false, false, false] rfl rfl (by kernel_rfl) (fun _ _ _ h => h) (Or.inl ⟨by rfl, ?_⟩) ?_ ?_
  rotate_left
  · intro w'
    go_simp
    with_reducible rfl
  rotate_left
  · simp only [Act.put, List.setIfInBounds_toArray, List.set_cons_zero, List.set_cons_succ, i64_w, i32_w]
    rfl
  refine take_ (i := 10) (N := (some 48)) (v := ?_) (a' := ?_) #[true, true, true, true, true, true, true, true, true, true, true, false, false, false, false, false, false, false, false, false, false, false, false, false, false, false, false, false, false, false] rfl rfl (by kernel_rfl) (fun _ _ _ h => h) (Or.inl ⟨by rfl, ?_⟩) hHeld ?_ ?_
  rotate_left
  · rintro w' z
    have hcv := Kd.C_string (P := Tryd.prog) (src := 22) (dst := 9) (c := e0) Tryd.underlying22 Tryd.underlying5 Tryd.underlying9 (Kd.C_below HX0.out z)
    go_simp
    with_reducible rfl
  rotate_left
  · simp only [Act.put, List.setIfInBounds_toArray, List.set_cons_zero, List.set_cons_succ, i64_w, i32_w]
    rfl
  refine pure_ (i := 11) (N := (some 49)) (v := ?_) (a' := ?_) #[true, true, true, true, true, true, true, true, true, true, true, true, false, false, false, false, false, false, false, false, false, false, false, false, false, false, false, false, false, false] rfl rfl (by kernel_rfl) (fun _ _ _ h => h) (Or.inl ⟨by rfl, ?_⟩) ?_ ?_
  rotate_left
  · intro w'
    go_simp
    with_reducible rfl
  rotate_left
  · simp only [Act.put, List.setIfInBounds_toArray, List.set_cons_zero, List.set_cons_succ, i64_w, i32_w]
    rfl
  refine take_ (i := 12) (N := (some 50)) (v := ?_) (a' := ?_) #[true, true, true, true, true, true, true, true, true, true, true, true, true, false, false, false, false, false, false, false, false, false, false, false, false, false, false, false, false, false] rfl rfl (by kernel_rfl) (fun _ _ _ h => h) (Or.inl ⟨by rfl, ?_⟩) hHeld ?_ ?_
  rotate_left
  · rintro w' z
    have hcv := Kd.C_string (P := Tryd.prog) (src := 22) (dst := 9) (c := c0) Tryd.underlying22 Tryd.underlying5 Tryd.underlying9 (Kd.C_below H0'.out (bl HB8.out z))
    go_simp
    with_reducible rfl
  rotate_left
  · simp only [Act.put, List.setIfInBounds_toArray, List.set_cons_zero, List.set_cons_succ, i64_w, i32_w]
    rfl
  refine pure_ (i := 13) (N := (some 51)) (v := ?_) (a' := ?_) #[true, true, true, true, true, true, true, true, true, true, true, true, true, true, false, false, false, false, false, false, false, false, false, false, false, false, false, false, false, false] rfl rfl (by kernel_rfl) (fun _ _ _ h => h) (Or.inl ⟨by rfl, ?_⟩) ?_ ?_
  rotate_left
  · intro w'
    go_simp
    with_reducible rfl
  rotate_left
  · simp only [Act.put, List.setIfInBounds_toArray, List.set_cons_zero, List.set_cons_succ, i64_w, i32_w]
    rfl
  refine pure_ (i := 14) (N := (some 52)) (v := ?_) (a' := ?_) #[true, true, true, true, true, true, true, true, true, true, true, true, true, true, true, false, false, false, false, false, false, false, false, false, false, false, false, false, false, false] rfl rfl (by kernel_rfl) (fun _ _ _ h => h) (Or.inl ⟨by rfl, ?_⟩) ?_ ?_
  rotate_left
  · intro w'
    go_simp
    with_reducible rfl
  rotate_left
  · simp only [Act.put, List.setIfInBounds_toArray, List.set_cons_zero, List.set_cons_succ, i64_w, i32_w]
    rfl
  refine pure_ (i := 15) (N := (some 53)) (v := ?_) (a' := ?_) #[true, true, true, true, true, true, true, true, true, true, true, true, true, true, true, true, false, false, false, false, false, false, false, false, false, false, false, false, false, false] rfl rfl (by kernel_rfl) (fun _ _ _ h => h) (Or.inl ⟨by rfl, ?_⟩) ?_ ?_
  rotate_left
  · intro w'
    go_simp
    with_reducible rfl
  rotate_left
  · simp only [Act.put, List.setIfInBounds_toArray, List.set_cons_zero, List.set_cons_succ, i64_w, i32_w]
    rfl
  refine pure_ (i := 16) (N := (some 54)) (v := ?_) (a' := ?_) #[true, true, true, true, true, true, true, true, true, true, true, true, true, true, true, true, true, false, false, false, false, false, false, false, false, false, false, false, false, false] rfl rfl (by kernel_rfl) (fun _ _ _ h => h) (Or.inl ⟨by rfl, ?_⟩) ?_ ?_
  rotate_left
  · intro w'
    go_simp
    with_reducible rfl
  rotate_left
  · simp only [Act.put, List.setIfInBounds_toArray, List.set_cons_zero, List.set_cons_succ, i64_w, i32_w]
    rfl
  refine take_ (i := 17) (N := (some 55)) (v := ?_) (a' := ?_) #[true, true, true, true, true, true, true, true, true, true, true, true, true, true, true, true, true, true, false, false, false, false, false, false, false, false, false, false, false, false] rfl rfl (by kernel_rfl) (fun _ _ _ h => h) (Or.inl ⟨by rfl, ?_⟩) hHeld ?_ ?_
  rotate_left
  · rintro w' z
    have hcv := Kd.C_string (P := Tryd.prog) (src := 22) (dst := 9) (c := e1) Tryd.underlying22 Tryd.underlying5 Tryd.underlying9 (Kd.C_below HX1.out z)
    go_simp
    with_reducible rfl
  rotate_left
  · simp only [Act.put, List.setIfInBounds_toArray, List.set_cons_zero, List.set_cons_succ, i64_w, i32_w]
    rfl
  refine pure_ (i := 18) (N := (some 56)) (v := ?_) (a' := ?_) #[true, true, true, true, true, true, true, true, true, true, true, true, true, true, true, true, true, true, true, false, false, false, false, false, false, false, false, false, false, false] rfl rfl (by kernel_rfl) (fun _ _ _ h => h) (Or.inl ⟨by rfl, ?_⟩) ?_ ?_
  rotate_left
  · intro w'
    go_simp
    with_reducible rfl
  rotate_left
  · simp only [Act.put, List.setIfInBounds_toArray, List.set_cons_zero, List.set_cons_succ, i64_w, i32_w]
    rfl
  refine take_ (i := 19) (N := (some 57)) (v := ?_) (a' := ?_) #[true, true, true, true, true, true, true, true, true, true, true, true, true, true, true, true, true, true, true, true, false, false, false, false, false, false, false, false, false, false] rfl rfl (by kernel_rfl) (fun _ _ _ h => h) (Or.inl ⟨by rfl, ?_⟩) hHeld ?_ ?_
  rotate_left
  · rintro w' z
    have hcv := Kd.C_string (P := Tryd.prog) (src := 22) (dst := 9) (c := c1) Tryd.underlying22 Tryd.underlying5 Tryd.underlying9 (Kd.C_below H1.out (bl HB8.out z))
    go_simp
    with_reducible rfl
  rotate_left
  · simp only [Act.put, List.setIfInBounds_toArray, List.set_cons_zero, List.set_cons_succ, i64_w, i32_w]
    rfl
  refine pure_ (i := 20) (N := (some 58)) (v := ?_) (a' := ?_) #[true, true, true, true, true, true, true, true, true, true, true, true, true, true, true, true, true, true, true, true, true, false, false, false, false, false, false, false, false, false] rfl rfl (by kernel_rfl) (fun _ _ _ h => h) (Or.inl ⟨by rfl, ?_⟩) ?_ ?_
  rotate_left
  · intro w'
    go_simp
    with_reducible rfl
  rotate_left
  · simp only [Act.put, List.setIfInBounds_toArray, List.set_cons_zero, List.set_cons_succ, i64_w, i32_w]
    rfl
  refine pure_ (i := 21) (N := (some 59)) (v := ?_) (a' := ?_) #[true, true, true, true, true, true, true, true, true, true, true, true, true, true, true, true, true, true, true, true, true, true, false, false, false, false, false, false, false, false] rfl rfl (by kernel_rfl) (fun _ _ _ h => h) (Or.inl ⟨by rfl, ?_⟩) ?_ ?_
  rotate_left
  · intro w'
    go_simp
    with_reducible rfl
  rotate_left
  · simp only [Act.put, List.setIfInBounds_toArray, List.set_cons_zero, List.set_cons_succ, i64_w, i32_w]
    rfl
  refine pure_ (i := 22) (N := (some 60)) (v := ?_) (a' := ?_) #[true, true, true, true, true, true, true, true, true, true, true, true, true, true, true, true, true, true, true, true, true, true, true, false, false, false, false, false, false, false] rfl rfl (by kernel_rfl) (fun _ _ _ h => h) (Or.inl ⟨by rfl, ?_⟩) ?_ ?_
  rotate_left
  · intro w'
    go_simp
    with_reducible rfl
  rotate_left
  · simp only [Act.put, List.setIfInBounds_toArray, List.set_cons_zero, List.set_cons_succ, i64_w, i32_w]
    rfl
  refine pure_ (i := 23) (N := (some 61)) (v := ?_) (a' := ?_) #[true, true, true, true, true, true, true, true, true, true, true, true, true, true, true, true, true, true, true, true, true, true, true, true, false, false, false, false, false, false] rfl rfl (by kernel_rfl) (fun _ _ _ h => h) (Or.inl ⟨by rfl, ?_⟩) ?_ ?_
  rotate_left
  · intro w'
    go_simp
    with_reducible rfl
  rotate_left
  · simp only [Act.put, List.setIfInBounds_toArray, List.set_cons_zero, List.set_cons_succ, i64_w, i32_w]
    rfl
  refine take_ (i := 24) (N := (some 62)) (v := ?_) (a' := ?_) #[true, true, true, true, true, true, true, true, true, true, true, true, true, true, true, true, true, true, true, true, true, true, true, true, true, false, false, false, false, false] rfl rfl (by kernel_rfl) (fun _ _ _ h => h) (Or.inl ⟨by rfl, ?_⟩) hHeld ?_ ?_
  rotate_left
  · rintro w' z
    have hcv := Kd.C_string (P := Tryd.prog) (src := 22) (dst := 9) (c := e2) Tryd.underlying22 Tryd.underlying5 Tryd.underlying9 (Kd.C_below HX2.out z)
    go_simp
    with_reducible rfl
  rotate_left
  · simp only [Act.put, List.setIfInBounds_toArray, List.set_cons_zero, List.set_cons_succ, i64_w, i32_w]
    rfl
  refine pure_ (i := 25) (N := (some 63)) (v := ?_) (a' := ?_) #[true, true, true, true, true, true, true, true, true, true, true, true, true, true, true, true, true, true, true, true, true, true, true, true, true, true, false, false, false, false] rfl rfl (by kernel_rfl) (fun _ _ _ h => h) (Or.inl ⟨by rfl, ?_⟩) ?_ ?_
  rotate_left
  · intro w'
    go_simp
    with_reducible rfl
  rotate_left
  · simp only [Act.put, List.setIfInBounds_toArray, List.set_cons_zero, List.set_cons_succ, i64_w, i32_w]
    rfl
  refine take_ (i := 26) (N := (some 64)) (v := ?_) (a' := ?_) #[true, true, true, true, true, true, true, true, true, true, true, true, true, true, true, true, true, true, true, true, true, true, true, true, true, true, true, false, false, false] rfl rfl (by kernel_rfl) (fun _ _ _ h => h) (Or.inl ⟨by rfl, ?_⟩) hHeld ?_ ?_
  rotate_left
  · rintro w' z
    have hcv := Kd.C_string (P := Tryd.prog) (src := 22) (dst := 9) (c := c2) Tryd.underlying22 Tryd.underlying5 Tryd.underlying9 (Kd.C_below H2.out (bl HB8.out z))
    go_simp
    with_reducible rfl
  rotate_left
  · simp only [Act.put, List.setIfInBounds_toArray, List.set_cons_zero, List.set_cons_succ, i64_w, i32_w]
    rfl
  refine pure_ (i := 27) (N := (some 65)) (v := ?_) (a' := ?_) #[true, true, true, true, true, true, true, true, true, true, true, true, true, true, true, true, true, true, true, true, true, true, true, true, true, true, true, true, false, false] rfl rfl (by kernel_rfl) (fun _ _ _ h => h) (Or.inl ⟨by rfl, ?_⟩) ?_ ?_
  rotate_left
  · intro w'
    go_simp
    with_reducible rfl
  rotate_left
  · simp only [Act.put, List.setIfInBounds_toArray, List.set_cons_zero, List.set_cons_succ, i64_w, i32_w]
    rfl
  refine pure_ (i := 28) (N := (some 66)) (v := ?_) (a' := ?_) #[true, true, true, true, true, true, true, true, true, true, true, true, true, true, true, true, true, true, true, true, true, true, true, true, true, true, true, true, true, false] rfl rfl (by kernel_rfl) (fun _ _ _ h => h) (Or.inl ⟨by rfl, ?_⟩) ?_ ?_
  rotate_left
  · intro w'
    go_simp
    with_reducible rfl
  rotate_left
  · simp only [Act.put, List.setIfInBounds_toArray, List.set_cons_zero, List.set_cons_succ, i64_w, i32_w]
    rfl
  refine pure_ (i := 29) (N := (some 6)) (v := ?_) (a' := ?_) #[true, true, true, true, true, true, true, true, true, true, true, true, true, true, true, true, true, true, true, true, true, true, true, true, true, true, true, true, true, true] rfl rfl (by kernel_rfl) (fun _ _ _ h => h) (Or.inl ⟨by rfl, ?_⟩) ?_ ?_
  rotate_left
  · intro w'
    go_simp
    with_reducible rfl
  rotate_left
  · simp only [Act.put, List.setIfInBounds_toArray, List.set_cons_zero, List.set_cons_succ, i64_w, i32_w]
    rfl
  refine done_ (by kernel_rfl) ?_
  go_wp2
  go_ret
  exact ⟨rfl, bl HB8.out hHeld⟩
theorem law02_ShaTells.calls (k : Nat) (A0 : Option Addr) (c0 : Nat) (l0 : List Int) (A1 : Option Addr) (c1 : Nat) (l1 : List Int) (A2 : Option Addr) (c2 : Nat) (l2 : List Int) (r : Bool) (w : World) (hr0 : Kd.C (Kd.int .u8) w A0 l0.length l0) (hc0 : l0.length ≤ c0) (hr1 : Kd.C (Kd.int .u8) w A1 l1.length l1) (hc1 : l1.length ≤ c1) (hr2 : Kd.C (Kd.int .u8) w A2 l2.length l2) (hc2 : l2.length ≤ c2) (h : law02_ShaTells.f k l0 l1 l2 = some r) (hk : Ktab w) :
    Calls Tryd.prog 3 #[.slice A0 l0.length c0, .slice A1 l1.length c1, .slice A2 l2.length c2] w fun e w' => e = .returned (.bool r) ∧ Below w.heap.size w w' := by
  obtain rfl : true = r := by simpa [law02_ShaTells.f] using h
  by_cases h0 : 500 < l0.length
  · exact tells_big A0 c0 l0 A1 c1 l1 A2 c2 l2 w (.inl h0)
  · by_cases h1 : 500 < l1.length
    · exact tells_big A0 c0 l0 A1 c1 l1 A2 c2 l2 w (.inr (.inl h1))
    · by_cases h2 : 500 < l2.length
      · exact tells_big A0 c0 l0 A1 c1 l1 A2 c2 l2 w (.inr (.inr h2))
      · exact tells_small A0 c0 l0 A1 c1 l1 A2 c2 l2 w hr0 hc0 hr1 hc1 hr2 hc2 (by omega) (by omega) (by omega) hk
end Go.Proofs.YtfijclinefmbfaaDoor
