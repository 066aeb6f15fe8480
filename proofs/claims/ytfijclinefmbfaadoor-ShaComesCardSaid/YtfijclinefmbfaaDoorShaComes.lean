/-
ShaComes: the law's walk.
-/
import Derived.Test.YtfijclinefmbfaaDoorRefEnd
namespace Go.Proofs.YtfijclinefmbfaaDoor
open Go.RowKit Go.Proofs.YtfijclinefmbfaaDoorW.PrintWords Go.Proofs.YtfijclinefmbfaaDoorW.PrintLast Go.Proofs.YtfijclinefmbfaaDoorW.PrintMore Go.Proofs.YtfijclinefmbfaaDoor.PAll
set_option linter.unusedVariables false
set_option linter.unusedSimpArgs false

theorem R_some {w : World} {base n c : Nat} {ok : Nat → Prop} {A : Option Addr} {xs : List Int} (h : Kd.R (Kd.int .u8) 5 w base ok (.slice A n c) xs) (hn : n ≠ 0) : ∃ g, A = some ⟨g, 0, none⟩ ∧ base ≤ g := by
  obtain ⟨_, inner, ho, _⟩ := h
  rcases ho.2 with ⟨hv, _⟩ | ⟨g, cap, cur, hv, hb, _⟩
  · cases hv
    exact absurd rfl hn
  · cases hv
    exact ⟨g, rfl, hb⟩
theorem F_ne {w : World} {base n c g : Nat} {A : Option Addr} {xs : List Int} {cs : Array Value} {ok : Nat → Prop} (h : Kd.R (Kd.int .u8) 5 w base ok (.slice A n c) xs) (hg : w.heap[g]? = some (.cells cs 34 (0, 0))) : Kd.F (Kd.int .u8) w (fun k => k ≠ g) A n xs :=
  Kd.F_mono (Kd.R_F (Kd.R_bound h)) (fun k hk he => by
    subst he
    obtain ⟨q, hq, cells, hc⟩ := hk.2.2.2
    rw [hg] at hc
    cases hc
    simp [Kd.int, Kd.scalar] at hq)
def law02_ShaComes.f (k : Nat) (hs r : List Int) (m : Int) (l : List Int) : Option Bool := some true

set_option maxHeartbeats 4000000 in
set_option maxRecDepth 100000 in
theorem comes_big (hs : List Int) (R : Option Addr) (rc : Nat) (n : Nat) (m : Int) (B : Option Addr) (cb : Nat) (lb : List Int) (w : World) (hh : hs.length = 8) (hbig : 1000 < n ∨ 1000 < lb.length) :
    Calls Tryd.prog 4 #[.agg (sumC hs R n rc m), .slice B lb.length cb] w fun e w' => e = .returned (.bool true) ∧ Below w.heap.size w w' := by
  have HB0 := Aside0.mk (below_alloc (Below.refl w.heap.size w) (.cells (sumC hs R n rc m) 34))
  have hc8 : (w.alloc (.cells (sumC hs R n rc m) 34)).cell? ⟨w.heap.size, 8, none⟩ = some (.slice R n rc) := (blk_cell (heap_alloc_new w (.cells (sumC hs R n rc m) 34)) 8).trans (sum_cell8 R n rc m hh)
  obtain ⟨D, hD⟩ : ∃ D : Bool × Bool, (decide ((1000 : Int) < (n : Int)) = D.1 ∧ decide ((1000 : Int) < (lb.length : Int)) = D.2) := ⟨(_, _), rfl, rfl⟩
  have hD2 : D.1 = true ∨ D.2 = true := by
    obtain ⟨a1, a2⟩ := hD
    rw [← a1, ← a2]
    rcases hbig with h | h
    · exact .inl (decide_eq_true (by omega))
    · exact .inr (decide_eq_true (by omega))
  obtain ⟨d0, d1⟩ := D
  obtain ⟨h0, h1⟩ := hD
  dsimp only at h0 h1 hD2
  clear hbig hh
  rcases d0 with _ | _ <;> rcases d1 with _ | _ <;> first
    | (simp at hD2; done)
    | (clear hD2
       go_enter Tryd.func4, Tryd.ntmps4
       repeat (first | go_values | go_guarded | go_step | go_upon | go_back)
       go_ret
       exact ⟨rfl, HB0.out⟩)

set_option maxHeartbeats 40000000 in
set_option maxRecDepth 100000 in
theorem comes_small (hs : List Int) (R : Option Addr) (rc : Nat) (r : List Int) (m : Int) (B : Option Addr) (cb : Nat) (lb : List Int) (w : World) (hh : hs.length = 8) (hR : Kd.C (Kd.int .u8) w R r.length r) (hrc : r.length ≤ rc) (hm : 0 ≤ m) (hB : Kd.C (Kd.int .u8) w B lb.length lb) (hcb : lb.length ≤ cb) (hr : r.length ≤ 1000) (hb : lb.length ≤ 1000) (hk : Ktab w) :
    Calls Tryd.prog 4 #[.agg (sumC hs R r.length rc m), .slice B lb.length cb] w fun e w' => e = .returned (.bool true) ∧ Below w.heap.size w w' := by
  obtain ⟨h0, h1, h2, h3, h4, h5, h6, h7, rfl⟩ := eight hh
  have hq0 := heap_alloc_new w (.cells (sumC [h0, h1, h2, h3, h4, h5, h6, h7] R r.length rc m) 34)
  have hbl0 := below_alloc (Below.refl w.heap.size w) (.cells (sumC [h0, h1, h2, h3, h4, h5, h6, h7] R r.length rc m) 34)
  have hc8 : (w.alloc (.cells (sumC [h0, h1, h2, h3, h4, h5, h6, h7] R r.length rc m) 34)).cell? ⟨w.heap.size, 8, none⟩ = some (.slice R r.length rc) := blk_cell hq0 8
  have d0 : decide ((1000 : Int) < (r.length : Int)) = false := decide_eq_false (by omega)
  have d1 : decide ((1000 : Int) < (lb.length : Int)) = false := decide_eq_false (by omega)
  have hhX := moreS_length (hs := [h0, h1, h2, h3, h4, h5, h6, h7]) rfl r m lb
  have hrX : (moreS [h0, h1, h2, h3, h4, h5, h6, h7] r m lb).2.1.length ≤ 64 := by rcases moreS_rest (hs := [h0, h1, h2, h3, h4, h5, h6, h7]) (r := r) (m := m) (l := lb) with h | h <;> simp_all <;> omega
  have hmX := moreS_m (hs := [h0, h1, h2, h3, h4, h5, h6, h7]) (r := r) (l := lb) hm
  generalize hE : moreE r.length m lb.length = E at *
  generalize hS : moreS [h0, h1, h2, h3, h4, h5, h6, h7] r m lb = SX at *
  obtain ⟨hsX, lX, mX⟩ := SX
  dsimp only at hhX hrX hmX
  generalize hck : checkA r.length m = ck
  have hel : (endD [h0, h1, h2, h3, h4, h5, h6, h7] r m).length = 32 := by
    unfold endD
    split
    · exact digestA_length _
    · rfl
  generalize hvs : (endD [h0, h1, h2, h3, h4, h5, h6, h7] r m).map (Value.int .u8) = vs
  have heq := eq_digest hel hvs
  have hone : ∀ v ∈ vs, v.oneCell' = true := by rw [← hvs]; exact one_u8 _
  have hsz2 : vs.length = 32 := by rw [← hvs, List.length_map]; exact hel
  have hi : (Tryd.prog.info? 24).map (·.size) = some (⟨vs⟩ : Array Value).size := by
    rw [show (⟨vs⟩ : Array Value).size = 32 from hsz2]
    rfl
  have hzs : zeroD.size = (⟨vs⟩ : Array Value).size := by rw [show (⟨vs⟩ : Array Value).size = 32 from hsz2]; rfl
  have HVS := Aside0.mk hvs
  have HON := Aside0.mk hone
  have HEQ := Aside0.mk heq
  have HE := Aside0.mk hE
  have HS := Aside0.mk hS
  have HCK := Aside0.mk hck
  have HRX := Aside0.mk hrX
  have HMX := Aside0.mk hmX
  have HR := Aside0.mk hR
  have HRC := Aside0.mk hrc
  have HM := Aside0.mk hm
  have HBb := Aside0.mk hB
  have HCB := Aside0.mk hcb
  have HLR := Aside0.mk hr
  have HLB := Aside0.mk hb
  have HK := Aside0.mk hk
  clear hvs hone heq hE hS hck hrX hmX hR hrc hm hB hcb hr hb hk hel hsz2
  go_enter Tryd.func4, Tryd.ntmps4
  repeat (first | go_values | go_guarded | go_step | go_upon | go_back)
  generalize hX0 : w.alloc _ = w1
  have hX : w.alloc (.cells (sumC [h0, h1, h2, h3, h4, h5, h6, h7] R r.length rc m) 34) = w1 := hX0
  rw [hX] at hq0 hbl0 hc8
  clear hX hX0
  have G2 := Aside0.mk hq0
  have HB1 := Aside0.mk hbl0
  have HN1 := Aside0.mk (below_size hbl0)
  clear hq0 hbl0 hc8
  refine start_ (n := 11) (S := fun w' => Below w1.heap.size w1 w') (ds := []) #[false, false, false, false, false, false, false, false, false, false, false] (by kernel_rfl) rfl rfl (below_drew (Below.refl _ _)) (fun hHeld => ?_)
  refine pure_ (i := 0) (N := (some 26)) (v := ?_) (a' := ?_) #[true, false, false, false, false, false, false, false, false, false, false] rfl rfl (by kernel_rfl) (fun _ _ _ h => h) (Or.inl ⟨by rfl, ?_⟩) ?_ ?_
  rotate_left
  · intro w'
    go_simp
    with_reducible rfl
  rotate_left
  · simp only [Act.put, List.setIfInBounds_toArray, List.set_cons_zero, List.set_cons_succ, i64_w, i32_w]
    rfl
  refine take_ (i := 1) (N := (some 27)) (v := ?_) (a' := ?_) #[true, true, false, false, false, false, false, false, false, false, false] rfl rfl (by kernel_rfl) (fun _ _ _ h => h) (Or.inl ⟨by rfl, ?_⟩) hHeld ?_ ?_
  rotate_left
  · intro w' z
    refine exec_part (ty := 31) (x := .tmp 26) (vs := [h0, h1, h2, h3, h4, h5, h6, h7].map (Value.int .u32)) ?_ ?_ (blk_below G2.out z) Tryd.underlying31 rfl rfl
    · rfl
    · rfl
  rotate_left
  · simp only [Act.put, List.setIfInBounds_toArray, List.set_cons_zero, List.set_cons_succ, i64_w, i32_w]
    rfl
  refine pure_ (i := 3) (N := (some 29)) (v := ?_) (a' := ?_) #[true, true, false, true, false, false, false, false, false, false, false] rfl rfl (by kernel_rfl) (fun _ _ _ h => h) (Or.inl ⟨by rfl, ?_⟩) ?_ ?_
  rotate_left
  · intro w'
    go_simp
    with_reducible rfl
  rotate_left
  · simp only [Act.put, List.setIfInBounds_toArray, List.set_cons_zero, List.set_cons_succ, i64_w, i32_w]
    rfl
  refine take_ (i := 4) (N := (some 30)) (v := ?_) (a' := ?_) #[true, true, false, true, true, false, false, false, false, false, false] rfl rfl (by kernel_rfl) (fun _ _ _ h => h) (Or.inl ⟨by rfl, ?_⟩) hHeld ?_ ?_
  rotate_left
  · intro w' z
    have hx : w'.cell? ⟨w.heap.size, 8, none⟩ = some (.slice R r.length rc) := blk_cell (blk_below G2.out z) 8
    go_simp
    with_reducible rfl
  rotate_left
  · simp only [Act.put, List.setIfInBounds_toArray, List.set_cons_zero, List.set_cons_succ, i64_w, i32_w]
    rfl
  refine pure_ (i := 6) (N := (some 32)) (v := ?_) (a' := ?_) #[true, true, false, true, true, false, true, false, false, false, false] rfl rfl (by kernel_rfl) (fun _ _ _ h => h) (Or.inl ⟨by rfl, ?_⟩) ?_ ?_
  rotate_left
  · intro w'
    go_simp
    with_reducible rfl
  rotate_left
  · simp only [Act.put, List.setIfInBounds_toArray, List.set_cons_zero, List.set_cons_succ, i64_w, i32_w]
    rfl
  refine take_ (i := 7) (N := (some 33)) (v := ?_) (a' := ?_) #[true, true, false, true, true, false, true, true, false, false, false] rfl rfl (by kernel_rfl) (fun _ _ _ h => h) (Or.inl ⟨by rfl, ?_⟩) hHeld ?_ ?_
  rotate_left
  · intro w' z
    have hx : w'.cell? ⟨w.heap.size, 9, none⟩ = some (.int .u64 m) := blk_cell (blk_below G2.out z) 9
    go_simp
    with_reducible rfl
  rotate_left
  · simp only [Act.put, List.setIfInBounds_toArray, List.set_cons_zero, List.set_cons_succ, i64_w, i32_w]
    rfl
  refine join_ (σ := Value × Option Addr × Nat × Nat) 1 #[true, true, true, true, true, true, true, true, true, true, false] (fun s => [(28, s.1), (31, .slice s.2.1 r.length s.2.2.1), (34, .agg (sumC [h0, h1, h2, h3, h4, h5, h6, h7] s.2.1 r.length s.2.2.1 m)), (5, .pointer (some ⟨s.2.2.2, 0, none⟩))]) (fun s w' => Below w1.heap.size w1 w' ∧ w'.heap[s.2.2.2]? = some (.cells zeroS 34 (0, 0)) ∧ w1.heap.size ≤ s.2.2.2 ∧ r.length ≤ s.2.2.1 ∧ Kd.F (Kd.int .u8) w' (fun k => k ≠ s.2.2.2) s.2.1 r.length r) ?_ ?_
  · rintro ⟨v28, R5, c5, g5⟩ w2 ⟨hHeld, hz5, hl5, hc5, hF5⟩
    simp only at hz5 hl5 hc5 hF5
    refine norm_ (a' := ?_) ?_ ?_
    rotate_left
    · simp only [putAll, Act.put, List.setIfInBounds_toArray, List.set_cons_zero, List.set_cons_succ, i64_w, i32_w]
      rfl
    refine one_ (i := 10) (N := none) #[true, true, true, true, true, true, true, true, true, true, true] rfl rfl (by kernel_rfl) (by decide) (fun K hK => ?_)
    refine ite_wanted rfl ?_
    refine op_store 34 (.tmp 5) (.tmp 34) g5 _ _ (sumC [h0, h1, h2, h3, h4, h5, h6, h7] R5 r.length c5 m) rfl rfl rfl hz5 rfl rfl (one_sum _ _ _ rfl rfl) ?_
    intro w3 q1 q2 q3 q4
    refine hK.out _ _ (q3 _ _ hHeld hl5) (fun hHeld3 => ?_)
    clear hK K
    refine norm_ (a' := ?_) ?_ ?_
    rotate_left
    · show Act.put _ none _ = _
      simp only [Act.put, List.setIfInBounds_toArray, List.set_cons_zero, List.set_cons_succ, i64_w, i32_w]
      rfl
    refine done_ (by kernel_rfl) ?_
    have G5 := Aside0.mk q1
    have HO := Aside0.mk (Kd.F_now (Kd.F_step hF5 (fun k hk _ => q2 k hk)))
    have G2 := Aside0.mk (blk_below G2.out hHeld3)
    have HBT := Aside0.mk (bl HB1.out hHeld3)
    have HC5 := Aside0.mk hc5
    clear q1 q2 q3 q4 hHeld3 hHeld hz5 hc5 hF5 HB1
    repeat (first
      | ((with_reducible refine gate_dst (N := 35) rfl ?_); refine Kd.R_lit (Kd.int .u8) _ 5 ?hg (N := 35) ?hd (xs := ([] : List Int)) (inner := []) (ok := fun _ => True) (okp := fun _ => True) ?hr ?hp (fun _ hk => hk) trivial (Below.refl _ _) (Nat.le_refl _) (by simp) ?_; (case hd => rfl); (case hg => rfl); (case hr => first | (go_simp; done) | (go_simp; rfl)); (case hp => exact (Reps.none _ _)); intro v4 w4 ho hb hg_ hnew_; have HB4 := Aside0.mk hb; have HO4 := Aside0.mk ho; clear hg_ hnew_ ho hb)
      | ((with_reducible refine gate_builtin (b := .append) (xs := #[.tmp 35, .tmp 36]) rfl ?_); at_builtin; refine Kd.R_append_rows (Kd.int .u8) (w0 := w3) w3.heap.size rfl (.tmp 35) (.tmp 36) 22 5 (.int .u8 0) 1 rfl Tryd.underlying22 info5 rfl (by decide) (by omega) v4 [] lb _ _ _ (fun _ => True) (fun _ => False) rfl rfl ?aO ?aR (fun _ _ h => h) (fun _ h => h.elim) ?aF ?aB ?aS ?aL ?_; (case aR => exact Kd.C_below HBb.out (bl HBT.out HB4.out)); (case aB => exact HB4.out); (case aF => exact (fun _ _ => trivial)); (case aO => exact HO4.out); (case aS => exact HB4.out.size); (case aL => have := HLB.out; simp; omega); intro v5 wM ho hb hg hat; rw [List.nil_append] at ho; obtain ⟨AM, cM, rfl⟩ := Kd.R_slice ho; have HMn := Aside0.mk (Kd.R_reads' ho).2.2; have HCM := Aside0.mk (Kd.R_reads' ho).2.1; have G2 := Aside0.mk (blk_below G2.out hb); have G5 := Aside0.mk (blk_below G5.out hb); have HO := Aside0.mk (Kd.C_below HO.out hb); have HBT := Aside0.mk (bl HBT.out hb); have HBL := Aside0.mk (Below.refl wM.heap.size wM); have G2M := Aside0.mk G2.out; have G5M := Aside0.mk G5.out; have HOM := Aside0.mk HO.out; have HMM := Aside0.mk HMn.out; have HBM := Aside0.mk HBT.out; clear ho hb hg hat HO4 HB4)
      | ((with_reducible refine wpList_load 34 (.tmp 5) g5 _ _ _ rfl rfl ?hx G5.out Tryd.underlying34 ?hd ?hi ?_); (case hx => rfl); (case hd => rfl); (case hi => rfl))
      | ((with_reducible refine wpList_load 34 (.tmp 2) w.heap.size _ _ _ rfl rfl ?hx G2.out Tryd.underlying34 ?hd ?hi ?_); (case hx => rfl); (case hd => rfl); (case hi => rfl))
      | (go_at_call 11; (with_reducible refine (more_any _ [h0, h1, h2, h3, h4, h5, h6, h7] R5 c5 r m AM cM lb ?hcs rfl wM HO.out HC5.out HMn.out HCM.out (by have := HLR.out; have := HLB.out; omega) (HK.out.below HBT.out) HM.out).mono ?_); (case hcs => rfl); rintro e wC1 ⟨RX, cX, rfl, hcX, hrX, hb⟩; rw [HS.out] at hcX hrX ⊢; rw [HE.out]; dsimp only at hcX hrX ⊢; have HCX := Aside0.mk hcX; have RX0 := Aside0.mk hrX; clear hcX hrX; have HBc1 := Aside0.mk hb; have HN1 := Aside0.mk (heap_alloc_new wC1 (.cells zeroS 34)); clear hb; (try dsimp only))
      | ((with_reducible refine wpList_store 34 (.tmp 7) (.tmp 42) wC1.heap.size _ _ (sumC hsX RX lX.length cX mX) rfl rfl ?hx ?hy HN1.out ?hs ?hi ?h1 ?_); (case h1 => exact one_sum _ _ _ rfl rfl); (case hs => rw [sum_size _ _ _ _ hhX]; rfl); (case hx => rfl); (case hy => rfl); (case hi => rw [sum_size _ _ _ _ hhX]; rfl); intro wN1 q1 q2 q3 q4; have G7 := Aside0.mk q1; have HBp1 := Aside0.mk (q3 wM.heap.size wM (below_alloc HBc1.out (.cells zeroS 34)) HBc1.out.size); have HBT := Aside0.mk (bl HBT.out HBp1.out); have HBL := Aside0.mk (bl HBL.out HBp1.out); have G2 := Aside0.mk (blk_below G2.out HBp1.out); have G5 := Aside0.mk (blk_below G5.out HBp1.out); have HO := Aside0.mk (Kd.C_below HO.out HBp1.out); have HMn := Aside0.mk (Kd.C_below HMn.out HBp1.out); have KX := Aside0.mk (Kd.R_below RX0.out (q3 wC1.heap.size wC1 (below_alloc (Below.refl _ _) (.cells zeroS 34)) (Nat.le_refl _))); clear q1 q2 q3 q4 HN1 HBc1; generalize wC1.heap.size = g7 at *)
      | (go_at_call 12; (with_reducible refine (refMore_any _ [h0, h1, h2, h3, h4, h5, h6, h7] R rc r m B cb lb ?hcs rfl wN1 (Kd.C_below HR.out HBT.out) HRC.out (Kd.C_below HBb.out HBT.out) HCB.out (by have := HLR.out; have := HLB.out; omega) HM.out).mono ?_); (case hcs => rfl); rintro e wC2 ⟨RY, cY, rfl, hcY, hrY, hb⟩; rw [HS.out] at hcY hrY ⊢; rw [HE.out]; dsimp only at hcY hrY ⊢; have CY0 := Aside0.mk (Kd.F_now hrY); clear hcY hrY; have HBc2 := Aside0.mk hb; have HN2 := Aside0.mk (heap_alloc_new wC2 (.cells zeroS 34)); clear hb; (try dsimp only))
      | ((with_reducible refine wpList_store 34 (.tmp 9) (.tmp 48) wC2.heap.size _ _ (sumC hsX RY lX.length cY mX) rfl rfl ?hx ?hy HN2.out ?hs ?hi ?h1 ?_); (case h1 => exact one_sum _ _ _ rfl rfl); (case hs => rw [sum_size _ _ _ _ hhX]; rfl); (case hx => rfl); (case hy => rfl); (case hi => rw [sum_size _ _ _ _ hhX]; rfl); intro wN2 q1 q2 q3 q4; have G9 := Aside0.mk q1; have HBp2 := Aside0.mk (q3 wN1.heap.size wN1 (below_alloc HBc2.out (.cells zeroS 34)) HBc2.out.size); have HBT := Aside0.mk (bl HBT.out HBp2.out); have HBL := Aside0.mk (bl HBL.out HBp2.out); have G2 := Aside0.mk (blk_below G2.out HBp2.out); have G5 := Aside0.mk (blk_below G5.out HBp2.out); have HO := Aside0.mk (Kd.C_below HO.out HBp2.out); have HMn := Aside0.mk (Kd.C_below HMn.out HBp2.out); have G7 := Aside0.mk (blk_below G7.out HBp2.out); have KX := Aside0.mk (Kd.R_below KX.out HBp2.out); have CY := Aside0.mk (Kd.C_below CY0.out (q3 wC2.heap.size wC2 (below_alloc (Below.refl _ _) (.cells zeroS 34)) (Nat.le_refl _))); clear q1 q2 q3 q4 HN2 HBc2; generalize wC2.heap.size = g9 at *)
      | (go_at_call 13; (with_reducible refine (end_any _ [h0, h1, h2, h3, h4, h5, h6, h7] R5 c5 r m ?hcs rfl wN2 HO.out HC5.out (by have := HLR.out; omega) (HK.out.below HBT.out) HM.out).mono ?_); (case hcs => rfl); rintro e wC3 ⟨rfl, hb⟩; rw [HVS.out, HCK.out]; have HBc3 := Aside0.mk hb; have HN3 := Aside0.mk (heap_alloc_new wC3 (.cells zeroD 24)); clear hb; (try dsimp only))
      | ((with_reducible refine wpList_store 24 (.tmp 11) (.tmp 53) wC3.heap.size _ _ ⟨vs⟩ rfl rfl ?hx ?hy HN3.out ?hs ?hi ?h1 ?_); (case h1 => exact HON.out); (case hs => exact hzs); (case hx => rfl); (case hy => rfl); (case hi => exact hi); intro wN3 q1 q2 q3 q4; have G11 := Aside0.mk q1; have HBp3 := Aside0.mk (q3 wN2.heap.size wN2 (below_alloc HBc3.out (.cells zeroD 24)) HBc3.out.size); have HBT := Aside0.mk (bl HBT.out HBp3.out); have HBL := Aside0.mk (bl HBL.out HBp3.out); have G2 := Aside0.mk (blk_below G2.out HBp3.out); have G5 := Aside0.mk (blk_below G5.out HBp3.out); have HO := Aside0.mk (Kd.C_below HO.out HBp3.out); have HMn := Aside0.mk (Kd.C_below HMn.out HBp3.out); have G7 := Aside0.mk (blk_below G7.out HBp3.out); have KX := Aside0.mk (Kd.R_below KX.out HBp3.out); have G9 := Aside0.mk (blk_below G9.out HBp3.out); have CY := Aside0.mk (Kd.C_below CY.out HBp3.out); clear q1 q2 q3 q4 HN3 HBc3; generalize wC3.heap.size = g11 at *)
      | (go_at_call 14; (with_reducible refine (refEnd_any _ [h0, h1, h2, h3, h4, h5, h6, h7] R rc r m ?hcs rfl wN3 (Kd.C_below HR.out HBT.out) HRC.out (by have := HLR.out; omega) HM.out).mono ?_); (case hcs => rfl); rintro e wC4 ⟨rfl, hb⟩; rw [HVS.out, HCK.out]; have HBc4 := Aside0.mk hb; have HN4 := Aside0.mk (heap_alloc_new wC4 (.cells zeroD 24)); clear hb; (try dsimp only))
      | ((with_reducible refine wpList_store 24 (.tmp 13) (.tmp 58) wC4.heap.size _ _ ⟨vs⟩ rfl rfl ?hx ?hy HN4.out ?hs ?hi ?h1 ?_); (case h1 => exact HON.out); (case hs => exact hzs); (case hx => rfl); (case hy => rfl); (case hi => exact hi); intro wN4 q1 q2 q3 q4; have G13 := Aside0.mk q1; have HBp4 := Aside0.mk (q3 wN3.heap.size wN3 (below_alloc HBc4.out (.cells zeroD 24)) HBc4.out.size); have HBT := Aside0.mk (bl HBT.out HBp4.out); have HBL := Aside0.mk (bl HBL.out HBp4.out); have G2 := Aside0.mk (blk_below G2.out HBp4.out); have G5 := Aside0.mk (blk_below G5.out HBp4.out); have HO := Aside0.mk (Kd.C_below HO.out HBp4.out); have HMn := Aside0.mk (Kd.C_below HMn.out HBp4.out); have G7 := Aside0.mk (blk_below G7.out HBp4.out); have KX := Aside0.mk (Kd.R_below KX.out HBp4.out); have G9 := Aside0.mk (blk_below G9.out HBp4.out); have CY := Aside0.mk (Kd.C_below CY.out HBp4.out); have G11 := Aside0.mk (blk_below G11.out HBp4.out); clear q1 q2 q3 q4 HN4 HBc4; generalize wC4.heap.size = g13 at *)
      | go_values | go_guarded | go_step | go_upon | go_back)
    clear HBp1 HBp2 HBp3 HBp4
    refine start_ (n := 31) (S := fun w' => Below wN4.heap.size wN4 w') (ds := []) #[false, false, false, false, false, false, false, false, false, false, false, false, false, false, false, false, false, false, false, false, false, false, false, false, false, false, false, false, false, false, false] (by kernel_rfl) rfl rfl (below_drew (Below.refl _ _)) (fun hHeld => ?_)
    refine take_ (i := 0) (N := (some 60)) (v := ?_) (a' := ?_) #[true, false, false, false, false, false, false, false, false, false, false, false, false, false, false, false, false, false, false, false, false, false, false, false, false, false, false, false, false, false, false] rfl rfl (by kernel_rfl) (fun _ _ _ h => h) (Or.inl ⟨by rfl, ?_⟩) hHeld ?_ ?_
    rotate_left
    · rintro w' z
      refine exec_load (ty := 34) (x := .tmp 7) ?_ ?_ (blk_below G7.out z) Tryd.underlying34 rfl (by rw [sum_size _ _ _ _ hhX]; rfl)
      · rfl
      · rfl
    rotate_left
    · simp only [Act.put, List.setIfInBounds_toArray, List.set_cons_zero, List.set_cons_succ, i64_w, i32_w]
      rfl
    refine take_ (i := 1) (N := (some 61)) (v := ?_) (a' := ?_) #[true, true, false, false, false, false, false, false, false, false, false, false, false, false, false, false, false, false, false, false, false, false, false, false, false, false, false, false, false, false, false] rfl rfl (by kernel_rfl) (fun _ _ _ h => h) (Or.inl ⟨by rfl, ?_⟩) hHeld ?_ ?_
    rotate_left
    · rintro w' z
      refine exec_load (ty := 34) (x := .tmp 9) ?_ ?_ (blk_below G9.out z) Tryd.underlying34 rfl (by rw [sum_size _ _ _ _ hhX]; rfl)
      · rfl
      · rfl
    rotate_left
    · simp only [Act.put, List.setIfInBounds_toArray, List.set_cons_zero, List.set_cons_succ, i64_w, i32_w]
      rfl
    refine one_ (i := 2) (N := (some 62)) #[true, true, true, false, false, false, false, false, false, false, false, false, false, false, false, false, false, false, false, false, false, false, false, false, false, false, false, false, false, false, false] rfl rfl (by kernel_rfl) (by decide) (fun K hK => ?_)
    refine goes_ Tryd.func15 (by kernel_rfl) rfl #[.agg (sumC hsX RX lX.length cX mX), .agg (sumC hsX RY lX.length cY mX)] (by rfl) rfl rfl (by (try simp only [List.map_toArray, List.map_cons, List.map_nil]); first | done | rfl) ?_
    refine (refSame_calls _ _ hsX RX cX RY cY lX mX rfl rfl hhX _ (Kd.C_below (Kd.R_reads' KX.out).2.2 hHeld) (Kd.C_below CY.out hHeld)).mono ?_
    rintro e w' ⟨rfl, hb⟩
    refine ⟨_, rfl, ?_⟩
    refine hK.out _ _ (bl hHeld hb) (fun hHeld => ?_)
    clear hK K
    refine norm_ (a' := ?_) ?_ ?_
    rotate_left
    · show Act.put _ (some 62) _ = _
      simp only [Act.put, List.setIfInBounds_toArray, List.set_cons_zero, List.set_cons_succ, i64_w, i32_w]
      rfl
    refine pure_ (i := 3) (N := (some 63)) (v := ?_) (a' := ?_) #[true, true, true, true, false, false, false, false, false, false, false, false, false, false, false, false, false, false, false, false, false, false, false, false, false, false, false, false, false, false, false] rfl rfl (by kernel_rfl) (fun _ _ _ h => h) (Or.inl ⟨by rfl, ?_⟩) ?_ ?_
    rotate_left
    · intro w'
      go_simp
      with_reducible rfl
    rotate_left
    · simp only [Act.put, List.setIfInBounds_toArray, List.set_cons_zero, List.set_cons_succ, i64_w, i32_w]
      rfl
    refine pure_ (i := 4) (N := (some 64)) (v := ?_) (a' := ?_) #[true, true, true, true, true, false, false, false, false, false, false, false, false, false, false, false, false, false, false, false, false, false, false, false, false, false, false, false, false, false, false] rfl rfl (by kernel_rfl) (fun _ _ _ h => h) (Or.inl ⟨by rfl, ?_⟩) ?_ ?_
    rotate_left
    · intro w'
      go_simp
      with_reducible rfl
    rotate_left
    · simp only [Act.put, List.setIfInBounds_toArray, List.set_cons_zero, List.set_cons_succ, i64_w, i32_w]
      rfl
    refine pure_ (i := 5) (N := (some 65)) (v := ?_) (a' := ?_) #[true, true, true, true, true, true, false, false, false, false, false, false, false, false, false, false, false, false, false, false, false, false, false, false, false, false, false, false, false, false, false] rfl rfl (by kernel_rfl) (fun _ _ _ h => h) (Or.inl ⟨by rfl, ?_⟩) ?_ ?_
    rotate_left
    · intro w'
      go_simp
      with_reducible rfl
    rotate_left
    · simp only [Act.put, List.setIfInBounds_toArray, List.set_cons_zero, List.set_cons_succ, i64_w, i32_w]
      rfl
    refine pure_ (i := 6) (N := (some 66)) (v := ?_) (a' := ?_) #[true, true, true, true, true, true, true, false, false, false, false, false, false, false, false, false, false, false, false, false, false, false, false, false, false, false, false, false, false, false, false] rfl rfl (by kernel_rfl) (fun _ _ _ h => h) (Or.inl ⟨by rfl, ?_⟩) ?_ ?_
    rotate_left
    · intro w'
      go_simp
      with_reducible rfl
    rotate_left
    · simp only [Act.put, List.setIfInBounds_toArray, List.set_cons_zero, List.set_cons_succ, i64_w, i32_w]
      rfl
    refine pure_ (i := 7) (N := (some 67)) (v := ?_) (a' := ?_) #[true, true, true, true, true, true, true, true, false, false, false, false, false, false, false, false, false, false, false, false, false, false, false, false, false, false, false, false, false, false, false] rfl rfl (by kernel_rfl) (fun _ _ _ h => h) (Or.inl ⟨by rfl, ?_⟩) ?_ ?_
    rotate_left
    · intro w'
      go_simp
      with_reducible rfl
    rotate_left
    · simp only [Act.put, List.setIfInBounds_toArray, List.set_cons_zero, List.set_cons_succ, i64_w, i32_w]
      rfl
    refine pure_ (i := 8) (N := (some 68)) (v := ?_) (a' := ?_) #[true, true, true, true, true, true, true, true, true, false, false, false, false, false, false, false, false, false, false, false, false, false, false, false, false, false, false, false, false, false, false] rfl rfl (by kernel_rfl) (fun _ _ _ h => h) (Or.inl ⟨by rfl, ?_⟩) ?_ ?_
    rotate_left
    · intro w'
      go_simp
      with_reducible rfl
    rotate_left
    · simp only [Act.put, List.setIfInBounds_toArray, List.set_cons_zero, List.set_cons_succ, i64_w, i32_w]
      rfl
    refine take_ (i := 9) (N := (some 69)) (v := ?_) (a' := ?_) #[true, true, true, true, true, true, true, true, true, true, false, false, false, false, false, false, false, false, false, false, false, false, false, false, false, false, false, false, false, false, false] rfl rfl (by kernel_rfl) (fun _ _ _ h => h) (Or.inl ⟨by rfl, ?_⟩) hHeld ?_ ?_
    rotate_left
    · rintro w' z
      refine exec_load (ty := 24) (x := .tmp 11) ?_ ?_ (blk_below G11.out z) Tryd.underlying24 rfl (hi)
      · rfl
      · rfl
    rotate_left
    · simp only [Act.put, List.setIfInBounds_toArray, List.set_cons_zero, List.set_cons_succ, i64_w, i32_w]
      rfl
    refine take_ (i := 10) (N := (some 70)) (v := ?_) (a' := ?_) #[true, true, true, true, true, true, true, true, true, true, true, false, false, false, false, false, false, false, false, false, false, false, false, false, false, false, false, false, false, false, false] rfl rfl (by kernel_rfl) (fun _ _ _ h => h) (Or.inl ⟨by rfl, ?_⟩) hHeld ?_ ?_
    rotate_left
    · rintro w' z
      refine exec_load (ty := 24) (x := .tmp 13) ?_ ?_ (blk_below G13.out z) Tryd.underlying24 rfl (hi)
      · rfl
      · rfl
    rotate_left
    · simp only [Act.put, List.setIfInBounds_toArray, List.set_cons_zero, List.set_cons_succ, i64_w, i32_w]
      rfl
    refine pure_ (i := 11) (N := (some 71)) (v := ?_) (a' := ?_) #[true, true, true, true, true, true, true, true, true, true, true, true, false, false, false, false, false, false, false, false, false, false, false, false, false, false, false, false, false, false, false] rfl rfl (by kernel_rfl) (fun _ _ _ h => h) (Or.inl ⟨by rfl, ?_⟩) ?_ ?_
    rotate_left
    · intro w'
      have hq := HEQ.out w'
      go_simp
      with_reducible rfl
    rotate_left
    · simp only [Act.put, List.setIfInBounds_toArray, List.set_cons_zero, List.set_cons_succ, i64_w, i32_w]
      rfl
    refine pure_ (i := 12) (N := (some 72)) (v := ?_) (a' := ?_) #[true, true, true, true, true, true, true, true, true, true, true, true, true, false, false, false, false, false, false, false, false, false, false, false, false, false, false, false, false, false, false] rfl rfl (by kernel_rfl) (fun _ _ _ h => h) (Or.inl ⟨by rfl, ?_⟩) ?_ ?_
    rotate_left
    · intro w'
      go_simp
      with_reducible rfl
    rotate_left
    · simp only [Act.put, List.setIfInBounds_toArray, List.set_cons_zero, List.set_cons_succ, i64_w, i32_w]
      rfl
    refine pure_ (i := 13) (N := (some 73)) (v := ?_) (a' := ?_) #[true, true, true, true, true, true, true, true, true, true, true, true, true, true, false, false, false, false, false, false, false, false, false, false, false, false, false, false, false, false, false] rfl rfl (by kernel_rfl) (fun _ _ _ h => h) (Or.inl ⟨by rfl, ?_⟩) ?_ ?_
    rotate_left
    · intro w'
      go_simp
      with_reducible rfl
    rotate_left
    · simp only [Act.put, List.setIfInBounds_toArray, List.set_cons_zero, List.set_cons_succ, i64_w, i32_w]
      rfl
    refine pure_ (i := 14) (N := (some 74)) (v := ?_) (a' := ?_) #[true, true, true, true, true, true, true, true, true, true, true, true, true, true, true, false, false, false, false, false, false, false, false, false, false, false, false, false, false, false, false] rfl rfl (by kernel_rfl) (fun _ _ _ h => h) (Or.inl ⟨by rfl, ?_⟩) ?_ ?_
    rotate_left
    · intro w'
      go_simp
      with_reducible rfl
    rotate_left
    · simp only [Act.put, List.setIfInBounds_toArray, List.set_cons_zero, List.set_cons_succ, i64_w, i32_w]
      rfl
    refine pure_ (i := 15) (N := (some 75)) (v := ?_) (a' := ?_) #[true, true, true, true, true, true, true, true, true, true, true, true, true, true, true, true, false, false, false, false, false, false, false, false, false, false, false, false, false, false, false] rfl rfl (by kernel_rfl) (fun _ _ _ h => h) (Or.inl ⟨by rfl, ?_⟩) ?_ ?_
    rotate_left
    · intro w'
      go_simp
      with_reducible rfl
    rotate_left
    · simp only [Act.put, List.setIfInBounds_toArray, List.set_cons_zero, List.set_cons_succ, i64_w, i32_w]
      rfl
    refine pure_ (i := 16) (N := (some 76)) (v := ?_) (a' := ?_) #[true, true, true, true, true, true, true, true, true, true, true, true, true, true, true, true, true, false, false, false, false, false, false, false, false, false, false, false, false, false, false] rfl rfl (by kernel_rfl) (fun _ _ _ h => h) (Or.inl ⟨by rfl, ?_⟩) ?_ ?_
    rotate_left
    · intro w'
      go_simp
      with_reducible rfl
    rotate_left
    · simp only [Act.put, List.setIfInBounds_toArray, List.set_cons_zero, List.set_cons_succ, i64_w, i32_w]
      rfl
    refine pure_ (i := 17) (N := (some 77)) (v := ?_) (a' := ?_) #[true, true, true, true, true, true, true, true, true, true, true, true, true, true, true, true, true, true, false, false, false, false, false, false, false, false, false, false, false, false, false] rfl rfl (by kernel_rfl) (fun _ _ _ h => h) (Or.inl ⟨by rfl, ?_⟩) ?_ ?_
    rotate_left
    · intro w'
      go_simp
      with_reducible rfl
    rotate_left
    · simp only [Act.put, List.setIfInBounds_toArray, List.set_cons_zero, List.set_cons_succ, i64_w, i32_w]
      rfl
    refine pure_ (i := 18) (N := (some 78)) (v := ?_) (a' := ?_) #[true, true, true, true, true, true, true, true, true, true, true, true, true, true, true, true, true, true, true, false, false, false, false, false, false, false, false, false, false, false, false] rfl rfl (by kernel_rfl) (fun _ _ _ h => h) (Or.inl ⟨by rfl, ?_⟩) ?_ ?_
    rotate_left
    · intro w'
      go_simp
      with_reducible rfl
    rotate_left
    · simp only [Act.put, List.setIfInBounds_toArray, List.set_cons_zero, List.set_cons_succ, i64_w, i32_w]
      rfl
    refine take_ (i := 19) (N := (some 79)) (v := ?_) (a' := ?_) #[true, true, true, true, true, true, true, true, true, true, true, true, true, true, true, true, true, true, true, true, false, false, false, false, false, false, false, false, false, false, false] rfl rfl (by kernel_rfl) (fun _ _ _ h => h) (Or.inl ⟨by rfl, ?_⟩) hHeld ?_ ?_
    rotate_left
    · rintro w' z
      refine exec_load (ty := 34) (x := .tmp 5) ?_ ?_ (blk_below G5.out z) Tryd.underlying34 rfl (rfl)
      · rfl
      · rfl
    rotate_left
    · simp only [Act.put, List.setIfInBounds_toArray, List.set_cons_zero, List.set_cons_succ, i64_w, i32_w]
      rfl
    refine take_ (i := 21) (N := (some 81)) (v := ?_) (a' := ?_) #[true, true, true, true, true, true, true, true, true, true, true, true, true, true, true, true, true, true, true, true, false, true, false, false, false, false, false, false, false, false, false] rfl rfl (by kernel_rfl) (fun _ _ _ h => h) (Or.inl ⟨by rfl, ?_⟩) hHeld ?_ ?_
    rotate_left
    · rintro w' z
      refine exec_load (ty := 34) (x := .tmp 2) ?_ ?_ (blk_below G2.out z) Tryd.underlying34 rfl (rfl)
      · rfl
      · rfl
    rotate_left
    · simp only [Act.put, List.setIfInBounds_toArray, List.set_cons_zero, List.set_cons_succ, i64_w, i32_w]
      rfl
    refine one_ (i := 20) (N := (some 80)) #[true, true, true, true, true, true, true, true, true, true, true, true, true, true, true, true, true, true, true, true, true, true, false, false, false, false, false, false, false, false, false] rfl rfl (by kernel_rfl) (by decide) (fun K hK => ?_)
    refine goes_ Tryd.func16 (by kernel_rfl) rfl #[.agg (sumC [h0, h1, h2, h3, h4, h5, h6, h7] R5 r.length c5 m)] (by rfl) rfl rfl (by (try simp only [List.map_toArray, List.map_cons, List.map_nil]); first | done | rfl) ?_
    refine (check_cs _ [h0, h1, h2, h3, h4, h5, h6, h7] R5 r.length c5 m rfl rfl (by have := HLR.out; omega) HM.out _).mono ?_
    rintro e w' ⟨he, hb⟩
    rw [HCK.out] at he
    subst he
    refine ⟨_, rfl, ?_⟩
    refine hK.out _ _ (bl hHeld hb) (fun hHeld => ?_)
    clear hK K
    refine norm_ (a' := ?_) ?_ ?_
    rotate_left
    · show Act.put _ (some 80) _ = _
      simp only [Act.put, List.setIfInBounds_toArray, List.set_cons_zero, List.set_cons_succ, i64_w, i32_w]
      rfl
    refine one_ (i := 22) (N := (some 82)) #[true, true, true, true, true, true, true, true, true, true, true, true, true, true, true, true, true, true, true, true, true, true, true, false, false, false, false, false, false, false, false] rfl rfl (by kernel_rfl) (by decide) (fun K hK => ?_)
    refine goes_ Tryd.func17 (by kernel_rfl) rfl #[.agg (sumC [h0, h1, h2, h3, h4, h5, h6, h7] R r.length rc m)] (by rfl) rfl rfl (by (try simp only [List.map_toArray, List.map_cons, List.map_nil]); first | done | rfl) ?_
    refine (refCheck_calls _ [h0, h1, h2, h3, h4, h5, h6, h7] R r.length rc m rfl rfl (by have := HLR.out; omega) HM.out _).mono ?_
    rintro e w' ⟨he, hb⟩
    rw [HCK.out] at he
    subst he
    refine ⟨_, rfl, ?_⟩
    refine hK.out _ _ (bl hHeld hb) (fun hHeld => ?_)
    clear hK K
    refine norm_ (a' := ?_) ?_ ?_
    rotate_left
    · show Act.put _ (some 82) _ = _
      simp only [Act.put, List.setIfInBounds_toArray, List.set_cons_zero, List.set_cons_succ, i64_w, i32_w]
      rfl
    refine pure_ (i := 23) (N := (some 83)) (v := ?_) (a' := ?_) #[true, true, true, true, true, true, true, true, true, true, true, true, true, true, true, true, true, true, true, true, true, true, true, true, false, false, false, false, false, false, false] rfl rfl (by kernel_rfl) (fun _ _ _ h => h) (Or.inl ⟨by rfl, ?_⟩) ?_ ?_
    rotate_left
    · intro w'
      go_simp
      with_reducible rfl
    rotate_left
    · simp only [Act.put, List.setIfInBounds_toArray, List.set_cons_zero, List.set_cons_succ, i64_w, i32_w]
      rfl
    refine pure_ (i := 24) (N := (some 84)) (v := ?_) (a' := ?_) #[true, true, true, true, true, true, true, true, true, true, true, true, true, true, true, true, true, true, true, true, true, true, true, true, true, false, false, false, false, false, false] rfl rfl (by kernel_rfl) (fun _ _ _ h => h) (Or.inl ⟨by rfl, ?_⟩) ?_ ?_
    rotate_left
    · intro w'
      go_simp
      with_reducible rfl
    rotate_left
    · simp only [Act.put, List.setIfInBounds_toArray, List.set_cons_zero, List.set_cons_succ, i64_w, i32_w]
      rfl
    refine pure_ (i := 25) (N := (some 85)) (v := ?_) (a' := ?_) #[true, true, true, true, true, true, true, true, true, true, true, true, true, true, true, true, true, true, true, true, true, true, true, true, true, true, false, false, false, false, false] rfl rfl (by kernel_rfl) (fun _ _ _ h => h) (Or.inl ⟨by rfl, ?_⟩) ?_ ?_
    rotate_left
    · intro w'
      go_simp
      with_reducible rfl
    rotate_left
    · simp only [Act.put, List.setIfInBounds_toArray, List.set_cons_zero, List.set_cons_succ, i64_w, i32_w]
      rfl
    refine one_ (i := 26) (N := (some 86)) #[true, true, true, true, true, true, true, true, true, true, true, true, true, true, true, true, true, true, true, true, true, true, true, true, true, true, true, false, false, false, false] rfl rfl (by kernel_rfl) (by decide) (fun K hK => ?_)
    refine goes_ Tryd.func18 (by kernel_rfl) rfl #[] (by rfl) rfl rfl (by (try simp only [List.map_toArray, List.map_cons, List.map_nil]); first | done | rfl) ?_
    refine (begin_calls _).mono ?_
    rintro e w' ⟨rfl, hb⟩
    refine ⟨_, rfl, ?_⟩
    refine hK.out _ _ (bl hHeld hb) (fun hHeld => ?_)
    clear hK K
    refine norm_ (a' := ?_) ?_ ?_
    rotate_left
    · show Act.put _ (some 86) _ = _
      simp only [Act.put, List.setIfInBounds_toArray, List.set_cons_zero, List.set_cons_succ, i64_w, i32_w]
      rfl
    refine one_ (i := 27) (N := (some 87)) #[true, true, true, true, true, true, true, true, true, true, true, true, true, true, true, true, true, true, true, true, true, true, true, true, true, true, true, true, false, false, false] rfl rfl (by kernel_rfl) (by decide) (fun K hK => ?_)
    refine goes_ Tryd.func19 (by kernel_rfl) rfl #[] (by rfl) rfl rfl (by (try simp only [List.map_toArray, List.map_cons, List.map_nil]); first | done | rfl) ?_
    refine (refBegin_calls _).mono ?_
    rintro e w' ⟨rfl, hb⟩
    refine ⟨_, rfl, ?_⟩
    refine hK.out _ _ (bl hHeld hb) (fun hHeld => ?_)
    clear hK K
    refine norm_ (a' := ?_) ?_ ?_
    rotate_left
    · show Act.put _ (some 87) _ = _
      simp only [Act.put, List.setIfInBounds_toArray, List.set_cons_zero, List.set_cons_succ, i64_w, i32_w]
      rfl
    refine one_ (i := 28) (N := (some 88)) #[true, true, true, true, true, true, true, true, true, true, true, true, true, true, true, true, true, true, true, true, true, true, true, true, true, true, true, true, true, false, false] rfl rfl (by kernel_rfl) (by decide) (fun K hK => ?_)
    refine goes_ Tryd.func15 (by kernel_rfl) rfl #[.agg (sumC H0 none 0 0 0), .agg (sumC H0 none 0 0 0)] (by rfl) rfl rfl (by (try simp only [List.map_toArray, List.map_cons, List.map_nil]); first | done | rfl) ?_
    refine (refSame_calls _ _ H0 none 0 none 0 [] 0 rfl rfl rfl _ (Kd.C_nil _ _) (Kd.C_nil _ _)).mono ?_
    rintro e w' ⟨rfl, hb⟩
    refine ⟨_, rfl, ?_⟩
    refine hK.out _ _ (bl hHeld hb) (fun hHeld => ?_)
    clear hK K
    refine norm_ (a' := ?_) ?_ ?_
    rotate_left
    · show Act.put _ (some 88) _ = _
      simp only [Act.put, List.setIfInBounds_toArray, List.set_cons_zero, List.set_cons_succ, i64_w, i32_w]
      rfl
    refine pure_ (i := 29) (N := (some 89)) (v := ?_) (a' := ?_) #[true, true, true, true, true, true, true, true, true, true, true, true, true, true, true, true, true, true, true, true, true, true, true, true, true, true, true, true, true, true, false] rfl rfl (by kernel_rfl) (fun _ _ _ h => h) (Or.inl ⟨by rfl, ?_⟩) ?_ ?_
    rotate_left
    · intro w'
      go_simp
      with_reducible rfl
    rotate_left
    · simp only [Act.put, List.setIfInBounds_toArray, List.set_cons_zero, List.set_cons_succ, i64_w, i32_w]
      rfl
    refine pure_ (i := 30) (N := (some 15)) (v := ?_) (a' := ?_) #[true, true, true, true, true, true, true, true, true, true, true, true, true, true, true, true, true, true, true, true, true, true, true, true, true, true, true, true, true, true, true] rfl rfl (by kernel_rfl) (fun _ _ _ h => h) (Or.inl ⟨by rfl, ?_⟩) ?_ ?_
    rotate_left
    · intro w'
      go_simp
      with_reducible rfl
    rotate_left
    · simp only [Act.put, List.setIfInBounds_toArray, List.set_cons_zero, List.set_cons_succ, i64_w, i32_w]
      rfl
    refine done_ (by kernel_rfl) ?_
    have HBL9 := Aside0.mk (bl HBL.out hHeld)
    have G7' := Aside0.mk (blk_below G7.out hHeld)
    have KX' := Aside0.mk (Kd.R_below KX.out hHeld)
    clear hHeld HBT HBL G2 G5 HO HMn G7 KX G9 CY G11 G13
    go_wp2
    go_loopw [16] (fun v16 wr => ∃ (i : Nat) (xs : List Int), v16 = .int .i64 i ∧ i ≤ lX.length ∧ xs.length = lX.length ∧ Aside0 (wr.heap[g7]? = some (.cells (sumC hsX RX lX.length cX mX) 34 (0, 0))) ∧ Aside0 (Kd.R (Kd.int .u8) 5 wr wM.heap.size (fun _ => True) (.slice RX lX.length cX) xs) ∧ Aside0 (Below wM.heap.size wM wr)) (fun v16 _ => lX.length - (intOf v16).toNat)
    case atStart => exact ⟨0, lX, rfl, by omega, rfl, G7', KX', HBL9⟩
    case round =>
      clear G7' KX' HBL9
      obtain ⟨i, xs, rfl, hi', hxl, G7, KX, HBL⟩ := hrel
      have hc8 : wr.cell? ⟨g7, 8, none⟩ = some (.slice RX lX.length cX) := (blk_cell G7.out 8).trans (sum_cell8 RX lX.length cX mX hhX)
      have hXl : (lX.length : Int) ≤ 64 := by have := HRX.out; omega
      by_cases hlt : i < lX.length
      · have hd1 : decide ((i : Int) < (lX.length : Int)) = true := decide_eq_true (by omega)
        have hk2 : (i : Int) < (lX.length : Int) := by omega
        obtain ⟨g, hg, hgb⟩ := R_some KX.out (by omega)
        obtain ⟨hcell, hfz⟩ := Kd.R_celln (0 : Int) (by rw [hg] at KX; exact KX.out) (i : Int) (by omega) (by omega)
        have hput := Kd.R_putn (by rw [hg] at KX; exact KX.out) (i : Int) ((rdOf 0 xs (i : Int) + 1) % 256)
        have hne7 : g7 ≠ g := fun he => Kd.R_ne KX.out G7.out (by decide) (by rw [hg, he]; rfl)
        simp only [Int.toNat_natCast] at hcell hfz hput
        generalize rdOf (0 : Int) xs (i : Int) = z at hcell hput
        have hn7 := (Below.heap_setCell wr ⟨g, i, none⟩ (.int .u8 ((z + 1) % 256)) g7 (by simpa using hne7)).trans G7.out
        have hbb := HBL.out.setCell (p := ⟨g, i, none⟩) hgb (.int .u8 ((z + 1) % 256))
        rw [← hg] at hput
        have HQ1 := Aside0.mk hn7
        have HQ2 := Aside0.mk hput
        have HQ3 := Aside0.mk hbb
        have HXL := Aside0.mk hxl
        have hcellw : wr.cell? ⟨g, i, none⟩ = some (.int .u8 z) := hcell
        rw [hg] at hc8
        have HGG := Aside0.mk hg
        clear hn7 hput hbb hxl hcell hne7 G7 KX HBL hg
        go_wp2
        go_region
        go_wp2
        exact ⟨⟨i + 1, xs.set i ((z + 1) % 256), rfl, by omega, by rw [List.length_set]; exact HXL.out, ⟨blk_drew HQ1.out⟩, ⟨Kd.R_drew HQ2.out⟩, ⟨below_drew HQ3.out⟩⟩, by simp [intOf]; omega⟩
      · have hd1 : decide ((i : Int) < (lX.length : Int)) = false := decide_eq_false (by omega)
        have G2 := Aside0.mk (blk_below G2M.out HBL.out)
        have G5 := Aside0.mk (blk_below G5M.out HBL.out)
        repeat (first
          | ((with_reducible refine wpList_load_g 34 (.tmp 5) g5 _ _ _ ?hw rfl ?hx G5.out Tryd.underlying34 ?hd ?hi ?_); (case hw => rfl); (case hx => rfl); (case hd => rfl); (case hi => rfl))
          | ((with_reducible refine wpList_load_g 34 (.tmp 2) w.heap.size _ _ _ ?hw rfl ?hx G2.out Tryd.underlying34 ?hd ?hi ?_); (case hw => rfl); (case hx => rfl); (case hd => rfl); (case hi => rfl))
          | (go_at_call 15; (with_reducible refine (refSame_calls _ _ [h0, h1, h2, h3, h4, h5, h6, h7] R5 c5 R rc r m ?h1 ?h2 rfl wr (Kd.C_below HOM.out HBL.out) (Kd.C_below HR.out (bl HBM.out HBL.out))).mono ?_); (case h1 => rfl); (case h2 => rfl); rintro e15 w15 ⟨rfl, hb⟩; have HBE := Aside0.mk (bl HBL.out hb); have hcv := Kd.C_string (P := Tryd.prog) (src := 22) (dst := 9) (c := cM) Tryd.underlying22 Tryd.underlying5 Tryd.underlying9 (Kd.C_below HMM.out (bl HBL.out hb)); have hcw := Kd.C_string (P := Tryd.prog) (src := 22) (dst := 9) (c := cb) Tryd.underlying22 Tryd.underlying5 Tryd.underlying9 (Kd.C_below HBb.out (bl HBM.out (bl HBL.out hb))); clear hb; (try dsimp only))
          | go_values | go_guarded | go_step | go_upon | go_back)
        go_ret
        exact ⟨rfl, bl HBM.out HBE.out⟩
  · intro hcont
    refine two_ (i := 2) (j := 9) (Ni := some 28) (Nj := some 5) #[true, true, true, true, true, false, true, true, false, false, false] #[true, true, false, true, true, false, true, true, false, true, false] rfl rfl rfl rfl (by kernel_rfl) (by decide) (by decide) (fun K hK => ?_) (fun K hK => ?_)
    · skip
      refine ite_wanted rfl ?_
      go_simp
      obtain ⟨Y1, hY⟩ : ∃ Y, Y = w1.drew.alloc (.cells #[] 5) := ⟨_, rfl⟩
      have hO2 := ownsRow_empty w1.drew 5 w1.heap.size hHeld.size (fun _ => True) trivial (Kd.int .u8)
      have hS := below_alloc hHeld (.cells #[] 5)
      rw [← hY] at hO2 hS
      refine at_world (K := K) hY ?_
      clear hY
      refine hK.out _ _ hS (fun hHeld1 => ?_)
      clear hS
      clear hK K
      replace hHeld := hHeld1
      clear hHeld1
      refine two_ (i := 5) (j := 9) (Ni := some 31) (Nj := some 5) #[true, true, true, true, true, true, true, true, false, false, false] #[true, true, true, true, true, false, true, true, false, true, false] rfl rfl rfl rfl (by kernel_rfl) (by decide) (by decide) (fun K hK => ?_) (fun K hK => ?_)
      · skip
        refine Kd.R_append_rows_step (Kd.int .u8) (w0 := w1) w1.heap.size rfl (.tmp 28) (.tmp 30) 22 5 (.int .u8 0) 1 rfl Tryd.underlying22 info5 rfl (by decide) (by omega) (.slice (some ⟨w1.drew.heap.size, 0, none⟩) 0 0) [] r R r.length rc (fun _ => True) (fun _ => False) rfl rfl hO2 (Kd.C_below HR.out (bl HB1.out hHeld)) (fun _ _ h => h) (fun _ h => h.elim) (fun _ _ => trivial) hHeld hHeld.size (by have := HLR.out; simp; omega) ?_
        intro v31 Y2 ho hb hg hat
        refine hK.out _ _ hb (fun hHeld1 => ?_)
        obtain ⟨R5, c5, rfl⟩ := Kd.R_slice ho
        rw [List.nil_append] at ho ⊢
        have hO5 := ho
        clear ho hg hat hb
        clear hK K
        replace hHeld := hHeld1
        clear hHeld1
        refine norm_ (a' := ?_) ?_ ?_
        rotate_left
        · show Act.put _ (some 31) _ = _
          simp only [Act.put, List.setIfInBounds_toArray, List.set_cons_zero, List.set_cons_succ, i64_w, i32_w]
          rfl
        refine pure_ (i := 8) (N := (some 34)) (v := ?_) (a' := ?_) #[true, true, true, true, true, true, true, true, true, false, false] rfl rfl (by kernel_rfl) (fun _ _ _ h => h) (Or.inl ⟨by rfl, ?_⟩) ?_ ?_
        rotate_left
        · intro w'
          go_simp
          with_reducible rfl
        rotate_left
        · simp only [Act.put, List.setIfInBounds_toArray, List.set_cons_zero, List.set_cons_succ, i64_w, i32_w]
          rfl
        refine one_ (i := 9) (N := (some 5)) #[true, true, true, true, true, true, true, true, true, true, false] rfl rfl (by kernel_rfl) (by decide) (fun K hK => ?_)
        refine ite_wanted rfl ?_
        go_simp
        obtain ⟨Y3, hY⟩ : ∃ Y, Y = Y2.alloc (.cells zeroS 34) := ⟨_, rfl⟩
        have hz5 := heap_alloc_new Y2 (.cells zeroS 34)
        have hl5 := hHeld.size
        have hS := below_alloc hHeld (.cells zeroS 34)
        have hO5b := Kd.R_alloc hO5 (.cells zeroS 34)
        rw [← hY] at hz5 hS hO5b
        refine at_world (K := K) hY ?_
        clear hY
        refine hK.out _ _ hS (fun hHeld1 => ?_)
        clear hS
        clear hK K
        replace hHeld := hHeld1
        clear hHeld1
        refine norm_ ?_ (hcont (.slice (some ⟨w1.drew.heap.size, 0, none⟩) 0 0, R5, c5, Y2.heap.size) _ ⟨hHeld, hz5, by first | exact hl5 | omega, (Kd.R_reads' hO5b).2.1, F_ne hO5b hz5⟩)
        simp only [putAll, Act.put, List.setIfInBounds_toArray, List.set_cons_zero, List.set_cons_succ]
        rfl
      · skip
        refine ite_wanted rfl ?_
        go_simp
        obtain ⟨Y2, hY⟩ : ∃ Y, Y = Y1.alloc (.cells zeroS 34) := ⟨_, rfl⟩
        have hz5 := heap_alloc_new Y1 (.cells zeroS 34)
        have hl5 := hHeld.size
        have hS := below_alloc hHeld (.cells zeroS 34)
        have hO2b := Kd.R_alloc hO2 (.cells zeroS 34)
        rw [← hY] at hz5 hS hO2b
        refine at_world (K := K) hY ?_
        clear hY
        refine hK.out _ _ hS (fun hHeld1 => ?_)
        clear hS
        clear hK K
        replace hHeld := hHeld1
        clear hHeld1
        refine one_ (i := 5) (N := (some 31)) #[true, true, true, true, true, true, true, true, false, true, false] rfl rfl (by kernel_rfl) (by decide) (fun K hK => ?_)
        refine Kd.R_append_rows_step (Kd.int .u8) (w0 := w1) w1.heap.size rfl (.tmp 28) (.tmp 30) 22 5 (.int .u8 0) 1 rfl Tryd.underlying22 info5 rfl (by decide) (by omega) (.slice (some ⟨w1.drew.heap.size, 0, none⟩) 0 0) [] r R r.length rc (fun _ => True) (fun _ => False) rfl rfl hO2b (Kd.C_below HR.out (bl HB1.out hHeld)) (fun _ _ h => h) (fun _ h => h.elim) (fun _ _ => trivial) hHeld hHeld.size (by have := HLR.out; simp; omega) ?_
        intro v31 Y3 ho hb hg hat
        replace hz5 := blk_grown hz5 hg (Kd.R_ne hO2b hz5 (by decide))
        refine hK.out _ _ hb (fun hHeld1 => ?_)
        obtain ⟨R5, c5, rfl⟩ := Kd.R_slice ho
        rw [List.nil_append] at ho ⊢
        have hO5 := ho
        clear ho hg hat hb
        clear hK K
        replace hHeld := hHeld1
        clear hHeld1
        refine norm_ (a' := ?_) ?_ ?_
        rotate_left
        · show Act.put _ (some 31) _ = _
          simp only [Act.put, List.setIfInBounds_toArray, List.set_cons_zero, List.set_cons_succ, i64_w, i32_w]
          rfl
        refine pure_ (i := 8) (N := (some 34)) (v := ?_) (a' := ?_) #[true, true, true, true, true, true, true, true, true, true, false] rfl rfl (by kernel_rfl) (fun _ _ _ h => h) (Or.inl ⟨by rfl, ?_⟩) ?_ ?_
        rotate_left
        · intro w'
          go_simp
          with_reducible rfl
        rotate_left
        · simp only [Act.put, List.setIfInBounds_toArray, List.set_cons_zero, List.set_cons_succ, i64_w, i32_w]
          rfl
        refine norm_ ?_ (hcont (.slice (some ⟨w1.drew.heap.size, 0, none⟩) 0 0, R5, c5, Y1.heap.size) _ ⟨hHeld, hz5, by first | exact hl5 | omega, (Kd.R_reads' hO5).2.1, F_ne hO5 hz5⟩)
        simp only [putAll, Act.put, List.setIfInBounds_toArray, List.set_cons_zero, List.set_cons_succ]
        rfl
    · skip
      refine ite_wanted rfl ?_
      go_simp
      obtain ⟨Y1, hY⟩ : ∃ Y, Y = w1.drew.alloc (.cells zeroS 34) := ⟨_, rfl⟩
      have hz5 := heap_alloc_new w1.drew (.cells zeroS 34)
      have hl5 := hHeld.size
      have hS := below_alloc hHeld (.cells zeroS 34)
      rw [← hY] at hz5 hS
      refine at_world (K := K) hY ?_
      clear hY
      refine hK.out _ _ hS (fun hHeld1 => ?_)
      clear hS
      clear hK K
      replace hHeld := hHeld1
      clear hHeld1
      refine one_ (i := 2) (N := (some 28)) #[true, true, true, true, true, false, true, true, false, true, false] rfl rfl (by kernel_rfl) (by decide) (fun K hK => ?_)
      refine ite_wanted rfl ?_
      go_simp
      obtain ⟨Y2, hY⟩ : ∃ Y, Y = Y1.alloc (.cells #[] 5) := ⟨_, rfl⟩
      have hO2 := ownsRow_empty Y1 5 w1.heap.size hHeld.size (fun _ => True) trivial (Kd.int .u8)
      have hS := below_alloc hHeld (.cells #[] 5)
      replace hz5 := blk_alloc hz5 (.cells #[] 5)
      rw [← hY] at hO2 hS hz5
      refine at_world (K := K) hY ?_
      clear hY
      refine hK.out _ _ hS (fun hHeld1 => ?_)
      clear hS
      clear hK K
      replace hHeld := hHeld1
      clear hHeld1
      refine one_ (i := 5) (N := (some 31)) #[true, true, true, true, true, true, true, true, false, true, false] rfl rfl (by kernel_rfl) (by decide) (fun K hK => ?_)
      refine Kd.R_append_rows_step (Kd.int .u8) (w0 := w1) w1.heap.size rfl (.tmp 28) (.tmp 30) 22 5 (.int .u8 0) 1 rfl Tryd.underlying22 info5 rfl (by decide) (by omega) (.slice (some ⟨Y1.heap.size, 0, none⟩) 0 0) [] r R r.length rc (fun _ => True) (fun _ => False) rfl rfl hO2 (Kd.C_below HR.out (bl HB1.out hHeld)) (fun _ _ h => h) (fun _ h => h.elim) (fun _ _ => trivial) hHeld hHeld.size (by have := HLR.out; simp; omega) ?_
      intro v31 Y3 ho hb hg hat
      replace hz5 := blk_grown hz5 hg (Kd.R_ne hO2 hz5 (by decide))
      refine hK.out _ _ hb (fun hHeld1 => ?_)
      obtain ⟨R5, c5, rfl⟩ := Kd.R_slice ho
      rw [List.nil_append] at ho ⊢
      have hO5 := ho
      clear ho hg hat hb
      clear hK K
      replace hHeld := hHeld1
      clear hHeld1
      refine norm_ (a' := ?_) ?_ ?_
      rotate_left
      · show Act.put _ (some 31) _ = _
        simp only [Act.put, List.setIfInBounds_toArray, List.set_cons_zero, List.set_cons_succ, i64_w, i32_w]
        rfl
      refine pure_ (i := 8) (N := (some 34)) (v := ?_) (a' := ?_) #[true, true, true, true, true, true, true, true, true, true, false] rfl rfl (by kernel_rfl) (fun _ _ _ h => h) (Or.inl ⟨by rfl, ?_⟩) ?_ ?_
      rotate_left
      · intro w'
        go_simp
        with_reducible rfl
      rotate_left
      · simp only [Act.put, List.setIfInBounds_toArray, List.set_cons_zero, List.set_cons_succ, i64_w, i32_w]
        rfl
      refine norm_ ?_ (hcont (.slice (some ⟨Y1.heap.size, 0, none⟩) 0 0, R5, c5, w1.drew.heap.size) _ ⟨hHeld, hz5, by first | exact hl5 | omega, (Kd.R_reads' hO5).2.1, F_ne hO5 hz5⟩)
      simp only [putAll, Act.put, List.setIfInBounds_toArray, List.set_cons_zero, List.set_cons_succ]
      rfl
theorem law02_ShaComes.calls (k : Nat) (hs : List Int) (R : Option Addr) (rc : Nat) (r : List Int) (m : Int) (A1 : Option Addr) (c1 : Nat) (l1 : List Int) (res : Bool) (w : World) (hr0 : Kd.C (Kd.int .u8) w R r.length r) (hc0 : r.length ≤ rc) (hr1 : Kd.C (Kd.int .u8) w A1 l1.length l1) (hc1 : l1.length ≤ c1) (hh : hs.length = 8) (hm : 0 ≤ m) (h : law02_ShaComes.f k hs r m l1 = some res) (hk : Ktab w) :
    Calls Tryd.prog 4 #[.agg (sumC hs R r.length rc m), .slice A1 l1.length c1] w fun e w' => e = .returned (.bool res) ∧ Below w.heap.size w w' := by
  obtain rfl : true = res := by simpa [law02_ShaComes.f] using h
  by_cases h0 : 1000 < r.length
  · exact comes_big hs R rc r.length m A1 c1 l1 w hh (.inl h0)
  · by_cases h1 : 1000 < l1.length
    · exact comes_big hs R rc r.length m A1 c1 l1 w hh (.inr h1)
    · exact comes_small hs R rc r m A1 c1 l1 w hh hr0 hc0 hm hr1 hc1 (by omega) (by omega) hk
end Go.Proofs.YtfijclinefmbfaaDoor
