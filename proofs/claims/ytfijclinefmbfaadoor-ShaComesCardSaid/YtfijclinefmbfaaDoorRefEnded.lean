/-
The document's Ended: the digest of one that may be.
-/
import Derived.Test.YtfijclinefmbfaaDoorRefCame
namespace Go.Proofs.YtfijclinefmbfaaDoor
open Go.RowKit Go.Proofs.YtfijclinefmbfaaDoorW.PrintWords Go.Proofs.YtfijclinefmbfaaDoorW.PrintLast Go.Proofs.YtfijclinefmbfaaDoorW.PrintMore Go.Proofs.YtfijclinefmbfaaDoor.PAll
set_option linter.unusedVariables false
set_option linter.unusedSimpArgs false

def lenN (N : Int) : List Int := (List.range 8).map fun i => N / 2 ^ (56 - 8 * i) % 256
theorem lenN_length (N : Int) : (lenN N).length = 8 := by simp [lenN]
theorem lenN_eq (m : Int) : lenN (8 * m % 18446744073709551616) = lenA m := by
  unfold lenN lenA
  rw [Int.mul_comm]
theorem tail_length (n : Nat) (m : Int) : (tailA n m).length = padZ n + 9 := by simp [tailA, lenA_length]
theorem comeA_nil (hs : List Int) : comeA hs [] = (hs, []) := comeA_small (by decide)

set_option maxHeartbeats 8000000 in
set_option maxRecDepth 100000 in
theorem ended_cs (cs : Array Value) (hs : List Int) (R : Option Addr) (rc : Nat) (r : List Int) (m : Int) (hcs : cs = sumC hs R r.length rc m) (hh : hs.length = 8) (w : World) (h1 : Kd.C (Kd.int .u8) w R r.length r) (hc1 : r.length ≤ rc) (hm : 0 ≤ m) (hr64 : r.length < 64) :
    Calls Tryd.prog 23 #[.agg cs] w fun e w' => e = .returned (.agg ⟨(endA hs r m).map (Value.int .u8)⟩) ∧ Below w.heap.size w w' := by
  subst hcs
  obtain ⟨h0, h1', h2', h3, h4, h5, h6, h7, rfl⟩ := eight hh
  obtain ⟨hq1, hq2⟩ := alloc2 w (.cells (sumC [h0, h1', h2', h3, h4, h5, h6, h7] R r.length rc m) 34) (.cells zeroD 24)
  have hc8 : ((w.alloc (.cells (sumC [h0, h1', h2', h3, h4, h5, h6, h7] R r.length rc m) 34)).alloc (.cells zeroD 24)).cell? ⟨w.heap.size, 8, none⟩ = some (.slice R r.length rc) := blk_cell hq1 8
  have hbl0 := below_alloc (below_alloc (Below.refl w.heap.size w) (.cells (sumC [h0, h1', h2', h3, h4, h5, h6, h7] R r.length rc m) 34)) (.cells zeroD 24)
  have hsz0 : w.heap.size + 1 < ((w.alloc (.cells (sumC [h0, h1', h2', h3, h4, h5, h6, h7] R r.length rc m) 34)).alloc (.cells zeroD 24)).heap.size := by simp
  have H1 := Aside0.mk h1
  have HC1 := Aside0.mk hc1
  have HR64 := Aside0.mk hr64
  clear h1 hc1 hm hh hr64
  go_enter Tryd.func23, Tryd.ntmps23
  repeat ((fail_if_success (with_reducible refine gate_dst (N := 9) rfl ?_)); (first | go_values | go_guarded | go_step | go_upon | go_back))
  generalize hX : (w.alloc _).alloc _ = W0
  have hW0 : (w.alloc (.cells (sumC [h0, h1', h2', h3, h4, h5, h6, h7] R r.length rc m) 34)).alloc (.cells zeroD 24) = W0 := hX
  rw [hW0] at hq1 hq2 hc8 hbl0 hsz0
  clear hX hW0
  have HQ1 := Aside0.mk hq1
  have HQ2 := Aside0.mk hq2
  have HB0 := Aside0.mk hbl0
  clear hq1 hq2 hbl0
  repeat (first
    | ((with_reducible refine gate_dst (N := 9) rfl ?_); refine Kd.R_lit (Kd.int .u8) _ 5 ?hg (N := 9) ?hd (xs := ([] : List Int)) (inner := []) (ok := fun _ => True) (okp := fun _ => True) ?hr ?hp (fun _ hk => hk) trivial (Below.refl _ _) (Nat.le_refl _) (by simp) ?_; (case hd => rfl); (case hg => rfl); (case hr => first | (go_simp; done) | (go_simp; rfl)); (case hp => exact (Reps.none _ _)); intro v1 w1 ho hb hg_ hnew_; have HB1 := Aside0.mk hb; have HO1 := Aside0.mk ho; have hc9 : w1.cell? ⟨w.heap.size, 8, none⟩ = some (.slice R r.length rc) := blk_cell (blk_below HQ1.out hb) 8; clear hg_ hnew_ ho hb hc8)
    | ((with_reducible refine gate_builtin (b := .append) (xs := #[.tmp 9, .tmp 11]) rfl ?_); at_builtin; refine Kd.R_append_rows (Kd.int .u8) (w0 := W0) W0.heap.size rfl (.tmp 9) (.tmp 11) 22 5 (.int .u8 0) 1 rfl Tryd.underlying22 info5 rfl (by decide) (by omega) v1 [] r _ _ _ (fun _ => True) (fun _ => False) rfl rfl ?aO ?aR (fun _ _ h => h) (fun _ h => h.elim) ?aF ?aB ?aS ?aL ?_; (case aR => exact Kd.C_below H1.out (bl HB0.out HB1.out)); (case aB => exact HB1.out); (case aF => exact (fun _ _ => trivial)); (case aO => exact HO1.out); (case aS => exact HB1.out.size); (case aL => have := HR64.out; simp; omega); intro v2 w2 ho hb hg hat; rw [List.nil_append] at ho; obtain ⟨A2, c2, rfl⟩ := Kd.R_slice ho; have HB2 := Aside0.mk hb; have HO2 := Aside0.mk ho; clear ho hb hg hat HO1 HB1 hc9)
    | ((with_reducible refine gate_dst (N := 14) rfl ?_); refine Kd.R_append (Kd.int .u8) (w0 := W0) W0.heap.size rfl (.tmp 12) (.tmp 13) 22 5 (.int .u8 0) 1 rfl Tryd.underlying22 info5 rfl (by decide) (by omega) (.slice A2 r.length c2) r 128 [.int .u8 128] (fun _ => True) (fun _ => False) rfl rfl rfl (fun _ hk => hk.elim) (fun _ _ => trivial) HO2.out HB2.out HB2.out.size (by have := HR64.out; simp; omega) ?_; intro v3 w3 ho hb hg hat; obtain ⟨A3, c3, hv3⟩ := Kd.R_slice ho; subst hv3; have HO3 := Aside0.mk ho; have HB3 := Aside0.mk hb; have HG3 := Aside0.mk (blk_below HQ1.out hb); have HZ3 := Aside0.mk (blk_below HQ2.out hb); clear ho hb hg hat HO2 HB2)
    | go_values | go_guarded | go_step | go_upon | go_back)
  have HP : Aside0 (padZ r.length ≤ 63 ∧ (r.length + 1 + padZ r.length) % 64 = 56 ∧ ∀ j, j < padZ r.length → (r.length + 1 + j) % 64 ≠ 56) := ⟨by have := HR64.out; unfold padZ; refine ⟨by omega, by omega, fun j hj => by omega⟩⟩
  go_loopw [3] (fun v3 wr => ∃ (A : Option Addr) (q c j : Nat), v3 = .slice A q c ∧ q = r.length + 1 + j ∧ j ≤ padZ r.length ∧ Aside0 (Kd.R (Kd.int .u8) 5 wr W0.heap.size (fun _ => True) (.slice A q c) (r ++ 128 :: List.replicate j 0)) ∧ Aside0 (Below W0.heap.size W0 wr)) (fun v3 _ => r.length + padZ r.length + 2 - lenOf v3)
  case atStart => exact ⟨A3, _, c3, 0, rfl, by simp, by omega, by simpa using HO3, HB3⟩
  case round =>
    clear HO3 HB3 HG3 HZ3
    obtain ⟨A, q, c, j, rfl, hq, hj, HO, HB⟩ := hrel
    have hql : (q : Int) ≤ 200 := by have := HP.out.1; have := HR64.out; omega
    have htm : Int.tmod (q : Int) 64 = (q : Int) % 64 := Int.tmod_eq_emod_of_nonneg (by omega)
    have HQJ := Aside0.mk hq
    by_cases hlt : j < padZ r.length
    · have hd1 : ((q : Int) % 64 != 56) = true := by
        have := HP.out.2.2 j hlt
        simp only [bne_iff_ne, ne_eq]
        omega
      have HLT := Aside0.mk hlt
      clear hq hlt
      repeat ((fail_if_success (with_reducible refine gate_dst (N := 21) rfl ?_)); (first | go_values | go_guarded | go_step | go_upon | go_back))
      refine Kd.R_append (Kd.int .u8) (w0 := W0) W0.heap.size rfl (.tmp 19) (.tmp 20) 22 5 (.int .u8 0) 1 rfl Tryd.underlying22 info5 rfl (by decide) (by omega) (.slice A q c) (r ++ 128 :: List.replicate j 0) 0 [.int .u8 0] (fun _ => True) (fun _ => False) rfl rfl rfl (fun _ hk => hk.elim) (fun _ _ => trivial) HO.out HB.out HB.out.size (by have := HP.out.1; have := HLT.out; have := HR64.out; simp; omega) ?_
      intro v1 w1 ho hb hg hat
      obtain ⟨A1, c1, rfl⟩ := Kd.R_slice ho
      have hll : (r ++ 128 :: List.replicate j (0 : Int) ++ [0]).length = q + 1 := by rw [HQJ.out]; simp; omega
      rw [hll] at ho ⊢
      rw [show r ++ 128 :: List.replicate j (0 : Int) ++ [0] = r ++ 128 :: List.replicate (j + 1) 0 by rw [List.append_assoc, List.replicate_succ']; rfl] at ho
      have HO1 := Aside0.mk ho
      have HB1 := Aside0.mk hb
      clear ho hb hg hat hll HO HB htm
      go_wp2
      exact ⟨⟨A1, q + 1, c1, j + 1, rfl, by have := HQJ.out; omega, by have := HLT.out; omega, HO1, HB1⟩, by have := HQJ.out; have := HLT.out; simp [lenOf]; omega⟩
    · have hjz : j = padZ r.length := by omega
      have hd1 : ((q : Int) % 64 != 56) = false := by
        have := HP.out.2.1
        rw [bne_eq_false_iff_eq]
        omega
      subst hjz
      have hc9 : wr.cell? ⟨w.heap.size, 9, none⟩ = some (.int .u64 m) := blk_cell (blk_below HQ1.out HB.out) 9
      clear hq hlt
      go_wp2
      clear hd1 htm hc9
      generalize hN : IntKind.u64.wrap (8 * m) = N
      have HNN : Aside0 (lenN N = lenA m) := ⟨by rw [← hN]; exact lenN_eq m⟩
      have HML := Aside0.mk (lenN_length N)
      clear hN
      go_loopw [3, 5] (fun v3 v5 wr => ∃ (A : Option Addr) (q c k : Nat), v5 = .int .i64 (7 - (k : Int)) ∧ k ≤ 8 ∧ v3 = .slice A q c ∧ q = r.length + 1 + padZ r.length + k ∧ Aside0 (Kd.R (Kd.int .u8) 5 wr W0.heap.size (fun _ => True) (.slice A q c) (r ++ 128 :: List.replicate (padZ r.length) 0 ++ (lenN N).take k)) ∧ Aside0 (Below W0.heap.size W0 wr)) (fun v3 _ _ => r.length + padZ r.length + 10 - lenOf v3)
      case atStart => exact ⟨A, q, c, 0, rfl, by omega, rfl, by have := HQJ.out; omega, by simpa using HO, HB⟩
      case round =>
        clear HO HB hql HQJ
        obtain ⟨A, q, c, k, hv5, hk, rfl, hq, HO, HB⟩ := hrel
        have HQK := Aside0.mk hq
        clear hq
        by_cases hk8 : k < 8
        · have hgetk : (lenN N).take (k + 1) = (lenN N).take k ++ [(lenN N).getD k 0] := by
            rw [List.take_succ_eq_append_getElem (by rw [HML.out]; exact hk8)]
            simp [List.getD_eq_getElem?_getD, List.getElem?_eq_getElem (show k < (lenN N).length by rw [HML.out]; exact hk8)]
          have HGK := Aside0.mk hgetk
          clear hgetk
          rcases eight_lt hk8 with rfl | rfl | rfl | rfl | rfl | rfl | rfl | rfl
          · replace hv5 : _ = Value.int .i64 7 := hv5
            subst hv5
            repeat ((fail_if_success (with_reducible refine gate_dst (N := 37) rfl ?_)); (first | go_values | go_guarded | go_step | go_upon | go_back))
            refine Kd.R_append (Kd.int .u8) (w0 := W0) W0.heap.size rfl (.tmp 29) (.tmp 36) 22 5 (.int .u8 0) 1 rfl Tryd.underlying22 info5 rfl (by decide) (by omega) (.slice A q c) (r ++ 128 :: List.replicate (padZ r.length) 0 ++ (lenN N).take 0) ((lenN N).getD 0 0) [.int .u8 ((lenN N).getD 0 0)] (fun _ => True) (fun _ => False) rfl rfl rfl (fun _ hk => hk.elim) (fun _ _ => trivial) HO.out HB.out HB.out.size (by have := HP.out.1; have := HR64.out; simp; omega) ?_
            intro v1 w1 ho hb hg hat
            obtain ⟨A1, c1, rfl⟩ := Kd.R_slice ho
            rw [List.append_assoc _ _ [_], ← HGK.out] at ho ⊢
            have hll : (r ++ 128 :: List.replicate (padZ r.length) (0 : Int) ++ (lenN N).take (0 + 1)).length = q + 1 := by rw [HQK.out, List.length_append, List.length_take, HML.out]; simp; omega
            rw [hll] at ho ⊢
            have HO1 := Aside0.mk ho
            have HB1 := Aside0.mk hb
            clear ho hb hg hat hll HO HB
            go_wp2
            exact ⟨⟨A1, q + 1, c1, 0 + 1, rfl, by omega, rfl, by have := HQK.out; omega, HO1, HB1⟩, by have := HQK.out; simp [lenOf]; omega⟩
          · replace hv5 : _ = Value.int .i64 6 := hv5
            subst hv5
            repeat ((fail_if_success (with_reducible refine gate_dst (N := 37) rfl ?_)); (first | go_values | go_guarded | go_step | go_upon | go_back))
            refine Kd.R_append (Kd.int .u8) (w0 := W0) W0.heap.size rfl (.tmp 29) (.tmp 36) 22 5 (.int .u8 0) 1 rfl Tryd.underlying22 info5 rfl (by decide) (by omega) (.slice A q c) (r ++ 128 :: List.replicate (padZ r.length) 0 ++ (lenN N).take 1) ((lenN N).getD 1 0) [.int .u8 ((lenN N).getD 1 0)] (fun _ => True) (fun _ => False) rfl rfl rfl (fun _ hk => hk.elim) (fun _ _ => trivial) HO.out HB.out HB.out.size (by have := HP.out.1; have := HR64.out; simp; omega) ?_
            intro v1 w1 ho hb hg hat
            obtain ⟨A1, c1, rfl⟩ := Kd.R_slice ho
            rw [List.append_assoc _ _ [_], ← HGK.out] at ho ⊢
            have hll : (r ++ 128 :: List.replicate (padZ r.length) (0 : Int) ++ (lenN N).take (1 + 1)).length = q + 1 := by rw [HQK.out, List.length_append, List.length_take, HML.out]; simp; omega
            rw [hll] at ho ⊢
            have HO1 := Aside0.mk ho
            have HB1 := Aside0.mk hb
            clear ho hb hg hat hll HO HB
            go_wp2
            exact ⟨⟨A1, q + 1, c1, 1 + 1, rfl, by omega, rfl, by have := HQK.out; omega, HO1, HB1⟩, by have := HQK.out; simp [lenOf]; omega⟩
          · replace hv5 : _ = Value.int .i64 5 := hv5
            subst hv5
            repeat ((fail_if_success (with_reducible refine gate_dst (N := 37) rfl ?_)); (first | go_values | go_guarded | go_step | go_upon | go_back))
            refine Kd.R_append (Kd.int .u8) (w0 := W0) W0.heap.size rfl (.tmp 29) (.tmp 36) 22 5 (.int .u8 0) 1 rfl Tryd.underlying22 info5 rfl (by decide) (by omega) (.slice A q c) (r ++ 128 :: List.replicate (padZ r.length) 0 ++ (lenN N).take 2) ((lenN N).getD 2 0) [.int .u8 ((lenN N).getD 2 0)] (fun _ => True) (fun _ => False) rfl rfl rfl (fun _ hk => hk.elim) (fun _ _ => trivial) HO.out HB.out HB.out.size (by have := HP.out.1; have := HR64.out; simp; omega) ?_
            intro v1 w1 ho hb hg hat
            obtain ⟨A1, c1, rfl⟩ := Kd.R_slice ho
            rw [List.append_assoc _ _ [_], ← HGK.out] at ho ⊢
            have hll : (r ++ 128 :: List.replicate (padZ r.length) (0 : Int) ++ (lenN N).take (2 + 1)).length = q + 1 := by rw [HQK.out, List.length_append, List.length_take, HML.out]; simp; omega
            rw [hll] at ho ⊢
            have HO1 := Aside0.mk ho
            have HB1 := Aside0.mk hb
            clear ho hb hg hat hll HO HB
            go_wp2
            exact ⟨⟨A1, q + 1, c1, 2 + 1, rfl, by omega, rfl, by have := HQK.out; omega, HO1, HB1⟩, by have := HQK.out; simp [lenOf]; omega⟩
          · replace hv5 : _ = Value.int .i64 4 := hv5
            subst hv5
            repeat ((fail_if_success (with_reducible refine gate_dst (N := 37) rfl ?_)); (first | go_values | go_guarded | go_step | go_upon | go_back))
            refine Kd.R_append (Kd.int .u8) (w0 := W0) W0.heap.size rfl (.tmp 29) (.tmp 36) 22 5 (.int .u8 0) 1 rfl Tryd.underlying22 info5 rfl (by decide) (by omega) (.slice A q c) (r ++ 128 :: List.replicate (padZ r.length) 0 ++ (lenN N).take 3) ((lenN N).getD 3 0) [.int .u8 ((lenN N).getD 3 0)] (fun _ => True) (fun _ => False) rfl rfl rfl (fun _ hk => hk.elim) (fun _ _ => trivial) HO.out HB.out HB.out.size (by have := HP.out.1; have := HR64.out; simp; omega) ?_
            intro v1 w1 ho hb hg hat
            obtain ⟨A1, c1, rfl⟩ := Kd.R_slice ho
            rw [List.append_assoc _ _ [_], ← HGK.out] at ho ⊢
            have hll : (r ++ 128 :: List.replicate (padZ r.length) (0 : Int) ++ (lenN N).take (3 + 1)).length = q + 1 := by rw [HQK.out, List.length_append, List.length_take, HML.out]; simp; omega
            rw [hll] at ho ⊢
            have HO1 := Aside0.mk ho
            have HB1 := Aside0.mk hb
            clear ho hb hg hat hll HO HB
            go_wp2
            exact ⟨⟨A1, q + 1, c1, 3 + 1, rfl, by omega, rfl, by have := HQK.out; omega, HO1, HB1⟩, by have := HQK.out; simp [lenOf]; omega⟩
          · replace hv5 : _ = Value.int .i64 3 := hv5
            subst hv5
            repeat ((fail_if_success (with_reducible refine gate_dst (N := 37) rfl ?_)); (first | go_values | go_guarded | go_step | go_upon | go_back))
            refine Kd.R_append (Kd.int .u8) (w0 := W0) W0.heap.size rfl (.tmp 29) (.tmp 36) 22 5 (.int .u8 0) 1 rfl Tryd.underlying22 info5 rfl (by decide) (by omega) (.slice A q c) (r ++ 128 :: List.replicate (padZ r.length) 0 ++ (lenN N).take 4) ((lenN N).getD 4 0) [.int .u8 ((lenN N).getD 4 0)] (fun _ => True) (fun _ => False) rfl rfl rfl (fun _ hk => hk.elim) (fun _ _ => trivial) HO.out HB.out HB.out.size (by have := HP.out.1; have := HR64.out; simp; omega) ?_
            intro v1 w1 ho hb hg hat
            obtain ⟨A1, c1, rfl⟩ := Kd.R_slice ho
            rw [List.append_assoc _ _ [_], ← HGK.out] at ho ⊢
            have hll : (r ++ 128 :: List.replicate (padZ r.length) (0 : Int) ++ (lenN N).take (4 + 1)).length = q + 1 := by rw [HQK.out, List.length_append, List.length_take, HML.out]; simp; omega
            rw [hll] at ho ⊢
            have HO1 := Aside0.mk ho
            have HB1 := Aside0.mk hb
            clear ho hb hg hat hll HO HB
            go_wp2
            exact ⟨⟨A1, q + 1, c1, 4 + 1, rfl, by omega, rfl, by have := HQK.out; omega, HO1, HB1⟩, by have := HQK.out; simp [lenOf]; omega⟩
          · replace hv5 : _ = Value.int .i64 2 := hv5
            subst hv5
            repeat ((fail_if_success (with_reducible refine gate_dst (N := 37) rfl ?_)); (first | go_values | go_guarded | go_step | go_upon | go_back))
            refine Kd.R_append (Kd.int .u8) (w0 := W0) W0.heap.size rfl (.tmp 29) (.tmp 36) 22 5 (.int .u8 0) 1 rfl Tryd.underlying22 info5 rfl (by decide) (by omega) (.slice A q c) (r ++ 128 :: List.replicate (padZ r.length) 0 ++ (lenN N).take 5) ((lenN N).getD 5 0) [.int .u8 ((lenN N).getD 5 0)] (fun _ => True) (fun _ => False) rfl rfl rfl (fun _ hk => hk.elim) (fun _ _ => trivial) HO.out HB.out HB.out.size (by have := HP.out.1; have := HR64.out; simp; omega) ?_
            intro v1 w1 ho hb hg hat
            obtain ⟨A1, c1, rfl⟩ := Kd.R_slice ho
            rw [List.append_assoc _ _ [_], ← HGK.out] at ho ⊢
            have hll : (r ++ 128 :: List.replicate (padZ r.length) (0 : Int) ++ (lenN N).take (5 + 1)).length = q + 1 := by rw [HQK.out, List.length_append, List.length_take, HML.out]; simp; omega
            rw [hll] at ho ⊢
            have HO1 := Aside0.mk ho
            have HB1 := Aside0.mk hb
            clear ho hb hg hat hll HO HB
            go_wp2
            exact ⟨⟨A1, q + 1, c1, 5 + 1, rfl, by omega, rfl, by have := HQK.out; omega, HO1, HB1⟩, by have := HQK.out; simp [lenOf]; omega⟩
          · replace hv5 : _ = Value.int .i64 1 := hv5
            subst hv5
            repeat ((fail_if_success (with_reducible refine gate_dst (N := 37) rfl ?_)); (first | go_values | go_guarded | go_step | go_upon | go_back))
            refine Kd.R_append (Kd.int .u8) (w0 := W0) W0.heap.size rfl (.tmp 29) (.tmp 36) 22 5 (.int .u8 0) 1 rfl Tryd.underlying22 info5 rfl (by decide) (by omega) (.slice A q c) (r ++ 128 :: List.replicate (padZ r.length) 0 ++ (lenN N).take 6) ((lenN N).getD 6 0) [.int .u8 ((lenN N).getD 6 0)] (fun _ => True) (fun _ => False) rfl rfl rfl (fun _ hk => hk.elim) (fun _ _ => trivial) HO.out HB.out HB.out.size (by have := HP.out.1; have := HR64.out; simp; omega) ?_
            intro v1 w1 ho hb hg hat
            obtain ⟨A1, c1, rfl⟩ := Kd.R_slice ho
            rw [List.append_assoc _ _ [_], ← HGK.out] at ho ⊢
            have hll : (r ++ 128 :: List.replicate (padZ r.length) (0 : Int) ++ (lenN N).take (6 + 1)).length = q + 1 := by rw [HQK.out, List.length_append, List.length_take, HML.out]; simp; omega
            rw [hll] at ho ⊢
            have HO1 := Aside0.mk ho
            have HB1 := Aside0.mk hb
            clear ho hb hg hat hll HO HB
            go_wp2
            exact ⟨⟨A1, q + 1, c1, 6 + 1, rfl, by omega, rfl, by have := HQK.out; omega, HO1, HB1⟩, by have := HQK.out; simp [lenOf]; omega⟩
          · replace hv5 : _ = Value.int .i64 0 := hv5
            subst hv5
            repeat ((fail_if_success (with_reducible refine gate_dst (N := 37) rfl ?_)); (first | go_values | go_guarded | go_step | go_upon | go_back))
            have h7e : (lenN N).getD 7 0 = N % 256 := by simp [lenN]
            refine Kd.R_append (Kd.int .u8) (w0 := W0) W0.heap.size rfl (.tmp 29) (.tmp 36) 22 5 (.int .u8 0) 1 rfl Tryd.underlying22 info5 rfl (by decide) (by omega) (.slice A q c) (r ++ 128 :: List.replicate (padZ r.length) 0 ++ (lenN N).take 7) (N % 256) [.int .u8 (N % 256)] (fun _ => True) (fun _ => False) rfl rfl rfl (fun _ hk => hk.elim) (fun _ _ => trivial) HO.out HB.out HB.out.size (by have := HP.out.1; have := HR64.out; simp; omega) ?_
            intro v1 w1 ho hb hg hat
            obtain ⟨A1, c1, rfl⟩ := Kd.R_slice ho
            rw [List.append_assoc _ _ [_], ← h7e, ← HGK.out] at ho ⊢
            have hll : (r ++ 128 :: List.replicate (padZ r.length) (0 : Int) ++ (lenN N).take (7 + 1)).length = q + 1 := by rw [HQK.out, List.length_append, List.length_take, HML.out]; simp; omega
            rw [hll] at ho ⊢
            have HO1 := Aside0.mk ho
            have HB1 := Aside0.mk hb
            clear ho hb hg hat hll HO HB
            go_wp2
            exact ⟨⟨A1, q + 1, c1, 7 + 1, rfl, by omega, rfl, by have := HQK.out; omega, HO1, HB1⟩, by have := HQK.out; simp [lenOf]; omega⟩
        · have hk88 : k = 8 := by omega
          subst hk88
          replace hv5 : _ = Value.int .i64 (-1) := hv5
          subst hv5
          have hdone : (lenN N).take 8 = lenN N := List.take_of_length_le (by rw [HML.out]; exact Nat.le_refl _)
          have hall : r ++ 128 :: List.replicate (padZ r.length) 0 ++ (lenN N).take 8 = r ++ tailA r.length m := by
            rw [hdone, HNN.out, tailA, List.append_assoc]
          have hqq : q = (r ++ tailA r.length m).length := by rw [List.length_append, tail_length]; have := HQK.out; omega
          have ho := HO.out
          rw [hall] at ho
          subst hqq
          have hmod : (r ++ tailA r.length m).length % 64 = 0 := by rw [List.length_append, tail_length]; have := HP.out.2.1; omega
          have hl200 : (r ++ tailA r.length m).length ≤ 200 := by rw [List.length_append, tail_length]; have := HP.out.1; have := HR64.out; omega
          have hce : comeA [h0, h1', h2', h3, h4, h5, h6, h7] (r ++ tailA r.length m) = comeA [h0, h1', h2', h3, h4, h5, h6, h7] (r ++ tailA r.length m) := rfl
          have hend : endA [h0, h1', h2', h3, h4, h5, h6, h7] r m = digestA (comeA [h0, h1', h2', h3, h4, h5, h6, h7] (r ++ tailA r.length m)).1 := rfl
          have HEND := Aside0.mk hend
          have HCL := Aside0.mk (Kd.R_reads' ho).2.1
          have HF := Aside0.mk (Kd.F_mono (Kd.R_F (Kd.R_bound ho)) (ok' := fun k => k < wr.heap.size) (fun k hk => hk.2.2.1))
          generalize r ++ tailA r.length m = rr at *
          have HMOD := Aside0.mk hmod
          have HL200 := Aside0.mk hl200
          have HG1 := Aside0.mk (blk_below HQ1.out HB.out)
          have HBW := Aside0.mk (bl HB0.out HB.out)
          have hw1 := blk_lt (blk_below HQ2.out HB.out)
          have HZ1 := Aside0.mk (blk_below HQ2.out HB.out)
          clear ho hdone hall hmod hl200 hce hend HO HB HNN HML HQK hk8 HP HQ1 HQ2 HB0
          repeat ((first
            | ((with_reducible refine wpList_part_g 31 (.tmp 38) w.heap.size _ ([h0, h1', h2', h3, h4, h5, h6, h7].map (Value.int .u32)) _ _ ?hw rfl ?hx HG1.out Tryd.underlying31 ?hd ?hi ?_); (case hw => rfl); (case hx => rfl); (case hd => rfl); (case hi => rfl))
            | go_values | go_guarded | go_step | go_upon | go_back))
          have HG6 := Aside0.mk (heap_alloc_new wr (.cells #[.int .u32 h0, .int .u32 h1', .int .u32 h2', .int .u32 h3, .int .u32 h4, .int .u32 h5, .int .u32 h6, .int .u32 h7] 31))
          have HZ6 := Aside0.mk (blk_alloc HZ1.out (.cells #[.int .u32 h0, .int .u32 h1', .int .u32 h2', .int .u32 h3, .int .u32 h4, .int .u32 h5, .int .u32 h6, .int .u32 h7] 31))
          have HF6 := Aside0.mk (Kd.F_alloc HF.out (.cells #[.int .u32 h0, .int .u32 h1', .int .u32 h2', .int .u32 h3, .int .u32 h4, .int .u32 h5, .int .u32 h6, .int .u32 h7] 31))
          have HB6 := Aside0.mk (below_alloc HBW.out (.cells #[.int .u32 h0, .int .u32 h1', .int .u32 h2', .int .u32 h3, .int .u32 h4, .int .u32 h5, .int .u32 h6, .int .u32 h7] 31))
          clear HG1 HBW HZ1 HF
          generalize wr.heap.size = g6 at *
          generalize wr.alloc (.cells #[.int .u32 h0, .int .u32 h1', .int .u32 h2', .int .u32 h3, .int .u32 h4, .int .u32 h5, .int .u32 h6, .int .u32 h7] 31) = w6 at *
          have HG7 : Aside0 (w6.heap[g6]? = some (.cells ⟨[h0, h1', h2', h3, h4, h5, h6, h7].map (Value.int .u32)⟩ 31 (0, 0))) := ⟨HG6.out⟩
          clear HG6
          go_loopw [3] (fun v3 wr => ∃ (hs r : List Int) (R' : Option Addr) (c' q : Nat), v3 = .slice R' q c' ∧ q = r.length ∧ hs.length = 8 ∧ (comeA hs r).1 = (comeA [h0, h1', h2', h3, h4, h5, h6, h7] rr).1 ∧ r.length ≤ c' ∧ r.length % 64 = 0 ∧ r.length ≤ 200 ∧ Aside0 (wr.heap[g6]? = some (.cells ⟨hs.map (Value.int .u32)⟩ 31 (0, 0))) ∧ Aside0 (wr.heap[w.heap.size + 1]? = some (.cells zeroD 24 (0, 0))) ∧ Aside0 (Kd.F (Kd.int .u8) wr (fun k => k < g6) R' r.length r) ∧ Aside0 (Below w.heap.size w wr)) (fun v3 _ => lenOf v3)
          case atStart => exact ⟨[h0, h1', h2', h3, h4, h5, h6, h7], rr, A, c, _, rfl, rfl, rfl, rfl, HCL.out, HMOD.out, HL200.out, HG7, HZ6, HF6, HB6⟩
          case round =>
            clear HCL HMOD HL200 HG7 HZ6 HF6 HB6
            obtain ⟨hs, r, R', c', q, rfl, rfl, hh8, hce, hrc, hmod, hl200, HG, HZ, HF, HB⟩ := hrel
            obtain ⟨s0, s1, s2, s3, s4, s5, s6, s7, rfl⟩ := eight hh8
            have hl63 : (r.length : Int) ≤ 9223372036854775807 := by omega
            have HCE := Aside0.mk hce
            have HRC := Aside0.mk hrc
            have HMOD := Aside0.mk hmod
            have HL200 := Aside0.mk hl200
            clear hh8 hce hrc hmod
            by_cases hlt : 0 < r.length
            · have hd1 : decide (0 < r.length) = true := decide_eq_true hlt
              have hle : 64 ≤ r.length := by have := HMOD.out; omega
              have hnlt : ¬ r.length < 64 := by omega
              obtain ⟨i0, hi0, _, hsz0', _⟩ := info_parts info5
              obtain ⟨hcut1, _, _⟩ := print_take_of (P := Tryd.prog) (Value.int .u8) 0 22 5 .i64 Tryd.underlying22 hi0 hsz0' R' c' r 64 (by omega) (by omega) HRC.out
              have hl64 : (r.take 64).length = 64 := by rw [List.length_take]; omega
              rw [show (List.take (Int.toNat 64) r).length = 64 from hl64] at hcut1
              have hcut2 : ∀ W, (Instr.slice 22 (.slice R' r.length c') (some (.int .i64 64)) none none).run Tryd.prog W = .ok (.slice (if c' = 64 then R' else R'.map (·.add 64)) (r.length - 64) (c' - 64)) W := fun W => run_cut_from (P := Tryd.prog) 22 5 Tryd.underlying22 hi0 hsz0' R' r.length c' 64 hle W
              have hF1 := Kd.F_take HF.out hle
              have hF2 := Kd.F_cut HF.out hle HRC.out
              rw [hl64] at hF1
              simp only [Kd.int, Kd.scalar, Nat.mul_one] at hF2
              generalize hR2 : (if c' = 64 then R' else R'.map (·.add 64)) = R2 at hcut2 hF2
              have hdl : (r.drop 64).length = r.length - 64 := List.length_drop
              rw [comeA_step hnlt] at HCE
              obtain ⟨t0, t1, t2, t3, t4, t5, t6, t7, ht8⟩ := eight (turnA_length8 (hs := [s0, s1, s2, s3, s4, s5, s6, s7]) rfl (r.take 64))
              rw [ht8] at HCE
              have HT8 := Aside0.mk ht8
              have HF1 := Aside0.mk hF1
              have HF2 := Aside0.mk hF2
              have HD := Aside0.mk hdl
              have HL := Aside0.mk hle
              clear hR2 hF1 hF2 hdl hle hi0 hsz0' hlt hnlt HF ht8
              have HT1 := Aside0.mk (fun (W : World) (hF : Kd.F (Kd.int .u8) W (fun k => k < g6) R' 64 (r.take 64)) => refTurn_any R' c' (r.take 64) [s0, s1, s2, s3, s4, s5, s6, s7] hl64 rfl W (Kd.F_now hF) (by have := HRC.out; have := HL.out; omega))
              clear hl64
              go_wp2
              refine start_ (n := 5) (S := fun w' => w'.heap[g6]? = some (.cells ⟨[s0, s1, s2, s3, s4, s5, s6, s7].map (Value.int .u32)⟩ 31 (0, 0)) ∧ w'.heap[w.heap.size + 1]? = some (.cells zeroD 24 (0, 0)) ∧ Kd.F (Kd.int .u8) w' (fun k => k < g6) R' 64 (r.take 64) ∧ Kd.F (Kd.int .u8) w' (fun k => k < g6) R2 (r.drop 64).length (r.drop 64) ∧ Below w.heap.size w w') (ds := [4]) #[false, false, false, false, false] (by kernel_rfl) rfl rfl ⟨blk_drew HG.out, blk_drew HZ.out, Kd.F_drew HF1.out, Kd.F_drew HF2.out, below_drew HB.out⟩ (fun hHeld => ?_)
              refine take_ (i := 0) (N := (some 43)) (v := ?_) (a' := ?_) #[true, false, false, false, false] rfl rfl (by kernel_rfl) (fun _ _ _ h => h) (Or.inl ⟨by rfl, ?_⟩) hHeld ?_ ?_
              rotate_left
              · rintro w' ⟨z0, z1, z2, z3, z4⟩
                refine exec_load (ty := 31) (x := .tmp 6) ?_ ?_ z0 Tryd.underlying31 rfl rfl
                · rfl
                · rfl
              rotate_left
              · simp only [Act.put, List.setIfInBounds_toArray, List.set_cons_zero, List.set_cons_succ, i64_w, i32_w]
                rfl
              refine pure_ (i := 1) (N := (some 44)) (v := ?_) (a' := ?_) #[true, true, false, false, false] rfl rfl (by kernel_rfl) (fun _ _ _ h => h) (Or.inl ⟨by rfl, ?_⟩) ?_ ?_
              rotate_left
              · intro w'
                go_simp
                with_reducible rfl
              rotate_left
              · simp only [Act.put, List.setIfInBounds_toArray, List.set_cons_zero, List.set_cons_succ, i64_w, i32_w]
                rfl
              refine pure_ (i := 2) (N := (some 45)) (v := ?_) (a' := ?_) #[true, true, true, false, false] rfl rfl (by kernel_rfl) (fun _ _ _ h => h) (Or.inl ⟨by rfl, ?_⟩) ?_ ?_
              rotate_left
              · intro w'
                go_simp
                with_reducible rfl
              rotate_left
              · simp only [Act.put, List.setIfInBounds_toArray, List.set_cons_zero, List.set_cons_succ, i64_w, i32_w]
                rfl
              refine one_ (i := 3) (N := (some 46)) #[true, true, true, true, false] rfl rfl (by kernel_rfl) (by decide) (fun K hK => ?_)
              refine goes_ Tryd.func29 (by kernel_rfl) rfl #[.agg ⟨[s0, s1, s2, s3, s4, s5, s6, s7].map (Value.int .u32)⟩, .slice R' 64 c'] (by rfl) rfl rfl (by (try simp only [List.map_toArray, List.map_cons, List.map_nil]); first | done | rfl) ?_
              refine (HT1.out _ hHeld.2.2.1).mono ?_
              rintro e w' ⟨he, hb⟩
              rw [HT8.out] at he
              subst he
              refine ⟨_, rfl, ?_⟩
              refine hK.out _ _ ⟨blk_below hHeld.1 hb, blk_below hHeld.2.1 hb, Kd.F_below hHeld.2.2.1 hb, Kd.F_below hHeld.2.2.2.1 hb, bl hHeld.2.2.2.2 hb⟩ (fun hHeld => ?_)
              clear hK K
              refine norm_ (a' := ?_) ?_ ?_
              rotate_left
              · show Act.put _ (some 46) _ = _
                simp only [Act.put, List.setIfInBounds_toArray, List.set_cons_zero, List.set_cons_succ, i64_w, i32_w]
                rfl
              refine last_ (i := 4) (N := none) #[true, true, true, true, true] rfl rfl (by kernel_rfl) (by decide) (fun K hK => ?_)
              refine ite_wanted rfl ?_
              refine op_store 31 (.tmp 6) (.tmp 46) g6 _ _ ⟨[t0, t1, t2, t3, t4, t5, t6, t7].map (Value.int .u32)⟩ rfl rfl rfl hHeld.1 rfl rfl (one_u32 [t0, t1, t2, t3, t4, t5, t6, t7]) ?_
              intro w7 q1 q2 q3 q4
              refine hK.out _ _ ?_
              clear hK K
              refine done_ (by kernel_rfl) ?_
              have HG7 := Aside0.mk q1
              have HZ7 := Aside0.mk ((q2 (w.heap.size + 1) (by omega)).trans hHeld.2.1)
              have HF7 := Aside0.mk (Kd.F_step hHeld.2.2.2.1 (fun k hk _ => q2 k (by omega)))
              have HB7 := Aside0.mk (q3 _ _ hHeld.2.2.2.2 (by omega))
              clear q1 q2 q3 q4 hHeld HG HZ HF1 HF2 HB
              go_wp2
              exact ⟨⟨[t0, t1, t2, t3, t4, t5, t6, t7], r.drop 64, R2, c' - 64, _, rfl, HD.out.symm, rfl, HCE.out, by rw [HD.out]; have := HRC.out; omega, by rw [HD.out]; have := HMOD.out; have := HL.out; omega, by rw [HD.out]; omega, HG7, HZ7, HF7, HB7⟩, by have := HL.out; simp [lenOf]; omega⟩
            · have hd1 : decide (0 < r.length) = false := decide_eq_false hlt
              have hnil : r = [] := List.length_eq_zero_iff.1 (by omega)
              subst hnil
              have hce := HCE.out
              rw [comeA_nil] at hce
              have HCE1 : Aside0 ([s0, s1, s2, s3, s4, s5, s6, s7] = (comeA [h0, h1', h2', h3, h4, h5, h6, h7] rr).1) := ⟨hce⟩
              clear hce HCE hlt hl200 HF HMOD HL200 HRC hl63
              go_wp2
              have hg67 := blk_lt HG.out
              have hz67 := blk_lt HZ.out
              have HN := Aside0.mk (heap_alloc_new wr (.cells zeroD 24))
              have HG8 := Aside0.mk (blk_alloc HG.out (.cells zeroD 24))
              have HZ8 := Aside0.mk (blk_alloc HZ.out (.cells zeroD 24))
              have HB8 := Aside0.mk (below_alloc HB.out (.cells zeroD 24))
              have hlow : w.heap.size < wr.heap.size := by omega
              clear HG HZ HB
              generalize wr.heap.size = g7 at *
              generalize wr.alloc (.cells zeroD 24) = w8 at *
              have hds : Aside0 ((digestA [s0, s1, s2, s3, s4, s5, s6, s7]).length = 32) := ⟨digestA_length _⟩
              have HN8 : Aside0 (w8.heap[g7]? = some (.cells (fillD (digestA [s0, s1, s2, s3, s4, s5, s6, s7]) 0) 24 (0, 0))) := ⟨HN.out⟩
              clear HN
              go_loopw [8] (fun i wr => ∃ k : Nat, i = .int .i64 k ∧ k ≤ 32 ∧ Aside0 (wr.heap[g6]? = some (.cells ⟨[s0, s1, s2, s3, s4, s5, s6, s7].map (Value.int .u32)⟩ 31 (0, 0))) ∧ Aside0 (wr.heap[w.heap.size + 1]? = some (.cells zeroD 24 (0, 0))) ∧ Aside0 (wr.heap[g7]? = some (.cells (fillD (digestA [s0, s1, s2, s3, s4, s5, s6, s7]) k) 24 (0, 0))) ∧ Aside0 (Below w.heap.size w wr)) (fun i _ => 32 - (intOf i).toNat)
              case atStart => exact ⟨0, rfl, by omega, HG8, HZ8, HN8, HB8⟩
              case round =>
                clear HG8 HZ8 HN8 HB8
                obtain ⟨k, rfl, hk, HG, HZ, HD, HB⟩ := hrel
                by_cases hk32 : k < 32
                · obtain ⟨x0, x1, x2, x3, x4, x5, x6, x7⟩ := cells8b HG.out
                  have hset := blk_set HD.out k (.int .u8 ((digestA [s0, s1, s2, s3, s4, s5, s6, s7]).getD k 0))
                  rw [fillD_set hds.out hk32] at hset
                  have hsum := (Below.heap_setCell wr ⟨g7, k, none⟩ (.int .u8 ((digestA [s0, s1, s2, s3, s4, s5, s6, s7]).getD k 0)) g6 (by simp; omega)).trans HG.out
                  have hzer := (Below.heap_setCell wr ⟨g7, k, none⟩ (.int .u8 ((digestA [s0, s1, s2, s3, s4, s5, s6, s7]).getD k 0)) (w.heap.size + 1) (by simp; omega)).trans HZ.out
                  have hbel := HB.out.setCell (p := ⟨g7, k, none⟩) (by simp; omega) (.int .u8 ((digestA [s0, s1, s2, s3, s4, s5, s6, s7]).getD k 0))
                  obtain ⟨v0, hcd⟩ : ∃ v0, wr.cell? ⟨g7, k, none⟩ = some v0 := by
                    have hsz : k < (fillD (digestA [s0, s1, s2, s3, s4, s5, s6, s7]) k).size := by simp [fillD, hds.out]; omega
                    exact ⟨_, (blk_cell HD.out k).trans (Array.getElem?_eq_getElem hsz)⟩
                  have hfd := blk_frozen HD.out k
                  have HSET := Aside0.mk hset
                  have H34 := Aside0.mk hsum
                  have HZER := Aside0.mk hzer
                  have HBEL := Aside0.mk hbel
                  clear hset hsum hzer hbel HG HZ HD HB
                  rcases thirty_lt hk32 with rfl | rfl | rfl | rfl | rfl | rfl | rfl | rfl | rfl | rfl | rfl | rfl | rfl | rfl | rfl | rfl | rfl | rfl | rfl | rfl | rfl | rfl | rfl | rfl | rfl | rfl | rfl | rfl | rfl | rfl | rfl | rfl
                  · go_wp2
                    exact ⟨⟨0 + 1, rfl, by omega, H34, HZER, HSET, HBEL⟩, by simp [intOf]⟩
                  · go_wp2
                    exact ⟨⟨1 + 1, rfl, by omega, H34, HZER, HSET, HBEL⟩, by simp [intOf]⟩
                  · go_wp2
                    exact ⟨⟨2 + 1, rfl, by omega, H34, HZER, HSET, HBEL⟩, by simp [intOf]⟩
                  · have e : (digestA [s0, s1, s2, s3, s4, s5, s6, s7]).getD 3 0 = s0 % 256 := by simp [digestA]
                    rw [e] at H34 HSET HZER HBEL
                    go_wp2
                    exact ⟨⟨3 + 1, rfl, by omega, H34, HZER, HSET, HBEL⟩, by simp [intOf]⟩
                  · go_wp2
                    exact ⟨⟨4 + 1, rfl, by omega, H34, HZER, HSET, HBEL⟩, by simp [intOf]⟩
                  · go_wp2
                    exact ⟨⟨5 + 1, rfl, by omega, H34, HZER, HSET, HBEL⟩, by simp [intOf]⟩
                  · go_wp2
                    exact ⟨⟨6 + 1, rfl, by omega, H34, HZER, HSET, HBEL⟩, by simp [intOf]⟩
                  · have e : (digestA [s0, s1, s2, s3, s4, s5, s6, s7]).getD 7 0 = s1 % 256 := by simp [digestA]
                    rw [e] at H34 HSET HZER HBEL
                    go_wp2
                    exact ⟨⟨7 + 1, rfl, by omega, H34, HZER, HSET, HBEL⟩, by simp [intOf]⟩
                  · go_wp2
                    exact ⟨⟨8 + 1, rfl, by omega, H34, HZER, HSET, HBEL⟩, by simp [intOf]⟩
                  · go_wp2
                    exact ⟨⟨9 + 1, rfl, by omega, H34, HZER, HSET, HBEL⟩, by simp [intOf]⟩
                  · go_wp2
                    exact ⟨⟨10 + 1, rfl, by omega, H34, HZER, HSET, HBEL⟩, by simp [intOf]⟩
                  · have e : (digestA [s0, s1, s2, s3, s4, s5, s6, s7]).getD 11 0 = s2 % 256 := by simp [digestA]
                    rw [e] at H34 HSET HZER HBEL
                    go_wp2
                    exact ⟨⟨11 + 1, rfl, by omega, H34, HZER, HSET, HBEL⟩, by simp [intOf]⟩
                  · go_wp2
                    exact ⟨⟨12 + 1, rfl, by omega, H34, HZER, HSET, HBEL⟩, by simp [intOf]⟩
                  · go_wp2
                    exact ⟨⟨13 + 1, rfl, by omega, H34, HZER, HSET, HBEL⟩, by simp [intOf]⟩
                  · go_wp2
                    exact ⟨⟨14 + 1, rfl, by omega, H34, HZER, HSET, HBEL⟩, by simp [intOf]⟩
                  · have e : (digestA [s0, s1, s2, s3, s4, s5, s6, s7]).getD 15 0 = s3 % 256 := by simp [digestA]
                    rw [e] at H34 HSET HZER HBEL
                    go_wp2
                    exact ⟨⟨15 + 1, rfl, by omega, H34, HZER, HSET, HBEL⟩, by simp [intOf]⟩
                  · go_wp2
                    exact ⟨⟨16 + 1, rfl, by omega, H34, HZER, HSET, HBEL⟩, by simp [intOf]⟩
                  · go_wp2
                    exact ⟨⟨17 + 1, rfl, by omega, H34, HZER, HSET, HBEL⟩, by simp [intOf]⟩
                  · go_wp2
                    exact ⟨⟨18 + 1, rfl, by omega, H34, HZER, HSET, HBEL⟩, by simp [intOf]⟩
                  · have e : (digestA [s0, s1, s2, s3, s4, s5, s6, s7]).getD 19 0 = s4 % 256 := by simp [digestA]
                    rw [e] at H34 HSET HZER HBEL
                    go_wp2
                    exact ⟨⟨19 + 1, rfl, by omega, H34, HZER, HSET, HBEL⟩, by simp [intOf]⟩
                  · go_wp2
                    exact ⟨⟨20 + 1, rfl, by omega, H34, HZER, HSET, HBEL⟩, by simp [intOf]⟩
                  · go_wp2
                    exact ⟨⟨21 + 1, rfl, by omega, H34, HZER, HSET, HBEL⟩, by simp [intOf]⟩
                  · go_wp2
                    exact ⟨⟨22 + 1, rfl, by omega, H34, HZER, HSET, HBEL⟩, by simp [intOf]⟩
                  · have e : (digestA [s0, s1, s2, s3, s4, s5, s6, s7]).getD 23 0 = s5 % 256 := by simp [digestA]
                    rw [e] at H34 HSET HZER HBEL
                    go_wp2
                    exact ⟨⟨23 + 1, rfl, by omega, H34, HZER, HSET, HBEL⟩, by simp [intOf]⟩
                  · go_wp2
                    exact ⟨⟨24 + 1, rfl, by omega, H34, HZER, HSET, HBEL⟩, by simp [intOf]⟩
                  · go_wp2
                    exact ⟨⟨25 + 1, rfl, by omega, H34, HZER, HSET, HBEL⟩, by simp [intOf]⟩
                  · go_wp2
                    exact ⟨⟨26 + 1, rfl, by omega, H34, HZER, HSET, HBEL⟩, by simp [intOf]⟩
                  · have e : (digestA [s0, s1, s2, s3, s4, s5, s6, s7]).getD 27 0 = s6 % 256 := by simp [digestA]
                    rw [e] at H34 HSET HZER HBEL
                    go_wp2
                    exact ⟨⟨27 + 1, rfl, by omega, H34, HZER, HSET, HBEL⟩, by simp [intOf]⟩
                  · go_wp2
                    exact ⟨⟨28 + 1, rfl, by omega, H34, HZER, HSET, HBEL⟩, by simp [intOf]⟩
                  · go_wp2
                    exact ⟨⟨29 + 1, rfl, by omega, H34, HZER, HSET, HBEL⟩, by simp [intOf]⟩
                  · go_wp2
                    exact ⟨⟨30 + 1, rfl, by omega, H34, HZER, HSET, HBEL⟩, by simp [intOf]⟩
                  · have e : (digestA [s0, s1, s2, s3, s4, s5, s6, s7]).getD 31 0 = s7 % 256 := by simp [digestA]
                    rw [e] at H34 HSET HZER HBEL
                    go_wp2
                    exact ⟨⟨31 + 1, rfl, by omega, H34, HZER, HSET, HBEL⟩, by simp [intOf]⟩
                · have hk32' : k = 32 := by omega
                  subst hk32'
                  have HDD : Aside0 (wr.heap[g7]? = some (.cells ⟨(digestA [s0, s1, s2, s3, s4, s5, s6, s7]).map (Value.int .u8)⟩ 24 (0, 0))) := ⟨by rw [← fillD_all hds.out]; exact HD.out⟩
                  have hone := one_u8 (digestA [s0, s1, s2, s3, s4, s5, s6, s7])
                  have hsz : ((digestA [s0, s1, s2, s3, s4, s5, s6, s7]).map (Value.int .u8)).length = 32 := by simp [digestA_length]
                  generalize hvs : (digestA [s0, s1, s2, s3, s4, s5, s6, s7]).map (Value.int .u8) = vs at HDD hone hsz
                  have HVS := Aside0.mk hvs
                  have HON := Aside0.mk hone
                  have hi : (Tryd.prog.info? 24).map (·.size) = some (⟨vs⟩ : Array Value).size := by
                    rw [show (⟨vs⟩ : Array Value).size = 32 from hsz]
                    rfl
                  have hzs : zeroD.size = (⟨vs⟩ : Array Value).size := by rw [show (⟨vs⟩ : Array Value).size = 32 from hsz]; rfl
                  clear hvs hone HD
                  repeat (first
                    | ((with_reducible refine wpList_load 24 (.tmp 7) g7 _ _ _ rfl rfl ?hx HDD.out Tryd.underlying24 ?hd hi ?_); (case hx => rfl); (case hd => rfl))
                    | ((with_reducible refine wpList_store 24 (.tmp 2) (.tmp 66) (w.heap.size + 1) _ _ ⟨vs⟩ rfl rfl ?hx ?hy HZ.out hzs hi HON.out ?_); (case hx => rfl); (case hy => rfl); intro w9 q1 q2 q3 q4; have HG1 := Aside0.mk q1; have HG3 := Aside0.mk (q3 w.heap.size w HB.out (by omega)); clear q1 q2 q3 q4)
                    | go_values | go_guarded | go_step | go_upon | go_back)
                  refine bodyPost_ret (results_single rfl (.cell (w.heap.size + 1) _ _ (0, 0) _ rfl HG1.out Tryd.underlying24 rfl hi .nil)) rfl ?_
                  exact ⟨by rw [HEND.out, ← HCE1.out, HVS.out], HG3.out⟩
end Go.Proofs.YtfijclinefmbfaaDoor
