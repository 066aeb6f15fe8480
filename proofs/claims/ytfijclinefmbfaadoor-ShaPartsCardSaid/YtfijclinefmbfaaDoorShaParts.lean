/-
ShaParts: the law's walk.
-/
import Derived.Test.YtfijclinefmbfaaDoorShaBig
namespace Go.Proofs.YtfijclinefmbfaaDoor
open Go.RowKit Go.Proofs.YtfijclinefmbfaaDoorW.PrintWords Go.Proofs.YtfijclinefmbfaaDoorW.PrintLast Go.Proofs.YtfijclinefmbfaaDoorW.PrintMore Go.Proofs.YtfijclinefmbfaaDoor.PAll
set_option linter.unusedVariables false
set_option linter.unusedSimpArgs false

set_option maxHeartbeats 40000000 in
set_option maxRecDepth 100000 in
theorem parts_small (hs : List Int) (R : Option Addr) (rc : Nat) (r : List Int) (m : Int) (A : Option Addr) (ca : Nat) (la : List Int) (B : Option Addr) (cb : Nat) (lb : List Int) (w : World) (hh : hs.length = 8) (hR : Kd.C (Kd.int .u8) w R r.length r) (hrc : r.length ≤ rc) (hm : 0 ≤ m) (hA : Kd.C (Kd.int .u8) w A la.length la) (hca : la.length ≤ ca) (hB : Kd.C (Kd.int .u8) w B lb.length lb) (hcb : lb.length ≤ cb) (hr : r.length ≤ 500) (ha : la.length ≤ 500) (hb : lb.length ≤ 500) (hk : Ktab w) :
    Calls Tryd.prog 6 #[.agg (sumC hs R r.length rc m), .slice A la.length ca, .slice B lb.length cb] w fun e w' => e = .returned (.bool true) ∧ Below w.heap.size w w' := by
  have HG0 := Aside0.mk (heap_alloc_new w (.cells (sumC hs R r.length rc m) 34))
  have HB0 := Aside0.mk (below_alloc (Below.refl w.heap.size w) (.cells (sumC hs R r.length rc m) 34))
  have hc8 : (w.alloc (.cells (sumC hs R r.length rc m) 34)).cell? ⟨w.heap.size, 8, none⟩ = some (.slice R r.length rc) := (blk_cell HG0.out 8).trans (sum_cell8 _ _ _ _ hh)
  have HC8 := Aside0.mk hc8
  have HK := Aside0.mk hk
  have HRr := Aside0.mk hR
  have HRC := Aside0.mk hrc
  have HM := Aside0.mk hm
  have HA := Aside0.mk hA
  have HBb := Aside0.mk hB
  have HCA := Aside0.mk hca
  have HCB := Aside0.mk hcb
  have HLR := Aside0.mk hr
  have HLA := Aside0.mk ha
  have HLB := Aside0.mk hb
  have d0 : decide ((500 : Int) < (r.length : Int)) = false := decide_eq_false (by omega)
  have d1 : decide ((500 : Int) < (la.length : Int)) = false := decide_eq_false (by omega)
  have d2 : decide ((500 : Int) < (lb.length : Int)) = false := decide_eq_false (by omega)
  have HP1 := Aside0.mk (fun h => parts_same (hs := hs) (r := r) (a := la) (b := lb) hm h)
  have HP2 := Aside0.mk (fun h => parts_bad (hs := hs) (r := r) (a := la) (b := lb) hm h (by omega))
  have HP3 := Aside0.mk (moreE_cases r.length m la.length)
  have HP4 := Aside0.mk (fun (h : moreE (moreS hs r m la).2.1.length (moreS hs r m la).2.2 lb.length = 0) => moreS_check (hs := (moreS hs r m la).1) h (moreS_m hm))
  have hh1 := moreS_length hh r m la
  have hr1 : (moreS hs r m la).2.1.length ≤ 64 := by rcases moreS_rest (hs := hs) (r := r) (m := m) (l := la) with h | h <;> simp_all <;> omega
  have hm1 := moreS_m (hs := hs) (r := r) (l := la) hm
  have hh3 := moreS_length hh r m (la ++ lb)
  have hr3 : (moreS hs r m (la ++ lb)).2.1.length ≤ 64 := by rcases moreS_rest (hs := hs) (r := r) (m := m) (l := la ++ lb) with h | h <;> simp_all <;> omega
  have hm3 := moreS_m (hs := hs) (r := r) (l := la ++ lb) hm
  generalize hE1 : moreE r.length m la.length = E1 at *
  generalize hS1 : moreS hs r m la = S1 at *
  have hh2 := moreS_length hh1 S1.2.1 S1.2.2 lb
  have hr2 : (moreS S1.1 S1.2.1 S1.2.2 lb).2.1.length ≤ 64 := by rcases moreS_rest (hs := S1.1) (r := S1.2.1) (m := S1.2.2) (l := lb) with h | h <;> simp_all <;> omega
  have hm2 := moreS_m (hs := S1.1) (r := S1.2.1) (l := lb) hm1
  generalize hE2 : moreE S1.2.1.length S1.2.2 lb.length = E2 at *
  generalize hS2 : moreS S1.1 S1.2.1 S1.2.2 lb = S2 at *
  generalize hE3 : moreE r.length m (la ++ lb).length = E3 at *
  generalize hS3 : moreS hs r m (la ++ lb) = S3 at *
  obtain ⟨hs1, r1, m1⟩ := S1
  obtain ⟨hs2, r2, m2⟩ := S2
  obtain ⟨hs3, r3, m3⟩ := S3
  dsimp only at hE2 hS2 hh1 hh2 hh3 hr1 hr2 hr3 hm1 hm2 hm3 HP4
  have HE1 := Aside0.mk hE1
  have HE2 := Aside0.mk hE2
  have HE3 := Aside0.mk hE3
  have HS1 := Aside0.mk hS1
  have HS2 := Aside0.mk hS2
  have HS3 := Aside0.mk hS3
  have HH3 := Aside0.mk hh3
  have HR1 := Aside0.mk hr1
  have HR2 := Aside0.mk hr2
  have HR3 := Aside0.mk hr3
  have HM1 := Aside0.mk hm1
  have HM2 := Aside0.mk hm2
  have HM3 := Aside0.mk hm3
  clear hc8 hk hR hrc hm hA hca hB hcb hr ha hb hE1 hE2 hE3 hS1 hS2 hS3 hr1 hr2 hr3 hm1 hm2 hm3
  go_enter Tryd.func6, Tryd.ntmps6
  repeat (first
    | (go_at_call 20; (with_reducible refine (alive_calls _ (HK.out.below HB0.out)).mono ?_); rintro e1 w1 ⟨rfl, hb1⟩; have HB1 := Aside0.mk (bl HB0.out hb1); have HG1 := Aside0.mk (blk_below HG0.out hb1); have hc8 : w1.cell? ⟨w.heap.size, 8, none⟩ = some (.slice R r.length rc) := pw_cell_below hb1 HC8.out; clear hb1; dsimp only)
    | ((with_reducible refine wpList_load 34 (.tmp 3) w.heap.size _ _ _ rfl rfl ?hx HG1.out Tryd.underlying34 ?hd ?hi ?_); (case hx => rfl); (case hd => rfl); (case hi => rw [sum_size _ _ _ _ hh]; rfl))
    | (go_at_call 11; (with_reducible refine (more_any _ hs R rc r m A ca la ?hcs hh w1 (Kd.C_below HRr.out HB1.out) HRC.out (Kd.C_below HA.out HB1.out) HCA.out (by have := HLA.out; have := HLR.out; omega) (HK.out.below HB1.out) HM.out).mono ?_); (case hcs => rfl); rintro e3 w3 ⟨R3, c3, rfl, hc3, hr3, hb3⟩; rw [HS1.out] at hc3 hr3 ⊢; rw [HE1.out]; dsimp only at hc3 hr3 ⊢; have HB3 := Aside0.mk (below_alloc (bl HB1.out hb3) (.cells zeroS 34)); have HG3 := Aside0.mk (heap_alloc_new w3 (.cells zeroS 34)); have HT3 := Aside0.mk (blk_alloc (blk_below HG1.out hb3) (.cells zeroS 34)); have hgl := blk_lt (blk_below HG1.out hb3); have HC3 := Aside0.mk hc3; have HF3 := Aside0.mk (Kd.F_alloc (Kd.F_mono (Kd.R_F (Kd.R_bound hr3)) (ok' := fun k => k < w3.heap.size) (fun k hk => hk.2.2.1)) (.cells zeroS 34)); clear hc3 hr3 hb3 HG1)
    | ((with_reducible refine wpList_store 34 (.tmp 8) (.tmp 42) w3.heap.size _ _ (sumC hs1 R3 r1.length c3 m1) rfl rfl ?hx ?hy HG3.out ?hs ?hi ?h1 ?_); (case h1 => exact one_sum _ _ _ rfl rfl); (case hs => rw [sum_size _ _ _ _ hh1]; rfl); (case hx => rfl); (case hy => rfl); (case hi => rw [sum_size _ _ _ _ hh1]; rfl); intro w4 q1 q2 q3 q4; have HG4 := Aside0.mk q1; have HT4 := Aside0.mk ((q2 w.heap.size (by omega)).trans HT3.out); have HF4 := Aside0.mk (Kd.F_step HF3.out (fun k hk _ => q2 k (by omega))); have HB4 := Aside0.mk (q3 w.heap.size w HB3.out (by omega)); have hgl8 : w.heap.size < w3.heap.size := hgl; generalize w3.heap.size = g8 at *; clear q1 q2 q3 q4 HG3 HB3 HF3 HT3 hgl)
    | ((with_reducible refine wpList_load 34 (.tmp 8) g8 _ _ _ rfl rfl ?hx HG4.out Tryd.underlying34 ?hd ?hi ?_); (case hx => rfl); (case hd => rfl); (case hi => rw [sum_size _ _ _ _ hh1]; rfl))
    | (go_at_call 11; (with_reducible refine (more_any _ hs1 R3 c3 r1 m1 B cb lb ?hcs hh1 w4 (Kd.F_now HF4.out) HC3.out (Kd.C_below HBb.out HB4.out) HCB.out (by have := HR1.out; have := HLB.out; omega) (HK.out.below HB4.out) HM1.out).mono ?_); (case hcs => rfl); rintro e5 w5 ⟨R5, c5, rfl, hc5, hr5, hb5⟩; rw [HS2.out] at hc5 hr5 ⊢; rw [HE2.out]; dsimp only at hc5 hr5 ⊢; have HB5 := Aside0.mk (below_alloc (bl HB4.out hb5) (.cells zeroS 34)); have HG5 := Aside0.mk (heap_alloc_new w5 (.cells zeroS 34)); have HT5 := Aside0.mk (blk_alloc (blk_below HT4.out hb5) (.cells zeroS 34)); have hgl := blk_lt (blk_below HT4.out hb5); have HC5 := Aside0.mk hc5; have HF5 := Aside0.mk (Kd.F_alloc (Kd.F_mono (Kd.R_F (Kd.R_bound hr5)) (ok' := fun k => k < w5.heap.size) (fun k hk => hk.2.2.1)) (.cells zeroS 34)); clear hc5 hr5 hb5 HT4)
    | ((with_reducible refine wpList_store 34 (.tmp 10) (.tmp 48) w5.heap.size _ _ (sumC hs2 R5 r2.length c5 m2) rfl rfl ?hx ?hy HG5.out ?hs ?hi ?h1 ?_); (case h1 => exact one_sum _ _ _ rfl rfl); (case hs => rw [sum_size _ _ _ _ hh2]; rfl); (case hx => rfl); (case hy => rfl); (case hi => rw [sum_size _ _ _ _ hh2]; rfl); intro w6 q1 q2 q3 q4; have HG6 := Aside0.mk q1; have HT6 := Aside0.mk ((q2 w.heap.size (by omega)).trans HT5.out); have HF6 := Aside0.mk (Kd.F_step HF5.out (fun k hk _ => q2 k (by omega))); have HB6 := Aside0.mk (q3 w.heap.size w HB5.out (by omega)); generalize w5.heap.size = g10 at *; clear q1 q2 q3 q4 HG5 HB5 HF5 HT5 hgl)
    | go_values | go_guarded | go_step | go_upon | go_back)
  have HN := Aside0.mk (below_size HB6.out)
  clear HG4 HF4 HB4 HB0 HB1 HG0 HC8 hc8
  have hBelow6 := fun {W : World} (h : Below w6.heap.size w6 W) => bl HB6.out h
  refine start_ (n := 13) (S := fun w' => Below w6.heap.size w6 w') (ds := []) #[false, false, false, false, false, false, false, false, false, false, false, false, false] (by kernel_rfl) rfl rfl (below_drew (Below.refl _ _)) (fun hHeld => ?_)
  refine take_ (i := 0) (N := (some 51)) (v := ?_) (a' := ?_) #[true, false, false, false, false, false, false, false, false, false, false, false, false] rfl rfl (by kernel_rfl) (fun _ _ _ h => h) (Or.inl ⟨by rfl, ?_⟩) hHeld ?_ ?_
  rotate_left
  · intro w' z
    refine exec_load (ty := 34) (x := .tmp 3) ?_ ?_ (blk_below HT6.out z) Tryd.underlying34 rfl (by rw [sum_size _ _ _ _ hh]; rfl)
    · rfl
    · rfl
  rotate_left
  · simp only [Act.put, List.setIfInBounds_toArray, List.set_cons_zero, List.set_cons_succ, i64_w, i32_w]
    rfl
  refine pure_ (i := 2) (N := (some 53)) (v := ?_) (a' := ?_) #[true, false, true, false, false, false, false, false, false, false, false, false, false] rfl rfl (by kernel_rfl) (fun _ _ _ h => h) (Or.inl ⟨by rfl, ?_⟩) ?_ ?_
  rotate_left
  · intro w'
    go_simp
    with_reducible rfl
  rotate_left
  · simp only [Act.put, List.setIfInBounds_toArray, List.set_cons_zero, List.set_cons_succ, i64_w, i32_w]
    rfl
  refine pure_ (i := 4) (N := (some 55)) (v := ?_) (a' := ?_) #[true, false, true, false, true, false, false, false, false, false, false, false, false] rfl rfl (by kernel_rfl) (fun _ _ _ h => h) (Or.inl ⟨by rfl, ?_⟩) ?_ ?_
  rotate_left
  · intro w'
    go_simp
    with_reducible rfl
  rotate_left
  · simp only [Act.put, List.setIfInBounds_toArray, List.set_cons_zero, List.set_cons_succ, i64_w, i32_w]
    rfl
  refine join_ (σ := Value × Value × Value × Option Addr × Nat × Nat) 2 #[true, true, true, true, true, true, true, true, true, true, true, false, false] (fun s => [(52, s.1), (54, s.2.1), (56, s.2.2.1), (57, .tuple #[.agg (sumC hs3 s.2.2.2.1 r3.length s.2.2.2.2.1 m3), .int .i64 E3]), (50, .tuple #[.agg (sumC hs3 s.2.2.2.1 r3.length s.2.2.2.2.1 m3), .int .i64 E3]), (58, .agg (sumC hs3 s.2.2.2.1 r3.length s.2.2.2.2.1 m3)), (59, .int .i64 E3), (12, .pointer (some ⟨s.2.2.2.2.2, 0, none⟩))]) (fun s w' => Below w6.heap.size w6 w' ∧ w'.heap[s.2.2.2.2.2]? = some (.cells zeroS 34 (0, 0)) ∧ w6.heap.size ≤ s.2.2.2.2.2 ∧ r3.length ≤ s.2.2.2.2.1 ∧ Kd.F (Kd.int .u8) w' (fun k => k ≠ s.2.2.2.2.2) s.2.2.2.1 r3.length r3) ?_ ?_
  · rintro ⟨v52, v54, v56, R7, c7, g12⟩ w7 ⟨hHeld, hz12, hl12, hc7, hF7⟩
    simp only at hz12 hl12 hc7 hF7
    refine norm_ (a' := ?_) ?_ ?_
    rotate_left
    · simp only [putAll, Act.put, List.setIfInBounds_toArray, List.set_cons_zero, List.set_cons_succ, i64_w, i32_w]
      rfl
    refine one_ (i := 11) (N := none) #[true, true, true, true, true, true, true, true, true, true, true, true, false] rfl rfl (by kernel_rfl) (by decide) (fun K hK => ?_)
    refine ite_wanted rfl ?_
    refine op_store 34 (.tmp 12) (.tmp 58) g12 _ _ (sumC hs3 R7 r3.length c7 m3) rfl rfl rfl hz12 (by rw [sum_size _ _ _ _ HH3.out]; rfl) (by rw [sum_size _ _ _ _ HH3.out]; rfl) (one_sum _ _ _ rfl rfl) ?_
    intro w8 q1 q2 q3 q4
    refine hK.out _ _ (q3 _ _ hHeld hl12) (fun hHeld8 => ?_)
    clear hK K
    refine norm_ (a' := ?_) ?_ ?_
    rotate_left
    · show Act.put _ none _ = _
      simp only [Act.put, List.setIfInBounds_toArray, List.set_cons_zero, List.set_cons_succ, i64_w, i32_w]
      rfl
    refine pure_ (i := 12) (N := (some 13)) (v := ?_) (a' := ?_) #[true, true, true, true, true, true, true, true, true, true, true, true, true] rfl rfl (by kernel_rfl) (fun _ _ _ h => h) (Or.inl ⟨by rfl, ?_⟩) ?_ ?_
    rotate_left
    · intro w'
      go_simp
      with_reducible rfl
    rotate_left
    · simp only [Act.put, List.setIfInBounds_toArray, List.set_cons_zero, List.set_cons_succ, i64_w, i32_w]
      rfl
    refine done_ (by kernel_rfl) ?_
    have HG8 := Aside0.mk q1
    have HF8 := Aside0.mk (Kd.F_step hF7 (fun k hk _ => q2 k hk))
    have HB8 := Aside0.mk (hBelow6 hHeld8)
    have HT8 := Aside0.mk (blk_below HT6.out hHeld8)
    have HY8 := Aside0.mk (blk_below HG6.out hHeld8)
    have HFY8 := Aside0.mk (Kd.F_below HF6.out hHeld8)
    have HC7 := Aside0.mk hc7
    clear q1 q2 q3 q4 hHeld8 hHeld hz12 hl12 hc7 hF7 HT6 HG6 HF6
    clear HE1 HE2 HE3 HS1 HS2 HS3 HM3 HR3 HR1 HM1 HC3 HB6 HN hBelow6
    by_cases hbad : E1 ≠ 0 ∨ E2 ≠ 0
    · have hE3 := HP2.out hbad
      have f3 : (E3 != 0) = true := by simpa using hE3
      have HP3' := HP3.out
      clear HP1 HP2 HP3 HP4 HC5 HC7 hE3 HF8 HFY8 HY8 HG8 hh1 hh2 hh3 HH3 HA HBb HCA HCB HLA HLB HRr HRC
      by_cases he1 : E1 = 0
      · obtain rfl := he1
        have f2 : (E2 != 0) = true := by
          rcases hbad with h | h
          · exact absurd rfl h
          · simpa using h
        clear hbad HP3'
        repeat (first | go_values | go_guarded | go_step | go_upon | go_back)
        go_ret
        exact ⟨rfl, HB8.out⟩
      · have f1 : (E1 != 0) = true := by simpa using he1
        have f1' : (E1 == 0) = false := by simpa using he1
        clear hbad
        have hlr : r.length ≤ 9223372036854775807 := by have := HLR.out; omega
        have HLR' := Aside0.mk hlr
        have HQ : Aside0 (E1 = checkA r.length m ∨ E1 = 4) := Aside0.mk (by rcases HP3' with h | h | h; exact absurd h he1; exact .inl h; exact .inr h)
        clear HP3' he1 hlr HLR
        generalize hck : checkA r.length m = ck at *
        have HCK := Aside0.mk hck
        clear hck
        by_cases hq : E1 = ck
        · have f4 : (E1 == ck) = true := by simpa using hq
          clear hq HQ
          repeat (first
            | ((with_reducible refine wpList_load_g 34 (.tmp 3) w.heap.size _ _ _ ?hw rfl ?hx HT8.out Tryd.underlying34 ?hd ?hi ?_); (case hw => rfl); (case hx => rfl); (case hd => rfl); (case hi => rw [sum_size _ _ _ _ hh]; rfl))
            | (go_at_call 16; (with_reducible refine (check_cs _ hs R r.length rc m ?hcs hh HLR'.out HM.out w8).mono ?_); (case hcs => rfl); rintro e9 w9 ⟨rfl, hb9⟩; rw [HCK.out]; have HB9 := Aside0.mk (bl HB8.out hb9); clear hb9; dsimp only)
            | go_values | go_guarded | go_step | go_upon | go_back)
          go_ret
          exact ⟨rfl, HB9.out⟩
        · have f4 : (E1 == ck) = false := by simpa using hq
          have f5 : (E1 == 4) = true := by
            rcases HQ.out with h | h
            · exact absurd h hq
            · simpa using h
          clear hq HQ
          repeat (first
            | ((with_reducible refine wpList_load_g 34 (.tmp 3) w.heap.size _ _ _ ?hw rfl ?hx HT8.out Tryd.underlying34 ?hd ?hi ?_); (case hw => rfl); (case hx => rfl); (case hd => rfl); (case hi => rw [sum_size _ _ _ _ hh]; rfl))
            | (go_at_call 16; (with_reducible refine (check_cs _ hs R r.length rc m ?hcs hh HLR'.out HM.out w8).mono ?_); (case hcs => rfl); rintro e9 w9 ⟨rfl, hb9⟩; rw [HCK.out]; have HB9 := Aside0.mk (bl HB8.out hb9); clear hb9; dsimp only)
            | go_values | go_guarded | go_step | go_upon | go_back)
          go_ret
          exact ⟨rfl, HB9.out⟩
    · have hE1 : E1 = 0 := Decidable.byContradiction fun h => hbad (.inl h)
      have hE2 : E2 = 0 := Decidable.byContradiction fun h => hbad (.inr h)
      clear hbad
      subst hE1 hE2
      obtain ⟨hE3, hsame⟩ := HP1.out rfl rfl
      subst hE3
      have hck := HP4.out rfl
      simp only [Prod.mk.injEq] at hsame
      obtain ⟨rfl, rfl, rfl⟩ := hsame
      clear HP1 HP2 HP3 HP4 HT8 HH3 hh3 hh1 HRr HRC HA HBb HCA HCB HLA HLB HLR
      have hel : (endA hs3 r3 m3).length = 32 := digestA_length _
      generalize hvs : (endA hs3 r3 m3).map (Value.int .u8) = vs
      have heq := eq_digest hel hvs
      have hone : ∀ v ∈ vs, v.oneCell' = true := by rw [← hvs]; exact one_u8 _
      have hsz2 : vs.length = 32 := by rw [← hvs, List.length_map]; exact hel
      have hi : (Tryd.prog.info? 24).map (·.size) = some (⟨vs⟩ : Array Value).size := by
        rw [show (⟨vs⟩ : Array Value).size = 32 from hsz2]
        rfl
      have hi8 : (Tryd.prog.info? 31).map (·.size) = some (hs3.map (Value.int .u32)).length := by
        rw [List.length_map, hh2]
        rfl
      have hzs : zeroD.size = (⟨vs⟩ : Array Value).size := by rw [show (⟨vs⟩ : Array Value).size = 32 from hsz2]; rfl
      have HVS := Aside0.mk hvs
      have HON := Aside0.mk hone
      have HEQ := Aside0.mk heq
      have HEW := Aside0.mk (eq_words hh2)
      have HCK := Aside0.mk hck
      have HL9 := Aside0.mk (show w.heap.size ≤ w8.heap.size from HB8.out.size)
      clear hvs hone heq hck hsz2 hel
      repeat (first
        | ((with_reducible refine wpList_load 34 (.tmp 10) g10 _ _ _ rfl rfl ?hx HY8.out Tryd.underlying34 ?hd ?hi ?_); (case hx => rfl); (case hd => rfl); (case hi => rw [sum_size _ _ _ _ hh2]; rfl))
        | (go_at_call 13; (with_reducible refine (end_cs _ hs3 R5 c5 r3 m3 ?hcs hh2 w8 (Kd.F_now HFY8.out) HC5.out (HK.out.below HB8.out) HM2.out HCK.out).mono ?_); (case hcs => rfl); rintro e9 w9 ⟨rfl, hb9⟩; rw [HVS.out]; have HB9 := Aside0.mk (below_alloc (bl HB8.out hb9) (.cells zeroD 24)); have HG9 := Aside0.mk (blk_alloc (blk_below HG8.out hb9) (.cells zeroD 24)); have HY9 := Aside0.mk (blk_alloc (blk_below HY8.out hb9) (.cells zeroD 24)); have hg12 := blk_lt (blk_below HG8.out hb9); have hg10 := blk_lt (blk_below HY8.out hb9); have HN9 := Aside0.mk (heap_alloc_new w9 (.cells zeroD 24)); have HF9 := Aside0.mk (Kd.F_alloc (Kd.F_bound (Kd.F_below HF8.out hb9)) (.cells zeroD 24)); have HFY9 := Aside0.mk (Kd.F_alloc (Kd.F_below HFY8.out hb9) (.cells zeroD 24)); have HL := Aside0.mk (show w.heap.size ≤ w9.heap.size from (bl HB8.out hb9).size); clear hb9 HL9; dsimp only)
        | ((with_reducible refine wpList_store 24 (.tmp 14) (.tmp 88) w9.heap.size _ _ ⟨vs⟩ rfl rfl ?hx ?hy HN9.out ?hs hi HON.out ?_); (case hs => exact hzs); (case hx => rfl); (case hy => rfl); intro w10 q1 q2 q3 q4; have HD10 := Aside0.mk q1; have HG10 := Aside0.mk ((q2 g12 (by omega)).trans HG9.out); have HY10 := Aside0.mk ((q2 g10 (by omega)).trans HY9.out); have HF10 := Aside0.mk (Kd.F_step HF9.out (fun k hk _ => q2 k (by have := hk.2; omega))); have HFY10 := Aside0.mk (Kd.F_step HFY9.out (fun k hk _ => q2 k (by omega))); have HB10 := Aside0.mk (q3 w.heap.size w HB9.out HL.out); generalize w9.heap.size = g14 at *; clear q1 q2 q3 q4 HG9 HY9 HN9 HB9 HF9 HFY9 HL)
        | ((with_reducible refine wpList_load 34 (.tmp 12) g12 _ _ _ rfl rfl ?hx HG10.out Tryd.underlying34 ?hd ?hi ?_); (case hx => rfl); (case hd => rfl); (case hi => rw [sum_size _ _ _ _ hh2]; rfl))
        | (go_at_call 13; (with_reducible refine (end_cs _ hs3 R7 c7 r3 m3 ?hcs hh2 w10 (Kd.F_now HF10.out) HC7.out (HK.out.below HB10.out) HM2.out HCK.out).mono ?_); (case hcs => rfl); rintro e11 w11 ⟨rfl, hb11⟩; rw [HVS.out]; have HB11 := Aside0.mk (below_alloc (bl HB10.out hb11) (.cells zeroD 24)); have HG11 := Aside0.mk (blk_alloc (blk_below HG10.out hb11) (.cells zeroD 24)); have HY11 := Aside0.mk (blk_alloc (blk_below HY10.out hb11) (.cells zeroD 24)); have HD11 := Aside0.mk (blk_alloc (blk_below HD10.out hb11) (.cells zeroD 24)); have hg12 := blk_lt (blk_below HG10.out hb11); have hg10 := blk_lt (blk_below HY10.out hb11); have hg14 := blk_lt (blk_below HD10.out hb11); have HN11 := Aside0.mk (heap_alloc_new w11 (.cells zeroD 24)); have HF11 := Aside0.mk (Kd.F_alloc (Kd.F_bound (Kd.F_below HF10.out hb11)) (.cells zeroD 24)); have HFY11 := Aside0.mk (Kd.F_alloc (Kd.F_below HFY10.out hb11) (.cells zeroD 24)); have HL := Aside0.mk (show w.heap.size ≤ w11.heap.size from (bl HB10.out hb11).size); clear hb11; dsimp only)
        | ((with_reducible refine wpList_store 24 (.tmp 16) (.tmp 93) w11.heap.size _ _ ⟨vs⟩ rfl rfl ?hx ?hy HN11.out ?hs hi HON.out ?_); (case hs => exact hzs); (case hx => rfl); (case hy => rfl); intro w12 q1 q2 q3 q4; have HE12 := Aside0.mk q1; have HG12 := Aside0.mk ((q2 g12 (by omega)).trans HG11.out); have HY12 := Aside0.mk ((q2 g10 (by omega)).trans HY11.out); have HD12 := Aside0.mk ((q2 g14 (by omega)).trans HD11.out); have HF12 := Aside0.mk (Kd.F_now (Kd.F_step HF11.out (fun k hk _ => q2 k (by have := hk.2; omega)))); have HFY12 := Aside0.mk (Kd.F_now (Kd.F_step HFY11.out (fun k hk _ => q2 k (by omega)))); have HB12 := Aside0.mk (q3 w.heap.size w HB11.out HL.out); generalize w11.heap.size = g16 at *; clear q1 q2 q3 q4 HG11 HY11 HN11 HB11 HF11 HFY11 HD11 HL; have heq := HEQ.out w12; have hew := HEW.out w12; have hcv := Kd.C_string (P := Tryd.prog) (src := 22) (dst := 9) (c := c7) Tryd.underlying22 Tryd.underlying5 Tryd.underlying9 HF12.out; have hcw := Kd.C_string (P := Tryd.prog) (src := 22) (dst := 9) (c := c5) Tryd.underlying22 Tryd.underlying5 Tryd.underlying9 HFY12.out; have hz8 := (blk_cell HG12.out 8).trans (sum_cell8 R7 r3.length c7 m3 hh2); have hy8 := (blk_cell HY12.out 8).trans (sum_cell8 R5 r3.length c5 m3 hh2); have hz9 := (blk_cell HG12.out 9).trans (sum_cell9 R7 r3.length c7 m3 hh2); have hy9 := (blk_cell HY12.out 9).trans (sum_cell9 R5 r3.length c5 m3 hh2))
        | ((with_reducible refine wpList_load_g 24 (.tmp 14) g14 _ _ _ ?hw rfl ?hx HD12.out Tryd.underlying24 ?hd hi ?_); (case hw => rfl); (case hx => rfl); (case hd => rfl))
        | ((with_reducible refine wpList_load_g 24 (.tmp 16) g16 _ _ _ ?hw rfl ?hx HE12.out Tryd.underlying24 ?hd hi ?_); (case hw => rfl); (case hx => rfl); (case hd => rfl))
        | ((with_reducible refine wpList_part_g 31 (.tmp 114) g10 _ _ _ _ ?hw rfl ?hx HY12.out Tryd.underlying31 ?hd hi8 ?_); (case hw => rfl); (case hx => rfl); (case hd => rfl))
        | ((with_reducible refine wpList_part_g 31 (.tmp 116) g12 _ _ _ _ ?hw rfl ?hx HG12.out Tryd.underlying31 ?hd hi8 ?_); (case hw => rfl); (case hx => rfl); (case hd => rfl))
        | ((with_reducible refine wpList_load_g 34 (.tmp 10) g10 _ _ _ ?hw rfl ?hx HY12.out Tryd.underlying34 ?hd ?hi ?_); (case hw => rfl); (case hx => rfl); (case hd => rfl); (case hi => rw [sum_size _ _ _ _ hh2]; rfl))
        | (go_at_call 16; (with_reducible refine (check_cs _ hs3 R5 r3.length c5 m3 ?hcs hh2 (by have := HR2.out; omega) HM2.out w12).mono ?_); (case hcs => rfl); rintro e13 w13 ⟨rfl, hb13⟩; rw [HCK.out]; have HB13 := Aside0.mk (bl HB12.out hb13); clear hb13; dsimp only)
        | go_values | go_guarded | go_step | go_upon | go_back)
      go_ret
      exact ⟨rfl, HB13.out⟩
  · intro hcont
    refine two_ (i := 1) (j := 10) (Ni := some 52) (Nj := some 12) #[true, true, true, false, true, false, false, false, false, false, false, false, false] #[true, false, true, false, true, false, false, false, false, false, true, false, false] rfl rfl rfl rfl (by kernel_rfl) (by decide) (by decide) (fun K hK => ?_) (fun K hK => ?_)
    · skip
      refine ite_wanted rfl ?_
      go_simp
      obtain ⟨Y1, hY⟩ : ∃ Y, Y = w6.drew.alloc (.cells #[] 5) := ⟨_, rfl⟩
      have hO1 := ownsRow_empty w6.drew 5 w6.heap.size hHeld.size (fun _ => True) trivial (Kd.int .u8)
      have hS := below_alloc hHeld (.cells #[] 5)
      rw [← hY] at hO1 hS
      refine at_world (K := K) hY ?_
      clear hY
      refine hK.out _ _ hS (fun hHeld1 => ?_)
      clear hS
      clear hK K
      replace hHeld := hHeld1
      clear hHeld1
      refine two_ (i := 3) (j := 10) (Ni := some 54) (Nj := some 12) #[true, true, true, true, true, false, false, false, false, false, false, false, false] #[true, true, true, false, true, false, false, false, false, false, true, false, false] rfl rfl rfl rfl (by kernel_rfl) (by decide) (by decide) (fun K hK => ?_) (fun K hK => ?_)
      · skip
        refine Kd.R_append_rows_step (Kd.int .u8) (w0 := w6) w6.heap.size rfl (.tmp 52) (.tmp 53) 22 5 (.int .u8 0) 1 rfl Tryd.underlying22 info5 rfl (by decide) (by omega) (.slice (some ⟨w6.drew.heap.size, 0, none⟩) 0 0) [] la A la.length ca (fun _ => True) (fun _ => False) rfl rfl hO1 (Kd.C_below HA.out (hBelow6 hHeld)) (fun _ _ h => h) (fun _ h => h.elim) (fun _ _ => trivial) hHeld hHeld.size (by have := HLA.out; have := HLB.out; simp; omega) ?_
        intro v3 Y2 ho hb hg hat
        refine hK.out _ _ hb (fun hHeld1 => ?_)
        obtain ⟨A13, c13, rfl⟩ := Kd.R_slice ho
        rw [List.nil_append] at ho ⊢
        have hO3 := ho
        clear ho hg hat hb
        clear hK K
        replace hHeld := hHeld1
        clear hHeld1
        refine two_ (i := 5) (j := 10) (Ni := some 56) (Nj := some 12) #[true, true, true, true, true, true, false, false, false, false, false, false, false] #[true, true, true, true, true, false, false, false, false, false, true, false, false] rfl rfl rfl rfl (by kernel_rfl) (by decide) (by decide) (fun K hK => ?_) (fun K hK => ?_)
        · skip
          refine Kd.R_append_rows_step (Kd.int .u8) (w0 := w6) w6.heap.size rfl (.tmp 54) (.tmp 55) 22 5 (.int .u8 0) 1 rfl Tryd.underlying22 info5 rfl (by decide) (by omega) (.slice A13 la.length c13) la lb B lb.length cb (fun _ => True) (fun _ => False) rfl rfl hO3 (Kd.C_below HBb.out (hBelow6 hHeld)) (fun _ _ h => h) (fun _ h => h.elim) (fun _ _ => trivial) hHeld hHeld.size (by have := HLA.out; have := HLB.out; simp; omega) ?_
          intro v5 Y3 ho hb hg hat
          refine hK.out _ _ hb (fun hHeld1 => ?_)
          obtain ⟨A15, c15, rfl⟩ := Kd.R_slice ho
          rw [List.length_append] at ho ⊢
          have hO5 := ho
          clear ho hg hat hb
          clear hK K
          replace hHeld := hHeld1
          clear hHeld1
          refine two_ (i := 6) (j := 10) (Ni := some 57) (Nj := some 12) #[true, true, true, true, true, true, true, false, false, false, false, false, false] #[true, true, true, true, true, true, false, false, false, false, true, false, false] rfl rfl rfl rfl (by kernel_rfl) (by decide) (by decide) (fun K hK => ?_) (fun K hK => ?_)
          · skip
            refine goes_ Tryd.func11 (by kernel_rfl) rfl #[.agg (sumC hs R r.length rc m), .slice A15 (la.length + lb.length) c15] (by rfl) rfl rfl (by (try simp only [List.map_toArray, List.map_cons, List.map_nil]); first | done | rfl) ?_
            have hcall := more_any _ hs R rc r m A15 c15 (la ++ lb) rfl hh Y3 (Kd.C_below HRr.out (hBelow6 hHeld)) HRC.out (by rw [List.length_append]; exact Kd.F_now (Kd.R_F hO5)) (by rw [List.length_append]; exact (Kd.R_reads' hO5).2.1) (by have := HLA.out; have := HLB.out; have := HLR.out; simp; omega) (HK.out.below (hBelow6 hHeld)) HM.out
            rw [HS3.out, HE3.out, List.length_append] at hcall
            refine hcall.mono ?_
            rintro e Y4 ⟨R7, c7, rfl, hc7, hr7, hb7⟩
            refine ⟨_, rfl, ?_⟩
            dsimp only at hc7 hr7
            have hF7 := Kd.F_mono (Kd.R_F (Kd.R_bound hr7)) (ok' := fun k => k ≠ Y4.heap.size) (fun k hk => by have := hk.2.2.1; omega)
            refine hK.out _ _ (bl hHeld hb7) (fun hHeld1 => ?_)
            clear hcall hr7 hb7
            clear hK K
            replace hHeld := hHeld1
            clear hHeld1
            refine norm_ (a' := ?_) ?_ ?_
            rotate_left
            · show Act.put _ (some 57) _ = _
              simp only [Act.put, List.setIfInBounds_toArray, List.set_cons_zero, List.set_cons_succ, i64_w, i32_w]
              rfl
            refine pure_ (i := 7) (N := (some 50)) (v := ?_) (a' := ?_) #[true, true, true, true, true, true, true, true, false, false, false, false, false] rfl rfl (by kernel_rfl) (fun _ _ _ h => h) (Or.inl ⟨by rfl, ?_⟩) ?_ ?_
            rotate_left
            · intro w'
              go_simp
              with_reducible rfl
            rotate_left
            · simp only [Act.put, List.setIfInBounds_toArray, List.set_cons_zero, List.set_cons_succ, i64_w, i32_w]
              rfl
            refine pure_ (i := 8) (N := (some 58)) (v := ?_) (a' := ?_) #[true, true, true, true, true, true, true, true, true, false, false, false, false] rfl rfl (by kernel_rfl) (fun _ _ _ h => h) (Or.inl ⟨by rfl, ?_⟩) ?_ ?_
            rotate_left
            · intro w'
              go_simp
              with_reducible rfl
            rotate_left
            · simp only [Act.put, List.setIfInBounds_toArray, List.set_cons_zero, List.set_cons_succ, i64_w, i32_w]
              rfl
            refine pure_ (i := 9) (N := (some 59)) (v := ?_) (a' := ?_) #[true, true, true, true, true, true, true, true, true, true, false, false, false] rfl rfl (by kernel_rfl) (fun _ _ _ h => h) (Or.inl ⟨by rfl, ?_⟩) ?_ ?_
            rotate_left
            · intro w'
              go_simp
              with_reducible rfl
            rotate_left
            · simp only [Act.put, List.setIfInBounds_toArray, List.set_cons_zero, List.set_cons_succ, i64_w, i32_w]
              rfl
            refine one_ (i := 10) (N := (some 12)) #[true, true, true, true, true, true, true, true, true, true, true, false, false] rfl rfl (by kernel_rfl) (by decide) (fun K hK => ?_)
            refine ite_wanted rfl ?_
            go_simp
            obtain ⟨Y5, hY⟩ : ∃ Y, Y = Y4.alloc (.cells zeroS 34) := ⟨_, rfl⟩
            have hz12 := heap_alloc_new Y4 (.cells zeroS 34)
            have hl12 := hHeld.size
            have hS := below_alloc hHeld (.cells zeroS 34)
            have hF7b := Kd.F_alloc hF7 (.cells zeroS 34)
            rw [← hY] at hz12 hS hF7b
            refine at_world (K := K) hY ?_
            clear hY
            refine hK.out _ _ hS (fun hHeld1 => ?_)
            clear hS
            clear hK K
            replace hHeld := hHeld1
            clear hHeld1
            refine norm_ ?_ (hcont (.slice (some ⟨w6.drew.heap.size, 0, none⟩) 0 0, .slice A13 la.length c13, .slice A15 (la.length + lb.length) c15, R7, c7, Y4.heap.size) _ ⟨hHeld, hz12, by first | exact hl12 | omega, hc7, hF7b⟩)
            simp only [putAll, Act.put, List.setIfInBounds_toArray, List.set_cons_zero, List.set_cons_succ]
            rfl
          · skip
            refine ite_wanted rfl ?_
            go_simp
            obtain ⟨Y4, hY⟩ : ∃ Y, Y = Y3.alloc (.cells zeroS 34) := ⟨_, rfl⟩
            have hz12 := heap_alloc_new Y3 (.cells zeroS 34)
            have hl12 := hHeld.size
            have hS := below_alloc hHeld (.cells zeroS 34)
            have hO5b := Kd.R_alloc hO5 (.cells zeroS 34)
            rw [← hY] at hz12 hS hO5b
            refine at_world (K := K) hY ?_
            clear hY
            refine hK.out _ _ hS (fun hHeld1 => ?_)
            clear hS
            clear hK K
            replace hHeld := hHeld1
            clear hHeld1
            refine one_ (i := 6) (N := (some 57)) #[true, true, true, true, true, true, true, false, false, false, true, false, false] rfl rfl (by kernel_rfl) (by decide) (fun K hK => ?_)
            refine goes_ Tryd.func11 (by kernel_rfl) rfl #[.agg (sumC hs R r.length rc m), .slice A15 (la.length + lb.length) c15] (by rfl) rfl rfl (by (try simp only [List.map_toArray, List.map_cons, List.map_nil]); first | done | rfl) ?_
            have hcall := more_any _ hs R rc r m A15 c15 (la ++ lb) rfl hh Y4 (Kd.C_below HRr.out (hBelow6 hHeld)) HRC.out (by rw [List.length_append]; exact Kd.F_now (Kd.R_F hO5b)) (by rw [List.length_append]; exact (Kd.R_reads' hO5b).2.1) (by have := HLA.out; have := HLB.out; have := HLR.out; simp; omega) (HK.out.below (hBelow6 hHeld)) HM.out
            rw [HS3.out, HE3.out, List.length_append] at hcall
            refine hcall.mono ?_
            rintro e Y5 ⟨R7, c7, rfl, hc7, hr7, hb7⟩
            refine ⟨_, rfl, ?_⟩
            dsimp only at hc7 hr7
            have hlt12 := blk_lt hz12
            replace hz12 := blk_below hz12 hb7
            have hF7 := Kd.F_mono (Kd.R_F (Kd.R_bound hr7)) (ok' := fun k => k ≠ Y3.heap.size) (fun k hk => by have := hk.2.1; omega)
            refine hK.out _ _ (bl hHeld hb7) (fun hHeld1 => ?_)
            clear hcall hr7 hb7
            clear hK K
            replace hHeld := hHeld1
            clear hHeld1
            refine norm_ (a' := ?_) ?_ ?_
            rotate_left
            · show Act.put _ (some 57) _ = _
              simp only [Act.put, List.setIfInBounds_toArray, List.set_cons_zero, List.set_cons_succ, i64_w, i32_w]
              rfl
            refine pure_ (i := 7) (N := (some 50)) (v := ?_) (a' := ?_) #[true, true, true, true, true, true, true, true, false, false, true, false, false] rfl rfl (by kernel_rfl) (fun _ _ _ h => h) (Or.inl ⟨by rfl, ?_⟩) ?_ ?_
            rotate_left
            · intro w'
              go_simp
              with_reducible rfl
            rotate_left
            · simp only [Act.put, List.setIfInBounds_toArray, List.set_cons_zero, List.set_cons_succ, i64_w, i32_w]
              rfl
            refine pure_ (i := 8) (N := (some 58)) (v := ?_) (a' := ?_) #[true, true, true, true, true, true, true, true, true, false, true, false, false] rfl rfl (by kernel_rfl) (fun _ _ _ h => h) (Or.inl ⟨by rfl, ?_⟩) ?_ ?_
            rotate_left
            · intro w'
              go_simp
              with_reducible rfl
            rotate_left
            · simp only [Act.put, List.setIfInBounds_toArray, List.set_cons_zero, List.set_cons_succ, i64_w, i32_w]
              rfl
            refine pure_ (i := 9) (N := (some 59)) (v := ?_) (a' := ?_) #[true, true, true, true, true, true, true, true, true, true, true, false, false] rfl rfl (by kernel_rfl) (fun _ _ _ h => h) (Or.inl ⟨by rfl, ?_⟩) ?_ ?_
            rotate_left
            · intro w'
              go_simp
              with_reducible rfl
            rotate_left
            · simp only [Act.put, List.setIfInBounds_toArray, List.set_cons_zero, List.set_cons_succ, i64_w, i32_w]
              rfl
            refine norm_ ?_ (hcont (.slice (some ⟨w6.drew.heap.size, 0, none⟩) 0 0, .slice A13 la.length c13, .slice A15 (la.length + lb.length) c15, R7, c7, Y3.heap.size) _ ⟨hHeld, hz12, by first | exact hl12 | omega, hc7, hF7⟩)
            simp only [putAll, Act.put, List.setIfInBounds_toArray, List.set_cons_zero, List.set_cons_succ]
            rfl
        · skip
          refine ite_wanted rfl ?_
          go_simp
          obtain ⟨Y3, hY⟩ : ∃ Y, Y = Y2.alloc (.cells zeroS 34) := ⟨_, rfl⟩
          have hz12 := heap_alloc_new Y2 (.cells zeroS 34)
          have hl12 := hHeld.size
          have hS := below_alloc hHeld (.cells zeroS 34)
          have hO3b := Kd.R_alloc hO3 (.cells zeroS 34)
          rw [← hY] at hz12 hS hO3b
          refine at_world (K := K) hY ?_
          clear hY
          refine hK.out _ _ hS (fun hHeld1 => ?_)
          clear hS
          clear hK K
          replace hHeld := hHeld1
          clear hHeld1
          refine one_ (i := 5) (N := (some 56)) #[true, true, true, true, true, true, false, false, false, false, true, false, false] rfl rfl (by kernel_rfl) (by decide) (fun K hK => ?_)
          refine Kd.R_append_rows_step (Kd.int .u8) (w0 := w6) w6.heap.size rfl (.tmp 54) (.tmp 55) 22 5 (.int .u8 0) 1 rfl Tryd.underlying22 info5 rfl (by decide) (by omega) (.slice A13 la.length c13) la lb B lb.length cb (fun _ => True) (fun _ => False) rfl rfl hO3b (Kd.C_below HBb.out (hBelow6 hHeld)) (fun _ _ h => h) (fun _ h => h.elim) (fun _ _ => trivial) hHeld hHeld.size (by have := HLA.out; have := HLB.out; simp; omega) ?_
          intro v5 Y4 ho hb hg hat
          replace hz12 := blk_grown hz12 hg (Kd.R_ne hO3b hz12 (by decide))
          refine hK.out _ _ hb (fun hHeld1 => ?_)
          obtain ⟨A15, c15, rfl⟩ := Kd.R_slice ho
          rw [List.length_append] at ho ⊢
          have hO5 := ho
          clear ho hg hat hb
          clear hK K
          replace hHeld := hHeld1
          clear hHeld1
          refine one_ (i := 6) (N := (some 57)) #[true, true, true, true, true, true, true, false, false, false, true, false, false] rfl rfl (by kernel_rfl) (by decide) (fun K hK => ?_)
          refine goes_ Tryd.func11 (by kernel_rfl) rfl #[.agg (sumC hs R r.length rc m), .slice A15 (la.length + lb.length) c15] (by rfl) rfl rfl (by (try simp only [List.map_toArray, List.map_cons, List.map_nil]); first | done | rfl) ?_
          have hcall := more_any _ hs R rc r m A15 c15 (la ++ lb) rfl hh Y4 (Kd.C_below HRr.out (hBelow6 hHeld)) HRC.out (by rw [List.length_append]; exact Kd.F_now (Kd.R_F hO5)) (by rw [List.length_append]; exact (Kd.R_reads' hO5).2.1) (by have := HLA.out; have := HLB.out; have := HLR.out; simp; omega) (HK.out.below (hBelow6 hHeld)) HM.out
          rw [HS3.out, HE3.out, List.length_append] at hcall
          refine hcall.mono ?_
          rintro e Y5 ⟨R7, c7, rfl, hc7, hr7, hb7⟩
          refine ⟨_, rfl, ?_⟩
          dsimp only at hc7 hr7
          have hlt12 := blk_lt hz12
          replace hz12 := blk_below hz12 hb7
          have hF7 := Kd.F_mono (Kd.R_F (Kd.R_bound hr7)) (ok' := fun k => k ≠ Y2.heap.size) (fun k hk => by have := hk.2.1; omega)
          refine hK.out _ _ (bl hHeld hb7) (fun hHeld1 => ?_)
          clear hcall hr7 hb7
          clear hK K
          replace hHeld := hHeld1
          clear hHeld1
          refine norm_ (a' := ?_) ?_ ?_
          rotate_left
          · show Act.put _ (some 57) _ = _
            simp only [Act.put, List.setIfInBounds_toArray, List.set_cons_zero, List.set_cons_succ, i64_w, i32_w]
            rfl
          refine pure_ (i := 7) (N := (some 50)) (v := ?_) (a' := ?_) #[true, true, true, true, true, true, true, true, false, false, true, false, false] rfl rfl (by kernel_rfl) (fun _ _ _ h => h) (Or.inl ⟨by rfl, ?_⟩) ?_ ?_
          rotate_left
          · intro w'
            go_simp
            with_reducible rfl
          rotate_left
          · simp only [Act.put, List.setIfInBounds_toArray, List.set_cons_zero, List.set_cons_succ, i64_w, i32_w]
            rfl
          refine pure_ (i := 8) (N := (some 58)) (v := ?_) (a' := ?_) #[true, true, true, true, true, true, true, true, true, false, true, false, false] rfl rfl (by kernel_rfl) (fun _ _ _ h => h) (Or.inl ⟨by rfl, ?_⟩) ?_ ?_
          rotate_left
          · intro w'
            go_simp
            with_reducible rfl
          rotate_left
          · simp only [Act.put, List.setIfInBounds_toArray, List.set_cons_zero, List.set_cons_succ, i64_w, i32_w]
            rfl
          refine pure_ (i := 9) (N := (some 59)) (v := ?_) (a' := ?_) #[true, true, true, true, true, true, true, true, true, true, true, false, false] rfl rfl (by kernel_rfl) (fun _ _ _ h => h) (Or.inl ⟨by rfl, ?_⟩) ?_ ?_
          rotate_left
          · intro w'
            go_simp
            with_reducible rfl
          rotate_left
          · simp only [Act.put, List.setIfInBounds_toArray, List.set_cons_zero, List.set_cons_succ, i64_w, i32_w]
            rfl
          refine norm_ ?_ (hcont (.slice (some ⟨w6.drew.heap.size, 0, none⟩) 0 0, .slice A13 la.length c13, .slice A15 (la.length + lb.length) c15, R7, c7, Y2.heap.size) _ ⟨hHeld, hz12, by first | exact hl12 | omega, hc7, hF7⟩)
          simp only [putAll, Act.put, List.setIfInBounds_toArray, List.set_cons_zero, List.set_cons_succ]
          rfl
      · skip
        refine ite_wanted rfl ?_
        go_simp
        obtain ⟨Y2, hY⟩ : ∃ Y, Y = Y1.alloc (.cells zeroS 34) := ⟨_, rfl⟩
        have hz12 := heap_alloc_new Y1 (.cells zeroS 34)
        have hl12 := hHeld.size
        have hS := below_alloc hHeld (.cells zeroS 34)
        have hO1b := Kd.R_alloc hO1 (.cells zeroS 34)
        rw [← hY] at hz12 hS hO1b
        refine at_world (K := K) hY ?_
        clear hY
        refine hK.out _ _ hS (fun hHeld1 => ?_)
        clear hS
        clear hK K
        replace hHeld := hHeld1
        clear hHeld1
        refine one_ (i := 3) (N := (some 54)) #[true, true, true, true, true, false, false, false, false, false, true, false, false] rfl rfl (by kernel_rfl) (by decide) (fun K hK => ?_)
        refine Kd.R_append_rows_step (Kd.int .u8) (w0 := w6) w6.heap.size rfl (.tmp 52) (.tmp 53) 22 5 (.int .u8 0) 1 rfl Tryd.underlying22 info5 rfl (by decide) (by omega) (.slice (some ⟨w6.drew.heap.size, 0, none⟩) 0 0) [] la A la.length ca (fun _ => True) (fun _ => False) rfl rfl hO1b (Kd.C_below HA.out (hBelow6 hHeld)) (fun _ _ h => h) (fun _ h => h.elim) (fun _ _ => trivial) hHeld hHeld.size (by have := HLA.out; have := HLB.out; simp; omega) ?_
        intro v3 Y3 ho hb hg hat
        replace hz12 := blk_grown hz12 hg (Kd.R_ne hO1b hz12 (by decide))
        refine hK.out _ _ hb (fun hHeld1 => ?_)
        obtain ⟨A13, c13, rfl⟩ := Kd.R_slice ho
        rw [List.nil_append] at ho ⊢
        have hO3 := ho
        clear ho hg hat hb
        clear hK K
        replace hHeld := hHeld1
        clear hHeld1
        refine one_ (i := 5) (N := (some 56)) #[true, true, true, true, true, true, false, false, false, false, true, false, false] rfl rfl (by kernel_rfl) (by decide) (fun K hK => ?_)
        refine Kd.R_append_rows_step (Kd.int .u8) (w0 := w6) w6.heap.size rfl (.tmp 54) (.tmp 55) 22 5 (.int .u8 0) 1 rfl Tryd.underlying22 info5 rfl (by decide) (by omega) (.slice A13 la.length c13) la lb B lb.length cb (fun _ => True) (fun _ => False) rfl rfl hO3 (Kd.C_below HBb.out (hBelow6 hHeld)) (fun _ _ h => h) (fun _ h => h.elim) (fun _ _ => trivial) hHeld hHeld.size (by have := HLA.out; have := HLB.out; simp; omega) ?_
        intro v5 Y4 ho hb hg hat
        replace hz12 := blk_grown hz12 hg (Kd.R_ne hO3 hz12 (by decide))
        refine hK.out _ _ hb (fun hHeld1 => ?_)
        obtain ⟨A15, c15, rfl⟩ := Kd.R_slice ho
        rw [List.length_append] at ho ⊢
        have hO5 := ho
        clear ho hg hat hb
        clear hK K
        replace hHeld := hHeld1
        clear hHeld1
        refine one_ (i := 6) (N := (some 57)) #[true, true, true, true, true, true, true, false, false, false, true, false, false] rfl rfl (by kernel_rfl) (by decide) (fun K hK => ?_)
        refine goes_ Tryd.func11 (by kernel_rfl) rfl #[.agg (sumC hs R r.length rc m), .slice A15 (la.length + lb.length) c15] (by rfl) rfl rfl (by (try simp only [List.map_toArray, List.map_cons, List.map_nil]); first | done | rfl) ?_
        have hcall := more_any _ hs R rc r m A15 c15 (la ++ lb) rfl hh Y4 (Kd.C_below HRr.out (hBelow6 hHeld)) HRC.out (by rw [List.length_append]; exact Kd.F_now (Kd.R_F hO5)) (by rw [List.length_append]; exact (Kd.R_reads' hO5).2.1) (by have := HLA.out; have := HLB.out; have := HLR.out; simp; omega) (HK.out.below (hBelow6 hHeld)) HM.out
        rw [HS3.out, HE3.out, List.length_append] at hcall
        refine hcall.mono ?_
        rintro e Y5 ⟨R7, c7, rfl, hc7, hr7, hb7⟩
        refine ⟨_, rfl, ?_⟩
        dsimp only at hc7 hr7
        have hlt12 := blk_lt hz12
        replace hz12 := blk_below hz12 hb7
        have hF7 := Kd.F_mono (Kd.R_F (Kd.R_bound hr7)) (ok' := fun k => k ≠ Y1.heap.size) (fun k hk => by have := hk.2.1; omega)
        refine hK.out _ _ (bl hHeld hb7) (fun hHeld1 => ?_)
        clear hcall hr7 hb7
        clear hK K
        replace hHeld := hHeld1
        clear hHeld1
        refine norm_ (a' := ?_) ?_ ?_
        rotate_left
        · show Act.put _ (some 57) _ = _
          simp only [Act.put, List.setIfInBounds_toArray, List.set_cons_zero, List.set_cons_succ, i64_w, i32_w]
          rfl
        refine pure_ (i := 7) (N := (some 50)) (v := ?_) (a' := ?_) #[true, true, true, true, true, true, true, true, false, false, true, false, false] rfl rfl (by kernel_rfl) (fun _ _ _ h => h) (Or.inl ⟨by rfl, ?_⟩) ?_ ?_
        rotate_left
        · intro w'
          go_simp
          with_reducible rfl
        rotate_left
        · simp only [Act.put, List.setIfInBounds_toArray, List.set_cons_zero, List.set_cons_succ, i64_w, i32_w]
          rfl
        refine pure_ (i := 8) (N := (some 58)) (v := ?_) (a' := ?_) #[true, true, true, true, true, true, true, true, true, false, true, false, false] rfl rfl (by kernel_rfl) (fun _ _ _ h => h) (Or.inl ⟨by rfl, ?_⟩) ?_ ?_
        rotate_left
        · intro w'
          go_simp
          with_reducible rfl
        rotate_left
        · simp only [Act.put, List.setIfInBounds_toArray, List.set_cons_zero, List.set_cons_succ, i64_w, i32_w]
          rfl
        refine pure_ (i := 9) (N := (some 59)) (v := ?_) (a' := ?_) #[true, true, true, true, true, true, true, true, true, true, true, false, false] rfl rfl (by kernel_rfl) (fun _ _ _ h => h) (Or.inl ⟨by rfl, ?_⟩) ?_ ?_
        rotate_left
        · intro w'
          go_simp
          with_reducible rfl
        rotate_left
        · simp only [Act.put, List.setIfInBounds_toArray, List.set_cons_zero, List.set_cons_succ, i64_w, i32_w]
          rfl
        refine norm_ ?_ (hcont (.slice (some ⟨w6.drew.heap.size, 0, none⟩) 0 0, .slice A13 la.length c13, .slice A15 (la.length + lb.length) c15, R7, c7, Y1.heap.size) _ ⟨hHeld, hz12, by first | exact hl12 | omega, hc7, hF7⟩)
        simp only [putAll, Act.put, List.setIfInBounds_toArray, List.set_cons_zero, List.set_cons_succ]
        rfl
    · skip
      refine ite_wanted rfl ?_
      go_simp
      obtain ⟨Y1, hY⟩ : ∃ Y, Y = w6.drew.alloc (.cells zeroS 34) := ⟨_, rfl⟩
      have hz12 := heap_alloc_new w6.drew (.cells zeroS 34)
      have hl12 := hHeld.size
      have hS := below_alloc hHeld (.cells zeroS 34)
      rw [← hY] at hz12 hS
      refine at_world (K := K) hY ?_
      clear hY
      refine hK.out _ _ hS (fun hHeld1 => ?_)
      clear hS
      clear hK K
      replace hHeld := hHeld1
      clear hHeld1
      refine one_ (i := 1) (N := (some 52)) #[true, true, true, false, true, false, false, false, false, false, true, false, false] rfl rfl (by kernel_rfl) (by decide) (fun K hK => ?_)
      refine ite_wanted rfl ?_
      go_simp
      obtain ⟨Y2, hY⟩ : ∃ Y, Y = Y1.alloc (.cells #[] 5) := ⟨_, rfl⟩
      have hO1 := ownsRow_empty Y1 5 w6.heap.size hHeld.size (fun _ => True) trivial (Kd.int .u8)
      have hS := below_alloc hHeld (.cells #[] 5)
      replace hz12 := blk_alloc hz12 (.cells #[] 5)
      rw [← hY] at hO1 hS hz12
      refine at_world (K := K) hY ?_
      clear hY
      refine hK.out _ _ hS (fun hHeld1 => ?_)
      clear hS
      clear hK K
      replace hHeld := hHeld1
      clear hHeld1
      refine one_ (i := 3) (N := (some 54)) #[true, true, true, true, true, false, false, false, false, false, true, false, false] rfl rfl (by kernel_rfl) (by decide) (fun K hK => ?_)
      refine Kd.R_append_rows_step (Kd.int .u8) (w0 := w6) w6.heap.size rfl (.tmp 52) (.tmp 53) 22 5 (.int .u8 0) 1 rfl Tryd.underlying22 info5 rfl (by decide) (by omega) (.slice (some ⟨Y1.heap.size, 0, none⟩) 0 0) [] la A la.length ca (fun _ => True) (fun _ => False) rfl rfl hO1 (Kd.C_below HA.out (hBelow6 hHeld)) (fun _ _ h => h) (fun _ h => h.elim) (fun _ _ => trivial) hHeld hHeld.size (by have := HLA.out; have := HLB.out; simp; omega) ?_
      intro v3 Y3 ho hb hg hat
      replace hz12 := blk_grown hz12 hg (Kd.R_ne hO1 hz12 (by decide))
      refine hK.out _ _ hb (fun hHeld1 => ?_)
      obtain ⟨A13, c13, rfl⟩ := Kd.R_slice ho
      rw [List.nil_append] at ho ⊢
      have hO3 := ho
      clear ho hg hat hb
      clear hK K
      replace hHeld := hHeld1
      clear hHeld1
      refine one_ (i := 5) (N := (some 56)) #[true, true, true, true, true, true, false, false, false, false, true, false, false] rfl rfl (by kernel_rfl) (by decide) (fun K hK => ?_)
      refine Kd.R_append_rows_step (Kd.int .u8) (w0 := w6) w6.heap.size rfl (.tmp 54) (.tmp 55) 22 5 (.int .u8 0) 1 rfl Tryd.underlying22 info5 rfl (by decide) (by omega) (.slice A13 la.length c13) la lb B lb.length cb (fun _ => True) (fun _ => False) rfl rfl hO3 (Kd.C_below HBb.out (hBelow6 hHeld)) (fun _ _ h => h) (fun _ h => h.elim) (fun _ _ => trivial) hHeld hHeld.size (by have := HLA.out; have := HLB.out; simp; omega) ?_
      intro v5 Y4 ho hb hg hat
      replace hz12 := blk_grown hz12 hg (Kd.R_ne hO3 hz12 (by decide))
      refine hK.out _ _ hb (fun hHeld1 => ?_)
      obtain ⟨A15, c15, rfl⟩ := Kd.R_slice ho
      rw [List.length_append] at ho ⊢
      have hO5 := ho
      clear ho hg hat hb
      clear hK K
      replace hHeld := hHeld1
      clear hHeld1
      refine one_ (i := 6) (N := (some 57)) #[true, true, true, true, true, true, true, false, false, false, true, false, false] rfl rfl (by kernel_rfl) (by decide) (fun K hK => ?_)
      refine goes_ Tryd.func11 (by kernel_rfl) rfl #[.agg (sumC hs R r.length rc m), .slice A15 (la.length + lb.length) c15] (by rfl) rfl rfl (by (try simp only [List.map_toArray, List.map_cons, List.map_nil]); first | done | rfl) ?_
      have hcall := more_any _ hs R rc r m A15 c15 (la ++ lb) rfl hh Y4 (Kd.C_below HRr.out (hBelow6 hHeld)) HRC.out (by rw [List.length_append]; exact Kd.F_now (Kd.R_F hO5)) (by rw [List.length_append]; exact (Kd.R_reads' hO5).2.1) (by have := HLA.out; have := HLB.out; have := HLR.out; simp; omega) (HK.out.below (hBelow6 hHeld)) HM.out
      rw [HS3.out, HE3.out, List.length_append] at hcall
      refine hcall.mono ?_
      rintro e Y5 ⟨R7, c7, rfl, hc7, hr7, hb7⟩
      refine ⟨_, rfl, ?_⟩
      dsimp only at hc7 hr7
      have hlt12 := blk_lt hz12
      replace hz12 := blk_below hz12 hb7
      have hF7 := Kd.F_mono (Kd.R_F (Kd.R_bound hr7)) (ok' := fun k => k ≠ w6.drew.heap.size) (fun k hk => by have := hk.2.1; omega)
      refine hK.out _ _ (bl hHeld hb7) (fun hHeld1 => ?_)
      clear hcall hr7 hb7
      clear hK K
      replace hHeld := hHeld1
      clear hHeld1
      refine norm_ (a' := ?_) ?_ ?_
      rotate_left
      · show Act.put _ (some 57) _ = _
        simp only [Act.put, List.setIfInBounds_toArray, List.set_cons_zero, List.set_cons_succ, i64_w, i32_w]
        rfl
      refine pure_ (i := 7) (N := (some 50)) (v := ?_) (a' := ?_) #[true, true, true, true, true, true, true, true, false, false, true, false, false] rfl rfl (by kernel_rfl) (fun _ _ _ h => h) (Or.inl ⟨by rfl, ?_⟩) ?_ ?_
      rotate_left
      · intro w'
        go_simp
        with_reducible rfl
      rotate_left
      · simp only [Act.put, List.setIfInBounds_toArray, List.set_cons_zero, List.set_cons_succ, i64_w, i32_w]
        rfl
      refine pure_ (i := 8) (N := (some 58)) (v := ?_) (a' := ?_) #[true, true, true, true, true, true, true, true, true, false, true, false, false] rfl rfl (by kernel_rfl) (fun _ _ _ h => h) (Or.inl ⟨by rfl, ?_⟩) ?_ ?_
      rotate_left
      · intro w'
        go_simp
        with_reducible rfl
      rotate_left
      · simp only [Act.put, List.setIfInBounds_toArray, List.set_cons_zero, List.set_cons_succ, i64_w, i32_w]
        rfl
      refine pure_ (i := 9) (N := (some 59)) (v := ?_) (a' := ?_) #[true, true, true, true, true, true, true, true, true, true, true, false, false] rfl rfl (by kernel_rfl) (fun _ _ _ h => h) (Or.inl ⟨by rfl, ?_⟩) ?_ ?_
      rotate_left
      · intro w'
        go_simp
        with_reducible rfl
      rotate_left
      · simp only [Act.put, List.setIfInBounds_toArray, List.set_cons_zero, List.set_cons_succ, i64_w, i32_w]
        rfl
      refine norm_ ?_ (hcont (.slice (some ⟨Y1.heap.size, 0, none⟩) 0 0, .slice A13 la.length c13, .slice A15 (la.length + lb.length) c15, R7, c7, w6.drew.heap.size) _ ⟨hHeld, hz12, by first | exact hl12 | omega, hc7, hF7⟩)
      simp only [putAll, Act.put, List.setIfInBounds_toArray, List.set_cons_zero, List.set_cons_succ]
      rfl

theorem law02_ShaParts.calls (k : Nat) (hs : List Int) (R : Option Addr) (rc : Nat) (r : List Int) (m : Int) (A1 : Option Addr) (c1 : Nat) (l1 : List Int) (A2 : Option Addr) (c2 : Nat) (l2 : List Int) (res : Bool) (w : World) (hr0 : Kd.C (Kd.int .u8) w R r.length r) (hc0 : r.length ≤ rc) (hr1 : Kd.C (Kd.int .u8) w A1 l1.length l1) (hc1 : l1.length ≤ c1) (hr2 : Kd.C (Kd.int .u8) w A2 l2.length l2) (hc2 : l2.length ≤ c2) (hh : hs.length = 8) (hm : 0 ≤ m) (h : law02_ShaParts.f k hs r m l1 l2 = some res) (hk : Ktab w) :
    Calls Tryd.prog 6 #[.agg (sumC hs R r.length rc m), .slice A1 l1.length c1, .slice A2 l2.length c2] w fun e w' => e = .returned (.bool res) ∧ Below w.heap.size w w' := by
  obtain rfl : true = res := by simpa [law02_ShaParts.f] using h
  by_cases h0 : 500 < r.length
  · exact parts_big hs R rc r.length m A1 c1 l1 A2 c2 l2 w hh (.inl h0) hk
  · by_cases h1 : 500 < l1.length
    · exact parts_big hs R rc r.length m A1 c1 l1 A2 c2 l2 w hh (.inr (.inl h1)) hk
    · by_cases h2 : 500 < l2.length
      · exact parts_big hs R rc r.length m A1 c1 l1 A2 c2 l2 w hh (.inr (.inr h2)) hk
      · exact parts_small hs R rc r m A1 c1 l1 A2 c2 l2 w hh hr0 hc0 hm hr1 hc1 hr2 hc2 (by omega) (by omega) (by omega) hk
end Go.Proofs.YtfijclinefmbfaaDoor
