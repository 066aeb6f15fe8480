/-
The document's Came, Begin, May, Check, More: digests under way.
-/
import Derived.Test.YtfijclinefmbfaaDoorRefTurn
import Derived.Test.YtfijclinefmbfaaDoorShaBig
namespace Go.Proofs.YtfijclinefmbfaaDoor
open Go.RowKit Go.Proofs.YtfijclinefmbfaaDoorW.PrintWords Go.Proofs.YtfijclinefmbfaaDoorW.PrintLast Go.Proofs.YtfijclinefmbfaaDoorW.PrintMore Go.Proofs.YtfijclinefmbfaaDoor.PAll
set_option linter.unusedVariables false
set_option linter.unusedSimpArgs false

section
variable {P : Program} {op : Oper} {a : Act} {w : World} {Q : Exit → Act → World → Prop}
theorem exec_part {ty : TypeId} {x : Operand} {b u : Nat} {vs tail : List Value} {d : TypeDesc} (ho : op.op = .load ty x) (hx : a.eval x = .pointer (some ⟨b, 0, none⟩)) (hg : w.heap[b]? = some (.cells ⟨vs ++ tail⟩ u (0, 0))) (hu : P.underlying ty = some d) (hd : d.isRow = true) (hi : (P.info? ty).map (·.size) = some vs.length) :
    (execOp a.eval op).run P w = .ok (.value (.agg ⟨vs⟩)) w := by
  have hl := run_loadAt_mid w b 0 ty vs d (fun j v hv => by
    rw [Nat.zero_add, blk_cell hg j, List.getElem?_toArray, List.getElem?_append_left (List.getElem?_eq_some_iff.1 hv).1]
    exact hv) hu hd hi
  unfold execOp
  simp only [ho, hx, Sem.run_bind, hl, Result.andThen_ok, Sem.run_pure]
/-- A part of a block, from its beginning on, is written. -/
theorem op_store_part {K : Act → World → Prop} (ty : TypeId) (x y : Operand) (b u : Nat) (vs vs' tail : List Value) (ho : op.op = .store ty x y) (hx : a.eval x = .pointer (some ⟨b, 0, none⟩)) (hy : a.eval y = .agg ⟨vs'⟩) (hg : w.heap[b]? = some (.cells ⟨vs ++ tail⟩ u (0, 0)))
    (hs : vs.length = vs'.length) (hi : (P.info? ty).map (·.size) = some vs'.length) (h1 : ∀ v ∈ vs', v.oneCell' = true)
    (h : ∀ w1, w1.heap[b]? = some (.cells ⟨vs' ++ tail⟩ u (0, 0)) → (∀ k, k ≠ b → w1.heap[k]? = w.heap[k]?) → (∀ B w0, Below B w0 w → B ≤ b → Below B w0 w1) → w1.heap.size = w.heap.size → K (a.put op.dst undef) w1) : op.wp P a w K Q := by
  refine wp_store_mid ty x y ho b 0 ⟨vs'⟩ hx hy (fun j hj => ⟨?_, ?_⟩) hi ?_ (h _ ?_ ?_ ?_ ?_)
  · rw [blk_cell hg]
    have : j < vs'.length := hj
    simp
    omega
  · exact blk_frozen hg _
  · exact Array.all_eq_true_iff_forall_mem.2 (fun v hv => h1 v (by simpa using hv))
  · obtain ⟨cur, q1, q2, q3⟩ := setCells_row vs' 0 w ⟨vs ++ tail⟩ hg (by simp; omega)
    have : cur.toList = vs' ++ tail := by
      rw [q3, List.take_zero, List.nil_append]
      simp [hs]
    rw [q1, show cur = ⟨vs' ++ tail⟩ from by rw [← this]]
  · exact fun k hk => setCells_far _ 0 k hk
  · exact fun B w0 hb hle => setAll_below _ hb hle
  · exact (setCells_same b _ 0 w).2.2.2
end
theorem refTurn_any (A : Option Addr) (c0 : Nat) (b hs : List Int) (hb : b.length = 64) (hh : hs.length = 8) (w : World) (hr : Kd.C (Kd.int .u8) w A 64 b) (hc : 64 ≤ c0) :
    Calls Tryd.prog 29 #[.agg ⟨hs.map (Value.int .u32)⟩, .slice A 64 c0] w fun e w' => e = .returned (.agg ⟨(turnA hs b).map (Value.int .u32)⟩) ∧ Below w.heap.size w w' := by
  obtain ⟨ad, rfl, _⟩ := hr.2.2 (by omega)
  exact refTurn_calls ad c0 b hs hb hh w hr hc

set_option maxHeartbeats 4000000 in
set_option maxRecDepth 100000 in
theorem came_calls (hs : List Int) (R : Option Addr) (rc : Nat) (l1 : List Int) (m : Int) (A : Option Addr) (c : Nat) (l2 : List Int) (hh : hs.length = 8) (w : World) (h1 : Kd.C (Kd.int .u8) w R l1.length l1) (hc1 : l1.length ≤ rc) (h2 : Kd.C (Kd.int .u8) w A l2.length l2) (hc2 : l2.length ≤ c) (hm : l1.length + l2.length ≤ 1000000) :
    Calls Tryd.prog 24 #[.agg (sumC hs R l1.length rc m), .slice A l2.length c] w fun e w' => ∃ R' c', e = .returned (.agg (sumC (comeA hs (l1 ++ l2)).1 R' (comeA hs (l1 ++ l2)).2.length c' ((m + l2.length) % 18446744073709551616))) ∧ (comeA hs (l1 ++ l2)).2.length ≤ c' ∧ Kd.F (Kd.int .u8) w' (fun k => w.heap.size + 1 < k) R' (comeA hs (l1 ++ l2)).2.length (comeA hs (l1 ++ l2)).2 ∧ Below w.heap.size w w' := by
  obtain ⟨h0, h1', h2', h3, h4, h5, h6, h7, rfl⟩ := eight hh
  obtain ⟨hq1, hq2⟩ := alloc2 w (.cells (sumC [h0, h1', h2', h3, h4, h5, h6, h7] R l1.length rc m) 34) (.cells zeroS 34)
  have hc8 : ((w.alloc (.cells (sumC [h0, h1', h2', h3, h4, h5, h6, h7] R l1.length rc m) 34)).alloc (.cells zeroS 34)).cell? ⟨w.heap.size, 8, none⟩ = some (.slice R l1.length rc) := blk_cell hq1 8
  have hbl0 := below_alloc (below_alloc (Below.refl w.heap.size w) (.cells (sumC [h0, h1', h2', h3, h4, h5, h6, h7] R l1.length rc m) 34)) (.cells zeroS 34)
  have hsz0 : w.heap.size + 1 < ((w.alloc (.cells (sumC [h0, h1', h2', h3, h4, h5, h6, h7] R l1.length rc m) 34)).alloc (.cells zeroS 34)).heap.size := by simp
  have H1 := Aside0.mk h1
  have H2 := Aside0.mk h2
  have HC1 := Aside0.mk hc1
  have HC2 := Aside0.mk hc2
  have HM := Aside0.mk hm
  have hm2 : (l2.length : Int) ≤ 1000000 := by omega
  clear h1 h2 hc1 hc2 hm hh
  go_enter Tryd.func24, Tryd.ntmps24
  repeat ((fail_if_success (with_reducible refine gate_dst (N := 6) rfl ?_)); (first | go_values | go_guarded | go_step | go_upon | go_back))
  generalize hX : (w.alloc _).alloc _ = W0
  have hW0 : (w.alloc (.cells (sumC [h0, h1', h2', h3, h4, h5, h6, h7] R l1.length rc m) 34)).alloc (.cells zeroS 34) = W0 := hX
  rw [hW0] at hq1 hq2 hc8 hbl0 hsz0
  clear hX hW0
  have HQ1 := Aside0.mk hq1
  have HQ2 := Aside0.mk hq2
  have HB0 := Aside0.mk hbl0
  clear hq1 hq2 hbl0
  repeat (first
    | ((with_reducible refine gate_dst (N := 6) rfl ?_); refine Kd.R_lit (Kd.int .u8) _ 5 ?hg (N := 6) ?hd (xs := ([] : List Int)) (inner := []) (ok := fun _ => True) (okp := fun _ => True) ?hr ?hp (fun _ hk => hk) trivial (Below.refl _ _) (Nat.le_refl _) (by simp) ?_; (case hd => rfl); (case hg => rfl); (case hr => first | (go_simp; done) | (go_simp; rfl)); (case hp => exact (Reps.none _ _)); intro v1 w1 ho hb hg_ hnew_; have HB1 := Aside0.mk hb; have HO1 := Aside0.mk ho; have hc9 : w1.cell? ⟨w.heap.size, 8, none⟩ = some (.slice R l1.length rc) := blk_cell (blk_below HQ1.out hb) 8; clear hg_ hnew_ ho hb hc8)
    | ((with_reducible refine gate_builtin (b := .append) (xs := #[.tmp 6, .tmp 8]) rfl ?_); at_builtin; refine Kd.R_append_rows (Kd.int .u8) (w0 := W0) W0.heap.size rfl (.tmp 6) (.tmp 8) 22 5 (.int .u8 0) 1 rfl Tryd.underlying22 info5 rfl (by decide) (by omega) v1 [] l1 _ _ _ (fun _ => True) (fun _ => False) rfl rfl ?aO ?aR (fun _ _ h => h) (fun _ h => h.elim) ?aF ?aB ?aS ?aL ?_; (case aR => exact Kd.C_below H1.out (bl HB0.out HB1.out)); (case aB => exact HB1.out); (case aF => exact (fun _ _ => trivial)); (case aO => exact HO1.out); (case aS => exact HB1.out.size); (case aL => have := HM.out; simp; omega); intro v2 w2 ho hb hg hat; rw [List.nil_append] at ho; have HB2 := Aside0.mk hb; have HO2 := Aside0.mk ho; clear ho hb hg hat HO1 HB1 hc9)
    | ((with_reducible refine gate_builtin (b := .append) (xs := #[.tmp 9, .tmp 10]) rfl ?_); at_builtin; refine Kd.R_append_rows (Kd.int .u8) (w0 := W0) W0.heap.size rfl (.tmp 9) (.tmp 10) 22 5 (.int .u8 0) 1 rfl Tryd.underlying22 info5 rfl (by decide) (by omega) v2 l1 l2 _ _ _ (fun _ => True) (fun _ => False) rfl rfl ?aO ?aR (fun _ _ h => h) (fun _ h => h.elim) ?aF ?aB ?aS ?aL ?_; (case aR => exact Kd.C_below H2.out (bl HB0.out HB2.out)); (case aB => exact HB2.out); (case aF => exact (fun _ _ => trivial)); (case aO => exact HO2.out); (case aS => exact HB2.out.size); (case aL => have := HM.out; simp; omega); intro v3 w3 ho hb hg hat; obtain ⟨A3, c3, rfl⟩ := Kd.R_slice ho; have HC3 := Aside0.mk (Kd.R_reads' ho).2.1; have HF3 := Aside0.mk (Kd.F_mono (Kd.R_F (Kd.R_bound ho)) (ok' := fun k => w.heap.size + 1 < k) (fun k hk => by have := hk.2.1; omega)); have HB3 := Aside0.mk (bl HB0.out hb); have HG3 := Aside0.mk (blk_below HQ1.out hb); have HZ3 := Aside0.mk (blk_below HQ2.out hb); clear ho hb hg hat HO2 HB2 HQ1 HQ2 HB0)
    | go_values | go_guarded | go_step | go_upon | go_back)
  go_loopw [5] (fun v5 wr => ∃ (hs r : List Int) (R' : Option Addr) (c' q : Nat), v5 = .slice R' q c' ∧ q = r.length ∧ hs.length = 8 ∧ comeA hs r = comeA [h0, h1', h2', h3, h4, h5, h6, h7] (l1 ++ l2) ∧ r.length ≤ c' ∧ Aside0 (wr.heap[w.heap.size]? = some (.cells (sumC hs R l1.length rc m) 34 (0, 0))) ∧ Aside0 (wr.heap[w.heap.size + 1]? = some (.cells zeroS 34 (0, 0))) ∧ Aside0 (Kd.F (Kd.int .u8) wr (fun k => w.heap.size + 1 < k) R' r.length r) ∧ Aside0 (Below w.heap.size w wr)) (fun v5 _ => lenOf v5)
  case atStart => exact ⟨_, l1 ++ l2, A3, c3, _, rfl, by simp, rfl, rfl, HC3.out, HG3, HZ3, HF3, HB3⟩
  case round =>
    clear HC3 HG3 HZ3 HF3 HB3
    obtain ⟨hs, r, R', c', q, rfl, rfl, hh8, hce, hrc, HG, HZ, HF, HB⟩ := hrel
    obtain ⟨s0, s1, s2, s3, s4, s5, s6, s7, rfl⟩ := eight hh8
    have hl63 : (r.length : Int) ≤ 9223372036854775807 := by have := Kd.F_max HF.out; omega
    have HCE := Aside0.mk hce
    have HRC := Aside0.mk hrc
    clear hh8 hce hrc
    by_cases hlt : r.length < 64
    · have hd1 : decide ((64 : Int) ≤ (r.length : Int)) = false := decide_eq_false (by omega)
      have hc9 : wr.cell? ⟨w.heap.size, 9, none⟩ = some (.int .u64 m) := blk_cell HG.out 9
      have hce := HCE.out
      rw [comeA_small hlt] at hce
      have HCE1 := Aside0.mk hce
      clear hlt hce HCE
      repeat (first
        | ((with_reducible refine wpList_part_g 31 (.tmp 23) w.heap.size _ ([s0, s1, s2, s3, s4, s5, s6, s7].map (Value.int .u32)) _ _ ?hw rfl ?hx HG.out Tryd.underlying31 ?hd ?hi ?_); (case hw => rfl); (case hx => rfl); (case hd => rfl); (case hi => rfl))
        | ((with_reducible refine wpList_store 34 (.tmp 4) (.tmp 32) (w.heap.size + 1) _ _ (sumC [s0, s1, s2, s3, s4, s5, s6, s7] R' r.length c' ((m + l2.length) % 18446744073709551616)) rfl rfl ?hx ?hy HZ.out ?hs ?hi ?h1 ?_); (case h1 => exact one_sum _ _ _ rfl rfl); (case hs => rfl); (case hx => rfl); (case hy => rfl); (case hi => rfl); intro w5 q1 q2 q3 q4; have HG5 := Aside0.mk q1; have HF5 := Aside0.mk (Kd.F_step HF.out (fun k hk _ => q2 k (by omega))); have HB5 := Aside0.mk (q3 w.heap.size w HB.out (by omega)); clear q1 q2 q3 q4)
        | go_values | go_guarded | go_step | go_upon | go_back)
      refine bodyPost_ret (results_single rfl (.cell (w.heap.size + 1) _ _ (0, 0) _ rfl HG5.out Tryd.underlying34 rfl rfl .nil)) rfl ?_
      refine ⟨R', c', by rw [← HCE1.out], by rw [← HCE1.out]; exact HRC.out, ?_, HB5.out⟩
      rw [← HCE1.out]
      exact HF5.out
    · have hd1 : decide ((64 : Int) ≤ (r.length : Int)) = true := decide_eq_true (by omega)
      have hle : 64 ≤ r.length := by omega
      obtain ⟨i0, hi0, _, hsz0, _⟩ := info_parts info5
      obtain ⟨hcut1, _, _⟩ := print_take_of (P := Tryd.prog) (Value.int .u8) 0 22 5 .i64 Tryd.underlying22 hi0 hsz0 R' c' r 64 (by omega) (by omega) HRC.out
      have hl64 : (r.take 64).length = 64 := by rw [List.length_take]; omega
      rw [show (List.take (Int.toNat 64) r).length = 64 from hl64] at hcut1
      have hcut2 : ∀ W, (Instr.slice 22 (.slice R' r.length c') (some (.int .i64 64)) none none).run Tryd.prog W = .ok (.slice (if c' = 64 then R' else R'.map (·.add 64)) (r.length - 64) (c' - 64)) W := fun W => run_cut_from (P := Tryd.prog) 22 5 Tryd.underlying22 hi0 hsz0 R' r.length c' 64 hle W
      have hF1 := Kd.F_take HF.out hle
      have hF2 := Kd.F_cut HF.out hle HRC.out
      rw [hl64] at hF1
      simp only [Kd.int, Kd.scalar, Nat.mul_one] at hF2
      generalize hR2 : (if c' = 64 then R' else R'.map (·.add 64)) = R2 at hcut2 hF2
      have hdl : (r.drop 64).length = r.length - 64 := List.length_drop
      rw [comeA_step hlt] at HCE
      obtain ⟨t0, t1, t2, t3, t4, t5, t6, t7, ht8⟩ := eight (turnA_length8 (hs := [s0, s1, s2, s3, s4, s5, s6, s7]) rfl (r.take 64))
      rw [ht8] at HCE
      have HT8 := Aside0.mk ht8
      have HF1 := Aside0.mk hF1
      have HF2 := Aside0.mk hF2
      have HD := Aside0.mk hdl
      have HL := Aside0.mk hle
      clear hR2 hF1 hF2 hdl hle hi0 hsz0 hlt HF ht8
      have HT1 := Aside0.mk (fun (W : World) (hF : Kd.F (Kd.int .u8) W (fun k => w.heap.size + 1 < k) R' 64 (r.take 64)) => refTurn_any R' c' (r.take 64) [s0, s1, s2, s3, s4, s5, s6, s7] hl64 rfl W (Kd.F_now hF) (by have := HRC.out; have := HL.out; omega))
      clear hl64
      go_wp2
      refine start_ (n := 7) (S := fun w' => w'.heap[w.heap.size]? = some (.cells (sumC [s0, s1, s2, s3, s4, s5, s6, s7] R l1.length rc m) 34 (0, 0)) ∧ w'.heap[w.heap.size + 1]? = some (.cells zeroS 34 (0, 0)) ∧ Kd.F (Kd.int .u8) w' (fun k => w.heap.size + 1 < k) R' 64 (r.take 64) ∧ Kd.F (Kd.int .u8) w' (fun k => w.heap.size + 1 < k) R2 (r.drop 64).length (r.drop 64) ∧ Below w.heap.size w w') (ds := [6]) #[false, false, false, false, false, false, false] (by kernel_rfl) rfl rfl ⟨blk_drew HG.out, blk_drew HZ.out, Kd.F_drew HF1.out, Kd.F_drew HF2.out, below_drew HB.out⟩ (fun hHeld => ?_)
      refine pure_ (i := 0) (N := (some 15)) (v := ?_) (a' := ?_) #[true, false, false, false, false, false, false] rfl rfl (by kernel_rfl) (fun _ _ _ h => h) (Or.inl ⟨by rfl, ?_⟩) ?_ ?_
      rotate_left
      · intro w'
        go_simp
        with_reducible rfl
      rotate_left
      · simp only [Act.put, List.setIfInBounds_toArray, List.set_cons_zero, List.set_cons_succ, i64_w, i32_w]
        rfl
      refine take_ (i := 1) (N := (some 16)) (v := ?_) (a' := ?_) #[true, true, false, false, false, false, false] rfl rfl (by kernel_rfl) (fun _ _ _ h => h) (Or.inl ⟨by rfl, ?_⟩) hHeld ?_ ?_
      rotate_left
      · rintro w' ⟨z0, z1, z2, z3, z4⟩
        refine exec_part (ty := 31) (x := .tmp 15) (vs := [s0, s1, s2, s3, s4, s5, s6, s7].map (Value.int .u32)) ?_ ?_ z0 Tryd.underlying31 rfl rfl
        · rfl
        · rfl
      rotate_left
      · simp only [Act.put, List.setIfInBounds_toArray, List.set_cons_zero, List.set_cons_succ, i64_w, i32_w]
        rfl
      refine pure_ (i := 2) (N := (some 17)) (v := ?_) (a' := ?_) #[true, true, true, false, false, false, false] rfl rfl (by kernel_rfl) (fun _ _ _ h => h) (Or.inl ⟨by rfl, ?_⟩) ?_ ?_
      rotate_left
      · intro w'
        go_simp
        with_reducible rfl
      rotate_left
      · simp only [Act.put, List.setIfInBounds_toArray, List.set_cons_zero, List.set_cons_succ, i64_w, i32_w]
        rfl
      refine pure_ (i := 3) (N := (some 18)) (v := ?_) (a' := ?_) #[true, true, true, true, false, false, false] rfl rfl (by kernel_rfl) (fun _ _ _ h => h) (Or.inl ⟨by rfl, ?_⟩) ?_ ?_
      rotate_left
      · intro w'
        go_simp
        with_reducible rfl
      rotate_left
      · simp only [Act.put, List.setIfInBounds_toArray, List.set_cons_zero, List.set_cons_succ, i64_w, i32_w]
        rfl
      refine one_ (i := 4) (N := (some 19)) #[true, true, true, true, true, false, false] rfl rfl (by kernel_rfl) (by decide) (fun K hK => ?_)
      refine goes_ Tryd.func29 (by kernel_rfl) rfl #[.agg ⟨[s0, s1, s2, s3, s4, s5, s6, s7].map (Value.int .u32)⟩, .slice R' 64 c'] (by rfl) rfl rfl (by (try simp only [List.map_toArray, List.map_cons, List.map_nil]); first | done | rfl) ?_
      refine (HT1.out _ hHeld.2.2.1).mono ?_
      rintro e w' ⟨he, hb⟩
      rw [HT8.out] at he
      subst he
      refine ⟨_, rfl, ?_⟩
      refine hK.out _ _ ⟨blk_below hHeld.1 hb, blk_below hHeld.2.1 hb, Kd.F_below hHeld.2.2.1 hb, Kd.F_below hHeld.2.2.2.1 hb, bl hHeld.2.2.2.2 hb⟩ (fun hHeld => ?_)
      clear hK K
      refine norm_ (a' := ?_) ?_ ?_
      rotate_left
      · show Act.put _ (some 19) _ = _
        simp only [Act.put, List.setIfInBounds_toArray, List.set_cons_zero, List.set_cons_succ, i64_w, i32_w]
        rfl
      refine pure_ (i := 5) (N := (some 20)) (v := ?_) (a' := ?_) #[true, true, true, true, true, true, false] rfl rfl (by kernel_rfl) (fun _ _ _ h => h) (Or.inl ⟨by rfl, ?_⟩) ?_ ?_
      rotate_left
      · intro w'
        go_simp
        with_reducible rfl
      rotate_left
      · simp only [Act.put, List.setIfInBounds_toArray, List.set_cons_zero, List.set_cons_succ, i64_w, i32_w]
        rfl
      refine last_ (i := 6) (N := none) #[true, true, true, true, true, true, true] rfl rfl (by kernel_rfl) (by decide) (fun K hK => ?_)
      refine ite_wanted rfl ?_
      refine op_store_part 31 (.tmp 20) (.tmp 19) w.heap.size _ ([s0, s1, s2, s3, s4, s5, s6, s7].map (Value.int .u32)) ([t0, t1, t2, t3, t4, t5, t6, t7].map (Value.int .u32)) [.slice R l1.length rc, .int .u64 m] rfl rfl rfl hHeld.1 rfl rfl (one_u32 [t0, t1, t2, t3, t4, t5, t6, t7]) ?_
      intro w6 q1 q2 q3 q4
      refine hK.out _ _ ?_
      clear hK K
      refine done_ (by kernel_rfl) ?_
      have HG6 := Aside0.mk q1
      have HZ6 := Aside0.mk ((q2 (w.heap.size + 1) (by omega)).trans hHeld.2.1)
      have HF6 := Aside0.mk (Kd.F_step hHeld.2.2.2.1 (fun k hk _ => q2 k (by omega)))
      have HB6 := Aside0.mk (q3 _ _ hHeld.2.2.2.2 (Nat.le_refl _))
      clear q1 q2 q3 q4 hHeld HG HZ HF1 HF2 HB
      go_wp2
      exact ⟨⟨[t0, t1, t2, t3, t4, t5, t6, t7], r.drop 64, R2, c' - 64, _, rfl, HD.out.symm, rfl, HCE.out, by rw [HD.out]; have := HRC.out; omega, HG6, HZ6, HF6, HB6⟩, by have := HL.out; simp [lenOf]; omega⟩
set_option maxHeartbeats 1000000 in
theorem refBegin_calls (w : World) : Calls Tryd.prog 19 #[] w fun e w' => e = .returned (.agg (sumC H0 none 0 0 0)) ∧ Below w.heap.size w w' := by
  have HZ0 := Aside0.mk (heap_alloc_new w (.cells zeroS 34))
  have HB0 := Aside0.mk (below_alloc (Below.refl w.heap.size w) (.cells zeroS 34))
  go_enter Tryd.func19, Tryd.ntmps19
  repeat (first
    | ((with_reducible refine wpList_store 34 (.tmp 0) (.tmp 2) w.heap.size _ _ (sumC H0 none 0 0 0) rfl rfl ?hx ?hy HZ0.out ?hs ?hi ?h1 ?_); (case h1 => exact one_sum _ _ _ rfl rfl); (case hs => rfl); (case hx => rfl); (case hy => rfl); (case hi => rfl); intro w1 g1 g2 g3 g4; have HG1 := Aside0.mk g1; have HG3 := Aside0.mk (g3 w.heap.size w HB0.out (Nat.le_refl _)); clear g1 g2 g3 g4)
    | go_values | go_guarded | go_step | go_upon | go_back)
  refine bodyPost_ret (results_single rfl (.cell w.heap.size _ _ (0, 0) _ rfl HG1.out Tryd.underlying34 rfl rfl .nil)) rfl ?_
  exact ⟨rfl, HG3.out⟩

set_option maxHeartbeats 1000000 in
theorem may_calls (cs : Array Value) (hs : List Int) (R : Option Addr) (n c : Nat) (m : Int) (hcs : cs = sumC hs R n c m) (hh : hs.length = 8) (hn : n ≤ 9223372036854775807) (hm : 0 ≤ m) (w : World) :
    Calls Tryd.prog 25 #[.agg cs] w fun e w' => e = .returned (.bool (checkA n m == 0)) ∧ Below w.heap.size w w' := by
  subst hcs
  obtain ⟨h0, h1, h2, h3, h4, h5, h6, h7, rfl⟩ := eight hh
  have hg := heap_alloc_new w (.cells (sumC [h0, h1, h2, h3, h4, h5, h6, h7] R n c m) 34)
  have hc8 : (w.alloc (.cells (sumC [h0, h1, h2, h3, h4, h5, h6, h7] R n c m) 34)).cell? ⟨w.heap.size, 8, none⟩ = some (.slice R n c) := blk_cell hg 8
  have hc9 : (w.alloc (.cells (sumC [h0, h1, h2, h3, h4, h5, h6, h7] R n c m) 34)).cell? ⟨w.heap.size, 9, none⟩ = some (.int .u64 m) := blk_cell hg 9
  clear hg
  by_cases c1 : m ≥ 72057594037927936
  · have d1 : decide (m < 72057594037927936) = false := decide_eq_false (by omega)
    have HE : Aside0 (checkA n m = 8) := ⟨by unfold checkA; rw [if_pos c1]⟩
    clear c1
    go_enter Tryd.func25, Tryd.ntmps25
    go_wp2
    go_ret
    exact ⟨by rw [HE.out]; rfl, below_alloc (Below.refl _ _) _⟩
  · have d1 : decide (m < 72057594037927936) = true := decide_eq_true (by omega)
    have hw : IntKind.u64.wrap (n : Int) = (n : Int) := by
      rw [show ∀ z, IntKind.u64.wrap z = z % 18446744073709551616 from fun _ => rfl]
      omega
    have hmod : Int.tmod m 64 = m % 64 := Int.tmod_eq_emod_of_nonneg hm
    have hmw : IntKind.u64.wrap (m % 64) = m % 64 := by
      rw [show ∀ z, IntKind.u64.wrap z = z % 18446744073709551616 from fun _ => rfl]
      omega
    by_cases c2 : (n : Int) = m % 64
    · have d2 : ((n : Int) == m % 64) = true := by simpa using c2
      have HE : Aside0 (checkA n m = 0) := ⟨by unfold checkA; rw [if_neg c1, if_neg (by simpa using c2)]⟩
      clear c1 c2
      go_enter Tryd.func25, Tryd.ntmps25
      go_wp2
      go_ret
      exact ⟨by rw [HE.out]; rfl, below_alloc (Below.refl _ _) _⟩
    · have d2 : ((n : Int) == m % 64) = false := by simpa using c2
      have HE : Aside0 (checkA n m = 8) := ⟨by unfold checkA; rw [if_neg c1, if_pos c2]⟩
      clear c1 c2
      go_enter Tryd.func25, Tryd.ntmps25
      go_wp2
      go_ret
      exact ⟨by rw [HE.out]; rfl, below_alloc (Below.refl _ _) _⟩

set_option maxHeartbeats 1000000 in
theorem refCheck_calls (cs : Array Value) (hs : List Int) (R : Option Addr) (n c : Nat) (m : Int) (hcs : cs = sumC hs R n c m) (hh : hs.length = 8) (hn : n ≤ 9223372036854775807) (hm : 0 ≤ m) (w : World) :
    Calls Tryd.prog 17 #[.agg cs] w fun e w' => e = .returned (.int .i64 (checkA n m)) ∧ Below w.heap.size w w' := by
  subst hcs
  obtain ⟨h0, h1, h2, h3, h4, h5, h6, h7, rfl⟩ := eight hh
  have HQ1 := Aside0.mk (heap_alloc_new w (.cells (sumC [h0, h1, h2, h3, h4, h5, h6, h7] R n c m) 34))
  have HB0 := Aside0.mk (below_alloc (Below.refl w.heap.size w) (.cells (sumC [h0, h1, h2, h3, h4, h5, h6, h7] R n c m) 34))
  have HN := Aside0.mk hn
  have HM := Aside0.mk hm
  clear hn hm
  rcases checkA_cases n m with hck | hck
  · have HCK : Aside0 ((checkA n m == 0) = true) := ⟨by rw [hck]; rfl⟩
    have HE := Aside0.mk hck
    clear hck
    go_enter Tryd.func17, Tryd.ntmps17
    repeat (first
      | ((with_reducible refine wpList_load 34 (.tmp 1) w.heap.size _ _ _ rfl rfl ?hx HQ1.out Tryd.underlying34 ?hd ?hi ?_); (case hx => rfl); (case hd => rfl); (case hi => rfl))
      | (go_at_call 25; (with_reducible refine (may_calls _ [h0, h1, h2, h3, h4, h5, h6, h7] R n c m ?hcs rfl HN.out HM.out _).mono ?_); (case hcs => rfl); rintro e2 w2 ⟨rfl, hb2⟩; rw [HCK.out]; have HB2 := Aside0.mk (bl HB0.out hb2); clear hb2; dsimp only)
      | go_values | go_guarded | go_step | go_upon | go_back)
    go_ret
    exact ⟨by rw [HE.out]; rfl, HB2.out⟩
  · have HCK : Aside0 ((checkA n m == 0) = false) := ⟨by rw [hck]; rfl⟩
    have HE := Aside0.mk hck
    clear hck
    go_enter Tryd.func17, Tryd.ntmps17
    repeat (first
      | ((with_reducible refine wpList_load 34 (.tmp 1) w.heap.size _ _ _ rfl rfl ?hx HQ1.out Tryd.underlying34 ?hd ?hi ?_); (case hx => rfl); (case hd => rfl); (case hi => rfl))
      | (go_at_call 25; (with_reducible refine (may_calls _ [h0, h1, h2, h3, h4, h5, h6, h7] R n c m ?hcs rfl HN.out HM.out _).mono ?_); (case hcs => rfl); rintro e2 w2 ⟨rfl, hb2⟩; rw [HCK.out]; have HB2 := Aside0.mk (bl HB0.out hb2); clear hb2; dsimp only)
      | go_values | go_guarded | go_step | go_upon | go_back)
    go_ret
    exact ⟨by rw [HE.out]; rfl, HB2.out⟩

theorem came_cs (cs : Array Value) (hs : List Int) (R : Option Addr) (rc : Nat) (l1 : List Int) (m : Int) (A : Option Addr) (c : Nat) (l2 : List Int) (hcs : cs = sumC hs R l1.length rc m) (hh : hs.length = 8) (w : World) (h1 : Kd.C (Kd.int .u8) w R l1.length l1) (hc1 : l1.length ≤ rc) (h2 : Kd.C (Kd.int .u8) w A l2.length l2) (hc2 : l2.length ≤ c) (hm : l1.length + l2.length ≤ 1000000) :
    Calls Tryd.prog 24 #[.agg cs, .slice A l2.length c] w fun e w' => ∃ R' c', e = .returned (.agg (sumC (comeA hs (l1 ++ l2)).1 R' (comeA hs (l1 ++ l2)).2.length c' ((m + l2.length) % 18446744073709551616))) ∧ (comeA hs (l1 ++ l2)).2.length ≤ c' ∧ Kd.F (Kd.int .u8) w' (fun k => w.heap.size + 1 < k) R' (comeA hs (l1 ++ l2)).2.length (comeA hs (l1 ++ l2)).2 ∧ Below w.heap.size w w' := by
  subst hcs
  exact came_calls hs R rc l1 m A c l2 hh w h1 hc1 h2 hc2 hm

set_option maxHeartbeats 4000000 in
set_option maxRecDepth 100000 in
theorem refMore_any (cs : Array Value) (hs : List Int) (R : Option Addr) (rc : Nat) (l1 : List Int) (m : Int) (A : Option Addr) (c : Nat) (l2 : List Int) (hcs : cs = sumC hs R l1.length rc m) (hh : hs.length = 8) (w : World) (h1 : Kd.C (Kd.int .u8) w R l1.length l1) (hc1 : l1.length ≤ rc) (h2 : Kd.C (Kd.int .u8) w A l2.length l2) (hc2 : l2.length ≤ c) (hlen : l1.length + l2.length ≤ 1000000) (hm : 0 ≤ m) :
    Calls Tryd.prog 12 #[.agg cs, .slice A l2.length c] w fun e w' => ∃ R' c', e = .returned (.tuple #[.agg (sumC (moreS hs l1 m l2).1 R' (moreS hs l1 m l2).2.1.length c' (moreS hs l1 m l2).2.2), .int .i64 (moreE l1.length m l2.length)]) ∧ (moreS hs l1 m l2).2.1.length ≤ c' ∧ Kd.F (Kd.int .u8) w' (fun k => w.heap.size ≤ k) R' (moreS hs l1 m l2).2.1.length (moreS hs l1 m l2).2.1 ∧ Below w.heap.size w w' := by
  subst hcs
  obtain ⟨h0, h1', h2', h3, h4, h5, h6, h7, rfl⟩ := eight hh
  obtain ⟨hq1, hq2⟩ := alloc2 w (.cells (sumC [h0, h1', h2', h3, h4, h5, h6, h7] R l1.length rc m) 34) (.cells zeroS 34)
  have HQ1 := Aside0.mk hq1
  have HQ2 := Aside0.mk hq2
  have HB0 := Aside0.mk (below_alloc (below_alloc (Below.refl w.heap.size w) (.cells (sumC [h0, h1', h2', h3, h4, h5, h6, h7] R l1.length rc m) 34)) (.cells zeroS 34))
  have HN : Aside0 (l1.length ≤ 9223372036854775807) := ⟨by omega⟩
  have HM := Aside0.mk hm
  clear hq1 hq2
  by_cases hck : checkA l1.length m = 0
  · have HCK : Aside0 ((checkA l1.length m == 0) = true) := ⟨by rw [hck]; rfl⟩
    have hm1 := (checkA_ok hck).1
    have hw2 : IntKind.u64.wrap (l2.length : Int) = (l2.length : Int) := by
      rw [show ∀ z, IntKind.u64.wrap z = z % 18446744073709551616 from fun _ => rfl]
      omega
    have hadd : IntKind.u64.wrap (m + (l2.length : Int)) = m + (l2.length : Int) := by
      rw [show ∀ z, IntKind.u64.wrap z = z % 18446744073709551616 from fun _ => rfl]
      omega
    by_cases hmany : (l2.length : Int) ≥ 72057594037927936 - m
    · have hd : decide (72057594037927936 ≤ m + (l2.length : Int)) = true := decide_eq_true (by omega)
      have he : moreE l1.length m l2.length = 4 := by unfold moreE; rw [if_neg (by simpa using hck), if_pos hmany]
      have hs' : moreS [h0, h1', h2', h3, h4, h5, h6, h7] l1 m l2 = (List.replicate 8 0, [], 0) := by unfold moreS; rw [he]; rfl
      rw [he, hs']
      clear hck hmany he hs' h1 hc1 h2 hc2 hm hh
      go_enter Tryd.func12, Tryd.ntmps12
      repeat (first
        | ((with_reducible refine wpList_load 34 (.tmp 2) w.heap.size _ _ _ rfl rfl ?hx HQ1.out Tryd.underlying34 ?hd ?hi ?_); (case hx => rfl); (case hd => rfl); (case hi => rfl))
        | (go_at_call 25; (with_reducible refine (may_calls _ [h0, h1', h2', h3, h4, h5, h6, h7] R l1.length rc m ?hcs rfl HN.out HM.out _).mono ?_); (case hcs => rfl); rintro e2 w2 ⟨rfl, hb2⟩; rw [HCK.out]; have HB2 := Aside0.mk (bl HB0.out hb2); have HZ2 := Aside0.mk (blk_below HQ2.out hb2); have hc9 : w2.cell? ⟨w.heap.size, 9, none⟩ = some (.int .u64 m) := blk_cell (blk_below HQ1.out hb2) 9; clear hb2; dsimp only)
        | ((with_reducible refine wpList_store 34 (.tmp 4) (.tmp 17) (w.heap.size + 1) _ _ zeroS rfl rfl ?hx ?hy HZ2.out ?hs ?hi ?h1 ?_); (case h1 => exact one_sum [0, 0, 0, 0, 0, 0, 0, 0] _ _ rfl rfl); (case hs => rfl); (case hx => rfl); (case hy => rfl); (case hi => rfl); intro w1 g1 g2 g3 g4; have HG1 := Aside0.mk g1; have HG3 := Aside0.mk (g3 w.heap.size w HB2.out (by omega)); clear g1 g2 g3 g4)
        | go_values | go_guarded | go_step | go_upon | go_back)
      refine bodyPost_ret (results_list (rs := [.cell 4 34, .tmp 5]) rfl (by simp) (.cell (w.heap.size + 1) _ _ (0, 0) _ rfl HG1.out Tryd.underlying34 rfl rfl (.tmp .nil))) rfl ?_
      exact ⟨none, 0, rfl, Nat.le_refl _, Kd.F_nil _ _ _, HG3.out⟩
    · have hd : decide (72057594037927936 ≤ m + (l2.length : Int)) = false := decide_eq_false (by omega)
      have he : moreE l1.length m l2.length = 0 := by unfold moreE; rw [if_neg (by simpa using hck), if_neg hmany]
      have hs' : moreS [h0, h1', h2', h3, h4, h5, h6, h7] l1 m l2 = ((comeA [h0, h1', h2', h3, h4, h5, h6, h7] (l1 ++ l2)).1, (comeA [h0, h1', h2', h3, h4, h5, h6, h7] (l1 ++ l2)).2, (m + l2.length) % 18446744073709551616) := by unfold moreS; rw [he]; rfl
      rw [he, hs']
      have hl8 := comeA_length (hs := [h0, h1', h2', h3, h4, h5, h6, h7]) rfl (l1 ++ l2)
      generalize hq : comeA [h0, h1', h2', h3, h4, h5, h6, h7] (l1 ++ l2) = q at *
      obtain ⟨hs1, r1⟩ := q
      have HQQ := Aside0.mk hq
      have H1 := Aside0.mk h1
      have HC1 := Aside0.mk hc1
      have H2 := Aside0.mk h2
      have HC2 := Aside0.mk hc2
      have HL := Aside0.mk hlen
      dsimp only at hl8
      clear hck hmany he hs' h1 hc1 h2 hc2 hm hh hq hlen
      go_enter Tryd.func12, Tryd.ntmps12
      repeat (first
        | ((with_reducible refine wpList_load 34 (.tmp 2) w.heap.size _ _ _ rfl rfl ?hx HQ1.out Tryd.underlying34 ?hd ?hi ?_); (case hx => rfl); (case hd => rfl); (case hi => rfl))
        | (go_at_call 25; (with_reducible refine (may_calls _ [h0, h1', h2', h3, h4, h5, h6, h7] R l1.length rc m ?hcs rfl HN.out HM.out _).mono ?_); (case hcs => rfl); rintro e2 w2 ⟨rfl, hb2⟩; rw [HCK.out]; have HB2 := Aside0.mk (bl HB0.out hb2); have HZ2 := Aside0.mk (blk_below HQ2.out hb2); have HS2 := Aside0.mk (blk_below HQ1.out hb2); have hc9 : w2.cell? ⟨w.heap.size, 9, none⟩ = some (.int .u64 m) := blk_cell (blk_below HQ1.out hb2) 9; clear hb2 HQ1; dsimp only)
        | ((with_reducible refine wpList_load 34 (.tmp 2) w.heap.size _ _ _ rfl rfl ?hx HS2.out Tryd.underlying34 ?hd ?hi ?_); (case hx => rfl); (case hd => rfl); (case hi => rfl))
        | (go_at_call 24; (with_reducible refine (came_cs _ [h0, h1', h2', h3, h4, h5, h6, h7] R rc l1 m A c l2 ?hcs rfl w2 (Kd.C_below H1.out HB2.out) HC1.out (Kd.C_below H2.out HB2.out) HC2.out HL.out).mono ?_); (case hcs => rfl); rintro e3 w3 ⟨R3, c3, rfl, hc3, hr3, hb3⟩; rw [HQQ.out] at hc3 hr3 ⊢; dsimp only at hc3 hr3 ⊢; have HB3 := Aside0.mk (bl HB2.out hb3); have HZ3 := Aside0.mk (blk_below HZ2.out hb3); have hlz := blk_lt HZ2.out; have HC3 := Aside0.mk hc3; have HF3 := Aside0.mk (Kd.F_mono hr3 (ok' := fun k => w.heap.size + 1 < k) (fun k hk => by omega)); clear hc3 hr3 hb3)
        | ((with_reducible refine wpList_store 34 (.tmp 4) (.tmp 20) (w.heap.size + 1) _ _ (sumC hs1 R3 r1.length c3 ((m + (l2.length : Int)) % 18446744073709551616)) rfl rfl ?hx ?hy HZ3.out ?hs ?hi ?h1 ?_); (case h1 => exact one_sum _ _ _ rfl rfl); (case hs => rw [sum_size _ _ _ _ hl8]; rfl); (case hx => rfl); (case hy => rfl); (case hi => rw [sum_size _ _ _ _ hl8]; rfl); intro w1 g1 g2 g3 g4; have HG1 := Aside0.mk g1; have HF1 := Aside0.mk (Kd.F_step HF3.out (fun k hk _ => g2 k (by omega))); have HG3 := Aside0.mk (g3 w.heap.size w HB3.out (by omega)); clear g1 g2 g3 g4)
        | go_values | go_guarded | go_step | go_upon | go_back)
      refine bodyPost_ret (results_list (rs := [.cell 4 34, .tmp 5]) rfl (by simp) (.cell (w.heap.size + 1) _ _ (0, 0) _ rfl HG1.out Tryd.underlying34 rfl (by rw [sum_size _ _ _ _ hl8]; rfl) (.tmp .nil))) rfl ?_
      exact ⟨R3, c3, rfl, HC3.out, Kd.F_mono HF1.out (fun k hk => by omega), HG3.out⟩
  · have hb : checkA l1.length m = 8 := by rcases checkA_cases l1.length m with h | h; exact absurd h hck; exact h
    have HCK : Aside0 ((checkA l1.length m == 0) = false) := ⟨by rw [hb]; rfl⟩
    have he : moreE l1.length m l2.length = 8 := by unfold moreE; rw [if_pos (by simpa using hck), hb]
    have hs' : moreS [h0, h1', h2', h3, h4, h5, h6, h7] l1 m l2 = (List.replicate 8 0, [], 0) := by unfold moreS; rw [he]; rfl
    rw [he, hs']
    clear hck hb he hs' h1 hc1 h2 hc2 hm hh
    go_enter Tryd.func12, Tryd.ntmps12
    repeat (first
      | ((with_reducible refine wpList_load 34 (.tmp 2) w.heap.size _ _ _ rfl rfl ?hx HQ1.out Tryd.underlying34 ?hd ?hi ?_); (case hx => rfl); (case hd => rfl); (case hi => rfl))
      | (go_at_call 25; (with_reducible refine (may_calls _ [h0, h1', h2', h3, h4, h5, h6, h7] R l1.length rc m ?hcs rfl HN.out HM.out _).mono ?_); (case hcs => rfl); rintro e2 w2 ⟨rfl, hb2⟩; rw [HCK.out]; have HB2 := Aside0.mk (bl HB0.out hb2); have HZ2 := Aside0.mk (blk_below HQ2.out hb2); clear hb2; dsimp only)
      | ((with_reducible refine wpList_store 34 (.tmp 4) (.tmp 9) (w.heap.size + 1) _ _ zeroS rfl rfl ?hx ?hy HZ2.out ?hs ?hi ?h1 ?_); (case h1 => exact one_sum [0, 0, 0, 0, 0, 0, 0, 0] _ _ rfl rfl); (case hs => rfl); (case hx => rfl); (case hy => rfl); (case hi => rfl); intro w1 g1 g2 g3 g4; have HG1 := Aside0.mk g1; have HG3 := Aside0.mk (g3 w.heap.size w HB2.out (by omega)); clear g1 g2 g3 g4)
      | go_values | go_guarded | go_step | go_upon | go_back)
    refine bodyPost_ret (results_list (rs := [.cell 4 34, .tmp 5]) rfl (by simp) (.cell (w.heap.size + 1) _ _ (0, 0) _ rfl HG1.out Tryd.underlying34 rfl rfl (.tmp .nil))) rfl ?_
    exact ⟨none, 0, rfl, Nat.le_refl _, Kd.F_nil _ _ _, HG3.out⟩
end Go.Proofs.YtfijclinefmbfaaDoor
