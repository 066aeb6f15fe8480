/-
The document's Came, Begin, May, Check, More: digests under way.
-/
import Derived.Test.YtncipbbdboeinaaDoorRefTurn
import Derived.Test.YtncipbbdboeinaaDoorShaBig
namespace Go.Proofs.YtncipbbdboeinaaDoor
open Go.RowKit Go.Proofs.YtncipbbdboeinaaDoorW.PrintWords Go.Proofs.YtncipbbdboeinaaDoorW.PrintLast Go.Proofs.YtncipbbdboeinaaDoorW.PrintMore Go.Proofs.YtncipbbdboeinaaDoor.PAll
set_option linter.unusedVariables false
set_option linter.unusedSimpArgs false

section
variable {P : Program} {op : Oper} {a : Act} {w : World} {Q : Exit → Act → World → Prop}
theorem exec_part {ty : TypeId} {x : Operand} {b u : Nat} {vs tail : List Value} {d : TypeDesc} (ho : op.op = .load ty x) (hx : a.eval x = .pointer (some ⟨b, 0, none⟩)) (hg : w.heap[b]? = some (.cells ⟨vs ++ tail⟩ u (0, 0))) (hu : P.underlying ty = some d) (hd : d.isRow = true) (hi : (P.info? ty).map (·.size) = some vs.length) :
    (execOp a.eval op).run P w = .ok (.value (.agg ⟨vs⟩)) w := by
  have hl := run_loadAt_mid w b 0 ty vs d (fun j v hv => by
    rw [Nat.zero_add, blk_cell hg j, List.getElem?_toArray, List.getElem?_append_left (List.getElem?_eq_some_iff.1 hv).1]
    exact hv) hu hd hi
  unfold execOp
  simp only [ho, hx, Sem.run_bind, hl, Result.andThen_ok, Sem.run_pure]
/-- A part of a block, from its beginning on, is written. -/
theorem op_store_part {K : Act → World → Prop} (ty : TypeId) (x y : Operand) (b u : Nat) (vs vs' tail : List Value) (ho : op.op = .store ty x y) (hx : a.eval x = .pointer (some ⟨b, 0, none⟩)) (hy : a.eval y = .agg ⟨vs'⟩) (hg : w.heap[b]? = some (.cells ⟨vs ++ tail⟩ u (0, 0)))
    (hs : vs.length = vs'.length) (hi : (P.info? ty).map (·.size) = some vs'.length) (h1 : ∀ v ∈ vs', v.oneCell' = true)
    (h : ∀ w1, w1.heap[b]? = some (.cells ⟨vs' ++ tail⟩ u (0, 0)) → (∀ k, k ≠ b → w1.heap[k]? = w.heap[k]?) → (∀ B w0, Below B w0 w → B ≤ b → Below B w0 w1) → w1.heap.size = w.heap.size → K (a.put op.dst undef) w1) : op.wp P a w K Q := by
  refine wp_store_mid ty x y ho b 0 ⟨vs'⟩ hx hy (fun j hj => ⟨?_, ?_⟩) hi ?_ (h _ ?_ ?_ ?_ ?_)
  · rw [blk_cell hg]
    have : j < vs'.length := hj
    simp
    omega
  · exact blk_frozen hg _
  · exact Array.all_eq_true_iff_forall_mem.2 (fun v hv => h1 v (by simpa using hv))
  · obtain ⟨cur, q1, q2, q3⟩ := setCells_row vs' 0 w ⟨vs ++ tail⟩ hg (by simp; omega)
    have : cur.toList = vs' ++ tail := by
      rw [q3, List.take_zero, List.nil_append]
      simp [hs]
    rw [q1, show cur = ⟨vs' ++ tail⟩ from by rw [← this]]
  · exact fun k hk => setCells_far _ 0 k hk
  · exact fun B w0 hb hle => setAll_below _ hb hle
  · exact (setCells_same b _ 0 w).2.2.2
end
theorem refTurn_any (A : Option Addr) (c0 : Nat) (b hs : List Int) (hb : b.length = 64) (hh : hs.length = 8) (w : World) (hr : Kd.C (Kd.int .u8) w A 64 b) (hc : 64 ≤ c0) :
    Calls Tryd.prog 38 #[.agg ⟨hs.map (Value.int .u32)⟩, .slice A 64 c0] w fun e w' => e = .returned (.agg ⟨(turnA hs b).map (Value.int .u32)⟩) ∧ Below w.heap.size w w' := by
  obtain ⟨ad, rfl, _⟩ := hr.2.2 (by omega)
  exact refTurn_calls ad c0 b hs hb hh w hr hc

set_option maxHeartbeats 4000000 in
set_option maxRecDepth 100000 in
theorem came_calls (hs : List Int) (R : Option Addr) (rc : Nat) (l1 : List Int) (m : Int) (A : Option Addr) (c : Nat) (l2 : List Int) (hh : hs.length = 8) (w : World) (h1 : Kd.C (Kd.int .u8) w R l1.length l1) (hc1 : l1.length ≤ rc) (h2 : Kd.C (Kd.int .u8) w A l2.length l2) (hc2 : l2.length ≤ c) (hm : l1.length + l2.length ≤ 1000000) :
    Calls Tryd.prog 31 #[.agg (sumC hs R l1.length rc m), .slice A l2.length c] w fun e w' => ∃ R' c', e = .returned (.agg (sumC (comeA hs (l1 ++ l2)).1 R' (comeA hs (l1 ++ l2)).2.length c' ((m + l2.length) % 18446744073709551616))) ∧ (comeA hs (l1 ++ l2)).2.length ≤ c' ∧ Kd.F (Kd.int .u8) w' (fun k => w.heap.size + 1 < k) R' (comeA hs (l1 ++ l2)).2.length (comeA hs (l1 ++ l2)).2 ∧ Below w.heap.size w w' := by
  obtain ⟨h0, h1', h2', h3, h4, h5, h6, h7, rfl⟩ := eight hh
  obtain ⟨hq1, hq2⟩ := alloc2 w (.cells (sumC [h0, h1', h2', h3, h4, h5, h6, h7] R l1.length rc m) 55) (.cells zeroS 55)
  have hc8 : ((w.alloc (.cells (sumC [h0, h1', h2', h3, h4, h5, h6, h7] R l1.length rc m) 55)).alloc (.cells zeroS 55)).cell? ⟨w.heap.size, 8, none⟩ = some (.slice R l1.length rc) := blk_cell hq1 8
  have hbl0 := below_alloc (below_alloc (Below.refl w.heap.size w) (.cells (sumC [h0, h1', h2', h3, h4, h5, h6, h7] R l1.length rc m) 55)) (.cells zeroS 55)
  have hsz0 : w.heap.size + 1 < ((w.alloc (.cells (sumC [h0, h1', h2', h3, h4, h5, h6, h7] R l1.length rc m) 55)).alloc (.cells zeroS 55)).heap.size := by simp
  have H1 := Aside0.mk h1
  have H2 := Aside0.mk h2
  have HC1 := Aside0.mk hc1
  have HC2 := Aside0.mk hc2
  have HM := Aside0.mk hm
  have hm2 : (l2.length : Int) ≤ 1000000 := by omega
  clear h1 h2 hc1 hc2 hm hh
  go_enter Tryd.func31, Tryd.ntmps31
  repeat ((fail_if_success (with_reducible refine gate_dst (N := 6) rfl ?_)); (first | go_values | go_guarded | go_step | go_upon | go_back))
  generalize hX : (w.alloc _).alloc _ = W0
  have hW0 : (w.alloc (.cells (sumC [h0, h1', h2', h3, h4, h5, h6, h7] R l1.length rc m) 55)).alloc (.cells zeroS 55) = W0 := hX
  rw [hW0] at hq1 hq2 hc8 hbl0 hsz0
  clear hX hW0
  have HQ1 := Aside0.mk hq1
  have HQ2 := Aside0.mk hq2
  have HB0 := Aside0.mk hbl0
  clear hq1 hq2 hbl0
  repeat (first
    | ((with_reducible refine gate_dst (N := 6) rfl ?_); refine Kd.R_lit (Kd.int .u8) _ 5 ?hg (N := 6) ?hd (xs := ([] : List Int)) (inner := []) (ok := fun _ => True) (okp := fun _ => True) ?hr ?hp (fun _ hk => hk) trivial (Below.refl _ _) (Nat.le_refl _) (by simp) ?_; (case hd => rfl); (case hg => rfl); (case hr => first | (go_simp; done) | (go_simp; rfl)); (case hp => exact (Reps.none _ _)); intro v1 w1 ho hb hg_ hnew_; have HB1 := Aside0.mk hb; have HO1 := Aside0.mk ho; have hc9 : w1.cell? ⟨w.heap.size, 8, none⟩ = some (.slice R l1.length rc) := blk_cell (blk_below HQ1.out hb) 8; clear hg_ hnew_ ho hb hc8)
    | ((with_reducible refine gate_builtin (b := .append) (xs := #[.tmp 6, .tmp 8]) rfl ?_); at_builtin; refine Kd.R_append_rows (Kd.int .u8) (w0 := W0) W0.heap.size rfl (.tmp 6) (.tmp 8) 22 5 (.int .u8 0) 1 rfl Tryd.underlying22 info5 rfl (by decide) (by omega) v1 [] l1 _ _ _ (fun _ => True) (fun _ => False) rfl rfl ?aO ?aR (fun _ _ h => h) (fun _ h => h.elim) ?aF ?aB ?aS ?aL ?_; (case aR => exact Kd.C_below H1.out (bl HB0.out HB1.out)); (case aB => exact HB1.out); (case aF => exact (fun _ _ => trivial)); (case aO => exact HO1.out); (case aS => exact HB1.out.size); (case aL => have := HM.out; simp; omega); intro v2 w2 ho hb hg hat; rw [List.nil_append] at ho; have HB2 := Aside0.mk hb; have HO2 := Aside0.mk ho; clear ho hb hg hat HO1 HB1 hc9)
    | ((with_reducible refine gate_builtin (b := .append) (xs := #[.tmp 9, .tmp 10]) rfl ?_); at_builtin; refine Kd.R_append_rows (Kd.int .u8) (w0 := W0) W0.heap.size rfl (.tmp 9) (.tmp 10) 22 5 (.int .u8 0) 1 rfl Tryd.underlying22 info5 rfl (by decide) (by omega) v2 l1 l2 _ _ _ (fun _ => True) (fun _ => False) rfl rfl ?aO ?aR (fun _ _ h => h) (fun _ h => h.elim) ?aF ?aB ?aS ?aL ?_; (case aR => exact Kd.C_below H2.out (bl HB0.out HB2.out)); (case aB => exact HB2.out); (case aF => exact (fun _ _ => trivial)); (case aO => exact HO2.out); (case aS => exact HB2.out.size); (case aL => have := HM.out; simp; omega); intro v3 w3 ho hb hg hat; obtain ⟨A3, c3, rfl⟩ := Kd.R_slice ho; have HC3 := Aside0.mk (Kd.R_reads' ho).2.1; have HF3 := Aside0.mk (Kd.F_mono (Kd.R_F (Kd.R_bound ho)) (ok' := fun k => w.heap.size + 1 < k) (fun k hk => by have := hk.2.1; omega)); have HB3 := Aside0.mk (bl HB0.out hb); have HG3 := Aside0.mk (blk_below HQ1.out hb); have HZ3 := Aside0.mk (blk_below HQ2.out hb); clear ho hb hg hat HO2 HB2 HQ1 HQ2 HB0)
    | go_values | go_guarded | go_step | go_upon | go_back)
  go_loopw [5] (fun v5 wr => ∃ (hs r : List Int) (R' : Option Addr) (c' q : Nat), v5 = .slice R' q c' ∧ q = r.length ∧ hs.length = 8 ∧ comeA hs r = comeA [h0, h1', h2', h3, h4, h5, h6, h7] (l1 ++ l2) ∧ r.length ≤ c' ∧ Aside0 (wr.heap[w.heap.size]? = some (.cells (sumC hs R l1.length rc m) 55 (0, 0))) ∧ Aside0 (wr.heap[w.heap.size + 1]? = some (.cells zeroS 55 (0, 0))) ∧ Aside0 (Kd.F (Kd.int .u8) wr (fun k => w.heap.size + 1 < k) R' r.length r) ∧ Aside0 (Below w.heap.size w wr)) (fun v5 _ => lenOf v5)
  case atStart => exact ⟨_, l1 ++ l2, A3, c3, _, rfl, by simp, rfl, rfl, HC3.out, HG3, HZ3, HF3, HB3⟩
  case round =>
    clear HC3 HG3 HZ3 HF3 HB3
    obtain ⟨hs, r, R', c', q, rfl, rfl, hh8, hce, hrc, HG, HZ, HF, HB⟩ := hrel
    obtain ⟨s0, s1, s2, s3, s4, s5, s6, s7, rfl⟩ := eight hh8
    have hl63 : (r.length : Int) ≤ 9223372036854775807 := by have := Kd.F_max HF.out; omega
    have HCE := Aside0.mk hce
    have HRC := Aside0.mk hrc
    clear hh8 hce hrc
    by_cases hlt : r.length < 64
    · have hd1 : decide ((64 : Int) ≤ (r.length : Int)) = false := decide_eq_false (by omega)
      have hc9 : wr.cell? ⟨w.heap.size, 9, none⟩ = some (.int .u64 m) := blk_cell HG.out 9
      have hce := HCE.out
      rw [comeA_small hlt] at hce
      have HCE1 := Aside0.mk hce
      clear hlt hce HCE
      repeat (first
        | ((with_reducible refine wpList_part_g 53 (.tmp 23) w.heap.size _ ([s0, s1, s2, s3, s4, s5, s6, s7].map (Value.int .u32)) _ _ ?hw rfl ?hx HG.out Tryd.underlying53 ?hd ?hi ?_); (case hw => rfl); (case hx => rfl); (case hd => rfl); (case hi => rfl))
        | ((with_reducible refine wpList_store 55 (.tmp 4) (.tmp 32) (w.heap.size + 1) _ _ (sumC [s0, s1, s2, s3, s4, s5, s6, s7] R' r.length c' ((m + l2.length) % 18446744073709551616)) rfl rfl ?hx ?hy HZ.out ?hs ?hi ?h1 ?_); (case h1 => exact one_sum _ _ _ rfl rfl); (case hs => rfl); (case hx => rfl); (case hy => rfl); (case hi => rfl); intro w5 q1 q2 q3 q4; have HG5 := Aside0.mk q1; have HF5 := Aside0.mk (Kd.F_step HF.out (fun k hk _ => q2 k (by omega))); have HB5 := Aside0.mk (q3 w.heap.size w HB.out (by omega)); clear q1 q2 q3 q4)
        | go_values | go_guarded | go_step | go_upon | go_back)
      refine bodyPost_ret (results_single rfl (.cell (w.heap.size + 1) _ _ (0, 0) _ rfl HG5.out Tryd.underlying55 rfl rfl .nil)) rfl ?_
      refine ⟨R', c', by rw [← HCE1.out], by rw [← HCE1.out]; exact HRC.out, ?_, HB5.out⟩
      rw [← HCE1.out]
      exact HF5.out
    · have hd1 : decide ((64 : Int) ≤ (r.length : Int)) = true := decide_eq_true (by omega)
      have hle : 64 ≤ r.length := by omega
      obtain ⟨i0, hi0, _, hsz0, _⟩ := info_parts info5
      obtain ⟨hcut1, _, _⟩ := print_take_of (P := Tryd.prog) (Value.int .u8) 0 22 5 .i64 Tryd.underlying22 hi0 hsz0 R' c' r 64 (by omega) (by omega) HRC.out
      have hl64 : (r.take 64).length = 64 := by rw [List.length_take]; omega
      rw [show (List.take (Int.toNat 64) r).length = 64 from hl64] at hcut1
      have hcut2 : ∀ W, (Instr.slice 22 (.slice R' r.length c') (some (.int .i64 64)) none none).run Tryd.prog W = .ok (.slice (if c' = 64 then R' else R'.map (·.add 64)) (r.length - 64) (c' - 64)) W := fun W => run_cut_from (P := Tryd.prog) 22 5 Tryd.underlying22 hi0 hsz0 R' r.length c' 64 hle W
      have hF1 := Kd.F_take HF.out hle
      have hF2 := Kd.F_cut HF.out hle HRC.out
      rw [hl64] at hF1
      simp only [Kd.int, Kd.scalar, Nat.mul_one] at hF2
      generalize hR2 : (if c' = 64 then R' else R'.map (·.add 64)) = R2 at hcut2 hF2
      have hdl : (r.drop 64).length = r.length - 64 := List.length_drop
      rw [comeA_step hlt] at HCE
      obtain ⟨t0, t1, t2, t3, t4, t5, t6, t7, ht8⟩ := eight (turnA_length8 (hs := [s0, s1, s2, s3, s4, s5, s6, s7]) rfl (r.take 64))
      rw [ht8] at HCE
      have HT8 := Aside0.mk ht8
      have HF1 := Aside0.mk hF1
      have HF2 := Aside0.mk hF2
      have HD := Aside0.mk hdl
      have HL := Aside0.mk hle
      clear hR2 hF1 hF2 hdl hle hi0 hsz0 hlt HF ht8
      have HT1 := Aside0.mk (fun (W : World) (hF : Kd.F (Kd.int .u8) W (fun k => w.heap.size + 1 < k) R' 64 (r.take 64)) => refTurn_any R' c' (r.take 64) [s0, s1, s2, s3, s4, s5, s6, s7] hl64 rfl W (Kd.F_now hF) (by have := HRC.out; have := HL.out; omega))
      clear hl64
      go_wp2
      refine start_ (n := 7) (S := fun w' => w'.heap[w.heap.size]? = some (.cells (sumC [s0, s1, s2, s3, s4, s5, s6, s7] R l1.length rc m) 55 (0, 0)) ∧ w'.heap[w.heap.size + 1]? = some (.cells zeroS 55 (0, 0)) ∧ Kd.F (Kd.int .u8) w' (fun k => w.heap.size + 1 < k) R' 64 (r.take 64) ∧ Kd.F (Kd.int .u8) w' (fun k => w.heap.size + 1 < k) R2 (r.drop 64).length (r.drop 64) ∧ Below w.heap.size w w') (ds := [6]) #[false, false, false, false, false, false, false] (by kernel_rfl) rfl rfl ⟨blk_drew HG.out, blk_drew HZ.out, Kd.F_drew HF1.out, Kd.F_drew HF2.out, below_drew HB.out⟩ (fun hHeld => ?_)
      refine pure_ (i := 0) (N := (some 15)) (v := ?_) (a' := ?_) #[true, false, false, false, false, false, false] rfl rfl (by kernel_rfl) (fun _ _ _ h => h) (Or.inl ⟨by rfl, ?_⟩) ?_ ?_
      rotate_left
      · intro w'
        go_simp
        with_reducible rfl
      rotate_left
      · simp only [Act.put, List.setIfInBounds_toArray, List.set_cons_zero, List.set_cons_succ, i64_w, i32_w]
        rfl
      refine take_ (i := 1) (N := (some 16)) (v := ?_) (a' := ?_) #[true, true, false, false, false, false, false] rfl rfl (by kernel_rfl) (fun _ _ _ h => h) (Or.inl ⟨by rfl, ?_⟩) hHeld ?_ ?_
      rotate_left
      · rintro w' ⟨z0, z1, z2, z3, z4⟩
        refine exec_part (ty := 53) (x := .tmp 15) (vs := [s0, s1, s2, s3, s4, s5, s6, s7].map (Value.int .u32)) ?_ ?_ z0 Tryd.underlying53 rfl rfl
        · rfl
        · rfl
      rotate_left
      · simp only [Act.put, List.setIfInBounds_toArray, List.set_cons_zero, List.set_cons_succ, i64_w, i32_w]
        rfl
      refine pure_ (i := 2) (N := (some 17)) (v := ?_) (a' := ?_) #[true, true, true, false, false, false, false] rfl rfl (by kernel_rfl) (fun _ _ _ h => h) (Or.inl ⟨by rfl, ?_⟩) ?_ ?_
      rotate_left
      · intro w'
        go_simp
        with_reducible rfl
      rotate_left
      · simp only [Act.put, List.setIfInBounds_toArray, List.set_cons_zero, List.set_cons_succ, i64_w, i32_w]
        rfl
      refine pure_ (i := 3) (N := (some 18)) (v := ?_) (a' := ?_) #[true, true, true, true, false, false, false] rfl rfl (by kernel_rfl) (fun _ _ _ h => h) (Or.inl ⟨by rfl, ?_⟩) ?_ ?_
      rotate_left
      · intro w'
        go_simp
        with_reducible rfl
      rotate_left
      · simp only [Act.put, List.setIfInBounds_toArray, List.set_cons_zero, List.set_cons_succ, i64_w, i32_w]
        rfl
      refine one_ (i := 4) (N := (some 19)) #[true, true, true, true, true, false, false] rfl rfl (by kernel_rfl) (by decide) (fun K hK => ?_)
      refine goes_ Tryd.func38 (by kernel_rfl) rfl #[.agg ⟨[s0, s1, s2, s3, s4, s5, s6, s7].map (Value.int .u32)⟩, .slice R' 64 c'] (by rfl) rfl rfl (by (try simp only [List.map_toArray, List.map_cons, List.map_nil]); first | done | rfl) ?_
      refine (HT1.out _ hHeld.2.2.1).mono ?_
      rintro e w' ⟨he, hb⟩
      rw [HT8.out] at he
      subst he
      refine ⟨_, rfl, ?_⟩
      refine hK.out _ _ ⟨blk_below hHeld.1 hb, blk_below hHeld.2.1 hb, Kd.F_below hHeld.2.2.1 hb, Kd.F_below hHeld.2.2.2.1 hb, bl hHeld.2.2.2.2 hb⟩ (fun hHeld => ?_)
      clear hK K
      refine norm_ (a' := ?_) ?_ ?_
      rotate_left
      · show Act.put _ (some 19) _ = _
        simp only [Act.put, List.setIfInBounds_toArray, List.set_cons_zero, List.set_cons_succ, i64_w, i32_w]
        rfl
      refine pure_ (i := 5) (N := (some 20)) (v := ?_) (a' := ?_) #[true, true, true, true, true, true, false] rfl rfl (by kernel_rfl) (fun _ _ _ h => h) (Or.inl ⟨by rfl, ?_⟩) ?_ ?_
      rotate_left
      · intro w'
        go_simp
        with_reducible rfl
      rotate_left
      · simp only [Act.put, List.setIfInBounds_toArray, List.set_cons_zero, List.set_cons_succ, i64_w, i32_w]
        rfl
      refine last_ (i := 6) (N := none) #[true, true, true, true, true, true, true] rfl rfl (by kernel_rfl) (by decide) (fun K hK => ?_)
      refine ite_wanted rfl ?_
      refine op_store_part 53 (.tmp 20) (.tmp 19) w.heap.size _ ([s0, s1, s2, s3, s4, s5, s6, s7].map (Value.int .u32)) ([t0, t1, t2, t3, t4, t5, t6, t7].map (Value.int .u32)) [.slice R l1.length rc, .int .u64 m] rfl rfl rfl hHeld.1 rfl rfl (one_u32 [t0, t1, t2, t3, t4, t5, t6, t7]) ?_
      intro w6 q1 q2 q3 q4
      refine hK.out _ _ ?_
      clear hK K
      refine done_ (by kernel_rfl) ?_
      have HG6 := Aside0.mk q1
      have HZ6 := Aside0.mk ((q2 (w.heap.size + 1) (by omega)).trans hHeld.2.1)
      have HF6 := Aside0.mk (Kd.F_step hHeld.2.2.2.1 (fun k hk _ => q2 k (by omega)))
      have HB6 := Aside0.mk (q3 _ _ hHeld.2.2.2.2 (Nat.le_refl _))
      clear q1 q2 q3 q4 hHeld HG HZ HF1 HF2 HB
      go_wp2
      exact ⟨⟨[t0, t1, t2, t3, t4, t5, t6, t7], r.drop 64, R2, c' - 64, _, rfl, HD.out.symm, rfl, HCE.out, by rw [HD.out]; have := HRC.out; omega, HG6, HZ6, HF6, HB6⟩, by have := HL.out; simp [lenOf]; omega⟩
set_option maxHeartbeats 1000000 in
theorem refBegin_calls (w : World) : Calls Tryd.prog 32 #[] w fun e w' => e = .returned (.agg (sumC H0 none 0 0 0)) ∧ Below w.heap.size w w' := by
  have HZ0 := Aside0.mk (heap_alloc_new w (.cells zeroS 55))
  have HB0 := Aside0.mk (below_alloc (Below.refl w.heap.size w) (.cells zeroS 55))
  go_enter Tryd.func32, Tryd.ntmps32
  repeat (first
    | ((with_reducible refine wpList_store 55 (.tmp 0) (.tmp 2) w.heap.size _ _ (sumC H0 none 0 0 0) rfl rfl ?hx ?hy HZ0.out ?hs ?hi ?h1 ?_); (case h1 => exact one_sum _ _ _ rfl rfl); (case hs => rfl); (case hx => rfl); (case hy => rfl); (case hi => rfl); intro w1 g1 g2 g3 g4; have HG1 := Aside0.mk g1; have HG3 := Aside0.mk (g3 w.heap.size w HB0.out (Nat.le_refl _)); clear g1 g2 g3 g4)
    | go_values | go_guarded | go_step | go_upon | go_back)
  refine bodyPost_ret (results_single rfl (.cell w.heap.size _ _ (0, 0) _ rfl HG1.out Tryd.underlying55 rfl rfl .nil)) rfl ?_
  exact ⟨rfl, HG3.out⟩

theorem came_cs (cs : Array Value) (hs : List Int) (R : Option Addr) (rc : Nat) (l1 : List Int) (m : Int) (A : Option Addr) (c : Nat) (l2 : List Int) (hcs : cs = sumC hs R l1.length rc m) (hh : hs.length = 8) (w : World) (h1 : Kd.C (Kd.int .u8) w R l1.length l1) (hc1 : l1.length ≤ rc) (h2 : Kd.C (Kd.int .u8) w A l2.length l2) (hc2 : l2.length ≤ c) (hm : l1.length + l2.length ≤ 1000000) :
    Calls Tryd.prog 31 #[.agg cs, .slice A l2.length c] w fun e w' => ∃ R' c', e = .returned (.agg (sumC (comeA hs (l1 ++ l2)).1 R' (comeA hs (l1 ++ l2)).2.length c' ((m + l2.length) % 18446744073709551616))) ∧ (comeA hs (l1 ++ l2)).2.length ≤ c' ∧ Kd.F (Kd.int .u8) w' (fun k => w.heap.size + 1 < k) R' (comeA hs (l1 ++ l2)).2.length (comeA hs (l1 ++ l2)).2 ∧ Below w.heap.size w w' := by
  subst hcs
  exact came_calls hs R rc l1 m A c l2 hh w h1 hc1 h2 hc2 hm

end Go.Proofs.YtncipbbdboeinaaDoor

namespace Go.Proofs.YtncipbbdboeinaaDoor
open Go.RowKit Go.Proofs.YtncipbbdboeinaaDoorW.PrintWords Go.Proofs.YtncipbbdboeinaaDoorW.PrintLast Go.Proofs.YtncipbbdboeinaaDoorW.PrintMore Go.Proofs.YtncipbbdboeinaaDoor.PAll
set_option linter.unusedVariables false
set_option linter.unusedSimpArgs false

def lenN (N : Int) : List Int := (List.range 8).map fun i => N / 2 ^ (56 - 8 * i) % 256
theorem lenN_length (N : Int) : (lenN N).length = 8 := by simp [lenN]
theorem lenN_eq (m : Int) : lenN (8 * m % 18446744073709551616) = lenA m := by
  unfold lenN lenA
  rw [Int.mul_comm]
theorem tail_length (n : Nat) (m : Int) : (tailA n m).length = padZ n + 9 := by simp [tailA, lenA_length]
theorem comeA_nil (hs : List Int) : comeA hs [] = (hs, []) := comeA_small (by decide)

set_option maxHeartbeats 8000000 in
set_option maxRecDepth 100000 in
theorem ended_cs (cs : Array Value) (hs : List Int) (R : Option Addr) (rc : Nat) (r : List Int) (m : Int) (hcs : cs = sumC hs R r.length rc m) (hh : hs.length = 8) (w : World) (h1 : Kd.C (Kd.int .u8) w R r.length r) (hc1 : r.length ≤ rc) (hm : 0 ≤ m) (hr64 : r.length < 64) :
    Calls Tryd.prog 30 #[.agg cs] w fun e w' => e = .returned (.agg ⟨(endA hs r m).map (Value.int .u8)⟩) ∧ Below w.heap.size w w' := by
  subst hcs
  obtain ⟨h0, h1', h2', h3, h4, h5, h6, h7, rfl⟩ := eight hh
  obtain ⟨hq1, hq2⟩ := alloc2 w (.cells (sumC [h0, h1', h2', h3, h4, h5, h6, h7] R r.length rc m) 55) (.cells zeroD 29)
  have hc8 : ((w.alloc (.cells (sumC [h0, h1', h2', h3, h4, h5, h6, h7] R r.length rc m) 55)).alloc (.cells zeroD 29)).cell? ⟨w.heap.size, 8, none⟩ = some (.slice R r.length rc) := blk_cell hq1 8
  have hbl0 := below_alloc (below_alloc (Below.refl w.heap.size w) (.cells (sumC [h0, h1', h2', h3, h4, h5, h6, h7] R r.length rc m) 55)) (.cells zeroD 29)
  have hsz0 : w.heap.size + 1 < ((w.alloc (.cells (sumC [h0, h1', h2', h3, h4, h5, h6, h7] R r.length rc m) 55)).alloc (.cells zeroD 29)).heap.size := by simp
  have H1 := Aside0.mk h1
  have HC1 := Aside0.mk hc1
  have HR64 := Aside0.mk hr64
  clear h1 hc1 hm hh hr64
  go_enter Tryd.func30, Tryd.ntmps30
  repeat ((fail_if_success (with_reducible refine gate_dst (N := 9) rfl ?_)); (first | go_values | go_guarded | go_step | go_upon | go_back))
  generalize hX : (w.alloc _).alloc _ = W0
  have hW0 : (w.alloc (.cells (sumC [h0, h1', h2', h3, h4, h5, h6, h7] R r.length rc m) 55)).alloc (.cells zeroD 29) = W0 := hX
  rw [hW0] at hq1 hq2 hc8 hbl0 hsz0
  clear hX hW0
  have HQ1 := Aside0.mk hq1
  have HQ2 := Aside0.mk hq2
  have HB0 := Aside0.mk hbl0
  clear hq1 hq2 hbl0
  repeat (first
    | ((with_reducible refine gate_dst (N := 9) rfl ?_); refine Kd.R_lit (Kd.int .u8) _ 5 ?hg (N := 9) ?hd (xs := ([] : List Int)) (inner := []) (ok := fun _ => True) (okp := fun _ => True) ?hr ?hp (fun _ hk => hk) trivial (Below.refl _ _) (Nat.le_refl _) (by simp) ?_; (case hd => rfl); (case hg => rfl); (case hr => first | (go_simp; done) | (go_simp; rfl)); (case hp => exact (Reps.none _ _)); intro v1 w1 ho hb hg_ hnew_; have HB1 := Aside0.mk hb; have HO1 := Aside0.mk ho; have hc9 : w1.cell? ⟨w.heap.size, 8, none⟩ = some (.slice R r.length rc) := blk_cell (blk_below HQ1.out hb) 8; clear hg_ hnew_ ho hb hc8)
    | ((with_reducible refine gate_builtin (b := .append) (xs := #[.tmp 9, .tmp 11]) rfl ?_); at_builtin; refine Kd.R_append_rows (Kd.int .u8) (w0 := W0) W0.heap.size rfl (.tmp 9) (.tmp 11) 22 5 (.int .u8 0) 1 rfl Tryd.underlying22 info5 rfl (by decide) (by omega) v1 [] r _ _ _ (fun _ => True) (fun _ => False) rfl rfl ?aO ?aR (fun _ _ h => h) (fun _ h => h.elim) ?aF ?aB ?aS ?aL ?_; (case aR => exact Kd.C_below H1.out (bl HB0.out HB1.out)); (case aB => exact HB1.out); (case aF => exact (fun _ _ => trivial)); (case aO => exact HO1.out); (case aS => exact HB1.out.size); (case aL => have := HR64.out; simp; omega); intro v2 w2 ho hb hg hat; rw [List.nil_append] at ho; obtain ⟨A2, c2, rfl⟩ := Kd.R_slice ho; have HB2 := Aside0.mk hb; have HO2 := Aside0.mk ho; clear ho hb hg hat HO1 HB1 hc9)
    | ((with_reducible refine gate_dst (N := 14) rfl ?_); refine Kd.R_append (Kd.int .u8) (w0 := W0) W0.heap.size rfl (.tmp 12) (.tmp 13) 22 5 (.int .u8 0) 1 rfl Tryd.underlying22 info5 rfl (by decide) (by omega) (.slice A2 r.length c2) r 128 [.int .u8 128] (fun _ => True) (fun _ => False) rfl rfl rfl (fun _ hk => hk.elim) (fun _ _ => trivial) HO2.out HB2.out HB2.out.size (by have := HR64.out; simp; omega) ?_; intro v3 w3 ho hb hg hat; obtain ⟨A3, c3, hv3⟩ := Kd.R_slice ho; subst hv3; have HO3 := Aside0.mk ho; have HB3 := Aside0.mk hb; have HG3 := Aside0.mk (blk_below HQ1.out hb); have HZ3 := Aside0.mk (blk_below HQ2.out hb); clear ho hb hg hat HO2 HB2)
    | go_values | go_guarded | go_step | go_upon | go_back)
  have HP : Aside0 (padZ r.length ≤ 63 ∧ (r.length + 1 + padZ r.length) % 64 = 56 ∧ ∀ j, j < padZ r.length → (r.length + 1 + j) % 64 ≠ 56) := ⟨by have := HR64.out; unfold padZ; refine ⟨by omega, by omega, fun j hj => by omega⟩⟩
  go_loopw [3] (fun v3 wr => ∃ (A : Option Addr) (q c j : Nat), v3 = .slice A q c ∧ q = r.length + 1 + j ∧ j ≤ padZ r.length ∧ Aside0 (Kd.R (Kd.int .u8) 5 wr W0.heap.size (fun _ => True) (.slice A q c) (r ++ 128 :: List.replicate j 0)) ∧ Aside0 (Below W0.heap.size W0 wr)) (fun v3 _ => r.length + padZ r.length + 2 - lenOf v3)
  case atStart => exact ⟨A3, _, c3, 0, rfl, by simp, by omega, by simpa using HO3, HB3⟩
  case round =>
    clear HO3 HB3 HG3 HZ3
    obtain ⟨A, q, c, j, rfl, hq, hj, HO, HB⟩ := hrel
    have hql : (q : Int) ≤ 200 := by have := HP.out.1; have := HR64.out; omega
    have htm : Int.tmod (q : Int) 64 = (q : Int) % 64 := Int.tmod_eq_emod_of_nonneg (by omega)
    have HQJ := Aside0.mk hq
    by_cases hlt : j < padZ r.length
    · have hd1 : ((q : Int) % 64 != 56) = true := by
        have := HP.out.2.2 j hlt
        simp only [bne_iff_ne, ne_eq]
        omega
      have HLT := Aside0.mk hlt
      clear hq hlt
      repeat ((fail_if_success (with_reducible refine gate_dst (N := 21) rfl ?_)); (first | go_values | go_guarded | go_step | go_upon | go_back))
      refine Kd.R_append (Kd.int .u8) (w0 := W0) W0.heap.size rfl (.tmp 19) (.tmp 20) 22 5 (.int .u8 0) 1 rfl Tryd.underlying22 info5 rfl (by decide) (by omega) (.slice A q c) (r ++ 128 :: List.replicate j 0) 0 [.int .u8 0] (fun _ => True) (fun _ => False) rfl rfl rfl (fun _ hk => hk.elim) (fun _ _ => trivial) HO.out HB.out HB.out.size (by have := HP.out.1; have := HLT.out; have := HR64.out; simp; omega) ?_
      intro v1 w1 ho hb hg hat
      obtain ⟨A1, c1, rfl⟩ := Kd.R_slice ho
      have hll : (r ++ 128 :: List.replicate j (0 : Int) ++ [0]).length = q + 1 := by rw [HQJ.out]; simp; omega
      rw [hll] at ho ⊢
      rw [show r ++ 128 :: List.replicate j (0 : Int) ++ [0] = r ++ 128 :: List.replicate (j + 1) 0 by rw [List.append_assoc, List.replicate_succ']; rfl] at ho
      have HO1 := Aside0.mk ho
      have HB1 := Aside0.mk hb
      clear ho hb hg hat hll HO HB htm
      go_wp2
      exact ⟨⟨A1, q + 1, c1, j + 1, rfl, by have := HQJ.out; omega, by have := HLT.out; omega, HO1, HB1⟩, by have := HQJ.out; have := HLT.out; simp [lenOf]; omega⟩
    · have hjz : j = padZ r.length := by omega
      have hd1 : ((q : Int) % 64 != 56) = false := by
        have := HP.out.2.1
        rw [bne_eq_false_iff_eq]
        omega
      subst hjz
      have hc9 : wr.cell? ⟨w.heap.size, 9, none⟩ = some (.int .u64 m) := blk_cell (blk_below HQ1.out HB.out) 9
      clear hq hlt
      go_wp2
      clear hd1 htm hc9
      generalize hN : IntKind.u64.wrap (8 * m) = N
      have HNN : Aside0 (lenN N = lenA m) := ⟨by rw [← hN]; exact lenN_eq m⟩
      have HML := Aside0.mk (lenN_length N)
      clear hN
      go_loopw [3, 5] (fun v3 v5 wr => ∃ (A : Option Addr) (q c k : Nat), v5 = .int .i64 (7 - (k : Int)) ∧ k ≤ 8 ∧ v3 = .slice A q c ∧ q = r.length + 1 + padZ r.length + k ∧ Aside0 (Kd.R (Kd.int .u8) 5 wr W0.heap.size (fun _ => True) (.slice A q c) (r ++ 128 :: List.replicate (padZ r.length) 0 ++ (lenN N).take k)) ∧ Aside0 (Below W0.heap.size W0 wr)) (fun v3 _ _ => r.length + padZ r.length + 10 - lenOf v3)
      case atStart => exact ⟨A, q, c, 0, rfl, by omega, rfl, by have := HQJ.out; omega, by simpa using HO, HB⟩
      case round =>
        clear HO HB hql HQJ
        obtain ⟨A, q, c, k, hv5, hk, rfl, hq, HO, HB⟩ := hrel
        have HQK := Aside0.mk hq
        clear hq
        by_cases hk8 : k < 8
        · have hgetk : (lenN N).take (k + 1) = (lenN N).take k ++ [(lenN N).getD k 0] := by
            rw [List.take_succ_eq_append_getElem (by rw [HML.out]; exact hk8)]
            simp [List.getD_eq_getElem?_getD, List.getElem?_eq_getElem (show k < (lenN N).length by rw [HML.out]; exact hk8)]
          have HGK := Aside0.mk hgetk
          clear hgetk
          rcases eight_lt hk8 with rfl | rfl | rfl | rfl | rfl | rfl | rfl | rfl
          · replace hv5 : _ = Value.int .i64 7 := hv5
            subst hv5
            repeat ((fail_if_success (with_reducible refine gate_dst (N := 37) rfl ?_)); (first | go_values | go_guarded | go_step | go_upon | go_back))
            refine Kd.R_append (Kd.int .u8) (w0 := W0) W0.heap.size rfl (.tmp 29) (.tmp 36) 22 5 (.int .u8 0) 1 rfl Tryd.underlying22 info5 rfl (by decide) (by omega) (.slice A q c) (r ++ 128 :: List.replicate (padZ r.length) 0 ++ (lenN N).take 0) ((lenN N).getD 0 0) [.int .u8 ((lenN N).getD 0 0)] (fun _ => True) (fun _ => False) rfl rfl rfl (fun _ hk => hk.elim) (fun _ _ => trivial) HO.out HB.out HB.out.size (by have := HP.out.1; have := HR64.out; simp; omega) ?_
            intro v1 w1 ho hb hg hat
            obtain ⟨A1, c1, rfl⟩ := Kd.R_slice ho
            rw [List.append_assoc _ _ [_], ← HGK.out] at ho ⊢
            have hll : (r ++ 128 :: List.replicate (padZ r.length) (0 : Int) ++ (lenN N).take (0 + 1)).length = q + 1 := by rw [HQK.out, List.length_append, List.length_take, HML.out]; simp; omega
            rw [hll] at ho ⊢
            have HO1 := Aside0.mk ho
            have HB1 := Aside0.mk hb
            clear ho hb hg hat hll HO HB
            go_wp2
            exact ⟨⟨A1, q + 1, c1, 0 + 1, rfl, by omega, rfl, by have := HQK.out; omega, HO1, HB1⟩, by have := HQK.out; simp [lenOf]; omega⟩
          · replace hv5 : _ = Value.int .i64 6 := hv5
            subst hv5
            repeat ((fail_if_success (with_reducible refine gate_dst (N := 37) rfl ?_)); (first | go_values | go_guarded | go_step | go_upon | go_back))
            refine Kd.R_append (Kd.int .u8) (w0 := W0) W0.heap.size rfl (.tmp 29) (.tmp 36) 22 5 (.int .u8 0) 1 rfl Tryd.underlying22 info5 rfl (by decide) (by omega) (.slice A q c) (r ++ 128 :: List.replicate (padZ r.length) 0 ++ (lenN N).take 1) ((lenN N).getD 1 0) [.int .u8 ((lenN N).getD 1 0)] (fun _ => True) (fun _ => False) rfl rfl rfl (fun _ hk => hk.elim) (fun _ _ => trivial) HO.out HB.out HB.out.size (by have := HP.out.1; have := HR64.out; simp; omega) ?_
            intro v1 w1 ho hb hg hat
            obtain ⟨A1, c1, rfl⟩ := Kd.R_slice ho
            rw [List.append_assoc _ _ [_], ← HGK.out] at ho ⊢
            have hll : (r ++ 128 :: List.replicate (padZ r.length) (0 : Int) ++ (lenN N).take (1 + 1)).length = q + 1 := by rw [HQK.out, List.length_append, List.length_take, HML.out]; simp; omega
            rw [hll] at ho ⊢
            have HO1 := Aside0.mk ho
            have HB1 := Aside0.mk hb
            clear ho hb hg hat hll HO HB
            go_wp2
            exact ⟨⟨A1, q + 1, c1, 1 + 1, rfl, by omega, rfl, by have := HQK.out; omega, HO1, HB1⟩, by have := HQK.out; simp [lenOf]; omega⟩
          · replace hv5 : _ = Value.int .i64 5 := hv5
            subst hv5
            repeat ((fail_if_success (with_reducible refine gate_dst (N := 37) rfl ?_)); (first | go_values | go_guarded | go_step | go_upon | go_back))
            refine Kd.R_append (Kd.int .u8) (w0 := W0) W0.heap.size rfl (.tmp 29) (.tmp 36) 22 5 (.int .u8 0) 1 rfl Tryd.underlying22 info5 rfl (by decide) (by omega) (.slice A q c) (r ++ 128 :: List.replicate (padZ r.length) 0 ++ (lenN N).take 2) ((lenN N).getD 2 0) [.int .u8 ((lenN N).getD 2 0)] (fun _ => True) (fun _ => False) rfl rfl rfl (fun _ hk => hk.elim) (fun _ _ => trivial) HO.out HB.out HB.out.size (by have := HP.out.1; have := HR64.out; simp; omega) ?_
            intro v1 w1 ho hb hg hat
            obtain ⟨A1, c1, rfl⟩ := Kd.R_slice ho
            rw [List.append_assoc _ _ [_], ← HGK.out] at ho ⊢
            have hll : (r ++ 128 :: List.replicate (padZ r.length) (0 : Int) ++ (lenN N).take (2 + 1)).length = q + 1 := by rw [HQK.out, List.length_append, List.length_take, HML.out]; simp; omega
            rw [hll] at ho ⊢
            have HO1 := Aside0.mk ho
            have HB1 := Aside0.mk hb
            clear ho hb hg hat hll HO HB
            go_wp2
            exact ⟨⟨A1, q + 1, c1, 2 + 1, rfl, by omega, rfl, by have := HQK.out; omega, HO1, HB1⟩, by have := HQK.out; simp [lenOf]; omega⟩
          · replace hv5 : _ = Value.int .i64 4 := hv5
            subst hv5
            repeat ((fail_if_success (with_reducible refine gate_dst (N := 37) rfl ?_)); (first | go_values | go_guarded | go_step | go_upon | go_back))
            refine Kd.R_append (Kd.int .u8) (w0 := W0) W0.heap.size rfl (.tmp 29) (.tmp 36) 22 5 (.int .u8 0) 1 rfl Tryd.underlying22 info5 rfl (by decide) (by omega) (.slice A q c) (r ++ 128 :: List.replicate (padZ r.length) 0 ++ (lenN N).take 3) ((lenN N).getD 3 0) [.int .u8 ((lenN N).getD 3 0)] (fun _ => True) (fun _ => False) rfl rfl rfl (fun _ hk => hk.elim) (fun _ _ => trivial) HO.out HB.out HB.out.size (by have := HP.out.1; have := HR64.out; simp; omega) ?_
            intro v1 w1 ho hb hg hat
            obtain ⟨A1, c1, rfl⟩ := Kd.R_slice ho
            rw [List.append_assoc _ _ [_], ← HGK.out] at ho ⊢
            have hll : (r ++ 128 :: List.replicate (padZ r.length) (0 : Int) ++ (lenN N).take (3 + 1)).length = q + 1 := by rw [HQK.out, List.length_append, List.length_take, HML.out]; simp; omega
            rw [hll] at ho ⊢
            have HO1 := Aside0.mk ho
            have HB1 := Aside0.mk hb
            clear ho hb hg hat hll HO HB
            go_wp2
            exact ⟨⟨A1, q + 1, c1, 3 + 1, rfl, by omega, rfl, by have := HQK.out; omega, HO1, HB1⟩, by have := HQK.out; simp [lenOf]; omega⟩
          · replace hv5 : _ = Value.int .i64 3 := hv5
            subst hv5
            repeat ((fail_if_success (with_reducible refine gate_dst (N := 37) rfl ?_)); (first | go_values | go_guarded | go_step | go_upon | go_back))
            refine Kd.R_append (Kd.int .u8) (w0 := W0) W0.heap.size rfl (.tmp 29) (.tmp 36) 22 5 (.int .u8 0) 1 rfl Tryd.underlying22 info5 rfl (by decide) (by omega) (.slice A q c) (r ++ 128 :: List.replicate (padZ r.length) 0 ++ (lenN N).take 4) ((lenN N).getD 4 0) [.int .u8 ((lenN N).getD 4 0)] (fun _ => True) (fun _ => False) rfl rfl rfl (fun _ hk => hk.elim) (fun _ _ => trivial) HO.out HB.out HB.out.size (by have := HP.out.1; have := HR64.out; simp; omega) ?_
            intro v1 w1 ho hb hg hat
            obtain ⟨A1, c1, rfl⟩ := Kd.R_slice ho
            rw [List.append_assoc _ _ [_], ← HGK.out] at ho ⊢
            have hll : (r ++ 128 :: List.replicate (padZ r.length) (0 : Int) ++ (lenN N).take (4 + 1)).length = q + 1 := by rw [HQK.out, List.length_append, List.length_take, HML.out]; simp; omega
            rw [hll] at ho ⊢
            have HO1 := Aside0.mk ho
            have HB1 := Aside0.mk hb
            clear ho hb hg hat hll HO HB
            go_wp2
            exact ⟨⟨A1, q + 1, c1, 4 + 1, rfl, by omega, rfl, by have := HQK.out; omega, HO1, HB1⟩, by have := HQK.out; simp [lenOf]; omega⟩
          · replace hv5 : _ = Value.int .i64 2 := hv5
            subst hv5
            repeat ((fail_if_success (with_reducible refine gate_dst (N := 37) rfl ?_)); (first | go_values | go_guarded | go_step | go_upon | go_back))
            refine Kd.R_append (Kd.int .u8) (w0 := W0) W0.heap.size rfl (.tmp 29) (.tmp 36) 22 5 (.int .u8 0) 1 rfl Tryd.underlying22 info5 rfl (by decide) (by omega) (.slice A q c) (r ++ 128 :: List.replicate (padZ r.length) 0 ++ (lenN N).take 5) ((lenN N).getD 5 0) [.int .u8 ((lenN N).getD 5 0)] (fun _ => True) (fun _ => False) rfl rfl rfl (fun _ hk => hk.elim) (fun _ _ => trivial) HO.out HB.out HB.out.size (by have := HP.out.1; have := HR64.out; simp; omega) ?_
            intro v1 w1 ho hb hg hat
            obtain ⟨A1, c1, rfl⟩ := Kd.R_slice ho
            rw [List.append_assoc _ _ [_], ← HGK.out] at ho ⊢
            have hll : (r ++ 128 :: List.replicate (padZ r.length) (0 : Int) ++ (lenN N).take (5 + 1)).length = q + 1 := by rw [HQK.out, List.length_append, List.length_take, HML.out]; simp; omega
            rw [hll] at ho ⊢
            have HO1 := Aside0.mk ho
            have HB1 := Aside0.mk hb
            clear ho hb hg hat hll HO HB
            go_wp2
            exact ⟨⟨A1, q + 1, c1, 5 + 1, rfl, by omega, rfl, by have := HQK.out; omega, HO1, HB1⟩, by have := HQK.out; simp [lenOf]; omega⟩
          · replace hv5 : _ = Value.int .i64 1 := hv5
            subst hv5
            repeat ((fail_if_success (with_reducible refine gate_dst (N := 37) rfl ?_)); (first | go_values | go_guarded | go_step | go_upon | go_back))
            refine Kd.R_append (Kd.int .u8) (w0 := W0) W0.heap.size rfl (.tmp 29) (.tmp 36) 22 5 (.int .u8 0) 1 rfl Tryd.underlying22 info5 rfl (by decide) (by omega) (.slice A q c) (r ++ 128 :: List.replicate (padZ r.length) 0 ++ (lenN N).take 6) ((lenN N).getD 6 0) [.int .u8 ((lenN N).getD 6 0)] (fun _ => True) (fun _ => False) rfl rfl rfl (fun _ hk => hk.elim) (fun _ _ => trivial) HO.out HB.out HB.out.size (by have := HP.out.1; have := HR64.out; simp; omega) ?_
            intro v1 w1 ho hb hg hat
            obtain ⟨A1, c1, rfl⟩ := Kd.R_slice ho
            rw [List.append_assoc _ _ [_], ← HGK.out] at ho ⊢
            have hll : (r ++ 128 :: List.replicate (padZ r.length) (0 : Int) ++ (lenN N).take (6 + 1)).length = q + 1 := by rw [HQK.out, List.length_append, List.length_take, HML.out]; simp; omega
            rw [hll] at ho ⊢
            have HO1 := Aside0.mk ho
            have HB1 := Aside0.mk hb
            clear ho hb hg hat hll HO HB
            go_wp2
            exact ⟨⟨A1, q + 1, c1, 6 + 1, rfl, by omega, rfl, by have := HQK.out; omega, HO1, HB1⟩, by have := HQK.out; simp [lenOf]; omega⟩
          · replace hv5 : _ = Value.int .i64 0 := hv5
            subst hv5
            repeat ((fail_if_success (with_reducible refine gate_dst (N := 37) rfl ?_)); (first | go_values | go_guarded | go_step | go_upon | go_back))
            have h7e : (lenN N).getD 7 0 = N % 256 := by simp [lenN]
            refine Kd.R_append (Kd.int .u8) (w0 := W0) W0.heap.size rfl (.tmp 29) (.tmp 36) 22 5 (.int .u8 0) 1 rfl Tryd.underlying22 info5 rfl (by decide) (by omega) (.slice A q c) (r ++ 128 :: List.replicate (padZ r.length) 0 ++ (lenN N).take 7) (N % 256) [.int .u8 (N % 256)] (fun _ => True) (fun _ => False) rfl rfl rfl (fun _ hk => hk.elim) (fun _ _ => trivial) HO.out HB.out HB.out.size (by have := HP.out.1; have := HR64.out; simp; omega) ?_
            intro v1 w1 ho hb hg hat
            obtain ⟨A1, c1, rfl⟩ := Kd.R_slice ho
            rw [List.append_assoc _ _ [_], ← h7e, ← HGK.out] at ho ⊢
            have hll : (r ++ 128 :: List.replicate (padZ r.length) (0 : Int) ++ (lenN N).take (7 + 1)).length = q + 1 := by rw [HQK.out, List.length_append, List.length_take, HML.out]; simp; omega
            rw [hll] at ho ⊢
            have HO1 := Aside0.mk ho
            have HB1 := Aside0.mk hb
            clear ho hb hg hat hll HO HB
            go_wp2
            exact ⟨⟨A1, q + 1, c1, 7 + 1, rfl, by omega, rfl, by have := HQK.out; omega, HO1, HB1⟩, by have := HQK.out; simp [lenOf]; omega⟩
        · have hk88 : k = 8 := by omega
          subst hk88
          replace hv5 : _ = Value.int .i64 (-1) := hv5
          subst hv5
          have hdone : (lenN N).take 8 = lenN N := List.take_of_length_le (by rw [HML.out]; exact Nat.le_refl _)
          have hall : r ++ 128 :: List.replicate (padZ r.length) 0 ++ (lenN N).take 8 = r ++ tailA r.length m := by
            rw [hdone, HNN.out, tailA, List.append_assoc]
          have hqq : q = (r ++ tailA r.length m).length := by rw [List.length_append, tail_length]; have := HQK.out; omega
          have ho := HO.out
          rw [hall] at ho
          subst hqq
          have hmod : (r ++ tailA r.length m).length % 64 = 0 := by rw [List.length_append, tail_length]; have := HP.out.2.1; omega
          have hl200 : (r ++ tailA r.length m).length ≤ 200 := by rw [List.length_append, tail_length]; have := HP.out.1; have := HR64.out; omega
          have hce : comeA [h0, h1', h2', h3, h4, h5, h6, h7] (r ++ tailA r.length m) = comeA [h0, h1', h2', h3, h4, h5, h6, h7] (r ++ tailA r.length m) := rfl
          have hend : endA [h0, h1', h2', h3, h4, h5, h6, h7] r m = digestA (comeA [h0, h1', h2', h3, h4, h5, h6, h7] (r ++ tailA r.length m)).1 := rfl
          have HEND := Aside0.mk hend
          have HCL := Aside0.mk (Kd.R_reads' ho).2.1
          have HF := Aside0.mk (Kd.F_mono (Kd.R_F (Kd.R_bound ho)) (ok' := fun k => k < wr.heap.size) (fun k hk => hk.2.2.1))
          generalize r ++ tailA r.length m = rr at *
          have HMOD := Aside0.mk hmod
          have HL200 := Aside0.mk hl200
          have HG1 := Aside0.mk (blk_below HQ1.out HB.out)
          have HBW := Aside0.mk (bl HB0.out HB.out)
          have hw1 := blk_lt (blk_below HQ2.out HB.out)
          have HZ1 := Aside0.mk (blk_below HQ2.out HB.out)
          clear ho hdone hall hmod hl200 hce hend HO HB HNN HML HQK hk8 HP HQ1 HQ2 HB0
          repeat ((first
            | ((with_reducible refine wpList_part_g 53 (.tmp 38) w.heap.size _ ([h0, h1', h2', h3, h4, h5, h6, h7].map (Value.int .u32)) _ _ ?hw rfl ?hx HG1.out Tryd.underlying53 ?hd ?hi ?_); (case hw => rfl); (case hx => rfl); (case hd => rfl); (case hi => rfl))
            | go_values | go_guarded | go_step | go_upon | go_back))
          have HG6 := Aside0.mk (heap_alloc_new wr (.cells #[.int .u32 h0, .int .u32 h1', .int .u32 h2', .int .u32 h3, .int .u32 h4, .int .u32 h5, .int .u32 h6, .int .u32 h7] 53))
          have HZ6 := Aside0.mk (blk_alloc HZ1.out (.cells #[.int .u32 h0, .int .u32 h1', .int .u32 h2', .int .u32 h3, .int .u32 h4, .int .u32 h5, .int .u32 h6, .int .u32 h7] 53))
          have HF6 := Aside0.mk (Kd.F_alloc HF.out (.cells #[.int .u32 h0, .int .u32 h1', .int .u32 h2', .int .u32 h3, .int .u32 h4, .int .u32 h5, .int .u32 h6, .int .u32 h7] 53))
          have HB6 := Aside0.mk (below_alloc HBW.out (.cells #[.int .u32 h0, .int .u32 h1', .int .u32 h2', .int .u32 h3, .int .u32 h4, .int .u32 h5, .int .u32 h6, .int .u32 h7] 53))
          clear HG1 HBW HZ1 HF
          generalize wr.heap.size = g6 at *
          generalize wr.alloc (.cells #[.int .u32 h0, .int .u32 h1', .int .u32 h2', .int .u32 h3, .int .u32 h4, .int .u32 h5, .int .u32 h6, .int .u32 h7] 53) = w6 at *
          have HG7 : Aside0 (w6.heap[g6]? = some (.cells ⟨[h0, h1', h2', h3, h4, h5, h6, h7].map (Value.int .u32)⟩ 53 (0, 0))) := ⟨HG6.out⟩
          clear HG6
          go_loopw [3] (fun v3 wr => ∃ (hs r : List Int) (R' : Option Addr) (c' q : Nat), v3 = .slice R' q c' ∧ q = r.length ∧ hs.length = 8 ∧ (comeA hs r).1 = (comeA [h0, h1', h2', h3, h4, h5, h6, h7] rr).1 ∧ r.length ≤ c' ∧ r.length % 64 = 0 ∧ r.length ≤ 200 ∧ Aside0 (wr.heap[g6]? = some (.cells ⟨hs.map (Value.int .u32)⟩ 53 (0, 0))) ∧ Aside0 (wr.heap[w.heap.size + 1]? = some (.cells zeroD 29 (0, 0))) ∧ Aside0 (Kd.F (Kd.int .u8) wr (fun k => k < g6) R' r.length r) ∧ Aside0 (Below w.heap.size w wr)) (fun v3 _ => lenOf v3)
          case atStart => exact ⟨[h0, h1', h2', h3, h4, h5, h6, h7], rr, A, c, _, rfl, rfl, rfl, rfl, HCL.out, HMOD.out, HL200.out, HG7, HZ6, HF6, HB6⟩
          case round =>
            clear HCL HMOD HL200 HG7 HZ6 HF6 HB6
            obtain ⟨hs, r, R', c', q, rfl, rfl, hh8, hce, hrc, hmod, hl200, HG, HZ, HF, HB⟩ := hrel
            obtain ⟨s0, s1, s2, s3, s4, s5, s6, s7, rfl⟩ := eight hh8
            have hl63 : (r.length : Int) ≤ 9223372036854775807 := by omega
            have HCE := Aside0.mk hce
            have HRC := Aside0.mk hrc
            have HMOD := Aside0.mk hmod
            have HL200 := Aside0.mk hl200
            clear hh8 hce hrc hmod
            by_cases hlt : 0 < r.length
            · have hd1 : decide (0 < r.length) = true := decide_eq_true hlt
              have hle : 64 ≤ r.length := by have := HMOD.out; omega
              have hnlt : ¬ r.length < 64 := by omega
              obtain ⟨i0, hi0, _, hsz0', _⟩ := info_parts info5
              obtain ⟨hcut1, _, _⟩ := print_take_of (P := Tryd.prog) (Value.int .u8) 0 22 5 .i64 Tryd.underlying22 hi0 hsz0' R' c' r 64 (by omega) (by omega) HRC.out
              have hl64 : (r.take 64).length = 64 := by rw [List.length_take]; omega
              rw [show (List.take (Int.toNat 64) r).length = 64 from hl64] at hcut1
              have hcut2 : ∀ W, (Instr.slice 22 (.slice R' r.length c') (some (.int .i64 64)) none none).run Tryd.prog W = .ok (.slice (if c' = 64 then R' else R'.map (·.add 64)) (r.length - 64) (c' - 64)) W := fun W => run_cut_from (P := Tryd.prog) 22 5 Tryd.underlying22 hi0 hsz0' R' r.length c' 64 hle W
              have hF1 := Kd.F_take HF.out hle
              have hF2 := Kd.F_cut HF.out hle HRC.out
              rw [hl64] at hF1
              simp only [Kd.int, Kd.scalar, Nat.mul_one] at hF2
              generalize hR2 : (if c' = 64 then R' else R'.map (·.add 64)) = R2 at hcut2 hF2
              have hdl : (r.drop 64).length = r.length - 64 := List.length_drop
              rw [comeA_step hnlt] at HCE
              obtain ⟨t0, t1, t2, t3, t4, t5, t6, t7, ht8⟩ := eight (turnA_length8 (hs := [s0, s1, s2, s3, s4, s5, s6, s7]) rfl (r.take 64))
              rw [ht8] at HCE
              have HT8 := Aside0.mk ht8
              have HF1 := Aside0.mk hF1
              have HF2 := Aside0.mk hF2
              have HD := Aside0.mk hdl
              have HL := Aside0.mk hle
              clear hR2 hF1 hF2 hdl hle hi0 hsz0' hlt hnlt HF ht8
              have HT1 := Aside0.mk (fun (W : World) (hF : Kd.F (Kd.int .u8) W (fun k => k < g6) R' 64 (r.take 64)) => refTurn_any R' c' (r.take 64) [s0, s1, s2, s3, s4, s5, s6, s7] hl64 rfl W (Kd.F_now hF) (by have := HRC.out; have := HL.out; omega))
              clear hl64
              go_wp2
              refine start_ (n := 5) (S := fun w' => w'.heap[g6]? = some (.cells ⟨[s0, s1, s2, s3, s4, s5, s6, s7].map (Value.int .u32)⟩ 53 (0, 0)) ∧ w'.heap[w.heap.size + 1]? = some (.cells zeroD 29 (0, 0)) ∧ Kd.F (Kd.int .u8) w' (fun k => k < g6) R' 64 (r.take 64) ∧ Kd.F (Kd.int .u8) w' (fun k => k < g6) R2 (r.drop 64).length (r.drop 64) ∧ Below w.heap.size w w') (ds := [4]) #[false, false, false, false, false] (by kernel_rfl) rfl rfl ⟨blk_drew HG.out, blk_drew HZ.out, Kd.F_drew HF1.out, Kd.F_drew HF2.out, below_drew HB.out⟩ (fun hHeld => ?_)
              refine take_ (i := 0) (N := (some 43)) (v := ?_) (a' := ?_) #[true, false, false, false, false] rfl rfl (by kernel_rfl) (fun _ _ _ h => h) (Or.inl ⟨by rfl, ?_⟩) hHeld ?_ ?_
              rotate_left
              · rintro w' ⟨z0, z1, z2, z3, z4⟩
                refine exec_load (ty := 53) (x := .tmp 6) ?_ ?_ z0 Tryd.underlying53 rfl rfl
                · rfl
                · rfl
              rotate_left
              · simp only [Act.put, List.setIfInBounds_toArray, List.set_cons_zero, List.set_cons_succ, i64_w, i32_w]
                rfl
              refine pure_ (i := 1) (N := (some 44)) (v := ?_) (a' := ?_) #[true, true, false, false, false] rfl rfl (by kernel_rfl) (fun _ _ _ h => h) (Or.inl ⟨by rfl, ?_⟩) ?_ ?_
              rotate_left
              · intro w'
                go_simp
                with_reducible rfl
              rotate_left
              · simp only [Act.put, List.setIfInBounds_toArray, List.set_cons_zero, List.set_cons_succ, i64_w, i32_w]
                rfl
              refine pure_ (i := 2) (N := (some 45)) (v := ?_) (a' := ?_) #[true, true, true, false, false] rfl rfl (by kernel_rfl) (fun _ _ _ h => h) (Or.inl ⟨by rfl, ?_⟩) ?_ ?_
              rotate_left
              · intro w'
                go_simp
                with_reducible rfl
              rotate_left
              · simp only [Act.put, List.setIfInBounds_toArray, List.set_cons_zero, List.set_cons_succ, i64_w, i32_w]
                rfl
              refine one_ (i := 3) (N := (some 46)) #[true, true, true, true, false] rfl rfl (by kernel_rfl) (by decide) (fun K hK => ?_)
              refine goes_ Tryd.func38 (by kernel_rfl) rfl #[.agg ⟨[s0, s1, s2, s3, s4, s5, s6, s7].map (Value.int .u32)⟩, .slice R' 64 c'] (by rfl) rfl rfl (by (try simp only [List.map_toArray, List.map_cons, List.map_nil]); first | done | rfl) ?_
              refine (HT1.out _ hHeld.2.2.1).mono ?_
              rintro e w' ⟨he, hb⟩
              rw [HT8.out] at he
              subst he
              refine ⟨_, rfl, ?_⟩
              refine hK.out _ _ ⟨blk_below hHeld.1 hb, blk_below hHeld.2.1 hb, Kd.F_below hHeld.2.2.1 hb, Kd.F_below hHeld.2.2.2.1 hb, bl hHeld.2.2.2.2 hb⟩ (fun hHeld => ?_)
              clear hK K
              refine norm_ (a' := ?_) ?_ ?_
              rotate_left
              · show Act.put _ (some 46) _ = _
                simp only [Act.put, List.setIfInBounds_toArray, List.set_cons_zero, List.set_cons_succ, i64_w, i32_w]
                rfl
              refine last_ (i := 4) (N := none) #[true, true, true, true, true] rfl rfl (by kernel_rfl) (by decide) (fun K hK => ?_)
              refine ite_wanted rfl ?_
              refine op_store 53 (.tmp 6) (.tmp 46) g6 _ _ ⟨[t0, t1, t2, t3, t4, t5, t6, t7].map (Value.int .u32)⟩ rfl rfl rfl hHeld.1 rfl rfl (one_u32 [t0, t1, t2, t3, t4, t5, t6, t7]) ?_
              intro w7 q1 q2 q3 q4
              refine hK.out _ _ ?_
              clear hK K
              refine done_ (by kernel_rfl) ?_
              have HG7 := Aside0.mk q1
              have HZ7 := Aside0.mk ((q2 (w.heap.size + 1) (by omega)).trans hHeld.2.1)
              have HF7 := Aside0.mk (Kd.F_step hHeld.2.2.2.1 (fun k hk _ => q2 k (by omega)))
              have HB7 := Aside0.mk (q3 _ _ hHeld.2.2.2.2 (by omega))
              clear q1 q2 q3 q4 hHeld HG HZ HF1 HF2 HB
              go_wp2
              exact ⟨⟨[t0, t1, t2, t3, t4, t5, t6, t7], r.drop 64, R2, c' - 64, _, rfl, HD.out.symm, rfl, HCE.out, by rw [HD.out]; have := HRC.out; omega, by rw [HD.out]; have := HMOD.out; have := HL.out; omega, by rw [HD.out]; omega, HG7, HZ7, HF7, HB7⟩, by have := HL.out; simp [lenOf]; omega⟩
            · have hd1 : decide (0 < r.length) = false := decide_eq_false hlt
              have hnil : r = [] := List.length_eq_zero_iff.1 (by omega)
              subst hnil
              have hce := HCE.out
              rw [comeA_nil] at hce
              have HCE1 : Aside0 ([s0, s1, s2, s3, s4, s5, s6, s7] = (comeA [h0, h1', h2', h3, h4, h5, h6, h7] rr).1) := ⟨hce⟩
              clear hce HCE hlt hl200 HF HMOD HL200 HRC hl63
              go_wp2
              have hg67 := blk_lt HG.out
              have hz67 := blk_lt HZ.out
              have HN := Aside0.mk (heap_alloc_new wr (.cells zeroD 29))
              have HG8 := Aside0.mk (blk_alloc HG.out (.cells zeroD 29))
              have HZ8 := Aside0.mk (blk_alloc HZ.out (.cells zeroD 29))
              have HB8 := Aside0.mk (below_alloc HB.out (.cells zeroD 29))
              have hlow : w.heap.size < wr.heap.size := by omega
              clear HG HZ HB
              generalize wr.heap.size = g7 at *
              generalize wr.alloc (.cells zeroD 29) = w8 at *
              have hds : Aside0 ((digestA [s0, s1, s2, s3, s4, s5, s6, s7]).length = 32) := ⟨digestA_length _⟩
              have HN8 : Aside0 (w8.heap[g7]? = some (.cells (fillD (digestA [s0, s1, s2, s3, s4, s5, s6, s7]) 0) 29 (0, 0))) := ⟨HN.out⟩
              clear HN
              go_loopw [8] (fun i wr => ∃ k : Nat, i = .int .i64 k ∧ k ≤ 32 ∧ Aside0 (wr.heap[g6]? = some (.cells ⟨[s0, s1, s2, s3, s4, s5, s6, s7].map (Value.int .u32)⟩ 53 (0, 0))) ∧ Aside0 (wr.heap[w.heap.size + 1]? = some (.cells zeroD 29 (0, 0))) ∧ Aside0 (wr.heap[g7]? = some (.cells (fillD (digestA [s0, s1, s2, s3, s4, s5, s6, s7]) k) 29 (0, 0))) ∧ Aside0 (Below w.heap.size w wr)) (fun i _ => 32 - (intOf i).toNat)
              case atStart => exact ⟨0, rfl, by omega, HG8, HZ8, HN8, HB8⟩
              case round =>
                clear HG8 HZ8 HN8 HB8
                obtain ⟨k, rfl, hk, HG, HZ, HD, HB⟩ := hrel
                by_cases hk32 : k < 32
                · obtain ⟨x0, x1, x2, x3, x4, x5, x6, x7⟩ := cells8b HG.out
                  have hset := blk_set HD.out k (.int .u8 ((digestA [s0, s1, s2, s3, s4, s5, s6, s7]).getD k 0))
                  rw [fillD_set hds.out hk32] at hset
                  have hsum := (Below.heap_setCell wr ⟨g7, k, none⟩ (.int .u8 ((digestA [s0, s1, s2, s3, s4, s5, s6, s7]).getD k 0)) g6 (by simp; omega)).trans HG.out
                  have hzer := (Below.heap_setCell wr ⟨g7, k, none⟩ (.int .u8 ((digestA [s0, s1, s2, s3, s4, s5, s6, s7]).getD k 0)) (w.heap.size + 1) (by simp; omega)).trans HZ.out
                  have hbel := HB.out.setCell (p := ⟨g7, k, none⟩) (by simp; omega) (.int .u8 ((digestA [s0, s1, s2, s3, s4, s5, s6, s7]).getD k 0))
                  obtain ⟨v0, hcd⟩ : ∃ v0, wr.cell? ⟨g7, k, none⟩ = some v0 := by
                    have hsz : k < (fillD (digestA [s0, s1, s2, s3, s4, s5, s6, s7]) k).size := by simp [fillD, hds.out]; omega
                    exact ⟨_, (blk_cell HD.out k).trans (Array.getElem?_eq_getElem hsz)⟩
                  have hfd := blk_frozen HD.out k
                  have HSET := Aside0.mk hset
                  have H55 := Aside0.mk hsum
                  have HZER := Aside0.mk hzer
                  have HBEL := Aside0.mk hbel
                  clear hset hsum hzer hbel HG HZ HD HB
                  rcases thirty_lt hk32 with rfl | rfl | rfl | rfl | rfl | rfl | rfl | rfl | rfl | rfl | rfl | rfl | rfl | rfl | rfl | rfl | rfl | rfl | rfl | rfl | rfl | rfl | rfl | rfl | rfl | rfl | rfl | rfl | rfl | rfl | rfl | rfl
                  · go_wp2
                    exact ⟨⟨0 + 1, rfl, by omega, H55, HZER, HSET, HBEL⟩, by simp [intOf]⟩
                  · go_wp2
                    exact ⟨⟨1 + 1, rfl, by omega, H55, HZER, HSET, HBEL⟩, by simp [intOf]⟩
                  · go_wp2
                    exact ⟨⟨2 + 1, rfl, by omega, H55, HZER, HSET, HBEL⟩, by simp [intOf]⟩
                  · have e : (digestA [s0, s1, s2, s3, s4, s5, s6, s7]).getD 3 0 = s0 % 256 := by simp [digestA]
                    rw [e] at H55 HSET HZER HBEL
                    go_wp2
                    exact ⟨⟨3 + 1, rfl, by omega, H55, HZER, HSET, HBEL⟩, by simp [intOf]⟩
                  · go_wp2
                    exact ⟨⟨4 + 1, rfl, by omega, H55, HZER, HSET, HBEL⟩, by simp [intOf]⟩
                  · go_wp2
                    exact ⟨⟨5 + 1, rfl, by omega, H55, HZER, HSET, HBEL⟩, by simp [intOf]⟩
                  · go_wp2
                    exact ⟨⟨6 + 1, rfl, by omega, H55, HZER, HSET, HBEL⟩, by simp [intOf]⟩
                  · have e : (digestA [s0, s1, s2, s3, s4, s5, s6, s7]).getD 7 0 = s1 % 256 := by simp [digestA]
                    rw [e] at H55 HSET HZER HBEL
                    go_wp2
                    exact ⟨⟨7 + 1, rfl, by omega, H55, HZER, HSET, HBEL⟩, by simp [intOf]⟩
                  · go_wp2
                    exact ⟨⟨8 + 1, rfl, by omega, H55, HZER, HSET, HBEL⟩, by simp [intOf]⟩
                  · go_wp2
                    exact ⟨⟨9 + 1, rfl, by omega, H55, HZER, HSET, HBEL⟩, by simp [intOf]⟩
                  · go_wp2
                    exact ⟨⟨10 + 1, rfl, by omega, H55, HZER, HSET, HBEL⟩, by simp [intOf]⟩
                  · have e : (digestA [s0, s1, s2, s3, s4, s5, s6, s7]).getD 11 0 = s2 % 256 := by simp [digestA]
                    rw [e] at H55 HSET HZER HBEL
                    go_wp2
                    exact ⟨⟨11 + 1, rfl, by omega, H55, HZER, HSET, HBEL⟩, by simp [intOf]⟩
                  · go_wp2
                    exact ⟨⟨12 + 1, rfl, by omega, H55, HZER, HSET, HBEL⟩, by simp [intOf]⟩
                  · go_wp2
                    exact ⟨⟨13 + 1, rfl, by omega, H55, HZER, HSET, HBEL⟩, by simp [intOf]⟩
                  · go_wp2
                    exact ⟨⟨14 + 1, rfl, by omega, H55, HZER, HSET, HBEL⟩, by simp [intOf]⟩
                  · have e : (digestA [s0, s1, s2, s3, s4, s5, s6, s7]).getD 15 0 = s3 % 256 := by simp [digestA]
                    rw [e] at H55 HSET HZER HBEL
                    go_wp2
                    exact ⟨⟨15 + 1, rfl, by omega, H55, HZER, HSET, HBEL⟩, by simp [intOf]⟩
                  · go_wp2
                    exact ⟨⟨16 + 1, rfl, by omega, H55, HZER, HSET, HBEL⟩, by simp [intOf]⟩
                  · go_wp2
                    exact ⟨⟨17 + 1, rfl, by omega, H55, HZER, HSET, HBEL⟩, by simp [intOf]⟩
                  · go_wp2
                    exact ⟨⟨18 + 1, rfl, by omega, H55, HZER, HSET, HBEL⟩, by simp [intOf]⟩
                  · have e : (digestA [s0, s1, s2, s3, s4, s5, s6, s7]).getD 19 0 = s4 % 256 := by simp [digestA]
                    rw [e] at H55 HSET HZER HBEL
                    go_wp2
                    exact ⟨⟨19 + 1, rfl, by omega, H55, HZER, HSET, HBEL⟩, by simp [intOf]⟩
                  · go_wp2
                    exact ⟨⟨20 + 1, rfl, by omega, H55, HZER, HSET, HBEL⟩, by simp [intOf]⟩
                  · go_wp2
                    exact ⟨⟨21 + 1, rfl, by omega, H55, HZER, HSET, HBEL⟩, by simp [intOf]⟩
                  · go_wp2
                    exact ⟨⟨22 + 1, rfl, by omega, H55, HZER, HSET, HBEL⟩, by simp [intOf]⟩
                  · have e : (digestA [s0, s1, s2, s3, s4, s5, s6, s7]).getD 23 0 = s5 % 256 := by simp [digestA]
                    rw [e] at H55 HSET HZER HBEL
                    go_wp2
                    exact ⟨⟨23 + 1, rfl, by omega, H55, HZER, HSET, HBEL⟩, by simp [intOf]⟩
                  · go_wp2
                    exact ⟨⟨24 + 1, rfl, by omega, H55, HZER, HSET, HBEL⟩, by simp [intOf]⟩
                  · go_wp2
                    exact ⟨⟨25 + 1, rfl, by omega, H55, HZER, HSET, HBEL⟩, by simp [intOf]⟩
                  · go_wp2
                    exact ⟨⟨26 + 1, rfl, by omega, H55, HZER, HSET, HBEL⟩, by simp [intOf]⟩
                  · have e : (digestA [s0, s1, s2, s3, s4, s5, s6, s7]).getD 27 0 = s6 % 256 := by simp [digestA]
                    rw [e] at H55 HSET HZER HBEL
                    go_wp2
                    exact ⟨⟨27 + 1, rfl, by omega, H55, HZER, HSET, HBEL⟩, by simp [intOf]⟩
                  · go_wp2
                    exact ⟨⟨28 + 1, rfl, by omega, H55, HZER, HSET, HBEL⟩, by simp [intOf]⟩
                  · go_wp2
                    exact ⟨⟨29 + 1, rfl, by omega, H55, HZER, HSET, HBEL⟩, by simp [intOf]⟩
                  · go_wp2
                    exact ⟨⟨30 + 1, rfl, by omega, H55, HZER, HSET, HBEL⟩, by simp [intOf]⟩
                  · have e : (digestA [s0, s1, s2, s3, s4, s5, s6, s7]).getD 31 0 = s7 % 256 := by simp [digestA]
                    rw [e] at H55 HSET HZER HBEL
                    go_wp2
                    exact ⟨⟨31 + 1, rfl, by omega, H55, HZER, HSET, HBEL⟩, by simp [intOf]⟩
                · have hk32' : k = 32 := by omega
                  subst hk32'
                  have HDD : Aside0 (wr.heap[g7]? = some (.cells ⟨(digestA [s0, s1, s2, s3, s4, s5, s6, s7]).map (Value.int .u8)⟩ 29 (0, 0))) := ⟨by rw [← fillD_all hds.out]; exact HD.out⟩
                  have hone := one_u8 (digestA [s0, s1, s2, s3, s4, s5, s6, s7])
                  have hsz : ((digestA [s0, s1, s2, s3, s4, s5, s6, s7]).map (Value.int .u8)).length = 32 := by simp [digestA_length]
                  generalize hvs : (digestA [s0, s1, s2, s3, s4, s5, s6, s7]).map (Value.int .u8) = vs at HDD hone hsz
                  have HVS := Aside0.mk hvs
                  have HON := Aside0.mk hone
                  have hi : (Tryd.prog.info? 29).map (·.size) = some (⟨vs⟩ : Array Value).size := by
                    rw [show (⟨vs⟩ : Array Value).size = 32 from hsz]
                    rfl
                  have hzs : zeroD.size = (⟨vs⟩ : Array Value).size := by rw [show (⟨vs⟩ : Array Value).size = 32 from hsz]; rfl
                  clear hvs hone HD
                  repeat (first
                    | ((with_reducible refine wpList_load 29 (.tmp 7) g7 _ _ _ rfl rfl ?hx HDD.out Tryd.underlying29 ?hd hi ?_); (case hx => rfl); (case hd => rfl))
                    | ((with_reducible refine wpList_store 29 (.tmp 2) (.tmp 66) (w.heap.size + 1) _ _ ⟨vs⟩ rfl rfl ?hx ?hy HZ.out hzs hi HON.out ?_); (case hx => rfl); (case hy => rfl); intro w9 q1 q2 q3 q4; have HG1 := Aside0.mk q1; have HG3 := Aside0.mk (q3 w.heap.size w HB.out (by omega)); clear q1 q2 q3 q4)
                    | go_values | go_guarded | go_step | go_upon | go_back)
                  refine bodyPost_ret (results_single rfl (.cell (w.heap.size + 1) _ _ (0, 0) _ rfl HG1.out Tryd.underlying29 rfl hi .nil)) rfl ?_
                  exact ⟨by rw [HEND.out, ← HCE1.out, HVS.out], HG3.out⟩
end Go.Proofs.YtncipbbdboeinaaDoor

namespace Go.Proofs.YtncipbbdboeinaaDoor
open Go.RowKit Go.Proofs.YtncipbbdboeinaaDoorW.PrintWords Go.Proofs.YtncipbbdboeinaaDoorW.PrintLast Go.Proofs.YtncipbbdboeinaaDoorW.PrintMore Go.Proofs.YtncipbbdboeinaaDoor.PAll
set_option linter.unusedVariables false
set_option linter.unusedSimpArgs false

set_option maxHeartbeats 4000000 in
set_option maxRecDepth 100000 in
theorem refOf_calls (A : Option Addr) (c : Nat) (l : List Int) (w : World) (h1 : Kd.C (Kd.int .u8) w A l.length l) (hc1 : l.length ≤ c) (hl : l.length ≤ 100000) :
    Calls Tryd.prog 21 #[.slice A l.length c] w fun e w' => e = .returned (.agg ⟨(ofA l).map (Value.int .u8)⟩) ∧ Below w.heap.size w w' := by
  have HQ2 := Aside0.mk (heap_alloc_new w (.cells zeroD 29))
  have HB0 := Aside0.mk (below_alloc (Below.refl w.heap.size w) (.cells zeroD 29))
  have H1 := Aside0.mk h1
  have HC1 := Aside0.mk hc1
  have HL := Aside0.mk hl
  have hm0 : ((0 : Int) + (l.length : Int)) % 18446744073709551616 = (l.length : Int) := by omega
  have HM0 := Aside0.mk hm0
  have hof : ofA l = endA (comeA H0 l).1 (comeA H0 l).2 l.length := rfl
  have hrest := comeA_rest H0 l
  have hh8 := comeA_length (hs := H0) rfl l
  generalize hq : comeA H0 l = q at *
  obtain ⟨hs1, r1⟩ := q
  dsimp only at hof hrest hh8
  have hel : (endA hs1 r1 (l.length : Int)).length = 32 := digestA_length _
  rw [hof]
  generalize hvs : (endA hs1 r1 (l.length : Int)).map (Value.int .u8) = vs
  have hone : ∀ v ∈ vs, v.oneCell' = true := by rw [← hvs]; exact one_u8 _
  have hsz2 : vs.length = 32 := by rw [← hvs, List.length_map]; exact hel
  have hi : (Tryd.prog.info? 29).map (·.size) = some (⟨vs⟩ : Array Value).size := by
    rw [show (⟨vs⟩ : Array Value).size = 32 from hsz2]
    rfl
  have hzs : zeroD.size = (⟨vs⟩ : Array Value).size := by rw [show (⟨vs⟩ : Array Value).size = 32 from hsz2]; rfl
  have HVS := Aside0.mk hvs
  have HON := Aside0.mk hone
  have HQQ := Aside0.mk hq
  have HR1 : Aside0 (r1.length < 64) := ⟨by omega⟩
  clear h1 hc1 hl hm0 hof hrest hel hvs hone hsz2 hq
  go_enter Tryd.func21, Tryd.ntmps21
  repeat (first
    | (go_at_call 32; (with_reducible refine (refBegin_calls _).mono ?_); rintro e2 w2 ⟨rfl, hb2⟩; have HB2 := Aside0.mk (bl HB0.out hb2); have HZ2 := Aside0.mk (blk_below HQ2.out hb2); clear hb2; dsimp only)
    | (go_at_call 31; (with_reducible refine (came_cs _ H0 none 0 [] 0 A c l ?hcs rfl w2 (Kd.C_nil _ _) (by decide) (Kd.C_below H1.out HB2.out) HC1.out (by have := HL.out; simp; omega)).mono ?_); (case hcs => rfl); rintro e3 w3 ⟨R3, c3, rfl, hc3, hr3, hb3⟩; rw [List.nil_append] at hc3 hr3 ⊢; rw [HQQ.out] at hc3 hr3 ⊢; rw [HM0.out]; dsimp only at hc3 hr3 ⊢; have HB3 := Aside0.mk (bl HB2.out hb3); have HZ3 := Aside0.mk (blk_below HZ2.out hb3); have HC3 := Aside0.mk hc3; have HF3 := Aside0.mk hr3; clear hc3 hr3 hb3)
    | (go_at_call 30; (with_reducible refine (ended_cs _ hs1 R3 c3 r1 (l.length : Int) ?hcs hh8 w3 (Kd.F_now HF3.out) HC3.out (by omega) HR1.out).mono ?_); (case hcs => rfl); rintro e4 w4 ⟨rfl, hb4⟩; rw [HVS.out]; have HB4 := Aside0.mk (bl HB3.out hb4); have HZ4 := Aside0.mk (blk_below HZ3.out hb4); clear hb4; dsimp only)
    | ((with_reducible refine wpList_store 29 (.tmp 2) (.tmp 6) w.heap.size _ _ ⟨vs⟩ rfl rfl ?hx ?hy HZ4.out hzs hi HON.out ?_); (case hx => rfl); (case hy => rfl); intro w1 g1 g2 g3 g4; have HG1 := Aside0.mk g1; have HG3 := Aside0.mk (g3 w.heap.size w HB4.out (by omega)); clear g1 g2 g3 g4)
    | go_values | go_guarded | go_step | go_upon | go_back)
  refine bodyPost_ret (results_single rfl (.cell w.heap.size _ _ (0, 0) _ rfl HG1.out Tryd.underlying29 rfl hi .nil)) rfl ?_
  exact ⟨rfl, HG3.out⟩

end Go.Proofs.YtncipbbdboeinaaDoor
