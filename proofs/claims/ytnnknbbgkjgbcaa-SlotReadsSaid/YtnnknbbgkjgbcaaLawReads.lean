/-
The walk of law SlotReads.
-/
import Derived.Test.YtnnknbbgkjgbcaaSpoil
import Derived.Test.YtnnknbbgkjgbcaaHandSlot
import Derived.Test.YtnnknbbgkjgbcaaPAll9
import Derived.Test.YtnnknbbgkjgbcaaPAll10
import Derived.Test.YtnnknbbgkjgbcaaPAll3
namespace Go.Proofs.Ytnnknbbgkjgbcaa
open Go.RowKit Go.Proofs.YtnnknbbgkjgbcaaW.PrintWords Go.Proofs.YtnnknbbgkjgbcaaW.PrintLast Go.Proofs.YtnnknbbgkjgbcaaW.PrintMore Go.Proofs.Ytnnknbbgkjgbcaa.PAll
set_option linter.unusedVariables false
set_option linter.unusedSimpArgs false

theorem info5' : (Try.prog.info? 5).map (fun i => (i.zero, i.size, i.bytes)) = some (some (.int .u8 0), 1, 1) := by kernel_rfl
theorem bl {w a b : World} (h : Below w.heap.size w a) (k : Below a.heap.size a b) : Below w.heap.size w b := h.trans (k.mono h.size)

set_option maxHeartbeats 1000000 in
set_option maxRecDepth 100000 in
theorem reads_big (a0 a1 a2 a3 : Int) (A1 : Option Addr) (c1 m1 : Nat) (hm : 1000 < m1) (w : World) :
    Calls Try.prog 5 #[.agg #[.int .i64 a0, .int .i64 a1, .int .i64 a2, .int .i64 a3], .slice A1 m1 c1] w fun e w' => e = .returned (.bool true) ∧ Below w.heap.size w w' := by
  have hgt : (1000 : Int) < (m1 : Int) := by omega
  clear hm
  go_enter Try.func5, Try.ntmps5
  repeat (first | go_values | go_guarded | go_step | go_upon | go_back)
  go_ret
  exact ⟨rfl, below_alloc (Below.refl _ _) _⟩

set_option maxHeartbeats 4000000 in
set_option maxRecDepth 100000 in
theorem reads_small (K : Nat) (a0 a1 a2 a3 : Int) (A1 : Option Addr) (c1 : Nat) (l1 : List Int) (r1 r2 : Int) (r3 : List Int) (r4 : Bool) (r5 : Int) (hm1 : l1.length ≤ 1000)
    (h1 : slot_Read.f a0 a1 a2 a3 l1 = some (r1, r2, r3, r4, r5)) (h2 : ref09_Read.f K a0 a1 a2 a3 l1 = some (r1, r2, r3, r4, r5)) (h3 : ref09_Same.f r1 r2 r3 r1 r2 r3 = some true) (h4 : ref01_Same.f l1 l1 = some true)
    (w : World) (hr1 : Kd.C (Kd.int .u8) w A1 l1.length l1) (hc1 : l1.length ≤ c1) :
    Calls Try.prog 5 #[.agg #[.int .i64 a0, .int .i64 a1, .int .i64 a2, .int .i64 a3], .slice A1 l1.length c1] w fun e w' => e = .returned (.bool true) ∧ Below w.heap.size w w' := by
  have hgt : ¬ (1000 : Int) < (l1.length : Int) := by omega
  have h44 : (r4 == r4) = true := beq_self_eq_true r4
  have h55 : (r5 == r5) = true := beq_self_eq_true r5
  have H1 := Aside0.mk h1
  have H2 := Aside0.mk h2
  have H3 := Aside0.mk h3
  have H4 := Aside0.mk h4
  have HM1 := Aside0.mk hm1
  have HR1 := Aside0.mk hr1
  have HC1 := Aside0.mk hc1
  clear h1 h2 h3 h4 hm1 hr1 hc1
  go_enter Try.func5, Try.ntmps5
  repeat (first
    | ((with_reducible refine gate_dst (N := 17) rfl ?_); refine Kd.R_lit (Kd.int .u8) _ 5 ?hg (N := 17) ?hd (xs := ([] : List Int)) (inner := []) (ok := fun _ => True) (okp := fun _ => True) ?hr ?hp (fun _ hk => hk) trivial (Below.refl _ _) (Nat.le_refl _) (by simp) ?_; (case hd => rfl); (case hg => rfl); (case hr => first | (go_simp; done) | (go_simp; rfl)); (case hp => exact (Reps.none _ _)); intro v1 w1 ho hb hg_ hnew_; have HB1 := Aside0.mk (bl (below_alloc (Below.refl w.heap.size w) (.cells #[.int .i64 a0, .int .i64 a1, .int .i64 a2, .int .i64 a3] 38)) hb); have HO1 := Aside0.mk (Kd.R_lower ho (by simp : w.heap.size ≤ _)); have BK1 := Aside0.mk (blk_below (heap_alloc_new w (.cells #[.int .i64 a0, .int .i64 a1, .int .i64 a2, .int .i64 a3] 38)) hb); clear hg_ hnew_ ho hb)
    | ((with_reducible refine gate_builtin (b := .append) (xs := #[.tmp 17, .tmp 18]) rfl ?_); at_builtin; refine Kd.R_append_rows (Kd.int .u8) (w0 := w) w.heap.size rfl (.tmp 17) (.tmp 18) 28 5 (.int .u8 0) 1 rfl Try.underlying28 info5' rfl (by decide) (by omega) v1 [] l1 _ _ _ (fun _ => True) (fun _ => False) rfl rfl ?aO ?aR (fun _ _ h => h) (fun _ h => h.elim) ?aF ?aB ?aS ?aL ?_; (case aR => exact Kd.C_below HR1.out HB1.out); (case aB => exact HB1.out); (case aF => exact (fun _ _ => trivial)); (case aO => exact HO1.out); (case aS => exact below_size HB1.out); (case aL => have := HM1.out; simp; omega); intro v2 w2 ho hb hg hat; obtain ⟨Ao, co, rfl, hco, hCo⟩ := Kd.R_reads ho; simp only [List.nil_append] at hco hCo ⊢; have HCo := Aside0.mk hco; have HRo := Aside0.mk hCo; have HB2 := Aside0.mk hb; have BK2 := Aside0.mk (blk_grown BK1.out hg (Kd.R_ne HO1.out BK1.out (by decide))); obtain ⟨hz0, hz1, hz2, hz3⟩ := box4 BK2.out; clear ho hb hg hat HO1 HB1 BK1 hco hCo)
    | (go_at_call 31; (with_reducible refine (slot_Read.calls2 a0 a1 a2 a3 Ao co l1 r1 r2 r3 r4 r5 w2 HRo.out HCo.out H1.out).mono ?_); rintro e3 w3 ⟨v3, rfl, hv3, hb3⟩; obtain ⟨A3, c3, rfl⟩ := Kd.V_slice hv3; have HV3 := Aside0.mk hv3; have HB3 := Aside0.mk hb3; have BK3 := Aside0.mk (blk_alloc (blk_below BK2.out hb3) (.cells #[.int .i64 r1, .int .i64 r2, .slice A3 r3.length c3] 40)); have BX3 := Aside0.mk (heap_alloc_new w3 (.cells #[.int .i64 r1, .int .i64 r2, .slice A3 r3.length c3] 40)); clear hv3 hb3 hz0 hz1 hz2 hz3; obtain ⟨hy0, hy1, hy2, hy3⟩ := box4 BK3.out; dsimp only)
    | (go_at_call 32; (with_reducible refine (ref09_Read.calls K a0 a1 a2 a3 A1 c1 l1 r1 r2 r3 r4 r5 _ (Kd.C_alloc (Kd.C_below (Kd.C_below HR1.out HB2.out) HB3.out) _) HC1.out H2.out).mono ?_); rintro e5 w5 ⟨v5, rfl, hv5, hb5⟩; obtain ⟨A5, c5, rfl, hc5, hC5⟩ := Kd.R_reads hv5; have HB5 := Aside0.mk hb5; have HC5 := Aside0.mk hc5; have HR5 := Aside0.mk hC5; have BX5 := Aside0.mk (blk_alloc (blk_below BX3.out hb5) (.cells #[.int .i64 r1, .int .i64 r2, .slice A5 r3.length c5] 40)); have BY5 := Aside0.mk (heap_alloc_new w5 (.cells #[.int .i64 r1, .int .i64 r2, .slice A5 r3.length c5] 40)); clear hv5 hb5 hc5 hC5 hy0 hy1 hy2 hy3; obtain ⟨hx0, hx1, hx2⟩ := box3 BX5.out; obtain ⟨hu0, hu1, hu2⟩ := box3 BY5.out; dsimp only)
    | (go_at_call 30; (with_reducible refine (ref09_Same.calls r1 r2 A3 c3 r3 r1 r2 A5 c5 r3 true _ (Kd.C_alloc (Kd.C_below (Kd.C_alloc (Kd.V_reads' HV3.out).2.2 _) HB5.out) _) (Kd.V_reads' HV3.out).2.1 (Kd.C_alloc HR5.out _) HC5.out H3.out).mono ?_); rintro e7 w7 ⟨rfl, hb7⟩; have HB7 := Aside0.mk hb7; have BX7 := Aside0.mk (blk_below BX5.out hb7); have HV7 := Aside0.mk (Kd.V_below (Kd.V_alloc (Kd.V_below (Kd.V_alloc HV3.out (.cells #[.int .i64 r1, .int .i64 r2, .slice A3 r3.length c3] 40)) HB5.out) (.cells #[.int .i64 r1, .int .i64 r2, .slice A5 r3.length c5] 40)) hb7); clear hb7 hx0 hx1 hx2 hu0 hu1 hu2; dsimp only)
    | go_values | go_guarded | go_step | go_upon | go_back)
  obtain ⟨_, hn9, hsp⟩ := spoil1_of_V HV7.out
  have hsoft : Aside0 (Soft w7 (Young w2.heap.size w3)) := ⟨fun k hk => by obtain ⟨_, cells, q, hq⟩ := hk; exact ⟨cells, q, blk_below (blk_alloc (blk_below (blk_alloc hq _) HB5.out) _) HB7.out⟩⟩
  have HBB : Aside0 (Below w2.heap.size w2 w7) := ⟨bl (below_alloc (bl (below_alloc HB3.out _) HB5.out) _) HB7.out⟩
  have HSP := Aside0.mk hsp
  have HN9 := Aside0.mk hn9
  have HXC := Aside0.mk (blk_cell BX7.out 2)
  clear hsp hn9 HV7 HV3 BX7 BX5 BY5 BX3 BK3 BK2
  go_loopw [13] (fun i wr => ∃ k : Nat, i = .int .i64 k ∧ k ≤ r3.length ∧ Aside0 (wr.cell? ⟨w3.heap.size, 2, none⟩ = some (.slice A3 r3.length c3)) ∧ Aside0 (Spoil1 wr (Young w2.heap.size w3) A3 r3.length) ∧ Aside0 (Soft wr (Young w2.heap.size w3)) ∧ Aside0 (Below w2.heap.size w2 wr)) (fun i _ => r3.length - (intOf i).toNat)
  case atStart => exact ⟨0, rfl, by omega, ⟨HXC.out⟩, HSP, hsoft, HBB⟩
  case round =>
    clear HXC HSP hsoft HBB
    obtain ⟨k, rfl, hk, HXC, HSP, HSF, HBB⟩ := hrel
    have hxc := HXC.out
    by_cases hkl : k < r3.length
    · have hd2 : decide ((k : Int) < (r3.length : Int)) = true := decide_eq_true (by omega)
      obtain ⟨b, rfl, hokb, z, hz⟩ := HSP.out k hkl
      have hf := HSF.out.frozen (p := b.add k) (by rw [add_block]; exact hokb)
      have hlt3 : (k : Int) < (r3.length : Int) := by omega
      have hneg : ¬ (k : Int) < 0 := by omega
      go_wp2
      go_region
      have HSP1 := Aside0.mk (HSP.out.set hz ((z + 1) % 256))
      have HSF1 := Aside0.mk (HSF.out.set (b.add k) (.int .u8 ((z + 1) % 256)))
      have HXC1 := Aside0.mk (slice_set HXC.out hz ((z + 1) % 256))
      have HBB1 := Aside0.mk (HBB.out.setCell (p := b.add k) (by rw [add_block]; exact hokb.1) (.int .u8 ((z + 1) % 256)))
      generalize wr.setCell (b.add k) (.int .u8 ((z + 1) % 256)) = wn at HSP1 HSF1 HBB1 HXC1 ⊢
      clear hf hxc hz HSP HSF HBB HXC
      go_wp2
      rw [show wrap64 ((k : Int) + 1) = ((k + 1 : Nat) : Int) from by have := HN9.out; unfold wrap64; omega]
      exact ⟨⟨k + 1, rfl, by omega, ⟨HXC1.out⟩, ⟨HSP1.out⟩, ⟨HSF1.out⟩, ⟨below_drew HBB1.out⟩⟩, by simp [intOf]; omega⟩
    · have hd2 : decide ((k : Int) < (r3.length : Int)) = false := decide_eq_false (by omega)
      clear HSP HSF
      repeat (first
        | (go_at_call 16; (with_reducible refine (ref01_Same.calls Ao co l1 A1 c1 l1 true wr (Kd.C_below HRo.out HBB.out) HCo.out (Kd.C_below (Kd.C_below HR1.out HB2.out) HBB.out) HC1.out H4.out).mono ?_); rintro e11 w11 ⟨rfl, hd⟩; have HB11 : Aside0 (Below wr.heap.size wr w11) := ⟨by obtain ⟨n, rfl⟩ := hd.out; exact pw_below_drewN (Below.refl _ _) n⟩; clear hd; dsimp only)
        | go_values | go_guarded | go_step | go_upon | go_back)
      go_ret
      exact ⟨rfl, bl (bl HB2.out HBB.out) HB11.out⟩
end Go.Proofs.Ytnnknbbgkjgbcaa
