/-
The walk of law NumTakes.
-/
import Derived.Test.YtncpilnallghpaaSpoil
import Derived.Test.YtncpilnallghpaaPAll4
import Derived.Test.YtncpilnallghpaaPAll15
import Derived.Test.YtncpilnallghpaaPAll16
import Derived.Test.YtncpilnallghpaaPAll17
import Derived.Test.YtncpilnallghpaaPAll12
import Derived.Test.YtncpilnallghpaaPAll3
import Derived.Test.YtncpilnallghpaaPAll1
namespace Go.Proofs.Ytncpilnallghpaa
open Go.RowKit Go.Proofs.YtncpilnallghpaaW.PrintWords Go.Proofs.YtncpilnallghpaaW.PrintLast Go.Proofs.YtncpilnallghpaaW.PrintMore Go.Proofs.Ytncpilnallghpaa.PAll
set_option linter.unusedVariables false
set_option linter.unusedSimpArgs false

theorem info5' : (Try.prog.info? 5).map (fun i => (i.zero, i.size, i.bytes)) = some (some (.int .u8 0), 1, 1) := by kernel_rfl
theorem info3' : (Try.prog.info? 3).map (fun i => (i.zero, i.size, i.bytes)) = some (some (.int .i64 0), 1, 8) := by kernel_rfl

theorem bl {w a b : World} (h : Below w.heap.size w a) (k : Below a.heap.size a b) : Below w.heap.size w b := h.trans (k.mono h.size)
set_option maxHeartbeats 1000000 in
set_option maxRecDepth 100000 in
theorem takes_big (A0 : Option Addr) (c0 m0 : Nat) (A1 : Option Addr) (c1 m1 : Nat) (hm : 5000 < m0 ∨ 100 < m1) (w : World) :
    Calls Try.prog 5 #[.slice A0 m0 c0, .slice A1 m1 c1] w fun e w' => e = .returned (.bool true) ∧ w = w' := by
  by_cases h0 : 5000 < m0
  · have hgt : (5000 : Int) < (m0 : Int) := by omega
    clear hm h0
    go_enter Try.func5, Try.ntmps5
    repeat (first | go_values | go_guarded | go_step | go_upon | go_back)
    go_ret
    exact ⟨rfl, rfl⟩
  · have hgt : ¬ (5000 : Int) < (m0 : Int) := by omega
    have hgt1 : (100 : Int) < (m1 : Int) := by omega
    clear hm h0
    go_enter Try.func5, Try.ntmps5
    repeat (first | go_values | go_guarded | go_step | go_upon | go_back)
    go_ret
    exact ⟨rfl, rfl⟩

set_option maxHeartbeats 4000000 in
set_option maxRecDepth 100000 in
theorem takes_small (K : Nat) (A0 : Option Addr) (c0 : Nat) (l0 : List Int) (A1 : Option Addr) (c1 : Nat) (l1 : List Int) (t : List Int) (e : Int) (x : List (List Int)) (g : Int) (hm0 : l0.length ≤ 5000) (hm1 : l1.length ≤ 100)
    (h1 : num_Take.f K l0 l1 = some (t, e)) (h2 : ref01_Take.f K l0 l1 = some (t, e)) (h3 : num_Cut.f l0 l1 = some (x, g)) (h4 : ref01_Cut.f K l0 l1 = some (x, g))
    (h5 : ref01_SameNumbers.f K t t = some true) (h6 : ref01_SameAll.f K x x = some true) (h7 : ref01_Same.f l0 l0 = some true) (h8 : ref01_SameInts.f K l1 l1 = some true) (hx : x.length ≤ 100)
    (w : World) (hr0 : Kd.C (Kd.int .u8) w A0 l0.length l0) (hc0 : l0.length ≤ c0) (hr1 : Kd.C (Kd.int .i64) w A1 l1.length l1) (hc1 : l1.length ≤ c1) :
    Calls Try.prog 5 #[.slice A0 l0.length c0, .slice A1 l1.length c1] w fun e w' => e = .returned (.bool true) ∧ Below w.heap.size w w' := by
  have hgt : ¬ (5000 : Int) < (l0.length : Int) := by omega
  have hgt1 : ¬ (100 : Int) < (l1.length : Int) := by omega
  have hee : (e == e) = true := beq_self_eq_true e
  have hgg : (g == g) = true := beq_self_eq_true g
  have H1 := Aside0.mk h1
  have H2 := Aside0.mk h2
  have H3 := Aside0.mk h3
  have H4 := Aside0.mk h4
  have H5 := Aside0.mk h5
  have H6 := Aside0.mk h6
  have H7 := Aside0.mk h7
  have H8 := Aside0.mk h8
  have HX := Aside0.mk hx
  have HM0 := Aside0.mk hm0
  have HM1 := Aside0.mk hm1
  have HR0 := Aside0.mk hr0
  have HC0 := Aside0.mk hc0
  have HR1 := Aside0.mk hr1
  have HC1 := Aside0.mk hc1
  clear h1 h2 h3 h4 h5 h6 h7 h8 hx hm0 hm1 hr0 hc0 hr1 hc1
  go_enter Try.func5, Try.ntmps5
  repeat (first
    | ((with_reducible refine gate_dst (N := 26) rfl ?_); refine Kd.R_lit (Kd.int .u8) _ 5 ?hg (N := 26) ?hd (xs := ([] : List Int)) (inner := []) (ok := fun _ => True) (okp := fun _ => True) ?hr ?hp (fun _ hk => hk) trivial (Below.refl _ _) (Nat.le_refl _) (by simp) ?_; (case hd => rfl); (case hg => rfl); (case hr => first | (go_simp; done) | (go_simp; rfl)); (case hp => exact (Reps.none _ _)); intro v1 w1 ho hb hg_ hnew_; have HO1 := Aside0.mk ho; have HB1 := Aside0.mk hb; clear hg_ hnew_ ho hb)
    | ((with_reducible refine gate_builtin (b := .append) (xs := #[.tmp 26, .tmp 27]) rfl ?_); at_builtin; refine Kd.R_append_rows (Kd.int .u8) (w0 := w) w.heap.size rfl (.tmp 26) (.tmp 27) 35 5 (.int .u8 0) 1 rfl Try.underlying35 info5' rfl (by decide) (by omega) v1 [] l0 _ _ _ (fun _ => True) (fun _ => False) rfl rfl ?aO ?aR (fun _ _ h => h) (fun _ h => h.elim) ?aF ?aB ?aS ?aL ?_; (case aR => exact Kd.C_below HR0.out HB1.out); (case aB => exact HB1.out); (case aF => exact (fun _ _ => trivial)); (case aO => exact HO1.out); (case aS => exact below_size HB1.out); (case aL => have := HM0.out; simp; omega); intro v2 w2 ho hb hg hat; have HO2 := Aside0.mk ho; have HB2 := Aside0.mk hb; clear ho hb hg hat HO1 HB1)
    | ((with_reducible refine gate_dst (N := 29) rfl ?_); refine Kd.R_lit (Kd.int .i64) _ 3 ?hg (N := 29) ?hd (xs := ([] : List Int)) (inner := []) (ok := fun _ => True) (okp := fun _ => True) ?hr ?hp (fun _ hk => hk) trivial (Below.refl _ _) (Nat.le_refl _) (by simp) ?_; (case hd => rfl); (case hg => rfl); (case hr => first | (go_simp; done) | (go_simp; rfl)); (case hp => exact (Reps.none _ _)); intro v3 w3 ho hb hg_ hnew_; have HO3 := Aside0.mk (Kd.R_lower ho (below_size HB2.out)); have HB3 := Aside0.mk (below_step HB2.out hb); have HO2' := Aside0.mk (Kd.R_below HO2.out hb); clear hg_ hnew_ ho hb HO2 HB2)
    | ((with_reducible refine gate_builtin (b := .append) (xs := #[.tmp 29, .tmp 30]) rfl ?_); at_builtin; refine Kd.R_append_rows (Kd.int .i64) (w0 := w) w.heap.size rfl (.tmp 29) (.tmp 30) 34 3 (.int .i64 0) 8 rfl Try.underlying34 info3' rfl (by decide) (by omega) v3 [] l1 _ _ _ (fun _ => True) (fun _ => False) rfl rfl ?aO ?aR (fun _ _ h => h) (fun _ h => h.elim) ?aF ?aB ?aS ?aL ?_; (case aR => exact Kd.C_below HR1.out HB3.out); (case aB => exact HB3.out); (case aF => exact (fun _ _ => trivial)); (case aO => exact HO3.out); (case aS => exact below_size HB3.out); (case aL => have := HM1.out; simp; omega); intro v4 w4 ho hb hg hat; have HO2'' := Aside0.mk (Kd.R_over' HO2'.out (Kd.R_typed HO3.out) (by decide) hg); have HO4 := Aside0.mk ho; have HB4 := Aside0.mk hb; clear ho hb hg hat HO3 HB3 HO2'; obtain ⟨Ao, co, rfl, hco, hCo⟩ := Kd.R_reads HO2''.out; obtain ⟨Am, cm, rfl, hcm, hCm⟩ := Kd.R_reads HO4.out; simp only [List.nil_append] at hco hCo hcm hCm ⊢; have HCo := Aside0.mk hco; have HRo := Aside0.mk hCo; have HCm := Aside0.mk hcm; have HRm := Aside0.mk hCm; clear HO2'' HO4 hco hCo hcm hCm)
    | (go_at_call 28; (with_reducible refine (num_Take.calls K Ao co l0 Am cm l1 t e w4 HRo.out HCo.out HRm.out HCm.out H1.out).mono ?_); rintro e5 w5 ⟨v5, rfl, hr5, hb5⟩; obtain ⟨A5, c5, rfl, hc5, hC5⟩ := Kd.R_reads hr5; have HC5 := Aside0.mk hc5; have HR5 := Aside0.mk hC5; have HB5 := Aside0.mk hb5; clear hr5 hc5 hC5 hb5; dsimp only)
    | (go_at_call 29; (with_reducible refine (ref01_Take.calls K A0 c0 l0 A1 c1 l1 t e w5 (Kd.C_below (Kd.C_below HR0.out HB4.out) HB5.out) HC0.out (Kd.C_below (Kd.C_below HR1.out HB4.out) HB5.out) HC1.out H2.out).mono ?_); rintro e6 w6 ⟨v6, rfl, hr6, hb6⟩; obtain ⟨A6, c6, rfl, hc6, hC6⟩ := Kd.R_reads hr6; have HC6 := Aside0.mk hc6; have HR6 := Aside0.mk hC6; have HB6 := Aside0.mk hb6; clear hr6 hc6 hC6 hb6; dsimp only)
    | (go_at_call 30; (with_reducible refine (num_Cut.calls2 Ao co l0 Am cm l1 x g w6 (Kd.C_below (Kd.C_below HRo.out HB5.out) HB6.out) HCo.out (Kd.C_below (Kd.C_below HRm.out HB5.out) HB6.out) HCm.out H3.out).mono ?_); rintro e7 w7 ⟨v7, rfl, hr7, hb7⟩; have HB7 := Aside0.mk hb7; have HV7 := Aside0.mk hr7; obtain ⟨A7, c7, rfl⟩ := Kd.V_slice hr7; clear hr7 hb7; dsimp only)
    | (go_at_call 31; (with_reducible refine (ref01_Cut.calls K A0 c0 l0 A1 c1 l1 x g w7 (Kd.C_below (Kd.C_below (Kd.C_below (Kd.C_below HR0.out HB4.out) HB5.out) HB6.out) HB7.out) HC0.out (Kd.C_below (Kd.C_below (Kd.C_below (Kd.C_below HR1.out HB4.out) HB5.out) HB6.out) HB7.out) HC1.out H4.out).mono ?_); rintro e8 w8 ⟨v8, rfl, hr8, hb8⟩; have HB8 := Aside0.mk hb8; obtain ⟨A8, c8, rfl, hc8, hC8⟩ := Kd.S_reads hr8; have HC8 := Aside0.mk hc8; have HR8 := Aside0.mk hC8; clear hr8 hb8 hc8 hC8; dsimp only)
    | (go_at_call 26; (with_reducible refine (ref01_SameNumbers.calls K A5 c5 t A6 c6 t true w8 (Kd.C_below (Kd.C_below (Kd.C_below HR5.out HB6.out) HB7.out) HB8.out) HC5.out (Kd.C_below (Kd.C_below HR6.out HB7.out) HB8.out) HC6.out H5.out).mono ?_); rintro e9 w9 ⟨rfl, hd⟩; have HB9 : Aside0 (Below w8.heap.size w8 w9) := ⟨by obtain ⟨n, rfl⟩ := hd.out; exact pw_below_drewN (Below.refl _ _) n⟩; clear hd; dsimp only)
    | (go_at_call 32; (with_reducible refine (ref01_SameAll.calls K A7 c7 x A8 c8 x true w9 (Kd.C_below (Kd.C_below (Kd.V_reads' HV7.out).2.2 HB8.out) HB9.out) (Kd.V_reads' HV7.out).2.1 (Kd.C_below HR8.out HB9.out) HC8.out H6.out).mono ?_); rintro e10 w10 ⟨rfl, hd⟩; have HB10 : Aside0 (Below w9.heap.size w9 w10) := ⟨by obtain ⟨n, rfl⟩ := hd.out; exact pw_below_drewN (Below.refl _ _) n⟩; clear hd; dsimp only)
    | go_values | go_guarded | go_step | go_upon | go_back)
  obtain ⟨A, c, ev, hc7, _, hxs, hsp⟩ := spoil_of_V (Kd.V_below (Kd.V_below (Kd.V_below HV7.out HB8.out) HB9.out) HB10.out)
  injection ev with ev1 ev2 ev3
  subst ev1; subst ev3
  generalize hok : (fun k => w6.heap.size ≤ k ∧ ∃ cells q, w7.heap[k]? = some (Obj.cells cells q (0, 0))) = ok at *
  have hlow : Aside0 (∀ k, ok k → w6.heap.size ≤ k) := ⟨fun k hk => by subst hok; exact hk.1⟩
  have hsoft : Aside0 (Soft w10 ok) := ⟨fun k hk => by subst hok; obtain ⟨_, cells, q, hq⟩ := hk; exact ⟨cells, q, blk_below (blk_below (blk_below hq HB8.out) HB9.out) HB10.out⟩⟩
  have HSP := Aside0.mk hsp
  have HXS := Aside0.mk hxs
  have HBB : Aside0 (Below w6.heap.size w6 w10) := ⟨bl (bl (bl HB7.out HB8.out) HB9.out) HB10.out⟩
  clear hsp hxs hok HB7 HB8 HB9 HB10 HV7 HR8 hc7
  go_loopw [16] (fun i wr => ∃ n : Nat, i = .int .i64 n ∧ n ≤ x.length ∧ Aside0 (Spoil wr ok A7 x) ∧ Aside0 (Soft wr ok) ∧ Aside0 (Below w6.heap.size w6 wr)) (fun i _ => x.length - (intOf i).toNat)
  case atStart => exact ⟨0, rfl, by omega, HSP, hsoft, HBB⟩
  case round =>
    clear HSP hsoft HBB
    obtain ⟨n, rfl, hn, HSP, HSF, HBB⟩ := hrel
    by_cases hlt : n < x.length
    · have hd1 : decide ((n : Int) < (x.length : Int)) = true := decide_eq_true (by omega)
      obtain ⟨a, rfl, B, cc, hcell, hin⟩ := HSP.out n x[n] (List.getElem?_eq_getElem hlt)
      have hlt2 : (n : Int) < (x.length : Int) := by omega
      have hlen := HXS.out x[n] (List.getElem_mem hlt)
      have HIN := Aside0.mk hin
      clear hin hcell hlen
      go_wp2
      go_loopw [17] (fun i wr => ∃ k : Nat, i = .int .i64 k ∧ k ≤ x[n].length ∧ Aside0 (Spoil wr ok (some a) x) ∧ Aside0 (Soft wr ok) ∧ Aside0 (Below w6.heap.size w6 wr)) (fun i _ => x[n].length - (intOf i).toNat)
      case atStart => exact ⟨0, rfl, by omega, HSP, HSF, HBB⟩
      case round =>
        clear HSP HSF HBB HIN
        obtain ⟨k, rfl, hk, HSP, HSF, HBB⟩ := hrel
        obtain ⟨_, ea, B, cc, hcell, hin⟩ := HSP.out n x[n] (List.getElem?_eq_getElem hlt)
        injection ea with ea
        subst ea
        by_cases hkl : k < x[n].length
        · have hd2 : decide ((k : Int) < (x[n].length : Int)) = true := decide_eq_true (by omega)
          obtain ⟨b, rfl, hokb, z, hz⟩ := hin k hkl
          have hf := HSF.out.frozen (p := b.add k) (by rw [add_block]; exact hokb)
          have hlt3 : (k : Int) < (x[n].length : Int) := by omega
          have hneg : ¬ (k : Int) < 0 := by omega
          go_wp2
          go_region
          have HSP1 := Aside0.mk (HSP.out.set hz ((z + 1) % 256))
          have HSF1 := Aside0.mk (HSF.out.set (b.add k) (.int .u8 ((z + 1) % 256)))
          have HBB1 := Aside0.mk (HBB.out.setCell (p := b.add k) (by rw [add_block]; exact hlow.out _ hokb) (.int .u8 ((z + 1) % 256)))
          generalize wr.setCell (b.add k) (.int .u8 ((z + 1) % 256)) = wn at HSP1 HSF1 HBB1 ⊢
          clear hf hcell hz HSP HSF HBB
          go_wp2
          rw [show wrap64 ((k : Int) + 1) = ((k + 1 : Nat) : Int) from by have := HXS.out x[n] (List.getElem_mem hlt); unfold wrap64; omega]
          exact ⟨⟨k + 1, rfl, by omega, ⟨spoil_drew HSP1.out⟩, ⟨soft_drew HSF1.out⟩, ⟨below_drew HBB1.out⟩⟩, by simp [intOf]; omega⟩
        · have hd2 : decide ((k : Int) < (x[n].length : Int)) = false := decide_eq_false (by omega)
          go_wp2
          exact ⟨⟨n + 1, rfl, by omega, HSP, HSF, HBB⟩, by simp [intOf]; omega⟩
    · have hd1 : decide ((n : Int) < (x.length : Int)) = false := decide_eq_false (by omega)
      clear HSP HSF
      repeat (first
        | (go_at_call 25; (with_reducible refine (ref01_Same.calls Ao co l0 A0 c0 l0 true wr (Kd.C_below (Kd.C_below (Kd.C_below HRo.out HB5.out) HB6.out) HBB.out) HCo.out (Kd.C_below (Kd.C_below (Kd.C_below (Kd.C_below HR0.out HB4.out) HB5.out) HB6.out) HBB.out) HC0.out H7.out).mono ?_); rintro e11 w11 ⟨rfl, hd⟩; have HB11 : Aside0 (Below wr.heap.size wr w11) := ⟨by obtain ⟨n, rfl⟩ := hd.out; exact pw_below_drewN (Below.refl _ _) n⟩; clear hd; dsimp only)
        | (go_at_call 27; (with_reducible refine (ref01_SameInts.calls K Am cm l1 A1 c1 l1 true w11 (Kd.C_below (Kd.C_below (Kd.C_below (Kd.C_below HRm.out HB5.out) HB6.out) HBB.out) HB11.out) HCm.out (Kd.C_below (Kd.C_below (Kd.C_below (Kd.C_below (Kd.C_below HR1.out HB4.out) HB5.out) HB6.out) HBB.out) HB11.out) HC1.out H8.out).mono ?_); rintro e12 w12 ⟨rfl, hd⟩; have HB12 : Aside0 (Below w11.heap.size w11 w12) := ⟨by obtain ⟨n, rfl⟩ := hd.out; exact pw_below_drewN (Below.refl _ _) n⟩; clear hd; dsimp only)
        | go_values | go_guarded | go_step | go_upon | go_back)
      go_ret
      exact ⟨rfl, bl (bl (bl (bl (bl HB4.out HB5.out) HB6.out) HBB.out) HB11.out) HB12.out⟩
end Go.Proofs.Ytncpilnallghpaa
