/-
stream.Xor: what the call computes, as plain Lean, and that the call does so.
-/
import Derived.Test.YteichdiioidlcaaHandXorPut
namespace Go.Proofs.Yteichdiioidlcaa
open Go.RowKit Go.Proofs.YteichdiioidlcaaW.PrintWords Go.Proofs.YteichdiioidlcaaW.PrintLast Go.Proofs.YteichdiioidlcaaW.PrintMore
set_option linter.unusedVariables false
set_option linter.unusedSimpArgs false

theorem heap_pair (w : World) (a b : Obj) : ((w.alloc a).alloc b).heap[w.heap.size]? = some a ∧ ((w.alloc a).alloc b).heap[w.heap.size + 1]? = some b := by
  have h0 := heap_alloc_new w a
  have h1 := heap_alloc_new (w.alloc a) b
  rw [World.size_alloc] at h1
  exact ⟨blk_alloc h0 b, h1⟩

set_option maxHeartbeats 2000000 in
set_option maxRecDepth 100000 in
theorem xor_no (A0 : Option Addr) (c0 : Nat) (l0 : List Int) (A1 : Option Addr) (c1 : Nat) (l1 : List Int) (w : World) (hm0 : l0.length ≤ 9223372036854775807) (hm1 : l1.length ≤ 9223372036854775807) (h : ¬ l0.length = l1.length) :
    Calls Try.prog 11 #[.slice A0 l0.length c0, .slice A1 l1.length c1] w fun e w' => e = .returned (.tuple #[.slice none 0 0, .int .i64 2]) ∧ Below w.heap.size w w' := by
  have hq : ((l0.length : Int) != (l1.length : Int)) = true := by simp; omega
  clear h
  go_enter Try.func11, Try.ntmps11
  go_wp2
  go_ret2
  exact ⟨rfl, below_alloc (below_alloc (Below.refl _ _) _) _⟩

set_option maxHeartbeats 4000000 in
set_option maxRecDepth 100000 in
theorem xor_yes (A0 : Option Addr) (c0 : Nat) (l0 : List Int) (A1 : Option Addr) (c1 : Nat) (l1 : List Int) (w : World) (h0 : Kd.C (Kd.int .u8) w A0 l0.length l0) (h1 : Kd.C (Kd.int .u8) w A1 l1.length l1) (h : l0.length = l1.length) (hl : l0.length ≤ 140737488355328) :
    Calls Try.prog 11 #[.slice A0 l0.length c0, .slice A1 l1.length c1] w fun e w' => ∃ v, e = .returned (.tuple #[v, .int .i64 0]) ∧ Kd.R (Kd.int .u8) 5 w' w.heap.size (fun _ => True) v (xorUp l0 l1 l0.length) ∧ Below w.heap.size w w' := by
  have hq : ((l0.length : Int) != (l1.length : Int)) = false := by simp; omega
  have H0 := Aside0.mk h0
  have H1 := Aside0.mk h1
  have HE := Aside0.mk h
  have HL := Aside0.mk hl
  have hmf : ∀ (fn : Fn) (first cap : Array Value) (w : World), (Instr.makeFunc fn first cap).run Try.prog w = .ok (.func fn first cap) w := fun _ _ _ _ => rfl
  have hn0 : (0 : Int) ≤ (l0.length : Int) := by omega
  have hn1 : (l0.length : Int) ≤ 140737488355328 := by omega
  clear h0 h1 h hl
  go_enter Try.func11, Try.ntmps11
  go_upto_region 3 with (fail)
  generalize hW0 : (w.alloc (.cells #[.slice A0 l0.length c0] 22)).alloc (.cells #[.slice A1 l1.length c1] 22) = W0
  have hsz : W0.heap.size = w.heap.size + 2 := by rw [← hW0]; simp
  have hbw : Below w.heap.size w W0 := by rw [← hW0]; exact below_alloc (below_alloc (Below.refl _ _) _) _
  have hwa : W0.cell? ⟨w.heap.size, 0, none⟩ = some (.slice A0 l0.length c0) := by rw [← hW0]; exact blk_cell (heap_pair w _ _).1 0
  have hwb : W0.cell? ⟨w.heap.size + 1, 0, none⟩ = some (.slice A1 l1.length c1) := by rw [← hW0]; exact blk_cell (heap_pair w _ _).2 0
  have HSZ := Aside0.mk hsz
  have HBW := Aside0.mk hbw
  have H0' := Aside0.mk (Kd.C_below H0.out hbw)
  have H1' := Aside0.mk (Kd.C_below H1.out hbw)
  clear hW0 hsz hbw H0 H1
  have HWA := Aside0.mk hwa
  have HWB := Aside0.mk hwb
  go_wp2_with ((with_reducible refine gate_dst (N := 16) rfl ?_); refine Kd.R_make0 (Kd.int .u8) (w0 := W0) W0.heap.size 5 rfl rfl 22 (.const (.int .i64 0)) (.tmp 15) rfl l0.length rfl rfl Try.underlying22 (.int .u8 0) 1 info5 rfl (by decide) (by omega) (0 : Int) (ok := fun _ => True) (okp := fun _ => False) rfl (fun _ h => h.elim) trivial (by omega) (by have := HL.out; omega) (Below.refl _ _) (Nat.le_refl _) ?_; intro v1 w1 hr1 hb1 hg1 hat1; obtain ⟨Am, cm, rfl⟩ := Kd.R_slice hr1; have HR1 := Aside0.mk hr1; have HB1 := Aside0.mk hb1; have ha1 := pw_cell_below hb1 HWA.out; have hz1 : w.heap.size + 1 < w1.heap.size := (by have := hb1.size; have := HSZ.out; omega); have hz0 : w.heap.size < w1.heap.size := (by omega); clear hr1 hb1 hg1 hat1)
  have hle := HB1.out.size
  go_loopg [20] l0.length (fun kq v20 w' => ∃ (k : Nat) (v : Value), v20 = .int .i64 k ∧ Aside0 (kq + k = l0.length) ∧ Aside0 (w'.heap[w1.heap.size]? = some (.cells #[v] 22 (0, 0))) ∧ Aside0 (Kd.R (Kd.int .u8) 5 w' W0.heap.size (fun _ => True) v (xorUp l0 l1 k)) ∧ Aside0 (Below W0.heap.size W0 w'))
  case atStart => exact ⟨0, _, rfl, ⟨rfl⟩, ⟨blk_new w1 _⟩, ⟨Kd.R_alloc HR1.out _⟩, ⟨HB1.out.alloc hle _⟩⟩
  case round =>
    clear HR1 HB1 ha1
    obtain ⟨k, v, rfl, HK, HO, HR, HB⟩ := hrel
    by_cases hk : (k : Int) < (l0.length : Int)
    · have hd : decide ((k : Int) < (l0.length : Int)) = true := decide_eq_true hk
      have HKl := Aside0.mk (show k < l0.length by omega)
      go_wp2_with (go_at_call 26; go_loud (refine (put_calls W0 l0 l1 (xorUp l0 l1 k) A0 A1 c0 c1 w1.heap.size w.heap.size (w.heap.size + 1) k v _ HO.out HWA.out HWB.out H0'.out H1'.out HKl.out (HE.out ▸ HKl.out) hle HR.out HB.out (by rw [xorUp_length]; have := HL.out; have := HKl.out; omega)).mono ?_; rintro e w2 ⟨⟨u, rfl⟩, v2, hw2, hr2, hb2⟩; have HW2 := Aside0.mk hw2; have HR2 := Aside0.mk hr2; have HB2 := Aside0.mk hb2; clear hw2 hr2 hb2))
      go_roundg (gk - 1)
      case measure => have := HK.out; omega
      case rel => exact ⟨k + 1, v2, by go_num, ⟨by have := HK.out; have := HKl.out; omega⟩, HW2, ⟨by rw [xorUp_succ]; exact HR2.out⟩, HB2⟩
    · have hd : decide ((k : Int) < (l0.length : Int)) = false := decide_eq_false hk
      have hkk : k = l0.length := by have := HK.out; omega
      have HX : Aside0 (Kd.R (Kd.int .u8) 5 wr W0.heap.size (fun _ => True) v (xorUp l0 l1 l0.length)) := ⟨by rw [← hkk]; exact HR.out⟩
      clear hkk HR
      have ho := blk_cell HO.out 0
      go_wp2
      go_ret2
      exact ⟨v, rfl, Kd.R_lower HX.out (by have := HSZ.out; omega), below_then HBW.out HBW.out.size HB.out⟩

theorem stream_Xor.calls (A0 : Option Addr) (c0 : Nat) (l0 : List Int) (A1 : Option Addr) (c1 : Nat) (l1 : List Int) (r1 : List Int) (r2 : Int) (w : World) (hr0 : Kd.C (Kd.int .u8) w A0 l0.length l0) (hc0 : l0.length ≤ c0) (hr1 : Kd.C (Kd.int .u8) w A1 l1.length l1) (hc1 : l1.length ≤ c1) (h : stream_Xor.f l0 l1 = some (r1, r2)) :
    Calls Try.prog 11 #[.slice A0 l0.length c0, .slice A1 l1.length c1] w fun e w' => ∃ v0_ : Value, e = .returned (.tuple #[v0_, .int .i64 r2]) ∧ Kd.R (Kd.int .u8) 5 w' w.heap.size (fun _ => True) v0_ r1 ∧ Below w.heap.size w w' := by
  unfold stream_Xor.f at h
  by_cases he : l0.length = l1.length
  · rw [if_pos he] at h
    by_cases hl : l0.length ≤ 140737488355328
    · rw [if_pos hl] at h
      simp only [Option.some.injEq, Prod.mk.injEq] at h
      obtain ⟨rfl, rfl⟩ := h
      exact xor_yes A0 c0 l0 A1 c1 l1 w hr0 hr1 he hl
    · rw [if_neg hl] at h; cases h
  · rw [if_neg he] at h
    simp only [Option.some.injEq, Prod.mk.injEq] at h
    obtain ⟨rfl, rfl⟩ := h
    exact (xor_no A0 c0 l0 A1 c1 l1 w hr0.2.1 hr1.2.1 he).mono fun e w' ⟨he, hb⟩ => ⟨_, he, Kd.R_nil _ _ _ _ _, hb⟩
end Go.Proofs.Yteichdiioidlcaa
