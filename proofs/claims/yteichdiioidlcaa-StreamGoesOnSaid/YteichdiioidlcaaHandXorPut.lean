/-
stream.Xor's closure: one byte more.
-/
import Derived.Test.YteichdiioidlcaaProg
import Derived.Test.YteichdiioidlcaaHandWords
import Derived.Deep.RegionLaw
import Derived.BigRegion
namespace Go.Proofs.Yteichdiioidlcaa
open Go.RowKit Go.Proofs.YteichdiioidlcaaW.PrintWords Go.Proofs.YteichdiioidlcaaW.PrintLast Go.Proofs.YteichdiioidlcaaW.PrintMore
set_option linter.unusedVariables false
set_option linter.unusedSimpArgs false

def xorAt (l0 l1 : List Int) (i : Nat) : Int := Go.bits .xor .u8 (rd l0 i) (rd l1 i)
def xorUp (l0 l1 : List Int) (n : Nat) : List Int := (List.range n).map (xorAt l0 l1)
theorem xorUp_succ (l0 l1 : List Int) (n : Nat) : xorUp l0 l1 (n + 1) = xorUp l0 l1 n ++ [xorAt l0 l1 n] := by simp [xorUp, List.range_succ]
theorem xorUp_length (l0 l1 : List Int) (n : Nat) : (xorUp l0 l1 n).length = n := by simp [xorUp]
def stream_Xor.f (l0 l1 : List Int) : Option (List Int × Int) := if l0.length = l1.length then (if l0.length ≤ 140737488355328 then some (xorUp l0 l1 l0.length, 0) else none) else some ([], 2)

theorem info5 : (Try.prog.info? 5).map (fun i => (i.zero, i.size, i.bytes)) = some (some (.int .u8 0), 1, 1) := by kernel_rfl

set_option maxHeartbeats 2000000 in
set_option maxRecDepth 100000 in
theorem put_calls (W0 : World) (l0 l1 outs : List Int) (A0 A1 : Option Addr) (c0 c1 bo ba bb i : Nat) (v : Value) (w : World)
    (hwo : w.heap[bo]? = some (.cells #[v] 22 (0, 0))) (hwa : W0.cell? ⟨ba, 0, none⟩ = some (.slice A0 l0.length c0)) (hwb : W0.cell? ⟨bb, 0, none⟩ = some (.slice A1 l1.length c1))
    (h0 : Kd.C (Kd.int .u8) W0 A0 l0.length l0) (h1 : Kd.C (Kd.int .u8) W0 A1 l1.length l1) (hi : i < l0.length) (hj : i < l1.length) (hbo : W0.heap.size ≤ bo)
    (HO : Kd.R (Kd.int .u8) 5 w W0.heap.size (fun _ => True) v outs) (HB : Below W0.heap.size W0 w) (hl : outs.length < 140737488355328) :
    Calls Try.prog 26 #[.int .i64 i, .pointer (some ⟨bo, 0, none⟩), .pointer (some ⟨ba, 0, none⟩), .pointer (some ⟨bb, 0, none⟩)] w fun e w' => (∃ v, e = .returned v) ∧
      ∃ v1, w'.heap[bo]? = some (.cells #[v1] 22 (0, 0)) ∧ Kd.R (Kd.int .u8) 5 w' W0.heap.size (fun _ => True) v1 (outs ++ [xorAt l0 l1 i]) ∧ Below W0.heap.size W0 w' := by
  have ho := blk_cell hwo 0
  have hf := blk_frozen hwo 0
  have ha := pw_cell_below HB hwa
  have hb := pw_cell_below HB hwb
  obtain ⟨ad, e1, hx0⟩ := Kd.at_int (Kd.C_below h0 HB) (i : Int) (by omega) (by omega)
  obtain ⟨bd, e2, hy0⟩ := Kd.at_int (Kd.C_below h1 HB) (i : Int) (by omega) (by omega)
  cases e1
  cases e2
  have hx : w.cell? (ad.add i) = some (.int .u8 (rd l0 i)) := by simpa using hx0
  have hy : w.cell? (bd.add i) = some (.int .u8 (rd l1 i)) := by simpa using hy0
  have hbl := blk_lt hwo
  have HOo := Aside0.mk HO
  have HBo := Aside0.mk HB
  have HWO := Aside0.mk hwo
  have HL := Aside0.mk hl
  have HBO := Aside0.mk hbo
  have p0 : 0 ≤ (i : Int) := by omega
  have p1 : (i : Int) < (l0.length : Int) := by omega
  have p2 : (i : Int) < (l1.length : Int) := by omega
  obtain ⟨Av, cv, rfl⟩ := Kd.R_slice HO
  clear hx0 hy0 HO HB hwo hl hbo h0 h1 hwa hwb
  go_enter Try.func26, Try.ntmps26
  go_region_law (first | (refine Kd.R_append_step (Kd.int .u8) (w0 := W0) W0.heap.size (by rfl) (.tmp 5) (.tmp 15) 22 5 (.int .u8 0) 1 rfl Try.underlying22 info5 rfl (by decide) (by omega) (.slice Av outs.length cv) outs (xorAt l0 l1 i) [.int .u8 (xorAt l0 l1 i)] (fun _ => True) (fun _ => False) rfl rfl rfl (fun _ hk => hk.elim) (fun _ _ => trivial) (Kd.R_drew HOo.out) (below_drew HBo.out) HBo.out.size (by have := HL.out; omega) ?_; intro v1 w1 hr1 hb1 hg1 hat1; obtain ⟨A1', c1', rfl⟩ := Kd.R_slice hr1; have hwo1 := blk_grown (blk_drew HWO.out) hg1 (Kd.R_ne (Kd.R_drew HOo.out) (blk_drew HWO.out) (by decide)); have HW1 := Aside0.mk hwo1; have ho1 := blk_cell hwo1 0; have hf1 := blk_frozen hwo1 0; have HR1 := Aside0.mk hr1; have HB1 := Aside0.mk hb1; clear hr1 hb1 hg1 hat1 hwo1))
  all_goals
    go_end0
    exact ⟨⟨_, rfl⟩, _, by simpa using blk_set HW1.out 0 (.slice A1' (outs.length + 1) c1'), by simpa using Kd.R_mono (ok' := fun _ => True) (Kd.R_far (p := ⟨bo, 0, none⟩) (Kd.R_types HR1.out HW1.out (by decide)) (fun _ hk => hk.2) (.slice A1' (outs.length + 1) c1')) (fun _ _ => trivial), HB1.out.setCell (p := ⟨bo, 0, none⟩) HBO.out _⟩

end Go.Proofs.Yteichdiioidlcaa
