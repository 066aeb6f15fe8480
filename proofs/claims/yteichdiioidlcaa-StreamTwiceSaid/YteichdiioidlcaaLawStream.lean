/-
Walks of the stream's laws: alive, StreamNames.
-/
import Derived.Test.YteichdiioidlcaaHandOf
namespace Go.Proofs.Yteichdiioidlcaa
open Go.RowKit Go.Shelf Go.Proofs.YteichdiioidlcaaW.PrintWords Go.Proofs.YteichdiioidlcaaW.PrintLast Go.Proofs.YteichdiioidlcaaW.PrintMore
open Go.Proofs.Yteichdiioidlcaa.SxCha (ten wordsL blockL nonceL block_calls nonce_calls)
set_option linter.unusedVariables false
set_option linter.unusedSimpArgs false

set_option maxHeartbeats 2000000 in
theorem same_calls (A0 : Option Addr) (c0 n0 : Nat) (l0 : List Int) (A1 : Option Addr) (c1 n1 : Nat) (l1 : List Int) (r : Bool) (w : World) (hr0 : Kd.C (Kd.int .u8) w A0 n0 l0) (hr1 : Kd.C (Kd.int .u8) w A1 n1 l1) (h : ((strOfNums l0).toList == (strOfNums l1).toList) = r) :
    Calls Try.prog 13 #[.slice A0 n0 c0, .slice A1 n1 c1] w fun e w' => e = .returned (.bool r) ∧ Below w.heap.size w w' := by
  obtain rfl := Kd.C_len hr0
  obtain rfl := Kd.C_len hr1
  have HR0 := Aside0.mk hr0
  have HR1 := Aside0.mk hr1
  subst h
  clear hr0 hr1
  have hcv3 := Kd.C_string (P := Try.prog) (A := A0) (c := c0) Try.underlying22 Try.underlying5 Try.underlying9 HR0.out
  have hcv4 := Kd.C_string (P := Try.prog) (A := A1) (c := c1) Try.underlying22 Try.underlying5 Try.underlying9 HR1.out
  go_enter Try.func13, Try.ntmps13
  go_wp2
  go_ret
  exact ⟨rfl, Below.refl _ _⟩

theorem lit_R {W : World} {b : Nat} {l : List Int} (h : W.heap[b]? = some (.cells ⟨l.map (Value.int .u8)⟩ 5 (0, 0))) (hl : l.length ≤ 1000) : Kd.R (Kd.int .u8) 5 W 0 (fun _ => True) (.slice (some ⟨b, 0, none⟩) l.length l.length) l :=
  Kd.R_of_own ⟨by simp [encs], .inr ⟨b, l.length, _, rfl, Nat.zero_le _, h, Nat.le_refl _, by simp only [maxLen]; omega, by simp, by simp [encs, ← List.map_take]⟩⟩ (fun _ _ => trivial)

def zeroK : List Int := List.replicate 32 0
theorem zeroK_8 : ∀ x ∈ zeroK, B8 x := by
  intro x hx
  simp only [zeroK, List.mem_replicate] at hx
  rw [hx.2]
  exact ⟨by decide, by decide⟩
theorem bt {w a b : World} (h : Below w.heap.size w a) (k : Below a.heap.size a b) : Below w.heap.size w b := h.trans (k.mono h.size)
theorem xor_one : stream_Xor.f [1, 2] [3, 3] = some ([2, 1], 0) := by decide +kernel
theorem two_C (w : World) : Kd.C (Kd.int .u8) ((w.alloc (.cells #[.int .u8 1, .int .u8 2] 5)).alloc (.cells #[.int .u8 3, .int .u8 3] 5)) (some ⟨w.heap.size, 0, none⟩) 2 [1, 2] ∧ Kd.C (Kd.int .u8) ((w.alloc (.cells #[.int .u8 1, .int .u8 2] 5)).alloc (.cells #[.int .u8 3, .int .u8 3] 5)) (some ⟨w.heap.size + 1, 0, none⟩) 2 [3, 3] := by
  obtain ⟨h1, h2⟩ := heap_pair w (.cells #[.int .u8 1, .int .u8 2] 5) (.cells #[.int .u8 3, .int .u8 3] 5)
  exact ⟨(Kd.R_reads' (lit_R (l := [1, 2]) h1 (by decide))).2.2, (Kd.R_reads' (lit_R (l := [3, 3]) h2 (by decide))).2.2⟩
theorem gate_eql {o : Oper} {a : Act} {w : World} {K : Act → World → Prop} {Q : Exit → Act → World → Prop} {x y : Operand} {t : TypeId}
    (ho : o.op = .binOp .eql 42 x y t) (hx : a.eval x = .agg ⟨[.int .u8 0, .int .u8 0, .int .u8 0, .int .u8 0, .int .u8 2, .int .u8 1, .int .u8 0, .int .u8 0, .int .u8 0, .int .u8 0, .int .u8 0, .int .u8 0]⟩) (hy : a.eval y = .agg ⟨[.int .u8 0, .int .u8 0, .int .u8 0, .int .u8 0, .int .u8 2, .int .u8 1, .int .u8 0, .int .u8 0, .int .u8 0, .int .u8 0, .int .u8 0, .int .u8 0]⟩)
    (h : K (a.put o.dst (.bool true)) w) : o.wp Try.prog a w K Q := by
  obtain ⟨dst, op, type, pos, after, guard⟩ := o
  simp only at ho
  subst ho
  have hr : (execOp a.eval { dst, op := .binOp .eql 42 x y t, type, pos, after, guard }).run Try.prog w = .ok (.value (.bool true)) w := by
    simp only [execOp, hx, hy]
    kernel_rfl
  unfold Oper.wp
  rw [hr]
  exact h
theorem four_bytes : streamL zeroK (nonceL 0) 4 = [118, 184, 224, 173] := by decide +kernel
theorem nonce258 : nonceL 258 = [0, 0, 0, 0, 2, 1, 0, 0, 0, 0, 0, 0] := by decide +kernel

/-- The calls of the laws' own, with their constants. -/
theorem of_2049 (w : World) : Calls Try.prog 24 #[.agg #[.int .u8 0, .int .u8 0, .int .u8 0, .int .u8 0, .int .u8 0, .int .u8 0, .int .u8 0, .int .u8 0, .int .u8 0, .int .u8 0, .int .u8 0, .int .u8 0, .int .u8 0, .int .u8 0, .int .u8 0, .int .u8 0, .int .u8 0, .int .u8 0, .int .u8 0, .int .u8 0, .int .u8 0, .int .u8 0, .int .u8 0, .int .u8 0, .int .u8 0, .int .u8 0, .int .u8 0, .int .u8 0, .int .u8 0, .int .u8 0, .int .u8 0, .int .u8 0], .int .u64 0, .int .i64 2049] w fun e w' => e = .returned (.tuple #[.slice none 0 0, .int .i64 4]) ∧ Below w.heap.size w w' := of_bad_calls _ 0 2049 (by decide) w
theorem of_neg (w : World) : Calls Try.prog 24 #[.agg #[.int .u8 0, .int .u8 0, .int .u8 0, .int .u8 0, .int .u8 0, .int .u8 0, .int .u8 0, .int .u8 0, .int .u8 0, .int .u8 0, .int .u8 0, .int .u8 0, .int .u8 0, .int .u8 0, .int .u8 0, .int .u8 0, .int .u8 0, .int .u8 0, .int .u8 0, .int .u8 0, .int .u8 0, .int .u8 0, .int .u8 0, .int .u8 0, .int .u8 0, .int .u8 0, .int .u8 0, .int .u8 0, .int .u8 0, .int .u8 0, .int .u8 0, .int .u8 0], .int .u64 0, .int .i64 (-1)] w fun e w' => e = .returned (.tuple #[.slice none 0 0, .int .i64 4]) ∧ Below w.heap.size w w' := of_bad_calls _ 0 (-1) (by decide) w
theorem of_len (m : Nat) (hm : m ≤ 2048) (w : World) : Calls Try.prog 24 #[.agg #[.int .u8 0, .int .u8 0, .int .u8 0, .int .u8 0, .int .u8 0, .int .u8 0, .int .u8 0, .int .u8 0, .int .u8 0, .int .u8 0, .int .u8 0, .int .u8 0, .int .u8 0, .int .u8 0, .int .u8 0, .int .u8 0, .int .u8 0, .int .u8 0, .int .u8 0, .int .u8 0, .int .u8 0, .int .u8 0, .int .u8 0, .int .u8 0, .int .u8 0, .int .u8 0, .int .u8 0, .int .u8 0, .int .u8 0, .int .u8 0, .int .u8 0, .int .u8 0], .int .u64 0, .int .i64 (m : Int)] w fun e w' => ∃ A c, e = .returned (.tuple #[.slice A m c, .int .i64 0]) ∧ Below w.heap.size w w' :=
  (of_calls zeroK 0 m rfl zeroK_8 (by decide) (by decide) hm w).mono fun e w' ⟨v, he, hr, hb⟩ => by
    obtain ⟨A, c, rfl, -, -⟩ := Kd.R_reads hr
    rw [streamL_length] at he
    exact ⟨A, c, he, hb⟩
theorem of_2048 (w : World) : Calls Try.prog 24 #[.agg #[.int .u8 0, .int .u8 0, .int .u8 0, .int .u8 0, .int .u8 0, .int .u8 0, .int .u8 0, .int .u8 0, .int .u8 0, .int .u8 0, .int .u8 0, .int .u8 0, .int .u8 0, .int .u8 0, .int .u8 0, .int .u8 0, .int .u8 0, .int .u8 0, .int .u8 0, .int .u8 0, .int .u8 0, .int .u8 0, .int .u8 0, .int .u8 0, .int .u8 0, .int .u8 0, .int .u8 0, .int .u8 0, .int .u8 0, .int .u8 0, .int .u8 0, .int .u8 0], .int .u64 0, .int .i64 2048] w fun e w' => ∃ A c, e = .returned (.tuple #[.slice A 2048 c, .int .i64 0]) ∧ Below w.heap.size w w' := of_len 2048 (by decide) w
theorem of_0 (w : World) : Calls Try.prog 24 #[.agg #[.int .u8 0, .int .u8 0, .int .u8 0, .int .u8 0, .int .u8 0, .int .u8 0, .int .u8 0, .int .u8 0, .int .u8 0, .int .u8 0, .int .u8 0, .int .u8 0, .int .u8 0, .int .u8 0, .int .u8 0, .int .u8 0, .int .u8 0, .int .u8 0, .int .u8 0, .int .u8 0, .int .u8 0, .int .u8 0, .int .u8 0, .int .u8 0, .int .u8 0, .int .u8 0, .int .u8 0, .int .u8 0, .int .u8 0, .int .u8 0, .int .u8 0, .int .u8 0], .int .u64 0, .int .i64 0] w fun e w' => ∃ A c, e = .returned (.tuple #[.slice A 0 c, .int .i64 0]) ∧ Below w.heap.size w w' := of_len 0 (by decide) w
theorem of_4 (w : World) : Calls Try.prog 24 #[.agg #[.int .u8 0, .int .u8 0, .int .u8 0, .int .u8 0, .int .u8 0, .int .u8 0, .int .u8 0, .int .u8 0, .int .u8 0, .int .u8 0, .int .u8 0, .int .u8 0, .int .u8 0, .int .u8 0, .int .u8 0, .int .u8 0, .int .u8 0, .int .u8 0, .int .u8 0, .int .u8 0, .int .u8 0, .int .u8 0, .int .u8 0, .int .u8 0, .int .u8 0, .int .u8 0, .int .u8 0, .int .u8 0, .int .u8 0, .int .u8 0, .int .u8 0, .int .u8 0], .int .u64 0, .int .i64 4] w fun e w' => ∃ A c, e = .returned (.tuple #[.slice A 4 c, .int .i64 0]) ∧ Kd.C (Kd.int .u8) w' A 4 [118, 184, 224, 173] ∧ Below w.heap.size w w' :=
  (of_calls zeroK 0 4 rfl zeroK_8 (by decide) (by decide) (by decide) w).mono fun e w' ⟨v, he, hr, hb⟩ => by
    rw [four_bytes] at hr
    obtain ⟨A, c, rfl, -, hC⟩ := Kd.R_reads hr
    exact ⟨A, c, he, hC, hb⟩
theorem xor_2 (w : World) : Calls Try.prog 11 #[.slice (some ⟨w.heap.size, 0, none⟩) 2 2, .slice (some ⟨w.heap.size + 1, 0, none⟩) 2 2] ((w.alloc (.cells #[.int .u8 1, .int .u8 2] 5)).alloc (.cells #[.int .u8 3, .int .u8 3] 5)) fun e w' =>
    ∃ A c, e = .returned (.tuple #[.slice A 2 c, .int .i64 0]) ∧ Kd.C (Kd.int .u8) w' A 2 [2, 1] ∧ Below (w.heap.size + 2) ((w.alloc (.cells #[.int .u8 1, .int .u8 2] 5)).alloc (.cells #[.int .u8 3, .int .u8 3] 5)) w' :=
  (stream_Xor.calls (some ⟨w.heap.size, 0, none⟩) 2 [1, 2] (some ⟨w.heap.size + 1, 0, none⟩) 2 [3, 3] [2, 1] 0 _ (two_C w).1 (by decide) (two_C w).2 (by decide) xor_one).mono fun e w' ⟨v, he, hr, hb⟩ => by
    obtain ⟨A, c, rfl, -, hC⟩ := Kd.R_reads hr
    exact ⟨A, c, he, hC, by simpa using hb⟩
theorem xor_none : stream_Xor.f [1] [] = some ([], 2) := by decide +kernel
theorem xor_1 (w : World) : Calls Try.prog 11 #[.slice (some ⟨w.heap.size, 0, none⟩) 1 1, .slice none 0 0] (w.alloc (.cells #[.int .u8 1] 5)) fun e w' =>
    ∃ A c, e = .returned (.tuple #[.slice A 0 c, .int .i64 2]) ∧ Below w.heap.size w w' :=
  (stream_Xor.calls (some ⟨w.heap.size, 0, none⟩) 1 [1] none 0 [] [] 2 _ (Kd.R_reads' (lit_R (l := [1]) (heap_alloc_new w _) (by decide))).2.2 (by decide) (Kd.C_nil _ _) (by decide) xor_none).mono fun e w' ⟨v, he, hr, hb⟩ => by
    obtain ⟨A, c, rfl, -, hC⟩ := Kd.R_reads hr
    exact ⟨A, c, he, bt (below_alloc (Below.refl _ _) _) hb⟩
theorem nonce_258 (w : World) : Calls Try.prog 36 #[.int .u64 258] w fun e w' => e = .returned (.agg #[.int .u8 0, .int .u8 0, .int .u8 0, .int .u8 0, .int .u8 2, .int .u8 1, .int .u8 0, .int .u8 0, .int .u8 0, .int .u8 0, .int .u8 0, .int .u8 0]) ∧ Below w.heap.size w w' :=
  (nonce_calls 258 (by decide) (by decide) w).mono fun e w' ⟨he, hb⟩ => by
    rw [nonce258] at he
    exact ⟨he, hb⟩
theorem same_4 (A : Option Addr) (c : Nat) (w : World) (h : Kd.C (Kd.int .u8) w A 4 [118, 184, 224, 173]) : Calls Try.prog 13 #[.slice A 4 c, .slice (some ⟨w.heap.size, 0, none⟩) 4 4] (w.alloc (.cells #[.int .u8 118, .int .u8 184, .int .u8 224, .int .u8 173] 5)) fun e w' => e = .returned (.bool true) ∧ Below w.heap.size w w' :=
  (same_calls A c 4 _ (some ⟨w.heap.size, 0, none⟩) 4 4 _ true _ (Kd.C_alloc h _) (Kd.R_reads' (lit_R (l := [118, 184, 224, 173]) (heap_alloc_new w _) (by decide))).2.2 (by decide +kernel)).mono fun e w' ⟨he, hb⟩ => ⟨he, bt (below_alloc (Below.refl _ _) _) hb⟩
theorem same_2 (A : Option Addr) (c : Nat) (w : World) (h : Kd.C (Kd.int .u8) w A 2 [2, 1]) : Calls Try.prog 13 #[.slice A 2 c, .slice (some ⟨w.heap.size, 0, none⟩) 2 2] (w.alloc (.cells #[.int .u8 2, .int .u8 1] 5)) fun e w' => e = .returned (.bool true) ∧ Below w.heap.size w w' :=
  (same_calls A c 2 _ (some ⟨w.heap.size, 0, none⟩) 2 2 _ true _ (Kd.C_alloc h _) (Kd.R_reads' (lit_R (l := [2, 1]) (heap_alloc_new w _) (by decide))).2.2 (by decide +kernel)).mono fun e w' ⟨he, hb⟩ => ⟨he, bt (below_alloc (Below.refl _ _) _) hb⟩

set_option maxHeartbeats 1000000 in
set_option maxRecDepth 100000 in
theorem alive_calls (w : World) : Calls Try.prog 25 #[] w fun e w' => e = .returned (.bool true) ∧ Below w.heap.size w w' := by
  go_enter Try.func25, Try.ntmps25
  repeat (first
    | (go_at_call 24; (with_reducible refine (of_4 _).mono ?_); rintro e w2 ⟨A2, cap2, rfl, hC2, hb⟩; have HC2 := Aside0.mk hC2; have HB2 := Aside0.mk hb; clear hb hC2; dsimp only)
    | (go_at_call 11; (with_reducible refine (xor_2 _).mono ?_); rintro e w3 ⟨A3, cap3, rfl, hC3, hb⟩; have HC3 := Aside0.mk hC3; have HB3 := Aside0.mk hb; clear hb hC3; dsimp only)
    | (refine wpList_plain rfl (fun K hK => gate_eql (x := .tmp 16) (y := .tmp 17) rfl rfl rfl (hK _ _ ?_)))
    | (go_at_call 36; (with_reducible refine (nonce_258 _).mono ?_); rintro e w4 ⟨rfl, hb⟩; have HB4 := Aside0.mk hb; clear hb; dsimp only)
    | (go_at_call 13; (with_reducible refine (same_4 A2 cap2 w4 ?_).mono ?_); (exact Kd.C_below (Kd.C_below (Kd.C_alloc (Kd.C_alloc HC2.out _) _) (HB3.out.mono (by simp))) HB4.out); rintro e w5 ⟨rfl, hb⟩; have HB5 := Aside0.mk hb; clear hb; dsimp only)
    | (go_at_call 13; (with_reducible refine (same_2 A3 cap3 w5 ?_).mono ?_); (exact Kd.C_below (Kd.C_below HC3.out HB4.out) HB5.out); rintro e w6 ⟨rfl, hb⟩; have HB6 := Aside0.mk hb; clear hb; dsimp only)
    | go_values | go_guarded | go_step | go_upon | go_back)
  go_ret
  exact ⟨rfl, bt (bt (bt (bt (below_alloc (below_alloc HB2.out _) _) (HB3.out.mono (by simp))) HB4.out) HB5.out) HB6.out⟩

set_option maxHeartbeats 1000000 in
set_option maxRecDepth 100000 in
theorem names_calls (w : World) : Calls Try.prog 8 #[] w fun e w' => e = .returned (.bool true) ∧ Below w.heap.size w w' := by
  go_enter Try.func8, Try.ntmps8
  repeat (first
    | (go_at_call 11; (with_reducible refine (xor_1 _).mono ?_); rintro e w2 ⟨A2, cap2, rfl, hb⟩; have HB2 := Aside0.mk hb; clear hb; dsimp only)
    | (go_at_call 24; (with_reducible refine (of_2049 _).mono ?_); rintro e w3 ⟨rfl, hb⟩; have HB3 := Aside0.mk hb; clear hb; dsimp only)
    | (go_at_call 24; (with_reducible refine (of_neg _).mono ?_); rintro e w4 ⟨rfl, hb⟩; have HB4 := Aside0.mk hb; clear hb; dsimp only)
    | (go_at_call 24; (with_reducible refine (of_2048 _).mono ?_); rintro e w5 ⟨A5, cap5, rfl, hb⟩; have HB5 := Aside0.mk hb; clear hb; dsimp only)
    | (go_at_call 24; (with_reducible refine (of_0 _).mono ?_); rintro e w6 ⟨A6, cap6, rfl, hb⟩; have HB6 := Aside0.mk hb; clear hb; dsimp only)
    | (go_at_call 25; (with_reducible refine (alive_calls _).mono ?_); rintro e w7 ⟨rfl, hb⟩; have HB7 := Aside0.mk hb; clear hb; dsimp only)
    | go_values | go_guarded | go_step | go_upon | go_back)
  go_ret
  exact ⟨rfl, bt (bt (bt (bt (bt HB2.out HB3.out) HB4.out) HB5.out) HB6.out) HB7.out⟩
end Go.Proofs.Yteichdiioidlcaa
