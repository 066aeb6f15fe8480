/-
The walk of law StreamGoesOn.
-/
import Derived.Test.YteichdiioidlcaaLawStream
namespace Go.Proofs.Yteichdiioidlcaa
open Go.RowKit Go.Shelf Go.Proofs.YteichdiioidlcaaW.PrintWords Go.Proofs.YteichdiioidlcaaW.PrintLast Go.Proofs.YteichdiioidlcaaW.PrintMore
open Go.Proofs.Yteichdiioidlcaa.SxCha (ten wordsL blockL nonceL block_calls nonce_calls)
set_option linter.unusedVariables false
set_option linter.unusedSimpArgs false

theorem gate_load_wp {P : Program} {o : Oper} {a : Act} {w : World} {K : Act → World → Prop} {Q : Exit → Act → World → Prop} {t : TypeId} {x : Operand} {p v : Value}
    (ho : o.op = .load t x) (hx : a.eval x = p) (hl : (Instr.loadAt t p).run P w = .ok v w) (h : K (a.put o.dst v) w) : o.wp P a w K Q := by
  obtain ⟨dst, op, type, pos, after, guard⟩ := o
  simp only at ho
  subst ho
  have hr : (execOp a.eval { dst, op := .load t x, type, pos, after, guard }).run P w = .ok (.value v) w := by
    simp only [execOp, hx, Sem.run_bind, hl, Result.andThen_ok, Sem.run_pure]
  unfold Oper.wp
  rw [hr]
  exact h
/-- A stream's first bytes, as a slice. -/
theorem of_some (k : List Int) (n : Int) (m : Nat) (hkl : k.length = 32) (hk : ∀ x ∈ k, B8 x) (hn0 : 0 ≤ n) (hn1 : n < 18446744073709551616) (hm : m ≤ 2048) (w : World) :
    Calls Try.prog 24 #[.agg ⟨k.map (Value.int .u8)⟩, .int .u64 n, .int .i64 m] w fun e w' => ∃ A c, e = .returned (.tuple #[.slice A m c, .int .i64 0]) ∧ m ≤ c ∧ Kd.C (Kd.int .u8) w' A m (streamL k (nonceL n) m) ∧ Below w.heap.size w w' :=
  (of_calls k n m hkl hk hn0 hn1 hm w).mono fun e w' ⟨v, he, hr, hb⟩ => by
    obtain ⟨A, c, rfl, hc, hC⟩ := Kd.R_reads hr
    rw [streamL_length] at he hc hC
    exact ⟨A, c, he, hc, hC, hb⟩
theorem streamL_take (k n : List Int) (a b : Nat) (h : a ≤ b) : (streamL k n b).take a = streamL k n a := by
  rw [streamL, streamL, ← List.map_take, List.take_range, Nat.min_eq_left h]

set_option maxHeartbeats 1000000 in
set_option maxRecDepth 100000 in
theorem goes_bb (k : List Int) (n : Int) (a b : Int) (hkl : k.length = 32) (hk : ∀ x ∈ k, B8 x) (hn0 : 0 ≤ n) (hn1 : n < 18446744073709551616) (ha : a < 0 ∨ 2048 < a) (hb : b < 0 ∨ 2048 < b) (w : World) :
    Calls Try.prog 9 #[.agg ⟨k.map (Value.int .u8)⟩, .int .u64 n, .int .i64 a, .int .i64 b] w fun e w' => e = .returned (.bool true) ∧ Below w.heap.size w w' := by
  have HKL := Aside0.mk hkl
  have HK := Aside0.mk hk
  have HN0 := Aside0.mk hn0
  have HN1 := Aside0.mk hn1
  have HA := Aside0.mk ha
  have HBB := Aside0.mk hb
  clear ha hb
  clear hkl hk hn0 hn1
  go_enter Try.func9, Try.ntmps9
  repeat (first
    | (go_at_call 25; (with_reducible refine (alive_calls _).mono ?_); rintro e w1 ⟨rfl, hb⟩; have HBK := Aside0.mk (blk_below (heap_alloc_new w (.cells ⟨k.map (Value.int .u8)⟩ 38)) hb); have HB1 := Aside0.mk hb; clear hb; dsimp only)
    | ((with_reducible refine wpList_plain ?_ ?_); rfl; (refine fun K hK => gate_load_wp (x := .tmp 4) rfl rfl (load_row HKL.out HBK.out rfl rfl rfl) (hK _ _ ?_)))
    | ((with_reducible refine wpList_plain ?_ ?_); rfl; (refine fun K hK => gate_load_wp (x := .tmp 4) rfl rfl (load_row HKL.out (blk_below HBK.out HB2.out) rfl rfl rfl) (hK _ _ ?_)))
    | (go_at_call 24; (with_reducible refine (of_bad_calls _ n a HA.out _).mono ?_); rintro e w2 ⟨rfl, hb⟩; have HB2 := Aside0.mk hb; clear hb; dsimp only)
    | (go_at_call 24; (with_reducible refine (of_bad_calls _ n b HBB.out _).mono ?_); rintro e w3 ⟨rfl, hb⟩; have HB3 := Aside0.mk hb; clear hb; dsimp only)
    | go_values | go_guarded | go_step | go_upon | go_back)
  go_ret
  exact ⟨rfl, bt (bt (bt (below_alloc (Below.refl _ _) _) HB1.out) HB2.out) HB3.out⟩

set_option maxHeartbeats 1000000 in
set_option maxRecDepth 100000 in
theorem goes_bg (k : List Int) (n : Int) (a : Int) (b : Nat) (hkl : k.length = 32) (hk : ∀ x ∈ k, B8 x) (hn0 : 0 ≤ n) (hn1 : n < 18446744073709551616) (ha : a < 0 ∨ 2048 < a) (hb : b ≤ 2048) (w : World) :
    Calls Try.prog 9 #[.agg ⟨k.map (Value.int .u8)⟩, .int .u64 n, .int .i64 a, .int .i64 b] w fun e w' => e = .returned (.bool true) ∧ Below w.heap.size w w' := by
  have HKL := Aside0.mk hkl
  have HK := Aside0.mk hk
  have HN0 := Aside0.mk hn0
  have HN1 := Aside0.mk hn1
  have HA := Aside0.mk ha
  have HBB := Aside0.mk hb
  clear ha hb
  clear hkl hk hn0 hn1
  go_enter Try.func9, Try.ntmps9
  repeat (first
    | (go_at_call 25; (with_reducible refine (alive_calls _).mono ?_); rintro e w1 ⟨rfl, hb⟩; have HBK := Aside0.mk (blk_below (heap_alloc_new w (.cells ⟨k.map (Value.int .u8)⟩ 38)) hb); have HB1 := Aside0.mk hb; clear hb; dsimp only)
    | ((with_reducible refine wpList_plain ?_ ?_); rfl; (refine fun K hK => gate_load_wp (x := .tmp 4) rfl rfl (load_row HKL.out HBK.out rfl rfl rfl) (hK _ _ ?_)))
    | ((with_reducible refine wpList_plain ?_ ?_); rfl; (refine fun K hK => gate_load_wp (x := .tmp 4) rfl rfl (load_row HKL.out (blk_below HBK.out HB2.out) rfl rfl rfl) (hK _ _ ?_)))
    | (go_at_call 24; (with_reducible refine (of_bad_calls _ n a HA.out _).mono ?_); rintro e w2 ⟨rfl, hb⟩; have HB2 := Aside0.mk hb; clear hb; dsimp only)
    | (go_at_call 24; (with_reducible refine (of_some k n b HKL.out HK.out HN0.out HN1.out HBB.out _).mono ?_); rintro e w3 ⟨A3, c3, rfl, hc, hC, hb⟩; have HB3 := Aside0.mk hb; have HC3 := Aside0.mk hC; have HL3 := Aside0.mk hc; clear hb hC hc; dsimp only)
    | go_values | go_guarded | go_step | go_upon | go_back)
  go_ret
  exact ⟨rfl, bt (bt (bt (below_alloc (Below.refl _ _) _) HB1.out) HB2.out) HB3.out⟩

set_option maxHeartbeats 1000000 in
set_option maxRecDepth 100000 in
theorem goes_gb (k : List Int) (n : Int) (a : Nat) (b : Int) (hkl : k.length = 32) (hk : ∀ x ∈ k, B8 x) (hn0 : 0 ≤ n) (hn1 : n < 18446744073709551616) (ha : a ≤ 2048) (hb : b < 0 ∨ 2048 < b) (w : World) :
    Calls Try.prog 9 #[.agg ⟨k.map (Value.int .u8)⟩, .int .u64 n, .int .i64 a, .int .i64 b] w fun e w' => e = .returned (.bool true) ∧ Below w.heap.size w w' := by
  have HKL := Aside0.mk hkl
  have HK := Aside0.mk hk
  have HN0 := Aside0.mk hn0
  have HN1 := Aside0.mk hn1
  have HA := Aside0.mk ha
  have HBB := Aside0.mk hb
  clear ha hb
  clear hkl hk hn0 hn1
  go_enter Try.func9, Try.ntmps9
  repeat (first
    | (go_at_call 25; (with_reducible refine (alive_calls _).mono ?_); rintro e w1 ⟨rfl, hb⟩; have HBK := Aside0.mk (blk_below (heap_alloc_new w (.cells ⟨k.map (Value.int .u8)⟩ 38)) hb); have HB1 := Aside0.mk hb; clear hb; dsimp only)
    | ((with_reducible refine wpList_plain ?_ ?_); rfl; (refine fun K hK => gate_load_wp (x := .tmp 4) rfl rfl (load_row HKL.out HBK.out rfl rfl rfl) (hK _ _ ?_)))
    | ((with_reducible refine wpList_plain ?_ ?_); rfl; (refine fun K hK => gate_load_wp (x := .tmp 4) rfl rfl (load_row HKL.out (blk_below HBK.out HB2.out) rfl rfl rfl) (hK _ _ ?_)))
    | (go_at_call 24; (with_reducible refine (of_some k n a HKL.out HK.out HN0.out HN1.out HA.out _).mono ?_); rintro e w2 ⟨A2, c2, rfl, hc, hC, hb⟩; have HB2 := Aside0.mk hb; have HC2 := Aside0.mk hC; have HL2 := Aside0.mk hc; clear hb hC hc; dsimp only)
    | (go_at_call 24; (with_reducible refine (of_bad_calls _ n b HBB.out _).mono ?_); rintro e w3 ⟨rfl, hb⟩; have HB3 := Aside0.mk hb; clear hb; dsimp only)
    | go_values | go_guarded | go_step | go_upon | go_back)
  go_ret
  exact ⟨rfl, bt (bt (bt (below_alloc (Below.refl _ _) _) HB1.out) HB2.out) HB3.out⟩

set_option maxHeartbeats 1000000 in
set_option maxRecDepth 100000 in
theorem goes_gx (k : List Int) (n : Int) (a b : Nat) (hkl : k.length = 32) (hk : ∀ x ∈ k, B8 x) (hn0 : 0 ≤ n) (hn1 : n < 18446744073709551616) (ha : a ≤ 2048) (hb : b ≤ 2048) (hab : b < a) (w : World) :
    Calls Try.prog 9 #[.agg ⟨k.map (Value.int .u8)⟩, .int .u64 n, .int .i64 a, .int .i64 b] w fun e w' => e = .returned (.bool true) ∧ Below w.heap.size w w' := by
  have HKL := Aside0.mk hkl
  have HK := Aside0.mk hk
  have HN0 := Aside0.mk hn0
  have HN1 := Aside0.mk hn1
  have HA := Aside0.mk ha
  have HBB := Aside0.mk hb
  clear ha hb
  have HAB := Aside0.mk hab
  have hgt : (b : Int) < (a : Int) := by omega
  clear hkl hk hn0 hn1 hab
  go_enter Try.func9, Try.ntmps9
  repeat (first
    | (go_at_call 25; (with_reducible refine (alive_calls _).mono ?_); rintro e w1 ⟨rfl, hb⟩; have HBK := Aside0.mk (blk_below (heap_alloc_new w (.cells ⟨k.map (Value.int .u8)⟩ 38)) hb); have HB1 := Aside0.mk hb; clear hb; dsimp only)
    | ((with_reducible refine wpList_plain ?_ ?_); rfl; (refine fun K hK => gate_load_wp (x := .tmp 4) rfl rfl (load_row HKL.out HBK.out rfl rfl rfl) (hK _ _ ?_)))
    | ((with_reducible refine wpList_plain ?_ ?_); rfl; (refine fun K hK => gate_load_wp (x := .tmp 4) rfl rfl (load_row HKL.out (blk_below HBK.out HB2.out) rfl rfl rfl) (hK _ _ ?_)))
    | (go_at_call 24; (with_reducible refine (of_some k n a HKL.out HK.out HN0.out HN1.out HA.out _).mono ?_); rintro e w2 ⟨A2, c2, rfl, hc, hC, hb⟩; have HB2 := Aside0.mk hb; have HC2 := Aside0.mk hC; have HL2 := Aside0.mk hc; clear hb hC hc; dsimp only)
    | (go_at_call 24; (with_reducible refine (of_some k n b HKL.out HK.out HN0.out HN1.out HBB.out _).mono ?_); rintro e w3 ⟨A3, c3, rfl, hc, hC, hb⟩; have HB3 := Aside0.mk hb; have HC3 := Aside0.mk hC; have HL3 := Aside0.mk hc; clear hb hC hc; dsimp only)
    | go_values | go_guarded | go_step | go_upon | go_back)
  go_ret
  exact ⟨rfl, bt (bt (bt (below_alloc (Below.refl _ _) _) HB1.out) HB2.out) HB3.out⟩

set_option maxHeartbeats 1000000 in
set_option maxRecDepth 100000 in
theorem goes_gg (k : List Int) (n : Int) (a b : Nat) (hkl : k.length = 32) (hk : ∀ x ∈ k, B8 x) (hn0 : 0 ≤ n) (hn1 : n < 18446744073709551616) (ha : a ≤ 2048) (hb : b ≤ 2048) (hab : a ≤ b) (w : World) :
    Calls Try.prog 9 #[.agg ⟨k.map (Value.int .u8)⟩, .int .u64 n, .int .i64 a, .int .i64 b] w fun e w' => e = .returned (.bool true) ∧ Below w.heap.size w w' := by
  have HKL := Aside0.mk hkl
  have HK := Aside0.mk hk
  have HN0 := Aside0.mk hn0
  have HN1 := Aside0.mk hn1
  have HA := Aside0.mk ha
  have HBB := Aside0.mk hb
  clear ha hb
  have HAB := Aside0.mk hab
  have hgt : ¬ ((b : Int) < (a : Int)) := by omega
  clear hkl hk hn0 hn1 hab
  go_enter Try.func9, Try.ntmps9
  repeat (first
    | (go_at_call 25; (with_reducible refine (alive_calls _).mono ?_); rintro e w1 ⟨rfl, hb⟩; have HBK := Aside0.mk (blk_below (heap_alloc_new w (.cells ⟨k.map (Value.int .u8)⟩ 38)) hb); have HB1 := Aside0.mk hb; clear hb; dsimp only)
    | ((with_reducible refine wpList_plain ?_ ?_); rfl; (refine fun K hK => gate_load_wp (x := .tmp 4) rfl rfl (load_row HKL.out HBK.out rfl rfl rfl) (hK _ _ ?_)))
    | ((with_reducible refine wpList_plain ?_ ?_); rfl; (refine fun K hK => gate_load_wp (x := .tmp 4) rfl rfl (load_row HKL.out (blk_below HBK.out HB2.out) rfl rfl rfl) (hK _ _ ?_)))
    | (go_at_call 24; (with_reducible refine (of_some k n a HKL.out HK.out HN0.out HN1.out HA.out _).mono ?_); rintro e w2 ⟨A2, c2, rfl, hc, hC, hb⟩; have HB2 := Aside0.mk hb; have HC2 := Aside0.mk hC; have HL2 := Aside0.mk hc; clear hb hC hc; dsimp only)
    | (go_at_call 24; (with_reducible refine (of_some k n b HKL.out HK.out HN0.out HN1.out HBB.out _).mono ?_); rintro e w3 ⟨A3, c3, rfl, hc, hC, hb⟩; have HB3 := Aside0.mk hb; have HC3 := Aside0.mk hC; have HL3 := Aside0.mk hc; have hcut := cut_to (P := Try.prog) 22 5 .i64 Try.underlying22 (i := Try.t5) rfl A3 b c3 (a : Int) (by omega) (by have := HAB.out; omega) HL3.out; clear hb hC hc; dsimp only)
    | (go_at_call 13; (with_reducible refine (same_calls A3 c3 a (streamL k (nonceL n) a) A2 c2 a (streamL k (nonceL n) a) true w3 ?_ ?_ (by simp)).mono ?_); (rw [← streamL_take k (nonceL n) a b HAB.out]; have hC := Kd.C_take (m := a) (by rw [streamL_length]; exact HC3.out) (by rw [streamL_length]; exact HAB.out); rw [streamL_take _ _ _ _ HAB.out, streamL_length] at hC; rw [streamL_take _ _ _ _ HAB.out]; exact hC); (exact Kd.C_below HC2.out HB3.out); rintro e w4 ⟨rfl, hb⟩; have HB4 := Aside0.mk hb; clear hb; dsimp only)
    | go_values | go_guarded | go_step | go_upon | go_back)
  go_ret
  exact ⟨rfl, bt (bt (bt (bt (below_alloc (Below.refl _ _) _) HB1.out) HB2.out) HB3.out) HB4.out⟩
end Go.Proofs.Yteichdiioidlcaa
