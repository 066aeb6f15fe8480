/-
The walk of law StreamTwice.
-/
import Derived.Test.YteichdiioidlcaaLawGoes
namespace Go.Proofs.Yteichdiioidlcaa
open Go.RowKit Go.Shelf Go.Proofs.YteichdiioidlcaaW.PrintWords Go.Proofs.YteichdiioidlcaaW.PrintLast Go.Proofs.YteichdiioidlcaaW.PrintMore
open Go.Proofs.Yteichdiioidlcaa.SxCha (ten wordsL blockL nonceL block_calls nonce_calls)
set_option linter.unusedVariables false
set_option linter.unusedSimpArgs false

theorem bits_xor_nat {x y : Nat} (hx : x < 256) (hy : y < 256) : Go.bits .xor .u8 (x : Int) (y : Int) = ((x ^^^ y : Nat) : Int) := by
  have h : x ^^^ y < 2 ^ 8 := Nat.xor_lt_two_pow (by omega) (by omega)
  have key : (BitVec.ofInt 8 (x : Int) ^^^ BitVec.ofInt 8 (y : Int)).toNat = x ^^^ y := by
    rw [BitVec.ofInt_natCast, BitVec.ofInt_natCast, BitVec.toNat_xor, BitVec.toNat_ofNat, BitVec.toNat_ofNat, Nat.mod_eq_of_lt (by omega : x < 2 ^ 8), Nat.mod_eq_of_lt (by omega : y < 2 ^ 8)]
  show IntKind.u8.wrap (((BitVec.ofInt 8 (x : Int) ^^^ BitVec.ofInt 8 (y : Int)).toNat : Nat) : Int) = _
  rw [key]
  simp only [IntKind.wrap, IntKind.signed, IntKind.bits, Bool.false_and, Bool.false_eq_true, if_false]
  omega
theorem B8_nat {x : Int} (h : B8 x) : ∃ m : Nat, x = m ∧ m < 256 := by
  obtain ⟨h0, h1⟩ := h
  simp [IntKind.min, IntKind.max, IntKind.signed, IntKind.bits] at h0 h1
  exact ⟨x.toNat, by omega, by omega⟩
theorem xor_twice {x y : Int} (hx : B8 x) (hy : B8 y) : Go.bits .xor .u8 (Go.bits .xor .u8 x y) y = x := by
  obtain ⟨a, rfl, ha⟩ := B8_nat hx
  obtain ⟨b, rfl, hb⟩ := B8_nat hy
  have h : a ^^^ b < 2 ^ 8 := Nat.xor_lt_two_pow (by omega) (by omega)
  rw [bits_xor_nat ha hb, bits_xor_nat (by omega) hb, Nat.xor_assoc, Nat.xor_self, Nat.xor_zero]
theorem xor_swap {x y : Int} (hx : B8 x) (hy : B8 y) : Go.bits .xor .u8 x y = Go.bits .xor .u8 y x := by
  obtain ⟨a, rfl, ha⟩ := B8_nat hx
  obtain ⟨b, rfl, hb⟩ := B8_nat hy
  rw [bits_xor_nat ha hb, bits_xor_nat hb ha, Nat.xor_comm]
theorem B8_rd {l : List Int} (h : ∀ x ∈ l, B8 x) (i : Nat) : B8 (rd l i) := by
  unfold rd
  rw [List.getD_eq_getElem?_getD]
  rcases Nat.lt_or_ge (i : Int).toNat l.length with hi | hi
  · rw [List.getElem?_eq_getElem hi]
    exact h _ (List.getElem_mem hi)
  · rw [List.getElem?_eq_none hi]
    exact ⟨by decide, by decide⟩
theorem rd_xorUp (l0 l1 : List Int) {n i : Nat} (hi : i < n) : rd (xorUp l0 l1 n) i = xorAt l0 l1 i := by
  unfold rd xorUp
  simp [List.getD_eq_getElem?_getD, hi]
theorem xorUp_twice {l s : List Int} {n : Nat} (hl : l.length = n) (h : ∀ x ∈ l, B8 x) (hs : ∀ x ∈ s, B8 x) : xorUp (xorUp l s n) s n = l := by
  apply List.ext_getElem?
  intro i
  rcases Nat.lt_or_ge i n with hi | hi
  · have h1 : xorAt (xorUp l s n) s i = rd l i := by
      unfold xorAt
      rw [rd_xorUp _ _ hi]
      exact xor_twice (B8_rd h i) (B8_rd hs i)
    unfold xorUp at h1 ⊢
    rw [List.getElem?_map, List.getElem?_range hi, Option.map_some, h1]
    unfold rd
    rw [List.getD_eq_getElem?_getD, Int.toNat_natCast, List.getElem?_eq_getElem (by omega : i < l.length)]
    rfl
  · rw [List.getElem?_eq_none (by rw [xorUp_length]; omega), List.getElem?_eq_none (by omega)]
theorem xorUp_swap {l s : List Int} (n : Nat) (h : ∀ x ∈ l, B8 x) (hs : ∀ x ∈ s, B8 x) : xorUp s l n = xorUp l s n := by
  unfold xorUp
  apply List.map_congr_left
  intro i _
  exact xor_swap (B8_rd hs i) (B8_rd h i)
theorem streamL_8 (k n : List Int) (m : Nat) : ∀ x ∈ streamL k n m, B8 x := by
  intro x hx
  simp only [streamL, List.mem_map] at hx
  obtain ⟨i, _, rfl⟩ := hx
  unfold streamAt
  rw [List.getD_eq_getElem?_getD, List.getElem?_eq_getElem (by rw [streamB_length]; omega : i % 64 < (streamB k n (i / 64)).length)]
  exact SxCha.blockL_all _ _ _ (List.getElem_mem _)

theorem xor_some (A0 : Option Addr) (c0 : Nat) (l0 : List Int) (A1 : Option Addr) (c1 : Nat) (l1 : List Int) (m : Nat) (w : World) (h0 : Kd.C (Kd.int .u8) w A0 m l0) (hc0 : m ≤ c0) (h1 : Kd.C (Kd.int .u8) w A1 m l1) (hc1 : m ≤ c1) (hm : m ≤ 2048) :
    Calls Try.prog 11 #[.slice A0 m c0, .slice A1 m c1] w fun e w' => ∃ A c, e = .returned (.tuple #[.slice A m c, .int .i64 0]) ∧ m ≤ c ∧ Kd.C (Kd.int .u8) w' A m (xorUp l0 l1 m) ∧ Below w.heap.size w w' := by
  obtain rfl := Kd.C_len h0
  have e1 := Kd.C_len h1
  rw [← e1] at h1 hc1 ⊢
  have e2 : l0.length = l1.length := e1.symm
  rw [← e2]
  rw [← e2] at h1 hc1
  have hf : stream_Xor.f l0 l1 = some (xorUp l0 l1 l0.length, 0) := by
    unfold stream_Xor.f
    rw [if_pos e2, if_pos (by omega)]
  have := stream_Xor.calls A0 c0 l0 A1 c1 l1 _ _ w h0 hc0 (by rw [← e2]; exact h1) (by rw [← e2]; exact hc1) hf
  rw [← e2] at this
  refine this.mono fun e w' ⟨v, he, hr, hb⟩ => ?_
  obtain ⟨A, c, rfl, hc, hC⟩ := Kd.R_reads hr
  rw [xorUp_length] at he hc hC
  exact ⟨A, c, he, hc, hC, hb⟩

set_option maxHeartbeats 1000000 in
set_option maxRecDepth 100000 in
theorem twice_big (A0 : Option Addr) (c0 m : Nat) (k : List Int) (n : Int) (hm : 2048 < m) (w : World) :
    Calls Try.prog 10 #[.slice A0 m c0, .agg ⟨k.map (Value.int .u8)⟩, .int .u64 n] w fun e w' => e = .returned (.bool true) ∧ Below w.heap.size w w' := by
  have hgt : (2048 : Int) < (m : Int) := by omega
  clear hm
  go_enter Try.func10, Try.ntmps10
  repeat (first
    | (go_at_call 25; (with_reducible refine (alive_calls _).mono ?_); rintro e w1 ⟨rfl, hb⟩; have HB1 := Aside0.mk hb; clear hb; dsimp only)
    | go_values | go_guarded | go_step | go_upon | go_back)
  go_ret
  exact ⟨rfl, bt (below_alloc (Below.refl _ _) _) HB1.out⟩

set_option maxHeartbeats 1000000 in
set_option maxRecDepth 100000 in
theorem twice_small (A0 : Option Addr) (c0 m : Nat) (l0 k : List Int) (n : Int) (hc0 : m ≤ c0) (hl8 : ∀ x ∈ l0, B8 x) (hkl : k.length = 32) (hk : ∀ x ∈ k, B8 x) (hn0 : 0 ≤ n) (hn1 : n < 18446744073709551616) (hm : m ≤ 2048) (w : World) (hr : Kd.C (Kd.int .u8) w A0 m l0) :
    Calls Try.prog 10 #[.slice A0 m c0, .agg ⟨k.map (Value.int .u8)⟩, .int .u64 n] w fun e w' => e = .returned (.bool true) ∧ Below w.heap.size w w' := by
  have hgt : ¬ (2048 : Int) < (m : Int) := by omega
  have hm63 : (m : Int) ≤ 9223372036854775807 := by omega
  have HKL := Aside0.mk hkl
  have HK := Aside0.mk hk
  have HN0 := Aside0.mk hn0
  have HN1 := Aside0.mk hn1
  have HM := Aside0.mk hm
  have HR0 := Aside0.mk hr
  have HC0 := Aside0.mk hc0
  have HT := Aside0.mk (xorUp_twice (Kd.C_len hr) hl8 (streamL_8 k (nonceL n) m))
  have HS := Aside0.mk (xorUp_swap m hl8 (streamL_8 k (nonceL n) m))
  clear hc0 hl8 hkl hk hn0 hn1 hm hr
  go_enter Try.func10, Try.ntmps10
  repeat (first
    | (go_at_call 25; (with_reducible refine (alive_calls _).mono ?_); rintro e w1 ⟨rfl, hb⟩; have HBK := Aside0.mk (blk_below (heap_alloc_new w (.cells ⟨k.map (Value.int .u8)⟩ 38)) hb); have HR1 := Aside0.mk (Kd.C_below (Kd.C_alloc HR0.out (.cells ⟨k.map (Value.int .u8)⟩ 38)) hb); have HB1 := Aside0.mk hb; clear hb; dsimp only)
    | ((with_reducible refine wpList_plain ?_ ?_); rfl; (refine fun K hK => gate_load_wp (x := .tmp 4) rfl rfl (load_row HKL.out HBK.out rfl rfl rfl) (hK _ _ ?_)))
    | (go_at_call 24; (with_reducible refine (of_some k n m HKL.out HK.out HN0.out HN1.out HM.out _).mono ?_); rintro e w2 ⟨A2, c2, rfl, hc, hC, hb⟩; have HR2 := Aside0.mk (Kd.C_below HR1.out hb); have HB2 := Aside0.mk hb; have HS2 := Aside0.mk hC; have HL2 := Aside0.mk hc; clear hb hC hc; dsimp only)
    | (go_at_call 11; (with_reducible refine (xor_some A0 c0 l0 A2 c2 (streamL k (nonceL n) m) m w2 HR2.out HC0.out HS2.out HL2.out HM.out).mono ?_); rintro e w3 ⟨A3, c3, rfl, hc, hC, hb⟩; have HR3 := Aside0.mk (Kd.C_below HR2.out hb); have HS3 := Aside0.mk (Kd.C_below HS2.out hb); have HB3 := Aside0.mk hb; have HX3 := Aside0.mk hC; have HL3 := Aside0.mk hc; clear hb hC hc; dsimp only)
    | (go_at_call 11; (with_reducible refine (xor_some A3 c3 (xorUp l0 (streamL k (nonceL n) m) m) A2 c2 (streamL k (nonceL n) m) m w3 HX3.out HL3.out HS3.out HL2.out HM.out).mono ?_); rintro e w4 ⟨A4, c4, rfl, hc, hC, hb⟩; rw [HT.out] at hC; have HR4 := Aside0.mk (Kd.C_below HR3.out hb); have HS4 := Aside0.mk (Kd.C_below HS3.out hb); have HX4 := Aside0.mk (Kd.C_below HX3.out hb); have HB4 := Aside0.mk hb; have HY4 := Aside0.mk hC; clear hb hC hc; dsimp only)
    | (go_at_call 11; (with_reducible refine (xor_some A2 c2 (streamL k (nonceL n) m) A0 c0 l0 m w4 HS4.out HL2.out HR4.out HC0.out HM.out).mono ?_); rintro e w5 ⟨A5, c5, rfl, hc, hC, hb⟩; rw [HS.out] at hC; have HR5 := Aside0.mk (Kd.C_below HR4.out hb); have HX5 := Aside0.mk (Kd.C_below HX4.out hb); have HY5 := Aside0.mk (Kd.C_below HY4.out hb); have HB5 := Aside0.mk hb; have HZ5 := Aside0.mk hC; clear hb hC hc; dsimp only)
    | (go_at_call 13; (with_reducible refine (same_calls A4 c4 m l0 A0 c0 m l0 true w5 HY5.out HR5.out (beq_self_eq_true _)).mono ?_); rintro e w6 ⟨rfl, hb⟩; have HX6 := Aside0.mk (Kd.C_below HX5.out hb); have HZ6 := Aside0.mk (Kd.C_below HZ5.out hb); have HB6 := Aside0.mk hb; clear hb; dsimp only)
    | (go_at_call 13; (with_reducible refine (same_calls A5 c5 m _ A3 c3 m _ true w6 HZ6.out HX6.out (beq_self_eq_true _)).mono ?_); rintro e w7 ⟨rfl, hb⟩; have HB7 := Aside0.mk hb; clear hb; dsimp only)
    | go_values | go_guarded | go_step | go_upon | go_back)
  go_ret
  exact ⟨rfl, bt (bt (bt (bt (bt (bt (bt (below_alloc (Below.refl _ _) _) HB1.out) HB2.out) HB3.out) HB4.out) HB5.out) HB6.out) HB7.out⟩
end Go.Proofs.Yteichdiioidlcaa
