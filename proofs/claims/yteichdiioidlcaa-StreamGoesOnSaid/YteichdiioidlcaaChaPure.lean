/-
Quarter rounds, forth and back: what is done is undone.
-/
import Derived.Test.YteichdiioidlcaaHandHalf
import Derived.Laws.BitsAllLaws
namespace Go.Proofs.Yteichdiioidlcaa
open Go.RowKit
set_option linter.unusedVariables false
set_option linter.unusedSimpArgs false

theorem or_mul (a b i m : Nat) (hm : m = 2 ^ i) (h : a < m) : (b * m) ||| a = b * m + a := by
  subst hm
  rw [← Nat.shiftLeft_eq, Nat.shiftLeft_add_eq_or_of_lt h]
theorem rotL_nat (n s t : Nat) (h : s + t = 32) (hn : n < 4294967296) : rotL (n : Int) s = (((n % 2 ^ t) * 2 ^ s + n / 2 ^ t : Nat) : Int) := by
  have hp : (4294967296 : Nat) = 2 ^ t * 2 ^ s := by rw [← Nat.pow_add, Nat.add_comm, h]
  have e1 : (n : Int) * 2 ^ s % 4294967296 = ((n * 2 ^ s % 4294967296 : Nat) : Int) := by rw [Int.natCast_emod, Int.natCast_mul, Int.natCast_pow]; rfl
  have e2 : (n : Int) / 2 ^ (32 - s) = ((n / 2 ^ t : Nat) : Int) := by rw [show 32 - s = t by omega, Int.natCast_ediv, Int.natCast_pow]; rfl
  have e3 : n * 2 ^ s % 4294967296 = (n % 2 ^ t) * 2 ^ s := by rw [hp, Nat.mul_mod_mul_right]
  have ht : 0 < 2 ^ t := Nat.two_pow_pos t
  have hs : 0 < 2 ^ s := Nat.two_pow_pos s
  have h1 : n / 2 ^ t < 2 ^ s := Nat.div_lt_of_lt_mul (by rw [← hp]; exact hn)
  have h2 : n % 2 ^ t < 2 ^ t := Nat.mod_lt _ ht
  have h3 : (n % 2 ^ t) * 2 ^ s < 4294967296 := by rw [hp]; exact (Nat.mul_lt_mul_right hs).2 h2
  have h4 : n / 2 ^ t < 4294967296 := Nat.lt_of_le_of_lt (Nat.div_le_self _ _) hn
  unfold rotL
  rw [e1, e2, e3, u32_or_nat _ _ h3 h4, or_mul _ _ s _ rfl h1]
theorem rotL_back (n s t : Nat) (h : s + t = 32) (hn : n < 4294967296) : rotL (rotL (n : Int) s) t = n := by
  have hp : (4294967296 : Nat) = 2 ^ t * 2 ^ s := by rw [← Nat.pow_add, Nat.add_comm, h]
  have ht : 0 < 2 ^ t := Nat.two_pow_pos t
  have hs : 0 < 2 ^ s := Nat.two_pow_pos s
  have h1 : n / 2 ^ t < 2 ^ s := Nat.div_lt_of_lt_mul (by rw [← hp]; exact hn)
  have h2 : n % 2 ^ t < 2 ^ t := Nat.mod_lt _ ht
  have hr : (n % 2 ^ t) * 2 ^ s + n / 2 ^ t < 4294967296 := by
    have : (n % 2 ^ t + 1) * 2 ^ s ≤ 2 ^ t * 2 ^ s := Nat.mul_le_mul_right _ h2
    rw [Nat.add_mul, Nat.one_mul, ← hp] at this
    omega
  rw [rotL_nat n s t h hn, rotL_nat _ t s (by omega) hr]
  have e1 : ((n % 2 ^ t) * 2 ^ s + n / 2 ^ t) % 2 ^ s = n / 2 ^ t := by rw [Nat.mul_comm, Nat.mul_add_mod, Nat.mod_eq_of_lt h1]
  have e2 : ((n % 2 ^ t) * 2 ^ s + n / 2 ^ t) / 2 ^ s = n % 2 ^ t := by rw [Nat.mul_comm, Nat.mul_add_div hs, Nat.div_eq_of_lt h1, Nat.add_zero]
  rw [e1, e2, Nat.mul_comm, Nat.div_add_mod]
theorem rot_undo {x : Int} (h : U32 x) (s t : Nat) (hs : s + t = 32) : rotL (rotL x s) t = x := by
  obtain ⟨n, rfl⟩ := Int.eq_ofNat_of_zero_le h.1
  exact rotL_back n s t hs (by have := h.2; omega)
theorem xor_undo {x y : Int} (hx : U32 x) (hy : U32 y) : Go.bits .xor .u32 (Go.bits .xor .u32 x y) y = x := by
  obtain ⟨n, rfl⟩ := Int.eq_ofNat_of_zero_le hx.1
  obtain ⟨m, rfl⟩ := Int.eq_ofNat_of_zero_le hy.1
  have hn : n < 4294967296 := by have := hx.2; omega
  have hm : m < 4294967296 := by have := hy.2; omega
  have hnm : n ^^^ m < 4294967296 := Nat.xor_lt_two_pow (n := 32) hn hm
  rw [u32_xor_nat _ _ hn hm, u32_xor_nat _ _ hnm hm, Nat.xor_assoc, Nat.xor_self, Nat.xor_zero]
theorem roll_32 (x : Roll) : x.1.1.toNat + (32 - x.1.1.toNat) = 32 := by
  rcases x.2 with h | h | h | h <;> rw [h] <;> rfl

theorem four_ext {p q : Four} (ha : p.a = q.a) (hb : p.b = q.b) (hc : p.c = q.c) (hd : p.d = q.d) : p = q := by
  cases p; cases q; simp_all
theorem back_half (x : Roll) {q : Four} (h : q.U) : halfB x (halfQ x q) = q := by
  obtain ⟨⟨a0, a1⟩, ⟨b0, b1⟩, ⟨c0, c1⟩, d0, d1⟩ := h
  have hs := roll_32 x
  unfold halfB halfQ
  cases hx : x.1.2
  · simp only [Bool.false_eq_true, if_false]
    refine four_ext rfl ?_ ?_ rfl
    · dsimp only
      rw [rot_undo (bits_u32 _ _ _) _ _ hs, xor_undo ⟨b0, b1⟩ (mod_u32 _)]
    · dsimp only; omega
  · simp only [if_true]
    refine four_ext ?_ rfl rfl ?_
    · dsimp only; omega
    · dsimp only
      rw [rot_undo (bits_u32 _ _ _) _ _ hs, xor_undo ⟨d0, d1⟩ (mod_u32 _)]
theorem half_back (x : Roll) {q : Four} (h : q.U) : halfQ x (halfB x q) = q := by
  obtain ⟨⟨a0, a1⟩, ⟨b0, b1⟩, ⟨c0, c1⟩, d0, d1⟩ := h
  have hs := roll_32 x
  unfold halfB halfQ
  cases hx : x.1.2
  · simp only [Bool.false_eq_true, if_false]
    have hc : ((q.c - q.d) % 4294967296 + q.d) % 4294967296 = q.c := by omega
    refine four_ext rfl ?_ ?_ rfl
    · dsimp only
      rw [hc, xor_undo (rotL_u32 _ _) ⟨c0, c1⟩, rot_undo ⟨b0, b1⟩ _ _ (by omega)]
    · dsimp only; exact hc
  · simp only [if_true]
    have ha : ((q.a - q.b) % 4294967296 + q.b) % 4294967296 = q.a := by omega
    refine four_ext ?_ rfl rfl ?_
    · dsimp only; exact ha
    · dsimp only
      rw [ha, xor_undo (rotL_u32 _ _) ⟨a0, a1⟩, rot_undo ⟨d0, d1⟩ _ _ (by omega)]
theorem quarterR_four (q : Four) : quarterR q = halfQ (rollOf false 3) (halfQ (rollOf false 2) (halfQ (rollOf false 1) (halfQ (rollOf false 0) q))) := rfl
theorem undoR_four (q : Four) : undoR q = halfB (rollOf false 0) (halfB (rollOf false 1) (halfB (rollOf false 2) (halfB (rollOf false 3) q))) := rfl
theorem undo_quarter {q : Four} (h : q.U) : undoR (quarterR q) = q := by
  rw [quarterR_four, undoR_four]
  have h1 := halfQ_U (rollOf false 0) h
  have h2 := halfQ_U (rollOf false 1) h1
  have h3 := halfQ_U (rollOf false 2) h2
  rw [back_half _ h3, back_half _ h2, back_half _ h1, back_half _ h]
theorem quarter_undo {q : Four} (h : q.U) : quarterR (undoR q) = q := by
  rw [quarterR_four, undoR_four]
  have h1 := halfB_U (rollOf false 3) h
  have h2 := halfB_U (rollOf false 2) h1
  have h3 := halfB_U (rollOf false 1) h2
  rw [half_back _ h3, half_back _ h2, half_back _ h1, half_back _ h]
theorem quarterR_U {q : Four} (h : q.U) : (quarterR q).U := runQ_U h _
theorem undoR_U {q : Four} (h : q.U) : (undoR q).U := runB_U h _
end Go.Proofs.Yteichdiioidlcaa
