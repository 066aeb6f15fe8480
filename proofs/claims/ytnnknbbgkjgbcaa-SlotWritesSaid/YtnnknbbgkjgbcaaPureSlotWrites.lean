/-
What slots write, count and check is the document's (law SlotWrites answers true).
Conditions: none beside the law's own.
-/
import Derived.Test.YtnnknbbgkjgbcaaSlotPure
import Derived.Test.YtnnknbbgkjgbcaaStatedSlotWrites
import Derived.Lib.Bytes
namespace Go.Proofs.Ytnnknbbgkjgbcaa.Pure
open Go.RowKit Go.Lib Go.Proofs.Ytnnknbbgkjgbcaa Go.Proofs.Ytnnknbbgkjgbcaa.PAll Go.Proofs.YtnnknbbgkjgbcaaW.PrintWords Go.Proofs.YtnnknbbgkjgbcaaW.PrintLast
set_option linter.unusedVariables false
set_option linter.unusedSimpArgs false

theorem fit_of {s w q : Int} (h1 : 1 ≤ s) (hw : w - 64 = (8 + s) * q) (q1 : 1 ≤ q) (q4 : q ≤ 4) : fitR s w = q := by
  have hc : q = 1 ∨ q = 2 ∨ q = 3 ∨ q = 4 := by omega
  unfold fitR
  rcases hc with rfl | rfl | rfl | rfl
  · rw [if_pos (by omega)]
  · rw [if_neg (by omega), if_pos (by omega)]
  · rw [if_neg (by omega), if_neg (by omega), if_pos (by omega)]
  · rw [if_neg (by omega), if_neg (by omega), if_neg (by omega), if_pos (by omega)]

theorem quot_of {s v : Int} (h1 : 1 ≤ s) (hlo : 8 + s ≤ v) (hhi : v ≤ 4 * (8 + s)) (hm : v % (8 + s) = 0) : ∃ q, v = (8 + s) * q ∧ 1 ≤ q ∧ q ≤ 4 ∧ v / (8 + s) = q := by
  have hp : 0 < 8 + s := by omega
  have he : (8 + s) * (v / (8 + s)) = v := Int.mul_ediv_cancel' (Int.dvd_of_emod_eq_zero hm)
  refine ⟨v / (8 + s), he.symm, ?_, ?_, rfl⟩
  · exact (Int.le_ediv_iff_mul_le hp).2 (by omega)
  · have := (Int.ediv_lt_iff_lt_mul (a := v) (b := 5) hp).2 (by omega)
    omega

def manyS (a0 a1 a2 a3 : Int) : Int := if levelOk a0 a1 a2 a3 then wrap64 (a3 - 64) / (8 + a1) else 0

theorem ok_of {a0 a1 a2 a3 q : Int} (w3 : (Lit.int .i64 a3).wf = true) (hh : isHigh a2 = true) (c1 : ¬ a0 < 1) (c2 : ¬ a0 > 64) (c3 : ¬ a1 < 1) (c4 : ¬ a1 > 32) (c5 : ¬ two a2 < a0) (q1 : 1 ≤ q) (q4 : q ≤ 4) (he : a3 = q * (8 + a1) + 64) : levelOk a0 a1 a2 a3 := by
  have hc : q = 1 ∨ q = 2 ∨ q = 3 ∨ q = 4 := by omega
  have e : wrap64 (a3 - 64) = q * (8 + a1) := by rcases hc with rfl | rfl | rfl | rfl <;> (unfold wrap64; omega)
  unfold levelOk
  rw [e]
  refine ⟨hh, by omega, by omega, by omega, by omega, by omega, ?_, ?_, Int.mul_emod_left ..⟩
  · rcases hc with rfl | rfl | rfl | rfl <;> omega
  · rcases hc with rfl | rfl | rfl | rfl <;> omega

theorem manyS_eq (a0 a1 a2 a3 : Int) (w3 : (Lit.int .i64 a3).wf = true) : ref09_Many.f 20 a0 a1 a2 a3 = some (manyS a0 a1 a2 a3) := by
  have hb3 := w3
  rw [Lit.wf, Bool.and_eq_true, decide_eq_true_eq, decide_eq_true_eq] at hb3
  have hlo : -9223372036854775808 ≤ a3 := hb3.1
  have hhi : a3 ≤ 9223372036854775807 := hb3.2
  unfold ref09_Many.f manyS
  by_cases hl : levelOk a0 a1 a2 a3
  · have hl' := hl
    unfold levelOk at hl'
    obtain ⟨h0, h1, h2, h3, h4, h5, h6, h7, h8⟩ := hl'
    rw [if_neg (by omega), if_neg (by omega), if_neg (by omega), if_neg (by omega), may_eq, Option.bind_some, if_pos h0, many_eq h0, Option.bind_some, if_neg (by omega), if_pos hl]
    obtain ⟨q, e, q1, q4, ed⟩ := quot_of h4 h6 h7 h8
    have ew : wrap64 (a3 - 64) = a3 - 64 := by
      have : 0 < wrap64 (a3 - 64) ∧ wrap64 (a3 - 64) ≤ 1000 := by omega
      unfold wrap64 at this ⊢
      omega
    rw [ed, fit_of h4 (by rw [← ew]; exact e) q1 q4]
  · rw [if_neg hl]
    by_cases c1 : a0 < 1
    · rw [if_pos c1]
    by_cases c2 : a0 > 64
    · rw [if_neg c1, if_pos c2]
    by_cases c3 : a1 < 1
    · rw [if_neg c1, if_neg c2, if_pos c3]
    by_cases c4 : a1 > 32
    · rw [if_neg c1, if_neg c2, if_neg c3, if_pos c4]
    rw [if_neg c1, if_neg c2, if_neg c3, if_neg c4, may_eq, Option.bind_some]
    by_cases h0 : isHigh a2 = true
    · rw [if_pos h0, many_eq h0, Option.bind_some]
      by_cases c5 : two a2 < a0
      · rw [if_pos c5]
      · rw [if_neg c5]
        have e : fitR a1 a3 = 0 := by
          unfold fitR
          rw [if_neg (fun he => hl (ok_of w3 h0 c1 c2 c3 c4 c5 (by decide) (by decide) he)), if_neg (fun he => hl (ok_of w3 h0 c1 c2 c3 c4 c5 (by decide) (by decide) he)),
            if_neg (fun he => hl (ok_of w3 h0 c1 c2 c3 c4 c5 (by decide) (by decide) he)), if_neg (fun he => hl (ok_of w3 h0 c1 c2 c3 c4 c5 (by decide) (by decide) he))]
        rw [e]
    · rw [if_neg h0]

theorem manyS_pos {a0 a1 a2 a3 : Int} (hl : levelOk a0 a1 a2 a3) : ¬ manyS a0 a1 a2 a3 < 1 := by
  unfold manyS
  rw [if_pos hl]
  unfold levelOk at hl
  obtain ⟨q, e, q1, q4, ed⟩ := quot_of hl.2.2.2.2.1 hl.2.2.2.2.2.2.1 hl.2.2.2.2.2.2.2.1 hl.2.2.2.2.2.2.2.2
  omega
theorem manyS_zero {a0 a1 a2 a3 : Int} (hl : ¬ levelOk a0 a1 a2 a3) : manyS a0 a1 a2 a3 < 1 := by
  unfold manyS
  rw [if_neg hl]
  decide

theorem refSlots_eq (a0 a1 a2 a3 : Int) (w3 : (Lit.int .i64 a3).wf = true) : ref09_Slots.f 20 a0 a1 a2 a3 = some (slotsS a0 a1 a2 a3) := by
  unfold ref09_Slots.f slotsS
  rw [manyS_eq _ _ _ _ w3, Option.bind_some, Option.bind_some]
  by_cases hl : levelOk a0 a1 a2 a3
  · rw [if_neg (manyS_pos hl), if_pos hl]; unfold manyS; rw [if_pos hl]
  · rw [if_pos (manyS_zero hl), if_neg hl]

theorem refMay_eq {a0 a1 a2 a3 id leaf : Int} (d : List Int) (hh : isHigh a2 = true) : ref09_May.f 20 a0 a1 a2 a3 id leaf d = some (decide (mayS a0 a1 a2 id leaf d.length)) := by
  unfold ref09_May.f
  by_cases c1 : id ≥ 0
  · rw [if_pos c1]
    by_cases c2 : id < a0
    · rw [if_pos c2]
      by_cases c3 : leaf ≥ 0
      · rw [if_pos c3, many_eq hh, Option.bind_some]
        by_cases c4 : leaf < two a2
        · rw [if_pos c4]
          by_cases c5 : (d.length : Int) = a1
          · rw [decide_eq_true (show mayS a0 a1 a2 id leaf d.length from ⟨c1, c2, c3, c4, c5⟩)]; simp [c5]
          · rw [decide_eq_false (fun h : mayS a0 a1 a2 id leaf d.length => c5 h.2.2.2.2)]; simp [c5]
        · rw [if_neg c4, decide_eq_false (fun h : mayS a0 a1 a2 id leaf d.length => c4 h.2.2.2.1)]
      · rw [if_neg c3, decide_eq_false (fun h : mayS a0 a1 a2 id leaf d.length => c3 h.2.2.1)]
    · rw [if_neg c2, decide_eq_false (fun h : mayS a0 a1 a2 id leaf d.length => c2 h.2.1)]
  · rw [if_neg c1, decide_eq_false (fun h : mayS a0 a1 a2 id leaf d.length => c1 h.1)]

theorem refCheck_eq (a0 a1 a2 a3 id leaf : Int) (d : List Int) (w3 : (Lit.int .i64 a3).wf = true) : ref09_Check.f 20 a0 a1 a2 a3 id leaf d = some (checkS a0 a1 a2 a3 id leaf d.length) := by
  unfold ref09_Check.f checkS
  rw [manyS_eq _ _ _ _ w3, Option.bind_some]
  by_cases hl : levelOk a0 a1 a2 a3
  · rw [if_neg (manyS_pos hl), refMay_eq d hl.1, Option.bind_some, ref09_Check.j0]
    by_cases hm : mayS a0 a1 a2 id leaf d.length
    · rw [decide_eq_true hm, if_neg (by decide), if_pos ⟨hl, hm⟩]
    · rw [decide_eq_false hm, if_pos (by decide), if_neg (fun h => hm h.2)]
  · rw [if_pos (manyS_zero hl), ref09_Check.j0, if_pos rfl, if_neg (fun h => hl h.1)]

theorem put44r : ∀ p : Fin 65, ∀ q : Fin 64, ref01_Put.f 60 [(p.val : Int), (q.val : Int)] [4, 4] = some ([(p.val : Int), 0, 0, 0, (q.val : Int), 0, 0, 0], 0) := by decide +kernel

theorem refOf_eq {a0 a1 a2 a3 id leaf : Int} (d : List Int) (hl : levelOk a0 a1 a2 a3) (hm : mayS a0 a1 a2 id leaf d.length) : ref09_Of.f 60 id leaf d = some (ofS id leaf d) := by
  have hh := high_bounds hl.1
  unfold levelOk at hl
  unfold mayS at hm
  unfold ref09_Of.f
  have e1 : IntKind.u64.wrap (wrap64 (id + 1)) = id + 1 := by rw [u64_wrap']; unfold wrap64; omega
  have e2 : IntKind.u64.wrap leaf = leaf := by rw [u64_wrap']; omega
  obtain ⟨n, rfl⟩ := Int.eq_ofNat_of_zero_le hm.1
  obtain ⟨m, rfl⟩ := Int.eq_ofNat_of_zero_le hm.2.2.1
  have hp := put44r ⟨n + 1, by omega⟩ ⟨m, by omega⟩
  simp only at hp
  rw [e1, e2, show (n : Int) + 1 = ((n + 1 : Nat) : Int) from rfl, hp, Option.bind_some, if_pos (by simp; omega)]
  rfl

theorem refWrite_eq (a0 a1 a2 a3 id leaf : Int) (d : List Int) (w3 : (Lit.int .i64 a3).wf = true) : ref09_Write.f 61 a0 a1 a2 a3 id leaf d = some (writeS a0 a1 a2 a3 id leaf d) := by
  unfold ref09_Write.f writeS
  rw [at_rounds (g := fun k => ref09_Many.f k a0 a1 a2 a3) (ref09_Many.mono a0 a1 a2 a3) (by decide : 20 ≤ 61) (manyS_eq a0 a1 a2 a3 w3), Option.bind_some]
  by_cases hl : levelOk a0 a1 a2 a3
  · rw [if_neg (manyS_pos hl), at_rounds (g := fun k => ref09_May.f k a0 a1 a2 a3 id leaf d) (ref09_May.mono a0 a1 a2 a3 id leaf d) (by decide : 20 ≤ 61) (refMay_eq d hl.1), Option.bind_some, ref09_Write.j0]
    by_cases hm : mayS a0 a1 a2 id leaf d.length
    · rw [decide_eq_true hm, if_neg (by decide), if_pos ⟨hl, hm⟩, refOf_eq d hl hm]; rfl
    · rw [decide_eq_false hm, if_pos (by decide), if_neg (fun h => hm h.2)]
  · rw [if_pos (manyS_zero hl), ref09_Write.j0, if_pos rfl, if_neg (fun h => hl h.1)]

def noneS (a0 a1 a2 a3 : Int) : List Int × Int := if levelOk a0 a1 a2 a3 then (List.replicate (8 + a1).toNat 0, 0) else ([], 8)
theorem refNone_eq (a0 a1 a2 a3 : Int) (w3 : (Lit.int .i64 a3).wf = true) : ref09_None.f 20 a0 a1 a2 a3 = some (noneS a0 a1 a2 a3) := by
  unfold ref09_None.f noneS
  rw [manyS_eq _ _ _ _ w3, Option.bind_some]
  by_cases hl : levelOk a0 a1 a2 a3
  · have hl' := hl
    unfold levelOk at hl'
    have e : wrap64 (8 + a1) = 8 + a1 := by unfold wrap64; omega
    rw [if_neg (manyS_pos hl), e, if_pos (by omega), if_pos (by omega), if_pos hl]
  · rw [if_pos (manyS_zero hl), if_neg hl]

/-! ### the bytes' equality, both ways -/
theorem same_eq {l m : List Int} (hl : Bytes l) (hm : Bytes m) : ref01_Same.f l m = some (l == m) := by
  unfold ref01_Same.f
  rw [strOfNums_toList, strOfNums_toList]
  congr 1
  induction l generalizing m with
  | nil => cases m with
    | nil => rfl
    | cons b m => rfl
  | cons a l ih => cases m with
    | nil => rfl
    | cons b m =>
      have ha := hl a (List.mem_cons_self ..)
      have hb := hm b (List.mem_cons_self ..)
      have ih' := ih (m := m) (fun x hx => hl x (List.mem_cons_of_mem _ hx)) (fun x hx => hm x (List.mem_cons_of_mem _ hx))
      have he : (UInt8.ofNat a.toNat == UInt8.ofNat b.toNat) = (a == b) := by
        by_cases hab : a = b
        · subst hab; simp
        · have : ¬ UInt8.ofNat a.toNat = UInt8.ofNat b.toNat := by
            intro h
            have h2 := congrArg UInt8.toNat h
            simp only [UInt8.toNat_ofNat'] at h2
            omega
          rw [beq_eq_false_iff_ne.2 this, beq_eq_false_iff_ne.2 hab]
      show ((UInt8.ofNat a.toNat :: bytesOf l) == (UInt8.ofNat b.toNat :: bytesOf m)) = _
      rw [List.cons_beq_cons, List.cons_beq_cons, he, ih']

theorem equal_l0 {l m : List Int} (hlm : l.length = m.length) (hn : l.length ≤ 140737488355328) : ∀ (d k i : Nat), l.length - i = d → d < k → slices_Equal_byte_byte.l0 k l m (l.length : Int) (i : Int) = some (l.drop i == m.drop i)
  | 0, k + 1, i, hd, _ => by
    rw [slices_Equal_byte_byte.l0, if_neg (by omega), List.drop_of_length_le (by omega), List.drop_of_length_le (by omega)]
    rfl
  | d + 1, k + 1, i, hd, hk => by
    have hi : i < l.length := by omega
    have hj : i < m.length := by omega
    rw [slices_Equal_byte_byte.l0, if_pos (by omega), if_pos (by omega), if_pos (by omega), if_pos (by omega), rd_nat l i hi, rd_nat m i hj, List.drop_eq_getElem_cons hi, List.drop_eq_getElem_cons hj, List.cons_beq_cons]
    by_cases he : l[i] = m[i]
    · rw [if_pos he, wrap_succ i (by omega), equal_l0 hlm hn d k (i + 1) (by omega) (by omega), he]
      simp
    · rw [if_neg he, beq_eq_false_iff_ne.2 he, Bool.false_and]

theorem equal_eq {l m : List Int} (hn : l.length ≤ 1000) {k : Nat} (hk : 1002 ≤ k) : slices_Equal_byte_byte.f k l m = some (l == m) := by
  unfold slices_Equal_byte_byte.f
  by_cases h : l.length = m.length
  · rw [if_pos (by omega)]
    have := equal_l0 h (by omega) l.length k 0 (by omega) (by omega)
    simpa using this
  · rw [if_neg (by omega)]
    have : ¬ l = m := fun e => h (by rw [e])
    rw [beq_eq_false_iff_ne.2 this]

def sameS (a b : Int) (d : List Int) (x y : Int) (e : List Int) : Bool := if a = x then (if b = y then d == e else false) else false
theorem slotSame_eq {a b x y : Int} {d e : List Int} (hn : d.length ≤ 1000) {k : Nat} (hk : 1002 ≤ k) : slot_Same.f k a b d x y e = some (sameS a b d x y e) := by
  unfold slot_Same.f sameS
  rw [equal_eq hn hk]
  by_cases h1 : a = x
  · rw [if_pos h1, if_pos h1]
    by_cases h2 : b = y
    · rw [if_pos h2, if_pos h2]; rfl
    · rw [if_neg h2, if_neg h2]
  · rw [if_neg h1, if_neg h1]
theorem refSame_eq {a b x y : Int} {d e : List Int} (hd : Bytes d) (he : Bytes e) : ref09_Same.f a b d x y e = some (sameS a b d x y e) := by
  unfold ref09_Same.f sameS
  rw [same_eq hd he]
  by_cases h1 : a = x
  · rw [if_pos h1, if_pos h1]
    by_cases h2 : b = y
    · rw [if_pos h2, if_pos h2]; rfl
    · rw [if_neg h2, if_neg h2]
  · rw [if_neg h1, if_neg h1]
theorem sameS_self (a b : Int) (d : List Int) : sameS a b d a b d = true := by
  unfold sameS
  rw [if_pos rfl, if_pos rfl]
  simp

theorem writes_l1 (a b : Int) (d : List Int) (hd : Bytes d) : ∀ (n k : Nat) (x : List Int) (i : Nat), x.length ≤ 140737488355328 → x.length - i = n → n < k → law09_SlotWrites.l1 k x true true (i : Int) a b d a b d = some true
  | 0, k + 1, x, i, hx, hn, _ => by
    rw [law09_SlotWrites.l1, if_neg (by omega), if_pos rfl, if_pos rfl, refSame_eq hd hd, Option.bind_some, sameS_self]
  | n + 1, k + 1, x, i, hx, hn, hk => by
    rw [law09_SlotWrites.l1, if_pos (by omega), if_pos (by omega), wrap_succ i (by omega)]
    exact writes_l1 a b d hd n k _ (i + 1) (by simpa using hx) (by simp; omega) (by omega)
theorem writes_l0 (a b : Int) (d x : List Int) (p q : Int) (hd : Bytes d) (hx : x.length ≤ 1100) : ∀ (n k : Nat) (t : List Int) (i : Nat), t.length ≤ 140737488355328 → t.length - i = n → n + 1102 < k → law09_SlotWrites.l0 k x true true (i : Int) a b d a b d p q t = some true
  | 0, k + 1, t, i, ht, hn, hk => by
    rw [law09_SlotWrites.l0, if_neg (by omega)]
    exact writes_l1 a b d hd x.length k x 0 (by omega) (by omega) (by omega)
  | n + 1, k + 1, t, i, ht, hn, hk => by
    rw [law09_SlotWrites.l0, if_pos (by omega), if_pos (by omega), wrap_succ i (by omega)]
    exact writes_l0 a b d x p q hd hx n k _ (i + 1) (by simpa using ht) (by simp; omega) (by omega)

theorem twin_eq (a b : Int) {d : List Int} (h : d.length ≤ 1000) : ref09_Twin.f a b d = some (a, b, d) := by
  unfold ref09_Twin.f
  rw [Option.bind_some, if_pos (by simp; omega)]
  rfl
theorem slotTwin_eq (a b : Int) {d : List Int} (h : d.length ≤ 1000) : slot_Twin.f a b d = some (a, b, d) := by
  unfold slot_Twin.f
  have : slices_Clone_byte_byte.f d = some d := by
    unfold slices_Clone_byte_byte.f
    rw [if_pos (by omega)]
  rw [this]; rfl

theorem same_both {l : List Int} : ref01_Same.f l l = some true := same_self l

theorem writes_len {a0 a1 a2 a3 id leaf : Int} {d : List Int} (h : d.length ≤ 1000) : (writeS a0 a1 a2 a3 id leaf d).1.length ≤ 1100 := by
  unfold writeS
  split
  · simp [ofS]; omega
  · simp

theorem SlotWrites : law09_SlotWrites.Pure2 := by
  intro a0 a1 a2 a3 b0 b1 d o0 o1 o w0 w1 w2 w3 w4 w5 hd bd w6 w7 ho bo
  have hbd := bytes_of_wf bd
  have hbo := bytes_of_wf bo
  refine ⟨5000, ?_⟩
  unfold law09_SlotWrites.f
  by_cases h1 : (d.length : Int) > 1000
  · rw [if_pos h1, law09_SlotWrites.j0, if_pos rfl]
  · rw [if_neg h1]
    by_cases h2 : (o.length : Int) > 1000
    · rw [decide_eq_true h2, law09_SlotWrites.j0, if_pos rfl]
    · have hd1 : d.length ≤ 1000 := by omega
      have e1 := slots_eq a0 a1 a2 a3 (k := 4999) (by decide)
      have e2 : ref09_Slots.f 4999 a0 a1 a2 a3 = _ := at_rounds (g := fun k => ref09_Slots.f k a0 a1 a2 a3) (ref09_Slots.mono a0 a1 a2 a3) (by decide) (refSlots_eq a0 a1 a2 a3 w3)
      have e3 := writeS_eq a0 a1 a2 a3 b0 b1 d
      have e4 : ref09_Write.f 4999 a0 a1 a2 a3 b0 b1 d = _ := at_rounds (g := fun k => ref09_Write.f k a0 a1 a2 a3 b0 b1 d) (ref09_Write.mono a0 a1 a2 a3 b0 b1 d) (by decide) (refWrite_eq a0 a1 a2 a3 b0 b1 d w3)
      have e5 : slot_None.f 4999 a0 a1 a2 a3 = some (noneS a0 a1 a2 a3) := noneS_eq a0 a1 a2 a3 (by decide)
      have e6 : ref09_None.f 4999 a0 a1 a2 a3 = _ := at_rounds (g := fun k => ref09_None.f k a0 a1 a2 a3) (ref09_None.mono a0 a1 a2 a3) (by decide) (refNone_eq a0 a1 a2 a3 w3)
      have e7 : slot_Check.f 4998 a0 a1 a2 a3 b0 b1 d = _ := at_rounds (g := fun k => slot_Check.f k a0 a1 a2 a3 b0 b1 d) (slot_Check.mono a0 a1 a2 a3 b0 b1 d) (by decide) (checkS_eq a0 a1 a2 a3 b0 b1 d)
      have e8 : ref09_Check.f 4998 a0 a1 a2 a3 b0 b1 d = _ := at_rounds (g := fun k => ref09_Check.f k a0 a1 a2 a3 b0 b1 d) (ref09_Check.mono a0 a1 a2 a3 b0 b1 d) (by decide) (refCheck_eq a0 a1 a2 a3 b0 b1 d w3)
      rw [decide_eq_false h2, show (5000 : Nat) = 4999 + 1 from rfl, law09_SlotWrites.j0, if_neg (by decide), twin_eq _ _ hd1, Option.bind_some, e1, Option.bind_some, e2, Option.bind_some, e3, Option.bind_some, e4, Option.bind_some, e5, Option.bind_some, e6, Option.bind_some, slotTwin_eq _ _ hd1, Option.bind_some,
        if_pos rfl, if_pos rfl, same_self, Option.bind_some, if_pos rfl, if_pos rfl, same_self, Option.bind_some, if_pos rfl, beq_self_eq_true,
        show (4999 : Nat) = 4998 + 1 from rfl, law09_SlotWrites.j1, e7, Option.bind_some, e8, Option.bind_some, if_pos rfl, slotSame_eq hd1 (by decide), Option.bind_some, refSame_eq hbd hbo, Option.bind_some, beq_self_eq_true, if_pos rfl,
        slotSame_eq hd1 (by decide), Option.bind_some, sameS_self, if_pos rfl, refSame_eq hbd hbd, Option.bind_some, sameS_self,
        show (4998 : Nat) = 4997 + 1 from rfl, law09_SlotWrites.j2]
      exact writes_l0 b0 b1 d _ b0 b1 hbd (writes_len hd1) d.length 4997 d 0 (by omega) (by omega) (by omega)
end Go.Proofs.Ytnnknbbgkjgbcaa.Pure
