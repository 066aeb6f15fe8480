/-
What slots have is as the document has it, and what was handed in stays, also where a block's bytes are written over (law SlotReads answers true).
Conditions: none beside the law's own.
-/
import Derived.Test.YtnnknbbgkjgbcaaSlotPure
import Derived.Test.YtnnknbbgkjgbcaaStatedSlotReads
import Derived.Lib.Bytes
namespace Go.Proofs.Ytnnknbbgkjgbcaa.Pure
open Go.RowKit Go.Lib Go.Proofs.Ytnnknbbgkjgbcaa Go.Proofs.Ytnnknbbgkjgbcaa.PAll Go.Proofs.YtnnknbbgkjgbcaaW.PrintWords Go.Proofs.YtnnknbbgkjgbcaaW.PrintLast
set_option linter.unusedVariables false
set_option linter.unusedSimpArgs false

theorem fit_of {s w q : Int} (h1 : 1 ≤ s) (hw : w - 64 = (8 + s) * q) (q1 : 1 ≤ q) (q4 : q ≤ 4) : fitR s w = q := by
  have hc : q = 1 ∨ q = 2 ∨ q = 3 ∨ q = 4 := by omega
  unfold fitR
  rcases hc with rfl | rfl | rfl | rfl
  · rw [if_pos (by omega)]
  · rw [if_neg (by omega), if_pos (by omega)]
  · rw [if_neg (by omega), if_neg (by omega), if_pos (by omega)]
  · rw [if_neg (by omega), if_neg (by omega), if_neg (by omega), if_pos (by omega)]

theorem quot_of {s v : Int} (h1 : 1 ≤ s) (hlo : 8 + s ≤ v) (hhi : v ≤ 4 * (8 + s)) (hm : v % (8 + s) = 0) : ∃ q, v = (8 + s) * q ∧ 1 ≤ q ∧ q ≤ 4 ∧ v / (8 + s) = q := by
  have hp : 0 < 8 + s := by omega
  have he : (8 + s) * (v / (8 + s)) = v := Int.mul_ediv_cancel' (Int.dvd_of_emod_eq_zero hm)
  refine ⟨v / (8 + s), he.symm, ?_, ?_, rfl⟩
  · exact (Int.le_ediv_iff_mul_le hp).2 (by omega)
  · have := (Int.ediv_lt_iff_lt_mul (a := v) (b := 5) hp).2 (by omega)
    omega

def manyS (a0 a1 a2 a3 : Int) : Int := if levelOk a0 a1 a2 a3 then wrap64 (a3 - 64) / (8 + a1) else 0

theorem ok_of {a0 a1 a2 a3 q : Int} (w3 : (Lit.int .i64 a3).wf = true) (hh : isHigh a2 = true) (c1 : ¬ a0 < 1) (c2 : ¬ a0 > 64) (c3 : ¬ a1 < 1) (c4 : ¬ a1 > 32) (c5 : ¬ two a2 < a0) (q1 : 1 ≤ q) (q4 : q ≤ 4) (he : a3 = q * (8 + a1) + 64) : levelOk a0 a1 a2 a3 := by
  have hc : q = 1 ∨ q = 2 ∨ q = 3 ∨ q = 4 := by omega
  have e : wrap64 (a3 - 64) = q * (8 + a1) := by rcases hc with rfl | rfl | rfl | rfl <;> (unfold wrap64; omega)
  unfold levelOk
  rw [e]
  refine ⟨hh, by omega, by omega, by omega, by omega, by omega, ?_, ?_, Int.mul_emod_left ..⟩
  · rcases hc with rfl | rfl | rfl | rfl <;> omega
  · rcases hc with rfl | rfl | rfl | rfl <;> omega

theorem manyS_eq (a0 a1 a2 a3 : Int) (w3 : (Lit.int .i64 a3).wf = true) : ref09_Many.f 20 a0 a1 a2 a3 = some (manyS a0 a1 a2 a3) := by
  have hb3 := w3
  rw [Lit.wf, Bool.and_eq_true, decide_eq_true_eq, decide_eq_true_eq] at hb3
  have hlo : -9223372036854775808 ≤ a3 := hb3.1
  have hhi : a3 ≤ 9223372036854775807 := hb3.2
  unfold ref09_Many.f manyS
  by_cases hl : levelOk a0 a1 a2 a3
  · have hl' := hl
    unfold levelOk at hl'
    obtain ⟨h0, h1, h2, h3, h4, h5, h6, h7, h8⟩ := hl'
    rw [if_neg (by omega), if_neg (by omega), if_neg (by omega), if_neg (by omega), may_eq, Option.bind_some, if_pos h0, many_eq h0, Option.bind_some, if_neg (by omega), if_pos hl]
    obtain ⟨q, e, q1, q4, ed⟩ := quot_of h4 h6 h7 h8
    have ew : wrap64 (a3 - 64) = a3 - 64 := by
      have : 0 < wrap64 (a3 - 64) ∧ wrap64 (a3 - 64) ≤ 1000 := by omega
      unfold wrap64 at this ⊢
      omega
    rw [ed, fit_of h4 (by rw [← ew]; exact e) q1 q4]
  · rw [if_neg hl]
    by_cases c1 : a0 < 1
    · rw [if_pos c1]
    by_cases c2 : a0 > 64
    · rw [if_neg c1, if_pos c2]
    by_cases c3 : a1 < 1
    · rw [if_neg c1, if_neg c2, if_pos c3]
    by_cases c4 : a1 > 32
    · rw [if_neg c1, if_neg c2, if_neg c3, if_pos c4]
    rw [if_neg c1, if_neg c2, if_neg c3, if_neg c4, may_eq, Option.bind_some]
    by_cases h0 : isHigh a2 = true
    · rw [if_pos h0, many_eq h0, Option.bind_some]
      by_cases c5 : two a2 < a0
      · rw [if_pos c5]
      · rw [if_neg c5]
        have e : fitR a1 a3 = 0 := by
          unfold fitR
          rw [if_neg (fun he => hl (ok_of w3 h0 c1 c2 c3 c4 c5 (by decide) (by decide) he)), if_neg (fun he => hl (ok_of w3 h0 c1 c2 c3 c4 c5 (by decide) (by decide) he)),
            if_neg (fun he => hl (ok_of w3 h0 c1 c2 c3 c4 c5 (by decide) (by decide) he)), if_neg (fun he => hl (ok_of w3 h0 c1 c2 c3 c4 c5 (by decide) (by decide) he))]
        rw [e]
    · rw [if_neg h0]

theorem manyS_pos {a0 a1 a2 a3 : Int} (hl : levelOk a0 a1 a2 a3) : ¬ manyS a0 a1 a2 a3 < 1 := by
  unfold manyS
  rw [if_pos hl]
  unfold levelOk at hl
  obtain ⟨q, e, q1, q4, ed⟩ := quot_of hl.2.2.2.2.1 hl.2.2.2.2.2.2.1 hl.2.2.2.2.2.2.2.1 hl.2.2.2.2.2.2.2.2
  omega
theorem manyS_zero {a0 a1 a2 a3 : Int} (hl : ¬ levelOk a0 a1 a2 a3) : manyS a0 a1 a2 a3 < 1 := by
  unfold manyS
  rw [if_neg hl]
  decide
theorem refMay_eq {a0 a1 a2 a3 id leaf : Int} (d : List Int) (hh : isHigh a2 = true) : ref09_May.f 20 a0 a1 a2 a3 id leaf d = some (decide (mayS a0 a1 a2 id leaf d.length)) := by
  unfold ref09_May.f
  by_cases c1 : id ≥ 0
  · rw [if_pos c1]
    by_cases c2 : id < a0
    · rw [if_pos c2]
      by_cases c3 : leaf ≥ 0
      · rw [if_pos c3, many_eq hh, Option.bind_some]
        by_cases c4 : leaf < two a2
        · rw [if_pos c4]
          by_cases c5 : (d.length : Int) = a1
          · rw [decide_eq_true (show mayS a0 a1 a2 id leaf d.length from ⟨c1, c2, c3, c4, c5⟩)]; simp [c5]
          · rw [decide_eq_false (fun h : mayS a0 a1 a2 id leaf d.length => c5 h.2.2.2.2)]; simp [c5]
        · rw [if_neg c4, decide_eq_false (fun h : mayS a0 a1 a2 id leaf d.length => c4 h.2.2.2.1)]
      · rw [if_neg c3, decide_eq_false (fun h : mayS a0 a1 a2 id leaf d.length => c3 h.2.2.1)]
    · rw [if_neg c2, decide_eq_false (fun h : mayS a0 a1 a2 id leaf d.length => c2 h.2.1)]
  · rw [if_neg c1, decide_eq_false (fun h : mayS a0 a1 a2 id leaf d.length => c1 h.1)]
theorem same_eq {l m : List Int} (hl : Bytes l) (hm : Bytes m) : ref01_Same.f l m = some (l == m) := by
  unfold ref01_Same.f
  rw [strOfNums_toList, strOfNums_toList]
  congr 1
  induction l generalizing m with
  | nil => cases m with
    | nil => rfl
    | cons b m => rfl
  | cons a l ih => cases m with
    | nil => rfl
    | cons b m =>
      have ha := hl a (List.mem_cons_self ..)
      have hb := hm b (List.mem_cons_self ..)
      have ih' := ih (m := m) (fun x hx => hl x (List.mem_cons_of_mem _ hx)) (fun x hx => hm x (List.mem_cons_of_mem _ hx))
      have he : (UInt8.ofNat a.toNat == UInt8.ofNat b.toNat) = (a == b) := by
        by_cases hab : a = b
        · subst hab; simp
        · have : ¬ UInt8.ofNat a.toNat = UInt8.ofNat b.toNat := by
            intro h
            have h2 := congrArg UInt8.toNat h
            simp only [UInt8.toNat_ofNat'] at h2
            omega
          rw [beq_eq_false_iff_ne.2 this, beq_eq_false_iff_ne.2 hab]
      show ((UInt8.ofNat a.toNat :: bytesOf l) == (UInt8.ofNat b.toNat :: bytesOf m)) = _
      rw [List.cons_beq_cons, List.cons_beq_cons, he, ih']

theorem number_l0 (p : List Int) (hp : Bytes p) (h8 : p.length = 4) : ∀ (j k : Nat), j ≤ p.length → j < k → ref01_Number.l0 k p (val (p.drop j)) ((j : Int) - 1) = some (val p) := by
  intro j
  induction j with
  | zero =>
    intro k hj hk
    obtain ⟨k, rfl⟩ : ∃ m, k = m + 1 := ⟨k - 1, by omega⟩
    simp only [ref01_Number.l0]
    rw [if_neg (by omega), List.drop_zero]
  | succ j ih =>
    intro k hj hk
    obtain ⟨k, rfl⟩ : ∃ m, k = m + 1 := ⟨k - 1, by omega⟩
    have hr := rd_nat p j (by omega)
    have hb := hp p[j] (List.getElem_mem (by omega))
    have hv : 0 ≤ val (p.drop j) ∧ val (p.drop j) < 4294967296 := by
      obtain ⟨a, b, c, d, rfl, ha, hb, hc, hd⟩ := four h8 hp
      simp at hj
      have h4 : j = 0 ∨ j = 1 ∨ j = 2 ∨ j = 3 := by omega
      rcases h4 with rfl | rfl | rfl | rfl <;> simp [val] <;> omega
    have hv1 : 0 ≤ val (p.drop (j + 1)) ∧ val (p.drop (j + 1)) < 4294967296 := by
      obtain ⟨a, b, c, d, rfl, ha, hb, hc, hd⟩ := four h8 hp
      simp at hj
      have h4 : j = 0 ∨ j = 1 ∨ j = 2 ∨ j = 3 := by omega
      rcases h4 with rfl | rfl | rfl | rfl <;> simp [val] <;> omega
    have hs : val (p.drop j) = p[j] + 256 * val (p.drop (j + 1)) := by rw [List.drop_eq_getElem_cons (by omega : j < p.length), val]
    have e0 : ((j + 1 : Nat) : Int) - 1 = (j : Int) := by omega
    have e1 : wrap64 ((j : Int) - 1) = (j : Int) - 1 := by unfold wrap64; omega
    have e2 : IntKind.u64.wrap (IntKind.u64.wrap (256 * val (p.drop (j + 1))) + IntKind.u64.wrap (rd p j)) = val (p.drop j) := by
      rw [hr, u64_wrap', u64_wrap', u64_wrap', hs]
      rw [hs] at hv
      omega
    simp only [ref01_Number.l0]
    rw [e0, if_pos (by omega), if_pos (by omega), if_pos (by omega), e1, e2]
    exact ih k (by omega) (by omega)
theorem number_eq (p : List Int) (hp : Bytes p) (h8 : p.length = 4) : ref01_Number.f 20 p = some (val p) := by
  unfold ref01_Number.f
  have := number_l0 p hp h8 p.length 20 (Nat.le_refl _) (by omega)
  rw [List.drop_length] at this
  rw [show wrap64 ((p.length : Int) - 1) = (p.length : Int) - 1 by unfold wrap64; omega]
  exact this

theorem refRead_eq (a0 a1 a2 a3 : Int) (s : List Int) (w3 : (Lit.int .i64 a3).wf = true) (w1 : (Lit.int .i64 a1).wf = true) (hb : Bytes s) (hlen : s.length ≤ 1000) : ref09_Read.f 20 a0 a1 a2 a3 s = some (readS a0 a1 a2 a3 s) := by
  unfold ref09_Read.f readS
  rw [manyS_eq _ _ _ _ w3, Option.bind_some]
  by_cases hl : levelOk a0 a1 a2 a3
  · rw [if_neg (manyS_pos hl), if_pos hl]
    have hl' := hl
    unfold levelOk at hl'
    obtain ⟨h0, h1, h2, h3, h4, h5, h6, h7, h8⟩ := hl'
    clear h6 h7 h8
    have ew : wrap64 (8 + a1) = 8 + a1 := by unfold wrap64; omega
    rw [ew]
    by_cases hn : (s.length : Int) = 8 + a1
    · have l1 : (s.take 4).length = 4 := by rw [List.length_take]; omega
      have l2 : ((s.drop 4).take 4).length = 4 := by rw [List.length_take, List.length_drop]; omega
      have v1 := val_four l1 (hb.take 4)
      have v2 := val_four l2 ((hb.drop 4).take 4)
      have hz0 : Bytes (List.replicate (8 + a1).toNat 0) := fun x hx => by rw [List.eq_of_mem_replicate hx]; decide
      have e8 : ((s.take 8).drop 4) = (s.drop 4).take 4 := by rw [List.drop_take]
      have w1 : wrap64 (val (s.take 4)) = val (s.take 4) := by unfold wrap64; omega
      have w2 : wrap64 (val ((s.drop 4).take 4)) = val ((s.drop 4).take 4) := by unfold wrap64; omega
      have w3 : wrap64 (val (s.take 4) - 1) = val (s.take 4) - 1 := by unfold wrap64; omega
      have hd : (s.drop 8).length < 140737488355328 := by rw [List.length_drop]; omega
      have n1 := number_eq (s.take 4) (hb.take 4) l1
      have n2 := number_eq ((s.drop 4).take 4) ((hb.drop 4).take 4) l2
      have c4 : 4 ≤ (s.length : Int) := by omega
      have c8 : 8 ≤ (s.length : Int) := by omega
      have cz : 0 ≤ 8 + a1 := by omega
      have cm : (8 + a1).toNat ≤ 281474976710656 := by omega
      have hs := same_eq hb hz0
      have hm := refMay_eq (a0 := a0) (a1 := a1) (a2 := a2) (a3 := a3) (id := val (s.take 4) - 1) (leaf := val ((s.drop 4).take 4)) (s.drop 8) h0
      simp only [if_pos hn, if_pos cz, if_pos cm, hs, Option.bind_some, e8, n1, n2, if_pos c4, if_pos c8, w1, w2, w3, List.nil_append, List.length_nil, Nat.zero_add, if_pos hd, hm]
      clear w1 w2 w3 hm n1 n2 hs ew
      by_cases hz : s = List.replicate (8 + a1).toNat 0
      · rw [if_pos (by rw [beq_iff_eq]; exact hz), if_pos hz]
      · rw [if_neg (by rw [beq_iff_eq]; exact hz), if_neg hz, if_pos (by decide)]
        by_cases hm : mayS a0 a1 a2 (val (s.take 4) - 1) (val ((s.drop 4).take 4)) (s.drop 8).length
        · rw [if_pos (by rw [decide_eq_true_eq]; exact hm), if_pos hm]
        · rw [if_neg (by rw [decide_eq_true_eq]; exact hm), if_neg hm]
    · rw [if_neg hn, if_neg hn]
  · rw [if_pos (manyS_zero hl), if_neg hl]

theorem same9 (a b : Int) (d : List Int) : ref09_Same.f a b d a b d = some true := by
  unfold ref09_Same.f
  rw [if_pos rfl, if_pos rfl, same_self]
  rfl

theorem SlotReads : law09_SlotReads.Pure2 := by
  intro a0 a1 a2 a3 s w0 w1 w2 w3 hs bs
  have hb := bytes_of_wf bs
  refine ⟨20, ?_⟩
  unfold law09_SlotReads.f
  by_cases hz : 1000 < s.length
  · rw [if_pos hz]
  · rw [if_neg hz, readS_eq _ _ _ _ _ hb]
    simp only
    rw [if_pos ⟨refRead_eq a0 a1 a2 a3 s w3 w1 hb (by omega), same9 _ _ _, same_self s⟩]
end Go.Proofs.Ytnnknbbgkjgbcaa.Pure
