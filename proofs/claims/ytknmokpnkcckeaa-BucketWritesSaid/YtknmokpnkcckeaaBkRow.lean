/-
Two small numbers put, every pair of them.
-/
import Derived.Test.YtknmokpnkcckeaaBkWrt
import Derived.Test.YtknmokpnkcckeaaHandSlot
import Derived.Test.YtknmokpnkcckeaaBkLaw
import Derived.Test.YtknmokpnkcckeaaBkSame
import Derived.Lib.Bytes
import Derived.SizedLaws
import Derived.Test.YtknmokpnkcckeaaRowWords
namespace Go.Proofs.Ytknmokpnkcckeaa
open Go.RowKit Go.Proofs.YtknmokpnkcckeaaW.PrintWords Go.Proofs.YtknmokpnkcckeaaW.PrintLast Go.Proofs.YtknmokpnkcckeaaW.PrintMore Go.Proofs.Ytknmokpnkcckeaa.PAll
theorem put44 : ∀ p : Fin 65, ∀ q : Fin 64, num_Put.f 60 [(p.val : Int), (q.val : Int)] [4, 4] = some ([(p.val : Int), 0, 0, 0, (q.val : Int), 0, 0, 0], 0) := by decide +kernel
theorem put44r : ∀ p : Fin 65, ∀ q : Fin 64, ref01_Put.f 60 [(p.val : Int), (q.val : Int)] [4, 4] = some ([(p.val : Int), 0, 0, 0, (q.val : Int), 0, 0, 0], 0) := by decide +kernel
end Go.Proofs.Ytknmokpnkcckeaa

namespace Go.Proofs.Ytknmokpnkcckeaa
open Go.RowKit Go.Proofs.YtknmokpnkcckeaaW.PrintWords Go.Proofs.YtknmokpnkcckeaaW.PrintLast Go.Proofs.YtknmokpnkcckeaaW.PrintMore Go.Proofs.Ytknmokpnkcckeaa.PAll
set_option linter.unusedVariables false
set_option linter.unusedSimpArgs false

theorem rd62 (xs : List S62) (i : Nat) (h : i < xs.length) : rd_T62 xs (i : Int) = xs[i] := by
  simp [rd_T62, List.getD_eq_getElem?_getD, List.getElem?_eq_getElem h]
theorem wrap_next (i : Nat) (h : i ≤ 140737488355328) : wrap64 ((i : Int) + 1) = ((i + 1 : Nat) : Int) := by unfold wrap64; omega
theorem rd_nat (l : List Int) (i : Nat) (h : i < l.length) : rd l (i : Int) = l[i] := by
  simp [rd, List.getD_eq_getElem?_getD, List.getElem?_eq_getElem h]
def Bytes (l : List Int) : Prop := ∀ x ∈ l, 0 ≤ x ∧ x < 256
/-! ### too great -/
theorem great_l0 (xs : List S62) : ∀ (d k i : Nat) (n : Int), 200 - i = d → i ≤ 200 → 2 * d + 2 ≤ k → ∃ b, ref09_Great.l0 k xs 10 n i = some b ∧ (b = false → xs.length ≤ 10) := by
  have hend : ∀ (k : Nat) (n i : Int), ∃ b, ref09_Great.j1 (k + 1) xs 10 n i false = some b ∧ (b = false → xs.length ≤ 10) := fun k n i => by
    rw [ref09_Great.j1, if_neg (by decide)]
    by_cases h : (xs.length : Int) > 10
    · rw [if_pos h]
      exact ⟨true, rfl, fun h => by cases h⟩
    · rw [if_neg h]
      exact ⟨_, rfl, fun _ => by omega⟩
  intro d
  induction d with
  | zero =>
    intro k i n hd hi hk
    obtain ⟨k, rfl⟩ : ∃ m, k = m + 1 + 1 := ⟨k - 2, by omega⟩
    rw [ref09_Great.l0]
    split
    · rw [decide_eq_false (by omega)]
      exact hend k n i
    · exact hend k n i
  | succ d ih =>
    intro k i n hd hi hk
    obtain ⟨k, rfl⟩ : ∃ m, k = m + 1 + 1 := ⟨k - 2, by omega⟩
    rw [ref09_Great.l0]
    split
    · next hlt =>
      rw [decide_eq_true (by omega), ref09_Great.j1, if_pos rfl, if_pos (by omega), if_pos hlt, wrap_next i (by omega)]
      exact ih k (i + 1) _ (by omega) (by omega) (by omega)
    · exact hend k n i
theorem great_eq (xs : List S62) {k : Nat} (hk : 402 ≤ k) : ∃ b, ref09_Great.f k xs 10 = some b ∧ (b = false → xs.length ≤ 10) := great_l0 xs 200 k 0 0 rfl (by omega) (by omega)
/-! ### twins -/
theorem twin_l0 (xs : List S62) (hx : xs.length ≤ 1000000) (hb : ∀ x ∈ xs, x.f2.length < 140737488355328) : ∀ (d k i : Nat), xs.length - i = d → i ≤ xs.length → d < k → ref09_TwinAll.l0 k xs (xs.take i) i = some xs := by
  intro d
  induction d with
  | zero =>
    intro k i hd hi hk
    obtain ⟨k, rfl⟩ : ∃ m, k = m + 1 := ⟨k - 1, by omega⟩
    rw [ref09_TwinAll.l0, if_neg (by omega), List.take_of_length_le (by omega)]
  | succ d ih =>
    intro k i hd hle hk
    obtain ⟨k, rfl⟩ : ∃ m, k = m + 1 := ⟨k - 1, by omega⟩
    have hi : i < xs.length := by omega
    have hbi := hb xs[i] (List.getElem_mem hi)
    have hs : ref09_Twin.f (xs[i]).f0 (xs[i]).f1 (xs[i]).f2 = some ((xs[i]).f0, (xs[i]).f1, (xs[i]).f2) := by
      unfold ref09_Twin.f
      simp only [Option.bind_some, List.length_nil, Nat.zero_add, List.nil_append]
      rw [if_pos hbi]
    have hl : (xs.take i).length < 3518437208883 := by
      rw [List.length_take]
      omega
    rw [ref09_TwinAll.l0, if_pos (by omega), if_pos (by omega), rd62 xs i hi, hs, Option.bind_some, if_pos hl, wrap_next i (by omega)]
    have := ih k (i + 1) (by omega) (by omega) (by omega)
    rw [List.take_succ_eq_append_getElem hi] at this
    exact this
theorem twin_all (xs : List S62) (hx : xs.length ≤ 40) (hb : ∀ x ∈ xs, x.f2.length < 140737488355328) {k : Nat} (hk : 200 ≤ k) : ref09_TwinAll.f k xs = some xs := by
  unfold ref09_TwinAll.f
  have := twin_l0 xs (by omega) hb _ k 0 rfl (by omega) (by omega)
  rw [List.take_zero] at this
  exact this
/-! ### the same -/
theorem same_bytes {l m : List Int} (hl : Bytes l) (hm : Bytes m) : ref01_Same.f l m = some (decide (l = m)) := by
  unfold ref01_Same.f
  rw [Lib.strOfNums_toList, Lib.strOfNums_toList]
  congr 1
  induction l generalizing m with
  | nil => cases m with
    | nil => rfl
    | cons b m => rfl
  | cons a l ih => cases m with
    | nil => rfl
    | cons b m =>
      have ha := hl a (List.mem_cons_self ..)
      have hb := hm b (List.mem_cons_self ..)
      have ih' := ih (m := m) (fun x hx => hl x (List.mem_cons_of_mem _ hx)) (fun x hx => hm x (List.mem_cons_of_mem _ hx))
      have he : (UInt8.ofNat a.toNat == UInt8.ofNat b.toNat) = decide (a = b) := by
        by_cases hab : a = b
        · subst hab; simp
        · have : ¬ UInt8.ofNat a.toNat = UInt8.ofNat b.toNat := by
            intro h
            have h2 := congrArg UInt8.toNat h
            simp only [UInt8.toNat_ofNat'] at h2
            omega
          simp [hab, this]
      show (UInt8.ofNat a.toNat :: Lib.bytesOf l == UInt8.ofNat b.toNat :: Lib.bytesOf m) = _
      rw [List.cons_beq_cons, he, ih']
      simp only [List.cons.injEq, Bool.decide_and]
theorem refSame_eq {x y : S62} (hx : Bytes x.f2) (hy : Bytes y.f2) : ref09_Same.f x.f0 x.f1 x.f2 y.f0 y.f1 y.f2 = some (sameX x y) := by
  unfold ref09_Same.f sameX
  by_cases h0 : x.f0 = y.f0
  · by_cases h1 : x.f1 = y.f1
    · rw [if_pos h0, if_pos h1, same_bytes hx hy]
      simp [h0, h1]
    · rw [if_pos h0, if_neg h1]
      simp [h1]
  · rw [if_neg h0]
    simp [h0]
theorem sameAll_l0 (xs ys : List S62) (hl : xs.length = ys.length) (hx : xs.length ≤ 1000000) (hbx : ∀ x ∈ xs, Bytes x.f2) (hby : ∀ y ∈ ys, Bytes y.f2) : ∀ (d k i : Nat), xs.length - i = d → d < k → ref09_SameAll.l0 k xs ys i = some (sameL (xs.drop i) (ys.drop i)) := by
  intro d
  induction d with
  | zero =>
    intro k i hd hk
    obtain ⟨k, rfl⟩ : ∃ m, k = m + 1 := ⟨k - 1, by omega⟩
    rw [ref09_SameAll.l0, if_neg (by omega), List.drop_eq_nil_of_le (by omega), List.drop_eq_nil_of_le (by omega)]
    rfl
  | succ d ih =>
    intro k i hd hk
    obtain ⟨k, rfl⟩ : ∃ m, k = m + 1 := ⟨k - 1, by omega⟩
    have hi : i < xs.length := by omega
    have hj : i < ys.length := by omega
    have hs := refSame_eq (hbx xs[i] (List.getElem_mem hi)) (hby ys[i] (List.getElem_mem hj))
    rw [ref09_SameAll.l0, if_pos (by omega), if_pos (by omega), if_pos (by omega), rd62 xs i hi, rd62 ys i hj, hs, Option.bind_some, wrap_next i (by omega), ih k (i + 1) (by omega) (by omega), List.drop_eq_getElem_cons hi, List.drop_eq_getElem_cons hj]
    cases hh : sameX xs[i] ys[i] <;> simp [sameL, hh]
theorem sameAll_eq (xs ys : List S62) (hx : xs.length ≤ 1000000) (hbx : ∀ x ∈ xs, Bytes x.f2) (hby : ∀ y ∈ ys, Bytes y.f2) {k : Nat} (hk : xs.length < k) : ref09_SameAll.f k xs ys = some (sameL xs ys) := by
  unfold ref09_SameAll.f
  by_cases hl : xs.length = ys.length
  · rw [if_pos (by omega)]
    exact sameAll_l0 xs ys hl hx hbx hby _ k 0 rfl (by omega)
  · rw [if_neg (by omega), sameL_length hl]
theorem equal_l0 (xs ys : List Int) (hl : xs.length = ys.length) (hx : xs.length < 140737488355328) : ∀ (d k i : Nat), xs.length - i = d → d < k → slices_Equal_byte_byte.l0 k xs ys (xs.length : Int) i = some (decide (xs.drop i = ys.drop i)) := by
  intro d
  induction d with
  | zero =>
    intro k i hd hk
    obtain ⟨k, rfl⟩ : ∃ m, k = m + 1 := ⟨k - 1, by omega⟩
    rw [slices_Equal_byte_byte.l0, if_neg (by omega), List.drop_eq_nil_of_le (by omega), List.drop_eq_nil_of_le (by omega)]
    rfl
  | succ d ih =>
    intro k i hd hk
    obtain ⟨k, rfl⟩ : ∃ m, k = m + 1 := ⟨k - 1, by omega⟩
    have hi : i < xs.length := by omega
    have hj : i < ys.length := by omega
    rw [slices_Equal_byte_byte.l0, if_pos (by omega), if_pos (by omega), if_pos (by omega), if_pos (by omega), rd_nat xs i hi, rd_nat ys i hj, wrap_next i (by omega), ih k (i + 1) (by omega) (by omega), List.drop_eq_getElem_cons hi, List.drop_eq_getElem_cons hj]
    by_cases h : xs[i] = ys[i]
    · rw [if_pos h, h]
      simp only [List.cons.injEq, true_and]
    · rw [if_neg h]
      simp only [List.cons.injEq, h, false_and, decide_false]
theorem slotSame_eq (x y : S62) (hx : x.f2.length < 140737488355328) {k : Nat} (hk : x.f2.length < k) : slot_Same.f k x.f0 x.f1 x.f2 y.f0 y.f1 y.f2 = some (sameX x y) := by
  unfold slot_Same.f sameX
  by_cases h0 : x.f0 = y.f0
  · by_cases h1 : x.f1 = y.f1
    · rw [if_pos h0, if_pos h1]
      unfold slices_Equal_byte_byte.f
      by_cases hl : x.f2.length = y.f2.length
      · have := equal_l0 x.f2 y.f2 hl hx _ k 0 rfl (by omega)
        rw [if_pos (by omega), show (0 : Int) = ((0 : Nat) : Int) from rfl, this]
        simp [h0, h1]
      · rw [if_neg (by omega)]
        have : ¬ x.f2 = y.f2 := fun h => hl (by rw [h])
        simp [this]
    · rw [if_pos h0, if_neg h1]
      simp [h1]
  · rw [if_neg h0]
    simp [h0]
/-! ### texts -/
def ofS (id leaf : Int) (d : List Int) : List Int := [id + 1, 0, 0, 0, leaf, 0, 0, 0] ++ d
theorem u64_wrap' (z : Int) : IntKind.u64.wrap z = z % 18446744073709551616 := rfl
theorem write_eq {a0 a1 a2 a3 id leaf : Int} {d : List Int} (hl : levelOk a0 a1 a2 a3) (hm : mayS a0 a1 a2 id leaf d.length) : slot_Write.f a0 a1 a2 a3 id leaf d = some (ofS id leaf d, 0) := by
  unfold slot_Write.f
  rw [checkS_eq, Option.bind_some]
  have hh := high_bounds hl.1
  have hl' := hl
  have hm' := hm
  unfold levelOk at hl'
  unfold mayS at hm'
  rw [checkS_zero.2 ⟨hl, hm⟩, if_pos rfl]
  have e1 : IntKind.u64.wrap (IntKind.u64.wrap id + 1) = id + 1 := by rw [u64_wrap', u64_wrap']; omega
  have e2 : IntKind.u64.wrap leaf = leaf := by rw [u64_wrap']; omega
  obtain ⟨n, rfl⟩ := Int.eq_ofNat_of_zero_le hm'.1
  obtain ⟨m, rfl⟩ := Int.eq_ofNat_of_zero_le hm'.2.2.1
  have hp := put44 ⟨n + 1, by omega⟩ ⟨m, by omega⟩
  simp only at hp
  rw [e1, e2, show (n : Int) + 1 = ((n + 1 : Nat) : Int) from rfl, hp, Option.bind_some, if_pos (by simp; omega)]
  rfl
theorem refOf_eq {a0 a1 a2 a3 id leaf : Int} {d : List Int} (hl : levelOk a0 a1 a2 a3) (hm : mayS a0 a1 a2 id leaf d.length) : ref09_Of.f 60 id leaf d = some (ofS id leaf d) := by
  unfold ref09_Of.f
  have hh := high_bounds hl.1
  have hl' := hl
  have hm' := hm
  unfold levelOk at hl'
  unfold mayS at hm'
  have e1 : IntKind.u64.wrap (wrap64 (id + 1)) = id + 1 := by rw [u64_wrap']; unfold wrap64; omega
  have e2 : IntKind.u64.wrap leaf = leaf := by rw [u64_wrap']; omega
  obtain ⟨n, rfl⟩ := Int.eq_ofNat_of_zero_le hm'.1
  obtain ⟨m, rfl⟩ := Int.eq_ofNat_of_zero_le hm'.2.2.1
  have hp := put44r ⟨n + 1, by omega⟩ ⟨m, by omega⟩
  simp only at hp
  rw [e1, e2, show (n : Int) + 1 = ((n + 1 : Nat) : Int) from rfl, hp, Option.bind_some, if_pos (by simp; omega)]
  rfl
theorem none_eq {a0 a1 a2 a3 : Int} {k : Nat} (hk : 20 ≤ k) (hl : levelOk a0 a1 a2 a3) : slot_None.f k a0 a1 a2 a3 = some (List.replicate (8 + a1).toNat 0, 0) := by
  unfold slot_None.f
  rw [slots_eq a0 a1 a2 a3 hk, Option.bind_some]
  unfold slotsS
  have hl' := hl
  unfold levelOk at hl'
  have e1 : wrap64 (8 + a1) = 8 + a1 := by unfold wrap64; omega
  rw [if_pos hl]
  simp only [if_true]
  rw [e1, if_pos (by omega), if_pos (by omega)]
theorem okB_mem {a0 a1 a2 : Int} : ∀ (xs : List S62) (seen : List Int), okB a0 a1 a2 seen xs = true → ∀ x ∈ xs, mayS a0 a1 a2 x.f0 x.f1 x.f2.length
  | [], _, _, x, hx => by cases hx
  | y :: t, seen, h, x, hx => by
    simp only [okB, Bool.and_eq_true, decide_eq_true_eq] at h
    rcases List.mem_cons.1 hx with rfl | hx
    · exact h.1.2
    · exact okB_mem t _ h.2 x hx
/-! ### the law -/
theorem bucketWrites_all (l0 l1 l2 l3 : Int) (A A' : Option Addr) (c c' : Nat) (xs ys : List S62) (L R L' R' : List Int) (w : World) (hL : L.length = 32) (hR : R.length = 32) (hL' : L'.length = 32) (hR' : R'.length = 32) (wf3 : (Lit.int .i64 l3).wf = true)
    (hx : Kd.C k62 w A xs.length xs) (hc : xs.length ≤ c) (hy : Kd.C k62 w A' ys.length ys) (hc' : ys.length ≤ c') (hwf : ∀ x ∈ xs, (Lit.int .i64 x.f0).wf = true) (hdx : ∀ x ∈ xs, x.f2.length < 140737488355328) (hbx : ∀ x ∈ xs, Bytes x.f2) (hby : ∀ y ∈ ys, Bytes y.f2) :
    Calls Try.prog 4 #[.agg #[.int .i64 l0, .int .i64 l1, .int .i64 l2, .int .i64 l3], .agg ⟨bkC A xs.length c L R⟩, .agg ⟨bkC A' ys.length c' L' R'⟩] w fun e w' => e = .returned (.bool true) ∧ Below w.heap.size w w' := by
  obtain ⟨k, hk1, hk2⟩ : ∃ k : Nat, 500 ≤ k ∧ 140737488355328 ≤ k := ⟨140737488355328, by omega, Nat.le_refl _⟩
  obtain ⟨ga, hga, hgx⟩ := great_eq xs (k := k) (by omega)
  obtain ⟨go, hgo, hgy⟩ := great_eq ys (k := k) (by omega)
  cases ga with
  | true => exact bkLaw_early1 k l0 l1 l2 l3 A A' c c' xs ys L R L' R' w hL hR hL' hR' hx hc hy hc' hga
  | false =>
    cases go with
    | true => exact bkLaw_early2 k l0 l1 l2 l3 A A' c c' xs ys L R L' R' w hL hR hL' hR' hx hc hy hc' hga hgo
    | false =>
      have hn := hgx rfl
      have hn' := hgy rfl
      have hmany : ∃ many : Nat, manyS l0 l1 l2 l3 = (many : Int) := by
        unfold manyS
        split
        · next hl =>
          obtain ⟨q, e, q1, q4, ed⟩ := quot_of hl.2.2.2.2.1 hl.2.2.2.2.2.2.1 hl.2.2.2.2.2.2.2.1 hl.2.2.2.2.2.2.2.2
          exact ⟨q.toNat, by omega⟩
        · exact ⟨0, rfl⟩
      obtain ⟨many, hmn⟩ := hmany
      have hE : bckS l0 l1 l2 l3 xs = 0 → levelOk l0 l1 l2 l3 ∧ (xs.length : Int) ≤ many ∧ ∀ x ∈ xs, mayS l0 l1 l2 x.f0 x.f1 x.f2.length := fun h => by
        unfold bckS at h
        split at h
        · next hh =>
          refine ⟨hh.1, ?_, okB_mem xs [] hh.2.2⟩
          have := hh.2.1
          unfold manyS at hmn
          rw [if_pos hh.1] at hmn
          omega
        · cases h
      refine bkLaw_walk k 60 20 many _ _ _ l0 l1 l2 l3 A A' c c' xs ys L R L' R' (fun x => ofS x.f0 x.f1 x.f2) w hL hR hL' hR' wf3 hx hc hy hc' (by omega) (by omega) hwf hdx hga hgo (twin_all xs (by omega) hdx (by omega)) ?_ (sameAll_eq xs ys (by omega) hbx hby (by omega)) (fun x hx y _ => slotSame_eq x y (hdx x hx) (by have := hdx x hx; omega)) (fun x hx y _ => slotSame_eq x y (hdx x hx) (by have := hdx x hx; omega)) rfl hmn rfl rfl ?_ ?_ ?_
      · rw [sameAll_eq xs xs (by omega) hbx hbx (by omega), sameL_self]
      · intro h x hx
        obtain ⟨h1, _, h3⟩ := hE h
        exact refOf_eq h1 (h3 x hx)
      · intro h x hx
        obtain ⟨h1, _, h3⟩ := hE h
        have := (h3 x hx).2.2.2.2
        have := h1.2.2.2.2.2.1
        simp [ofS]
        omega
      · intro h
        obtain ⟨h1, h2, h3⟩ := hE h
        have h1' := h1
        unfold levelOk at h1'
        obtain ⟨q, e, q1, q4, ed⟩ := quot_of h1'.2.2.2.2.1 h1'.2.2.2.2.2.2.1 h1'.2.2.2.2.2.2.2.1 h1'.2.2.2.2.2.2.2.2
        have hq : q = (many : Int) := by
          unfold manyS at hmn
          rw [if_pos h1] at hmn
          omega
        refine ⟨by omega, by omega, by omega, by omega, ?_, fun x hx => write_eq h1 (h3 x hx), fun x hx => ?_, none_eq (Nat.le_refl _) h1⟩
        · have hb3 := wf3
          rw [Lit.wf, Bool.and_eq_true, decide_eq_true_eq, decide_eq_true_eq] at hb3
          have hlo : -9223372036854775808 ≤ l3 := hb3.1
          have hhi : l3 ≤ 9223372036854775807 := hb3.2
          have hc : q = 1 ∨ q = 2 ∨ q = 3 ∨ q = 4 := by omega
          subst hq
          have hw : wrap64 (l3 - 64) = l3 - 64 := by
            have : wrap64 (l3 - 64) ≤ 160 := by
              rw [e]
              rcases hc with h | h | h | h <;> rw [h] <;> omega
            have h8 := h1'.2.2.2.2.2.2.1
            unfold wrap64 at this h8 ⊢
            omega
          rw [hw] at e
          rcases hc with h | h | h | h <;> rw [h] at e ⊢ <;> omega
        · have := (h3 x hx).2.2.2.2
          simp [ofS]
          omega
end Go.Proofs.Ytknmokpnkcckeaa

namespace Go.Proofs.Ytknmokpnkcckeaa
open Go.ChangeShapes Go.WideShapes Go.ChangeAt Go.RowKit Go.Joins Go.Proofs.YtknmokpnkcckeaaW.PrintWords Go.Proofs.Ytknmokpnkcckeaa.PAll
set_option linter.unusedVariables false
section
variable {H : Type} {enc : TypeId × Value → H} {P : Program} {w : World} {base : Nat} {spare : Nat → Bool} {held : Bool} {t e : TypeId} {n : Nat} {k : IntKind}
theorem nums_list (ht : P.underlying t = some (.array n e)) (he : P.underlying e = some (.int k)) (hce : P.cellsOf e = 1) {cs : List Value} (hcl : cs.length = n) {fuel : Nat} {x : DataW H × List MemPlace} (hf : DataW.trod enc P w base spare held fuel t cs = some x) :
    ∃ z : List Int, z.length = n ∧ cs = z.map (Value.int k) ∧ ∀ x ∈ z, (Lit.int k x).wf = true := by
  obtain ⟨xs, m, _, _, hl, hn, hx⟩ := DataW.trod_array ht hf
  obtain ⟨z, hz, hzl, hzw⟩ := cells_of_all (k := k) cs (fun i hi => by
    have hi' : i < n := by omega
    have hxi := hx i hi'
    rw [hce, Nat.mul_one] at hxi
    rw [List.getElem?_eq_getElem (by omega : i < xs.length)] at hxi
    obtain ⟨a, ha, _, hw⟩ := DataW.trod_int he hxi
    refine ⟨a, ?_, hw⟩
    have h0 : ((cs.drop i).take 1)[0]? = some (.int k a) := by rw [ha]; rfl
    rw [List.getElem?_take_of_lt (by omega), List.getElem?_drop] at h0
    simpa using h0)
  exact ⟨z, by omega, hz, hzw⟩
end
section
variable {H : Type} {enc : TypeId × Value → H} {w : World} {base : Nat} {spare : Nat → Bool} {held : Bool} {v : Value} {d : DataW H} {p : List MemPlace}
theorem bytes_wf {l : List Int} (h : ∀ x ∈ l, (Lit.int .u8 x).wf = true) : Bytes l := by
  intro x hx
  have := h x hx
  rw [Lit.wf, Bool.and_eq_true, decide_eq_true_eq, decide_eq_true_eq] at this
  have h1 : 0 ≤ x := this.1
  have h2 : x ≤ 255 := this.2
  omega
theorem weightsAll_mem {P : Program} {e : TypeId} : ∀ {l : List (DataW H)} {d : DataW H}, d ∈ l → ∀ n ∈ d.weights P e, n ∈ DataW.weightsAll P e l
  | a :: l, d, hd, n, hn => by
    simp only [DataW.weightsAll, List.mem_append]
    rcases List.mem_cons.1 hd with rfl | hd
    · exact .inl hn
    · exact .inr (weightsAll_mem hd n hn)
theorem isRow_of {P : Program} {t e : TypeId} {k : IntKind} {fuel : Nat} {A : Option Addr} {n c : Nat} {x : DataW H × List MemPlace} (ht : P.underlying t = some (.slice e)) (he : P.underlying e = some (.int k)) (hc : P.cellsOf e = 1) (h : DataW.trod enc P w base (fun _ => true) held fuel t [.slice A n c] = some x) : (∃ zs, IsRow k w A n c zs) ∧ (∀ m ∈ x.1.weights P t, m ≤ reachBytes) → P.bytesOf e = 1 → (∃ zs, IsRow k w A n c zs) ∧ n ≤ reachBytes := by
  rintro ⟨hz, hw⟩ hb
  refine ⟨hz, ?_⟩
  rcases open_ints ht he hc h with ⟨hcs, _⟩ | ⟨y, l, c', zs, hcs, _, hl, hm, hz', rfl, hcell, hwz⟩
  · simp at hcs
    omega
  · simp at hcs
    obtain ⟨rfl, rfl, rfl⟩ := hcs
    have := hw ((((lits (H := H) k (zs.take n)).length + (lits (H := H) k (zs.drop n)).length)) * P.bytesOf e) (by simp [DataW.weights, ht])
    rw [hb] at this
    simp [lits] at this hz'
    omega
theorem row_of {P : Program} {t e : TypeId} {k : IntKind} {fuel : Nat} {A : Option Addr} {n c : Nat} {x : DataW H × List MemPlace} (ht : P.underlying t = some (.slice e)) (he : P.underlying e = some (.int k)) (hc : P.cellsOf e = 1) (h : DataW.trod enc P w base (fun _ => true) held fuel t [.slice A n c] = some x) : ∃ zs, IsRow k w A n c zs := by
  rcases open_ints ht he hc h with ⟨hcs, _⟩ | ⟨y, l, c', zs, hcs, _, hl, hm, hz', _, hcell, hwz⟩
  · simp at hcs
    obtain ⟨rfl, rfl, rfl⟩ := hcs
    exact ⟨[], .inl ⟨rfl, rfl, rfl, rfl⟩⟩
  · simp at hcs
    obtain ⟨rfl, rfl, rfl⟩ := hcs
    exact ⟨zs, .inr ⟨_, rfl, hl, hm, by simpa using hz', hcell, hwz⟩⟩
set_option maxHeartbeats 1000000 in
set_option maxRecDepth 100000 in
theorem open_blocks {fuel : Nat} {cs : List Value} {x : DataW H × List MemPlace} (h : DataW.trod enc Try.prog w base (fun _ => true) held fuel 24 cs = some x) (hsz : ∀ n ∈ x.1.weights Try.prog 24, n ≤ reachBytes) :
    ∃ (A : Option Addr) (c : Nat) (xs : List S62), cs = [.slice A xs.length c] ∧ xs.length ≤ c ∧ Kd.C k62 w A xs.length xs ∧ ∀ x ∈ xs, x.f2.length < 140737488355328 ∧ (Lit.int .i64 x.f0).wf = true ∧ ∀ z ∈ x.f2, (Lit.int .u8 z).wf = true := by
  classical
  rcases DataW.trod_slice Try.underlying24 h with ⟨rfl, rfl⟩ | ⟨a, len, cap, elems, rest, n, _, rfl, rfl, hb, hl, hm, hlen, hel, hsp, hns⟩
  · exact ⟨none, 0, [], rfl, Nat.le_refl _, ⟨rfl, by decide, fun h => absurd h (by decide)⟩, fun x hx => by cases hx⟩
  · rw [show Try.prog.cellsOf 62 = 3 from by kernel_rfl] at hel
    have key : ∀ i : Nat, ∃ y : BD, i < len → (∀ j u, (cell3 y)[j]? = some u → w.cell? (a.add (i * 3 + j)) = some u) ∧ GoodB w y ∧ y.1.f2.length < 140737488355328 ∧ (Lit.int .i64 y.1.f0).wf = true ∧ ∀ z ∈ y.1.f2, (Lit.int .u8 z).wf = true := by
      intro i
      by_cases hi : i < len
      · have h1 := hel i hi
        rw [List.getElem?_eq_getElem (by omega : i < elems.length), Option.bind_eq_some_iff] at h1
        obtain ⟨cs', hc1, hc2⟩ := h1
        obtain ⟨_, hcl, hcc⟩ := World.cells?_some hc1
        obtain ⟨parts, m, _, hpe, _, hpn, hf⟩ := DataW.trod_struct Try.underlying62 hc2
        have g0 := hf 0 _ rfl
        have g1 := hf 1 _ rfl
        have g2 := hf 2 _ rfl
        rw [List.getElem?_eq_getElem (by rw [hpn]; decide)] at g0 g1 g2
        rw [show Try.prog.cellsOf _ = 1 from by kernel_rfl] at g0 g1 g2
        match cs', hcl with
        | [v0, v1, v2], _ =>
          replace g0 : DataW.trod enc Try.prog w base (fun _ => true) held m 3 [v0] = some _ := g0
          replace g1 : DataW.trod enc Try.prog w base (fun _ => true) held m 3 [v1] = some _ := g1
          replace g2 : DataW.trod enc Try.prog w base (fun _ => true) held m 43 [v2] = some _ := g2
          obtain ⟨x0, e0, _, w0⟩ := DataW.trod_int Try.underlying3 g0
          obtain ⟨x1, e1, _, w1⟩ := DataW.trod_int Try.underlying3 g1
          obtain ⟨A2, n2, c2, e2⟩ := slice_form Try.underlying43 g2
          simp only [List.cons.injEq, and_true] at e0 e1 e2
          subst e0 e1 e2
          obtain ⟨zs, hrow⟩ := row_of Try.underlying43 Try.underlying5 (by kernel_rfl) g2
          have hwt : ∀ q ∈ (parts[2]'(by rw [hpn]; decide)).1.weights Try.prog 43, q ≤ reachBytes := fun q hq => by
            refine hsz q ?_
            have hd : (elems[i]'(by omega)).1 ∈ elems.map (·.1) := List.mem_map_of_mem (List.getElem_mem _)
            have hq2 : q ∈ (elems[i]'(by omega)).1.weights Try.prog 62 := by
              rw [hpe]
              simp only [DataW.weights, Try.underlying62]
              exact DataW.weights_mem_each (j := 2) (t := 43) rfl (by rw [List.getElem?_map, List.getElem?_eq_getElem (by rw [hpn]; decide)]; rfl) q hq
            have := weightsAll_mem hd q hq2
            simp only [DataW.weights, Try.underlying24, List.mem_cons, List.mem_append]
            exact .inr (.inl this)
          have hn2 := (isRow_of Try.underlying43 Try.underlying5 (by kernel_rfl) g2 ⟨⟨zs, hrow⟩, hwt⟩ (by kernel_rfl)).2
          obtain ⟨l, rfl, hr, hm2, hw2, hc2'⟩ := ReadsInt.ofRowC hrow
          have k0 := hcc 0 (by omega)
          have k1 := hcc 1 (by omega)
          have k2 := hcc 2 (by omega)
          have hrl := reachBytes_lt
          rw [Addr.add_add] at k0 k1 k2
          refine ⟨(⟨x0, x1, l⟩, A2, c2), fun _ => ⟨fun j u hu => ?_, ⟨hc2', Kd.C_of_reads (d := (0 : Int)) (h1 := fun _ => rfl) hr⟩, ?_⟩⟩
          · have hj : j < 3 := (List.getElem?_eq_some_iff.1 hu).1
            match j, hj with
            | 0, _ => exact k0.trans hu
            | 1, _ => exact k1.trans hu
            | 2, _ => exact k2.trans hu
          · exact ⟨by show l.length < _; omega, w0, hw2⟩
      · exact ⟨(z62, none, 0), fun h => absurd h hi⟩
    have hml : maxLen = 9223372036854775807 := by decide
    let f : Nat → BD := fun i => Classical.choose (key i)
    have hf : ∀ i, i < len → _ := fun i => Classical.choose_spec (key i)
    refine ⟨some a, cap, ((List.range len).map f).map (·.1), by simp, by simpa using hl, ?_, fun x hx => ?_⟩
    · rw [List.length_map]
      refine raw_to_C ⟨by simp, by simp; omega, fun h0 => ⟨a, rfl, fun j p hp => ?_⟩⟩ (fun d hd => ?_)
      · have hj : j < len := by
          have := (List.getElem?_eq_some_iff.1 hp).1
          simpa using this
        have hpe : p = cell3 (f j) := by
          rw [List.getElem?_map, List.getElem?_map, List.getElem?_range hj] at hp
          simpa using hp.symm
        subst hpe
        exact ⟨cell3 (f j), cell3_length _, ⟨rfl, cell3_length _, cell3_one _⟩, (hf j hj).1⟩
      · simp only [List.mem_map, List.mem_range] at hd
        obtain ⟨j, hj, rfl⟩ := hd
        exact (hf j hj).2.1
    · simp only [List.mem_map, List.mem_range] at hx
      obtain ⟨d, ⟨j, hj, rfl⟩, rfl⟩ := hx
      exact (hf j hj).2.2
set_option maxHeartbeats 1000000 in
set_option maxRecDepth 100000 in
theorem open_bucket {r : Reach} {b0 : Nat} (hv : Value.okWide Try.prog w r b0 40 v) (h : DataW.Trod enc Try.prog w base (fun _ => true) held 40 v d p) (hsz : ∀ n ∈ d.weights Try.prog 40, n ≤ reachBytes) :
    ∃ (A : Option Addr) (c : Nat) (xs : List S62) (L R : List Int), v = .agg ⟨bkC A xs.length c L R⟩ ∧ L.length = 32 ∧ R.length = 32 ∧ xs.length ≤ c ∧ Kd.C k62 w A xs.length xs ∧ ∀ x ∈ xs, x.f2.length < 140737488355328 ∧ (Lit.int .i64 x.f0).wf = true ∧ ∀ z ∈ x.f2, (Lit.int .u8 z).wf = true := by
  obtain ⟨cs, rfl, hcsz⟩ := okWide_struct Try.underlying40 hv
  rw [show Try.prog.cellsOf 40 = 65 from by kernel_rfl] at hcsz
  obtain ⟨fuel, hf⟩ := h
  obtain ⟨parts, m, _, hpe, _, hpn, hx⟩ := DataW.trod_struct Try.underlying40 hf
  have h0 := hx 0 _ rfl
  have h1 := hx 1 _ rfl
  have h2 := hx 2 _ rfl
  rw [List.getElem?_eq_getElem (by rw [hpn]; decide)] at h0 h1 h2
  have hcl : cs.toList.length = 65 := by simpa using hcsz
  obtain ⟨cs⟩ := cs
  simp only [Value.cells] at h0 h1 h2 hcl
  rw [show Try.prog.cellsOf _ = 1 from by kernel_rfl] at h0
  rw [show Try.prog.cellsOf _ = 32 from by kernel_rfl] at h1 h2
  replace h0 : DataW.trod enc Try.prog w base (fun _ => true) held m 24 ((cs.drop 0).take 1) = some _ := h0
  replace h1 : DataW.trod enc Try.prog w base (fun _ => true) held m 38 ((cs.drop 1).take 32) = some _ := h1
  replace h2 : DataW.trod enc Try.prog w base (fun _ => true) held m 38 ((cs.drop 33).take 32) = some _ := h2
  obtain ⟨L, hL, hLc, _⟩ := nums_list (k := .u8) (e := 5) (n := 32) Try.underlying38 Try.underlying5 (by kernel_rfl) (by simp; omega) h1
  obtain ⟨R, hR, hRc, _⟩ := nums_list (k := .u8) (e := 5) (n := 32) Try.underlying38 Try.underlying5 (by kernel_rfl) (by simp; omega) h2
  obtain ⟨A, c, xs, hcs, hc, hC, hall⟩ := open_blocks h0 (fun q hq => by
    refine hsz q ?_
    rw [show d = _ from congrArg Prod.fst hpe]
    simp only [DataW.weights, Try.underlying40]
    exact DataW.weights_mem_each (j := 0) (t := 24) rfl (by rw [List.getElem?_map, List.getElem?_eq_getElem (by rw [hpn]; decide)]; rfl) q hq)
  refine ⟨A, c, xs, L, R, ?_, hL, hR, hc, hC, hall⟩
  have e1 : cs = cs.take 1 ++ ((cs.drop 1).take 32 ++ (cs.drop 33).take 32) := by
    have e2 : (cs.drop 33).take 32 = cs.drop 33 := List.take_of_length_le (by simp; omega)
    have e3 : cs.drop 33 = (cs.drop 1).drop 32 := by rw [List.drop_drop]
    rw [e2, e3, List.take_append_drop, List.take_append_drop]
  rw [List.drop_zero] at hcs
  rw [e1, hcs, hLc, hRc]
  rfl
end
end Go.Proofs.Ytknmokpnkcckeaa
