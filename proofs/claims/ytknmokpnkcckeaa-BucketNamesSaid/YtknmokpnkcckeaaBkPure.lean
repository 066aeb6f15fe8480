/-
Two small numbers put, every pair of them.
-/
import Derived.Test.YtknmokpnkcckeaaBkWrt
import Derived.Test.YtknmokpnkcckeaaHandSlot
import Derived.Test.YtknmokpnkcckeaaBkLaw
import Derived.Test.YtknmokpnkcckeaaBkSame
import Derived.Lib.Bytes
namespace Go.Proofs.Ytknmokpnkcckeaa
open Go.RowKit Go.Proofs.YtknmokpnkcckeaaW.PrintWords Go.Proofs.YtknmokpnkcckeaaW.PrintLast Go.Proofs.YtknmokpnkcckeaaW.PrintMore Go.Proofs.Ytknmokpnkcckeaa.PAll
theorem put44 : ∀ p : Fin 65, ∀ q : Fin 64, num_Put.f 60 [(p.val : Int), (q.val : Int)] [4, 4] = some ([(p.val : Int), 0, 0, 0, (q.val : Int), 0, 0, 0], 0) := by decide +kernel
end Go.Proofs.Ytknmokpnkcckeaa

namespace Go.Proofs.Ytknmokpnkcckeaa
open Go.RowKit Go.Proofs.YtknmokpnkcckeaaW.PrintWords Go.Proofs.YtknmokpnkcckeaaW.PrintLast Go.Proofs.YtknmokpnkcckeaaW.PrintMore Go.Proofs.Ytknmokpnkcckeaa.PAll
set_option linter.unusedVariables false
set_option linter.unusedSimpArgs false

theorem rd62 (xs : List S62) (i : Nat) (h : i < xs.length) : rd_T62 xs (i : Int) = xs[i] := by
  simp [rd_T62, List.getD_eq_getElem?_getD, List.getElem?_eq_getElem h]
theorem wrap_next (i : Nat) (h : i ≤ 140737488355328) : wrap64 ((i : Int) + 1) = ((i + 1 : Nat) : Int) := by unfold wrap64; omega
theorem rd_nat (l : List Int) (i : Nat) (h : i < l.length) : rd l (i : Int) = l[i] := by
  simp [rd, List.getD_eq_getElem?_getD, List.getElem?_eq_getElem h]
def Bytes (l : List Int) : Prop := ∀ x ∈ l, 0 ≤ x ∧ x < 256
/-! ### too great -/
theorem great_l0 (xs : List S62) : ∀ (d k i : Nat) (n : Int), 200 - i = d → i ≤ 200 → 2 * d + 2 ≤ k → ∃ b, ref09_Great.l0 k xs 10 n i = some b ∧ (b = false → xs.length ≤ 10) := by
  have hend : ∀ (k : Nat) (n i : Int), ∃ b, ref09_Great.j1 (k + 1) xs 10 n i false = some b ∧ (b = false → xs.length ≤ 10) := fun k n i => by
    rw [ref09_Great.j1, if_neg (by decide)]
    by_cases h : (xs.length : Int) > 10
    · rw [if_pos h]
      exact ⟨true, rfl, fun h => by cases h⟩
    · rw [if_neg h]
      exact ⟨_, rfl, fun _ => by omega⟩
  intro d
  induction d with
  | zero =>
    intro k i n hd hi hk
    obtain ⟨k, rfl⟩ : ∃ m, k = m + 1 + 1 := ⟨k - 2, by omega⟩
    rw [ref09_Great.l0]
    split
    · rw [decide_eq_false (by omega)]
      exact hend k n i
    · exact hend k n i
  | succ d ih =>
    intro k i n hd hi hk
    obtain ⟨k, rfl⟩ : ∃ m, k = m + 1 + 1 := ⟨k - 2, by omega⟩
    rw [ref09_Great.l0]
    split
    · next hlt =>
      rw [decide_eq_true (by omega), ref09_Great.j1, if_pos rfl, if_pos (by omega), if_pos hlt, wrap_next i (by omega)]
      exact ih k (i + 1) _ (by omega) (by omega) (by omega)
    · exact hend k n i
theorem great_eq (xs : List S62) {k : Nat} (hk : 402 ≤ k) : ∃ b, ref09_Great.f k xs 10 = some b ∧ (b = false → xs.length ≤ 10) := great_l0 xs 200 k 0 0 rfl (by omega) (by omega)
/-! ### twins -/
/-! ### the same -/
theorem same_bytes {l m : List Int} (hl : Bytes l) (hm : Bytes m) : ref01_Same.f l m = some (decide (l = m)) := by
  unfold ref01_Same.f
  rw [Lib.strOfNums_toList, Lib.strOfNums_toList]
  congr 1
  induction l generalizing m with
  | nil => cases m with
    | nil => rfl
    | cons b m => rfl
  | cons a l ih => cases m with
    | nil => rfl
    | cons b m =>
      have ha := hl a (List.mem_cons_self ..)
      have hb := hm b (List.mem_cons_self ..)
      have ih' := ih (m := m) (fun x hx => hl x (List.mem_cons_of_mem _ hx)) (fun x hx => hm x (List.mem_cons_of_mem _ hx))
      have he : (UInt8.ofNat a.toNat == UInt8.ofNat b.toNat) = decide (a = b) := by
        by_cases hab : a = b
        · subst hab; simp
        · have : ¬ UInt8.ofNat a.toNat = UInt8.ofNat b.toNat := by
            intro h
            have h2 := congrArg UInt8.toNat h
            simp only [UInt8.toNat_ofNat'] at h2
            omega
          simp [hab, this]
      show (UInt8.ofNat a.toNat :: Lib.bytesOf l == UInt8.ofNat b.toNat :: Lib.bytesOf m) = _
      rw [List.cons_beq_cons, he, ih']
      simp only [List.cons.injEq, Bool.decide_and]
theorem refSame_eq {x y : S62} (hx : Bytes x.f2) (hy : Bytes y.f2) : ref09_Same.f x.f0 x.f1 x.f2 y.f0 y.f1 y.f2 = some (sameX x y) := by
  unfold ref09_Same.f sameX
  by_cases h0 : x.f0 = y.f0
  · by_cases h1 : x.f1 = y.f1
    · rw [if_pos h0, if_pos h1, same_bytes hx hy]
      simp [h0, h1]
    · rw [if_pos h0, if_neg h1]
      simp [h1]
  · rw [if_neg h0]
    simp [h0]
theorem sameAll_l0 (xs ys : List S62) (hl : xs.length = ys.length) (hx : xs.length ≤ 1000000) (hbx : ∀ x ∈ xs, Bytes x.f2) (hby : ∀ y ∈ ys, Bytes y.f2) : ∀ (d k i : Nat), xs.length - i = d → d < k → ref09_SameAll.l0 k xs ys i = some (sameL (xs.drop i) (ys.drop i)) := by
  intro d
  induction d with
  | zero =>
    intro k i hd hk
    obtain ⟨k, rfl⟩ : ∃ m, k = m + 1 := ⟨k - 1, by omega⟩
    rw [ref09_SameAll.l0, if_neg (by omega), List.drop_eq_nil_of_le (by omega), List.drop_eq_nil_of_le (by omega)]
    rfl
  | succ d ih =>
    intro k i hd hk
    obtain ⟨k, rfl⟩ : ∃ m, k = m + 1 := ⟨k - 1, by omega⟩
    have hi : i < xs.length := by omega
    have hj : i < ys.length := by omega
    have hs := refSame_eq (hbx xs[i] (List.getElem_mem hi)) (hby ys[i] (List.getElem_mem hj))
    rw [ref09_SameAll.l0, if_pos (by omega), if_pos (by omega), if_pos (by omega), rd62 xs i hi, rd62 ys i hj, hs, Option.bind_some, wrap_next i (by omega), ih k (i + 1) (by omega) (by omega), List.drop_eq_getElem_cons hi, List.drop_eq_getElem_cons hj]
    cases hh : sameX xs[i] ys[i] <;> simp [sameL, hh]
theorem sameAll_eq (xs ys : List S62) (hx : xs.length ≤ 1000000) (hbx : ∀ x ∈ xs, Bytes x.f2) (hby : ∀ y ∈ ys, Bytes y.f2) {k : Nat} (hk : xs.length < k) : ref09_SameAll.f k xs ys = some (sameL xs ys) := by
  unfold ref09_SameAll.f
  by_cases hl : xs.length = ys.length
  · rw [if_pos (by omega)]
    exact sameAll_l0 xs ys hl hx hbx hby _ k 0 rfl (by omega)
  · rw [if_neg (by omega), sameL_length hl]
/-! ### texts -/
def ofS (id leaf : Int) (d : List Int) : List Int := [id + 1, 0, 0, 0, leaf, 0, 0, 0] ++ d
theorem u64_wrap' (z : Int) : IntKind.u64.wrap z = z % 18446744073709551616 := rfl
theorem write_eq {a0 a1 a2 a3 id leaf : Int} {d : List Int} (hl : levelOk a0 a1 a2 a3) (hm : mayS a0 a1 a2 id leaf d.length) : slot_Write.f a0 a1 a2 a3 id leaf d = some (ofS id leaf d, 0) := by
  unfold slot_Write.f
  rw [checkS_eq, Option.bind_some]
  have hh := high_bounds hl.1
  have hl' := hl
  have hm' := hm
  unfold levelOk at hl'
  unfold mayS at hm'
  rw [checkS_zero.2 ⟨hl, hm⟩, if_pos rfl]
  have e1 : IntKind.u64.wrap (IntKind.u64.wrap id + 1) = id + 1 := by rw [u64_wrap', u64_wrap']; omega
  have e2 : IntKind.u64.wrap leaf = leaf := by rw [u64_wrap']; omega
  obtain ⟨n, rfl⟩ := Int.eq_ofNat_of_zero_le hm'.1
  obtain ⟨m, rfl⟩ := Int.eq_ofNat_of_zero_le hm'.2.2.1
  have hp := put44 ⟨n + 1, by omega⟩ ⟨m, by omega⟩
  simp only at hp
  rw [e1, e2, show (n : Int) + 1 = ((n + 1 : Nat) : Int) from rfl, hp, Option.bind_some, if_pos (by simp; omega)]
  rfl
theorem none_eq {a0 a1 a2 a3 : Int} {k : Nat} (hk : 20 ≤ k) (hl : levelOk a0 a1 a2 a3) : slot_None.f k a0 a1 a2 a3 = some (List.replicate (8 + a1).toNat 0, 0) := by
  unfold slot_None.f
  rw [slots_eq a0 a1 a2 a3 hk, Option.bind_some]
  unfold slotsS
  have hl' := hl
  unfold levelOk at hl'
  have e1 : wrap64 (8 + a1) = 8 + a1 := by unfold wrap64; omega
  rw [if_pos hl]
  simp only [if_true]
  rw [e1, if_pos (by omega), if_pos (by omega)]
theorem okB_mem {a0 a1 a2 : Int} : ∀ (xs : List S62) (seen : List Int), okB a0 a1 a2 seen xs = true → ∀ x ∈ xs, mayS a0 a1 a2 x.f0 x.f1 x.f2.length
  | [], _, _, x, hx => by cases hx
  | y :: t, seen, h, x, hx => by
    simp only [okB, Bool.and_eq_true, decide_eq_true_eq] at h
    rcases List.mem_cons.1 hx with rfl | hx
    · exact h.1.2
    · exact okB_mem t _ h.2 x hx
/-! ### the law -/
end Go.Proofs.Ytknmokpnkcckeaa
