/-
Heights, leaves, numbers out of four bytes: what the plain functions answer, for slots.
-/
import Derived.Test.YtnnknbbgkjgbcaaGeoLow
import Derived.Test.YtnnknbbgkjgbcaaPAll2
import Derived.Test.YtnnknbbgkjgbcaaPAll3
import Derived.Laws.Bits128
import Derived.Laws.BitsAllLaws
namespace Go.Proofs.Ytnnknbbgkjgbcaa
open Go.RowKit Go.Proofs.YtnnknbbgkjgbcaaW.PrintWords Go.Proofs.YtnnknbbgkjgbcaaW.PrintLast Go.Proofs.YtnnknbbgkjgbcaaW.PrintMore Go.Proofs.Ytnnknbbgkjgbcaa.PAll
set_option linter.unusedVariables false
set_option linter.unusedSimpArgs false

theorem high_bounds {high : Int} (h : isHigh high = true) : 2 ≤ two high ∧ two high ≤ 64 := by
  obtain ⟨v1, v2, v3, v4, v5, v6⟩ := two_vals
  rcases high_cases h with rfl | rfl | rfl | rfl | rfl | rfl <;> omega

theorem rd_nat (l : List Int) (i : Nat) (h : i < l.length) : rd l (i : Int) = l[i] := by
  simp [rd, List.getD_eq_getElem?_getD, List.getElem?_eq_getElem h]
theorem wrap_succ (i : Nat) (h : i ≤ 140737488355328) : wrap64 ((i : Int) + 1) = ((i + 1 : Nat) : Int) := by unfold wrap64; omega

/-- The number that bytes are. -/
def val : List Int → Int
  | [] => 0
  | b :: t => b + 256 * val t
/-- All are bytes. -/
def Bytes (l : List Int) : Prop := ∀ x ∈ l, 0 ≤ x ∧ x < 256

theorem bytes_of_wf {l : List Int} (h : ∀ x ∈ l, (Lit.int .u8 x).wf = true) : Bytes l := by
  intro x hx
  have := h x hx
  rw [Lit.wf, Bool.and_eq_true, decide_eq_true_eq, decide_eq_true_eq] at this
  exact ⟨this.1, by have : x ≤ 255 := this.2; omega⟩
theorem Bytes.take {l : List Int} (h : Bytes l) (n : Nat) : Bytes (l.take n) := fun x hx => h x (List.mem_of_mem_take hx)
theorem Bytes.drop {l : List Int} (h : Bytes l) (n : Nat) : Bytes (l.drop n) := fun x hx => h x (List.mem_of_mem_drop hx)

theorem or_mul (a b i m : Nat) (hm : m = 2 ^ i) (h : a < m) : (b * m) ||| a = b * m + a := by
  subst hm
  rw [← Nat.shiftLeft_eq, Nat.shiftLeft_add_eq_or_of_lt h]
theorem u64_wrap' (z : Int) : IntKind.u64.wrap z = z % 18446744073709551616 := rfl
theorem byte_or {x b : Int} (x0 : 0 ≤ x) (x1 : x * 256 < 18446744073709551616) (b0 : 0 ≤ b) (b1 : b < 256) :
    Go.bits .or .u64 (IntKind.u64.wrap (x * 256)) (IntKind.u64.wrap b) = b + 256 * x := by
  obtain ⟨n, rfl⟩ := Int.eq_ofNat_of_zero_le x0
  obtain ⟨m, rfl⟩ := Int.eq_ofNat_of_zero_le b0
  rw [u64_wrap', u64_wrap']
  have e1 : ((n : Int) * 256) % 18446744073709551616 = ((n * 256 : Nat) : Int) := by omega
  have e2 : (m : Int) % 18446744073709551616 = (m : Int) := by omega
  rw [e1, e2, u64_or_nat (n * 256) m (by omega) (by omega), or_mul m n 8 256 (by decide) (by omega)]
  omega

/-- Four bytes, one by one. -/
theorem four {p : List Int} (h : p.length = 4) (hb : Bytes p) : ∃ a b c d, p = [a, b, c, d] ∧ (0 ≤ a ∧ a < 256) ∧ (0 ≤ b ∧ b < 256) ∧ (0 ≤ c ∧ c < 256) ∧ (0 ≤ d ∧ d < 256) := by
  match p, h with
  | [a, b, c, d], _ => exact ⟨a, b, c, d, rfl, hb a (by simp), hb b (by simp), hb c (by simp), hb d (by simp)⟩

theorem val_four {p : List Int} (h : p.length = 4) (hb : Bytes p) : 0 ≤ val p ∧ val p < 4294967296 := by
  obtain ⟨a, b, c, d, rfl, ha, hb, hc, hd⟩ := four h hb
  simp only [val]
  omega

theorem take_l1_step (k : Nat) (acc p : List Int) (x : Int) (q : List (List Int)) (m i : Int) (j : Nat) (hj : j < 4) (hl : p.length = 4) (hb : Bytes p) (x0 : 0 ≤ x) (x1 : x < 4294967296) :
    num_Take.l1 (k + 1) acc p x q m i 4 j = num_Take.l1 k acc p (rd p ((3 - j : Nat) : Int) + 256 * x) q m i 4 ((j + 1 : Nat) : Int) := by
  have hw := wrap_succ j (by omega)
  have e1 : wrap64 ((p.length : Int) - 1) = 3 := by rw [hl]; unfold wrap64; omega
  have e2 : wrap64 (3 - (j : Int)) = ((3 - j : Nat) : Int) := by unfold wrap64; omega
  have hbb := hb (p[3 - j]'(by omega)) (List.getElem_mem _)
  have hr := rd_nat p (3 - j) (by omega)
  rw [num_Take.l1, if_pos (by omega), e1, e2, if_pos (by omega), if_pos (by omega), hr, hw, byte_or x0 (by omega) hbb.1 hbb.2]

theorem same_self (l : List Int) : ref01_Same.f l l = some true := by
  unfold ref01_Same.f
  rw [beq_self_eq_true]

end Go.Proofs.Ytnnknbbgkjgbcaa
