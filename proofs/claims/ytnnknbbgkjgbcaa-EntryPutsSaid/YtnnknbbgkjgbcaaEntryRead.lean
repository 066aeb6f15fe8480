/-
The position at a place of a block, and a block with one there: what the plain functions of entry and of the document's answer tell, in the same words.
-/
import Derived.Test.YtnnknbbgkjgbcaaEntryLaw
import Derived.Test.YtnnknbbgkjgbcaaHandEntry
namespace Go.Proofs.Ytnnknbbgkjgbcaa
open Go.RowKit Go.Proofs.YtnnknbbgkjgbcaaW.PrintWords Go.Proofs.YtnnknbbgkjgbcaaW.PrintLast Go.Proofs.YtnnknbbgkjgbcaaW.PrintMore Go.Proofs.Ytnnknbbgkjgbcaa.PAll
set_option linter.unusedVariables false
set_option linter.unusedSimpArgs false

theorem rd_nat (l : List Int) (i : Nat) (h : i < l.length) : rd l (i : Int) = l[i] := by
  simp [rd, List.getD_eq_getElem?_getD, List.getElem?_eq_getElem h]
theorem wrap_succ (i : Nat) (h : i ≤ 140737488355328) : wrap64 ((i : Int) + 1) = ((i + 1 : Nat) : Int) := by unfold wrap64; omega

/-- The number that bytes are. -/
def val : List Int → Int
  | [] => 0
  | b :: t => b + 256 * val t
/-- All are bytes. -/
def Bytes (l : List Int) : Prop := ∀ x ∈ l, 0 ≤ x ∧ x < 256

theorem bytes_of_wf {l : List Int} (h : ∀ x ∈ l, (Lit.int .u8 x).wf = true) : Bytes l := by
  intro x hx
  have := h x hx
  rw [Lit.wf, Bool.and_eq_true, decide_eq_true_eq, decide_eq_true_eq] at this
  exact ⟨this.1, by have : x ≤ 255 := this.2; omega⟩
theorem Bytes.take {l : List Int} (h : Bytes l) (n : Nat) : Bytes (l.take n) := fun x hx => h x (List.mem_of_mem_take hx)
theorem Bytes.drop {l : List Int} (h : Bytes l) (n : Nat) : Bytes (l.drop n) := fun x hx => h x (List.mem_of_mem_drop hx)

theorem or_mul (a b i m : Nat) (hm : m = 2 ^ i) (h : a < m) : (b * m) ||| a = b * m + a := by
  subst hm
  rw [← Nat.shiftLeft_eq, Nat.shiftLeft_add_eq_or_of_lt h]
theorem u64_wrap' (z : Int) : IntKind.u64.wrap z = z % 18446744073709551616 := rfl
theorem byte_or {x b : Int} (x0 : 0 ≤ x) (x1 : x * 256 < 18446744073709551616) (b0 : 0 ≤ b) (b1 : b < 256) :
    Go.bits .or .u64 (IntKind.u64.wrap (x * 256)) (IntKind.u64.wrap b) = b + 256 * x := by
  obtain ⟨n, rfl⟩ := Int.eq_ofNat_of_zero_le x0
  obtain ⟨m, rfl⟩ := Int.eq_ofNat_of_zero_le b0
  rw [u64_wrap', u64_wrap']
  have e1 : ((n : Int) * 256) % 18446744073709551616 = ((n * 256 : Nat) : Int) := by omega
  have e2 : (m : Int) % 18446744073709551616 = (m : Int) := by omega
  rw [e1, e2, u64_or_nat (n * 256) m (by omega) (by omega), or_mul m n 8 256 (by decide) (by omega)]
  omega

/-- Four bytes, one by one. -/
theorem four {p : List Int} (h : p.length = 4) (hb : Bytes p) : ∃ a b c d, p = [a, b, c, d] ∧ (0 ≤ a ∧ a < 256) ∧ (0 ≤ b ∧ b < 256) ∧ (0 ≤ c ∧ c < 256) ∧ (0 ≤ d ∧ d < 256) := by
  match p, h with
  | [a, b, c, d], _ => exact ⟨a, b, c, d, rfl, hb a (by simp), hb b (by simp), hb c (by simp), hb d (by simp)⟩

theorem val_four {p : List Int} (h : p.length = 4) (hb : Bytes p) : 0 ≤ val p ∧ val p < 4294967296 := by
  obtain ⟨a, b, c, d, rfl, ha, hb, hc, hd⟩ := four h hb
  simp only [val]
  omega

theorem take_l1_step (k : Nat) (acc p : List Int) (x : Int) (q : List (List Int)) (m i : Int) (j : Nat) (hj : j < 4) (hl : p.length = 4) (hb : Bytes p) (x0 : 0 ≤ x) (x1 : x < 4294967296) :
    num_Take.l1 (k + 1) acc p x q m i 4 j = num_Take.l1 k acc p (rd p ((3 - j : Nat) : Int) + 256 * x) q m i 4 ((j + 1 : Nat) : Int) := by
  have hw := wrap_succ j (by omega)
  have e1 : wrap64 ((p.length : Int) - 1) = 3 := by rw [hl]; unfold wrap64; omega
  have e2 : wrap64 (3 - (j : Int)) = ((3 - j : Nat) : Int) := by unfold wrap64; omega
  have hbb := hb (p[3 - j]'(by omega)) (List.getElem_mem _)
  have hr := rd_nat p (3 - j) (by omega)
  rw [num_Take.l1, if_pos (by omega), e1, e2, if_pos (by omega), if_pos (by omega), hr, hw, byte_or x0 (by omega) hbb.1 hbb.2]

theorem take4 {p : List Int} (h : p.length = 4) (hb : Bytes p) : num_Take.f 60 p [4] = some ([val p], 0) := by
  have hv := val_four h hb
  have hcut : num_Cut.f p [4] = some ([p], 0) := by
    have e : sizeR [4] = (4, 0) := by decide
    rw [num_Cut.f, cutR, e, if_neg (by decide), if_neg (by rw [h]; decide), cutGo, cutGo, List.take_of_length_le (by rw [h]; decide)]
  have hnum : num_numbers.f [4] = some (4, 0) := by decide
  unfold num_Take.f
  rw [hnum, Option.bind_some, if_pos rfl, hcut, Option.bind_some, if_pos rfl]
  obtain ⟨a, b, c, d, rfl, ha, hb', hc, hd⟩ := four h hb
  have s := fun k x j hj x0 x1 => take_l1_step k [] [a, b, c, d] x [[a, b, c, d]] 1 0 j hj rfl hb x0 x1
  have r3 : rd [a, b, c, d] ((3 - 0 : Nat) : Int) = d := rfl
  have r2 : rd [a, b, c, d] ((3 - 1 : Nat) : Int) = c := rfl
  have r1 : rd [a, b, c, d] ((3 - 2 : Nat) : Int) = b := rfl
  have r0 : rd [a, b, c, d] ((3 - 3 : Nat) : Int) = a := rfl
  have s0 := s 58 0 0 (by decide) (by decide) (by decide)
  have s1 := s 57 (d + 256 * 0) 1 (by decide) (by omega) (by omega)
  have s2 := s 56 (c + 256 * (d + 256 * 0)) 2 (by decide) (by omega) (by omega)
  have s3 := s 55 (b + 256 * (c + 256 * (d + 256 * 0))) 3 (by decide) (by omega) (by omega)
  rw [r3] at s0
  rw [r2] at s1
  rw [r1] at s2
  rw [r0] at s3
  have t0 : num_Take.l0 60 [] [[a, b, c, d]] (([[a, b, c, d]] : List (List Int)).length : Int) 0 = num_Take.l1 59 [] [a, b, c, d] 0 [[a, b, c, d]] 1 0 4 ((0 : Nat) : Int) := by
    rw [num_Take.l0, if_pos (by simp), if_pos (by simp), if_pos (by simp)]
    rfl
  rw [t0, s0, s1, s2, s3]
  have w1 : wrap64 (0 + 1) = 1 := by unfold wrap64; omega
  rw [num_Take.l1, if_neg (by decide), if_pos (by decide), w1, num_Take.l0, if_neg (by decide), List.nil_append]
  simp only [val]

/-- What the position at a place is. -/
def readR (high : Int) (b : List Int) (place : Int) : Int × Int :=
  if atOk high b.length place then
    (if val ((b.take ((4 * place).toNat + 4)).drop (4 * place).toNat) ≤ two high then (val ((b.take ((4 * place).toNat + 4)).drop (4 * place).toNat), 0) else (0, 8))
  else (0, 2)

theorem cut_len {b : List Int} {m : Nat} (h : m + 4 ≤ b.length) : ((b.take (m + 4)).drop m).length = 4 := by rw [List.length_drop, List.length_take]; omega

theorem read_eq (high : Int) (b : List Int) (place : Int) (hb : Bytes b) : entry_Read.f high b place = some (readR high b place) := by
  unfold entry_Read.f readR
  cases hok : atOk high b.length place with
  | false => rfl
  | true =>
    obtain ⟨hh, _, _, _, hp0, hp1⟩ := atOk_facts hok
    have hl : ((b.take ((4 * place).toNat + 4)).drop (4 * place).toNat).length = 4 := cut_len (by omega)
    have hbb : Bytes ((b.take ((4 * place).toNat + 4)).drop (4 * place).toNat) := (hb.take _).drop _
    have hv := val_four hl hbb
    rw [if_pos rfl, if_pos rfl, take4 hl hbb, Option.bind_some]
    generalize val ((b.take ((4 * place).toNat + 4)).drop (4 * place).toNat) = v at hv
    have w : wrap64 v = v := by unfold wrap64; omega
    have r : rd [v] 0 = v := rfl
    simp only [List.length_cons, List.length_nil, Nat.zero_add, Nat.lt_one_iff, if_true, r, w, check_eq high v (k := 20) (by decide), Option.bind_some]
    unfold checkR
    rw [hh]
    simp only [if_true]
    by_cases h2 : v ≤ two high
    · simp only [if_pos h2, if_pos (And.intro hv.1 h2), if_true]
    · simp only [if_neg h2, if_neg (show ¬ (0 ≤ v ∧ v ≤ two high) from fun h => h2 h.2)]
      rfl

/-! ### a block with a position at a place -/
def putL (b : List Int) (m : Nat) (p : Int) : List Int := b.take m ++ [p, 0, 0, 0] ++ b.drop (m + 4)
def putPR (high : Int) (b : List Int) (place pos : Int) : List Int × Int :=
  if atOk high b.length place then (if checkR high pos = 0 then (putL b (4 * place).toNat pos, 0) else ([], checkR high pos)) else ([], 2)

theorem put_eq (high : Int) (b : List Int) (place pos : Int) (hm : b.length ≤ 1000) : entry_Put.f high b place pos = some (putPR high b place pos) := by
  unfold entry_Put.f putPR
  rw [if_pos (by omega)]
  cases hok : atOk high b.length place with
  | false => rfl
  | true =>
    rw [if_pos rfl, if_pos rfl, write_eq high pos (k := 60) (by decide), Option.bind_some]
    unfold writeR
    by_cases h : checkR high pos = 0
    · simp only [if_pos h, if_true]
      rfl
    · simp only [if_neg h]

end Go.Proofs.Ytnnknbbgkjgbcaa
