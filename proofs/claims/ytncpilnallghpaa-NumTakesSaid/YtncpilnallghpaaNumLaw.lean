/-
Numbers in bytes and back, as plain lists; what the functions of num and of the document's answer compute, in these words.
-/
import Derived.Test.YtncpilnallghpaaListLaw
import Derived.Test.YtncpilnallghpaaPAll2
import Derived.Test.YtncpilnallghpaaPAll10
import Derived.Test.YtncpilnallghpaaPAll11
import Derived.Test.YtncpilnallghpaaPAll3
namespace Go.Proofs.Ytncpilnallghpaa
open Go.RowKit Go.Proofs.YtncpilnallghpaaW.PrintWords Go.Proofs.YtncpilnallghpaaW.PrintLast Go.Proofs.YtncpilnallghpaaW.PrintMore Go.Proofs.Ytncpilnallghpaa.PAll
set_option linter.unusedVariables false
set_option linter.unusedSimpArgs false

theorem rd_nat (l : List Int) (i : Nat) (h : i < l.length) : rd l (i : Int) = l[i] := by
  simp [rd, List.getD_eq_getElem?_getD, List.getElem?_eq_getElem h]
theorem wrap_succ (i : Nat) (h : i ≤ 140737488355328) : wrap64 ((i : Int) + 1) = ((i + 1 : Nat) : Int) := by unfold wrap64; omega

/-- Every one is a size that a number may have, and they are not too many. -/
def okSizes (l : List Int) : Bool := !l.any oddSize && decide (l.length ≤ 64)

theorem numSum_ok : ∀ (l : List Int) (s : Int), l.any oddSize = false → 0 ≤ s → s + 8 * l.length ≤ 65536 → ∃ t, numSum s l = some t ∧ s ≤ t ∧ t ≤ s + 8 * l.length := by
  intro l
  induction l with
  | nil => intro s _ _ _; exact ⟨s, rfl, by simp, by simp⟩
  | cons n l ih =>
    intro s ha h0 h1
    rw [List.any_cons, Bool.or_eq_false_iff] at ha
    obtain ⟨hn, ha⟩ := ha
    have hn' : 1 ≤ n ∧ n ≤ 8 := by
      simp only [oddSize, Bool.or_eq_false_iff, decide_eq_false_iff_not] at hn
      omega
    rw [List.length_cons] at h1
    obtain ⟨t, e, t0, t1⟩ := ih (s + n) ha (by omega) (by omega)
    refine ⟨t, ?_, by omega, by rw [List.length_cons]; omega⟩
    rw [numSum, if_neg (by omega), e]

/-- Sizes' sum, or below 0. -/
def total (l : List Int) : Int := if 64 < l.length then -1 else (numSum 0 l).getD (-1)

theorem numSum_nonneg : ∀ (l : List Int) (s t : Int), 0 ≤ s → s ≤ 65536 → numSum s l = some t → 0 ≤ t ∧ t ≤ 65536 := by
  intro l
  induction l with
  | nil => intro s t h0 h1 h; cases h; exact ⟨h0, h1⟩
  | cons n l ih =>
    intro s t h0 h1 h
    rw [numSum] at h
    by_cases hc : n < 0 ∨ 65536 - s < n
    · rw [if_pos hc] at h; cases h
    · rw [if_neg hc] at h; exact ih _ _ (by omega) (by omega) h

theorem total_lo (l : List Int) : total l = -1 ∨ (0 ≤ total l ∧ total l ≤ 65536) := by
  unfold total
  by_cases h : 64 < l.length
  · rw [if_pos h]; exact .inl rfl
  · rw [if_neg h]
    cases e : numSum 0 l with
    | none => exact .inl rfl
    | some t => exact .inr (numSum_nonneg _ _ _ (by omega) (by omega) e)

theorem sizeR_eq (l : List Int) : sizeR l = if total l < 0 then (0, 2) else (total l, 0) := by
  unfold sizeR total
  by_cases h : 64 < l.length
  · rw [if_pos h, if_pos h, if_pos (by decide)]
  · rw [if_neg h, if_neg h]
    cases e : numSum 0 l with
    | none => rfl
    | some t =>
      have := numSum_nonneg _ _ _ (by omega) (by omega) e
      show (t, (0 : Int)) = if t < 0 then (0, 2) else (t, 0)
      rw [if_neg (by omega)]

theorem total_l0 (l : List Int) (hl : l.length ≤ 64) (hv : ∀ x ∈ l, (Lit.int .i64 x).wf = true) : ∀ (d k i : Nat) (s : Int), l.length - i = d → i ≤ l.length → 2 * d < k → 0 ≤ s → s ≤ 65536 * i →
    ref01_Total.l0 k l s i = some (if s ≤ 65536 then (numSum s (l.drop i)).getD (-1) else -1) := by
  intro d
  induction d with
  | zero =>
    intro k i s hd hi hk h0 h1
    obtain ⟨k, rfl⟩ : ∃ m, k = m + 1 := ⟨k - 1, by omega⟩
    simp only [ref01_Total.l0]
    rw [if_neg (by omega), List.drop_of_length_le (by omega), numSum]
    by_cases hs : s ≤ 65536
    · rw [if_neg (by omega), if_pos hs]; rfl
    · rw [if_pos (by omega), if_neg hs]
  | succ d ih =>
    intro k i s hd hi hk h0 h1
    obtain ⟨k, rfl⟩ : ∃ m, k = m + 2 := ⟨k - 2, by omega⟩
    have hw := wrap_succ i (by omega)
    have hr := rd_nat l i (by omega)
    simp only [ref01_Total.l0]
    rw [if_pos (by omega), if_pos (by omega), numSum_step (by omega)]
    by_cases hn : rd l i < 0
    · rw [if_pos hn]
      simp only [ref01_Total.j1, if_pos]
      by_cases hs : s ≤ 65536
      · rw [if_pos hs, if_pos (.inl hn)]; rfl
      · rw [if_neg hs]
    · rw [if_neg hn]
      by_cases hb : rd l i > 65536
      · rw [decide_eq_true hb]
        simp only [ref01_Total.j1, if_pos]
        by_cases hs : s ≤ 65536
        · rw [if_pos hs, if_pos (.inr (by omega))]; rfl
        · rw [if_neg hs]
      · rw [decide_eq_false hb]
        have hws : wrap64 (s + rd l i) = s + rd l i := by unfold wrap64; omega
        simp only [ref01_Total.j1, hw, hws, Bool.false_eq_true, if_false]
        rw [if_pos (by omega), if_pos (by omega), ih k (i + 1) _ (by omega) (by omega) (by omega) (by omega) (by omega)]
        by_cases hs : s ≤ 65536
        · rw [if_pos hs]
          by_cases hs2 : s + rd l i ≤ 65536
          · rw [if_pos hs2, if_neg (by omega)]
          · rw [if_neg hs2, if_pos (by omega)]; rfl
        · rw [if_neg hs, if_neg (by omega)]

theorem total_eq (l : List Int) (hv : ∀ x ∈ l, (Lit.int .i64 x).wf = true) {k : Nat} (hk : 200 ≤ k) : ref01_Total.f k l = some (total l) := by
  unfold ref01_Total.f total
  by_cases h : 64 < l.length
  · rw [if_pos (by omega), if_pos h]
  · rw [if_neg (by omega), if_neg h]
    have := total_l0 l (by omega) hv _ k 0 0 rfl (by omega) (by omega) (by omega) (by omega)
    rw [if_pos (by omega), List.drop_zero] at this
    exact this

theorem size_ref_eq (l : List Int) (hv : ∀ x ∈ l, (Lit.int .i64 x).wf = true) {k : Nat} (hk : 200 ≤ k) : ref01_Size.f k l = some (sizeR l) := by
  unfold ref01_Size.f
  rw [total_eq l hv hk, sizeR_eq]
  show (if total l < 0 then some ((0 : Int), (2 : Int)) else some (total l, 0)) = _
  by_cases h : total l < 0
  · rw [if_pos h, if_pos h]
  · rw [if_neg h, if_neg h]

theorem total_ok {l : List Int} (h : okSizes l = true) : 0 ≤ total l ∧ total l ≤ 8 * l.length := by
  unfold okSizes at h
  rw [Bool.and_eq_true, decide_eq_true_eq, Bool.not_eq_true'] at h
  unfold total
  obtain ⟨t, e, t0, t1⟩ := numSum_ok l 0 h.1 (by omega) (by omega)
  rw [if_neg (by omega), e]
  exact ⟨t0, by simpa using t1⟩

theorem numbers_eq (l : List Int) : num_numbers.f l = some (if okSizes l then (total l, 0) else (0, 2)) := by
  unfold num_numbers.f num_Size.f
  by_cases h : l.any oddSize = true
  · have : okSizes l = false := by unfold okSizes; rw [h]; rfl
    rw [if_pos h, this]; rfl
  · rw [if_neg h]
    by_cases hl : 64 < l.length
    · have : okSizes l = false := by unfold okSizes; rw [decide_eq_false (by omega), Bool.and_false]
      rw [this, sizeR, if_pos hl]; rfl
    · have hok : okSizes l = true := by unfold okSizes; rw [decide_eq_true (by omega), Bool.eq_false_iff.mpr h]; rfl
      have := total_ok hok
      rw [hok, sizeR_eq, if_neg (by omega), if_pos rfl]

theorem numbers_l0 (l : List Int) (hl : l.length ≤ 140737488355328) (hv : ∀ x ∈ l, (Lit.int .i64 x).wf = true) (q : Nat) : ∀ (d k i : Nat), l.length - i = d → i ≤ l.length → 2 * d + 200 < k → l.length < q →
    ref01_numbers.l0 k l i = some (!(l.drop i).any oddSize && decide (0 ≤ total l)) := by
  intro d
  induction d with
  | zero =>
    intro k i hd hi hk hq
    obtain ⟨k, rfl⟩ : ∃ m, k = m + 1 := ⟨k - 1, by omega⟩
    simp only [ref01_numbers.l0]
    rw [if_neg (by omega), List.drop_of_length_le (by omega), total_eq l hv (by omega)]
    rfl
  | succ d ih =>
    intro k i hd hi hk hq
    obtain ⟨k, rfl⟩ : ∃ m, k = m + 2 := ⟨k - 2, by omega⟩
    have hw := wrap_succ i (by omega)
    simp only [ref01_numbers.l0]
    rw [if_pos (by omega), if_pos (by omega), find_step (by omega) oddSize]
    by_cases hn : rd l i < 1
    · rw [if_pos hn]
      simp only [ref01_numbers.j1, if_pos]
      have : oddSize (rd l i) = true := by simp [oddSize, hn]
      rw [this]; rfl
    · rw [if_neg hn]
      by_cases hb : rd l i > 8
      · rw [decide_eq_true hb]
        simp only [ref01_numbers.j1, if_pos]
        have : oddSize (rd l i) = true := by unfold oddSize; rw [decide_eq_true (show 8 < rd l i by omega), Bool.or_true]
        rw [this]; rfl
      · rw [decide_eq_false hb]
        have : oddSize (rd l i) = false := by unfold oddSize; rw [decide_eq_false hn, decide_eq_false (show ¬ 8 < rd l i by omega)]; rfl
        simp only [ref01_numbers.j1, Bool.false_eq_true, if_false, hw]
        rw [ih k (i + 1) (by omega) (by omega) (by omega) hq, this, Bool.false_or]

theorem numbers_ref_eq (l : List Int) (hl : l.length ≤ 1000) (hv : ∀ x ∈ l, (Lit.int .i64 x).wf = true) {k : Nat} (hk : 2400 ≤ k) : ref01_numbers.f k l = some (okSizes l) := by
  unfold ref01_numbers.f
  have := numbers_l0 l (by omega) hv (l.length + 1) _ k 0 rfl (by omega) (by omega) (by omega)
  rw [List.drop_zero] at this
  rw [show (0 : Int) = ((0 : Nat) : Int) from rfl, this]
  unfold okSizes
  cases h : l.any oddSize with
  | true => rfl
  | false =>
    by_cases h64 : l.length ≤ 64
    · have hok : okSizes l = true := by unfold okSizes; rw [h, decide_eq_true h64]; rfl
      have := total_ok hok
      rw [decide_eq_true this.1, decide_eq_true h64]
    · have : total l = -1 := by unfold total; rw [if_pos (by omega)]
      rw [this, decide_eq_false h64]; rfl

/-! ### Numbers in bytes -/
def digs : Nat → Int → List Int
  | 0, _ => []
  | s + 1, n => n % 256 :: digs s (n / 256)
def left : Nat → Int → Int
  | 0, n => n
  | s + 1, n => left s (n / 256)
theorem digs_length : ∀ (s : Nat) (n : Int), (digs s n).length = s
  | 0, _ => rfl
  | s + 1, n => by rw [digs, List.length_cons, digs_length s]
def putGo : List Int → List Int → List Int → List Int × Int
  | [], _, acc => (acc, 0)
  | n :: t, u, acc => if left (u.headD 0).toNat n = 0 then putGo t u.tail (acc ++ digs (u.headD 0).toNat n) else ([], 4)
/-- Numbers in so many bytes each. -/
def putR (l sizes : List Int) : List Int × Int := if okSizes sizes && decide (l.length = sizes.length) then putGo l sizes [] else ([], 2)

theorem digits_l0 (s : Nat) (hs : s ≤ 8) : ∀ (d k i : Nat) (n : Int) (acc : List Int), s - i = d → i ≤ s → d < k → acc.length ≤ 8 → acc.length + d ≤ 8 → 0 ≤ n → n < 18446744073709551616 →
    ref01_Digits.l0 k n s acc i = some (acc ++ digs d n, left d n == 0) := by
  intro d
  induction d with
  | zero =>
    intro k i n acc hd hi hk ha ha2 h0 h1
    obtain ⟨k, rfl⟩ : ∃ m, k = m + 1 := ⟨k - 1, by omega⟩
    simp only [ref01_Digits.l0]
    rw [if_neg (by omega), digs, left, List.append_nil]
  | succ d ih =>
    intro k i n acc hd hi hk ha ha2 h0 h1
    obtain ⟨k, rfl⟩ : ∃ m, k = m + 1 := ⟨k - 1, by omega⟩
    have hw := wrap_succ i (by omega)
    have e1 : IntKind.u64.wrap (Int.tdiv n 256) = n / 256 := by
      rw [Int.tdiv_eq_ediv_of_nonneg h0, show ∀ z, IntKind.u64.wrap z = z % 18446744073709551616 from fun _ => rfl]; omega
    have e2 : Int.tmod n 256 % 256 = n % 256 := by
      rw [Int.tmod_eq_emod_of_nonneg h0]; omega
    simp only [ref01_Digits.l0]
    rw [if_pos (by omega), if_pos (by omega), e1, e2, hw, ih k (i + 1) _ _ (by omega) (by omega) (by omega) (by simp; omega) (by simp; omega) (by omega) (by omega)]
    simp [digs, left]

theorem digits_eq {n s : Int} (h0 : 0 ≤ n) (h1 : n < 18446744073709551616) (s0 : 0 ≤ s) (s1 : s ≤ 8) {k : Nat} (hk : 10 ≤ k) : ref01_Digits.f k n s = some (digs s.toNat n, left s.toNat n == 0) := by
  unfold ref01_Digits.f
  have := digits_l0 s.toNat (by omega) s.toNat k 0 n [] (by omega) (by omega) (by omega) (by simp) (by simp; omega) h0 h1
  rw [show ((s.toNat : Nat) : Int) = s from by omega] at this
  exact this

theorem any_odd_rd {l : List Int} (h : l.any oddSize = false) {i : Nat} (hi : i < l.length) : 1 ≤ rd l i ∧ rd l i ≤ 8 := by
  rw [rd_nat l i hi]
  have := List.any_eq_false.mp h l[i] (List.getElem_mem hi)
  simp only [oddSize, Bool.or_eq_true, decide_eq_true_eq, not_or] at this
  omega

theorem u64_rd {l : List Int} (hv : ∀ x ∈ l, (Lit.int .u64 x).wf = true) {i : Nat} (hi : i < l.length) : 0 ≤ rd l i ∧ rd l i < 18446744073709551616 := by
  rw [rd_nat l i hi]
  have := hv l[i] (List.getElem_mem hi)
  rw [Lit.wf, Bool.and_eq_true, decide_eq_true_eq, decide_eq_true_eq] at this
  exact ⟨this.1, by have : l[i] ≤ 18446744073709551615 := this.2; omega⟩

theorem headD_drop (l : List Int) (i : Nat) (hi : i < l.length) : (l.drop i).headD 0 = rd l i := by
  rw [List.drop_eq_getElem_cons hi, rd_nat l i hi]; rfl

theorem putGo_step {l sizes : List Int} {i : Nat} (hi : i < l.length) (hs : i < sizes.length) (acc : List Int) : putGo (l.drop i) (sizes.drop i) acc =
    if left (rd sizes i).toNat (rd l i) = 0 then putGo (l.drop (i + 1)) (sizes.drop (i + 1)) (acc ++ digs (rd sizes i).toNat (rd l i)) else ([], 4) := by
  rw [List.drop_eq_getElem_cons hi, putGo, headD_drop sizes i hs, List.tail_drop, rd_nat l i hi]

theorem putR_l0 (l sizes : List Int) (hl : l.length ≤ 64) (he : l.length = sizes.length) (hv : ∀ x ∈ l, (Lit.int .u64 x).wf = true) (ho : sizes.any oddSize = false) : ∀ (d k i : Nat) (acc : List Int), l.length - i = d → i ≤ l.length → d + 20 < k → acc.length ≤ 8 * i →
    ref01_Put.l0 k l sizes acc i = some (putGo (l.drop i) (sizes.drop i) acc) := by
  intro d
  induction d with
  | zero =>
    intro k i acc hd hi hk ha
    obtain ⟨k, rfl⟩ : ∃ m, k = m + 1 := ⟨k - 1, by omega⟩
    simp only [ref01_Put.l0]
    rw [if_neg (by omega), List.drop_of_length_le (by omega), putGo]
  | succ d ih =>
    intro k i acc hd hi hk ha
    obtain ⟨k, rfl⟩ : ∃ m, k = m + 1 := ⟨k - 1, by omega⟩
    have hw := wrap_succ i (by omega)
    have hs := any_odd_rd ho (i := i) (by omega)
    have hn := u64_rd hv (i := i) (by omega)
    simp only [ref01_Put.l0]
    rw [if_pos (by omega), if_pos (by omega), if_pos (by omega), digits_eq hn.1 hn.2 (by omega) hs.2 (by omega), putGo_step (by omega) (by omega)]
    simp only [Option.bind_some, beq_iff_eq]
    by_cases hz : left (rd sizes i).toNat (rd l i) = 0
    · rw [if_pos hz, if_pos hz, digs_length, if_pos (by omega), hw, ih k (i + 1) _ (by omega) (by omega) (by omega) (by rw [List.length_append, digs_length]; omega)]
    · rw [if_neg hz, if_neg hz]

theorem put_ref_eq (l sizes : List Int) (hl : l.length ≤ 1000) (hs : sizes.length ≤ 1000) (hv : ∀ x ∈ l, (Lit.int .u64 x).wf = true) (hi : ∀ x ∈ sizes, (Lit.int .i64 x).wf = true) {k : Nat} (hk : 2400 ≤ k) : ref01_Put.f k l sizes = some (putR l sizes) := by
  obtain ⟨k, rfl⟩ : ∃ m, k = m + 1 := ⟨k - 1, by omega⟩
  unfold ref01_Put.f putR
  rw [numbers_ref_eq sizes hs hi hk]
  simp only [Option.bind_some, ref01_Put.j0]
  by_cases ho : okSizes sizes = true
  · rw [if_pos ho, ho, Bool.true_and]
    by_cases he : l.length = sizes.length
    · rw [decide_eq_true he, if_neg (by simp [he]), if_pos rfl]
      unfold okSizes at ho
      rw [Bool.and_eq_true, decide_eq_true_eq, Bool.not_eq_true'] at ho
      have := putR_l0 l sizes (by omega) he hv ho.1 _ k 0 [] rfl (by omega) (by omega) (by simp)
      exact this
    · rw [decide_eq_false he, if_pos (by simp only [bne_iff_ne, ne_eq]; omega)]; rfl
  · rw [if_neg ho, Bool.eq_false_iff.mpr ho]; rfl

theorem put_l1 (sizes : List Int) (s : Nat) (hs : s ≤ 8) (q : List Int) (m i : Int) : ∀ (d k j : Nat) (n : Int) (acc : List Int), s - j = d → j ≤ s → d < k → acc.length + d ≤ 100000 → 0 ≤ n → n < 18446744073709551616 →
    num_Put.l1 k sizes acc n q m i s j = num_Put.l1 (k - d) sizes (acc ++ digs d n) (left d n) q m i s s := by
  intro d
  induction d with
  | zero =>
    intro k j n acc hd hj hk ha h0 h1
    have : j = s := by omega
    subst this
    rw [digs, left, List.append_nil, Nat.sub_zero]
  | succ d ih =>
    intro k j n acc hd hj hk ha h0 h1
    obtain ⟨k, rfl⟩ : ∃ m, k = m + 1 := ⟨k - 1, by omega⟩
    have hw := wrap_succ j (by omega)
    rw [num_Put.l1, if_pos (by omega), if_pos (by omega), hw]
    rw [ih k (j + 1) _ _ (by omega) (by omega) (by omega) (by simp; omega) (by omega) (by omega), show k + 1 - (d + 1) = k - d by omega]
    simp [digs, left]

theorem put_l0 (l sizes : List Int) (hl : l.length ≤ 64) (he : l.length = sizes.length) (hv : ∀ x ∈ l, (Lit.int .u64 x).wf = true) (ho : sizes.any oddSize = false) : ∀ (d k i : Nat) (acc : List Int), l.length - i = d → i ≤ l.length → 12 * d < k → acc.length ≤ 8 * i →
    num_Put.l0 k sizes acc l l.length i = some (putGo (l.drop i) (sizes.drop i) acc) := by
  intro d
  induction d with
  | zero =>
    intro k i acc hd hi hk ha
    obtain ⟨k, rfl⟩ : ∃ m, k = m + 1 := ⟨k - 1, by omega⟩
    simp only [num_Put.l0]
    rw [if_neg (by omega), List.drop_of_length_le (by omega), putGo]
  | succ d ih =>
    intro k i acc hd hi hk ha
    obtain ⟨k, rfl⟩ : ∃ m, k = m + 1 := ⟨k - 1, by omega⟩
    have hw := wrap_succ i (by omega)
    have hs := any_odd_rd ho (i := i) (by omega)
    have hn := u64_rd hv (i := i) (by omega)
    have h1 := put_l1 sizes (rd sizes i).toNat (by omega) l l.length i (rd sizes i).toNat k 0 (rd l i) acc (by omega) (by omega) (by omega) (by omega) hn.1 hn.2
    rw [show ((rd sizes i).toNat : Int) = rd sizes i from by omega] at h1
    rw [num_Put.l0, if_pos (by omega), if_pos (by omega), if_pos (by omega), if_pos (by omega), show (0 : Int) = ((0 : Nat) : Int) from rfl, h1, putGo_step (by omega) (by omega)]
    obtain ⟨q, hq⟩ : ∃ m, k - (rd sizes i).toNat = m + 1 := ⟨k - (rd sizes i).toNat - 1, by omega⟩
    rw [hq, num_Put.l1, if_neg (by omega)]
    by_cases hz : left (rd sizes i).toNat (rd l i) = 0
    · rw [if_pos hz, if_neg (by omega), hw, ih q (i + 1) _ (by omega) (by omega) (by omega) (by rw [List.length_append, digs_length]; omega)]
    · have hp : ∀ (s : Nat) (n : Int), 0 ≤ n → 0 ≤ left s n := by
        intro s
        induction s with
        | zero => intro n h; exact h
        | succ s ih => intro n h; exact ih _ (by omega)
      have := hp (rd sizes i).toNat _ hn.1
      rw [if_neg hz, if_pos (by omega)]

theorem put_eq (l sizes : List Int) (hl : l.length ≤ 1000) (hs : sizes.length ≤ 1000) (hv : ∀ x ∈ l, (Lit.int .u64 x).wf = true) (hi : ∀ x ∈ sizes, (Lit.int .i64 x).wf = true) {k : Nat} (hk : 2400 ≤ k) : num_Put.f k l sizes = some (putR l sizes) := by
  obtain ⟨k, rfl⟩ : ∃ m, k = m + 1 := ⟨k - 1, by omega⟩
  unfold num_Put.f putR
  rw [numbers_eq]
  by_cases ho : okSizes sizes = true
  · have ht := total_ok ho
    rw [ho, Bool.true_and, if_pos rfl, Option.bind_some, if_pos rfl]
    rw [num_Put.j0]
    by_cases he : l.length = sizes.length
    · rw [decide_eq_true he, if_neg (by simp [he]), if_pos (by exact ht.1), if_pos (by show (total sizes).toNat ≤ _; omega), if_pos rfl]
      unfold okSizes at ho
      rw [Bool.and_eq_true, decide_eq_true_eq, Bool.not_eq_true'] at ho
      exact put_l0 l sizes (by omega) he hv ho.1 _ k 0 [] rfl (by omega) (by omega) (by simp)
    · rw [decide_eq_false he, if_pos (by simp only [bne_iff_ne, ne_eq]; omega)]; rfl
  · rw [Bool.eq_false_iff.mpr ho]; rfl

theorem sameNumbers_l0 (l : List Int) (hl : l.length ≤ 140737488355328) : ∀ (d k i : Nat), l.length - i = d → d < k → ref01_SameNumbers.l0 k l l i = some true := by
  intro d
  induction d with
  | zero =>
    intro k i hd hk
    obtain ⟨k, rfl⟩ : ∃ m, k = m + 1 := ⟨k - 1, by omega⟩
    simp only [ref01_SameNumbers.l0]
    rw [if_neg (by omega)]
  | succ d ih =>
    intro k i hd hk
    obtain ⟨k, rfl⟩ : ∃ m, k = m + 1 := ⟨k - 1, by omega⟩
    have hw : wrap64 ((i : Int) + 1) = ((i + 1 : Nat) : Int) := by unfold wrap64; omega
    simp only [ref01_SameNumbers.l0]
    rw [if_pos (by omega), if_pos (by omega), if_pos (by omega), if_pos trivial, hw]
    exact ih k (i + 1) (by omega) (by omega)
theorem sameNumbers_self (l : List Int) (hl : l.length ≤ 140737488355328) {k : Nat} (hk : l.length < k) : ref01_SameNumbers.f k l l = some true := by
  unfold ref01_SameNumbers.f
  rw [if_pos rfl]
  exact sameNumbers_l0 l hl _ k 0 rfl (by omega)
theorem same_self (l : List Int) : ref01_Same.f l l = some true := by
  unfold ref01_Same.f
  rw [beq_self_eq_true]

end Go.Proofs.Ytncpilnallghpaa
