/-
Numbers out of bytes: what num.Take computes; taken and put again are the same.
-/
import Derived.Test.YtncpilnallghpaaNumLaw
import Derived.Test.YtncpilnallghpaaPAll4
import Derived.Test.YtncpilnallghpaaPAll5
import Derived.Laws.BitsAllLaws
namespace Go.Proofs.Ytncpilnallghpaa
open Go.RowKit Go.Proofs.YtncpilnallghpaaW.PrintWords Go.Proofs.YtncpilnallghpaaW.PrintLast Go.Proofs.YtncpilnallghpaaW.PrintMore Go.Proofs.Ytncpilnallghpaa.PAll
set_option linter.unusedVariables false
set_option linter.unusedSimpArgs false

/-- The number that bytes are. -/
def val : List Int → Int
  | [] => 0
  | b :: t => b + 256 * val t
/-- All are bytes. -/
def Bytes (l : List Int) : Prop := ∀ x ∈ l, 0 ≤ x ∧ x < 256

theorem bytes_of_wf {l : List Int} (h : ∀ x ∈ l, (Lit.int .u8 x).wf = true) : Bytes l := by
  intro x hx
  have := h x hx
  rw [Lit.wf, Bool.and_eq_true, decide_eq_true_eq, decide_eq_true_eq] at this
  exact ⟨this.1, by have : x ≤ 255 := this.2; omega⟩
theorem Bytes.take {l : List Int} (h : Bytes l) (n : Nat) : Bytes (l.take n) := fun x hx => h x (List.mem_of_mem_take hx)
theorem Bytes.drop {l : List Int} (h : Bytes l) (n : Nat) : Bytes (l.drop n) := fun x hx => h x (List.mem_of_mem_drop hx)
theorem cutGo_bytes : ∀ (sizes b : List Int), Bytes b → ∀ p ∈ cutGo sizes b, Bytes p
  | [], _, _, p, hp => by simp [cutGo] at hp
  | n :: t, b, hb, p, hp => by
    rw [cutGo, List.mem_cons] at hp
    rcases hp with rfl | hp
    · exact hb.take _
    · exact cutGo_bytes t _ (hb.drop _) p hp
theorem cutGo_length : ∀ (sizes b : List Int), (cutGo sizes b).length = sizes.length
  | [], _ => rfl
  | n :: t, b => by rw [cutGo, List.length_cons, List.length_cons, cutGo_length t]

theorem val_bound : ∀ (l : List Int), Bytes l → 0 ≤ val l ∧ val l < 256 ^ l.length
  | [], _ => ⟨Int.le_refl _, by decide⟩
  | b :: t, h => by
    have ih := val_bound t (fun x hx => h x (List.mem_cons_of_mem _ hx))
    have hb := h b List.mem_cons_self
    rw [val, List.length_cons, Int.pow_succ]
    omega
theorem val_lt64 {l : List Int} (h : Bytes l) (h8 : l.length ≤ 8) : 0 ≤ val l ∧ val l < 18446744073709551616 := by
  have := val_bound l h
  have h2 : ((256 ^ l.length : Nat) : Int) ≤ ((256 ^ 8 : Nat) : Int) := Int.ofNat_le.mpr (Nat.pow_le_pow_right (by decide) h8)
  have h3 : ((256 ^ 8 : Nat) : Int) = 18446744073709551616 := by decide
  rw [h3, Int.natCast_pow] at h2
  have h4 : ((256 : Nat) : Int) = 256 := rfl
  rw [h4] at h2
  omega

theorem or_mul (a b i m : Nat) (hm : m = 2 ^ i) (h : a < m) : (b * m) ||| a = b * m + a := by
  subst hm
  rw [← Nat.shiftLeft_eq, Nat.shiftLeft_add_eq_or_of_lt h]

theorem u64_wrap' (z : Int) : IntKind.u64.wrap z = z % 18446744073709551616 := rfl
theorem byte_or {x b : Int} (x0 : 0 ≤ x) (x1 : x * 256 < 18446744073709551616) (b0 : 0 ≤ b) (b1 : b < 256) :
    Go.bits .or .u64 (IntKind.u64.wrap (x * 256)) (IntKind.u64.wrap b) = b + 256 * x := by
  obtain ⟨n, rfl⟩ := Int.eq_ofNat_of_zero_le x0
  obtain ⟨m, rfl⟩ := Int.eq_ofNat_of_zero_le b0
  rw [u64_wrap', u64_wrap']
  have e1 : ((n : Int) * 256) % 18446744073709551616 = ((n * 256 : Nat) : Int) := by omega
  have e2 : (m : Int) % 18446744073709551616 = (m : Int) := by omega
  rw [e1, e2, u64_or_nat (n * 256) m (by omega) (by omega), or_mul m n 8 256 (by decide) (by omega)]
  omega

/-- What num.Take answers. -/
def takeR (b sizes : List Int) : List Int × Int :=
  if okSizes sizes then (if total sizes = (b.length : Int) then ((cutGo sizes b).map val, 0) else ([], 10)) else ([], 2)

theorem cut_eq (b sizes : List Int) : cutR b sizes = if total sizes < 0 then ([], 2) else if total sizes = (b.length : Int) then (cutGo sizes b, 0) else ([], 10) := by
  unfold cutR
  rw [sizeR_eq]
  by_cases h : total sizes < 0
  · rw [if_pos h, if_pos h, if_pos (by decide)]
  · rw [if_neg h, if_neg h, if_neg (by simp)]
    by_cases h2 : total sizes = (b.length : Int)
    · rw [if_pos h2, if_neg (by simpa using h2)]
    · rw [if_neg h2, if_pos (by simpa using h2)]

theorem rdL5_nat (l : List (List Int)) (i : Nat) (h : i < l.length) : rd_L3 l (i : Int) = l[i] := by
  simp [rd_L3, rdOf, List.getD_eq_getElem?_getD, List.getElem?_eq_getElem h]

theorem take_l1 (acc : List Int) (p : List Int) (q : List (List Int)) (m i : Int) (hp : Bytes p) (h8 : p.length ≤ 8) : ∀ (d k j : Nat), p.length - j = d → j ≤ p.length → d < k →
    num_Take.l1 k acc p (val (p.drop d)) q m i p.length j = num_Take.l1 (k - d) acc p (val p) q m i p.length p.length := by
  intro d
  induction d with
  | zero =>
    intro k j hd hj hk
    have : j = p.length := by omega
    subst this
    rw [List.drop_zero, Nat.sub_zero]
  | succ d ih =>
    intro k j hd hj hk
    obtain ⟨k, rfl⟩ : ∃ m, k = m + 1 := ⟨k - 1, by omega⟩
    have hw := wrap_succ j (by omega)
    have e1 : wrap64 ((p.length : Int) - 1) = (p.length : Int) - 1 := by unfold wrap64; omega
    have e2 : wrap64 ((p.length : Int) - 1 - (j : Int)) = (d : Int) := by unfold wrap64; omega
    have hr := rd_nat p d (by omega)
    have hb := hp p[d] (List.getElem_mem (by omega))
    have hv := val_lt64 (hp.drop d) (by rw [List.length_drop]; omega)
    have hv1 := val_lt64 (hp.drop (d + 1)) (by rw [List.length_drop]; omega)
    have hs : val (p.drop d) = p[d] + 256 * val (p.drop (d + 1)) := by rw [List.drop_eq_getElem_cons (by omega : d < p.length), val]
    rw [num_Take.l1, if_pos (by omega), e1, e2, if_pos (by omega), if_pos (by omega), hr, hw, byte_or hv1.1 (by omega) hb.1 hb.2, ← hs, ih k (j + 1) (by omega) (by omega) (by omega), show k + 1 - (d + 1) = k - d by omega]

theorem take_l0 (ps : List (List Int)) (hn : ps.length ≤ 64) (hp : ∀ p ∈ ps, Bytes p ∧ p.length ≤ 8) : ∀ (d k i : Nat) (acc : List Int), ps.length - i = d → i ≤ ps.length → 12 * d < k → acc.length ≤ i →
    num_Take.l0 k acc ps ps.length i = some (acc ++ (ps.drop i).map val, 0) := by
  intro d
  induction d with
  | zero =>
    intro k i acc hd hi hk ha
    obtain ⟨k, rfl⟩ : ∃ m, k = m + 1 := ⟨k - 1, by omega⟩
    simp only [num_Take.l0]
    rw [if_neg (by omega), List.drop_of_length_le (by omega), List.map_nil, List.append_nil]
  | succ d ih =>
    intro k i acc hd hi hk ha
    obtain ⟨k, rfl⟩ : ∃ m, k = m + 1 := ⟨k - 1, by omega⟩
    have hw := wrap_succ i (by omega)
    have hr := rdL5_nat ps i (by omega)
    have hpi := hp ps[i] (List.getElem_mem (by omega))
    have h1 := take_l1 acc ps[i] ps ps.length i hpi.1 hpi.2 ps[i].length k 0 rfl (by omega) (by omega)
    rw [List.drop_of_length_le (Nat.le_refl _), val] at h1
    rw [num_Take.l0, if_pos (by omega), if_pos (by omega), if_pos (by omega), hr, show (0 : Int) = ((0 : Nat) : Int) from rfl]
    rw [show ((0 : Nat) : Int) = (0 : Int) from rfl] at h1
    rw [show ((0 : Nat) : Int) = (0 : Int) from rfl, h1]
    obtain ⟨q, hq⟩ : ∃ m, k - ps[i].length = m + 1 := ⟨k - ps[i].length - 1, by omega⟩
    rw [hq, num_Take.l1, if_neg (by omega), if_pos (by omega), hw, ih q (i + 1) _ (by omega) (by omega) (by omega) (by rw [List.length_append]; simp; omega), List.drop_eq_getElem_cons (by omega : i < ps.length), List.map_cons, List.append_assoc]
    rfl

theorem cutGo_small : ∀ (sizes b : List Int), sizes.any oddSize = false → ∀ p ∈ cutGo sizes b, p.length ≤ 8
  | [], _, _, p, hp => by simp [cutGo] at hp
  | n :: t, b, ho, p, hp => by
    rw [List.any_cons, Bool.or_eq_false_iff] at ho
    rw [cutGo, List.mem_cons] at hp
    rcases hp with rfl | hp
    · have : n ≤ 8 := by
        have := ho.1
        simp only [oddSize, Bool.or_eq_false_iff, decide_eq_false_iff_not] at this
        omega
      rw [List.length_take]; omega
    · exact cutGo_small t _ ho.2 p hp

theorem take_eq (b sizes : List Int) (hb : Bytes b) {k : Nat} (hk : 1000 ≤ k) : num_Take.f k b sizes = some (takeR b sizes) := by
  unfold num_Take.f takeR
  rw [numbers_eq]
  by_cases ho : okSizes sizes = true
  · have ht := total_ok ho
    rw [ho, if_pos rfl, if_pos rfl, Option.bind_some, if_pos rfl, num_Cut.f, cut_eq, if_neg (by omega), Option.bind_some]
    by_cases h2 : total sizes = (b.length : Int)
    · rw [if_pos h2, if_pos rfl, if_pos h2]
      unfold okSizes at ho
      rw [Bool.and_eq_true, decide_eq_true_eq, Bool.not_eq_true'] at ho
      have hl : (cutGo sizes b).length = sizes.length := cutGo_length _ _
      have := take_l0 (cutGo sizes b) (by omega) (fun p hp => ⟨cutGo_bytes _ _ hb p hp, cutGo_small _ _ ho.1 p hp⟩) (cutGo sizes b).length k 0 [] rfl (by omega) (by omega) (by simp)
      exact this
    · rw [if_neg h2, if_neg (by decide), if_neg h2]
  · rw [Bool.eq_false_iff.mpr ho]; rfl

theorem alive_all {k : Nat} (hk : 60 ≤ k) : law01_alive.f k = some true := at_rounds (g := fun k => law01_alive.f k) law01_alive.mono hk (by decide +kernel)

end Go.Proofs.Ytncpilnallghpaa
