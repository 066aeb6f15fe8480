/-
For any bytes and sizes: what num.Take and num.Cut answer is the document's answer; what was handed in stays, also where the parts are written over (law NumTakes answers true).
Conditions: none beside the law's own.
-/
import Derived.Test.YtncpilnallghpaaStatedNumTakes
import Derived.Test.YtncpilnallghpaaNumTake
namespace Go.Proofs.Ytncpilnallghpaa.Pure
open Go.RowKit Go.Proofs.Ytncpilnallghpaa Go.Proofs.Ytncpilnallghpaa.PAll Go.Proofs.YtncpilnallghpaaW.PrintWords Go.Proofs.YtncpilnallghpaaW.PrintLast

theorem number_l0 (p : List Int) (hp : Bytes p) (h8 : p.length ≤ 8) : ∀ (j k : Nat), j ≤ p.length → j < k → ref01_Number.l0 k p (val (p.drop j)) ((j : Int) - 1) = some (val p) := by
  intro j
  induction j with
  | zero =>
    intro k hj hk
    obtain ⟨k, rfl⟩ : ∃ m, k = m + 1 := ⟨k - 1, by omega⟩
    simp only [ref01_Number.l0]
    rw [if_neg (by omega), List.drop_zero]
  | succ j ih =>
    intro k hj hk
    obtain ⟨k, rfl⟩ : ∃ m, k = m + 1 := ⟨k - 1, by omega⟩
    have hr := rd_nat p j (by omega)
    have hb := hp p[j] (List.getElem_mem (by omega))
    have hv := val_lt64 (hp.drop j) (by rw [List.length_drop]; omega)
    have hv1 := val_lt64 (hp.drop (j + 1)) (by rw [List.length_drop]; omega)
    have hs : val (p.drop j) = p[j] + 256 * val (p.drop (j + 1)) := by rw [List.drop_eq_getElem_cons (by omega : j < p.length), val]
    have e0 : ((j + 1 : Nat) : Int) - 1 = (j : Int) := by omega
    have e1 : wrap64 ((j : Int) - 1) = (j : Int) - 1 := by unfold wrap64; omega
    have e2 : IntKind.u64.wrap (IntKind.u64.wrap (256 * val (p.drop (j + 1))) + IntKind.u64.wrap (rd p j)) = val (p.drop j) := by
      rw [hr, u64_wrap', u64_wrap', u64_wrap', hs]
      rw [hs] at hv
      omega
    simp only [ref01_Number.l0]
    rw [e0, if_pos (by omega), if_pos (by omega), if_pos (by omega), e1, e2]
    exact ih k (by omega) (by omega)
theorem number_eq (p : List Int) (hp : Bytes p) (h8 : p.length ≤ 8) {k : Nat} (hk : 10 ≤ k) : ref01_Number.f k p = some (val p) := by
  unfold ref01_Number.f
  have := number_l0 p hp h8 p.length k (Nat.le_refl _) (by omega)
  rw [List.drop_length] at this
  rw [show wrap64 ((p.length : Int) - 1) = (p.length : Int) - 1 by unfold wrap64; omega]
  exact this
theorem take_drop_swap (b : List Int) (s m : Nat) : (b.take (s + m)).drop s = (b.drop s).take m := by
  rw [List.drop_take]
  congr 1
  omega

theorem step_facts {b sizes : List Int} {i s : Nat} (hi : i < sizes.length) (hs : numSum (s : Int) (sizes.drop i) = some (b.length : Int)) :
    ∃ m : Nat, rd sizes i = (m : Int) ∧ s + m ≤ b.length ∧ numSum ((s + m : Nat) : Int) (sizes.drop (i + 1)) = some (b.length : Int) := by
  have hstep := (numSum_step hi (s : Int)).symm.trans hs
  have hcase : ¬ (rd sizes i < 0 ∨ 65536 - (s : Int) < rd sizes i) := fun hc => by rw [if_pos hc] at hstep; cases hstep
  rw [if_neg hcase] at hstep
  obtain ⟨m, hm⟩ := Int.eq_ofNat_of_zero_le (show 0 ≤ rd sizes i by omega)
  have hle := numSum_le _ _ _ hstep
  rw [hm] at hle hstep
  exact ⟨m, hm, by omega, by simpa using hstep⟩

theorem rtake_l0 (b sizes : List Int) (hb : Bytes b) (hodd : sizes.any oddSize = false) (hl : sizes.length ≤ 64) (hbl : b.length ≤ 5000) : ∀ (d k i s : Nat) (acc : List Int), sizes.length - i = d → i ≤ sizes.length → d + 20 < k → acc.length ≤ i →
    numSum (s : Int) (sizes.drop i) = some (b.length : Int) → ref01_Take.l0 k b sizes acc s i = some (acc ++ (cutGo (sizes.drop i) (b.drop s)).map val, 0) := by
  intro d
  induction d with
  | zero =>
    intro k i s acc hd hi hk ha hs
    obtain ⟨k, rfl⟩ : ∃ m, k = m + 1 := ⟨k - 1, by omega⟩
    simp only [ref01_Take.l0]
    rw [if_neg (by omega), List.drop_of_length_le (by omega), cutGo, List.map_nil, List.append_nil]
  | succ d ih =>
    intro k i s acc hd hi hk ha hs
    obtain ⟨k, rfl⟩ : ∃ m, k = m + 1 := ⟨k - 1, by omega⟩
    obtain ⟨m, hm, hle, hs'⟩ := step_facts (by omega) hs
    have hod := any_odd_rd hodd (i := i) (by omega)
    have hm8 : m ≤ 8 := by rw [hm] at hod; omega
    clear hod
    have hp : Bytes ((b.drop s).take m) := (hb.drop _).take _
    have hk10 : 10 ≤ k := by omega
    have hn := number_eq ((b.drop s).take m) hp (Nat.le_trans (List.length_take_le _ _) hm8) hk10
    have hg : cutGo (sizes.drop i) (b.drop s) = (b.drop s).take m :: cutGo (sizes.drop (i + 1)) (b.drop (s + m)) := by rw [cutGo_step (by omega), hm, Int.toNat_natCast, List.drop_drop]
    have hw := wrap_succ i (by omega)
    have hw2 : wrap64 ((s : Int) + (m : Int)) = ((s + m : Nat) : Int) := by unfold wrap64; omega
    simp only [ref01_Take.l0, hm, hw, hw2, Int.toNat_natCast, take_drop_swap, hn, Option.bind_some]
    clear hw hw2 hn
    rw [if_pos (by omega), if_pos (by omega), if_pos (by omega), if_pos (by omega), if_pos (by omega), if_pos (by omega)]
    rw [ih k (i + 1) (s + m) _ (by omega) (by omega) (by omega) (by rw [List.length_append]; simp; omega) hs', hg, List.map_cons, List.append_assoc, List.singleton_append]

theorem rcut_l0 (b sizes : List Int) (hl : sizes.length ≤ 64) (hbl : b.length ≤ 5000) : ∀ (d k i s : Nat) (acc : List (List Int)), sizes.length - i = d → i ≤ sizes.length → d + 20 < k → acc.length ≤ i →
    numSum (s : Int) (sizes.drop i) = some (b.length : Int) → ref01_Cut.l0 k b sizes acc s i = some (acc ++ cutGo (sizes.drop i) (b.drop s), 0) := by
  intro d
  induction d with
  | zero =>
    intro k i s acc hd hi hk ha hs
    obtain ⟨k, rfl⟩ : ∃ m, k = m + 1 := ⟨k - 1, by omega⟩
    simp only [ref01_Cut.l0]
    rw [if_neg (by omega), List.drop_of_length_le (by omega), cutGo, List.append_nil]
  | succ d ih =>
    intro k i s acc hd hi hk ha hs
    obtain ⟨k, rfl⟩ : ∃ m, k = m + 1 := ⟨k - 1, by omega⟩
    obtain ⟨m, hm, hle, hs'⟩ := step_facts (by omega) hs
    have hlt : ((b.drop s).take m).length < 140737488355328 := by
      have := List.length_take_le m (b.drop s)
      omega
    have hg : cutGo (sizes.drop i) (b.drop s) = (b.drop s).take m :: cutGo (sizes.drop (i + 1)) (b.drop (s + m)) := by rw [cutGo_step (by omega), hm, Int.toNat_natCast, List.drop_drop]
    have hw := wrap_succ i (by omega)
    have hw2 : wrap64 ((s : Int) + (m : Int)) = ((s + m : Nat) : Int) := by unfold wrap64; omega
    simp only [ref01_Cut.l0, Option.bind_some, List.nil_append, List.length_nil, Nat.zero_add, hm, hw, hw2, Int.toNat_natCast, take_drop_swap]
    clear hw hw2
    rw [if_pos (by omega), if_pos (by omega), if_pos (by omega), if_pos (by omega), if_pos (by omega), if_pos hlt, if_pos (by omega)]
    rw [ih k (i + 1) (s + m) _ (by omega) (by omega) (by omega) (by rw [List.length_append]; simp; omega) hs', hg, List.append_assoc, List.singleton_append]

theorem total_sum {sizes : List Int} {n : Nat} (h : total sizes = (n : Int)) : sizes.length ≤ 64 ∧ numSum 0 sizes = some (n : Int) := by
  unfold total at h
  by_cases hl : 64 < sizes.length
  · rw [if_pos hl] at h; omega
  · rw [if_neg hl] at h
    cases e : numSum 0 sizes with
    | none => rw [e] at h; simp at h
    | some t => rw [e] at h; simp at h; exact ⟨by omega, by rw [h]⟩

theorem rtake_eq (b sizes : List Int) (hb : Bytes b) (hbl : b.length ≤ 5000) (hsl : sizes.length ≤ 1000) (hv : ∀ x ∈ sizes, (Lit.int .i64 x).wf = true) {k : Nat} (hk : 2400 ≤ k) : ref01_Take.f k b sizes = some (takeR b sizes) := by
  unfold ref01_Take.f takeR
  rw [numbers_ref_eq sizes hsl hv hk, Option.bind_some]
  by_cases ho : okSizes sizes = true
  · rw [if_pos ho, if_pos ho, total_eq sizes hv (by omega), Option.bind_some]
    by_cases h2 : total sizes = (b.length : Int)
    · rw [if_pos h2.symm, if_pos h2]
      obtain ⟨hl, hs⟩ := total_sum h2
      unfold okSizes at ho
      rw [Bool.and_eq_true, decide_eq_true_eq, Bool.not_eq_true'] at ho
      have := rtake_l0 b sizes hb ho.1 hl hbl sizes.length k 0 0 [] rfl (by omega) (by omega) (by simp) (by simpa using hs)
      simpa using this
    · rw [if_neg (fun e => h2 e.symm), if_neg h2]
  · rw [if_neg ho, if_neg ho]

theorem rcut_eq (b sizes : List Int) (hbl : b.length ≤ 5000) (hv : ∀ x ∈ sizes, (Lit.int .i64 x).wf = true) {k : Nat} (hk : 2400 ≤ k) : ref01_Cut.f k b sizes = some (cutR b sizes) := by
  unfold ref01_Cut.f
  rw [cut_eq, total_eq sizes hv (by omega), Option.bind_some]
  by_cases h : total sizes < 0
  · rw [if_pos h, if_pos h]
  · rw [if_neg h, if_neg h]
    by_cases h2 : total sizes = (b.length : Int)
    · rw [if_pos h2.symm, if_pos h2]
      obtain ⟨hl, hs⟩ := total_sum h2
      have := rcut_l0 b sizes hl hbl sizes.length k 0 0 [] rfl (by omega) (by omega) (by simp) (by simpa using hs)
      simpa using this
    · rw [if_neg (fun e => h2 e.symm), if_neg h2]

theorem sameAll_l0 (l : List (List Int)) (hl : l.length ≤ 1000) : ∀ (d k i : Nat), l.length - i = d → d < k → ref01_SameAll.l0 k l l i = some true := by
  intro d
  induction d with
  | zero =>
    intro k i hd hk
    obtain ⟨k, rfl⟩ : ∃ m, k = m + 1 := ⟨k - 1, by omega⟩
    simp only [ref01_SameAll.l0]
    rw [if_neg (by omega)]
  | succ d ih =>
    intro k i hd hk
    obtain ⟨k, rfl⟩ : ∃ m, k = m + 1 := ⟨k - 1, by omega⟩
    have hw := wrap_succ i (by omega)
    simp only [ref01_SameAll.l0, same_self, Option.bind_some]
    rw [if_pos (by omega), if_pos (by omega), if_pos (by omega), if_pos trivial, hw]
    exact ih k (i + 1) (by omega) (by omega)
theorem sameAll_self (l : List (List Int)) (hl : l.length ≤ 1000) {k : Nat} (hk : l.length < k) : ref01_SameAll.f k l l = some true := by
  unfold ref01_SameAll.f
  rw [if_pos rfl]
  exact sameAll_l0 l hl _ k 0 rfl (by omega)

theorem takeR_len (b sizes : List Int) (h : sizes.length ≤ 100) : (takeR b sizes).1.length ≤ 100 := by
  unfold takeR
  split
  · split
    · simp [cutGo_length]; omega
    · simp
  · simp
theorem cutR_len (b sizes : List Int) (h : sizes.length ≤ 100) : (cutR b sizes).1.length ≤ 100 := by
  rw [cut_eq]
  split
  · simp
  · split
    · simp [cutGo_length]; omega
    · simp

theorem NumTakes : law01_NumTakes.Pure2 := by
  intro b sizes hl0 hb0 hl1 hi
  refine ⟨2400, ?_⟩
  unfold law01_NumTakes.f
  by_cases hz : 5000 < b.length ∨ 100 < sizes.length
  · rw [if_pos hz]
  · rw [if_neg hz]
    have hb := bytes_of_wf hb0
    have hv := hi
    rw [take_eq b sizes hb (by omega), num_Cut.f]
    have e3 := takeR_len b sizes (by omega)
    have e4 := cutR_len b sizes (by omega)
    simp only
    rw [if_pos]
    exact ⟨rtake_eq b sizes hb (by omega) (by omega) hv (by omega), rcut_eq b sizes (by omega) hv (by omega), sameNumbers_self _ (by omega) (by omega), sameAll_self _ (by omega) (by omega), same_self _, by
      have := sameInts_self sizes (by omega) 2400 (by omega)
      exact this, e4⟩
end Go.Proofs.Ytncpilnallghpaa.Pure
