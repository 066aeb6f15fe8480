/-
Parts, joined, are the bytes, and have the sizes that were asked for: any bytes and sizes (law NumParts answers true).
Conditions: none beside the law's own.
-/
import Derived.Test.YtncpilnallghpaaPAll37
import Derived.Test.YtncpilnallghpaaNumTake
namespace Go.Proofs.Ytncpilnallghpaa.Pure
open Go.RowKit Go.Proofs.Ytncpilnallghpaa Go.Proofs.Ytncpilnallghpaa.PAll Go.Proofs.YtncpilnallghpaaW.PrintWords Go.Proofs.YtncpilnallghpaaW.PrintLast

/-- Sizes together, where none is below 0. -/
def sumZ : List Int → Int
  | [] => 0
  | n :: t => n + sumZ t
theorem numSum_sumZ : ∀ (l : List Int) (s t : Int), numSum s l = some t → (∀ n ∈ l, 0 ≤ n) ∧ t = s + sumZ l
  | [], s, t, h => by cases h; exact ⟨fun n hn => by simp at hn, by simp [sumZ]⟩
  | n :: l, s, t, h => by
    rw [numSum] at h
    by_cases hc : n < 0 ∨ 65536 - s < n
    · rw [if_pos hc] at h; cases h
    · rw [if_neg hc] at h
      obtain ⟨h1, h2⟩ := numSum_sumZ l _ _ h
      refine ⟨fun x hx => ?_, by rw [sumZ]; omega⟩
      rcases List.mem_cons.1 hx with rfl | hx
      · omega
      · exact h1 x hx

theorem total_sumZ {l : List Int} (h : 0 ≤ total l) : l.length ≤ 64 ∧ (∀ n ∈ l, 0 ≤ n) ∧ total l = sumZ l := by
  unfold total at h ⊢
  by_cases hl : 64 < l.length
  · rw [if_pos hl] at h; omega
  · rw [if_neg hl] at h ⊢
    cases e : numSum 0 l with
    | none => rw [e] at h; simp at h
    | some t =>
      obtain ⟨h1, h2⟩ := numSum_sumZ l 0 t e
      exact ⟨by omega, h1, by simpa using h2⟩

theorem sumZ_nonneg : ∀ (l : List Int), (∀ n ∈ l, 0 ≤ n) → 0 ≤ sumZ l
  | [], _ => Int.le_refl _
  | n :: t, h => by
    have := sumZ_nonneg t (fun x hx => h x (List.mem_cons_of_mem _ hx))
    have := h n List.mem_cons_self
    rw [sumZ]; omega

/-- Parts: how long each is, and that they are the bytes. -/
theorem cutGo_parts : ∀ (sizes b : List Int), (∀ n ∈ sizes, 0 ≤ n) → sumZ sizes = (b.length : Int) → (cutGo sizes b).flatten = b ∧ ∀ (i : Nat) (p : List Int) (n : Int), (cutGo sizes b)[i]? = some p → sizes[i]? = some n → (p.length : Int) = n
  | [], b, _, h => by
    have : b = [] := List.eq_nil_of_length_eq_zero (by rw [sumZ] at h; omega)
    exact ⟨by rw [cutGo, this]; rfl, fun i p n hp => by simp [cutGo] at hp⟩
  | n :: t, b, hn, h => by
    have h0 := hn n List.mem_cons_self
    have ht := sumZ_nonneg t (fun x hx => hn x (List.mem_cons_of_mem _ hx))
    rw [sumZ] at h
    obtain ⟨h1, h2⟩ := cutGo_parts t (b.drop n.toNat) (fun x hx => hn x (List.mem_cons_of_mem _ hx)) (by rw [List.length_drop]; omega)
    refine ⟨by rw [cutGo, List.flatten_cons, h1, List.take_append_drop], fun i p m hp hm => ?_⟩
    rw [cutGo] at hp
    cases i with
    | zero =>
      simp only [List.getElem?_cons_zero, Option.some.injEq] at hp hm
      rw [← hp, ← hm, List.length_take]; omega
    | succ i =>
      rw [List.getElem?_cons_succ] at hp hm
      exact h2 i p m hp hm

theorem parts_l0 (b sizes : List Int) (hb : b.length ≤ 5000) (hn : ∀ n ∈ sizes, 0 ≤ n) (hl : sizes.length ≤ 64) (hs : sumZ sizes = (b.length : Int)) : ∀ (d k i : Nat) (acc : List Int), sizes.length - i = d → i ≤ sizes.length → d < k →
    acc ++ ((cutGo sizes b).drop i).flatten = b → law01_NumParts.l0 k b sizes true (cutGo sizes b) acc i = some true := by
  obtain ⟨hj, hp⟩ := cutGo_parts sizes b hn hs
  have hlen := cutGo_length sizes b
  intro d
  induction d with
  | zero =>
    intro k i acc hd hi hk ha
    obtain ⟨k, rfl⟩ : ∃ m, k = m + 1 := ⟨k - 1, by omega⟩
    rw [List.drop_of_length_le (by omega), List.flatten_nil, List.append_nil] at ha
    simp only [law01_NumParts.l0]
    rw [if_neg (by omega), if_pos trivial, ha, same_self]; rfl
  | succ d ih =>
    intro k i acc hd hi hk ha
    obtain ⟨k, rfl⟩ : ∃ m, k = m + 1 := ⟨k - 1, by omega⟩
    have hw := wrap_succ i (by omega)
    have hr := rdL5_nat (cutGo sizes b) i (by omega)
    have hr2 := rd_nat sizes i (by omega)
    have hpl := hp i _ _ (List.getElem?_eq_getElem (by omega)) (List.getElem?_eq_getElem (by omega : i < sizes.length))
    rw [List.drop_eq_getElem_cons (by omega : i < (cutGo sizes b).length), List.flatten_cons, ← List.append_assoc] at ha
    have hal := congrArg List.length ha
    rw [List.length_append, List.length_append] at hal
    simp only [law01_NumParts.l0]
    rw [if_pos (by omega), if_pos (by omega), if_pos (by omega), hr, hr2, if_pos hpl, if_pos (by omega), hw]
    exact ih k (i + 1) _ (by omega) (by omega) (by omega) ha

theorem NumParts : law01_NumParts.Pure := by
  intro b sizes _ _ hb0 _ _ hi
  refine ⟨500, ?_⟩
  unfold law01_NumParts.f
  rw [alive_all (by omega), Option.bind_some]
  by_cases hl2 : (b.length : Int) > 5000
  · rw [if_pos hl2]; rfl
  rw [if_neg hl2]
  by_cases hs : (sizes.length : Int) > 100
  · rw [if_pos hs]; rfl
  rw [if_neg hs]
  simp only [law01_NumParts.j0, num_Cut.f, num_Size.f, cut_eq, sizeR_eq, Option.bind_some, Bool.not_true, Bool.false_eq_true, if_false, if_true]
  by_cases h0 : total sizes < 0
  · simp only [if_pos h0]
    rfl
  · simp only [if_neg h0]
    by_cases h2 : total sizes = (b.length : Int)
    · simp only [if_true, h2]
      obtain ⟨hl, hn, hz⟩ := total_sumZ (by omega : 0 ≤ total sizes)
      have hlen := cutGo_length sizes b
      have hj := (cutGo_parts sizes b hn (by omega)).1
      rw [show (((cutGo sizes b).length : Int) != (sizes.length : Int)) = false from by rw [hlen]; simp]
      have := parts_l0 b sizes (by omega) hn hl (by omega) sizes.length 498 0 [] rfl (by omega) (by omega) (by simpa using hj)
      simp only [law01_NumParts.j1, Bool.false_eq_true, if_false]
      exact this
    · simp only [if_neg h2, if_true]
      rw [if_neg (by decide), if_pos (by rfl)]
      exact congrArg some (by simpa using h2)

end Go.Proofs.Ytncpilnallghpaa.Pure
