/-
What was put is read; all other places stay (law EntryBack answers true).
Conditions: none beside the law's own.
-/
import Derived.Test.YtnnknbbgkjgbcaaPAll25
import Derived.Test.YtnnknbbgkjgbcaaEntryRead
namespace Go.Proofs.Ytnnknbbgkjgbcaa.Pure
open Go.RowKit Go.Proofs.Ytnnknbbgkjgbcaa Go.Proofs.Ytnnknbbgkjgbcaa.PAll Go.Proofs.YtnnknbbgkjgbcaaW.PrintWords Go.Proofs.YtnnknbbgkjgbcaaW.PrintLast

theorem alive_back : law19_alive.f 300 = some true := by decide +kernel

theorem putL_length {b : List Int} {m : Nat} (p : Int) (h : m + 4 ≤ b.length) : (putL b m p).length = b.length := by
  unfold putL
  rw [List.length_append, List.length_append, List.length_take, List.length_drop]
  simp only [List.length_cons, List.length_nil]
  omega
theorem putL_get {b : List Int} {m : Nat} (p : Int) (h : m + 4 ≤ b.length) (i : Nat) (hi : i < m ∨ m + 4 ≤ i) : (putL b m p)[i]? = b[i]? := by
  have hl : (b.take m).length = m := by rw [List.length_take]; omega
  unfold putL
  rcases hi with hi | hi
  · rw [List.append_assoc, List.getElem?_append_left (by omega), List.getElem?_take, if_pos hi]
  · rw [List.getElem?_append_right (by rw [List.length_append, hl]; simp only [List.length_cons, List.length_nil]; omega), List.length_append, hl, List.getElem?_drop]
    simp only [List.length_cons, List.length_nil]
    congr 1
    omega
theorem cut_same {b : List Int} {m : Nat} (p : Int) (h : m + 4 ≤ b.length) : ((putL b m p).take (m + 4)).drop m = [p, 0, 0, 0] := by
  have hl : (b.take m).length = m := by rw [List.length_take]; omega
  have hl2 : (b.take m ++ [p, 0, 0, 0]).length = m + 4 := by rw [List.length_append, hl]; rfl
  unfold putL
  rw [List.take_append_of_le_length (by omega), List.take_of_length_le (by omega), List.drop_append_of_le_length (by omega), List.drop_of_length_le (by omega), List.nil_append]
theorem cut_other {b : List Int} {m n : Nat} (p : Int) (h : m + 4 ≤ b.length) (hn : n + 4 ≤ m ∨ m + 4 ≤ n) : ((putL b m p).take (n + 4)).drop n = (b.take (n + 4)).drop n := by
  apply List.ext_getElem?
  intro j
  rw [List.getElem?_drop, List.getElem?_drop, List.getElem?_take, List.getElem?_take]
  by_cases hj : n + j < n + 4
  · rw [if_pos hj, if_pos hj, putL_get p h _ (by omega)]
  · rw [if_neg hj, if_neg hj]

theorem putL_bytes {b : List Int} {m : Nat} {p : Int} (hb : Bytes b) (h0 : 0 ≤ p) (h1 : p < 256) : Bytes (putL b m p) := by
  intro x hx
  unfold putL at hx
  rcases List.mem_append.1 hx with hx | hx
  · rcases List.mem_append.1 hx with hx | hx
    · exact hb.take _ x hx
    · simp only [List.mem_cons, List.not_mem_nil, or_false] at hx
      rcases hx with rfl | rfl | rfl | rfl <;> omega
  · exact hb.drop _ x hx

theorem EntryBack : law19_EntryBack.Pure := by
  intro high b place other pos _ _ _ hb0 _ _ _
  have hb := bytes_of_wf hb0
  refine ⟨300, ?_⟩
  unfold law19_EntryBack.f
  rw [alive_back, Option.bind_some]
  by_cases hl : (b.length : Int) > 100
  · rw [if_pos hl]; rfl
  rw [if_neg hl]
  simp only [law19_EntryBack.j0, Bool.not_true, Bool.false_eq_true, if_false, put_eq high b place pos (by omega), Option.bind_some]
  unfold putPR
  cases hok : atOk high b.length place with
  | false => rfl
  | true =>
    rw [if_pos rfl]
    by_cases hc : checkR high pos = 0
    · obtain ⟨hh, _, _, _, hp0, hp1⟩ := atOk_facts hok
      have hm : (4 * place).toNat + 4 ≤ b.length := by omega
      have ht := high_bounds hh
      have hpos : 0 ≤ pos ∧ pos ≤ two high := by
        unfold checkR at hc
        rw [hh, if_pos rfl] at hc
        by_cases h : 0 ≤ pos ∧ pos ≤ two high
        · exact h
        · rw [if_neg h] at hc; cases hc
      have hx := putL_bytes (m := (4 * place).toNat) hb hpos.1 (show pos < 256 by omega)
      have hlen := putL_length pos hm
      have hr1 : readR high (putL b (4 * place).toNat pos) place = (pos, 0) := by
        unfold readR
        rw [hlen, hok, if_pos rfl, cut_same pos hm]
        have hv : val [pos, 0, 0, 0] = pos := by simp only [val]; omega
        rw [hv, if_pos hpos.2]
      have hr2 : place ≠ other → readR high (putL b (4 * place).toNat pos) other = readR high b other := by
        intro hne
        unfold readR
        rw [hlen]
        cases ho : atOk high b.length other with
        | false => rfl
        | true =>
          obtain ⟨_, _, _, _, hq0, hq1⟩ := atOk_facts ho
          rw [if_pos rfl, if_pos rfl, cut_other pos hm (by omega)]
      simp only [if_pos hc, if_true, read_eq high _ _ hb, read_eq high _ _ hx, Option.bind_some, hr1, hlen]
      by_cases he : other = place
      · rw [if_pos he]
      · rw [if_neg he, hr2 (fun h => he h.symm), if_pos rfl, beq_self_eq_true]
    · rw [if_neg hc]
      simp only [if_neg hc, if_true]
      rfl

end Go.Proofs.Ytnnknbbgkjgbcaa.Pure
