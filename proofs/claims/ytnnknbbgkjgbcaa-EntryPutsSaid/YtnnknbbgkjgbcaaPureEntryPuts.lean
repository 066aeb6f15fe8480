/-
The position at a place, and a block with one there, are the document's; the block stays (law EntryPuts answers true).
Conditions: none beside the law's own.
-/
import Derived.Test.YtnnknbbgkjgbcaaPAll23
import Derived.Test.YtnnknbbgkjgbcaaEntryRef
namespace Go.Proofs.Ytnnknbbgkjgbcaa.Pure
open Go.RowKit Go.Proofs.Ytnnknbbgkjgbcaa Go.Proofs.Ytnnknbbgkjgbcaa.PAll Go.Proofs.YtnnknbbgkjgbcaaW.PrintWords Go.Proofs.YtnnknbbgkjgbcaaW.PrintLast

theorem puts_l0 (b own : List Int) (h : own = b) : ∀ (d k i : Nat) (x : List Int), x.length - i = d → x.length ≤ 2000 → d < k → law19_EntryPuts.l0 k b own x true i = some true := by
  subst h
  intro d
  induction d with
  | zero =>
    intro k i x hd hx hk
    obtain ⟨k, rfl⟩ : ∃ m, k = m + 1 := ⟨k - 1, by omega⟩
    rw [law19_EntryPuts.l0, if_neg (by omega), if_pos (by rfl), same_self]; rfl
  | succ d ih =>
    intro k i x hd hx hk
    obtain ⟨k, rfl⟩ : ∃ m, k = m + 1 := ⟨k - 1, by omega⟩
    rw [law19_EntryPuts.l0, if_pos (by omega), if_pos (by omega), wrap_succ i (by omega)]
    exact ih k (i + 1) _ (by rw [List.length_set]; omega) (by rw [List.length_set]; exact hx) (by omega)

theorem putPR_length (high : Int) (b : List Int) (place pos : Int) (hm : b.length ≤ 1000) : (putPR high b place pos).1.length ≤ 2000 := by
  unfold putPR
  cases hok : atOk high b.length place with
  | false => exact Nat.zero_le _
  | true =>
    rw [if_pos rfl]
    by_cases hc : checkR high pos = 0
    · rw [if_pos hc]
      unfold putL
      rw [List.length_append, List.length_append, List.length_take, List.length_drop]
      simp only [List.length_cons, List.length_nil]
      omega
    · rw [if_neg hc]; exact Nat.zero_le _

theorem EntryPuts : law19_EntryPuts.Pure := by
  intro high b place pos _ _ _ hb0 _ _
  have hb := bytes_of_wf hb0
  refine ⟨3000, ?_⟩
  unfold law19_EntryPuts.f
  by_cases hl : (b.length : Int) > 100
  · rw [if_pos hl]
  rw [if_neg hl]
  have e1 : ref19_Read.f 3000 high b place = _ := at_rounds (g := fun k => ref19_Read.f k high b place) (ref19_Read.mono _ _ _) (by decide : 70 ≤ 3000) (ref_read_eq high b place hb (by omega))
  have e2 : ref19_Put.f 3000 high b place pos = _ := at_rounds (g := fun k => ref19_Put.f k high b place pos) (ref19_Put.mono _ _ _ _) (by decide : 70 ≤ 3000) (ref_put_eq high b place pos (by omega))
  have hp := putPR_length high b place pos (by omega)
  simp only [Option.bind_some, List.nil_append, List.length_nil, Nat.zero_add]
  rw [if_pos (by omega), read_eq high b place hb, e1, put_eq high b place pos (by omega), e2]
  simp only [Option.bind_some, if_true, same_self, beq_self_eq_true]
  rw [law19_EntryPuts.j0]
  exact puts_l0 b b rfl _ 2999 0 _ rfl hp (by omega)

end Go.Proofs.Ytnnknbbgkjgbcaa.Pure
