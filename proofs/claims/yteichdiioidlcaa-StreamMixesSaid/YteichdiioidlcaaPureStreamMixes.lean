/-
Two texts put together by exclusive or are the document's, and stay (law StreamMixes answers true).
Conditions: none beside the law's own.
-/
import Derived.Test.YteichdiioidlcaaPSM4
namespace Go.Proofs.Yteichdiioidlcaa.Pure
open Go.RowKit Go.Proofs.Yteichdiioidlcaa Go.Proofs.Yteichdiioidlcaa.PSM Go.Proofs.YteichdiioidlcaaW.PrintWords Go.Proofs.YteichdiioidlcaaW.PrintLast
set_option linter.unusedVariables false
set_option linter.unusedSimpArgs false

theorem wrap_succ (i : Nat) (h : i ≤ 140737488355328) : wrap64 ((i : Int) + 1) = ((i + 1 : Nat) : Int) := by unfold wrap64; omega
theorem same_self (l : List Int) : ref01_Same.f l l = some true := by
  unfold ref01_Same.f
  rw [beq_self_eq_true]
theorem mixed_l0 (l0 l1 : List Int) (he : l0.length = l1.length) (hl : l0.length ≤ 3000) : ∀ (d k i : Nat), l0.length - i = d → i ≤ l0.length → d < k → ref04_Mixed.l0 k l0 l1 (xorUp l0 l1 i) i = some (xorUp l0 l1 l0.length) := by
  intro d
  induction d with
  | zero =>
    intro k i hd hi hk
    obtain ⟨k, rfl⟩ : ∃ m, k = m + 1 := ⟨k - 1, by omega⟩
    have : i = l0.length := by omega
    subst this
    rw [ref04_Mixed.l0, if_neg (by omega)]
  | succ d ih =>
    intro k i hd hi hk
    obtain ⟨k, rfl⟩ : ∃ m, k = m + 1 := ⟨k - 1, by omega⟩
    have hw := wrap_succ i (by omega)
    have hs := xorUp_succ l0 l1 i
    have hx : xorUp l0 l1 i ++ [Go.bits .xor .u8 (rd l0 i) (rd l1 i)] = xorUp l0 l1 (i + 1) := hs.symm
    rw [ref04_Mixed.l0, if_pos (by omega), if_pos (by omega), if_pos (by omega), if_pos (by rw [xorUp_length]; omega), hx, hw, ih k (i + 1) (by omega) (by omega) (by omega)]
theorem mixes_l0 (a b own mine : List Int) (h1 : own = a) (h2 : mine = b) : ∀ (d k i : Nat) (x : List Int), x.length - i = d → x.length ≤ 3000 → i ≤ x.length → d < k → law04_StreamMixes.l0 k a b own mine x true i = some true := by
  subst h1
  subst h2
  intro d
  induction d with
  | zero =>
    intro k i x hd hl hi hk
    obtain ⟨k, rfl⟩ : ∃ m, k = m + 1 := ⟨k - 1, by omega⟩
    rw [law04_StreamMixes.l0, if_neg (by omega), if_pos rfl, same_self, Option.bind_some, if_pos rfl, same_self]
    rfl
  | succ d ih =>
    intro k i x hd hl hi hk
    obtain ⟨k, rfl⟩ : ∃ m, k = m + 1 := ⟨k - 1, by omega⟩
    have hw := wrap_succ i (by omega)
    rw [law04_StreamMixes.l0, if_pos (by omega), if_pos (by omega), hw, ih k (i + 1) _ (by rw [List.length_set]; omega) (by rw [List.length_set]; omega) (by rw [List.length_set]; omega) (by omega)]

theorem StreamMixes : law04_StreamMixes.Pure := by
  intro a b ha _ wa hb _ wb
  refine ⟨3100, ?_⟩
  unfold law04_StreamMixes.f
  by_cases h1 : (3000 : Int) < (a.length : Int)
  · rw [if_pos h1]; rfl
  · rw [if_neg h1]
    by_cases h2 : (3000 : Int) < (b.length : Int)
    · rw [decide_eq_true h2]; rfl
    · rw [decide_eq_false h2, law04_StreamMixes.j0, if_neg (by decide), Option.bind_some, if_pos (by simp; omega), Option.bind_some, Option.bind_some, if_pos (by simp; omega), Option.bind_some, List.nil_append, List.nil_append]
      unfold stream_Xor.f ref04_Xor.f
      by_cases he : a.length = b.length
      · rw [if_pos he, if_pos (by omega), Option.bind_some, if_pos (by omega)]
        unfold ref04_Mixed.f
        have hm := mixed_l0 a b he (by omega) a.length 3099 0 rfl (by omega) (by omega)
        rw [show xorUp a b 0 = [] from rfl, show ((0 : Nat) : Int) = 0 from rfl] at hm
        rw [hm, Option.bind_some, Option.bind_some, same_self, Option.bind_some, if_pos rfl, law04_StreamMixes.j1]
        exact mixes_l0 a b a b rfl rfl _ _ 0 _ rfl (by rw [xorUp_length]; omega) (by omega) (by rw [xorUp_length]; omega)
      · rw [if_neg he, Option.bind_some, if_neg (by omega), Option.bind_some, same_self, Option.bind_some, if_pos rfl, law04_StreamMixes.j1]
        exact mixes_l0 a b a b rfl rfl 0 _ 0 [] rfl (by simp) (by simp) (by decide)
end Go.Proofs.Yteichdiioidlcaa.Pure
