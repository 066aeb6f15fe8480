/-
A slot tells its block, and what is read of bytes is the slot's in one way (law SlotBack answers true).
Conditions: none beside the law's own.
-/
import Derived.Test.YtnnknbbgkjgbcaaSlotPure
import Derived.Test.YtnnknbbgkjgbcaaStatedSlotBack
namespace Go.Proofs.Ytnnknbbgkjgbcaa.Pure
open Go.RowKit Go.Proofs.Ytnnknbbgkjgbcaa Go.Proofs.Ytnnknbbgkjgbcaa.PAll Go.Proofs.YtnnknbbgkjgbcaaW.PrintWords Go.Proofs.YtnnknbbgkjgbcaaW.PrintLast

theorem alive9 {k : Nat} (hk : 60 ≤ k) : law09_alive.f k = some true := at_rounds (g := fun k => law09_alive.f k) law09_alive.mono hk (by decide +kernel)

theorem same9 (a b : Int) (d : List Int) : ref09_Same.f a b d a b d = some true := by
  unfold ref09_Same.f
  rw [if_pos rfl, if_pos rfl, same_self]
  rfl

theorem back_j1 (a0 a1 a2 a3 : Int) (s : List Int) (hb : Bytes s) : law09_SlotBack.j1 61 s true false a0 a1 a2 a3 = some true := by
  rw [law09_SlotBack.j1, if_neg (by decide), readS_eq a0 a1 a2 a3 s hb, Option.bind_some]
  unfold readS
  by_cases hl : levelOk a0 a1 a2 a3
  · rw [if_pos hl]
    by_cases hn : (s.length : Int) = 8 + a1
    · rw [if_pos hn]
      by_cases hz : s = List.replicate (8 + a1).toNat 0
      · rw [if_pos hz, if_pos rfl, if_neg (by decide), noneS_eq a0 a1 a2 a3 (by decide), Option.bind_some, if_pos hl, if_pos rfl, if_pos rfl, ← hz, same_self]
        rfl
      · rw [if_neg hz]
        by_cases hm : mayS a0 a1 a2 (val (s.take 4) - 1) (val ((s.drop 4).take 4)) (s.drop 8).length
        · rw [if_pos hm, if_pos rfl, if_pos rfl, writeS_eq, Option.bind_some]
          unfold writeS
          dsimp only
          rw [if_pos (And.intro hl hm), if_pos rfl, if_pos rfl, of_read hb hl hn hm, same_self]
          rfl
        · rw [if_neg hm]; dsimp only; rw [if_neg (by decide), if_pos rfl, if_neg (by decide), same9]; rfl
    · rw [if_neg hn]; dsimp only; rw [if_neg (by decide), if_pos rfl, if_neg (by decide), same9]; rfl
  · rw [if_neg hl]; dsimp only; rw [if_neg (by decide), if_pos rfl, if_neg (by decide), same9]; rfl

theorem SlotBack : law09_SlotBack.Pure2 := by
  intro a0 a1 a2 a3 b0 b1 d s w0 w1 w2 w3 w4 w5 hd bd hs bs
  have hbd := bytes_of_wf bd
  have hbs := bytes_of_wf bs
  refine ⟨63, ?_⟩
  unfold law09_SlotBack.f
  rw [alive9 (by decide), Option.bind_some]
  by_cases h1 : (1000 : Int) < (d.length : Int)
  · rw [if_pos h1]; rfl
  · rw [if_neg h1]
    by_cases h2 : (1000 : Int) < (s.length : Int)
    · rw [if_pos h2]; rfl
    · rw [if_neg h2, law09_SlotBack.j0, if_neg (by decide), writeS_eq, Option.bind_some]
      unfold writeS
      by_cases hm : levelOk a0 a1 a2 a3 ∧ mayS a0 a1 a2 b0 b1 d.length
      · obtain ⟨hr1, hr2⟩ := read_of hbd hm.1 hm.2
        rw [if_pos hm, readS_eq _ _ _ _ _ hr1, hr2, Option.bind_some, if_pos rfl, if_pos rfl, if_pos rfl, same9, Option.bind_some, if_pos rfl]
        exact at_rounds (g := fun k => law09_SlotBack.j1 k s true false a0 a1 a2 a3) (fun k => (law09_SlotBack.mono_l k).2 _ _ _ _ _ _ _) (by decide) (back_j1 a0 a1 a2 a3 s hbs)
      · rw [if_neg hm, readS_eq _ _ _ _ _ (by intro x hx; cases hx), Option.bind_some, if_neg (by decide)]
        exact at_rounds (g := fun k => law09_SlotBack.j1 k s true false a0 a1 a2 a3) (fun k => (law09_SlotBack.mono_l k).2 _ _ _ _ _ _ _) (by decide) (back_j1 a0 a1 a2 a3 s hbs)
end Go.Proofs.Ytnnknbbgkjgbcaa.Pure
