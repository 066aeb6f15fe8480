-- The pure statement of law SlotBack, written by a program of this session.
import Derived.Test.YtnnknbbgkjgbcaaPAll51
namespace Go.Proofs.Ytnnknbbgkjgbcaa
open Go.RowKit Go.Proofs.Ytnnknbbgkjgbcaa.PAll Go.Proofs.YtnnknbbgkjgbcaaW.PrintWords
/-- The one pure statement of SlotBack. -/
def law09_SlotBack.Pure2 : Prop := ∀ (a0_0 : Int) (a0_1 : Int) (a0_2 : Int) (a0_3 : Int) (a1_0 : Int) (a1_1 : Int) (l1_2 : List Int) (l2 : List Int), (Lit.int .i64 a0_0).wf = true → (Lit.int .i64 a0_1).wf = true → (Lit.int .i64 a0_2).wf = true → (Lit.int .i64 a0_3).wf = true → (Lit.int .i64 a1_0).wf = true → (Lit.int .i64 a1_1).wf = true → l1_2.length ≤ maxLen → (∀ x ∈ l1_2, (Lit.int .u8 x).wf = true) → l2.length ≤ maxLen → (∀ x ∈ l2, (Lit.int .u8 x).wf = true) → ∃ k, law09_SlotBack.f k a0_0 a0_1 a0_2 a0_3 a1_0 a1_1 l1_2 l2 = some true
end Go.Proofs.Ytnnknbbgkjgbcaa
