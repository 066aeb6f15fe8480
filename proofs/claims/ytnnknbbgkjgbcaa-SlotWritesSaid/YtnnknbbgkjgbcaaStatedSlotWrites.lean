-- The pure statement of law SlotWrites, written by a program of this session.
import Derived.Test.YtnnknbbgkjgbcaaPAll46
namespace Go.Proofs.Ytnnknbbgkjgbcaa
open Go.RowKit Go.Proofs.Ytnnknbbgkjgbcaa.PAll Go.Proofs.YtnnknbbgkjgbcaaW.PrintWords
/-- The one pure statement of SlotWrites. -/
def law09_SlotWrites.Pure2 : Prop := ∀ (a0_0 : Int) (a0_1 : Int) (a0_2 : Int) (a0_3 : Int) (a1_0 : Int) (a1_1 : Int) (l1_2 : List Int) (a2_0 : Int) (a2_1 : Int) (l2_2 : List Int), (Lit.int .i64 a0_0).wf = true → (Lit.int .i64 a0_1).wf = true → (Lit.int .i64 a0_2).wf = true → (Lit.int .i64 a0_3).wf = true → (Lit.int .i64 a1_0).wf = true → (Lit.int .i64 a1_1).wf = true → l1_2.length ≤ maxLen → (∀ x ∈ l1_2, (Lit.int .u8 x).wf = true) → (Lit.int .i64 a2_0).wf = true → (Lit.int .i64 a2_1).wf = true → l2_2.length ≤ maxLen → (∀ x ∈ l2_2, (Lit.int .u8 x).wf = true) → ∃ k, law09_SlotWrites.f k a0_0 a0_1 a0_2 a0_3 a1_0 a1_1 l1_2 a2_0 a2_1 l2_2 = some true
end Go.Proofs.Ytnnknbbgkjgbcaa
