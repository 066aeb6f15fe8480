-- The pure statement of law SlotReads, written by a program of this session.
import Derived.Test.YtnnknbbgkjgbcaaReadsCalls
namespace Go.Proofs.Ytnnknbbgkjgbcaa
open Go.RowKit Go.Proofs.Ytnnknbbgkjgbcaa Go.Proofs.YtnnknbbgkjgbcaaW.PrintWords
/-- The one pure statement of SlotReads. -/
def law09_SlotReads.Pure2 : Prop := ∀ (a0_0 : Int) (a0_1 : Int) (a0_2 : Int) (a0_3 : Int) (l1 : List Int), (Lit.int .i64 a0_0).wf = true → (Lit.int .i64 a0_1).wf = true → (Lit.int .i64 a0_2).wf = true → (Lit.int .i64 a0_3).wf = true → l1.length ≤ maxLen → (∀ x ∈ l1, (Lit.int .u8 x).wf = true) → ∃ k, law09_SlotReads.f k a0_0 a0_1 a0_2 a0_3 l1 = some true
end Go.Proofs.Ytnnknbbgkjgbcaa
