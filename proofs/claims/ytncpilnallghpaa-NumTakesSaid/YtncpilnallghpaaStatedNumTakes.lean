-- The pure statement of law NumTakes, written by a program of this session.
import Derived.Test.YtncpilnallghpaaTakesCalls
namespace Go.Proofs.Ytncpilnallghpaa
open Go.RowKit Go.Proofs.Ytncpilnallghpaa Go.Proofs.YtncpilnallghpaaW.PrintWords
/-- The one pure statement of NumTakes. -/
def law01_NumTakes.Pure2 : Prop := ∀ (l0 : List Int) (l1 : List Int), l0.length ≤ maxLen → (∀ x ∈ l0, (Lit.int .u8 x).wf = true) → l1.length ≤ maxLen → (∀ x ∈ l1, (Lit.int .i64 x).wf = true) → ∃ k, law01_NumTakes.f k l0 l1 = some true
end Go.Proofs.Ytncpilnallghpaa
