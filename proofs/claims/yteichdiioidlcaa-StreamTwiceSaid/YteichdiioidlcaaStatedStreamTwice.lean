-- The pure statement of law StreamTwice, written by a program of this session.
import Derived.Test.YteichdiioidlcaaTwiceCalls
namespace Go.Proofs.Yteichdiioidlcaa
open Go.RowKit Go.Proofs.Yteichdiioidlcaa Go.Proofs.YteichdiioidlcaaW.PrintWords
/-- The one pure statement of StreamTwice. -/
def law04_StreamTwice.Pure2 : Prop := ∀ (l0 : List Int) (z1 : List Int) (a2 : Int), l0.length ≤ maxLen → (∀ x ∈ l0, (Lit.int .u8 x).wf = true) → z1.length = 32 → (∀ x ∈ z1, (Lit.int .u8 x).wf = true) → (Lit.int .u64 a2).wf = true → ∃ k, law04_StreamTwice.f k l0 z1 a2 = some true
end Go.Proofs.Yteichdiioidlcaa
