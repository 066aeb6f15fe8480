-- The pure statement of law StreamGoesOn, written by a program of this session.
import Derived.Test.YteichdiioidlcaaGoesCalls
namespace Go.Proofs.Yteichdiioidlcaa
open Go.RowKit Go.Proofs.Yteichdiioidlcaa Go.Proofs.YteichdiioidlcaaW.PrintWords
/-- The one pure statement of StreamGoesOn. -/
def law04_StreamGoesOn.Pure2 : Prop := ∀ (z0 : List Int) (a1 : Int) (a2 : Int) (a3 : Int), z0.length = 32 → (∀ x ∈ z0, (Lit.int .u8 x).wf = true) → (Lit.int .u64 a1).wf = true → (Lit.int .i64 a2).wf = true → (Lit.int .i64 a3).wf = true → ∃ k, law04_StreamGoesOn.f k z0 a1 a2 a3 = some true
end Go.Proofs.Yteichdiioidlcaa
