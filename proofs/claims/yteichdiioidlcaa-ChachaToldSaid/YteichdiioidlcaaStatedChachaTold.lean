-- The pure statement of law ChachaTold, written by a program of this session.
import Derived.Test.YteichdiioidlcaaToldCalls
namespace Go.Proofs.Yteichdiioidlcaa
open Go.RowKit Go.Proofs.Yteichdiioidlcaa Go.Proofs.YteichdiioidlcaaW.PrintWords
/-- The one pure statement of ChachaTold. -/
def law03_ChachaTold.Pure2 : Prop := ∀ (z0 : List Int) (a1 : Int) (z2 : List Int), z0.length = 32 → (∀ x ∈ z0, (Lit.int .u8 x).wf = true) → (Lit.int .u32 a1).wf = true → z2.length = 12 → (∀ x ∈ z2, (Lit.int .u8 x).wf = true) → ∃ k, law03_ChachaTold.f k z0 a1 z2 = some true
end Go.Proofs.Yteichdiioidlcaa
