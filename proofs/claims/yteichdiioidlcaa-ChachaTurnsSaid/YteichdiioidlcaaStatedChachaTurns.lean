-- The pure statement of law ChachaTurns, written by a program of this session.
import Derived.Test.YteichdiioidlcaaTurnsCalls
namespace Go.Proofs.Yteichdiioidlcaa
open Go.RowKit Go.Proofs.Yteichdiioidlcaa Go.Proofs.YteichdiioidlcaaW.PrintWords
/-- The one pure statement of ChachaTurns. -/
def law03_ChachaTurns.Pure2 : Prop := ∀ (z0 : List Int) (z1 : List Int), z0.length = 4 → (∀ x ∈ z0, (Lit.int .u32 x).wf = true) → z1.length = 16 → (∀ x ∈ z1, (Lit.int .u32 x).wf = true) → ∃ k, law03_ChachaTurns.f k z0 z1 = some true
end Go.Proofs.Yteichdiioidlcaa
