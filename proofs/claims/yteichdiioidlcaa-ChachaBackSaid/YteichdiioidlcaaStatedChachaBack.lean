-- The pure statement of law ChachaBack, written by a program of this session.
import Derived.Test.YteichdiioidlcaaBackCalls
namespace Go.Proofs.Yteichdiioidlcaa
open Go.RowKit Go.Proofs.Yteichdiioidlcaa Go.Proofs.YteichdiioidlcaaW.PrintWords
/-- The one pure statement of ChachaBack. -/
def law03_ChachaBack.Pure2 : Prop := ∀ (z0 : List Int), z0.length = 4 → (∀ x ∈ z0, (Lit.int .u32 x).wf = true) → ∃ k, law03_ChachaBack.f k z0 = some true
end Go.Proofs.Yteichdiioidlcaa
