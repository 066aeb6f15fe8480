/-
Heights and leaves: what the plain functions over them answer.
-/
import Derived.Test.YtknmokpnkcckeaaGeoPure
import Derived.Test.YtknmokpnkcckeaaPAll31
import Derived.Test.YtknmokpnkcckeaaPAll14
namespace Go.Proofs.Ytknmokpnkcckeaa
open Go.RowKit Go.Proofs.YtknmokpnkcckeaaW.PrintWords Go.Proofs.YtknmokpnkcckeaaW.PrintLast Go.Proofs.YtknmokpnkcckeaaW.PrintMore Go.Proofs.Ytknmokpnkcckeaa.PAll
set_option linter.unusedVariables false
set_option linter.unusedSimpArgs false

theorem two_vals : two 1 = 2 ∧ two 2 = 4 ∧ two 3 = 8 ∧ two 4 = 16 ∧ two 5 = 32 ∧ two 6 = 64 := by decide

theorem leaves_eq (high : Int) : geo_Leaves.f 20 high = some (if isHigh high = true then (two high, 0) else (0, 2)) := by
  unfold geo_Leaves.f
  cases h : isHigh high with
  | false => rw [asked_low 19 h]; rfl
  | true =>
    rw [asked_nil 19 h]
    have h1 := ((isHigh_iff high).1 h).1
    have h2 : 0 ≤ high := by omega
    simp only [Option.bind_some, if_pos, h2, shl_high h]

end Go.Proofs.Ytknmokpnkcckeaa
