/-
bucket.Write: a bucket's text.
-/
import Derived.Test.YtknmokpnkcckeaaBkWrt
import Derived.Test.YtknmokpnkcckeaaHandSlot
import Derived.Test.YtknmokpnkcckeaaPAll31
namespace Go.Proofs.Ytknmokpnkcckeaa
open Go.RowKit Go.Proofs.YtknmokpnkcckeaaW.PrintWords Go.Proofs.YtknmokpnkcckeaaW.PrintLast Go.Proofs.YtknmokpnkcckeaaW.PrintMore Go.Proofs.Ytknmokpnkcckeaa.PAll
set_option linter.unusedVariables false
set_option linter.unusedSimpArgs false

def sliceLen : Value → Nat
  | .slice _ n _ => n
  | _ => 0
end Go.Proofs.Ytknmokpnkcckeaa
