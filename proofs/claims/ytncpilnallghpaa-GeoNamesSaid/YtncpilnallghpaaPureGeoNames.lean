/-
The limit's number and the chapter's examples of heights, leaves and paths (law GeoNames answers true).
Conditions: none.
-/
import Derived.Test.YtncpilnallghpaaPAll38
namespace Go.Proofs.Ytncpilnallghpaa.Pure
open Go.RowKit Go.Proofs.Ytncpilnallghpaa Go.Proofs.Ytncpilnallghpaa.PAll Go.Proofs.YtncpilnallghpaaW.PrintWords Go.Proofs.YtncpilnallghpaaW.PrintLast

theorem GeoNames : law07_GeoNames.Pure := ⟨60, by decide +kernel⟩

end Go.Proofs.Ytncpilnallghpaa.Pure
