/-
The digest of three parts, one behind the other, is the document's (law ShaTells answers true).
Conditions: none beside the law's own.
-/
import Derived.Test.YtfijclinefmbfaaDoorStatedShaTells
namespace Go.Proofs.YtfijclinefmbfaaDoor.Pure
open Go.RowKit Go.Proofs.YtfijclinefmbfaaDoor
theorem ShaTells : law02_ShaTells.Pure2 := by
  intro l0 l1 l2 h1 h2 h3 h4 h5 h6
  exact ⟨0, rfl⟩
end Go.Proofs.YtfijclinefmbfaaDoor.Pure
