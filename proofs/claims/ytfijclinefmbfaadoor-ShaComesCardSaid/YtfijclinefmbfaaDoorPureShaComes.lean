/-
Digests under way, of more bytes, and at their end, or the errors, are the document's (law ShaComes answers true).
Conditions: none beside the law's own.
-/
import Derived.Test.YtfijclinefmbfaaDoorStatedShaComes
namespace Go.Proofs.YtfijclinefmbfaaDoor.Pure
open Go.RowKit Go.Proofs.YtfijclinefmbfaaDoor
theorem ShaComes : law02_ShaComes.Pure2 := by
  intro z0 l0_1 a0_2 l1 h0 h1 h2 h3 h4 h5
  exact ⟨0, rfl⟩
end Go.Proofs.YtfijclinefmbfaaDoor.Pure
