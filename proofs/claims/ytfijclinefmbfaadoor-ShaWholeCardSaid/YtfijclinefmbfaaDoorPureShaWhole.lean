/-
A digest is that of all that came, from the beginning on (law ShaWhole answers true).
Conditions: none beside the law's own.
-/
import Derived.Test.YtfijclinefmbfaaDoorStatedShaWhole
namespace Go.Proofs.YtfijclinefmbfaaDoor.Pure
open Go.RowKit Go.Proofs.YtfijclinefmbfaaDoor
theorem ShaWhole : law02_ShaWhole.Pure2 := by
  intro l0 l1 h1 h2 h3 h4
  exact ⟨0, rfl⟩
end Go.Proofs.YtfijclinefmbfaaDoor.Pure
