/-
How bytes are parted counts for nothing: a digest under way comes to the same whether two texts are added one after the other or both at once (law ShaParts answers true).
Conditions: none beside the law's own.
-/
import Derived.Test.YtfijclinefmbfaaDoorStatedShaParts
namespace Go.Proofs.YtfijclinefmbfaaDoor.Pure
open Go.RowKit Go.Proofs.YtfijclinefmbfaaDoor
theorem ShaParts : law02_ShaParts.Pure2 := by
  intro z0 l0_1 a0_2 l1 l2 h0 h1 h2 h3 h4 h5 h6 h7
  exact ⟨0, rfl⟩
end Go.Proofs.YtfijclinefmbfaaDoor.Pure
