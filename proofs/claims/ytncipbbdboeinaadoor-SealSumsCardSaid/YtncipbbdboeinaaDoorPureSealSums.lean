/-
What is hashed of a bucket, and its digest, or the errors, are the document's (law SealSums answers true).
Conditions: none beside the law's own.
-/
import Derived.Test.YtncipbbdboeinaaDoorStatedSealSums
namespace Go.Proofs.YtncipbbdboeinaaDoor.Pure
open Go.RowKit Go.Proofs.YtncipbbdboeinaaDoor
theorem SealSums : law11_SealSums.Pure2 := by
  intro a0 a1 l2 h1 h2 h3 h4
  exact ⟨0, rfl⟩
end Go.Proofs.YtncipbbdboeinaaDoor.Pure
