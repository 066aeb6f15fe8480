/-
The document's Twin of a bucket.
-/
import Derived.Test.YtknmokpnkcckeaaBkRef
import Derived.Test.YtknmokpnkcckeaaTwinB
namespace Go.Proofs.Ytknmokpnkcckeaa
open Go.RowKit Go.Proofs.YtknmokpnkcckeaaW.PrintWords Go.Proofs.YtknmokpnkcckeaaW.PrintLast Go.Proofs.YtknmokpnkcckeaaW.PrintMore Go.Proofs.Ytknmokpnkcckeaa.PAll
set_option linter.unusedVariables false
set_option linter.unusedSimpArgs false

/-- A bucket's cells, its row turned. -/
theorem bk_set0 {W : World} {b t : Nat} {A A' : Option Addr} {n n' c c' : Nat} {L R : List Int} (h : W.heap[b]? = some (.cells ⟨bkC A n c L R⟩ t (0, 0))) : (W.setCell ⟨b, 0, none⟩ (.slice A' n' c')).heap[b]? = some (.cells ⟨bkC A' n' c' L R⟩ t (0, 0)) := by
  have := blk_set h 0 (.slice A' n' c')
  simpa [bkC] using this
theorem bk_ones (A : Option Addr) (n c : Nat) (L R : List Int) : ∀ v ∈ bkC A n c L R, v.oneCell' = true := by
  intro v hv
  simp only [bkC, List.mem_cons, List.mem_append, List.mem_map] at hv
  rcases hv with rfl | ⟨x, _, rfl⟩ | ⟨x, _, rfl⟩ <;> rfl
end Go.Proofs.Ytknmokpnkcckeaa

namespace Go.Proofs.Ytknmokpnkcckeaa
open Go.RowKit Go.Proofs.YtknmokpnkcckeaaW.PrintWords Go.Proofs.YtknmokpnkcckeaaW.PrintLast Go.Proofs.YtknmokpnkcckeaaW.PrintMore Go.Proofs.Ytknmokpnkcckeaa.PAll
set_option linter.unusedVariables false
set_option linter.unusedSimpArgs false

section
variable {P : Program} {op : Oper} {a : Act} {w : World} {Q : Exit → Act → World → Prop}
end

end Go.Proofs.Ytknmokpnkcckeaa
