/-
  DERIVED. GIVEN WITH THE SEED: THE CARDS: each row of YtncipbbdboeinaaDoorRows.lean that lists a variable, with what it lists TIED to the program's text (the seventh form; the later family's looks); each row that meets fmt, with fmt's text TOLD by the authors' own Lean function (tested against real Go, not proved from fmt's source: count such statements apart). THE CARD IS WHAT COUNTS. Prove the row's statement (the work); the ties are given (YtncipbbdboeinaaDoorTie.lean); close each card by the builder's one call (the guide's Derived/Test/ToyasCard.lean, 'card_holds'). Laid BY PROGRAM, IN A SANDBOX (cutbox-door.mjs). By AI agents, Wed Nov 11 2026. No macro, syntax, notation, axiom, sorry.
-/
import Derived.Test.YtncipbbdboeinaaDoorRows
import GoSem.ClaimSeven
namespace Go.Proofs.YtncipbbdboeinaaDoor
namespace Rows

/-- THE TIED CARD OF 'thimbleriglaw11.SealSums'. -/
def sealSumsCard : Claim7 := { stood := { row := sealSumsRow, standIns := [], harness := (true, "a755cbe6fc442d0c52f7ac374090ba9065a880ddf78c30c00eeeb48d029343c1"), looks := false }, kinds := [], alts := [], laidByText := true, laidKinds := [.data], laidTests := true, laidLooks := .later }
def SealSumsCardSaid : Prop := Claim7.holds Tryd.pinned (.plain (OpenSpec.ofChange sealSumsSpec)) sealSumsCard

/-- THE SECOND FORM's CARD OF 'thimbleriglaw11.SealSums'. -/
def sealSumsUptoCard : Claim7 := { stood := { row := sealSumsUptoRow, standIns := [], harness := (true, "a755cbe6fc442d0c52f7ac374090ba9065a880ddf78c30c00eeeb48d029343c1"), looks := false }, kinds := [], alts := [], laidByText := true, laidKinds := [.data], laidTests := true, laidLooks := .later }
def SealSumsUptoCardSaid : Prop := Claim7.holds Tryd.pinned (.plain (OpenSpec.upto sealSumsSpec)) sealSumsUptoCard
end Rows
end Go.Proofs.YtncipbbdboeinaaDoor
