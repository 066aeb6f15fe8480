/-
  DERIVED. GIVEN WITH THE SEED: THE CARDS: each row of YtfijclinefmbfaaDoorRows.lean that lists a variable, with what it lists TIED to the program's text (the seventh form; the later family's looks); each row that meets fmt, with fmt's text TOLD by the authors' own Lean function (tested against real Go, not proved from fmt's source: count such statements apart). THE CARD IS WHAT COUNTS. Prove the row's statement (the work); the ties are given (YtfijclinefmbfaaDoorTie.lean); close each card by the builder's one call (the guide's Derived/Test/ToyasCard.lean, 'card_holds'). Laid BY PROGRAM, IN A SANDBOX (cutbox-door.mjs). By AI agents, Wed Nov 11 2026. No macro, syntax, notation, axiom, sorry.
-/
import Derived.Test.YtfijclinefmbfaaDoorRows
import GoSem.ClaimSeven
namespace Go.Proofs.YtfijclinefmbfaaDoor
namespace Rows

/-- THE TIED CARD OF 'thimbleriglaw02.ShaTells'. -/
def shaTellsCard : Claim7 := { stood := { row := shaTellsRow, standIns := [], harness := (true, "74f049449f55ae8d4bf2ee7eb5abc3775668e44499c09fac45688a2b00665fe2"), looks := false }, kinds := [], alts := [], laidByText := true, laidKinds := [.data], laidTests := true, laidLooks := .later }
def ShaTellsCardSaid : Prop := Claim7.holds Tryd.pinned (.plain (OpenSpec.ofChange shaTellsSpec)) shaTellsCard

/-- THE TIED CARD OF 'thimbleriglaw02.ShaComes'. -/
def shaComesCard : Claim7 := { stood := { row := shaComesRow, standIns := [], harness := (true, "74f049449f55ae8d4bf2ee7eb5abc3775668e44499c09fac45688a2b00665fe2"), looks := false }, kinds := [], alts := [], laidByText := true, laidKinds := [.data], laidTests := true, laidLooks := .later }
def ShaComesCardSaid : Prop := Claim7.holds Tryd.pinned (.plain (OpenSpec.ofChange shaComesSpec)) shaComesCard

/-- THE TIED CARD OF 'thimbleriglaw02.ShaNames'. -/
def shaNamesCard : Claim7 := { stood := { row := shaNamesRow, standIns := [], harness := (true, "74f049449f55ae8d4bf2ee7eb5abc3775668e44499c09fac45688a2b00665fe2"), looks := false }, kinds := [], alts := [], laidByText := true, laidKinds := [.data], laidTests := true, laidLooks := .later }
def ShaNamesCardSaid : Prop := Claim7.holds Tryd.pinned (.plain (OpenSpec.ofChange shaNamesSpec)) shaNamesCard

/-- THE TIED CARD OF 'thimbleriglaw02.ShaParts'. -/
def shaPartsCard : Claim7 := { stood := { row := shaPartsRow, standIns := [], harness := (true, "74f049449f55ae8d4bf2ee7eb5abc3775668e44499c09fac45688a2b00665fe2"), looks := false }, kinds := [], alts := [], laidByText := true, laidKinds := [.data], laidTests := true, laidLooks := .later }
def ShaPartsCardSaid : Prop := Claim7.holds Tryd.pinned (.plain (OpenSpec.ofChange shaPartsSpec)) shaPartsCard

/-- THE TIED CARD OF 'thimbleriglaw02.ShaWhole'. -/
def shaWholeCard : Claim7 := { stood := { row := shaWholeRow, standIns := [], harness := (true, "74f049449f55ae8d4bf2ee7eb5abc3775668e44499c09fac45688a2b00665fe2"), looks := false }, kinds := [], alts := [], laidByText := true, laidKinds := [.data], laidTests := true, laidLooks := .later }
def ShaWholeCardSaid : Prop := Claim7.holds Tryd.pinned (.plain (OpenSpec.ofChange shaWholeSpec)) shaWholeCard

/-- THE SECOND FORM's CARD OF 'thimbleriglaw02.ShaTells'. -/
def shaTellsUptoCard : Claim7 := { stood := { row := shaTellsUptoRow, standIns := [], harness := (true, "74f049449f55ae8d4bf2ee7eb5abc3775668e44499c09fac45688a2b00665fe2"), looks := false }, kinds := [], alts := [], laidByText := true, laidKinds := [.data], laidTests := true, laidLooks := .later }
def ShaTellsUptoCardSaid : Prop := Claim7.holds Tryd.pinned (.plain (OpenSpec.upto shaTellsSpec)) shaTellsUptoCard

/-- THE SECOND FORM's CARD OF 'thimbleriglaw02.ShaComes'. -/
def shaComesUptoCard : Claim7 := { stood := { row := shaComesUptoRow, standIns := [], harness := (true, "74f049449f55ae8d4bf2ee7eb5abc3775668e44499c09fac45688a2b00665fe2"), looks := false }, kinds := [], alts := [], laidByText := true, laidKinds := [.data], laidTests := true, laidLooks := .later }
def ShaComesUptoCardSaid : Prop := Claim7.holds Tryd.pinned (.plain (OpenSpec.upto shaComesSpec)) shaComesUptoCard

/-- THE SECOND FORM's CARD OF 'thimbleriglaw02.ShaNames'. -/
def shaNamesUptoCard : Claim7 := { stood := { row := shaNamesUptoRow, standIns := [], harness := (true, "74f049449f55ae8d4bf2ee7eb5abc3775668e44499c09fac45688a2b00665fe2"), looks := false }, kinds := [], alts := [], laidByText := true, laidKinds := [.data], laidTests := true, laidLooks := .later }
def ShaNamesUptoCardSaid : Prop := Claim7.holds Tryd.pinned (.plain (OpenSpec.upto shaNamesSpec)) shaNamesUptoCard

/-- THE SECOND FORM's CARD OF 'thimbleriglaw02.ShaParts'. -/
def shaPartsUptoCard : Claim7 := { stood := { row := shaPartsUptoRow, standIns := [], harness := (true, "74f049449f55ae8d4bf2ee7eb5abc3775668e44499c09fac45688a2b00665fe2"), looks := false }, kinds := [], alts := [], laidByText := true, laidKinds := [.data], laidTests := true, laidLooks := .later }
def ShaPartsUptoCardSaid : Prop := Claim7.holds Tryd.pinned (.plain (OpenSpec.upto shaPartsSpec)) shaPartsUptoCard

/-- THE SECOND FORM's CARD OF 'thimbleriglaw02.ShaWhole'. -/
def shaWholeUptoCard : Claim7 := { stood := { row := shaWholeUptoRow, standIns := [], harness := (true, "74f049449f55ae8d4bf2ee7eb5abc3775668e44499c09fac45688a2b00665fe2"), looks := false }, kinds := [], alts := [], laidByText := true, laidKinds := [.data], laidTests := true, laidLooks := .later }
def ShaWholeUptoCardSaid : Prop := Claim7.holds Tryd.pinned (.plain (OpenSpec.upto shaWholeSpec)) shaWholeUptoCard
end Rows
end Go.Proofs.YtfijclinefmbfaaDoor
