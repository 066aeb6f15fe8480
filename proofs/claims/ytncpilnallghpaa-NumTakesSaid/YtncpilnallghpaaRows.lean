/-
  No cell of these rows narrows 'for every input' (looked for: loops, veiled, ifaces, maps, wideKeys, modest, calm, conditions, laid).
  DERIVED. THE GIVEN ROWS OF THIS SEAT. 10 by the template 'for every input the law returns true; each argument reads behind the call as it read before'; 0 by the template 'total and deterministic' (their statements: YtncpilnallghpaaTotals.lean).
  GIVEN WITH THE SEED: the statements are not yours to turn. If you find one false, say at which input.
  Laid BY PROGRAM, IN A SANDBOX (cutbox-rows.mjs): the forced cells as the released guide's own fill.sh prints them over the translation fb559c75538bcda6… (all of the seat's roots in one cut). By AI agents, Wed Nov 11 2026. No macro, syntax, notation, axiom, sorry.
-/
import Derived.Test.YtncpilnallghpaaChecked
import GoSem.Claim
import GoSem.ClaimJoined
import GoSem.ClaimMapViews
import Derived.JoinedTies
import Derived.KernelRfl
namespace Go.Proofs.Ytncpilnallghpaa
/- THE CELL 'sum', in the pinned program and in every row, IS THE sha256 OF THE DUMP (.gsa) THAT YtncpilnallghpaaProg.lean LOADS. Nothing in Lean hashes anything: it is a label: what it is worth is what the hold of that sum in a sandbox is worth. -/
noncomputable def Try.pinned : Pinned := { name := "ytncpilnallghpaa", sum := "fb559c75538bcda6d908ad17f5163d02ce7f732c940796194821f6bfdf8a103a", checked := Try.checked }
namespace Rows
def none {H : Type} : Left H := { results := [], args := [] }

/-- 'thimbleriglaw07.GeoCounts': WHATEVER THE INPUT: true; the input reads as it did. -/
def geoCountsSpec : ChangeSpec := { name := "geoCounts", fn := fun _ => fun
  | [d1, d2] => { results := [.lit (.bool true)], args := [d1, d2] }
  | _ => none }
def geoCountsRow : OpenClaim := { program := "ytncpilnallghpaa", sum := "fb559c75538bcda6d908ad17f5163d02ce7f732c940796194821f6bfdf8a103a", func := "thimblerig/thimbleriglaw07.GeoCounts", spec := "geoCounts", unfollowed := true, recurses := true, apart := false }
def GeoCountsSaid : Prop := geoCountsRow.holds Try.pinned (OpenSpec.ofChange geoCountsSpec)

/-- ITS FALSE NEIGHBOUR: 'it returns false'. Refute it at one input. -/
def geoCountsWrong : ChangeSpec := { name := "geoCounts", fn := fun _ => fun
  | [d1, d2] => { results := [.lit (.bool false)], args := [d1, d2] }
  | _ => none }
def GeoCountsWrongFalsely : Prop := geoCountsRow.holds Try.pinned (OpenSpec.ofChange geoCountsWrong)

/-- 'thimbleriglaw01.NumPuts': WHATEVER THE INPUT: true; the input reads as it did. -/
def numPutsSpec : ChangeSpec := { name := "numPuts", fn := fun _ => fun
  | [d1, d2] => { results := [.lit (.bool true)], args := [d1, d2] }
  | _ => none }
def numPutsRow : OpenClaim := { program := "ytncpilnallghpaa", sum := "fb559c75538bcda6d908ad17f5163d02ce7f732c940796194821f6bfdf8a103a", func := "thimblerig/thimbleriglaw01.NumPuts", spec := "numPuts", unfollowed := true, recurses := true, apart := false }
def NumPutsSaid : Prop := numPutsRow.holds Try.pinned (OpenSpec.ofChange numPutsSpec)

/-- ITS FALSE NEIGHBOUR: 'it returns false'. Refute it at one input. -/
def numPutsWrong : ChangeSpec := { name := "numPuts", fn := fun _ => fun
  | [d1, d2] => { results := [.lit (.bool false)], args := [d1, d2] }
  | _ => none }
def NumPutsWrongFalsely : Prop := numPutsRow.holds Try.pinned (OpenSpec.ofChange numPutsWrong)

/-- 'thimbleriglaw01.NumTakes': WHATEVER THE INPUT: true; the input reads as it did. -/
def numTakesSpec : ChangeSpec := { name := "numTakes", fn := fun _ => fun
  | [d1, d2] => { results := [.lit (.bool true)], args := [d1, d2] }
  | _ => none }
def numTakesRow : OpenClaim := { program := "ytncpilnallghpaa", sum := "fb559c75538bcda6d908ad17f5163d02ce7f732c940796194821f6bfdf8a103a", func := "thimblerig/thimbleriglaw01.NumTakes", spec := "numTakes", unfollowed := true, recurses := true, apart := false }
def NumTakesSaid : Prop := numTakesRow.holds Try.pinned (OpenSpec.ofChange numTakesSpec)

/-- ITS FALSE NEIGHBOUR: 'it returns false'. Refute it at one input. -/
def numTakesWrong : ChangeSpec := { name := "numTakes", fn := fun _ => fun
  | [d1, d2] => { results := [.lit (.bool false)], args := [d1, d2] }
  | _ => none }
def NumTakesWrongFalsely : Prop := numTakesRow.holds Try.pinned (OpenSpec.ofChange numTakesWrong)

/-- 'thimbleriglaw07.GeoPaths': WHATEVER THE INPUT: true; the input reads as it did. -/
def geoPathsSpec : ChangeSpec := { name := "geoPaths", fn := fun _ => fun
  | [d1, d2, d3] => { results := [.lit (.bool true)], args := [d1, d2, d3] }
  | _ => none }
def geoPathsRow : OpenClaim := { program := "ytncpilnallghpaa", sum := "fb559c75538bcda6d908ad17f5163d02ce7f732c940796194821f6bfdf8a103a", func := "thimblerig/thimbleriglaw07.GeoPaths", spec := "geoPaths", unfollowed := true, recurses := true, apart := false }
def GeoPathsSaid : Prop := geoPathsRow.holds Try.pinned (OpenSpec.ofChange geoPathsSpec)

/-- ITS FALSE NEIGHBOUR: 'it returns false'. Refute it at one input. -/
def geoPathsWrong : ChangeSpec := { name := "geoPaths", fn := fun _ => fun
  | [d1, d2, d3] => { results := [.lit (.bool false)], args := [d1, d2, d3] }
  | _ => none }
def GeoPathsWrongFalsely : Prop := geoPathsRow.holds Try.pinned (OpenSpec.ofChange geoPathsWrong)

/-- 'thimbleriglaw07.GeoRound': WHATEVER THE INPUT: true; the input reads as it did. -/
def geoRoundSpec : ChangeSpec := { name := "geoRound", fn := fun _ => fun
  | [d1, d2] => { results := [.lit (.bool true)], args := [d1, d2] }
  | _ => none }
def geoRoundRow : OpenClaim := { program := "ytncpilnallghpaa", sum := "fb559c75538bcda6d908ad17f5163d02ce7f732c940796194821f6bfdf8a103a", func := "thimblerig/thimbleriglaw07.GeoRound", spec := "geoRound", unfollowed := true, recurses := true, apart := false }
def GeoRoundSaid : Prop := geoRoundRow.holds Try.pinned (OpenSpec.ofChange geoRoundSpec)

/-- ITS FALSE NEIGHBOUR: 'it returns false'. Refute it at one input. -/
def geoRoundWrong : ChangeSpec := { name := "geoRound", fn := fun _ => fun
  | [d1, d2] => { results := [.lit (.bool false)], args := [d1, d2] }
  | _ => none }
def GeoRoundWrongFalsely : Prop := geoRoundRow.holds Try.pinned (OpenSpec.ofChange geoRoundWrong)

/-- 'thimbleriglaw07.GeoHalves': WHATEVER THE INPUT: true; the input reads as it did. -/
def geoHalvesSpec : ChangeSpec := { name := "geoHalves", fn := fun _ => fun
  | [d1, d2, d3] => { results := [.lit (.bool true)], args := [d1, d2, d3] }
  | _ => none }
def geoHalvesRow : OpenClaim := { program := "ytncpilnallghpaa", sum := "fb559c75538bcda6d908ad17f5163d02ce7f732c940796194821f6bfdf8a103a", func := "thimblerig/thimbleriglaw07.GeoHalves", spec := "geoHalves", unfollowed := true, recurses := true, apart := false }
def GeoHalvesSaid : Prop := geoHalvesRow.holds Try.pinned (OpenSpec.ofChange geoHalvesSpec)

/-- ITS FALSE NEIGHBOUR: 'it returns false'. Refute it at one input. -/
def geoHalvesWrong : ChangeSpec := { name := "geoHalves", fn := fun _ => fun
  | [d1, d2, d3] => { results := [.lit (.bool false)], args := [d1, d2, d3] }
  | _ => none }
def GeoHalvesWrongFalsely : Prop := geoHalvesRow.holds Try.pinned (OpenSpec.ofChange geoHalvesWrong)

/-- 'thimbleriglaw01.NumNames': WHATEVER THE INPUT: true; the input reads as it did. -/
def numNamesSpec : ChangeSpec := { name := "numNames", fn := fun _ => fun
  | [] => { results := [.lit (.bool true)], args := [] }
  | _ => none }
def numNamesRow : OpenClaim := { program := "ytncpilnallghpaa", sum := "fb559c75538bcda6d908ad17f5163d02ce7f732c940796194821f6bfdf8a103a", func := "thimblerig/thimbleriglaw01.NumNames", spec := "numNames", unfollowed := true, recurses := true, apart := false }
def NumNamesSaid : Prop := numNamesRow.holds Try.pinned (OpenSpec.ofChange numNamesSpec)

/-- ITS FALSE NEIGHBOUR: 'it returns false'. Refute it at one input. -/
def numNamesWrong : ChangeSpec := { name := "numNames", fn := fun _ => fun
  | [] => { results := [.lit (.bool false)], args := [] }
  | _ => none }
def NumNamesWrongFalsely : Prop := numNamesRow.holds Try.pinned (OpenSpec.ofChange numNamesWrong)

/-- 'thimbleriglaw01.NumBack': WHATEVER THE INPUT: true; the input reads as it did. -/
def numBackSpec : ChangeSpec := { name := "numBack", fn := fun _ => fun
  | [d1, d2, d3] => { results := [.lit (.bool true)], args := [d1, d2, d3] }
  | _ => none }
def numBackRow : OpenClaim := { program := "ytncpilnallghpaa", sum := "fb559c75538bcda6d908ad17f5163d02ce7f732c940796194821f6bfdf8a103a", func := "thimblerig/thimbleriglaw01.NumBack", spec := "numBack", unfollowed := true, recurses := true, apart := false }
def NumBackSaid : Prop := numBackRow.holds Try.pinned (OpenSpec.ofChange numBackSpec)

/-- ITS FALSE NEIGHBOUR: 'it returns false'. Refute it at one input. -/
def numBackWrong : ChangeSpec := { name := "numBack", fn := fun _ => fun
  | [d1, d2, d3] => { results := [.lit (.bool false)], args := [d1, d2, d3] }
  | _ => none }
def NumBackWrongFalsely : Prop := numBackRow.holds Try.pinned (OpenSpec.ofChange numBackWrong)

/-- 'thimbleriglaw01.NumParts': WHATEVER THE INPUT: true; the input reads as it did. -/
def numPartsSpec : ChangeSpec := { name := "numParts", fn := fun _ => fun
  | [d1, d2] => { results := [.lit (.bool true)], args := [d1, d2] }
  | _ => none }
def numPartsRow : OpenClaim := { program := "ytncpilnallghpaa", sum := "fb559c75538bcda6d908ad17f5163d02ce7f732c940796194821f6bfdf8a103a", func := "thimblerig/thimbleriglaw01.NumParts", spec := "numParts", unfollowed := true, recurses := true, apart := false }
def NumPartsSaid : Prop := numPartsRow.holds Try.pinned (OpenSpec.ofChange numPartsSpec)

/-- ITS FALSE NEIGHBOUR: 'it returns false'. Refute it at one input. -/
def numPartsWrong : ChangeSpec := { name := "numParts", fn := fun _ => fun
  | [d1, d2] => { results := [.lit (.bool false)], args := [d1, d2] }
  | _ => none }
def NumPartsWrongFalsely : Prop := numPartsRow.holds Try.pinned (OpenSpec.ofChange numPartsWrong)

/-- 'thimbleriglaw07.GeoNames': WHATEVER THE INPUT: true; the input reads as it did. -/
def geoNamesSpec : ChangeSpec := { name := "geoNames", fn := fun _ => fun
  | [] => { results := [.lit (.bool true)], args := [] }
  | _ => none }
def geoNamesRow : OpenClaim := { program := "ytncpilnallghpaa", sum := "fb559c75538bcda6d908ad17f5163d02ce7f732c940796194821f6bfdf8a103a", func := "thimblerig/thimbleriglaw07.GeoNames", spec := "geoNames", unfollowed := true, recurses := true, apart := false }
def GeoNamesSaid : Prop := geoNamesRow.holds Try.pinned (OpenSpec.ofChange geoNamesSpec)

/-- ITS FALSE NEIGHBOUR: 'it returns false'. Refute it at one input. -/
def geoNamesWrong : ChangeSpec := { name := "geoNames", fn := fun _ => fun
  | [] => { results := [.lit (.bool false)], args := [] }
  | _ => none }
def GeoNamesWrongFalsely : Prop := geoNamesRow.holds Try.pinned (OpenSpec.ofChange geoNamesWrong)

/- THE SECOND FORM. 'bulk': how many values and letters a reading holds, each counted each time it is reached (what is shared counts as often as it is met; a slice's spare places count too). A statement '..UptoSaid' is the law's where the arguments, and the package variables that the reading takes, are together of bulk at most 1048576: NARROWER than '..Said'. Prove '..Said' where nothing that the law and all that it calls make is longer than what came in: it says more and counts as full. Else prove '..UptoSaid'. A law counts once. -/
mutual
def uptoBulk {H : Type} : DataW H → Nat
  | .lit (.string bytes) => bytes.length + 1
  | .lit _ => 1
  | .nil => 1
  | .ptr d => uptoBulk d + 1
  | .slice elems spare => uptoBulkAll elems + uptoBulkAll spare + 1
  | .agg parts => uptoBulkAll parts + 1
  | .iface _ d => uptoBulk d + 1
  | .map entries => uptoBulkEntries entries + 1
  | .held _ => 1
def uptoBulkAll {H : Type} : List (DataW H) → Nat
  | [] => 0
  | d :: r => uptoBulk d + uptoBulkAll r
def uptoBulkEntries {H : Type} : List (Lit × DataW H) → Nat
  | [] => 0
  | x :: r => uptoBulkEntry x + uptoBulkEntries r
def uptoBulkEntry {H : Type} : Lit × DataW H → Nat
  | (.string bytes, d) => bytes.length + uptoBulk d + 1
  | (_, d) => uptoBulk d + 1
 end
def uptoSmall : (H : Type) → List (DataW H) → Bool := fun _ ds => decide (uptoBulkAll ds ≤ 1048576)
def OpenSpec.upto (s : _root_.Go.ChangeSpec) : _root_.Go.OpenSpec := { _root_.Go.OpenSpec.ofChange s with cond := some uptoSmall }

/-- 'thimbleriglaw07.GeoCounts', WHERE WHAT IT READS IS OF BULK AT MOST 1048576: true; the input reads as it did. -/
def geoCountsUptoRow : OpenClaim := { program := "ytncpilnallghpaa", sum := "fb559c75538bcda6d908ad17f5163d02ce7f732c940796194821f6bfdf8a103a", func := "thimblerig/thimbleriglaw07.GeoCounts", spec := "geoCounts", unfollowed := true, recurses := true, apart := false, narrowed := true }
def GeoCountsUptoSaid : Prop := geoCountsUptoRow.holds Try.pinned (OpenSpec.upto geoCountsSpec)

/-- 'thimbleriglaw01.NumPuts', WHERE WHAT IT READS IS OF BULK AT MOST 1048576: true; the input reads as it did. -/
def numPutsUptoRow : OpenClaim := { program := "ytncpilnallghpaa", sum := "fb559c75538bcda6d908ad17f5163d02ce7f732c940796194821f6bfdf8a103a", func := "thimblerig/thimbleriglaw01.NumPuts", spec := "numPuts", unfollowed := true, recurses := true, apart := false, narrowed := true }
def NumPutsUptoSaid : Prop := numPutsUptoRow.holds Try.pinned (OpenSpec.upto numPutsSpec)

/-- 'thimbleriglaw01.NumTakes', WHERE WHAT IT READS IS OF BULK AT MOST 1048576: true; the input reads as it did. -/
def numTakesUptoRow : OpenClaim := { program := "ytncpilnallghpaa", sum := "fb559c75538bcda6d908ad17f5163d02ce7f732c940796194821f6bfdf8a103a", func := "thimblerig/thimbleriglaw01.NumTakes", spec := "numTakes", unfollowed := true, recurses := true, apart := false, narrowed := true }
def NumTakesUptoSaid : Prop := numTakesUptoRow.holds Try.pinned (OpenSpec.upto numTakesSpec)

/-- 'thimbleriglaw07.GeoPaths', WHERE WHAT IT READS IS OF BULK AT MOST 1048576: true; the input reads as it did. -/
def geoPathsUptoRow : OpenClaim := { program := "ytncpilnallghpaa", sum := "fb559c75538bcda6d908ad17f5163d02ce7f732c940796194821f6bfdf8a103a", func := "thimblerig/thimbleriglaw07.GeoPaths", spec := "geoPaths", unfollowed := true, recurses := true, apart := false, narrowed := true }
def GeoPathsUptoSaid : Prop := geoPathsUptoRow.holds Try.pinned (OpenSpec.upto geoPathsSpec)

/-- 'thimbleriglaw07.GeoRound', WHERE WHAT IT READS IS OF BULK AT MOST 1048576: true; the input reads as it did. -/
def geoRoundUptoRow : OpenClaim := { program := "ytncpilnallghpaa", sum := "fb559c75538bcda6d908ad17f5163d02ce7f732c940796194821f6bfdf8a103a", func := "thimblerig/thimbleriglaw07.GeoRound", spec := "geoRound", unfollowed := true, recurses := true, apart := false, narrowed := true }
def GeoRoundUptoSaid : Prop := geoRoundUptoRow.holds Try.pinned (OpenSpec.upto geoRoundSpec)

/-- 'thimbleriglaw07.GeoHalves', WHERE WHAT IT READS IS OF BULK AT MOST 1048576: true; the input reads as it did. -/
def geoHalvesUptoRow : OpenClaim := { program := "ytncpilnallghpaa", sum := "fb559c75538bcda6d908ad17f5163d02ce7f732c940796194821f6bfdf8a103a", func := "thimblerig/thimbleriglaw07.GeoHalves", spec := "geoHalves", unfollowed := true, recurses := true, apart := false, narrowed := true }
def GeoHalvesUptoSaid : Prop := geoHalvesUptoRow.holds Try.pinned (OpenSpec.upto geoHalvesSpec)

/-- 'thimbleriglaw01.NumNames', WHERE WHAT IT READS IS OF BULK AT MOST 1048576: true; the input reads as it did. -/
def numNamesUptoRow : OpenClaim := { program := "ytncpilnallghpaa", sum := "fb559c75538bcda6d908ad17f5163d02ce7f732c940796194821f6bfdf8a103a", func := "thimblerig/thimbleriglaw01.NumNames", spec := "numNames", unfollowed := true, recurses := true, apart := false, narrowed := true }
def NumNamesUptoSaid : Prop := numNamesUptoRow.holds Try.pinned (OpenSpec.upto numNamesSpec)

/-- 'thimbleriglaw01.NumBack', WHERE WHAT IT READS IS OF BULK AT MOST 1048576: true; the input reads as it did. -/
def numBackUptoRow : OpenClaim := { program := "ytncpilnallghpaa", sum := "fb559c75538bcda6d908ad17f5163d02ce7f732c940796194821f6bfdf8a103a", func := "thimblerig/thimbleriglaw01.NumBack", spec := "numBack", unfollowed := true, recurses := true, apart := false, narrowed := true }
def NumBackUptoSaid : Prop := numBackUptoRow.holds Try.pinned (OpenSpec.upto numBackSpec)

/-- 'thimbleriglaw01.NumParts', WHERE WHAT IT READS IS OF BULK AT MOST 1048576: true; the input reads as it did. -/
def numPartsUptoRow : OpenClaim := { program := "ytncpilnallghpaa", sum := "fb559c75538bcda6d908ad17f5163d02ce7f732c940796194821f6bfdf8a103a", func := "thimblerig/thimbleriglaw01.NumParts", spec := "numParts", unfollowed := true, recurses := true, apart := false, narrowed := true }
def NumPartsUptoSaid : Prop := numPartsUptoRow.holds Try.pinned (OpenSpec.upto numPartsSpec)

/-- 'thimbleriglaw07.GeoNames', WHERE WHAT IT READS IS OF BULK AT MOST 1048576: true; the input reads as it did. -/
def geoNamesUptoRow : OpenClaim := { program := "ytncpilnallghpaa", sum := "fb559c75538bcda6d908ad17f5163d02ce7f732c940796194821f6bfdf8a103a", func := "thimblerig/thimbleriglaw07.GeoNames", spec := "geoNames", unfollowed := true, recurses := true, apart := false, narrowed := true }
def GeoNamesUptoSaid : Prop := geoNamesUptoRow.holds Try.pinned (OpenSpec.upto geoNamesSpec)

end Rows
end Go.Proofs.Ytncpilnallghpaa
