/-
  No cell of these rows narrows 'for every input' (looked for: loops, veiled, ifaces, maps, wideKeys, modest, calm, conditions, laid).
  DERIVED. THE GIVEN ROWS OF THIS SEAT. 6 by the template 'for every input the law returns true; each argument reads behind the call as it read before'; 0 by the template 'total and deterministic' (their statements: YtknmokpnkcckeaaTotals.lean).
  GIVEN WITH THE SEED: the statements are not yours to turn. If you find one false, say at which input.
  Laid BY PROGRAM, IN A SANDBOX (cutbox-rows.mjs): the forced cells as the released guide's own fill.sh prints them over the translation d6d5d7f536e57c11… (all of the seat's roots in one cut). By AI agents, Wed Nov 11 2026. No macro, syntax, notation, axiom, sorry.
-/
import Derived.Test.YtknmokpnkcckeaaChecked
import GoSem.Claim
import GoSem.ClaimJoined
import GoSem.ClaimMapViews
import Derived.JoinedTies
import Derived.KernelRfl
namespace Go.Proofs.Ytknmokpnkcckeaa
/- THE CELL 'sum', in the pinned program and in every row, IS THE sha256 OF THE DUMP (.gsa) THAT YtknmokpnkcckeaaProg.lean LOADS. Nothing in Lean hashes anything: it is a label: what it is worth is what the hold of that sum in a sandbox is worth. -/
noncomputable def Try.pinned : Pinned := { name := "ytknmokpnkcckeaa", sum := "d6d5d7f536e57c110028c5e3fdf1ceb5f5fb8d8c6d1a2aa17481bae21056943e", checked := Try.checked }
namespace Rows
def none {H : Type} : Left H := { results := [], args := [] }

/-- 'thimbleriglaw17.EvictFills': WHATEVER THE INPUT: true; the input reads as it did. -/
def evictFillsSpec : ChangeSpec := { name := "evictFills", fn := fun _ => fun
  | [d1, d2, d3] => { results := [.lit (.bool true)], args := [d1, d2, d3] }
  | _ => none }
def evictFillsRow : OpenClaim := { program := "ytknmokpnkcckeaa", sum := "d6d5d7f536e57c110028c5e3fdf1ceb5f5fb8d8c6d1a2aa17481bae21056943e", func := "thimblerig/thimbleriglaw17.EvictFills", spec := "evictFills", unfollowed := true, recurses := true, apart := false }
def EvictFillsSaid : Prop := evictFillsRow.holds Try.pinned (OpenSpec.ofChange evictFillsSpec)

/-- ITS FALSE NEIGHBOUR: 'it returns false'. Refute it at one input. -/
def evictFillsWrong : ChangeSpec := { name := "evictFills", fn := fun _ => fun
  | [d1, d2, d3] => { results := [.lit (.bool false)], args := [d1, d2, d3] }
  | _ => none }
def EvictFillsWrongFalsely : Prop := evictFillsRow.holds Try.pinned (OpenSpec.ofChange evictFillsWrong)

/-- 'thimbleriglaw10.BucketWrites': WHATEVER THE INPUT: true; the input reads as it did. -/
def bucketWritesSpec : ChangeSpec := { name := "bucketWrites", fn := fun _ => fun
  | [d1, d2, d3] => { results := [.lit (.bool true)], args := [d1, d2, d3] }
  | _ => none }
def bucketWritesRow : OpenClaim := { program := "ytknmokpnkcckeaa", sum := "d6d5d7f536e57c110028c5e3fdf1ceb5f5fb8d8c6d1a2aa17481bae21056943e", func := "thimblerig/thimbleriglaw10.BucketWrites", spec := "bucketWrites", unfollowed := true, recurses := true, apart := false }
def BucketWritesSaid : Prop := bucketWritesRow.holds Try.pinned (OpenSpec.ofChange bucketWritesSpec)

/-- ITS FALSE NEIGHBOUR: 'it returns false'. Refute it at one input. -/
def bucketWritesWrong : ChangeSpec := { name := "bucketWrites", fn := fun _ => fun
  | [d1, d2, d3] => { results := [.lit (.bool false)], args := [d1, d2, d3] }
  | _ => none }
def BucketWritesWrongFalsely : Prop := bucketWritesRow.holds Try.pinned (OpenSpec.ofChange bucketWritesWrong)

/-- 'thimbleriglaw10.BucketReads': WHATEVER THE INPUT: true; the input reads as it did. -/
def bucketReadsSpec : ChangeSpec := { name := "bucketReads", fn := fun _ => fun
  | [d1, d2] => { results := [.lit (.bool true)], args := [d1, d2] }
  | _ => none }
def bucketReadsRow : OpenClaim := { program := "ytknmokpnkcckeaa", sum := "d6d5d7f536e57c110028c5e3fdf1ceb5f5fb8d8c6d1a2aa17481bae21056943e", func := "thimblerig/thimbleriglaw10.BucketReads", spec := "bucketReads", unfollowed := true, recurses := true, apart := false }
def BucketReadsSaid : Prop := bucketReadsRow.holds Try.pinned (OpenSpec.ofChange bucketReadsSpec)

/-- ITS FALSE NEIGHBOUR: 'it returns false'. Refute it at one input. -/
def bucketReadsWrong : ChangeSpec := { name := "bucketReads", fn := fun _ => fun
  | [d1, d2] => { results := [.lit (.bool false)], args := [d1, d2] }
  | _ => none }
def BucketReadsWrongFalsely : Prop := bucketReadsRow.holds Try.pinned (OpenSpec.ofChange bucketReadsWrong)

/-- 'thimbleriglaw10.BucketNames': WHATEVER THE INPUT: true; the input reads as it did. -/
def bucketNamesSpec : ChangeSpec := { name := "bucketNames", fn := fun _ => fun
  | [] => { results := [.lit (.bool true)], args := [] }
  | _ => none }
def bucketNamesRow : OpenClaim := { program := "ytknmokpnkcckeaa", sum := "d6d5d7f536e57c110028c5e3fdf1ceb5f5fb8d8c6d1a2aa17481bae21056943e", func := "thimblerig/thimbleriglaw10.BucketNames", spec := "bucketNames", unfollowed := true, recurses := true, apart := false }
def BucketNamesSaid : Prop := bucketNamesRow.holds Try.pinned (OpenSpec.ofChange bucketNamesSpec)

/-- ITS FALSE NEIGHBOUR: 'it returns false'. Refute it at one input. -/
def bucketNamesWrong : ChangeSpec := { name := "bucketNames", fn := fun _ => fun
  | [] => { results := [.lit (.bool false)], args := [] }
  | _ => none }
def BucketNamesWrongFalsely : Prop := bucketNamesRow.holds Try.pinned (OpenSpec.ofChange bucketNamesWrong)

/-- 'thimbleriglaw10.BucketBack': WHATEVER THE INPUT: true; the input reads as it did. -/
def bucketBackSpec : ChangeSpec := { name := "bucketBack", fn := fun _ => fun
  | [d1, d2, d3] => { results := [.lit (.bool true)], args := [d1, d2, d3] }
  | _ => none }
def bucketBackRow : OpenClaim := { program := "ytknmokpnkcckeaa", sum := "d6d5d7f536e57c110028c5e3fdf1ceb5f5fb8d8c6d1a2aa17481bae21056943e", func := "thimblerig/thimbleriglaw10.BucketBack", spec := "bucketBack", unfollowed := true, recurses := true, apart := false }
def BucketBackSaid : Prop := bucketBackRow.holds Try.pinned (OpenSpec.ofChange bucketBackSpec)

/-- ITS FALSE NEIGHBOUR: 'it returns false'. Refute it at one input. -/
def bucketBackWrong : ChangeSpec := { name := "bucketBack", fn := fun _ => fun
  | [d1, d2, d3] => { results := [.lit (.bool false)], args := [d1, d2, d3] }
  | _ => none }
def BucketBackWrongFalsely : Prop := bucketBackRow.holds Try.pinned (OpenSpec.ofChange bucketBackWrong)

/-- 'thimbleriglaw10.BucketSlots': WHATEVER THE INPUT: true; the input reads as it did. -/
def bucketSlotsSpec : ChangeSpec := { name := "bucketSlots", fn := fun _ => fun
  | [d1, d2] => { results := [.lit (.bool true)], args := [d1, d2] }
  | _ => none }
def bucketSlotsRow : OpenClaim := { program := "ytknmokpnkcckeaa", sum := "d6d5d7f536e57c110028c5e3fdf1ceb5f5fb8d8c6d1a2aa17481bae21056943e", func := "thimblerig/thimbleriglaw10.BucketSlots", spec := "bucketSlots", unfollowed := true, recurses := true, apart := false }
def BucketSlotsSaid : Prop := bucketSlotsRow.holds Try.pinned (OpenSpec.ofChange bucketSlotsSpec)

/-- ITS FALSE NEIGHBOUR: 'it returns false'. Refute it at one input. -/
def bucketSlotsWrong : ChangeSpec := { name := "bucketSlots", fn := fun _ => fun
  | [d1, d2] => { results := [.lit (.bool false)], args := [d1, d2] }
  | _ => none }
def BucketSlotsWrongFalsely : Prop := bucketSlotsRow.holds Try.pinned (OpenSpec.ofChange bucketSlotsWrong)

/- THE SECOND FORM. 'bulk': how many values and letters a reading holds, each counted each time it is reached (what is shared counts as often as it is met; a slice's spare places count too). A statement '..UptoSaid' is the law's where the arguments, and the package variables that the reading takes, are together of bulk at most 1048576: NARROWER than '..Said'. Prove '..Said' where nothing that the law and all that it calls make is longer than what came in: it says more and counts as full. Else prove '..UptoSaid'. A law counts once. -/
mutual
def uptoBulk {H : Type} : DataW H → Nat
  | .lit (.string bytes) => bytes.length + 1
  | .lit _ => 1
  | .nil => 1
  | .ptr d => uptoBulk d + 1
  | .slice elems spare => uptoBulkAll elems + uptoBulkAll spare + 1
  | .agg parts => uptoBulkAll parts + 1
  | .iface _ d => uptoBulk d + 1
  | .map entries => uptoBulkEntries entries + 1
  | .held _ => 1
def uptoBulkAll {H : Type} : List (DataW H) → Nat
  | [] => 0
  | d :: r => uptoBulk d + uptoBulkAll r
def uptoBulkEntries {H : Type} : List (Lit × DataW H) → Nat
  | [] => 0
  | x :: r => uptoBulkEntry x + uptoBulkEntries r
def uptoBulkEntry {H : Type} : Lit × DataW H → Nat
  | (.string bytes, d) => bytes.length + uptoBulk d + 1
  | (_, d) => uptoBulk d + 1
 end
def uptoSmall : (H : Type) → List (DataW H) → Bool := fun _ ds => decide (uptoBulkAll ds ≤ 1048576)
def OpenSpec.upto (s : _root_.Go.ChangeSpec) : _root_.Go.OpenSpec := { _root_.Go.OpenSpec.ofChange s with cond := some uptoSmall }

/-- 'thimbleriglaw17.EvictFills', WHERE WHAT IT READS IS OF BULK AT MOST 1048576: true; the input reads as it did. -/
def evictFillsUptoRow : OpenClaim := { program := "ytknmokpnkcckeaa", sum := "d6d5d7f536e57c110028c5e3fdf1ceb5f5fb8d8c6d1a2aa17481bae21056943e", func := "thimblerig/thimbleriglaw17.EvictFills", spec := "evictFills", unfollowed := true, recurses := true, apart := false, narrowed := true }
def EvictFillsUptoSaid : Prop := evictFillsUptoRow.holds Try.pinned (OpenSpec.upto evictFillsSpec)

/-- 'thimbleriglaw10.BucketWrites', WHERE WHAT IT READS IS OF BULK AT MOST 1048576: true; the input reads as it did. -/
def bucketWritesUptoRow : OpenClaim := { program := "ytknmokpnkcckeaa", sum := "d6d5d7f536e57c110028c5e3fdf1ceb5f5fb8d8c6d1a2aa17481bae21056943e", func := "thimblerig/thimbleriglaw10.BucketWrites", spec := "bucketWrites", unfollowed := true, recurses := true, apart := false, narrowed := true }
def BucketWritesUptoSaid : Prop := bucketWritesUptoRow.holds Try.pinned (OpenSpec.upto bucketWritesSpec)

/-- 'thimbleriglaw10.BucketReads', WHERE WHAT IT READS IS OF BULK AT MOST 1048576: true; the input reads as it did. -/
def bucketReadsUptoRow : OpenClaim := { program := "ytknmokpnkcckeaa", sum := "d6d5d7f536e57c110028c5e3fdf1ceb5f5fb8d8c6d1a2aa17481bae21056943e", func := "thimblerig/thimbleriglaw10.BucketReads", spec := "bucketReads", unfollowed := true, recurses := true, apart := false, narrowed := true }
def BucketReadsUptoSaid : Prop := bucketReadsUptoRow.holds Try.pinned (OpenSpec.upto bucketReadsSpec)

/-- 'thimbleriglaw10.BucketNames', WHERE WHAT IT READS IS OF BULK AT MOST 1048576: true; the input reads as it did. -/
def bucketNamesUptoRow : OpenClaim := { program := "ytknmokpnkcckeaa", sum := "d6d5d7f536e57c110028c5e3fdf1ceb5f5fb8d8c6d1a2aa17481bae21056943e", func := "thimblerig/thimbleriglaw10.BucketNames", spec := "bucketNames", unfollowed := true, recurses := true, apart := false, narrowed := true }
def BucketNamesUptoSaid : Prop := bucketNamesUptoRow.holds Try.pinned (OpenSpec.upto bucketNamesSpec)

/-- 'thimbleriglaw10.BucketBack', WHERE WHAT IT READS IS OF BULK AT MOST 1048576: true; the input reads as it did. -/
def bucketBackUptoRow : OpenClaim := { program := "ytknmokpnkcckeaa", sum := "d6d5d7f536e57c110028c5e3fdf1ceb5f5fb8d8c6d1a2aa17481bae21056943e", func := "thimblerig/thimbleriglaw10.BucketBack", spec := "bucketBack", unfollowed := true, recurses := true, apart := false, narrowed := true }
def BucketBackUptoSaid : Prop := bucketBackUptoRow.holds Try.pinned (OpenSpec.upto bucketBackSpec)

/-- 'thimbleriglaw10.BucketSlots', WHERE WHAT IT READS IS OF BULK AT MOST 1048576: true; the input reads as it did. -/
def bucketSlotsUptoRow : OpenClaim := { program := "ytknmokpnkcckeaa", sum := "d6d5d7f536e57c110028c5e3fdf1ceb5f5fb8d8c6d1a2aa17481bae21056943e", func := "thimblerig/thimbleriglaw10.BucketSlots", spec := "bucketSlots", unfollowed := true, recurses := true, apart := false, narrowed := true }
def BucketSlotsUptoSaid : Prop := bucketSlotsUptoRow.holds Try.pinned (OpenSpec.upto bucketSlotsSpec)

end Rows
end Go.Proofs.Ytknmokpnkcckeaa
