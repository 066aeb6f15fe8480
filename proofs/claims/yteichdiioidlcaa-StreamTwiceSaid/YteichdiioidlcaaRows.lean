/-
  No cell of these rows narrows 'for every input' (looked for: loops, veiled, ifaces, maps, wideKeys, modest, calm, conditions, laid).
  DERIVED. THE GIVEN ROWS OF THIS SEAT. 8 by the template 'for every input the law returns true; each argument reads behind the call as it read before'; 0 by the template 'total and deterministic' (their statements: YteichdiioidlcaaTotals.lean).
  GIVEN WITH THE SEED: the statements are not yours to turn. If you find one false, say at which input.
  Laid BY PROGRAM, IN A SANDBOX (cutbox-rows.mjs): the forced cells as the released guide's own fill.sh prints them over the translation f7276eb997a70e15… (all of the seat's roots in one cut). By AI agents, Wed Nov 11 2026. No macro, syntax, notation, axiom, sorry.
-/
import Derived.Test.YteichdiioidlcaaChecked
import GoSem.Claim
import GoSem.ClaimJoined
import GoSem.ClaimMapViews
import Derived.JoinedTies
import Derived.KernelRfl
namespace Go.Proofs.Yteichdiioidlcaa
/- THE CELL 'sum', in the pinned program and in every row, IS THE sha256 OF THE DUMP (.gsa) THAT YteichdiioidlcaaProg.lean LOADS. Nothing in Lean hashes anything: it is a label: what it is worth is what the hold of that sum in a sandbox is worth. -/
noncomputable def Try.pinned : Pinned := { name := "yteichdiioidlcaa", sum := "f7276eb997a70e157b06bd0b1dc4374f6d8e1c62715c14ce806084377c3c8ca7", checked := Try.checked }
namespace Rows
def none {H : Type} : Left H := { results := [], args := [] }

/-- 'thimbleriglaw04.StreamMixes': WHATEVER THE INPUT: true; the input reads as it did. -/
def streamMixesSpec : ChangeSpec := { name := "streamMixes", fn := fun _ => fun
  | [d1, d2] => { results := [.lit (.bool true)], args := [d1, d2] }
  | _ => none }
def streamMixesRow : OpenClaim := { program := "yteichdiioidlcaa", sum := "f7276eb997a70e157b06bd0b1dc4374f6d8e1c62715c14ce806084377c3c8ca7", func := "thimblerig/thimbleriglaw04.StreamMixes", spec := "streamMixes", unfollowed := true, recurses := true, apart := false }
def StreamMixesSaid : Prop := streamMixesRow.holds Try.pinned (OpenSpec.ofChange streamMixesSpec)

/-- ITS FALSE NEIGHBOUR: 'it returns false'. Refute it at one input. -/
def streamMixesWrong : ChangeSpec := { name := "streamMixes", fn := fun _ => fun
  | [d1, d2] => { results := [.lit (.bool false)], args := [d1, d2] }
  | _ => none }
def StreamMixesWrongFalsely : Prop := streamMixesRow.holds Try.pinned (OpenSpec.ofChange streamMixesWrong)

/-- 'thimbleriglaw03.ChachaBack': WHATEVER THE INPUT: true; the input reads as it did. -/
def chachaBackSpec : ChangeSpec := { name := "chachaBack", fn := fun _ => fun
  | [d] => { results := [.lit (.bool true)], args := [d] }
  | _ => none }
def chachaBackRow : OpenClaim := { program := "yteichdiioidlcaa", sum := "f7276eb997a70e157b06bd0b1dc4374f6d8e1c62715c14ce806084377c3c8ca7", func := "thimblerig/thimbleriglaw03.ChachaBack", spec := "chachaBack", unfollowed := true, recurses := true, apart := false }
def ChachaBackSaid : Prop := chachaBackRow.holds Try.pinned (OpenSpec.ofChange chachaBackSpec)

/-- ITS FALSE NEIGHBOUR: 'it returns false'. Refute it at one input. -/
def chachaBackWrong : ChangeSpec := { name := "chachaBack", fn := fun _ => fun
  | [d] => { results := [.lit (.bool false)], args := [d] }
  | _ => none }
def ChachaBackWrongFalsely : Prop := chachaBackRow.holds Try.pinned (OpenSpec.ofChange chachaBackWrong)

/-- 'thimbleriglaw03.ChachaTurns': WHATEVER THE INPUT: true; the input reads as it did. -/
def chachaTurnsSpec : ChangeSpec := { name := "chachaTurns", fn := fun _ => fun
  | [d1, d2] => { results := [.lit (.bool true)], args := [d1, d2] }
  | _ => none }
def chachaTurnsRow : OpenClaim := { program := "yteichdiioidlcaa", sum := "f7276eb997a70e157b06bd0b1dc4374f6d8e1c62715c14ce806084377c3c8ca7", func := "thimblerig/thimbleriglaw03.ChachaTurns", spec := "chachaTurns", unfollowed := true, recurses := true, apart := false }
def ChachaTurnsSaid : Prop := chachaTurnsRow.holds Try.pinned (OpenSpec.ofChange chachaTurnsSpec)

/-- ITS FALSE NEIGHBOUR: 'it returns false'. Refute it at one input. -/
def chachaTurnsWrong : ChangeSpec := { name := "chachaTurns", fn := fun _ => fun
  | [d1, d2] => { results := [.lit (.bool false)], args := [d1, d2] }
  | _ => none }
def ChachaTurnsWrongFalsely : Prop := chachaTurnsRow.holds Try.pinned (OpenSpec.ofChange chachaTurnsWrong)

/-- 'thimbleriglaw03.ChachaNames': WHATEVER THE INPUT: true; the input reads as it did. -/
def chachaNamesSpec : ChangeSpec := { name := "chachaNames", fn := fun _ => fun
  | [] => { results := [.lit (.bool true)], args := [] }
  | _ => none }
def chachaNamesRow : OpenClaim := { program := "yteichdiioidlcaa", sum := "f7276eb997a70e157b06bd0b1dc4374f6d8e1c62715c14ce806084377c3c8ca7", func := "thimblerig/thimbleriglaw03.ChachaNames", spec := "chachaNames", unfollowed := true, recurses := true, apart := false }
def ChachaNamesSaid : Prop := chachaNamesRow.holds Try.pinned (OpenSpec.ofChange chachaNamesSpec)

/-- ITS FALSE NEIGHBOUR: 'it returns false'. Refute it at one input. -/
def chachaNamesWrong : ChangeSpec := { name := "chachaNames", fn := fun _ => fun
  | [] => { results := [.lit (.bool false)], args := [] }
  | _ => none }
def ChachaNamesWrongFalsely : Prop := chachaNamesRow.holds Try.pinned (OpenSpec.ofChange chachaNamesWrong)

/-- 'thimbleriglaw03.ChachaTold': WHATEVER THE INPUT: true; the input reads as it did. -/
def chachaToldSpec : ChangeSpec := { name := "chachaTold", fn := fun _ => fun
  | [d1, d2, d3] => { results := [.lit (.bool true)], args := [d1, d2, d3] }
  | _ => none }
def chachaToldRow : OpenClaim := { program := "yteichdiioidlcaa", sum := "f7276eb997a70e157b06bd0b1dc4374f6d8e1c62715c14ce806084377c3c8ca7", func := "thimblerig/thimbleriglaw03.ChachaTold", spec := "chachaTold", unfollowed := true, recurses := true, apart := false }
def ChachaToldSaid : Prop := chachaToldRow.holds Try.pinned (OpenSpec.ofChange chachaToldSpec)

/-- ITS FALSE NEIGHBOUR: 'it returns false'. Refute it at one input. -/
def chachaToldWrong : ChangeSpec := { name := "chachaTold", fn := fun _ => fun
  | [d1, d2, d3] => { results := [.lit (.bool false)], args := [d1, d2, d3] }
  | _ => none }
def ChachaToldWrongFalsely : Prop := chachaToldRow.holds Try.pinned (OpenSpec.ofChange chachaToldWrong)

/-- 'thimbleriglaw04.StreamNames': WHATEVER THE INPUT: true; the input reads as it did. -/
def streamNamesSpec : ChangeSpec := { name := "streamNames", fn := fun _ => fun
  | [] => { results := [.lit (.bool true)], args := [] }
  | _ => none }
def streamNamesRow : OpenClaim := { program := "yteichdiioidlcaa", sum := "f7276eb997a70e157b06bd0b1dc4374f6d8e1c62715c14ce806084377c3c8ca7", func := "thimblerig/thimbleriglaw04.StreamNames", spec := "streamNames", unfollowed := true, recurses := true, apart := false }
def StreamNamesSaid : Prop := streamNamesRow.holds Try.pinned (OpenSpec.ofChange streamNamesSpec)

/-- ITS FALSE NEIGHBOUR: 'it returns false'. Refute it at one input. -/
def streamNamesWrong : ChangeSpec := { name := "streamNames", fn := fun _ => fun
  | [] => { results := [.lit (.bool false)], args := [] }
  | _ => none }
def StreamNamesWrongFalsely : Prop := streamNamesRow.holds Try.pinned (OpenSpec.ofChange streamNamesWrong)

/-- 'thimbleriglaw04.StreamGoesOn': WHATEVER THE INPUT: true; the input reads as it did. -/
def streamGoesOnSpec : ChangeSpec := { name := "streamGoesOn", fn := fun _ => fun
  | [d1, d2, d3, d4] => { results := [.lit (.bool true)], args := [d1, d2, d3, d4] }
  | _ => none }
def streamGoesOnRow : OpenClaim := { program := "yteichdiioidlcaa", sum := "f7276eb997a70e157b06bd0b1dc4374f6d8e1c62715c14ce806084377c3c8ca7", func := "thimblerig/thimbleriglaw04.StreamGoesOn", spec := "streamGoesOn", unfollowed := true, recurses := true, apart := false }
def StreamGoesOnSaid : Prop := streamGoesOnRow.holds Try.pinned (OpenSpec.ofChange streamGoesOnSpec)

/-- ITS FALSE NEIGHBOUR: 'it returns false'. Refute it at one input. -/
def streamGoesOnWrong : ChangeSpec := { name := "streamGoesOn", fn := fun _ => fun
  | [d1, d2, d3, d4] => { results := [.lit (.bool false)], args := [d1, d2, d3, d4] }
  | _ => none }
def StreamGoesOnWrongFalsely : Prop := streamGoesOnRow.holds Try.pinned (OpenSpec.ofChange streamGoesOnWrong)

/-- 'thimbleriglaw04.StreamTwice': WHATEVER THE INPUT: true; the input reads as it did. -/
def streamTwiceSpec : ChangeSpec := { name := "streamTwice", fn := fun _ => fun
  | [d1, d2, d3] => { results := [.lit (.bool true)], args := [d1, d2, d3] }
  | _ => none }
def streamTwiceRow : OpenClaim := { program := "yteichdiioidlcaa", sum := "f7276eb997a70e157b06bd0b1dc4374f6d8e1c62715c14ce806084377c3c8ca7", func := "thimblerig/thimbleriglaw04.StreamTwice", spec := "streamTwice", unfollowed := true, recurses := true, apart := false }
def StreamTwiceSaid : Prop := streamTwiceRow.holds Try.pinned (OpenSpec.ofChange streamTwiceSpec)

/-- ITS FALSE NEIGHBOUR: 'it returns false'. Refute it at one input. -/
def streamTwiceWrong : ChangeSpec := { name := "streamTwice", fn := fun _ => fun
  | [d1, d2, d3] => { results := [.lit (.bool false)], args := [d1, d2, d3] }
  | _ => none }
def StreamTwiceWrongFalsely : Prop := streamTwiceRow.holds Try.pinned (OpenSpec.ofChange streamTwiceWrong)

/- THE SECOND FORM. 'bulk': how many values and letters a reading holds, each counted each time it is reached (what is shared counts as often as it is met; a slice's spare places count too). A statement '..UptoSaid' is the law's where the arguments, and the package variables that the reading takes, are together of bulk at most 1048576: NARROWER than '..Said'. Prove '..Said' where nothing that the law and all that it calls make is longer than what came in: it says more and counts as full. Else prove '..UptoSaid'. A law counts once. -/
mutual
def uptoBulk {H : Type} : DataW H → Nat
  | .lit (.string bytes) => bytes.length + 1
  | .lit _ => 1
  | .nil => 1
  | .ptr d => uptoBulk d + 1
  | .slice elems spare => uptoBulkAll elems + uptoBulkAll spare + 1
  | .agg parts => uptoBulkAll parts + 1
  | .iface _ d => uptoBulk d + 1
  | .map entries => uptoBulkEntries entries + 1
  | .held _ => 1
def uptoBulkAll {H : Type} : List (DataW H) → Nat
  | [] => 0
  | d :: r => uptoBulk d + uptoBulkAll r
def uptoBulkEntries {H : Type} : List (Lit × DataW H) → Nat
  | [] => 0
  | x :: r => uptoBulkEntry x + uptoBulkEntries r
def uptoBulkEntry {H : Type} : Lit × DataW H → Nat
  | (.string bytes, d) => bytes.length + uptoBulk d + 1
  | (_, d) => uptoBulk d + 1
 end
def uptoSmall : (H : Type) → List (DataW H) → Bool := fun _ ds => decide (uptoBulkAll ds ≤ 1048576)
def OpenSpec.upto (s : _root_.Go.ChangeSpec) : _root_.Go.OpenSpec := { _root_.Go.OpenSpec.ofChange s with cond := some uptoSmall }

/-- 'thimbleriglaw04.StreamMixes', WHERE WHAT IT READS IS OF BULK AT MOST 1048576: true; the input reads as it did. -/
def streamMixesUptoRow : OpenClaim := { program := "yteichdiioidlcaa", sum := "f7276eb997a70e157b06bd0b1dc4374f6d8e1c62715c14ce806084377c3c8ca7", func := "thimblerig/thimbleriglaw04.StreamMixes", spec := "streamMixes", unfollowed := true, recurses := true, apart := false, narrowed := true }
def StreamMixesUptoSaid : Prop := streamMixesUptoRow.holds Try.pinned (OpenSpec.upto streamMixesSpec)

/-- 'thimbleriglaw03.ChachaBack', WHERE WHAT IT READS IS OF BULK AT MOST 1048576: true; the input reads as it did. -/
def chachaBackUptoRow : OpenClaim := { program := "yteichdiioidlcaa", sum := "f7276eb997a70e157b06bd0b1dc4374f6d8e1c62715c14ce806084377c3c8ca7", func := "thimblerig/thimbleriglaw03.ChachaBack", spec := "chachaBack", unfollowed := true, recurses := true, apart := false, narrowed := true }
def ChachaBackUptoSaid : Prop := chachaBackUptoRow.holds Try.pinned (OpenSpec.upto chachaBackSpec)

/-- 'thimbleriglaw03.ChachaTurns', WHERE WHAT IT READS IS OF BULK AT MOST 1048576: true; the input reads as it did. -/
def chachaTurnsUptoRow : OpenClaim := { program := "yteichdiioidlcaa", sum := "f7276eb997a70e157b06bd0b1dc4374f6d8e1c62715c14ce806084377c3c8ca7", func := "thimblerig/thimbleriglaw03.ChachaTurns", spec := "chachaTurns", unfollowed := true, recurses := true, apart := false, narrowed := true }
def ChachaTurnsUptoSaid : Prop := chachaTurnsUptoRow.holds Try.pinned (OpenSpec.upto chachaTurnsSpec)

/-- 'thimbleriglaw03.ChachaNames', WHERE WHAT IT READS IS OF BULK AT MOST 1048576: true; the input reads as it did. -/
def chachaNamesUptoRow : OpenClaim := { program := "yteichdiioidlcaa", sum := "f7276eb997a70e157b06bd0b1dc4374f6d8e1c62715c14ce806084377c3c8ca7", func := "thimblerig/thimbleriglaw03.ChachaNames", spec := "chachaNames", unfollowed := true, recurses := true, apart := false, narrowed := true }
def ChachaNamesUptoSaid : Prop := chachaNamesUptoRow.holds Try.pinned (OpenSpec.upto chachaNamesSpec)

/-- 'thimbleriglaw03.ChachaTold', WHERE WHAT IT READS IS OF BULK AT MOST 1048576: true; the input reads as it did. -/
def chachaToldUptoRow : OpenClaim := { program := "yteichdiioidlcaa", sum := "f7276eb997a70e157b06bd0b1dc4374f6d8e1c62715c14ce806084377c3c8ca7", func := "thimblerig/thimbleriglaw03.ChachaTold", spec := "chachaTold", unfollowed := true, recurses := true, apart := false, narrowed := true }
def ChachaToldUptoSaid : Prop := chachaToldUptoRow.holds Try.pinned (OpenSpec.upto chachaToldSpec)

/-- 'thimbleriglaw04.StreamNames', WHERE WHAT IT READS IS OF BULK AT MOST 1048576: true; the input reads as it did. -/
def streamNamesUptoRow : OpenClaim := { program := "yteichdiioidlcaa", sum := "f7276eb997a70e157b06bd0b1dc4374f6d8e1c62715c14ce806084377c3c8ca7", func := "thimblerig/thimbleriglaw04.StreamNames", spec := "streamNames", unfollowed := true, recurses := true, apart := false, narrowed := true }
def StreamNamesUptoSaid : Prop := streamNamesUptoRow.holds Try.pinned (OpenSpec.upto streamNamesSpec)

/-- 'thimbleriglaw04.StreamGoesOn', WHERE WHAT IT READS IS OF BULK AT MOST 1048576: true; the input reads as it did. -/
def streamGoesOnUptoRow : OpenClaim := { program := "yteichdiioidlcaa", sum := "f7276eb997a70e157b06bd0b1dc4374f6d8e1c62715c14ce806084377c3c8ca7", func := "thimblerig/thimbleriglaw04.StreamGoesOn", spec := "streamGoesOn", unfollowed := true, recurses := true, apart := false, narrowed := true }
def StreamGoesOnUptoSaid : Prop := streamGoesOnUptoRow.holds Try.pinned (OpenSpec.upto streamGoesOnSpec)

/-- 'thimbleriglaw04.StreamTwice', WHERE WHAT IT READS IS OF BULK AT MOST 1048576: true; the input reads as it did. -/
def streamTwiceUptoRow : OpenClaim := { program := "yteichdiioidlcaa", sum := "f7276eb997a70e157b06bd0b1dc4374f6d8e1c62715c14ce806084377c3c8ca7", func := "thimblerig/thimbleriglaw04.StreamTwice", spec := "streamTwice", unfollowed := true, recurses := true, apart := false, narrowed := true }
def StreamTwiceUptoSaid : Prop := streamTwiceUptoRow.holds Try.pinned (OpenSpec.upto streamTwiceSpec)

end Rows
end Go.Proofs.Yteichdiioidlcaa
