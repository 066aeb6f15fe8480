/-
The document's digest: 32 bytes at a place.
-/
import Derived.Test.YtknmokpnkcckeaaBkRdG
import Derived.Test.YtknmokpnkcckeaaRefNum
namespace Go.Proofs.Ytknmokpnkcckeaa
open Go.RowKit Go.Proofs.YtknmokpnkcckeaaW.PrintWords Go.Proofs.YtknmokpnkcckeaaW.PrintLast Go.Proofs.YtknmokpnkcckeaaW.PrintMore Go.Proofs.Ytknmokpnkcckeaa.PAll
set_option linter.unusedVariables false
set_option linter.unusedSimpArgs false

theorem info38D : (Try.prog.info? 38).map (·.size) = some 32 := by kernel_rfl
end Go.Proofs.Ytknmokpnkcckeaa

namespace Go.Proofs.Ytknmokpnkcckeaa
open Go.RowKit Go.Proofs.YtknmokpnkcckeaaW.PrintWords Go.Proofs.YtknmokpnkcckeaaW.PrintLast Go.Proofs.YtknmokpnkcckeaaW.PrintMore Go.Proofs.Ytknmokpnkcckeaa.PAll
set_option linter.unusedVariables false
set_option linter.unusedSimpArgs false

theorem list32 {L : List Int} (h : L.length = 32) : ∃ a0 a1 a2 a3 a4 a5 a6 a7 a8 a9 a10 a11 a12 a13 a14 a15 a16 a17 a18 a19 a20 a21 a22 a23 a24 a25 a26 a27 a28 a29 a30 a31, L = [a0, a1, a2, a3, a4, a5, a6, a7, a8, a9, a10, a11, a12, a13, a14, a15, a16, a17, a18, a19, a20, a21, a22, a23, a24, a25, a26, a27, a28, a29, a30, a31] := by
  match L, h with
  | [a0, a1, a2, a3, a4, a5, a6, a7, a8, a9, a10, a11, a12, a13, a14, a15, a16, a17, a18, a19, a20, a21, a22, a23, a24, a25, a26, a27, a28, a29, a30, a31], _ => exact ⟨a0, a1, a2, a3, a4, a5, a6, a7, a8, a9, a10, a11, a12, a13, a14, a15, a16, a17, a18, a19, a20, a21, a22, a23, a24, a25, a26, a27, a28, a29, a30, a31, rfl⟩
end Go.Proofs.Ytknmokpnkcckeaa

namespace Go.Proofs.Ytknmokpnkcckeaa
open Go.RowKit Go.Proofs.YtknmokpnkcckeaaW.PrintWords Go.Proofs.YtknmokpnkcckeaaW.PrintLast Go.Proofs.YtknmokpnkcckeaaW.PrintMore Go.Proofs.Ytknmokpnkcckeaa.PAll
set_option linter.unusedVariables false
set_option linter.unusedSimpArgs false

theorem at_world {K : Act → World → Prop} {a : Act} {X Y : World} (h : Y = X) (hk : K a Y) : K a X := h ▸ hk
/-- The two boxes of the call. -/
structure BoxD (h : Nat) (l0 l1 l2 l3 : Int) (W : World) : Prop where
  lev : W.heap[h]? = some (.cells #[.int .i64 l0, .int .i64 l1, .int .i64 l2, .int .i64 l3] 23 (0, 0))
  res : W.heap[h + 1]? = some (.cells Try.zeroCells40 40 (0, 0))
theorem BoxD.below {h : Nat} {l0 l1 l2 l3 : Int} {W W' : World} (b : BoxD h l0 l1 l2 l3 W) (hb : Below W.heap.size W W') : BoxD h l0 l1 l2 l3 W' := ⟨blk_below b.lev hb, blk_below b.res hb⟩
theorem BoxD.new (l0 l1 l2 l3 : Int) (w : World) : BoxD w.heap.size l0 l1 l2 l3 ((w.alloc (.cells #[.int .i64 l0, .int .i64 l1, .int .i64 l2, .int .i64 l3] 23)).alloc (.cells Try.zeroCells40 40)) := by
  refine ⟨blk_alloc (heap_alloc_new _ _) _, ?_⟩
  have := heap_alloc_new (w.alloc (.cells #[.int .i64 l0, .int .i64 l1, .int .i64 l2, .int .i64 l3] 23)) (.cells Try.zeroCells40 40)
  rwa [World.size_alloc] at this
end Go.Proofs.Ytknmokpnkcckeaa

namespace Go.Proofs.Ytknmokpnkcckeaa
open Go.RowKit Go.Proofs.YtknmokpnkcckeaaW.PrintWords Go.Proofs.YtknmokpnkcckeaaW.PrintLast Go.Proofs.YtknmokpnkcckeaaW.PrintMore Go.Proofs.Ytknmokpnkcckeaa.PAll
set_option linter.unusedVariables false
set_option linter.unusedSimpArgs false

/-- What the document's Read of a slot answers. -/
def RefSl (l0 l1 l2 l3 : Int) (s : List Int) (r1 r2 : Int) (r3 : List Int) (r4 : Bool) (r5 : Int) : Prop :=
  ∀ (A : Option Addr) (c : Nat) (w : World), Kd.C (Kd.int .u8) w A s.length s → s.length ≤ c →
    Calls Try.prog 59 #[.agg #[.int .i64 l0, .int .i64 l1, .int .i64 l2, .int .i64 l3], .slice A s.length c] w fun e w' => ∃ v2_ : Value, e = .returned (.tuple #[.agg #[.int .i64 r1, .int .i64 r2, v2_], .bool r4, .int .i64 r5]) ∧ Kd.R (Kd.int .u8) 5 w' w.heap.size (fun _ => True) v2_ r3 ∧ Below w.heap.size w w'
/-- The two boxes of the call. -/
structure BoxE (h : Nat) (l0 l1 l2 l3 : Int) (W : World) : Prop where
  lev : W.heap[h]? = some (.cells #[.int .i64 l0, .int .i64 l1, .int .i64 l2, .int .i64 l3] 23 (0, 0))
  res : W.heap[h + 1]? = some (.cells #[.int .i64 0, .int .i64 0, .slice none 0 0] 62 (0, 0))
theorem BoxE.below {h : Nat} {l0 l1 l2 l3 : Int} {W W' : World} (b : BoxE h l0 l1 l2 l3 W) (hb : Below W.heap.size W W') : BoxE h l0 l1 l2 l3 W' := ⟨blk_below b.lev hb, blk_below b.res hb⟩
theorem BoxE.new (l0 l1 l2 l3 : Int) (w : World) : BoxE w.heap.size l0 l1 l2 l3 ((w.alloc (.cells #[.int .i64 l0, .int .i64 l1, .int .i64 l2, .int .i64 l3] 23)).alloc (.cells #[.int .i64 0, .int .i64 0, .slice none 0 0] 62)) := by
  refine ⟨blk_alloc (heap_alloc_new _ _) _, ?_⟩
  have := heap_alloc_new (w.alloc (.cells #[.int .i64 l0, .int .i64 l1, .int .i64 l2, .int .i64 l3] 23)) (.cells #[.int .i64 0, .int .i64 0, .slice none 0 0] 62)
  rwa [World.size_alloc] at this
end Go.Proofs.Ytknmokpnkcckeaa
