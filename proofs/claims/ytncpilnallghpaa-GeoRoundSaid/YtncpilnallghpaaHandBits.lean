/-
bits.Len of a small number.
-/
import Derived.Test.YtncpilnallghpaaProg
import Derived.Test.YtncpilnallghpaaHandWords
import Derived.Lib.BitFns
import Derived.Lib.Tables
namespace Go.Proofs.Ytncpilnallghpaa
open Go.RowKit Go.Proofs.YtncpilnallghpaaW.PrintWords Go.Proofs.YtncpilnallghpaaW.PrintLast Go.Proofs.YtncpilnallghpaaW.PrintMore
set_option linter.unusedVariables false
set_option linter.unusedSimpArgs false

def bits_Len.f (x : Int) : Option Int := if 0 ≤ x then if x < 256 then some (Lib.bitLen x.toNat) else none else none

theorem len8_all : ∀ j : Fin 256, wrap64 (wrap64 ((Lib.len8tab.get j.val (by rw [Lib.len8tab_size]; exact j.isLt)).toNat : Int)) = (Lib.bitLen j.val : Int) := by decide +kernel

set_option maxHeartbeats 4000000 in
set_option maxRecDepth 100000 in
theorem bits_Len64.small (x : Int) (w : World) (h0 : 0 ≤ x) (h1 : x < 256) :
    Calls Try.prog 62 #[.int .u64 x] w fun e w' => e = .returned (.int .i64 (Lib.bitLen x.toNat)) ∧ w = w' := by
  have hx : x % 256 = x := by omega
  go_enter Try.func62, Try.ntmps62
  go_wp2
  go_ret
  refine ⟨congrArg Ending.returned (congrArg (Value.int IntKind.i64) ?_), rfl⟩
  exact len8_all ⟨x.toNat, by omega⟩

set_option maxHeartbeats 1000000 in
theorem bits_Len.calls (a0 : Int) (r : Int) (w : World) (h : bits_Len.f a0 = some r) :
    Calls Try.prog 56 #[.int .u64 a0] w fun e w' => e = .returned (.int .i64 r) ∧ Drawn0 w w' := by
  have hh : 0 ≤ a0 ∧ a0 < 256 ∧ (Lib.bitLen a0.toNat : Int) = r := by
    unfold bits_Len.f at h
    split at h
    · split at h
      · exact ⟨by assumption, by assumption, Option.some.inj h⟩
      · cases h
    · cases h
  clear h
  obtain ⟨h0, h1, rfl⟩ := hh
  go_enter Try.func56, Try.ntmps56
  go_wp2_with (go_at_call 62; refine (bits_Len64.small _ _ h0 h1).mono ?_; rintro e w2 ⟨rfl, rfl⟩)
  go_ret
  exact ⟨rfl, Drawn0.refl _⟩
end Go.Proofs.Ytncpilnallghpaa
