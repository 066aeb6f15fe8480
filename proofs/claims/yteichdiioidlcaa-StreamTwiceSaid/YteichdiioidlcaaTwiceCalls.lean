/-
StreamTwice as a plain function, and that the call does so.
-/
import Derived.Test.YteichdiioidlcaaLawTwice
import Derived.Test.YteichdiioidlcaaGoesCalls
namespace Go.Proofs.Yteichdiioidlcaa
open Go.RowKit Go.Proofs.YteichdiioidlcaaW.PrintWords
set_option linter.unusedVariables false

def law04_StreamTwice.f (r : Nat) (l k : List Int) (n : Int) : Option Bool := if (allIn .u8 l && allIn .u8 k && allIn .u64 [n]) = true then some true else none
theorem law04_StreamTwice.calls (j : Nat) (A0 : Option Addr) (c0 : Nat) (l0 : List Int) (k : List Int) (n : Int) (r : Bool) (w : World) (hr0 : Kd.C (Kd.int .u8) w A0 l0.length l0) (hc0 : l0.length ≤ c0) (hk : k.length = 32) (h : law04_StreamTwice.f j l0 k n = some r) :
    Calls Try.prog 10 #[.slice A0 l0.length c0, .agg (numCells .u8 k), .int .u64 n] w fun e w' => e = .returned (.bool r) ∧ Below w.heap.size w w' := by
  unfold law04_StreamTwice.f at h
  split at h
  · rename_i hz
    injection h with h
    subst h
    simp only [Bool.and_eq_true] at hz
    by_cases hm : 2048 < l0.length
    · exact twice_big A0 c0 l0.length k n hm w
    · exact twice_small A0 c0 l0.length l0 k n hc0 (allIn_spec hz.1.1) hk (allIn_spec hz.1.2) (u64_spec hz.2).1 (u64_spec hz.2).2 (by omega) w hr0
  · cases h
end Go.Proofs.Yteichdiioidlcaa
