/-
ChachaTurns' own run: quarter and double rounds, forth and back, are the reference's.
-/
import Derived.Test.YteichdiioidlcaaSxCha
namespace Go.Proofs.Yteichdiioidlcaa.SxCha
open Go Go.Sx Go.Proofs.Yteichdiioidlcaa
set_option linter.unusedVariables false
set_option linter.unusedSimpArgs false

def allEq : List Int → List Int → Bool
  | a :: l, b :: l' => (a == b) && allEq l l'
  | _, _ => true
theorem allEq_same : ∀ l : List Int, allEq l l = true
  | [] => rfl
  | a :: l => by simp [allEq, allEq_same l]

def fourL (q : Four) : List Int := [q.a, q.b, q.c, q.d]
def doubleL (x : List Int) : List Int :=
  turnAt (turnAt (turnAt (turnAt (turnAt (turnAt (turnAt (turnAt x 0 4 8 12) 1 5 9 13) 2 6 10 14) 3 7 11 15) 0 5 10 15) 1 6 11 12) 2 7 8 13) 3 4 9 14

theorem turns_run (a b c d x0 x1 x2 x3 x4 x5 x6 x7 x8 x9 x10 x11 x12 x13 x14 x15 : Int) :
    (callFn cx (exec cx 1000) 5 [.agg ⟨[.int .u32 a, .int .u32 b, .int .u32 c, .int .u32 d]⟩, .agg ⟨[.int .u32 x0, .int .u32 x1, .int .u32 x2, .int .u32 x3, .int .u32 x4, .int .u32 x5, .int .u32 x6, .int .u32 x7, .int .u32 x8, .int .u32 x9, .int .u32 x10, .int .u32 x11, .int .u32 x12, .int .u32 x13, .int .u32 x14, .int .u32 x15]⟩] []).map (fun p => (p.1.val, p.2)) =
      some (.bool true, [(.bool (allEq (doubleL [x0, x1, x2, x3, x4, x5, x6, x7, x8, x9, x10, x11, x12, x13, x14, x15]) (doubleL [x0, x1, x2, x3, x4, x5, x6, x7, x8, x9, x10, x11, x12, x13, x14, x15])), .bool true),
        (.bool (allEq (fourL (undoR ⟨a, b, c, d⟩)) (fourL (undoR ⟨a, b, c, d⟩))), .bool true), (.bool (allEq (fourL (quarterR ⟨a, b, c, d⟩)) (fourL (quarterR ⟨a, b, c, d⟩))), .bool true)]) := by
  kernel_rfl

theorem turns_walk (a b c d x0 x1 x2 x3 x4 x5 x6 x7 x8 x9 x10 x11 x12 x13 x14 x15 : Int) (h : ∀ v ∈ [a, b, c, d, x0, x1, x2, x3, x4, x5, x6, x7, x8, x9, x10, x11, x12, x13, x14, x15], U32 v) (w : World) :
    Calls Try.prog 5 #[.agg #[.int .u32 a, .int .u32 b, .int .u32 c, .int .u32 d], .agg #[.int .u32 x0, .int .u32 x1, .int .u32 x2, .int .u32 x3, .int .u32 x4, .int .u32 x5, .int .u32 x6, .int .u32 x7, .int .u32 x8, .int .u32 x9, .int .u32 x10, .int .u32 x11, .int .u32 x12, .int .u32 x13, .int .u32 x14, .int .u32 x15]] w
      fun e w' => e = .returned (.bool true) ∧ RowKit.Below w.heap.size w w' := by
  refine below_of_run (cx := cx) rfl cx_ok 1000 (turns_run a b c d x0 x1 x2 x3 x4 x5 x6 x7 x8 x9 x10 x11 x12 x13 x14 x15) ?_ ?_ (.bool true) w
  · intro p hp
    simp only [List.mem_cons, List.not_mem_nil, or_false] at hp
    rcases hp with rfl | rfl | rfl <;> simp only [allEq_same]
  · intro v hv
    simp only [List.mem_cons, List.not_mem_nil, or_false] at hv
    rcases hv with rfl | rfl
    · refine .agg fun u hu => ?_
      simp only [List.mem_toArray, Array.mem_def, List.mem_cons, List.not_mem_nil, or_false] at hu
      rcases hu with rfl | rfl | rfl | rfl <;> exact .int (u32_in (h _ (by simp)))
    · refine .agg fun u hu => ?_
      simp only [List.mem_toArray, Array.mem_def, List.mem_cons, List.not_mem_nil, or_false] at hu
      rcases hu with rfl | rfl | rfl | rfl | rfl | rfl | rfl | rfl | rfl | rfl | rfl | rfl | rfl | rfl | rfl | rfl <;> exact .int (u32_in (h _ (by simp)))
end Go.Proofs.Yteichdiioidlcaa.SxCha
