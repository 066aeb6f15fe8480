/-
Half a quarter round, backwards, as plain Lean.
-/
import Derived.Test.YteichdiioidlcaaHandQuarter
namespace Go.Proofs.Yteichdiioidlcaa
open Go.RowKit Go.Shelf Go.Proofs.YteichdiioidlcaaW.PrintWords Go.Proofs.YteichdiioidlcaaW.PrintLast Go.Proofs.YteichdiioidlcaaW.PrintMore
set_option linter.unusedVariables false
set_option linter.unusedSimpArgs false

/-- One half of a quarter round, backwards. -/
def halfB (x : Roll) (q : Four) : Four :=
  if x.1.2 then ⟨(q.a - q.b) % 4294967296, q.b, q.c, Go.bits .xor .u32 (rotL q.d (32 - x.1.1.toNat)) q.a⟩
  else ⟨q.a, Go.bits .xor .u32 (rotL q.b (32 - x.1.1.toNat)) q.c, (q.c - q.d) % 4294967296, q.d⟩
theorem halfB_U (x : Roll) {q : Four} (h : q.U) : (halfB x q).U := by
  unfold halfB
  split
  · exact ⟨mod_u32 _, h.2.1, h.2.2.1, by dsimp only; exact bits_u32 _ _ _⟩
  · exact ⟨h.1, by dsimp only; exact bits_u32 _ _ _, mod_u32 _, h.2.2.2⟩
def runB (q : Four) (pre : List Roll) : Four := pre.foldl (fun q x => halfB x q) q
theorem runB_snoc (q : Four) (pre : List Roll) (x : Roll) : runB q (pre ++ [x]) = halfB x (runB q pre) := by simp [runB]
theorem runB_U {q : Four} (h : q.U) (pre : List Roll) : (runB q pre).U := by
  induction pre generalizing q with
  | nil => exact h
  | cons x t ih => exact ih (halfB_U x h)
theorem backW (x n : Int) (w : World) (hn : n = 16 ∨ n = 12 ∨ n = 8 ∨ n = 7) (h : U32 x) : Calls Try.prog 29 #[.int .u32 x, .int .i64 (IntKind.i64.wrap (-n))] w fun e w' => e = .returned (.int .u32 (rotL x (32 - n.toNat))) ∧ w = w' := by
  have e : IntKind.i64.wrap (-n) = -n := by rcases hn with rfl | rfl | rfl | rfl <;> decide
  rw [e]
  exact backAny x n w hn h
def undoR (q : Four) : Four := runB q (upto (rollOf true) 4)

end Go.Proofs.Yteichdiioidlcaa
