/-
ref10.May: may a bucket be (the document's).
-/
import Derived.Test.YtknmokpnkcckeaaBkRef
import Derived.Test.YtknmokpnkcckeaaPAll14
import Derived.Test.YtknmokpnkcckeaaBkTwinP
import Derived.Test.YtknmokpnkcckeaaPAll38
namespace Go.Proofs.Ytknmokpnkcckeaa
open Go.RowKit Go.Proofs.YtknmokpnkcckeaaW.PrintWords Go.Proofs.YtknmokpnkcckeaaW.PrintLast Go.Proofs.YtknmokpnkcckeaaW.PrintMore Go.Proofs.Ytknmokpnkcckeaa.PAll
set_option linter.unusedVariables false
set_option linter.unusedSimpArgs false

theorem infoLB : (Try.prog.info? 23).map (·.size) = some 4 := by kernel_rfl
theorem exec_loadB {P : Program} {o : Oper} {a : Act} {w : World} {ty : TypeId} {x : Operand} {b u : Nat} {cs : Array Value} {d : TypeDesc} (ho : o.op = .load ty x) (hx : a.eval x = .pointer (some ⟨b, 0, none⟩)) (hg : w.heap[b]? = some (.cells cs u (0, 0))) (hu : P.underlying ty = some d) (hd : d.isRow = true) (hi : (P.info? ty).map (·.size) = some cs.size) :
    (execOp a.eval o).run P w = .ok (.value (.agg cs)) w := by
  have hl := load_whole hg hu hd hi
  unfold execOp
  simp only [ho, hx, Sem.run_bind, hl, Result.andThen_ok, Sem.run_pure]
/-- The numbers met ahead of a place. -/
def seenB (xs : List S62) (i : Nat) : List Int := ((xs.take i).map (·.f0)).reverse
end Go.Proofs.Ytknmokpnkcckeaa

namespace Go.Proofs.Ytknmokpnkcckeaa
open Go.RowKit Go.Proofs.YtknmokpnkcckeaaW.PrintWords Go.Proofs.YtknmokpnkcckeaaW.PrintLast Go.Proofs.YtknmokpnkcckeaaW.PrintMore Go.Proofs.Ytknmokpnkcckeaa.PAll
set_option linter.unusedVariables false
set_option linter.unusedSimpArgs false

theorem info5B : (Try.prog.info? 5).map (fun i => (i.zero, i.size, i.bytes)) = some (some (.int .u8 0), 1, 1) := by kernel_rfl
theorem C_dig {W : World} {b o t : Nat} {pre tail : List Value} {L : List Int} (hl : L.length = 32) (h : W.heap[b]? = some (.cells ⟨pre ++ (L.map (Value.int .u8) ++ tail)⟩ t (0, 0))) (hp : pre.length = o) : Kd.C (Kd.int .u8) W (some ⟨b, o, none⟩) 32 L := by
  refine ⟨hl, by omega, fun _ => ⟨_, rfl, fun j p hj => ?_⟩⟩
  have hj2 := (List.getElem?_eq_some_iff.1 hj).1
  refine ⟨[.int .u8 p], rfl, rfl, fun i u hu => ?_⟩
  rcases i with _ | i
  · simp only [List.getElem?_cons_zero, Option.some.injEq] at hu
    subst hu
    rw [add_at, blk_cell h, List.getElem?_toArray]
    have e : o + (j * (Kd.int .u8).sz + 0) = o + j := by show o + (j * 1 + 0) = o + j; omega
    rw [e, List.getElem?_append_right (by omega), show o + j - pre.length = j by omega, List.getElem?_append_left (by simpa using hj2), List.getElem?_map, hj]
    rfl
  · simp at hu
/-- The first slots' text. -/
def ofK (size : Int) (T : S62 → List Int) (xs : List S62) : Nat → List Int
  | 0 => []
  | k + 1 => ofK size T xs k ++ (match xs[k]? with | some x => T x | none => List.replicate (8 + size).toNat 0)
end Go.Proofs.Ytknmokpnkcckeaa

namespace Go.Proofs.Ytknmokpnkcckeaa
open Go.RowKit Go.Proofs.YtknmokpnkcckeaaW.PrintWords Go.Proofs.YtknmokpnkcckeaaW.PrintLast Go.Proofs.YtknmokpnkcckeaaW.PrintMore Go.Proofs.Ytknmokpnkcckeaa.PAll
set_option linter.unusedVariables false
set_option linter.unusedSimpArgs false

end Go.Proofs.Ytknmokpnkcckeaa
