/-
Words of the rows: arguments that are slices, arrays and structs of numbers, opened; arrays of numbers compared.
-/
import Derived.WalkKit
import Derived.ProofKit
import Derived.OpenShut
import Derived.Lib.SmallJoins
import Derived.ChangeKeysEq
namespace Go.Proofs.Ytknmokpnkcckeaa
open Go.ChangeShapes Go.WideShapes Go.ChangeAt Go.RowKit Go.Joins
set_option linter.unusedVariables false
def IsRow (k : IntKind) (w : World) (a : Option Addr) (len cap : Nat) (zs : List Int) : Prop :=
  (a = none ∧ len = 0 ∧ cap = 0 ∧ zs = []) ∨
  ∃ x, a = some x ∧ len ≤ cap ∧ cap ≤ maxLen ∧ zs.length = cap ∧ (∀ i, i < zs.length → w.cell? (x.add i) = some (.int k (zs.getD i 0))) ∧ ∀ n ∈ zs, (Lit.int k n).wf = true

/-- An array's cells. -/
abbrev numCells (k : IntKind) (z : List Int) : Array Value := (z.map (Value.int k)).toArray
theorem cells_of_all {k : IntKind} : ∀ (l : List Value), (∀ (i : Nat), i < l.length → ∃ n, l[i]? = some (.int k n) ∧ (Lit.int k n).wf = true) → ∃ z : List Int, l = z.map (Value.int k) ∧ z.length = l.length ∧ ∀ x ∈ z, (Lit.int k x).wf = true
  | [], _ => ⟨[], rfl, rfl, fun x hx => by cases hx⟩
  | v :: t, h => by
    obtain ⟨n, hn, hw⟩ := h 0 (by simp)
    simp only [List.getElem?_cons_zero, Option.some.injEq] at hn
    obtain ⟨z, hz, hl, hzw⟩ := cells_of_all t (fun i hi => by
      obtain ⟨m, hm, hw'⟩ := h (i + 1) (by simpa using hi)
      exact ⟨m, by simpa using hm, hw'⟩)
    refine ⟨n :: z, by rw [hn, hz]; rfl, by simp [hl], fun x hx => ?_⟩
    rcases List.mem_cons.1 hx with rfl | hx
    · exact hw
    · exact hzw x hx
section
variable {H : Type} {enc : TypeId × Value → H} {P : Program} {w : World} {base : Nat} {spare : Nat → Bool} {held : Bool} {r : Reach} {b0 : Nat} {t e : TypeId} {n : Nat} {k : IntKind} {v : Value} {d : DataW H} {p : List MemPlace}
end

/-! ### arrays of numbers, compared -/
section
variable {P : Program} {e t : TypeId} {k : IntKind} {i : TypeInfo}
theorem run_part_num (w : World) (he : P.underlying e = some (.int k)) (z : List Int) (j : Nat) (hj : j < z.length) : (part e (numCells k z) j).run P w = .ok (.int k z[j]) w := by
  simp [part, isAgg, run_underlying he, hj, Result.andThen]
theorem run_eqItems_num (w : World) (dd : Nat) (he : P.underlying e = some (.int k)) (xs ys : List Int) (hl : xs.length = ys.length) : ∀ (is : List Nat), (∀ j ∈ is, j < xs.length) →
    (Op.eqItems (dd + 1) e 1 (numCells k xs) (numCells k ys) is).run P w = .ok (is.all fun j => xs[j]? == ys[j]?) w
  | [], _ => rfl
  | j :: is, h => by
    have hj := h j List.mem_cons_self
    have hj2 : j < ys.length := by omega
    have ih := run_eqItems_num w dd he xs ys hl is (fun q hq => h q (List.mem_cons_of_mem _ hq))
    simp only [Op.eqItems, Nat.mul_one, Sem.run_bind, run_part_num w he xs j hj, run_part_num w he ys j hj2, Result.andThen_ok, run_equalIn_int w dd e k k _ _ he, List.all_cons, List.getElem?_eq_getElem hj, List.getElem?_eq_getElem hj2]
    by_cases hxy : xs[j] = ys[j]
    · simp [hxy, ih]
    · simp [hxy]
end
end Go.Proofs.Ytknmokpnkcckeaa
