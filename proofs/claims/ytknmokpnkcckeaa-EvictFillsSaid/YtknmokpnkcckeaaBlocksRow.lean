/-
Words of the rows: arguments that are slices, arrays and structs of numbers, opened; arrays of numbers compared.
-/
import Derived.WalkKit
import Derived.ProofKit
import Derived.OpenShut
import Derived.Lib.SmallJoins
import Derived.ChangeKeysEq
import Derived.SizedLaws
import Derived.Test.YtknmokpnkcckeaaStillB
namespace Go.Proofs.Ytknmokpnkcckeaa
open Go.ChangeShapes Go.WideShapes Go.ChangeAt Go.RowKit Go.Joins
set_option linter.unusedVariables false
def IsRow (k : IntKind) (w : World) (a : Option Addr) (len cap : Nat) (zs : List Int) : Prop :=
  (a = none ∧ len = 0 ∧ cap = 0 ∧ zs = []) ∨
  ∃ x, a = some x ∧ len ≤ cap ∧ cap ≤ maxLen ∧ zs.length = cap ∧ (∀ i, i < zs.length → w.cell? (x.add i) = some (.int k (zs.getD i 0))) ∧ ∀ n ∈ zs, (Lit.int k n).wf = true

/-- An array's cells. -/
abbrev numCells (k : IntKind) (z : List Int) : Array Value := (z.map (Value.int k)).toArray
theorem cells_of_all {k : IntKind} : ∀ (l : List Value), (∀ (i : Nat), i < l.length → ∃ n, l[i]? = some (.int k n) ∧ (Lit.int k n).wf = true) → ∃ z : List Int, l = z.map (Value.int k) ∧ z.length = l.length ∧ ∀ x ∈ z, (Lit.int k x).wf = true
  | [], _ => ⟨[], rfl, rfl, fun x hx => by cases hx⟩
  | v :: t, h => by
    obtain ⟨n, hn, hw⟩ := h 0 (by simp)
    simp only [List.getElem?_cons_zero, Option.some.injEq] at hn
    obtain ⟨z, hz, hl, hzw⟩ := cells_of_all t (fun i hi => by
      obtain ⟨m, hm, hw'⟩ := h (i + 1) (by simpa using hi)
      exact ⟨m, by simpa using hm, hw'⟩)
    refine ⟨n :: z, by rw [hn, hz]; rfl, by simp [hl], fun x hx => ?_⟩
    rcases List.mem_cons.1 hx with rfl | hx
    · exact hw
    · exact hzw x hx
section
variable {H : Type} {enc : TypeId × Value → H} {P : Program} {w : World} {base : Nat} {spare : Nat → Bool} {held : Bool} {r : Reach} {b0 : Nat} {t e : TypeId} {n : Nat} {k : IntKind} {v : Value} {d : DataW H} {p : List MemPlace}
theorem open_nums (ht : P.underlying t = some (.array n e)) (he : P.underlying e = some (.int k)) (hce : P.cellsOf e = 1) (hct : P.cellsOf t = n) (hv : Value.okWide P w r b0 t v) (h : DataW.Trod enc P w base spare held t v d p) :
    ∃ z : List Int, z.length = n ∧ v = .agg (numCells k z) ∧ ∀ x ∈ z, (Lit.int k x).wf = true := by
  simp only [Value.okWide, ht] at hv
  obtain ⟨cs, rfl, hsz, _⟩ := hv
  obtain ⟨fuel, hf⟩ := h
  obtain ⟨xs, m, _, _, hl, hn, hx⟩ := DataW.trod_array ht hf
  have hcl : cs.toList.length = n := by rw [Array.length_toList, hsz, hct]
  obtain ⟨z, hz, hzl, hzw⟩ := cells_of_all (k := k) cs.toList (fun i hi => by
    have hi' : i < n := by omega
    have hxi := hx i hi'
    rw [hce, Nat.mul_one] at hxi
    rw [List.getElem?_eq_getElem (by omega : i < xs.length)] at hxi
    obtain ⟨a, ha, _, hw⟩ := DataW.trod_int he hxi
    refine ⟨a, ?_, hw⟩
    have h0 : (((Value.agg cs).cells.toList.drop i).take 1)[0]? = some (.int k a) := by rw [ha]; rfl
    rw [List.getElem?_take_of_lt (by omega), List.getElem?_drop] at h0
    simpa [Value.cells] using h0)
  refine ⟨z, by omega, ?_, hzw⟩
  rw [numCells, ← hz]
end

/-! ### arrays of numbers, compared -/
section
variable {P : Program} {e t : TypeId} {k : IntKind} {i : TypeInfo}
theorem run_part_num (w : World) (he : P.underlying e = some (.int k)) (z : List Int) (j : Nat) (hj : j < z.length) : (part e (numCells k z) j).run P w = .ok (.int k z[j]) w := by
  simp [part, isAgg, run_underlying he, hj, Result.andThen]
theorem run_eqItems_num (w : World) (dd : Nat) (he : P.underlying e = some (.int k)) (xs ys : List Int) (hl : xs.length = ys.length) : ∀ (is : List Nat), (∀ j ∈ is, j < xs.length) →
    (Op.eqItems (dd + 1) e 1 (numCells k xs) (numCells k ys) is).run P w = .ok (is.all fun j => xs[j]? == ys[j]?) w
  | [], _ => rfl
  | j :: is, h => by
    have hj := h j List.mem_cons_self
    have hj2 : j < ys.length := by omega
    have ih := run_eqItems_num w dd he xs ys hl is (fun q hq => h q (List.mem_cons_of_mem _ hq))
    simp only [Op.eqItems, Nat.mul_one, Sem.run_bind, run_part_num w he xs j hj, run_part_num w he ys j hj2, Result.andThen_ok, run_equalIn_int w dd e k k _ _ he, List.all_cons, List.getElem?_eq_getElem hj, List.getElem?_eq_getElem hj2]
    by_cases hxy : xs[j] = ys[j]
    · simp [hxy, ih]
    · simp [hxy]
theorem run_eql_nums (w : World) {n : Nat} (ht : P.underlying t = some (.array n e)) (he : P.underlying e = some (.int k)) (hi : P.info? e = some i) (hce : P.cellsOf e = 1) (xs ys : List Int) (hx : xs.length = n) (hy : ys.length = n) :
    (binOp .eql t (.agg (numCells k xs)) (.agg (numCells k ys))).run P w = .ok (.bool (decide (xs = ys))) w := by
  rw [run_eql_struct, run_equalIn_array w 9999 _ _ ht hi, hce, run_eqItems_num w 9998 he xs ys (by omega) _ (by simp; omega)]
  have : ((List.range n).all fun j => xs[j]? == ys[j]?) = decide (xs = ys) := by
    rw [Bool.eq_iff_iff, List.all_eq_true, decide_eq_true_eq]
    constructor
    · intro h
      refine List.ext_getElem? fun j => ?_
      by_cases hj : j < n
      · simpa using h j (List.mem_range.2 hj)
      · rw [List.getElem?_eq_none (by omega), List.getElem?_eq_none (by omega)]
    · rintro rfl j _
      simp
  rw [this]
  rfl
end
end Go.Proofs.Ytknmokpnkcckeaa

namespace Go.Proofs.Ytknmokpnkcckeaa
open Go.ChangeShapes Go.WideShapes Go.ChangeAt Go.RowKit Go.Joins Go.Proofs.YtknmokpnkcckeaaW.PrintWords Go.Proofs.Ytknmokpnkcckeaa.PAll
set_option linter.unusedVariables false
section
variable {H : Type} {enc : TypeId × Value → H} {w : World} {base : Nat} {spare : Nat → Bool} {held : Bool} {v : Value} {d : DataW H} {p : List MemPlace}
theorem weightsAll_mem {P : Program} {e : TypeId} : ∀ {l : List (DataW H)} {d : DataW H}, d ∈ l → ∀ n ∈ d.weights P e, n ∈ DataW.weightsAll P e l
  | a :: l, d, hd, n, hn => by
    simp only [DataW.weightsAll, List.mem_append]
    rcases List.mem_cons.1 hd with rfl | hd
    · exact .inl hn
    · exact .inr (weightsAll_mem hd n hn)
theorem isRow_of {P : Program} {t e : TypeId} {k : IntKind} {fuel : Nat} {A : Option Addr} {n c : Nat} {x : DataW H × List MemPlace} (ht : P.underlying t = some (.slice e)) (he : P.underlying e = some (.int k)) (hc : P.cellsOf e = 1) (h : DataW.trod enc P w base (fun _ => true) held fuel t [.slice A n c] = some x) : (∃ zs, IsRow k w A n c zs) ∧ (∀ m ∈ x.1.weights P t, m ≤ reachBytes) → P.bytesOf e = 1 → (∃ zs, IsRow k w A n c zs) ∧ n ≤ reachBytes := by
  rintro ⟨hz, hw⟩ hb
  refine ⟨hz, ?_⟩
  rcases open_ints ht he hc h with ⟨hcs, _⟩ | ⟨y, l, c', zs, hcs, _, hl, hm, hz', rfl, hcell, hwz⟩
  · simp at hcs
    omega
  · simp at hcs
    obtain ⟨rfl, rfl, rfl⟩ := hcs
    have := hw ((((lits (H := H) k (zs.take n)).length + (lits (H := H) k (zs.drop n)).length)) * P.bytesOf e) (by simp [DataW.weights, ht])
    rw [hb] at this
    simp [lits] at this hz'
    omega
theorem row_of {P : Program} {t e : TypeId} {k : IntKind} {fuel : Nat} {A : Option Addr} {n c : Nat} {x : DataW H × List MemPlace} (ht : P.underlying t = some (.slice e)) (he : P.underlying e = some (.int k)) (hc : P.cellsOf e = 1) (h : DataW.trod enc P w base (fun _ => true) held fuel t [.slice A n c] = some x) : ∃ zs, IsRow k w A n c zs := by
  rcases open_ints ht he hc h with ⟨hcs, _⟩ | ⟨y, l, c', zs, hcs, _, hl, hm, hz', _, hcell, hwz⟩
  · simp at hcs
    obtain ⟨rfl, rfl, rfl⟩ := hcs
    exact ⟨[], .inl ⟨rfl, rfl, rfl, rfl⟩⟩
  · simp at hcs
    obtain ⟨rfl, rfl, rfl⟩ := hcs
    exact ⟨zs, .inr ⟨_, rfl, hl, hm, by simpa using hz', hcell, hwz⟩⟩
set_option maxHeartbeats 1000000 in
set_option maxRecDepth 100000 in
theorem open_blocks {fuel : Nat} {cs : List Value} {x : DataW H × List MemPlace} (h : DataW.trod enc Try.prog w base (fun _ => true) held fuel 24 cs = some x) (hsz : ∀ n ∈ x.1.weights Try.prog 24, n ≤ reachBytes) :
    ∃ (A : Option Addr) (c : Nat) (xs : List S62), cs = [.slice A xs.length c] ∧ xs.length ≤ c ∧ Kd.C k62 w A xs.length xs ∧ ∀ x ∈ xs, x.f2.length < 140737488355328 := by
  classical
  rcases DataW.trod_slice Try.underlying24 h with ⟨rfl, rfl⟩ | ⟨a, len, cap, elems, rest, n, _, rfl, rfl, hb, hl, hm, hlen, hel, hsp, hns⟩
  · exact ⟨none, 0, [], rfl, Nat.le_refl _, ⟨rfl, by decide, fun h => absurd h (by decide)⟩, fun x hx => by cases hx⟩
  · rw [show Try.prog.cellsOf 62 = 3 from by kernel_rfl] at hel
    have key : ∀ i : Nat, ∃ y : BD, i < len → (∀ j u, (cell3 y)[j]? = some u → w.cell? (a.add (i * 3 + j)) = some u) ∧ GoodB w y ∧ y.1.f2.length < 140737488355328 := by
      intro i
      by_cases hi : i < len
      · have h1 := hel i hi
        rw [List.getElem?_eq_getElem (by omega : i < elems.length), Option.bind_eq_some_iff] at h1
        obtain ⟨cs', hc1, hc2⟩ := h1
        obtain ⟨_, hcl, hcc⟩ := World.cells?_some hc1
        obtain ⟨parts, m, _, hpe, _, hpn, hf⟩ := DataW.trod_struct Try.underlying62 hc2
        have g0 := hf 0 _ rfl
        have g1 := hf 1 _ rfl
        have g2 := hf 2 _ rfl
        rw [List.getElem?_eq_getElem (by rw [hpn]; decide)] at g0 g1 g2
        rw [show Try.prog.cellsOf _ = 1 from by kernel_rfl] at g0 g1 g2
        match cs', hcl with
        | [v0, v1, v2], _ =>
          replace g0 : DataW.trod enc Try.prog w base (fun _ => true) held m 3 [v0] = some _ := g0
          replace g1 : DataW.trod enc Try.prog w base (fun _ => true) held m 3 [v1] = some _ := g1
          replace g2 : DataW.trod enc Try.prog w base (fun _ => true) held m 43 [v2] = some _ := g2
          obtain ⟨x0, e0, _, w0⟩ := DataW.trod_int Try.underlying3 g0
          obtain ⟨x1, e1, _, w1⟩ := DataW.trod_int Try.underlying3 g1
          obtain ⟨A2, n2, c2, e2⟩ := slice_form Try.underlying43 g2
          simp only [List.cons.injEq, and_true] at e0 e1 e2
          subst e0 e1 e2
          obtain ⟨zs, hrow⟩ := row_of Try.underlying43 Try.underlying5 (by kernel_rfl) g2
          have hwt : ∀ q ∈ (parts[2]'(by rw [hpn]; decide)).1.weights Try.prog 43, q ≤ reachBytes := fun q hq => by
            refine hsz q ?_
            have hd : (elems[i]'(by omega)).1 ∈ elems.map (·.1) := List.mem_map_of_mem (List.getElem_mem _)
            have hq2 : q ∈ (elems[i]'(by omega)).1.weights Try.prog 62 := by
              rw [hpe]
              simp only [DataW.weights, Try.underlying62]
              exact DataW.weights_mem_each (j := 2) (t := 43) rfl (by rw [List.getElem?_map, List.getElem?_eq_getElem (by rw [hpn]; decide)]; rfl) q hq
            have := weightsAll_mem hd q hq2
            simp only [DataW.weights, Try.underlying24, List.mem_cons, List.mem_append]
            exact .inr (.inl this)
          have hn2 := (isRow_of Try.underlying43 Try.underlying5 (by kernel_rfl) g2 ⟨⟨zs, hrow⟩, hwt⟩ (by kernel_rfl)).2
          obtain ⟨l, rfl, hr, hm2, hw2, hc2'⟩ := ReadsInt.ofRowC hrow
          have k0 := hcc 0 (by omega)
          have k1 := hcc 1 (by omega)
          have k2 := hcc 2 (by omega)
          have hrl := reachBytes_lt
          rw [Addr.add_add] at k0 k1 k2
          refine ⟨(⟨x0, x1, l⟩, A2, c2), fun _ => ⟨fun j u hu => ?_, ⟨hc2', Kd.C_of_reads (d := (0 : Int)) (h1 := fun _ => rfl) hr⟩, ?_⟩⟩
          · have hj : j < 3 := (List.getElem?_eq_some_iff.1 hu).1
            match j, hj with
            | 0, _ => exact k0.trans hu
            | 1, _ => exact k1.trans hu
            | 2, _ => exact k2.trans hu
          · show l.length < _
            omega
      · exact ⟨(z62, none, 0), fun h => absurd h hi⟩
    have hml : maxLen = 9223372036854775807 := by decide
    let f : Nat → BD := fun i => Classical.choose (key i)
    have hf : ∀ i, i < len → _ := fun i => Classical.choose_spec (key i)
    refine ⟨some a, cap, ((List.range len).map f).map (·.1), by simp, by simpa using hl, ?_, fun x hx => ?_⟩
    · rw [List.length_map]
      refine raw_to_C ⟨by simp, by simp; omega, fun h0 => ⟨a, rfl, fun j p hp => ?_⟩⟩ (fun d hd => ?_)
      · have hj : j < len := by
          have := (List.getElem?_eq_some_iff.1 hp).1
          simpa using this
        have hpe : p = cell3 (f j) := by
          rw [List.getElem?_map, List.getElem?_map, List.getElem?_range hj] at hp
          simpa using hp.symm
        subst hpe
        exact ⟨cell3 (f j), cell3_length _, ⟨rfl, cell3_length _, cell3_one _⟩, (hf j hj).1⟩
      · simp only [List.mem_map, List.mem_range] at hd
        obtain ⟨j, hj, rfl⟩ := hd
        exact (hf j hj).2.1
    · simp only [List.mem_map, List.mem_range] at hx
      obtain ⟨d, ⟨j, hj, rfl⟩, rfl⟩ := hx
      exact (hf j hj).2.2
end
end Go.Proofs.Ytknmokpnkcckeaa
