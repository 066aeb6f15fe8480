/-
The rows of the laws over a digest under way: an argument of type api.Sum, opened.
-/
import Derived.Test.YtfijclinefmbfaaDoorRowWords
import Derived.Test.YtfijclinefmbfaaDoorShaMore
namespace Go.Proofs.YtfijclinefmbfaaDoor
open Go.ChangeShapes Go.WideShapes Go.ChangeAt Go.RowKit Go.Joins
set_option linter.unusedVariables false
section
variable {H : Type} {enc : TypeId × Value → H} {P : Program} {w : World} {base : Nat} {spare : Nat → Bool} {held : Bool} {r : Reach} {b0 : Nat} {t e : TypeId} {n : Nat} {k : IntKind} {v : Value} {d : DataW H} {p : List MemPlace}
theorem nums_list (ht : P.underlying t = some (.array n e)) (he : P.underlying e = some (.int k)) (hce : P.cellsOf e = 1) {cs : List Value} (hcl : cs.length = n) {fuel : Nat} {x : DataW H × List MemPlace} (hf : DataW.trod enc P w base spare held fuel t cs = some x) :
    ∃ z : List Int, z.length = n ∧ cs = z.map (Value.int k) ∧ ∀ x ∈ z, (Lit.int k x).wf = true := by
  obtain ⟨xs, m, _, _, hl, hn, hx⟩ := DataW.trod_array ht hf
  obtain ⟨z, hz, hzl, hzw⟩ := cells_of_all (k := k) cs (fun i hi => by
    have hi' : i < n := by omega
    have hxi := hx i hi'
    rw [hce, Nat.mul_one] at hxi
    rw [List.getElem?_eq_getElem (by omega : i < xs.length)] at hxi
    obtain ⟨a, ha, _, hw⟩ := DataW.trod_int he hxi
    refine ⟨a, ?_, hw⟩
    have h0 : ((cs.drop i).take 1)[0]? = some (.int k a) := by rw [ha]; rfl
    rw [List.getElem?_take_of_lt (by omega), List.getElem?_drop] at h0
    simpa using h0)
  exact ⟨z, by omega, hz, hzw⟩
theorem open_sum (hv : Value.okWide Tryd.prog w r b0 34 v) (h : DataW.Trod enc Tryd.prog w base spare held 34 v d p) :
    ∃ (z : List Int) (A : Option Addr) (n c : Nat) (m : Int) (y : DataW H × List MemPlace) (fuel : Nat), z.length = 8 ∧ v = .agg (sumC z A n c m) ∧ DataW.trod enc Tryd.prog w base spare held fuel 22 [.slice A n c] = some y ∧ (∀ x ∈ z, (Lit.int .u32 x).wf = true) ∧ (Lit.int .u64 m).wf = true := by
  obtain ⟨cs, rfl, hsz⟩ := okWide_struct Tryd.underlying34 hv
  rw [show Tryd.prog.cellsOf 34 = 10 from by kernel_rfl] at hsz
  obtain ⟨fuel, hf⟩ := h
  obtain ⟨xs, n, _, _, hl, hn, hx⟩ := DataW.trod_struct Tryd.underlying34 hf
  have h0 := hx 0 _ rfl
  have h1 := hx 1 _ rfl
  have h2 := hx 2 _ rfl
  rw [List.getElem?_eq_getElem (by rw [hn]; decide)] at h0 h1 h2
  have hcl : cs.toList.length = 10 := by simpa using hsz
  obtain ⟨cs⟩ := cs
  simp only [Value.cells] at h0 h1 h2 hcl
  rw [show Tryd.prog.cellsOf _ = 8 from by kernel_rfl] at h0
  rw [show Tryd.prog.cellsOf _ = 1 from by kernel_rfl] at h1 h2
  obtain ⟨z, hz, hzc, hzw⟩ := nums_list (k := .u32) (e := 30) (n := 8) Tryd.underlying31 Tryd.underlying30 (by kernel_rfl) (by simp; omega) h0
  replace hzc : cs.take 8 = z.map (Value.int .u32) := hzc
  have hsplit : cs = z.map (Value.int .u32) ++ cs.drop 8 := by rw [← hzc, List.take_append_drop]
  have hd : (cs.drop 8).length = 2 := by simp; omega
  match hdd : cs.drop 8, hd with
  | [s, u], _ =>
    have e1 : (cs.drop 8).take 1 = [s] := by rw [hdd]; rfl
    have e2 : (cs.drop 9).take 1 = [u] := by rw [show cs.drop 9 = (cs.drop 8).drop 1 by rw [List.drop_drop], hdd]; rfl
    replace h1 : DataW.trod enc Tryd.prog w base spare held n 22 ((cs.drop 8).take 1) = some _ := h1
    replace h2 : DataW.trod enc Tryd.prog w base spare held n 32 ((cs.drop 9).take 1) = some _ := h2
    rw [e1] at h1
    rw [e2] at h2
    obtain ⟨A, n', c, es⟩ := slice_form Tryd.underlying22 h1
    obtain ⟨m, eu, _, wm⟩ := DataW.trod_int Tryd.underlying32 h2
    simp only [List.cons.injEq, and_true] at es eu
    subst es eu
    exact ⟨z, A, n', c, m, _, _, hz, by rw [hsplit, hdd], h1, hzw, wm⟩
end
theorem u64_nonneg {m : Int} (h : (Lit.int .u64 m).wf = true) : 0 ≤ m := by
  simp only [Lit.wf, IntKind.min, IntKind.max, IntKind.signed, IntKind.bits, Bool.and_eq_true, decide_eq_true_eq, if_true, Bool.false_eq_true, if_false] at h
  omega
end Go.Proofs.YtfijclinefmbfaaDoor
