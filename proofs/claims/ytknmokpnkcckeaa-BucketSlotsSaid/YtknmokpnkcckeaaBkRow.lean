/-
The rows of laws over buckets: an argument of type api.Bucket, opened.
-/
import Derived.SizedLaws
import Derived.Test.YtknmokpnkcckeaaRowWords
import Derived.Test.YtknmokpnkcckeaaBkPure
namespace Go.Proofs.Ytknmokpnkcckeaa
open Go.ChangeShapes Go.WideShapes Go.ChangeAt Go.RowKit Go.Joins Go.Proofs.YtknmokpnkcckeaaW.PrintWords Go.Proofs.Ytknmokpnkcckeaa.PAll
set_option linter.unusedVariables false
section
variable {H : Type} {enc : TypeId × Value → H} {P : Program} {w : World} {base : Nat} {spare : Nat → Bool} {held : Bool} {t e : TypeId} {n : Nat} {k : IntKind}
theorem nums_list (ht : P.underlying t = some (.array n e)) (he : P.underlying e = some (.int k)) (hce : P.cellsOf e = 1) {cs : List Value} (hcl : cs.length = n) {fuel : Nat} {x : DataW H × List MemPlace} (hf : DataW.trod enc P w base spare held fuel t cs = some x) :
    ∃ z : List Int, z.length = n ∧ cs = z.map (Value.int k) ∧ ∀ x ∈ z, (Lit.int k x).wf = true := by
  obtain ⟨xs, m, _, _, hl, hn, hx⟩ := DataW.trod_array ht hf
  obtain ⟨z, hz, hzl, hzw⟩ := cells_of_all (k := k) cs (fun i hi => by
    have hi' : i < n := by omega
    have hxi := hx i hi'
    rw [hce, Nat.mul_one] at hxi
    rw [List.getElem?_eq_getElem (by omega : i < xs.length)] at hxi
    obtain ⟨a, ha, _, hw⟩ := DataW.trod_int he hxi
    refine ⟨a, ?_, hw⟩
    have h0 : ((cs.drop i).take 1)[0]? = some (.int k a) := by rw [ha]; rfl
    rw [List.getElem?_take_of_lt (by omega), List.getElem?_drop] at h0
    simpa using h0)
  exact ⟨z, by omega, hz, hzw⟩
end
section
variable {H : Type} {enc : TypeId × Value → H} {w : World} {base : Nat} {spare : Nat → Bool} {held : Bool} {v : Value} {d : DataW H} {p : List MemPlace}
theorem bytes_wf {l : List Int} (h : ∀ x ∈ l, (Lit.int .u8 x).wf = true) : Bytes l := by
  intro x hx
  have := h x hx
  rw [Lit.wf, Bool.and_eq_true, decide_eq_true_eq, decide_eq_true_eq] at this
  have h1 : 0 ≤ x := this.1
  have h2 : x ≤ 255 := this.2
  omega
theorem weightsAll_mem {P : Program} {e : TypeId} : ∀ {l : List (DataW H)} {d : DataW H}, d ∈ l → ∀ n ∈ d.weights P e, n ∈ DataW.weightsAll P e l
  | a :: l, d, hd, n, hn => by
    simp only [DataW.weightsAll, List.mem_append]
    rcases List.mem_cons.1 hd with rfl | hd
    · exact .inl hn
    · exact .inr (weightsAll_mem hd n hn)
theorem isRow_of {P : Program} {t e : TypeId} {k : IntKind} {fuel : Nat} {A : Option Addr} {n c : Nat} {x : DataW H × List MemPlace} (ht : P.underlying t = some (.slice e)) (he : P.underlying e = some (.int k)) (hc : P.cellsOf e = 1) (h : DataW.trod enc P w base (fun _ => true) held fuel t [.slice A n c] = some x) : (∃ zs, IsRow k w A n c zs) ∧ (∀ m ∈ x.1.weights P t, m ≤ reachBytes) → P.bytesOf e = 1 → (∃ zs, IsRow k w A n c zs) ∧ n ≤ reachBytes := by
  rintro ⟨hz, hw⟩ hb
  refine ⟨hz, ?_⟩
  rcases open_ints ht he hc h with ⟨hcs, _⟩ | ⟨y, l, c', zs, hcs, _, hl, hm, hz', rfl, hcell, hwz⟩
  · simp at hcs
    omega
  · simp at hcs
    obtain ⟨rfl, rfl, rfl⟩ := hcs
    have := hw ((((lits (H := H) k (zs.take n)).length + (lits (H := H) k (zs.drop n)).length)) * P.bytesOf e) (by simp [DataW.weights, ht])
    rw [hb] at this
    simp [lits] at this hz'
    omega
theorem row_of {P : Program} {t e : TypeId} {k : IntKind} {fuel : Nat} {A : Option Addr} {n c : Nat} {x : DataW H × List MemPlace} (ht : P.underlying t = some (.slice e)) (he : P.underlying e = some (.int k)) (hc : P.cellsOf e = 1) (h : DataW.trod enc P w base (fun _ => true) held fuel t [.slice A n c] = some x) : ∃ zs, IsRow k w A n c zs := by
  rcases open_ints ht he hc h with ⟨hcs, _⟩ | ⟨y, l, c', zs, hcs, _, hl, hm, hz', _, hcell, hwz⟩
  · simp at hcs
    obtain ⟨rfl, rfl, rfl⟩ := hcs
    exact ⟨[], .inl ⟨rfl, rfl, rfl, rfl⟩⟩
  · simp at hcs
    obtain ⟨rfl, rfl, rfl⟩ := hcs
    exact ⟨zs, .inr ⟨_, rfl, hl, hm, by simpa using hz', hcell, hwz⟩⟩
set_option maxHeartbeats 1000000 in
set_option maxRecDepth 100000 in
theorem open_blocks {fuel : Nat} {cs : List Value} {x : DataW H × List MemPlace} (h : DataW.trod enc Try.prog w base (fun _ => true) held fuel 24 cs = some x) (hsz : ∀ n ∈ x.1.weights Try.prog 24, n ≤ reachBytes) :
    ∃ (A : Option Addr) (c : Nat) (xs : List S62), cs = [.slice A xs.length c] ∧ xs.length ≤ c ∧ Kd.C k62 w A xs.length xs ∧ ∀ x ∈ xs, x.f2.length < 140737488355328 ∧ (Lit.int .i64 x.f0).wf = true ∧ ∀ z ∈ x.f2, (Lit.int .u8 z).wf = true := by
  classical
  rcases DataW.trod_slice Try.underlying24 h with ⟨rfl, rfl⟩ | ⟨a, len, cap, elems, rest, n, _, rfl, rfl, hb, hl, hm, hlen, hel, hsp, hns⟩
  · exact ⟨none, 0, [], rfl, Nat.le_refl _, ⟨rfl, by decide, fun h => absurd h (by decide)⟩, fun x hx => by cases hx⟩
  · rw [show Try.prog.cellsOf 62 = 3 from by kernel_rfl] at hel
    have key : ∀ i : Nat, ∃ y : BD, i < len → (∀ j u, (cell3 y)[j]? = some u → w.cell? (a.add (i * 3 + j)) = some u) ∧ GoodB w y ∧ y.1.f2.length < 140737488355328 ∧ (Lit.int .i64 y.1.f0).wf = true ∧ ∀ z ∈ y.1.f2, (Lit.int .u8 z).wf = true := by
      intro i
      by_cases hi : i < len
      · have h1 := hel i hi
        rw [List.getElem?_eq_getElem (by omega : i < elems.length), Option.bind_eq_some_iff] at h1
        obtain ⟨cs', hc1, hc2⟩ := h1
        obtain ⟨_, hcl, hcc⟩ := World.cells?_some hc1
        obtain ⟨parts, m, _, hpe, _, hpn, hf⟩ := DataW.trod_struct Try.underlying62 hc2
        have g0 := hf 0 _ rfl
        have g1 := hf 1 _ rfl
        have g2 := hf 2 _ rfl
        rw [List.getElem?_eq_getElem (by rw [hpn]; decide)] at g0 g1 g2
        rw [show Try.prog.cellsOf _ = 1 from by kernel_rfl] at g0 g1 g2
        match cs', hcl with
        | [v0, v1, v2], _ =>
          replace g0 : DataW.trod enc Try.prog w base (fun _ => true) held m 3 [v0] = some _ := g0
          replace g1 : DataW.trod enc Try.prog w base (fun _ => true) held m 3 [v1] = some _ := g1
          replace g2 : DataW.trod enc Try.prog w base (fun _ => true) held m 43 [v2] = some _ := g2
          obtain ⟨x0, e0, _, w0⟩ := DataW.trod_int Try.underlying3 g0
          obtain ⟨x1, e1, _, w1⟩ := DataW.trod_int Try.underlying3 g1
          obtain ⟨A2, n2, c2, e2⟩ := slice_form Try.underlying43 g2
          simp only [List.cons.injEq, and_true] at e0 e1 e2
          subst e0 e1 e2
          obtain ⟨zs, hrow⟩ := row_of Try.underlying43 Try.underlying5 (by kernel_rfl) g2
          have hwt : ∀ q ∈ (parts[2]'(by rw [hpn]; decide)).1.weights Try.prog 43, q ≤ reachBytes := fun q hq => by
            refine hsz q ?_
            have hd : (elems[i]'(by omega)).1 ∈ elems.map (·.1) := List.mem_map_of_mem (List.getElem_mem _)
            have hq2 : q ∈ (elems[i]'(by omega)).1.weights Try.prog 62 := by
              rw [hpe]
              simp only [DataW.weights, Try.underlying62]
              exact DataW.weights_mem_each (j := 2) (t := 43) rfl (by rw [List.getElem?_map, List.getElem?_eq_getElem (by rw [hpn]; decide)]; rfl) q hq
            have := weightsAll_mem hd q hq2
            simp only [DataW.weights, Try.underlying24, List.mem_cons, List.mem_append]
            exact .inr (.inl this)
          have hn2 := (isRow_of Try.underlying43 Try.underlying5 (by kernel_rfl) g2 ⟨⟨zs, hrow⟩, hwt⟩ (by kernel_rfl)).2
          obtain ⟨l, rfl, hr, hm2, hw2, hc2'⟩ := ReadsInt.ofRowC hrow
          have k0 := hcc 0 (by omega)
          have k1 := hcc 1 (by omega)
          have k2 := hcc 2 (by omega)
          have hrl := reachBytes_lt
          rw [Addr.add_add] at k0 k1 k2
          refine ⟨(⟨x0, x1, l⟩, A2, c2), fun _ => ⟨fun j u hu => ?_, ⟨hc2', Kd.C_of_reads (d := (0 : Int)) (h1 := fun _ => rfl) hr⟩, ?_⟩⟩
          · have hj : j < 3 := (List.getElem?_eq_some_iff.1 hu).1
            match j, hj with
            | 0, _ => exact k0.trans hu
            | 1, _ => exact k1.trans hu
            | 2, _ => exact k2.trans hu
          · exact ⟨by show l.length < _; omega, w0, hw2⟩
      · exact ⟨(z62, none, 0), fun h => absurd h hi⟩
    have hml : maxLen = 9223372036854775807 := by decide
    let f : Nat → BD := fun i => Classical.choose (key i)
    have hf : ∀ i, i < len → _ := fun i => Classical.choose_spec (key i)
    refine ⟨some a, cap, ((List.range len).map f).map (·.1), by simp, by simpa using hl, ?_, fun x hx => ?_⟩
    · rw [List.length_map]
      refine raw_to_C ⟨by simp, by simp; omega, fun h0 => ⟨a, rfl, fun j p hp => ?_⟩⟩ (fun d hd => ?_)
      · have hj : j < len := by
          have := (List.getElem?_eq_some_iff.1 hp).1
          simpa using this
        have hpe : p = cell3 (f j) := by
          rw [List.getElem?_map, List.getElem?_map, List.getElem?_range hj] at hp
          simpa using hp.symm
        subst hpe
        exact ⟨cell3 (f j), cell3_length _, ⟨rfl, cell3_length _, cell3_one _⟩, (hf j hj).1⟩
      · simp only [List.mem_map, List.mem_range] at hd
        obtain ⟨j, hj, rfl⟩ := hd
        exact (hf j hj).2.1
    · simp only [List.mem_map, List.mem_range] at hx
      obtain ⟨d, ⟨j, hj, rfl⟩, rfl⟩ := hx
      exact (hf j hj).2.2
set_option maxHeartbeats 1000000 in
set_option maxRecDepth 100000 in
theorem open_bucket {r : Reach} {b0 : Nat} (hv : Value.okWide Try.prog w r b0 40 v) (h : DataW.Trod enc Try.prog w base (fun _ => true) held 40 v d p) (hsz : ∀ n ∈ d.weights Try.prog 40, n ≤ reachBytes) :
    ∃ (A : Option Addr) (c : Nat) (xs : List S62) (L R : List Int), v = .agg ⟨bkC A xs.length c L R⟩ ∧ L.length = 32 ∧ R.length = 32 ∧ xs.length ≤ c ∧ Kd.C k62 w A xs.length xs ∧ ∀ x ∈ xs, x.f2.length < 140737488355328 ∧ (Lit.int .i64 x.f0).wf = true ∧ ∀ z ∈ x.f2, (Lit.int .u8 z).wf = true := by
  obtain ⟨cs, rfl, hcsz⟩ := okWide_struct Try.underlying40 hv
  rw [show Try.prog.cellsOf 40 = 65 from by kernel_rfl] at hcsz
  obtain ⟨fuel, hf⟩ := h
  obtain ⟨parts, m, _, hpe, _, hpn, hx⟩ := DataW.trod_struct Try.underlying40 hf
  have h0 := hx 0 _ rfl
  have h1 := hx 1 _ rfl
  have h2 := hx 2 _ rfl
  rw [List.getElem?_eq_getElem (by rw [hpn]; decide)] at h0 h1 h2
  have hcl : cs.toList.length = 65 := by simpa using hcsz
  obtain ⟨cs⟩ := cs
  simp only [Value.cells] at h0 h1 h2 hcl
  rw [show Try.prog.cellsOf _ = 1 from by kernel_rfl] at h0
  rw [show Try.prog.cellsOf _ = 32 from by kernel_rfl] at h1 h2
  replace h0 : DataW.trod enc Try.prog w base (fun _ => true) held m 24 ((cs.drop 0).take 1) = some _ := h0
  replace h1 : DataW.trod enc Try.prog w base (fun _ => true) held m 38 ((cs.drop 1).take 32) = some _ := h1
  replace h2 : DataW.trod enc Try.prog w base (fun _ => true) held m 38 ((cs.drop 33).take 32) = some _ := h2
  obtain ⟨L, hL, hLc, _⟩ := nums_list (k := .u8) (e := 5) (n := 32) Try.underlying38 Try.underlying5 (by kernel_rfl) (by simp; omega) h1
  obtain ⟨R, hR, hRc, _⟩ := nums_list (k := .u8) (e := 5) (n := 32) Try.underlying38 Try.underlying5 (by kernel_rfl) (by simp; omega) h2
  obtain ⟨A, c, xs, hcs, hc, hC, hall⟩ := open_blocks h0 (fun q hq => by
    refine hsz q ?_
    rw [show d = _ from congrArg Prod.fst hpe]
    simp only [DataW.weights, Try.underlying40]
    exact DataW.weights_mem_each (j := 0) (t := 24) rfl (by rw [List.getElem?_map, List.getElem?_eq_getElem (by rw [hpn]; decide)]; rfl) q hq)
  refine ⟨A, c, xs, L, R, ?_, hL, hR, hc, hC, hall⟩
  have e1 : cs = cs.take 1 ++ ((cs.drop 1).take 32 ++ (cs.drop 33).take 32) := by
    have e2 : (cs.drop 33).take 32 = cs.drop 33 := List.take_of_length_le (by simp; omega)
    have e3 : cs.drop 33 = (cs.drop 1).drop 32 := by rw [List.drop_drop]
    rw [e2, e3, List.take_append_drop, List.take_append_drop]
  rw [List.drop_zero] at hcs
  rw [e1, hcs, hLc, hRc]
  rfl
end
end Go.Proofs.Ytknmokpnkcckeaa
