/-
ref17.Fill, each way.
-/
import Derived.Test.YtknmokpnkcckeaaStillG
import Derived.Test.YtknmokpnkcckeaaPAll19
import Derived.Test.YtknmokpnkcckeaaFillGood
import Derived.Test.YtknmokpnkcckeaaPAll32
import Derived.Test.YtknmokpnkcckeaaPAll24
namespace Go.Proofs.Ytknmokpnkcckeaa
open Go.RowKit Go.Proofs.YtknmokpnkcckeaaW.PrintWords Go.Proofs.YtknmokpnkcckeaaW.PrintLast Go.Proofs.YtknmokpnkcckeaaW.PrintMore Go.Proofs.Ytknmokpnkcckeaa.PAll
set_option linter.unusedVariables false
set_option linter.unusedSimpArgs false

/-- What Fill answers where it parts: rows, the rest, no error. -/
def FillsC (w w' : World) (e : Ending) (n : Nat) (P : List (List S62) × List S62) (t : IntKind) : Prop :=
  ∃ g c1 A2 c2, e = .returned (.tuple #[.slice (some ⟨g, 0, none⟩) n c1, .slice A2 P.2.length c2, .int t 0]) ∧ n ≤ c1 ∧ Kd.C (Kd.slice 62 k62) w' (some ⟨g, 0, none⟩) n P.1 ∧ P.2.length ≤ c2 ∧ Kd.C k62 w' A2 P.2.length P.2

set_option maxHeartbeats 4000000 in
set_option maxRecDepth 100000 in
theorem refFill_bad (kc : Nat) (l0 l1 l2 l3 leaf e0 : Int) (A : Option Addr) (c : Nat) (xs : List S62) (w : World) (hr : Kd.C k62 w A xs.length xs) (hc : xs.length ≤ c) (h : ref16_Check.f kc l0 l1 l2 l3 xs = some e0) (he : e0 ≠ 0) :
    Calls Try.prog 12 #[.agg #[.int .i64 l0, .int .i64 l1, .int .i64 l2, .int .i64 l3], .slice A xs.length c, .int .i64 leaf] w fun e w' => e = .returned (.tuple #[.slice none 0 0, .slice none 0 0, .int .i64 e0]) ∧ Below w.heap.size w w' := by
  have HR := Aside0.mk hr
  have HC := Aside0.mk hc
  have H := Aside0.mk h
  have hu23 := Try.underlying23
  have hB0 := Aside0.mk (below_alloc (Below.refl w.heap.size w) (.cells #[.int .i64 l0, .int .i64 l1, .int .i64 l2, .int .i64 l3] 23))
  clear hr hc h
  have hne : decide (e0 = 0) = false := decide_eq_false he
  go_enter Try.func12, Try.ntmps12
  repeat (first
    | (go_at_call 42; (with_reducible refine (ref16_Check.calls kc l0 l1 l2 l3 A c xs e0 _ (Kd.C_below HR.out hB0.out) HC.out H.out).mono ?_); rintro e2 w2 ⟨rfl, hb2⟩; have HB2 := Aside0.mk (bl hB0.out hb2); clear hb2; (try dsimp only))
    | go_values | go_guarded | go_step | go_upon | go_back)
  refine bodyPost_ret (v := .tuple #[.slice none 0 0, .slice none 0 0, .int .i64 e0]) (by simp [results, Try.results12, go_sem]) rfl ?_
  exact ⟨rfl, HB2.out⟩

set_option maxHeartbeats 4000000 in
set_option maxRecDepth 100000 in
theorem refFill_leaf (kc km : Nat) (l0 l1 l2 l3 leaf n : Int) (A : Option Addr) (c : Nat) (xs : List S62) (w : World) (hr : Kd.C k62 w A xs.length xs) (hc : xs.length ≤ c) (h : ref16_Check.f kc l0 l1 l2 l3 xs = some 0) (hm : ref07_Many.f km l2 = some n) (hl : leaf < 0 ∨ n ≤ leaf) :
    Calls Try.prog 12 #[.agg #[.int .i64 l0, .int .i64 l1, .int .i64 l2, .int .i64 l3], .slice A xs.length c, .int .i64 leaf] w fun e w' => e = .returned (.tuple #[.slice none 0 0, .slice none 0 0, .int .i64 2]) ∧ Below w.heap.size w w' := by
  have HR := Aside0.mk hr
  have HC := Aside0.mk hc
  have H := Aside0.mk h
  have HM := Aside0.mk hm
  have hu23 := Try.underlying23
  have hB0 := Aside0.mk (below_alloc (Below.refl w.heap.size w) (.cells #[.int .i64 l0, .int .i64 l1, .int .i64 l2, .int .i64 l3] 23))
  have hL0 := Aside0.mk (heap_alloc_new w (.cells #[.int .i64 l0, .int .i64 l1, .int .i64 l2, .int .i64 l3] 23))
  clear hr hc h hm
  by_cases h0 : leaf < 0
  · have hd0 : decide (leaf < 0) = true := decide_eq_true h0
    go_enter Try.func12, Try.ntmps12
    repeat (first
      | (go_at_call 42; (with_reducible refine (ref16_Check.calls kc l0 l1 l2 l3 A c xs 0 _ (Kd.C_below HR.out hB0.out) HC.out H.out).mono ?_); rintro e2 w2 ⟨rfl, hb2⟩; have HB2 := Aside0.mk (bl hB0.out hb2); clear hb2; (try dsimp only))
      | go_values | go_guarded | go_step | go_upon | go_back)
    refine bodyPost_ret (v := .tuple #[.slice none 0 0, .slice none 0 0, .int .i64 2]) (by simp [results, Try.results12, go_sem]) rfl ?_
    exact ⟨rfl, HB2.out⟩
  · have hd0 : decide (leaf < 0) = false := decide_eq_false h0
    have hd1 : decide (leaf ≥ n) = true := decide_eq_true (by omega)
    go_enter Try.func12, Try.ntmps12
    repeat (first
      | (go_at_call 42; (with_reducible refine (ref16_Check.calls kc l0 l1 l2 l3 A c xs 0 _ (Kd.C_below HR.out hB0.out) HC.out H.out).mono ?_); rintro e2 w2 ⟨rfl, hb2⟩; have HB2 := Aside0.mk (bl hB0.out hb2); have hl2 := blk_cell (blk_below hL0.out hb2) 2; clear hb2; (try dsimp only))
      | (go_at_call 43; (with_reducible refine (ref07_Many.calls km l2 n _ HM.out).mono ?_); rintro e3 w3 ⟨rfl, nd, rfl⟩; clear hl2; (try dsimp only))
      | go_values | go_guarded | go_step | go_upon | go_back)
    refine bodyPost_ret (v := .tuple #[.slice none 0 0, .slice none 0 0, .int .i64 2]) (by simp [results, Try.results12, go_sem]) rfl ?_
    exact ⟨rfl, pw_below_drewN HB2.out _⟩

set_option maxHeartbeats 4000000 in
set_option maxRecDepth 100000 in
theorem refFill_good (kc kn kt km ky : Nat) (l0 l1 l3 leaf n : Int) (hi many : Nat) (A : Option Addr) (c : Nat) (xs : List S62) (fits : Nat → S62 → Bool) (w : World) (hr : Kd.C k62 w A xs.length xs) (hc : xs.length ≤ c) (h : ref16_Check.f kc l0 l1 hi l3 xs = some 0) (hnn : ref07_Many.f kn hi = some n) (hl0 : 0 ≤ leaf) (hl1 : leaf < n) (hn : xs.length ≤ 1000) (hh : hi ≤ 6)
    (ht : ref09_TwinAll.f kt xs = some xs) (hm : ref09_Many.f km l0 l1 hi l3 = some (many : Int)) (hf : ∀ x ∈ xs, ∀ t, t ≤ hi → ref17_May.f ky l0 l1 hi l3 x.f0 x.f1 x.f2 leaf t = some (fits t x)) :
    Calls Try.prog 12 #[.agg #[.int .i64 l0, .int .i64 l1, .int .i64 hi, .int .i64 l3], .slice A xs.length c, .int .i64 leaf] w fun e w' => FillsC w w' e (hi + 1) (partS many fits (hi + 1) xs) .i64 ∧ Below w.heap.size w w' := by
  have HR := Aside0.mk hr
  have HC := Aside0.mk hc
  have H := Aside0.mk h
  have HM := Aside0.mk hnn
  have HN := Aside0.mk hn
  have HT := Aside0.mk ht
  have HMM := Aside0.mk hm
  have HF := Aside0.mk hf
  have hu23 := Try.underlying23
  have hB0 := Aside0.mk (below_alloc (Below.refl w.heap.size w) (.cells #[.int .i64 l0, .int .i64 l1, .int .i64 hi, .int .i64 l3] 23))
  have hL0 := Aside0.mk (heap_alloc_new w (.cells #[.int .i64 l0, .int .i64 l1, .int .i64 hi, .int .i64 l3] 23))
  clear hr hc h hnn hn ht hm hf
  have hd0 : decide (leaf < 0) = false := decide_eq_false (by omega)
  have hd1 : decide (leaf ≥ n) = false := decide_eq_false (by omega)
  go_enter Try.func12, Try.ntmps12
  repeat (first
    | (go_at_call 42; (with_reducible refine (ref16_Check.calls kc l0 l1 hi l3 A c xs 0 _ (Kd.C_below HR.out hB0.out) HC.out H.out).mono ?_); rintro e2 w2 ⟨rfl, hb2⟩; have HB2 := Aside0.mk (bl hB0.out hb2); have HL2 := Aside0.mk (blk_below hL0.out hb2); have hl0 := blk_cell HL2.out 0; have hl1 := blk_cell HL2.out 1; have hl2 := blk_cell HL2.out 2; have hl3 := blk_cell HL2.out 3; clear hb2; (try dsimp only))
    | (go_at_call 43; (with_reducible refine (ref07_Many.calls kn hi n _ HM.out).mono ?_); rintro e3 w3 ⟨rfl, nd, rfl⟩;  (try dsimp only))
    | (go_at_call 44; (with_reducible refine (parted_calls kt km ky l0 l1 l3 leaf hi many A c xs fits _ (Kd.C_below HR.out (pw_below_drewN HB2.out _)) HC.out HN.out hh HT.out HMM.out HF.out).mono ?_); rintro e4 w4 ⟨g, c1, tl, rfl, hc1, hC1, ⟨A2, c2, rfl, hc2, hC2⟩, hb4⟩; have HC1 := Aside0.mk hC1; have HC2 := Aside0.mk hC2; have HB4 := Aside0.mk (bl (pw_below_drewN HB2.out _) hb4); clear hb4 hC1 hC2 hl0 hl1 hl2 hl3; (try dsimp only))
    | go_values | go_guarded | go_step | go_upon | go_back)
  refine bodyPost_ret (v := .tuple #[.slice (some ⟨g, 0, none⟩) (hi + 1) c1, .slice A2 (partS many fits (hi + 1) xs).2.length c2, .int .i64 0]) (by simp [results, Try.results12, go_sem]) rfl ?_
  exact ⟨⟨g, c1, A2, c2, rfl, hc1, HC1.out, hc2, HC2.out⟩, HB4.out⟩
end Go.Proofs.Ytknmokpnkcckeaa

namespace Go.Proofs.Ytknmokpnkcckeaa
open Go.RowKit Go.Proofs.YtknmokpnkcckeaaW.PrintWords Go.Proofs.YtknmokpnkcckeaaW.PrintLast Go.Proofs.YtknmokpnkcckeaaW.PrintMore Go.Proofs.Ytknmokpnkcckeaa.PAll
set_option linter.unusedVariables false
set_option linter.unusedSimpArgs false

/-- What the document's Fill answers. -/
def RefR (w w' : World) (e : Ending) (X : List (List S62)) (R : List S62) (e0 : Int) : Prop :=
  ∃ Ax cx Aa ca, e = .returned (.tuple #[.slice Ax X.length cx, .slice Aa R.length ca, .int .i64 e0]) ∧ X.length ≤ cx ∧ Kd.C (Kd.slice 62 k62) w' Ax X.length X ∧ R.length ≤ ca ∧ Kd.C k62 w' Aa R.length R ∧ Below w.heap.size w w'
/-- Rows and the rest are memory of the call's own. -/
def SoftR (base : Nat) (ok : Nat → Prop) (W : World) (Ax : Option Addr) (X : List (List S62)) (Aa : Option Addr) (R : List S62) : Prop :=
  Soft W ok ∧ (∀ k, ok k → base ≤ k) ∧ SoftB W ok Aa (R.map (·.f2.length)) ∧ (∀ r ∈ R, r.f2.length ≤ 1000000) ∧ ∀ j row, X[j]? = some row → ∃ g A c, Ax = some ⟨g, 0, none⟩ ∧ g < base ∧ W.cell? ⟨g, j, none⟩ = some (.slice A row.length c) ∧ row.length ≤ 1000000 ∧ SoftB W ok A (row.map (·.f2.length)) ∧ ∀ r ∈ row, r.f2.length ≤ 1000000
/-- What evict.Fill answers. -/
def FillR (w w' : World) (e : Ending) (X : List (List S62)) (R : List S62) (e0 : Int) : Prop :=
  ∃ Ax cx Aa ca, e = .returned (.tuple #[.slice Ax X.length cx, .slice Aa R.length ca, .int .i64 e0]) ∧ X.length ≤ cx ∧ Kd.C (Kd.slice 62 k62) w' Ax X.length X ∧ R.length ≤ ca ∧ Kd.C k62 w' Aa R.length R ∧ (∃ base ok, w.heap.size ≤ base ∧ base ≤ w'.heap.size ∧ SoftR base ok w' Ax X Aa R) ∧ Below w.heap.size w w'

theorem C_nilR {α : Type} (d : Kd α) (w : World) : d.C w none 0 [] := ⟨rfl, by omega, fun h => absurd h (by omega)⟩
theorem fillR_nil {w w' : World} {e : Ending} {e0 : Int} (h : e = .returned (.tuple #[.slice none 0 0, .slice none 0 0, .int .i64 e0]) ∧ Below w.heap.size w w') : FillR w w' e [] [] e0 :=
  ⟨none, 0, none, 0, h.1, Nat.le_refl _, C_nilR _ _, Nat.le_refl _, C_nilR _ _, ⟨w'.heap.size, fun _ => False, h.2.size, Nat.le_refl _, fun _ h => h.elim, fun _ h => h.elim, (fun i m hi => (by simp at hi)), (fun r hr => (by cases hr)), (fun j row hj => (by simp at hj))⟩, h.2⟩
theorem refR_nil {w w' : World} {e : Ending} {e0 : Int} (h : e = .returned (.tuple #[.slice none 0 0, .slice none 0 0, .int .i64 e0]) ∧ Below w.heap.size w w') : RefR w w' e [] [] e0 :=
  ⟨none, 0, none, 0, h.1, Nat.le_refl _, C_nilR _ _, Nat.le_refl _, C_nilR _ _, h.2⟩

theorem softB_of_rest {base : Nat} {W : World} {A : Option Addr} {n c : Nat} {D : List BD} (h : RestB base W (.slice A n c) D) (hg : ∀ d ∈ D, GoodB W d ∧ YoungD base W d) : SoftB W (fun k => base ≤ k ∧ ∃ cs q, W.heap[k]? = some (.cells cs q (0, 0))) A ((D.map (·.1)).map (·.f2.length)) := by
  intro i m hi
  rw [List.map_map, List.getElem?_map, Option.map_eq_some_iff] at hi
  obtain ⟨d, hd, rfl⟩ := hi
  obtain ⟨A', c', e, _, h3⟩ := h
  injection e with e1 e2 e3
  subst e1
  have hn : D.length ≠ 0 := by
    have := (List.getElem?_eq_some_iff.1 hd).1
    omega
  obtain ⟨b, tail, rfl, hb, hcells⟩ := h3 hn
  have hrb : RestB base W (.slice (some ⟨b, 0, none⟩) D.length c') D := ⟨_, _, rfl, by omega, fun _ => ⟨b, tail, rfl, hb, hcells⟩⟩
  obtain ⟨b', c2, e', hb1, hb2, hx0, hx1, hx2⟩ := hrb.cells hd
  injection e' with e4 e5 e6
  injection e4 with e4
  injection e4 with e4
  subst e4
  refine ⟨_, rfl, ?_, ⟨d.1.f0, ?_⟩, d.2.1, d.2.2, ?_, fun k hk => ?_⟩
  · exact ⟨hb, _, _, hcells⟩
  · rw [add_at, Nat.zero_add]
    exact hx0
  · rw [add_at, Nat.zero_add]
    exact hx2
  · obtain ⟨⟨_, hC⟩, hY⟩ := hg d (List.mem_of_getElem? hd)
    have hlen : d.1.f2.length ≠ 0 := by
      have : k < d.1.f2.length := hk
      omega
    obtain ⟨gd, cells, hA, hgb, hgc⟩ := hY hlen
    obtain ⟨hn2, hm2, hr⟩ := hC
    obtain ⟨ad, ha, hcc⟩ := hr (by omega)
    rw [hA] at ha
    cases ha
    refine ⟨_, hA, ⟨hgb, _, _, hgc⟩, ?_⟩
    have hk2 : k < d.1.f2.length := hk
    obtain ⟨cc, hl, hK, hcell⟩ := hcc k d.1.f2[k] (List.getElem?_eq_getElem hk2)
    have hK' : cc = [.int .u8 d.1.f2[k]] := hK
    subst hK'
    have := hcell 0 (.int .u8 d.1.f2[k]) rfl
    have e1 : k * (Kd.int .u8).sz + 0 = k := by show k * 1 + 0 = k; omega
    rw [e1] at this
    exact ⟨_, this⟩

theorem fillR_good {w w' : World} {e : Ending} {hi many : Nat} {xs : List S62} {fits : Nat → S62 → Bool} (hh : hi ≤ 6) (hmm : many ≤ 1000000) (hx : ∀ x ∈ xs, x.f2.length ≤ 100000)
    (h : ∃ g B0 base c1 A2 c2 vs ds, e = .returned (.tuple #[.slice (some ⟨g, 0, none⟩) (hi + 1) c1, .slice A2 (partS many (fun t (d : BD) => fits t d.1) (hi + 1) ds).2.length c2, .int .i64 0]) ∧ hi + 1 ≤ c1 ∧ w.heap.size ≤ g ∧ g < base ∧ base ≤ B0 ∧ ds.map (·.1) = xs ∧ OutG g B0 base (hi + 1) many 1000 vs (.slice A2 (partS many (fun t (d : BD) => fits t d.1) (hi + 1) ds).2.length c2) (partS many (fun t (d : BD) => fits t d.1) (hi + 1) ds) w' ∧ (∀ d ∈ ds, GoodB w' d ∧ YoungD base w' d) ∧ Below w.heap.size w w') :
    FillR w w' e (partS many fits (hi + 1) xs).1 (partS many fits (hi + 1) xs).2 0 := by
  obtain ⟨g, B0, base, c1, A2, c2, vs, ds, he, hc1, hg, hgb, hbB, hds, hO, hgd, hB⟩ := h
  have hmp := partS_map many (fun d : BD => d.1) fits (hi + 1) ds
  rw [hds] at hmp
  have hmem := partS_mem many (fun t (d : BD) => fits t d.1) (hi + 1) ds
  generalize hP : partS many (fun t (d : BD) => fits t d.1) (hi + 1) ds = P at hmp hmem he hO
  rw [hmp]
  have hP1 : P.1.length = hi + 1 := hO.len
  have hrow : ∀ j D', P.1[j]? = some D' → D'.length ≤ many ∧ ∃ (A : Option Addr) (c : Nat), vs[j]? = some (Value.slice A D'.length c) ∧ D'.length ≤ c ∧ RestB base w' (.slice A D'.length c) D' := fun j D' hj => by
    obtain ⟨hm, u, hu, hR⟩ := hO.row j D' hj
    have hrb := RestB.of_own (base := base) hR hbB
    obtain ⟨A, c, rfl, hc, h3⟩ := hrb
    exact ⟨hm, A, c, hu, hc, ⟨A, c, rfl, hc, h3⟩⟩
  have hraw : ∀ A n c D', RestB base w' (.slice A n c) D' → D'.length ≤ 1000000 → (∀ d ∈ D', GoodB w' d) → Kd.C k62 w' A D'.length (D'.map (·.1)) := fun A n c D' hr hl hgd' => by
    obtain ⟨A', c', e', hc, h3⟩ := hr
    injection e' with e1 e2 e3
    subst e1
    refine raw_to_C ⟨by rw [List.length_map], by omega, fun h0 => ?_⟩ hgd'
    obtain ⟨b, tail, rfl, h1, h2⟩ := h3 (by omega)
    refine ⟨_, rfl, fun j p hj => ?_⟩
    rw [List.getElem?_map, Option.map_eq_some_iff] at hj
    obtain ⟨d, hd, rfl⟩ := hj
    refine ⟨cell3 d, cell3_length d, ⟨rfl, cell3_length d, cell3_one d⟩, fun i u hu => ?_⟩
    have hi : i < 3 := (List.getElem?_eq_some_iff.1 hu).1
    rw [add_at, blk_cell h2]
    have := flat_get' (tail := tail) hd hi
    show (List.toArray _)[0 + (j * 3 + i)]? = _
    rw [Nat.zero_add]
    rw [hu] at this
    simpa using this
  have hxd : ∀ d ∈ ds, d.1.f2.length ≤ 1000000 := fun d hd => by
    have := hx d.1 (by rw [← hds]; exact List.mem_map_of_mem hd)
    omega
  obtain ⟨Ar, cr, er, hcr, h3r⟩ := hO.rest
  injection er with er1 er2 er3
  subst er1
  have hle := hO.le
  refine ⟨some ⟨g, 0, none⟩, c1, A2, c2, ?_, ?_, ?_, ?_, ?_, ⟨base, fun k => base ≤ k ∧ ∃ cs q, w'.heap[k]? = some (.cells cs q (0, 0)), by omega, by have := hO.lt; omega, fun k hk => hk.2, fun k hk => hk.1, ?_, ?_, ?_⟩, hB⟩
  · rw [List.length_map, hP1, List.length_map]
    exact he
  · rw [List.length_map, hP1]
    exact hc1
  · rw [List.length_map]
    refine ⟨by rw [List.length_map], by omega, fun h0 => ⟨_, rfl, fun j p hj => ?_⟩⟩
    rw [List.getElem?_map, Option.map_eq_some_iff] at hj
    obtain ⟨D', hD, rfl⟩ := hj
    obtain ⟨hm, A, c, hv, hc, hrb⟩ := hrow j D' hD
    refine ⟨[.slice A (D'.map (·.1)).length c], rfl, ⟨A, c, rfl, by rw [List.length_map]; exact hc, ?_⟩, fun i u hu => ?_⟩
    · rw [List.length_map]
      exact hraw A _ c D' hrb (by omega) (fun d hd => (hgd d (hmem d (.inr ⟨D', List.mem_of_getElem? hD, hd⟩))).1)
    · rcases i with _ | i
      · simp only [List.getElem?_cons_zero, Option.some.injEq] at hu
        subst hu
        rw [add_at, blk_cell hO.blk]
        have e : 0 + (j * (Kd.slice 62 k62).sz + 0) = j := by show 0 + (j * 1 + 0) = j; omega
        rw [e, List.length_map]
        simpa using hv
      · simp at hu
  · rw [List.length_map]
    omega
  · rw [List.length_map]
    exact hraw A2 P.2.length cr P.2 ⟨A2, cr, rfl, hcr, h3r⟩ (by omega) (fun d hd => (hgd d (hmem d (.inl hd))).1)
  · exact softB_of_rest (c := cr) ⟨A2, cr, rfl, hcr, h3r⟩ (fun d hd => hgd d (hmem d (.inl hd)))
  · intro r hr
    obtain ⟨d, hd, rfl⟩ := List.mem_map.1 hr
    exact hxd d (hmem d (.inl hd))
  · intro j row hj
    rw [List.getElem?_map, Option.map_eq_some_iff] at hj
    obtain ⟨D', hD, rfl⟩ := hj
    obtain ⟨hm, A, c, hv, hc, hrb⟩ := hrow j D' hD
    refine ⟨g, A, c, rfl, hgb, ?_, by rw [List.length_map]; omega, softB_of_rest hrb (fun d hd => hgd d (hmem d (.inr ⟨D', List.mem_of_getElem? hD, hd⟩))), fun r hr => ?_⟩
    · rw [blk_cell hO.blk, List.length_map]
      simpa using hv
    · obtain ⟨d, hd, rfl⟩ := List.mem_map.1 hr
      exact hxd d (hmem d (.inr ⟨D', List.mem_of_getElem? hD, hd⟩))

theorem refR_good {w w' : World} {e : Ending} {n : Nat} {P : List (List S62) × List S62} (hn : P.1.length = n) (h : FillsC w w' e n P .i64 ∧ Below w.heap.size w w') : RefR w w' e P.1 P.2 0 := by
  obtain ⟨⟨g, c1, A2, c2, rfl, h1, h2, h3, h4⟩, hB⟩ := h
  subst hn
  exact ⟨_, c1, A2, c2, rfl, h1, h2, h3, h4, hB⟩
end Go.Proofs.Ytknmokpnkcckeaa

namespace Go.Proofs.Ytknmokpnkcckeaa
open Go.RowKit Go.Proofs.YtknmokpnkcckeaaW.PrintWords Go.Proofs.YtknmokpnkcckeaaW.PrintLast Go.Proofs.YtknmokpnkcckeaaW.PrintMore Go.Proofs.Ytknmokpnkcckeaa.PAll
set_option linter.unusedVariables false
set_option linter.unusedSimpArgs false

theorem cell_belowB {W W' : World} {a : Addr} {v : Value} (hb : Below W.heap.size W W') (h : W.cell? a = some v) : W'.cell? a = some v := by
  rw [cell_agree (hb.block _ (cell_heap h))]
  exact h
theorem SoftB.below {W W' : World} {ok : Nat → Prop} {A : Option Addr} {ns : List Nat} (h : SoftB W ok A ns) (hb : Below W.heap.size W W') : SoftB W' ok A ns := by
  intro i m hi
  obtain ⟨a, ha, hok, ⟨z, hz⟩, B, c, h1, h2⟩ := h i m hi
  refine ⟨a, ha, hok, ⟨z, cell_belowB hb hz⟩, B, c, cell_belowB hb h1, fun k hk => ?_⟩
  obtain ⟨b, hb1, hb2, z, hz⟩ := h2 k hk
  exact ⟨b, hb1, hb2, z, cell_belowB hb hz⟩
theorem SoftR.below {base : Nat} {ok : Nat → Prop} {W W' : World} {Ax : Option Addr} {X : List (List S62)} {Aa : Option Addr} {R : List S62} (h : SoftR base ok W Ax X Aa R) (hb : Below W.heap.size W W') : SoftR base ok W' Ax X Aa R := by
  obtain ⟨h1, h2, h3, h4, h5⟩ := h
  refine ⟨fun k hk => ?_, h2, h3.below hb, h4, fun j row hj => ?_⟩
  · obtain ⟨cs, q, hc⟩ := h1 k hk
    exact ⟨cs, q, blk_below hc hb⟩
  · obtain ⟨g, A, c, e1, e2, e3, e4, e5, e6⟩ := h5 j row hj
    exact ⟨g, A, c, e1, e2, cell_belowB hb e3, e4, e5.below hb, e6⟩
theorem SoftR.step {base : Nat} {ok : Nat → Prop} {W W' : World} {Ax : Option Addr} {X : List (List S62)} {Aa : Option Addr} {R : List S62} (h : SoftR base ok W Ax X Aa R) (h0 : ∀ A' ns', SoftB W ok A' ns' → SoftB W' ok A' ns') (hF : Soft W' ok) (hb : Below base W W') : SoftR base ok W' Ax X Aa R := by
  obtain ⟨h1, h2, h3, h4, h5⟩ := h
  refine ⟨hF, h2, h0 _ _ h3, h4, fun j row hj => ?_⟩
  obtain ⟨g, A, c, e1, e2, e3, e4, e5, e6⟩ := h5 j row hj
  exact ⟨g, A, c, e1, e2, (cell_same (hb.block g e2) j).trans e3, e4, h0 _ _ e5, e6⟩

set_option maxHeartbeats 8000000 in
set_option maxRecDepth 100000 in
theorem fills_calls (kg kt kr ka kb : Nat) (l0 l1 l2 l3 leaf e0 : Int) (A : Option Addr) (c : Nat) (xs R : List S62) (X : List (List S62)) (b : Bool) (w : World) (hr : Kd.C k62 w A xs.length xs) (hc : xs.length ≤ c) (hg : ref09_Great.f kg xs 40 = some b)
    (hrest : b = false → ref09_TwinAll.f kt xs = some xs ∧ ref17_SameRows.f kr X X = some true ∧ ref09_SameAll.f ka R R = some true ∧ ref09_SameAll.f kb xs xs = some true ∧ X.length ≤ 1000 ∧ R.length ≤ 1000000 ∧
      (∀ (W : World) (A : Option Addr) (c : Nat), Kd.C k62 W A xs.length xs → xs.length ≤ c → Calls Try.prog 11 #[.agg #[.int .i64 l0, .int .i64 l1, .int .i64 l2, .int .i64 l3], .slice A xs.length c, .int .i64 leaf] W fun e w' => FillR W w' e X R e0) ∧
      (∀ (W : World) (A : Option Addr) (c : Nat), Kd.C k62 W A xs.length xs → xs.length ≤ c → Calls Try.prog 12 #[.agg #[.int .i64 l0, .int .i64 l1, .int .i64 l2, .int .i64 l3], .slice A xs.length c, .int .i64 leaf] W fun e w' => RefR W w' e X R e0)) :
    Calls Try.prog 3 #[.agg #[.int .i64 l0, .int .i64 l1, .int .i64 l2, .int .i64 l3], .slice A xs.length c, .int .i64 leaf] w fun e w' => e = .returned (.bool true) ∧ Below w.heap.size w w' := by
  have HR := Aside0.mk hr
  have HC := Aside0.mk hc
  have HG := Aside0.mk hg
  have HREST := Aside0.mk hrest
  have hu23 := Try.underlying23
  have HB0 := Aside0.mk (below_alloc (Below.refl w.heap.size w) (.cells #[.int .i64 l0, .int .i64 l1, .int .i64 l2, .int .i64 l3] 23))
  have HL0 := Aside0.mk (heap_alloc_new w (.cells #[.int .i64 l0, .int .i64 l1, .int .i64 l2, .int .i64 l3] 23))
  clear hr hc hg hrest
  cases hb : b with
  | true =>
    subst hb
    go_enter Try.func3, Try.ntmps3
    repeat (first
      | (go_at_call 9; (with_reducible refine (ref09_Great.calls kg A c xs 40 true _ (Kd.C_below HR.out HB0.out) HC.out HG.out).mono ?_); rintro e1 w1 ⟨rfl, hb1⟩; have HB1 := Aside0.mk (bl HB0.out hb1); clear hb1; (try dsimp only))
      | go_values | go_guarded | go_step | go_upon | go_back)
    go_ret
    exact ⟨rfl, HB1.out⟩
  | false =>
    subst hb
    obtain ⟨p1, p2, p3, p4, p5, p6, p7, p8⟩ := HREST.out rfl
    have HT := Aside0.mk p1
    have HSR := Aside0.mk p2
    have HSA := Aside0.mk p3
    have HSX := Aside0.mk p4
    have hXl : (X.length : Int) ≤ 1000 := by omega
    have HRL := Aside0.mk p6
    have HFI := Aside0.mk p7
    have HRF := Aside0.mk p8
    clear HREST p1 p2 p3 p4 p5 p6 p7 p8
    go_enter Try.func3, Try.ntmps3
    repeat (first
      | (go_at_call 9; (with_reducible refine (ref09_Great.calls kg A c xs 40 false _ (Kd.C_below HR.out HB0.out) HC.out HG.out).mono ?_); rintro e1 w1 ⟨rfl, hb1⟩; have HB1 := Aside0.mk (bl HB0.out hb1); have HL1 := Aside0.mk (blk_below HL0.out hb1); clear hb1; (try dsimp only))
      | (go_at_call 10; (with_reducible refine (ref09_TwinAll.calls kt A c xs xs _ (Kd.C_below HR.out HB1.out) HC.out HT.out).mono ?_); rintro e2 w2 ⟨v2, rfl, hS2, hb2⟩; obtain ⟨A2, c2, rfl, hc2, hC2⟩ := Kd.S_reads hS2; have HC2 := Aside0.mk hC2; have HCC2 := Aside0.mk hc2; have HB2 := Aside0.mk (bl HB1.out hb2); have HL2 := Aside0.mk (blk_below HL1.out hb2); have hl0 := blk_cell HL2.out 0; have hl1 := blk_cell HL2.out 1; have hl2 := blk_cell HL2.out 2; have hl3 := blk_cell HL2.out 3; clear hS2 hb2 hC2 hc2; (try dsimp only))
      | (go_at_call 11; (with_reducible refine (HFI.out _ _ _ HC2.out HCC2.out).mono ?_); rintro e3 w3 ⟨Ax, cx, Aa, ca, rfl, h31, h32, h33, h34, ⟨base, ok, h35, h36, h37⟩, hb3⟩; have HX31 := Aside0.mk h31; have HX32 := Aside0.mk h32; have HX33 := Aside0.mk h33; have HX34 := Aside0.mk h34; have HX35 := Aside0.mk h35; have HX36 := Aside0.mk h36; have HX37 := Aside0.mk h37; have HD3 := Aside0.mk hb3; have HB3 := Aside0.mk (bl HB2.out hb3); have HL3 := Aside0.mk (blk_below HL2.out hb3); clear hl0 hl1 hl2 hl3 h31 h32 h33 h34 h35 h36 h37 hb3; have hl0 := blk_cell HL3.out 0; have hl1 := blk_cell HL3.out 1; have hl2 := blk_cell HL3.out 2; have hl3 := blk_cell HL3.out 3; (try dsimp only))
      | (go_at_call 12; (with_reducible refine (HRF.out _ _ _ (Kd.C_below HR.out HB3.out) HC.out).mono ?_); rintro e4 w4 ⟨Ay, cy, Ab, cb, rfl, h41, h42, h43, h44, hb4⟩; have HX41 := Aside0.mk h41; have HX42 := Aside0.mk h42; have HX43 := Aside0.mk h43; have HX44 := Aside0.mk h44; have HD4 := Aside0.mk hb4; have HB4 := Aside0.mk (bl HB3.out hb4); clear hl0 hl1 hl2 hl3 h41 h42 h43 h44 hb4; (try dsimp only))
      | (go_at_call 13; (with_reducible refine (ref17_SameRows.calls kr Ax cx X Ay cy X true _ (Kd.C_below HX32.out HD4.out) HX31.out HX42.out HX41.out HSR.out).mono ?_); rintro e5 w5 ⟨rfl, hb5⟩; have HD5 := Aside0.mk (bl HD4.out hb5); have HE5 := Aside0.mk hb5; have HB5 := Aside0.mk (bl HB4.out hb5); clear hb5; (try dsimp only))
      | (go_at_call 14; (with_reducible refine (ref09_SameAll.calls ka Aa ca R Ab cb R true _ (Kd.C_below HX34.out HD5.out) HX33.out (Kd.C_below HX44.out HE5.out) HX43.out HSA.out).mono ?_); rintro e6 w6 ⟨rfl, hb6⟩; have HD6 := Aside0.mk (bl HD5.out hb6); have HB6 := Aside0.mk (bl HB5.out hb6); clear hb6; (try dsimp only))
      | go_values | go_guarded | go_step | go_upon | go_back)
    have HSO := Aside0.mk (HX37.out.below HD6.out)
    have HW26 := Aside0.mk (bl HD3.out HD6.out)
    have hb20 := HB2.out.size
    have hb2b := HX35.out
    clear HX37 HX31 HX32 HX33 HX34 HX36 HX41 HX42 HX43 HX44 HD4 HD5 HE5 HD6 HB3 HB4 HB5 HL1 HL2 HL3 HD3 HFI HRF HT HSR HSA HG
    go_loopw [15] (fun v15 wr => ∃ i : Nat, v15 = .int .i64 i ∧ i ≤ X.length ∧ Aside0 (SoftR base ok wr Ax X Aa R) ∧ Aside0 (∀ B w0, Below B w0 w6 → B ≤ base → Below B w0 wr)) (fun v15 _ => X.length - (intOf v15).toNat)
    case atStart => exact ⟨0, rfl, Nat.zero_le _, HSO, ⟨fun _ _ h _ => h⟩⟩
    case round =>
      clear HSO
      obtain ⟨i, rfl, hi, HSi, HBi⟩ := hrel
      by_cases hlt : i < X.length
      · have hd1 : decide ((i : Int) < (X.length : Int)) = true := decide_eq_true (by omega)
        have hlt2 : (i : Int) < (X.length : Int) := by omega
        obtain ⟨h1, h2, h3, h4, h5⟩ := HSi.out
        obtain ⟨row, hrow⟩ : ∃ row, X[i]? = some row := ⟨_, List.getElem?_eq_getElem hlt⟩
        obtain ⟨g, A9, c9, rfl, hgb, hcell, hl9, hs9, hm9⟩ := h5 i row hrow
        have HSP := Aside0.mk (spoil_calls ok base A9 row.length c9 (row.map (·.f2.length)) wr (by simp) hl9 (fun m hm => by
          obtain ⟨r, hr, rfl⟩ := List.mem_map.1 hm
          exact hm9 r hr) hs9 h1 h2)
        clear h1 h2 h3 h4 h5 hrow hgb hl9 hs9 hm9
        repeat (first
          | (go_at_call 15; (with_reducible refine HSP.out.mono ?_); rintro e7 w7 ⟨rfl, q1, q2, q3⟩; have Q1 := Aside0.mk q1; have Q2 := Aside0.mk q2; have Q3 := Aside0.mk q3; clear q1 q2 q3; (try dsimp only))
          | go_values | go_guarded | go_step | go_upon | go_back)
        exact ⟨⟨i + 1, by simp, by omega, ⟨HSi.out.step Q1.out Q2.out (Q3.out base _ (Below.refl _ _) (Nat.le_refl _))⟩, ⟨fun B w0 h hle => Q3.out B w0 (HBi.out B w0 h hle) hle⟩⟩, by simp [intOf]; omega⟩
      · have hd1 : decide ((i : Int) < (X.length : Int)) = false := decide_eq_false (by omega)
        obtain ⟨h1, h2, h3, h4, h5⟩ := HSi.out
        have HSP := Aside0.mk (spoil_calls ok base Aa R.length ca (R.map (·.f2.length)) wr (by simp) HRL.out (fun m hm => by
          obtain ⟨r, hr, rfl⟩ := List.mem_map.1 hm
          exact h4 r hr) h3 h1 h2)
        clear h1 h2 h3 h4 h5
        repeat (first
          | (go_at_call 15; (with_reducible refine HSP.out.mono ?_); rintro e7 w7 ⟨rfl, q1, q2, q3⟩; have HW2 := Aside0.mk (q3 _ _ (HBi.out _ _ HW26.out hb2b) hb2b); have HW0 := Aside0.mk (q3 _ _ (HBi.out _ _ HB6.out (by omega)) (by omega)); clear q1 q2 q3; (try dsimp only))
          | (go_at_call 14; (with_reducible refine (ref09_SameAll.calls kb A2 c2 xs A c xs true _ (Kd.C_below HC2.out HW2.out) HCC2.out (Kd.C_below HR.out HW0.out) HC.out HSX.out).mono ?_); rintro e8 w8 ⟨rfl, hb8⟩; have HB8 := Aside0.mk (bl HW0.out hb8); clear hb8; (try dsimp only))
          | go_values | go_guarded | go_step | go_upon | go_back)
        go_ret
        exact ⟨rfl, HB8.out⟩
end Go.Proofs.Ytknmokpnkcckeaa
