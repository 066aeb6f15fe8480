/-
law10.spoil: a bucket's blocks written over.
-/
import Derived.Test.YtknmokpnkcckeaaBkCheck
import Derived.Test.YtknmokpnkcckeaaSpoilB
import Derived.Test.YtknmokpnkcckeaaBkTwinP
import Derived.Test.YtknmokpnkcckeaaBkWriteP
import Derived.Test.YtknmokpnkcckeaaBkWrt
import Derived.Test.YtknmokpnkcckeaaBkSame
namespace Go.Proofs.Ytknmokpnkcckeaa
open Go.RowKit Go.Proofs.YtknmokpnkcckeaaW.PrintWords Go.Proofs.YtknmokpnkcckeaaW.PrintLast Go.Proofs.YtknmokpnkcckeaaW.PrintMore Go.Proofs.Ytknmokpnkcckeaa.PAll
set_option linter.unusedVariables false
set_option linter.unusedSimpArgs false

theorem Soft.below {W W' : World} {ok : Nat → Prop} (h : Soft W ok) (hb : Below W.heap.size W W') : Soft W' ok := by
  intro k hk
  obtain ⟨cs, q, hc⟩ := h k hk
  exact ⟨cs, q, blk_below hc hb⟩
theorem Soft.lt {W : World} {ok : Nat → Prop} (h : Soft W ok) {k : Nat} (hk : ok k) : k < W.heap.size := by
  obtain ⟨cs, q, hc⟩ := h k hk
  exact (Array.getElem?_eq_some_iff.1 hc).1

end Go.Proofs.Ytknmokpnkcckeaa

namespace Go.Proofs.Ytknmokpnkcckeaa
open Go.RowKit Go.Proofs.YtknmokpnkcckeaaW.PrintWords Go.Proofs.YtknmokpnkcckeaaW.PrintLast Go.Proofs.YtknmokpnkcckeaaW.PrintMore Go.Proofs.Ytknmokpnkcckeaa.PAll
set_option linter.unusedVariables false
set_option linter.unusedSimpArgs false

theorem heap_ltB {W : World} {k : Nat} {o : Obj} (h : W.heap[k]? = some o) : k < W.heap.size := (Array.getElem?_eq_some_iff.1 h).1
theorem flat_get : ∀ (D : List BD) (i j : Nat) (d : BD), D[i]? = some d → j < 3 → ((D.map cell3).flatten)[i * 3 + j]? = (cell3 d)[j]?
  | [], i, j, d, h, _ => by simp at h
  | e :: D, 0, j, d, h, hj => by
    simp only [List.getElem?_cons_zero, Option.some.injEq] at h
    subst h
    rw [List.map_cons, List.flatten_cons, List.getElem?_append_left (by rw [cell3_length]; omega), Nat.zero_mul, Nat.zero_add]
  | e :: D, i + 1, j, d, h, hj => by
    simp only [List.getElem?_cons_succ] at h
    rw [List.map_cons, List.flatten_cons, List.getElem?_append_right (by rw [cell3_length]; omega), cell3_length, show (i + 1) * 3 + j - 3 = i * 3 + j by omega]
    exact flat_get D i j d h hj
theorem flat_get' {D : List BD} {i j : Nat} {d : BD} {tail : List Value} (h : D[i]? = some d) (hj : j < 3) : ((D.map cell3).flatten ++ tail)[i * 3 + j]? = (cell3 d)[j]? := by
  have hi := (List.getElem?_eq_some_iff.1 h).1
  rw [List.getElem?_append_left (by rw [cells3_length]; omega)]
  exact flat_get D i j d h hj
/-- The rest of a stash, in a block of its own. -/
def RestB (base : Nat) (W : World) (v : Value) (D : List BD) : Prop :=
  ∃ A c, v = .slice A D.length c ∧ D.length ≤ c ∧ (D.length ≠ 0 → ∃ b tail, A = some ⟨b, 0, none⟩ ∧ base ≤ b ∧ W.heap[b]? = some (.cells ⟨(D.map cell3).flatten ++ tail⟩ 62 (0, 0)))
theorem RestB.own {base : Nat} {W : World} {v : Value} {D : List BD} (h : RestB base W v D) (hn : D.length ≠ 0) : ∃ k, v.ownBlock = some k ∧ k < W.heap.size := by
  obtain ⟨A, c, rfl, h2, h3⟩ := h
  obtain ⟨b, tail, rfl, e2, e3⟩ := h3 hn
  exact ⟨b, rfl, heap_ltB e3⟩
theorem RestB.step {base : Nat} {W W' : World} {v : Value} {D : List BD} (h : RestB base W v D) (hs : ∀ k, v.ownBlock = some k → k < W.heap.size → W'.heap[k]? = W.heap[k]?) : RestB base W' v D := by
  obtain ⟨A, c, rfl, h2, h3⟩ := h
  refine ⟨A, c, rfl, h2, fun hn => ?_⟩
  obtain ⟨b, tail, rfl, e2, e3⟩ := h3 hn
  exact ⟨b, tail, rfl, e2, (hs b rfl (heap_ltB e3)).trans e3⟩
theorem RestB.cells {base : Nat} {W : World} {v : Value} {D : List BD} (h : RestB base W v D) {i : Nat} {d : BD} (hd : D[i]? = some d) : ∃ b c, v = .slice (some ⟨b, 0, none⟩) D.length c ∧ base ≤ b ∧ b < W.heap.size ∧ W.cell? ⟨b, i * 3, none⟩ = some (.int .i64 d.1.f0) ∧ W.cell? ⟨b, i * 3 + 1, none⟩ = some (.int .i64 d.1.f1) ∧ W.cell? ⟨b, i * 3 + 2, none⟩ = some (.slice d.2.1 d.1.f2.length d.2.2) := by
  obtain ⟨A, c, rfl, _, h3⟩ := h
  have hi := (List.getElem?_eq_some_iff.1 hd).1
  obtain ⟨b, tail, rfl, h1, h2⟩ := h3 (by omega)
  refine ⟨b, c, rfl, h1, heap_ltB h2, ?_, ?_, ?_⟩
  · rw [blk_cell h2]
    have := flat_get' (tail := tail) hd (j := 0) (by omega)
    simpa [cell3] using this
  · rw [blk_cell h2]
    have := flat_get' (tail := tail) hd (j := 1) (by omega)
    simpa [cell3] using this
  · rw [blk_cell h2]
    have := flat_get' (tail := tail) hd (j := 2) (by omega)
    simpa [cell3] using this
/-- .. as it is read. -/
theorem RestB.raw {base : Nat} {W : World} {v : Value} {D : List BD} (h : RestB base W v D) (hm : D.length ≤ 1000) : ∃ A c, v = .slice A D.length c ∧ D.length ≤ c ∧ Kd.C (Kd.raw 3) W A D.length (D.map cell3) := by
  obtain ⟨A, c, rfl, hc, h3⟩ := h
  refine ⟨A, c, rfl, hc, by rw [List.length_map], by omega, fun h0 => ?_⟩
  obtain ⟨b, tail, rfl, h1, h2⟩ := h3 (by omega)
  refine ⟨_, rfl, fun j p hj => ?_⟩
  rw [List.getElem?_map, Option.map_eq_some_iff] at hj
  obtain ⟨d, hd, rfl⟩ := hj
  refine ⟨cell3 d, cell3_length d, ⟨rfl, cell3_length d, cell3_one d⟩, fun i u hu => ?_⟩
  have hi : i < 3 := (List.getElem?_eq_some_iff.1 hu).1
  rw [add_at, blk_cell h2]
  have := flat_get' (tail := tail) hd hi
  show (List.toArray _)[0 + (j * 3 + i)]? = _
  rw [Nat.zero_add]
  rw [hu] at this
  simpa using this

theorem wrtZ_calls (kn : Nat) (E : Int) (Z : List Int) (l0 l1 l2 l3 : Int) (many : Nat) (A : Option Addr) (c : Nat) (xs : List S62) (L R : List Int) (T : S62 → List Int) (w : World) (hL : L.length = 32) (hR : R.length = 32) (hr : Kd.C k62 w A xs.length xs) (hn : xs.length ≤ 1000) (hwf : ∀ x ∈ xs, (Lit.int .i64 x.f0).wf = true) (hE : bckS l0 l1 l2 l3 xs = E) (hZ : Z = if E = 0 then ofK l1 T xs many ++ L ++ R else [])
    (hgood : E = 0 → xs.length ≤ many ∧ many ≤ 4 ∧ 1 ≤ l1 ∧ l1 ≤ 32 ∧ l3 = 64 + (many : Int) * (8 + l1) ∧ (∀ x ∈ xs, slot_Write.f l0 l1 l2 l3 x.f0 x.f1 x.f2 = some (T x, 0)) ∧ (∀ x ∈ xs, (T x).length = (8 + l1).toNat) ∧ slot_None.f kn l0 l1 l2 l3 = some (List.replicate (8 + l1).toNat 0, 0)) :
    Calls Try.prog 18 #[.agg #[.int .i64 l0, .int .i64 l1, .int .i64 l2, .int .i64 l3], .agg ⟨bkC A xs.length c L R⟩] w fun e w' => ∃ A' c', e = .returned (.tuple #[.slice A' Z.length c', .int .i64 E]) ∧ Z.length ≤ c' ∧ Kd.C (Kd.int .u8) w' A' Z.length Z ∧ Below w.heap.size w w' := by
  by_cases h0 : E = 0
  · obtain ⟨g1, g2, g3, g4, g5, g6, g7, g8⟩ := hgood h0
    rw [if_pos h0] at hZ
    refine (wrtBk_good kn l0 l1 l2 l3 many A c xs L R T w hL hR hr hn hwf (hE.trans h0) g1 g2 g3 g4 g5 g6 g7 g8).mono fun e w' hp => ?_
    obtain ⟨v, rfl, hR', hb⟩ := hp
    rw [← hZ] at hR'
    obtain ⟨A', c', rfl⟩ := Kd.R_slice hR'
    exact ⟨A', c', by rw [h0], (Kd.R_reads' hR').2.1, (Kd.R_reads' hR').2.2, hb⟩
  · rw [if_neg h0] at hZ
    subst hZ
    refine (wrtBk_bad l0 l1 l2 l3 A c xs L R E w hL hR hr hn hwf hE h0).mono fun e w' hp => ?_
    obtain ⟨rfl, hb⟩ := hp
    exact ⟨none, 0, rfl, Nat.le_refl _, Kd.C_nil _ _, hb⟩
theorem same01_calls (A1 : Option Addr) (c1 : Nat) (A2 : Option Addr) (c2 : Nat) (l : List Int) (w : World) (h1 : Kd.C (Kd.int .u8) w A1 l.length l) (hc1 : l.length ≤ c1) (h2 : Kd.C (Kd.int .u8) w A2 l.length l) (hc2 : l.length ≤ c2) :
    Calls Try.prog 21 #[.slice A1 l.length c1, .slice A2 l.length c2] w fun e w' => e = .returned (.bool true) ∧ Below w.heap.size w w' := by
  refine (ref01_Same.calls A1 c1 l A2 c2 l true w h1 hc1 h2 hc2 (by simp [ref01_Same.f])).mono ?_
  rintro e w' ⟨rfl, ⟨nd, rfl⟩⟩
  exact ⟨rfl, pw_below_drewN (Below.refl _ _) nd⟩
end Go.Proofs.Ytknmokpnkcckeaa
