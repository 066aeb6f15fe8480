/-
Parts that are the call's own, while their numbers change: what is true of their cells stays so.
-/
import Derived.Test.YtnnknbbgkjgbcaaHandCut
namespace Go.Proofs.Ytnnknbbgkjgbcaa
open Go.RowKit Go.Proofs.YtnnknbbgkjgbcaaW.PrintWords Go.Proofs.YtnnknbbgkjgbcaaW.PrintLast Go.Proofs.YtnnknbbgkjgbcaaW.PrintMore
set_option linter.unusedVariables false
set_option linter.unusedSimpArgs false

theorem add_block (a : Addr) (k : Nat) : (a.add k).block = a.block := by unfold Addr.add; split <;> rfl

theorem foot_only {P : World → Prop} {W : World} {ok : Nat → Prop} (h : Foot P W ok) : ∃ W', P W' ∧ ∀ a v, W'.cell? a = some v → ok a.block ∧ W.cell? a = some v := by
  classical
  refine ⟨{W with heap := W.heap.mapIdx fun i o => if ok i then o else .cells #[] 0 (0, 0)}, h _ (fun k hk hl => ?_), fun a v ha => ?_⟩
  · simp [Array.getElem?_mapIdx, hk]
  · by_cases hk : ok a.block
    · refine ⟨hk, ?_⟩
      simpa [World.cell?, Array.getElem?_mapIdx, hk] using ha
    · exfalso
      simp only [World.cell?, Array.getElem?_mapIdx] at ha
      cases hb : W.heap[a.block]? with
      | none => simp [hb] at ha
      | some o => simp [hb, hk] at ha

/-- Parts of bytes: the outer cells hold slices, the inner ones bytes, in blocks that are ok. -/
def Spoil (W : World) (ok : Nat → Prop) (A : Option Addr) (xs : List (List Int)) : Prop :=
  ∀ i x, xs[i]? = some x → ∃ a, A = some a ∧ ∃ B c, W.cell? (a.add i) = some (.slice B x.length c) ∧ ∀ k, k < x.length → ∃ b, B = some b ∧ ok b.block ∧ ∃ z, W.cell? (b.add k) = some (.int .u8 z)

theorem spoil_of_V {W : World} {e t base : Nat} {ok : Nat → Prop} {v : Value} {xs : List (List Int)} (h : Kd.V (Kd.slice t (Kd.int .u8)) e W base ok v xs) :
    ∃ A c, v = .slice A xs.length c ∧ xs.length ≤ c ∧ xs.length ≤ 9223372036854775807 ∧ (∀ x ∈ xs, x.length ≤ 9223372036854775807) ∧ Spoil W ok A xs := by
  obtain ⟨A, c, rfl, hc, hF⟩ := h
  obtain ⟨W', hC, hW⟩ := foot_only hF
  have key : ∀ i x, xs[i]? = some x → ∃ a, A = some a ∧ ∃ B cc, W.cell? (a.add i) = some (.slice B x.length cc) ∧ x.length ≤ 9223372036854775807 ∧ ∀ k, k < x.length → ∃ b, B = some b ∧ ok b.block ∧ ∃ z, W.cell? (b.add k) = some (.int .u8 z) := by
    intro i x hx
    have hi : i < xs.length := (List.getElem?_eq_some_iff.1 hx).1
    obtain ⟨a, rfl, hrow⟩ := hC.2.2 (by omega)
    obtain ⟨cs, _, ⟨B, cc, rfl, hl, hI⟩, hcell⟩ := hrow i x hx
    have h0 := hcell 0 _ rfl
    refine ⟨a, rfl, B, cc, ?_, hI.2.1, fun k hk => ?_⟩
    · have := (hW _ _ h0).2
      simpa [Kd.slice] using this
    · obtain ⟨b, rfl, hin⟩ := hI.2.2 (by omega)
      obtain ⟨cs, _, hK, hcell⟩ := hin k _ (List.getElem?_eq_getElem hk)
      have hcs : cs = [.int .u8 x[k]] := hK
      subst hcs
      have h1 := hcell 0 _ rfl
      obtain ⟨h2, h3⟩ := hW _ _ h1
      rw [add_block] at h2
      exact ⟨b, rfl, h2, _, by simpa [Kd.int, Kd.scalar] using h3⟩
  refine ⟨A, c, rfl, hc, hC.2.1, fun x hx => ?_, fun i x hx => ?_⟩
  · obtain ⟨i, hi⟩ := List.getElem?_of_mem hx
    obtain ⟨a, _, B, cc, _, hl, _⟩ := key i x hi
    exact hl
  · obtain ⟨a, ha, B, cc, h1, _, h2⟩ := key i x hx
    exact ⟨a, ha, B, cc, h1, h2⟩

theorem cell_set {W : World} {a b : Addr} {x y : Value} (v : Value) (ha : W.cell? a = some x) (hb : W.cell? b = some y) : (W.setCell a v).cell? b = some y ∨ ((W.setCell a v).cell? b = some v ∧ x = y) := by
  by_cases h : a = b
  · subst h
    rw [ha] at hb
    exact .inr ⟨World.cell?_setCell_same _ _ _ ha, Option.some.inj hb⟩
  · exact .inl (by rw [World.cell?_setCell_other _ _ _ _ h]; exact hb)

theorem Spoil.set {W : World} {ok : Nat → Prop} {A : Option Addr} {xs : List (List Int)} (h : Spoil W ok A xs) {p : Addr} {z : Int} (hp : W.cell? p = some (.int .u8 z)) (z' : Int) : Spoil (W.setCell p (.int .u8 z')) ok A xs := by
  intro i x hx
  obtain ⟨a, ha, B, c, h1, h2⟩ := h i x hx
  refine ⟨a, ha, B, c, ?_, fun k hk => ?_⟩
  · rcases cell_set (.int .u8 z') hp h1 with h3 | ⟨_, h3⟩
    · exact h3
    · cases h3
  · obtain ⟨b, hb, hok, y, hy⟩ := h2 k hk
    refine ⟨b, hb, hok, ?_⟩
    rcases cell_set (.int .u8 z') hp hy with h3 | ⟨h3, _⟩
    · exact ⟨_, h3⟩
    · exact ⟨_, h3⟩

/-- Blocks that are ok hold cells, none of them frozen. -/
def Soft (W : World) (ok : Nat → Prop) : Prop := ∀ k, ok k → ∃ cells q, W.heap[k]? = some (.cells cells q (0, 0))
theorem Soft.set {W : World} {ok : Nat → Prop} (h : Soft W ok) (p : Addr) (v : Value) : Soft (W.setCell p v) ok := by
  intro k hk
  obtain ⟨cells, q, hc⟩ := h k hk
  simp only [World.setCell, Array.getElem?_modify]
  by_cases hb : p.block = k
  · exact ⟨if p.spot.isSome then cells else cells.setIfInBounds p.off v, q, by simp [hb, hc]⟩
  · exact ⟨cells, q, by simp [hb, hc]⟩
theorem Soft.frozen {W : World} {ok : Nat → Prop} (h : Soft W ok) {p : Addr} (hk : ok p.block) : W.frozen? p = false := by
  obtain ⟨cells, q, hc⟩ := h _ hk
  simp [World.frozen?, hc]
/-- One part of bytes. -/
def Spoil1 (W : World) (ok : Nat → Prop) (A : Option Addr) (n : Nat) : Prop := ∀ k, k < n → ∃ b, A = some b ∧ ok b.block ∧ ∃ z, W.cell? (b.add k) = some (.int .u8 z)
theorem spoil1_of_V {W : World} {e base : Nat} {ok : Nat → Prop} {A : Option Addr} {n c : Nat} {x : List Int} (h : Kd.V (Kd.int .u8) e W base ok (.slice A n c) x) : n = x.length ∧ n ≤ 9223372036854775807 ∧ Spoil1 W ok A n := by
  obtain ⟨A', c', ev, hc, hF⟩ := h
  injection ev with e1 e2 e3
  subst e1; subst e2; subst e3
  obtain ⟨W', hC, hW⟩ := foot_only hF
  refine ⟨rfl, hC.2.1, fun k hk => ?_⟩
  obtain ⟨b, rfl, hin⟩ := hC.2.2 (by omega)
  obtain ⟨cs, _, hK, hcell⟩ := hin k _ (List.getElem?_eq_getElem hk)
  have hcs : cs = [.int .u8 x[k]] := hK
  subst hcs
  have h1 := hcell 0 _ rfl
  obtain ⟨h2, h3⟩ := hW _ _ h1
  rw [add_block] at h2
  exact ⟨b, rfl, h2, _, by simpa [Kd.int, Kd.scalar] using h3⟩
theorem Spoil1.set {W : World} {ok : Nat → Prop} {A : Option Addr} {n : Nat} (h : Spoil1 W ok A n) {p : Addr} {z : Int} (hp : W.cell? p = some (.int .u8 z)) (z' : Int) : Spoil1 (W.setCell p (.int .u8 z')) ok A n := by
  intro k hk
  obtain ⟨b, hb, hok, y, hy⟩ := h k hk
  refine ⟨b, hb, hok, ?_⟩
  rcases cell_set (.int .u8 z') hp hy with h3 | ⟨h3, _⟩
  · exact ⟨_, h3⟩
  · exact ⟨_, h3⟩
/-- A cell that holds a slice is none that holds a byte. -/
theorem slice_set {W : World} {p q : Addr} {z : Int} {A : Option Addr} {n c : Nat} (h : W.cell? q = some (.slice A n c)) (hp : W.cell? p = some (.int .u8 z)) (z' : Int) : (W.setCell p (.int .u8 z')).cell? q = some (.slice A n c) := by
  rcases cell_set (.int .u8 z') hp h with h3 | ⟨_, h3⟩
  · exact h3
  · cases h3
theorem spoil_drew {W : World} {ok : Nat → Prop} {A : Option Addr} {xs : List (List Int)} (h : Spoil W ok A xs) : Spoil W.drew ok A xs := h
theorem soft_drew {W : World} {ok : Nat → Prop} (h : Soft W ok) : Soft W.drew ok := h
end Go.Proofs.Ytnnknbbgkjgbcaa
