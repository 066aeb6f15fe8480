/-
slices.Clone, slices.Grow of nothing, and slices.Concat of two texts.
-/
import Derived.Test.YtncipbbdboeinaaDoorWhole
import Derived.Test.YtncipbbdboeinaaDoorHandWords
import Derived.Lib.SliceRun
import Derived.Test.YtncipbbdboeinaaDoorProg
import Derived.ScopeJumps
import Derived.WalkMore
import Derived.Test.YtncipbbdboeinaaDoorShaTurn
namespace Go.Proofs.YtncipbbdboeinaaDoor
open Go.RowKit Go.Proofs.YtncipbbdboeinaaDoorW.PrintWords Go.Proofs.YtncipbbdboeinaaDoorW.PrintLast Go.Proofs.YtncipbbdboeinaaDoorW.PrintMore
set_option linter.unusedVariables false
set_option linter.unusedSimpArgs false

/-! ### slices.Clone of bytes -/
def slices_Clone_byte_byte.f (l : List Int) : Option (List Int) := if l.length ≤ 140737488355328 then some l else none
theorem info5 : (Tryd.prog.info? 5).map (fun i => (i.zero, i.size, i.bytes)) = some (some (.int .u8 0), 1, 1) := by kernel_rfl

theorem ownsRow_empty (W : World) (e : TypeId) (base : Nat) (hb : base ≤ W.heap.size) (ok : Nat → Prop) (hok : ok W.heap.size) (d : Kd Int) : d.R e (W.alloc (.cells #[] e)) base ok (.slice (some ⟨W.heap.size, 0, none⟩) 0 0) [] := by
  refine ⟨fun k hk => ?_, [], ⟨by simp, .inr ⟨W.heap.size, 0, #[], rfl, hb, heap_alloc_new W _, Nat.le_refl _, by simp only [maxLen]; omega, by simp, by simp⟩⟩, Reps.none _ _⟩
  have : W.heap.size = k := by simpa [Value.ownBlock] using hk
  subst this
  exact hok

set_option maxHeartbeats 1000000 in
theorem slices_Clone_byte_byte.calls (A0 : Option Addr) (c0 : Nat) (l0 : List Int) (r : List Int) (w : World) (hr0 : Kd.C (Kd.int .u8) w A0 l0.length l0) (hc0 : l0.length ≤ c0) (h : slices_Clone_byte_byte.f l0 = some r) :
    Calls Tryd.prog 28 #[.slice A0 l0.length c0] w fun e w' => ∃ v0_ : Value, e = .returned v0_ ∧ Kd.R (Kd.int .u8) 5 w' w.heap.size (fun _ => True) v0_ r ∧ Below w.heap.size w w' := by
  have hh : l0.length ≤ 140737488355328 ∧ l0 = r := by
    unfold slices_Clone_byte_byte.f at h
    split at h
    · exact ⟨by assumption, Option.some.inj h⟩
    · cases h
  clear h
  obtain ⟨hl, rfl⟩ := hh
  have HR0 := Aside0.mk hr0
  have HC0 := Aside0.mk hc0
  have HM := Aside0.mk hl
  have qT : ∀ (w : World) (a : Option Addr) (n c n' c' : Nat), (binOp .eql 22 (.slice a n c) (.slice none n' c')).run Tryd.prog w = .ok (.bool a.isNone) w := fun w a n c n' c' => Lib.run_eql_slice_nil w _ _ a n c n' c' Tryd.underlying22
  cases A0 with
  | none =>
    have he : l0 = [] := by
      rcases Nat.eq_zero_or_pos l0.length with h0 | h0
      · exact List.eq_nil_of_length_eq_zero h0
      · obtain ⟨ad, h1, _⟩ := hr0.2.2 h0
        cases h1
    clear hr0 hc0 hl
    subst he
    go_enter Tryd.func28, Tryd.ntmps28
    go_wp2
    go_ret
    exact ⟨_, rfl, Kd.R_nil _ _ _ _ _, Below.refl _ _⟩
  | some ad =>
    clear hr0 hc0 hl
    go_enter Tryd.func28, Tryd.ntmps28
    go_wp2_with (at_builtin; refine Kd.R_append_rows (Kd.int .u8) (w0 := w) w.heap.size rfl (.tmp 5) (.tmp 6) 22 5 (.int .u8 0) 1 rfl Tryd.underlying22 info5 rfl (by decide) (by omega) (.slice (some ⟨w.heap.size, 0, none⟩) 0 0) [] l0 _ _ _ (fun _ => True) (fun _ => False) rfl rfl ?aO ?aR (fun _ _ h => h) (fun _ h => h.elim) ?aF ?aB ?aS ?aL ?_; (case aO => exact ownsRow_empty w _ _ (Nat.le_refl _) _ trivial _); (case aR => exact Kd.C_alloc HR0.out _); (case aF => exact fun _ _ => trivial); (case aB => exact below_alloc (Below.refl _ _) _); (case aS => simp); (case aL => have := HM.out; simp; omega); intro v1 w1 hown hb hg hat; have HO := Aside0.mk hown; have HB := Aside0.mk hb; clear hown hb hg hat)
    go_ret
    exact ⟨_, rfl, HO.out, HB.out⟩

/-- Grow of nothing: a row of the call's own, of no elements. -/
theorem grow_calls (n : Nat) (hn : n ≤ 1000000) (w : World) :
    Calls Tryd.prog 35 #[.slice none 0 0, .int .i64 n] w fun e w' => ∃ v, e = .returned v ∧ Kd.R (Kd.int .u8) 5 w' w.heap.size (fun _ => True) v [] ∧ Below w.heap.size w w' := by
  have hn0 : ¬ (n : Int) < 0 := by omega
  have HN := Aside0.mk hn
  by_cases hz : n = 0
  · subst hz
    go_enter Tryd.func35, Tryd.ntmps35
    go_wp2
    go_ret
    exact ⟨_, rfl, Kd.R_nil _ _ _ _ _, Below.refl _ _⟩
  · have hp : (0 : Int) < (n : Int) := by omega
    have hw : wrap64 (n : Int) = (n : Int) := by unfold wrap64; omega
    clear hn hz
    go_enter Tryd.func35, Tryd.ntmps35
    repeat ((fail_if_success (with_reducible refine gate_dst (N := 22) rfl ?_)); (first | go_values | go_guarded | go_step | go_upon | go_back))
    simp only [hw]
    refine Kd.R_append_zeros (Kd.int .u8) (w0 := w) w.heap.size rfl (.tmp 20) (.tmp 21) 22 3 5 (.int .u8 0) 1 rfl Tryd.underlying22 Tryd.underlying3 info5 rfl (by decide) (by omega) (.slice none 0 0) [] (0 : Int) (n : Int) (fun _ => True) rfl rfl ?aZ (fun _ _ => trivial) (Kd.R_nil _ _ _ _ _) (by omega) (Below.refl _ _) (Nat.le_refl _) ?aL ?_
    case aZ => rfl
    case aL => have := HN.out; simp; omega
    intro v1 w1 ho hb hg hat
    obtain ⟨A1, c1, rfl⟩ := Kd.R_slice ho
    have HO := Aside0.mk ho
    have HB := Aside0.mk hb
    clear ho hb hg hat
    go_wp2
    go_ret
    have := Kd.R_take HO.out (m := 0) (by omega)
    exact ⟨_, rfl, by simpa using this, HB.out⟩

theorem grow_int (z : Int) (n : Nat) (hz : z = (n : Int)) (hn : n ≤ 1000000) (w : World) :
    Calls Tryd.prog 35 #[.slice none 0 0, .int .i64 z] w fun e w' => ∃ v, e = .returned v ∧ Kd.R (Kd.int .u8) 5 w' w.heap.size (fun _ => True) v [] ∧ Below w.heap.size w w' := by
  subst hz
  exact grow_calls n hn w

/-- Concat of two texts. -/
theorem concat_calls (gb : Nat) (u : Nat) (R : Option Addr) (rc : Nat) (l1 : List Int) (A : Option Addr) (c : Nat) (l2 : List Int) (w : World) (hg : w.heap[gb]? = some (.cells #[.slice R l1.length rc, .slice A l2.length c] u (0, 0)))
    (h1 : Kd.C (Kd.int .u8) w R l1.length l1) (hc1 : l1.length ≤ rc) (h2 : Kd.C (Kd.int .u8) w A l2.length l2) (hc2 : l2.length ≤ c) (hm : l1.length + l2.length ≤ 1000000) :
    Calls Tryd.prog 26 #[.slice (some ⟨gb, 0, none⟩) 2 2] w fun e w' => ∃ v, e = .returned v ∧ Kd.R (Kd.int .u8) 5 w' w.heap.size (fun _ => True) v (l1 ++ l2) ∧ Below w.heap.size w w' := by
  have HG := Aside0.mk hg
  have H1 := Aside0.mk h1
  have H2 := Aside0.mk h2
  have HC1 := Aside0.mk hc1
  have HC2 := Aside0.mk hc2
  have HM := Aside0.mk hm
  have hx0 : w.cell? ⟨gb, 0, none⟩ = some (.slice R l1.length rc) := blk_cell hg 0
  have hx1 : w.cell? ⟨gb, 1, none⟩ = some (.slice A l2.length c) := blk_cell hg 1
  clear hg h1 h2 hc1 hc2 hm
  obtain ⟨z, hz⟩ : ∃ z : Int, z = (l1.length : Int) + (l2.length : Int) := ⟨_, rfl⟩
  have HZ := Aside0.mk hz
  clear hz
  go_enter Tryd.func26, Tryd.ntmps26
  go_wp2
  go_loopw [3, 11] (fun v3 v11 wr => wr = w ∧ ((v11 = .int .i64 0 ∧ v3 = .int .i64 0) ∨ (v11 = .int .i64 1 ∧ v3 = .int .i64 l1.length) ∨ (v11 = .int .i64 2 ∧ v3 = .int .i64 z))) (fun _ v11 _ => 2 - (intOf v11).toNat)
  case atStart => exact ⟨rfl, .inl ⟨rfl, rfl⟩⟩
  case round =>
    obtain ⟨hwr, hv⟩ := hrel
    have hwr2 := hwr.symm
    clear hwr
    subst hwr2
    have hm1 : (l1.length : Int) ≤ 1000000 := by have := HM.out; omega
    have hm2 : (l1.length : Int) + (l2.length : Int) ≤ 1000000 := by have := HM.out; omega
    have hw1 : wrap64 (l1.length : Int) = (l1.length : Int) := by unfold wrap64; omega
    have hw2 : wrap64 ((l1.length : Int) + (l2.length : Int)) = (l1.length : Int) + (l2.length : Int) := by unfold wrap64; omega
    have hd1 : decide ((l1.length : Int) < 0) = false := decide_eq_false (by omega)
    have hd2 : decide ((l1.length : Int) + (l2.length : Int) < 0) = false := decide_eq_false (by omega)
    rcases hv with ⟨rfl, rfl⟩ | ⟨rfl, rfl⟩ | ⟨rfl, rfl⟩
    · go_wp2
      exact ⟨⟨trivial, .inr (.inl ⟨rfl, rfl⟩)⟩, by simp [intOf]⟩
    · go_wp2
      exact ⟨⟨trivial, .inr (.inr ⟨rfl, by rw [HZ.out]⟩)⟩, by simp [intOf]⟩
    · repeat (first
        | (go_at_call 35; (with_reducible refine (grow_int z (l1.length + l2.length) ?hz HM.out w).mono ?_); (case hz => rw [HZ.out]; omega); rintro e2 w2 ⟨v2, rfl, hr2, hb2⟩; have HR2 := Aside0.mk hr2; have HB2 := Aside0.mk hb2; clear hr2 hb2; dsimp only)
        | go_values | go_guarded | go_step | go_upon | go_back)
      go_loopw [6, 27] (fun v6 v27 wq => Aside0 (Below w.heap.size w wq) ∧ ((v27 = .int .i64 0 ∧ Aside0 (Kd.R (Kd.int .u8) 5 wq w.heap.size (fun _ => True) v6 [])) ∨ (v27 = .int .i64 1 ∧ Aside0 (Kd.R (Kd.int .u8) 5 wq w.heap.size (fun _ => True) v6 l1)) ∨ (v27 = .int .i64 2 ∧ Aside0 (Kd.R (Kd.int .u8) 5 wq w.heap.size (fun _ => True) v6 (l1 ++ l2))))) (fun _ v27 _ => 2 - (intOf v27).toNat)
      case atStart => exact ⟨HB2, .inl ⟨rfl, HR2⟩⟩
      case round =>
        clear HB2 HR2 hx0 hx1
        obtain ⟨HB, hv⟩ := hrel
        have hx0 := blk_cell (blk_below HG.out HB.out) 0
        have hx1 := blk_cell (blk_below HG.out HB.out) 1
        rcases hv with ⟨rfl, HV⟩ | ⟨rfl, HV⟩ | ⟨rfl, HV⟩
        · repeat ((fail_if_success (with_reducible refine gate_dst (N := 33) rfl ?_)); (first | go_values | go_guarded | go_step | go_upon | go_back))
          refine Kd.R_append_rows (Kd.int .u8) (w0 := w) w.heap.size rfl (.tmp 31) (.tmp 32) 22 5 (.int .u8 0) 1 rfl Tryd.underlying22 info5 rfl (by decide) (by omega) _ [] l1 _ _ _ (fun _ => True) (fun _ => False) rfl rfl HV.out (Kd.C_below H1.out HB.out) (fun _ _ h => h) (fun _ h => h.elim) (fun _ _ => trivial) HB.out (below_size HB.out) (by have := HM.out; simp; omega) ?_
          intro v1 w1 ho hb hg hat
          have HV2 := Aside0.mk ho
          have HB2 := Aside0.mk hb
          clear ho hb hg hat HV HB hx0 hx1
          go_wp2
          exact ⟨⟨HB2, .inr (.inl ⟨rfl, by simpa using HV2⟩)⟩, by simp [intOf]⟩
        · repeat ((fail_if_success (with_reducible refine gate_dst (N := 33) rfl ?_)); (first | go_values | go_guarded | go_step | go_upon | go_back))
          refine Kd.R_append_rows (Kd.int .u8) (w0 := w) w.heap.size rfl (.tmp 31) (.tmp 32) 22 5 (.int .u8 0) 1 rfl Tryd.underlying22 info5 rfl (by decide) (by omega) _ l1 l2 _ _ _ (fun _ => True) (fun _ => False) rfl rfl HV.out (Kd.C_below H2.out HB.out) (fun _ _ h => h) (fun _ h => h.elim) (fun _ _ => trivial) HB.out (below_size HB.out) (by have := HM.out; simp; omega) ?_
          intro v1 w1 ho hb hg hat
          have HV2 := Aside0.mk ho
          have HB2 := Aside0.mk hb
          clear ho hb hg hat HV HB hx0 hx1
          go_wp2
          exact ⟨⟨HB2, .inr (.inr ⟨rfl, HV2⟩)⟩, by simp [intOf]⟩
        · clear hx0 hx1
          go_wp2
          go_ret
          exact ⟨_, rfl, HV.out, HB.out⟩
end Go.Proofs.YtncipbbdboeinaaDoor

namespace Go.Proofs.YtncipbbdboeinaaDoor
/-- As Q; by a goto to one of two labels: J0, J1; by any other goto: no way out. -/
def exitTwo (l0 : Nat) (J0 : Act → World → Prop) (l1 : Nat) (J1 : Act → World → Prop) (Q : Exit → Act → World → Prop) : Exit → Act → World → Prop
  | .goto l, a, w => (l = l0 ∧ J0 a w) ∨ (l = l1 ∧ J1 a w)
  | e, a, w => Q e a w
section
variable {P : Program} {a : Act} {w : World} {Q : Exit → Act → World → Prop}
theorem wp_scope_two {c r0 r1 : Code} (l0 l1 : Nat) (hne : l0 ≠ l1) (J0 J1 : Act → World → Prop) (μ : Act → World → Nat) (hf0 : findLabel c l0 = some r0) (hf1 : findLabel c l1 = some (Code.skip.seq r1))
    (last : ∀ a w, J0 a w → r0.wp P (Exit.noGoto Q) a w)
    (pass : ∀ a w, J1 a w → r1.wp P (exitTwo l0 J0 l1 (fun a' w' => J1 a' w' ∧ μ a' w' < μ a w) Q) a w)
    (first : (∀ a w, J1 a w → r1.wp P (exitTwo l0 J0 l1 J1 Q) a w) → c.wp P (exitTwo l0 J0 l1 J1 Q) a w) : (Code.scope c).wp P Q a w := by
  have first' := first (fun a w h => wp_mono (pass a w h) (fun e a' w' hq => by
    cases e with
    | goto l => rcases hq with hq | ⟨h1, h2, _⟩
                · exact .inl hq
                · exact .inr ⟨h1, h2⟩
    | _ => exact hq))
  intro b k cs
  have hg0 : gotoIn l0 (.inScope c :: k) = some (.code r0 :: .inScope c :: k) := by simp [gotoIn, hf0]
  have hg1 : gotoIn l1 (.inScope c :: k) = some (.code (Code.skip.seq r1) :: .inScope c :: k) := by simp [gotoIn, hf1]
  have key0 : ∀ a w, J0 a w → ∃ e a' w', Q e a' w' ∧ Arrives P (lone (b.at a (.code r0 :: .inScope c :: k)) cs w) b k cs e a' w' := by
    intro a w hJ
    obtain ⟨e, a₁, w₁, hq, harr⟩ := last a w hJ b (.inScope c :: k) cs
    cases e with
    | normal => exact ⟨.normal, a₁, w₁, hq, Steps.trans harr (.one step_inScope)⟩
    | exit id => exact ⟨.exit id, a₁, w₁, hq, fun k' hk => harr k' (by simp [exitTo, hk])⟩
    | goto l' => exact hq.elim
    | ret => exact ⟨_, a₁, w₁, hq, harr⟩
    | panic ch => exact ⟨_, a₁, w₁, hq, harr⟩
    | outgrown => exact ⟨_, a₁, w₁, hq, harr⟩
  have key : ∀ n a w, μ a w = n → J1 a w → ∃ e a' w', Q e a' w' ∧ Arrives P (lone (b.at a (.code (Code.skip.seq r1) :: .inScope c :: k)) cs w) b k cs e a' w' := by
    intro n
    induction n using Nat.strongRecOn with
    | _ n ih =>
      intro a w hn hJ
      obtain ⟨e, a₁, w₁, hq, harr⟩ := (wp_seq (wp_skip (pass a w hJ))) b (.inScope c :: k) cs
      cases e with
      | normal => exact ⟨.normal, a₁, w₁, hq, Steps.trans harr (.one step_inScope)⟩
      | exit id => exact ⟨.exit id, a₁, w₁, hq, fun k' hk => harr k' (by simp [exitTo, hk])⟩
      | goto l' =>
        rcases hq with ⟨rfl, hJ0⟩ | ⟨rfl, hJ', hlt⟩
        · obtain ⟨e₂, a₂, w₂, hq₂, harr₂⟩ := key0 a₁ w₁ hJ0
          exact ⟨e₂, a₂, w₂, hq₂, .of_steps (harr _ hg0) harr₂⟩
        · obtain ⟨e₂, a₂, w₂, hq₂, harr₂⟩ := ih _ (by omega) a₁ w₁ rfl hJ'
          exact ⟨e₂, a₂, w₂, hq₂, .of_steps (harr _ hg1) harr₂⟩
      | ret => exact ⟨_, a₁, w₁, hq, harr⟩
      | panic ch => exact ⟨_, a₁, w₁, hq, harr⟩
      | outgrown => exact ⟨_, a₁, w₁, hq, harr⟩
  obtain ⟨e, a₁, w₁, hq, harr⟩ := first' b (.inScope c :: k) cs
  cases e with
  | normal => exact ⟨.normal, a₁, w₁, hq, .head step_scope (Steps.trans harr (.one step_inScope))⟩
  | exit id => exact ⟨.exit id, a₁, w₁, hq, fun k' hk => .head step_scope (harr k' (by simp [exitTo, hk]))⟩
  | goto l' =>
    rcases hq with ⟨rfl, hJ0⟩ | ⟨rfl, hJ'⟩
    · obtain ⟨e₂, a₂, w₂, hq₂, harr₂⟩ := key0 a₁ w₁ hJ0
      exact ⟨e₂, a₂, w₂, hq₂, .of_steps (.head step_scope (harr _ hg0)) harr₂⟩
    · obtain ⟨e₂, a₂, w₂, hq₂, harr₂⟩ := key _ a₁ w₁ rfl hJ'
      exact ⟨e₂, a₂, w₂, hq₂, .of_steps (.head step_scope (harr _ hg1)) harr₂⟩
  | ret => exact ⟨_, a₁, w₁, hq, .of_steps (.one step_scope) harr⟩
  | panic ch => exact ⟨_, a₁, w₁, hq, .of_steps (.one step_scope) harr⟩
  | outgrown => exact ⟨_, a₁, w₁, hq, .of_steps (.one step_scope) harr⟩
end
end Go.Proofs.YtncipbbdboeinaaDoor

namespace Go.Proofs.YtncipbbdboeinaaDoor
open Go.RowKit Go.Proofs.YtncipbbdboeinaaDoorW.PrintWords Go.Proofs.YtncipbbdboeinaaDoorW.PrintLast Go.Proofs.YtncipbbdboeinaaDoorW.PrintMore Go.Proofs.YtncipbbdboeinaaDoor.PAll
set_option linter.unusedVariables false
set_option linter.unusedSimpArgs false

/-- All whole blocks are eaten. -/
def eatA : Nat → List Int → List Int → List Int × List Int
  | 0, hs, r => (hs, r)
  | n + 1, hs, r => if r.length < 64 then (hs, r) else eatA n (turnA hs (r.take 64)) (r.drop 64)
def comeA (hs r : List Int) : List Int × List Int := eatA (r.length / 64) hs r
theorem turnA_length {hs : List Int} (h : hs.length = 8) (b : List Int) : (turnA hs b).length = 8 := by
  simp [turnA, h, roundsA_length h]
theorem comeA_small {hs r : List Int} (h : r.length < 64) : comeA hs r = (hs, r) := by
  unfold comeA
  rw [show r.length / 64 = 0 by omega]
  rfl
theorem comeA_step {hs r : List Int} (h : ¬ r.length < 64) : comeA hs r = comeA (turnA hs (r.take 64)) (r.drop 64) := by
  unfold comeA
  rw [show r.length / 64 = (r.drop 64).length / 64 + 1 by rw [List.length_drop]; omega, eatA, if_neg h]

theorem run_cut_from {P : Program} (t e : TypeId) {i : TypeInfo} (ht : P.underlying t = some (.slice e)) (hi : P.info? e = some i) (hsz : i.size = 1) (A : Option Addr) (n c m : Nat) (hm : m ≤ n) (W : World) :
    (Instr.slice t (.slice A n c) (some (.int .i64 (m : Int))) none none).run P W = .ok (.slice (if c = m then A else A.map (·.add m)) (n - m) (c - m)) W := by
  have hel : P.elem t = e := by simp [Program.elem, ht]
  have hu : P.underlying t = some (.slice (P.elem t)) := by rw [hel]; exact ht
  rw [run_slice_l W t A n c hu .i64 (m : Int) (Int.natCast_nonneg _) (by omega), hel]
  simp [sizeOf, typeInfo, hi, hsz, sliced, Result.andThen]
/-- A sum's cells. -/
abbrev sumC (hs : List Int) (R : Option Addr) (n c : Nat) (m : Int) : Array Value := ⟨hs.map (Value.int .u32) ++ [.slice R n c, .int .u64 m]⟩
theorem turn_any (A : Option Addr) (c0 g : Nat) (b hs : List Int) (tail : List Value) (u : Nat) (hb : b.length = 64) (hh : hs.length = 8) (w : World) (hr : Kd.C (Kd.int .u8) w A 64 b) (hc : 64 ≤ c0) (hk : Ktab w)
    (hg : w.heap[g]? = some (.cells ⟨hs.map (Value.int .u32) ++ tail⟩ u (0, 0))) :
    Calls Tryd.prog 27 #[.pointer (some ⟨g, 0, none⟩), .slice A 64 c0] w fun e w' => e = .returned (.tuple #[]) ∧ w'.heap[g]? = some (.cells ⟨(turnA hs b).map (Value.int .u32) ++ tail⟩ u (0, 0)) ∧ KeepBut w w' g none ∧ ∀ B w0, Below B w0 w → B ≤ g → Below B w0 w' := by
  obtain ⟨ad, rfl, _⟩ := hr.2.2 (by omega)
  exact turn_calls ad c0 g b hs tail u hb hh w hr hc hk hg
theorem one_sum (l : List Int) (v1 v2 : Value) (h1 : v1.oneCell' = true := by rfl) (h2 : v2.oneCell' = true := by rfl) : ∀ v ∈ (⟨l.map (Value.int .u32) ++ [v1, v2]⟩ : Array Value).toList, v.oneCell' = true := by
  intro v hv
  simp only [List.mem_append, List.mem_cons, List.mem_nil_iff, or_false] at hv
  rcases hv with hv | rfl | rfl
  · exact one_u32 l v hv
  · exact h1
  · exact h2
theorem alloc_at {X : World} {n : Nat} (o : Obj) (h : X.heap.size = n := by simp) : (X.alloc o).heap[n]? = some o := by
  subst h
  exact heap_alloc_new X o
/-- What holds at the labels: the sum lies in its block, its rest in a row behind it. -/
def SumAt (w : World) (hs0 r0 : List Int) (m : Int) (W : World) (hs r : List Int) (R : Option Addr) (c : Nat) : Prop :=
  hs.length = 8 ∧ comeA hs r = comeA hs0 r0 ∧ r.length ≤ c ∧ W.heap[w.heap.size]? = some (.cells (sumC hs R r.length c m) 55 (0, 0)) ∧ W.heap[w.heap.size + 1]? = some (.cells (sumC (List.replicate 8 0) none 0 0 0) 55 (0, 0)) ∧
    Kd.F (Kd.int .u8) W (fun k => w.heap.size + 1 < k) R r.length r ∧ Below w.heap.size w W

set_option maxHeartbeats 4000000 in
set_option maxRecDepth 100000 in
theorem come_calls (hs : List Int) (R : Option Addr) (rc : Nat) (l1 : List Int) (m : Int) (A : Option Addr) (c : Nat) (l2 : List Int) (hh : hs.length = 8) (w : World) (h1 : Kd.C (Kd.int .u8) w R l1.length l1) (hc1 : l1.length ≤ rc) (h2 : Kd.C (Kd.int .u8) w A l2.length l2) (hc2 : l2.length ≤ c) (hm : l1.length + l2.length ≤ 1000000) (hk : Ktab w) :
    Calls Tryd.prog 19 #[.agg (sumC hs R l1.length rc m), .slice A l2.length c] w fun e w' => ∃ R' c', e = .returned (.agg (sumC (comeA hs (l1 ++ l2)).1 R' (comeA hs (l1 ++ l2)).2.length c' ((m + l2.length) % 18446744073709551616))) ∧ (comeA hs (l1 ++ l2)).2.length ≤ c' ∧ Kd.R (Kd.int .u8) 5 w' w.heap.size (fun _ => True) (.slice R' (comeA hs (l1 ++ l2)).2.length c') (comeA hs (l1 ++ l2)).2 ∧ Below w.heap.size w w' := by
  obtain ⟨h0, h1', h2', h3, h4, h5, h6, h7, rfl⟩ := eight hh
  have H1 := Aside0.mk h1
  have H2 := Aside0.mk h2
  have HC1 := Aside0.mk hc1
  have HC2 := Aside0.mk hc2
  have HM := Aside0.mk hm
  have HK := Aside0.mk hk
  have hm2 : (l2.length : Int) ≤ 1000000 := by omega
  clear h1 h2 hc1 hc2 hm hk hh
  go_enter Tryd.func19, Tryd.ntmps19
  go_wp2
  refine wp_scope_two 0 1 (by decide) (fun a' W => ∃ hs r R' c' u5 u6 u7 u8 u9 u10 u11 u12 u13 u14 u15 u16 u17 u18 u19 u20 u21 u22 u23 u24 u25 u26 u27 u28 u29 u30, a' = { tmps := #[.agg (sumC [h0, h1', h2', h3, h4, h5, h6, h7] R l1.length rc m), .slice A l2.length c, .pointer (some ⟨w.heap.size, 0, none⟩), undef, .pointer (some ⟨w.heap.size + 1, 0, none⟩), u5, u6, u7, u8, u9, u10, u11, u12, u13, u14, u15, u16, u17, u18, u19, u20, u21, u22, u23, u24, u25, u26, u27, u28, u29, u30, undef, undef, undef, undef, undef], defers := [] } ∧ SumAt w [h0, h1', h2', h3, h4, h5, h6, h7] (l1 ++ l2) ((m + l2.length) % 18446744073709551616) W hs r R' c' ∧ r.length < 64)
    (fun a' W => ∃ hs r R' c' u5 u6 u7 u8 u9 u10 u11 u12 u13 u14 u15 u16 u17 u18 u19 u20 u21 u22 u23 u24 u25 u26 u27 u28 u29 u30, a' = { tmps := #[.agg (sumC [h0, h1', h2', h3, h4, h5, h6, h7] R l1.length rc m), .slice A l2.length c, .pointer (some ⟨w.heap.size, 0, none⟩), undef, .pointer (some ⟨w.heap.size + 1, 0, none⟩), u5, u6, u7, u8, u9, u10, u11, u12, u13, u14, u15, u16, u17, u18, u19, u20, u21, u22, u23, u24, u25, u26, u27, u28, u29, u30, undef, undef, undef, undef, undef], defers := [] } ∧ SumAt w [h0, h1', h2', h3, h4, h5, h6, h7] (l1 ++ l2) ((m + l2.length) % 18446744073709551616) W hs r R' c')
    (fun _ W => match W.heap[w.heap.size]? with | some (.cells cs _ _) => (match cs.getD 8 undef with | .slice _ n _ => n | _ => 0) | _ => 0) rfl rfl ?_ ?_ ?_
  · rintro a' W ⟨hs, r, R', c', u5, u6, u7, u8, u9, u10, u11, u12, u13, u14, u15, u16, u17, u18, u19, u20, u21, u22, u23, u24, u25, u26, u27, u28, u29, u30, rfl, ⟨hh8, hce, hrc, hg, hz, hF, hB⟩, hlt⟩
    obtain ⟨s0, s1, s2, s3, s4, s5, s6, s7, rfl⟩ := eight hh8
    rw [comeA_small hlt] at hce
    have HCE := Aside0.mk hce
    have HRC := Aside0.mk hrc
    have HG := Aside0.mk hg
    have HZ := Aside0.mk hz
    have HF := Aside0.mk hF
    have HB := Aside0.mk hB
    have HLT := Aside0.mk hlt
    have HCL : Aside0 (slices_Clone_byte_byte.f r = some r) := ⟨by rw [slices_Clone_byte_byte.f, if_pos (by omega)]⟩
    have hc8 : W.cell? ⟨w.heap.size, 8, none⟩ = some (.slice R' r.length c') := blk_cell hg 8
    clear hh8 hce hrc hg hz hF hB hlt
    repeat (first
      | (go_at_call 28; (with_reducible refine (slices_Clone_byte_byte.calls R' c' r r W (Kd.F_now HF.out) HRC.out HCL.out).mono ?_); rintro e2 W2 ⟨v2, rfl, hr2, hb2⟩; obtain ⟨A2, c2, rfl, hc2, hC2⟩ := Kd.R_reads hr2; have HB2 := Aside0.mk hb2; have HR2 := Aside0.mk (Kd.R_bound hr2); have HC2 := Aside0.mk hc2; have HG2 := Aside0.mk (blk_below HG.out hb2); have HZ2 := Aside0.mk (blk_below HZ.out hb2); have hc9 := blk_cell HG2.out 8; have hf9 := blk_frozen HG2.out 8; have HN2 : Aside0 ((W2.setCell ⟨w.heap.size, 8, none⟩ (.slice A2 r.length c2)).heap[w.heap.size]? = some (.cells (sumC [s0, s1, s2, s3, s4, s5, s6, s7] A2 r.length c2 ((m + l2.length) % 18446744073709551616)) 55 (0, 0))) := ⟨blk_set HG2.out 8 _⟩; have HZ3 := Aside0.mk ((Below.heap_setCell W2 ⟨w.heap.size, 8, none⟩ (.slice A2 r.length c2) (w.heap.size + 1) (by simp)).trans HZ2.out); clear hr2 hb2 hc2 hC2 hc8; dsimp only)
      | ((with_reducible refine wpList_load 55 (.tmp 2) w.heap.size _ _ _ rfl rfl ?hx HN2.out Tryd.underlying55 ?hd ?hi ?_); (case hx => rfl); (case hd => rfl); (case hi => rfl))
      | ((with_reducible refine wpList_store 55 (.tmp 4) (.tmp 35) (w.heap.size + 1) _ _ (sumC [s0, s1, s2, s3, s4, s5, s6, s7] A2 r.length c2 ((m + l2.length) % 18446744073709551616)) rfl rfl ?hx ?hy HZ3.out ?hs ?hi ?h1 ?_); (case h1 => exact one_sum _ _ _ rfl rfl); (case hs => rfl); (case hx => rfl); (case hy => rfl); (case hi => rfl); intro w1 g1 g2 g3 g4; have HG1 := Aside0.mk g1; have HG2' := Aside0.mk g2; have HG3 := Aside0.mk (g3 w.heap.size w ((bl HB.out HB2.out).setCell (p := ⟨w.heap.size, 8, none⟩) (Nat.le_refl _) _) (by omega)); clear g1 g2 g3 g4)
      | go_values | go_guarded | go_step | go_upon | go_back)
    rw [Exit.noGoto_ret]
    refine bodyPost_ret (results_single rfl (.cell (w.heap.size + 1) _ _ (0, 0) _ rfl HG1.out Tryd.underlying55 rfl rfl .nil)) rfl ?_
    refine ⟨A2, c2, by rw [← HCE.out], by rw [← HCE.out]; exact HC2.out, ?_, HG3.out⟩
    rw [← HCE.out]
    have hlow := HB.out.size
    have hgl := blk_lt HZ.out
    refine Kd.R_mono (Kd.R_lower (Kd.R_step HR2.out (fun k hk _ => ?_)) hlow) (fun _ _ => trivial)
    exact (HG2'.out k (by omega)).trans (Below.heap_setCell W2 ⟨w.heap.size, 8, none⟩ _ k (by simp; omega))
  · rintro a' W ⟨hs, r, R', c', u5, u6, u7, u8, u9, u10, u11, u12, u13, u14, u15, u16, u17, u18, u19, u20, u21, u22, u23, u24, u25, u26, u27, u28, u29, u30, rfl, ⟨hh8, hce, hrc, hg, hz, hF, hB⟩⟩
    obtain ⟨s0, s1, s2, s3, s4, s5, s6, s7, rfl⟩ := eight hh8
    have hc8 : W.cell? ⟨w.heap.size, 8, none⟩ = some (.slice R' r.length c') := blk_cell hg 8
    have hgl := blk_lt hz
    have HCE := Aside0.mk hce
    have HRC := Aside0.mk hrc
    have HG := Aside0.mk hg
    have HZ := Aside0.mk hz
    have HF := Aside0.mk hF
    have HB := Aside0.mk hB
    have hl63 : (r.length : Int) ≤ 9223372036854775807 := by have := Kd.F_max hF; omega
    clear hce hrc hg hz hF hB
    by_cases hlt : r.length < 64
    · have hd1 : decide ((r.length : Int) < 64) = true := decide_eq_true (by omega)
      have HLT := Aside0.mk hlt
      clear hlt
      go_wp2
      go_step3
      exact .inl ⟨rfl, _, r, R', c', _, _, _, _, _, _, _, _, _, _, _, _, _, _, _, _, _, _, _, _, _, _, _, _, _, _, rfl, ⟨rfl, HCE.out, HRC.out, HG.out, HZ.out, HF.out, HB.out⟩, HLT.out⟩
    · have hd1 : decide ((r.length : Int) < 64) = false := decide_eq_false (by omega)
      have hle : 64 ≤ r.length := by omega
      obtain ⟨i0, hi0, _, hsz0, _⟩ := info_parts info5
      obtain ⟨hcut1, _, _⟩ := print_take_of (P := Tryd.prog) (Value.int .u8) 0 22 5 .i64 Tryd.underlying22 hi0 hsz0 R' c' r 64 (by omega) (by omega) HRC.out
      have hl64 : (r.take 64).length = 64 := by rw [List.length_take]; omega
      rw [show (List.take (Int.toNat 64) r).length = 64 from hl64] at hcut1
      have hcut2 : ∀ W, (Instr.slice 22 (.slice R' r.length c') (some (.int .i64 64)) none none).run Tryd.prog W = .ok (.slice (if c' = 64 then R' else R'.map (·.add 64)) (r.length - 64) (c' - 64)) W := fun W => run_cut_from (P := Tryd.prog) 22 5 Tryd.underlying22 hi0 hsz0 R' r.length c' 64 hle W
      have hF1 := Kd.F_take HF.out hle
      have hF2 := Kd.F_cut HF.out hle HRC.out
      rw [hl64] at hF1
      simp only [Kd.int, Kd.scalar, Nat.mul_one] at hF2
      generalize hR2 : (if c' = 64 then R' else R'.map (·.add 64)) = R2 at hcut2 hF2
      have hdl : (r.drop 64).length = r.length - 64 := List.length_drop
      rw [comeA_step hlt] at HCE
      have HG0 := HG
      have HF1 := Aside0.mk hF1
      have HF2 := Aside0.mk hF2
      have HD := Aside0.mk hdl
      have HL := Aside0.mk hle
      clear hR2 hF1 hF2 hdl hle hi0 hsz0 hlt HF
      repeat (first
        | (go_at_call 27; (with_reducible refine (turn_any R' c' w.heap.size (r.take 64) [s0, s1, s2, s3, s4, s5, s6, s7] [.slice R' r.length c', .int .u64 ((m + l2.length) % 18446744073709551616)] 55 hl64 rfl W (Kd.F_now HF1.out) (by have := HRC.out; have := HL.out; omega) (HK.out.below HB.out) HG.out).mono ?_); rintro e2 W2 ⟨rfl, hg2, hkb, hbb⟩; have HF3 := Aside0.mk (Kd.F_keep HF2.out hkb (fun k hk => by omega)); have HB2 := Aside0.mk (hbb _ _ HB.out (Nat.le_refl _)); have HZ2 := Aside0.mk ((hkb.2 (w.heap.size + 1) hgl (by omega) (by simp)).trans HZ.out); obtain ⟨t0, t1, t2, t3, t4, t5, t6, t7, ht8⟩ := eight (turnA_length (hs := [s0, s1, s2, s3, s4, s5, s6, s7]) rfl (r.take 64)); rw [ht8] at hg2 HCE; have hc9 : W2.cell? ⟨w.heap.size, 8, none⟩ = some (.slice R' r.length c') := blk_cell hg2 8; have hf9 := blk_frozen hg2 8; have HG2 := Aside0.mk hg2; clear hg2 hkb hbb hc8 ht8 HZ HB HF1 HF2; dsimp only)
        | go_values | go_guarded | go_step | go_upon | go_back)
      have hn := blk_set HG2.out 8 (.slice R2 (r.length - 64) (c' - 64))
      have HN := Aside0.mk hn
      clear hn hc9 hf9
      go_step3
      have hnew : (W2.setCell ⟨w.heap.size, 8, none⟩ (.slice R2 (r.length - 64) (c' - 64))).heap[w.heap.size]? = some (.cells (sumC [t0, t1, t2, t3, t4, t5, t6, t7] R2 (r.drop 64).length (c' - 64) ((m + l2.length) % 18446744073709551616)) 55 (0, 0)) := by
        rw [HD.out]
        exact HN.out
      have hold := HG0.out
      refine .inr ⟨rfl, ⟨_, r.drop 64, R2, c' - 64, _, _, _, _, _, _, _, _, _, _, _, _, _, _, _, _, _, _, _, _, _, _, _, _, _, _, rfl, ⟨rfl, HCE.out, ?_, hnew, ?_, ?_, ?_⟩⟩, ?_⟩
      · rw [HD.out]; have := HRC.out; omega
      · exact (Below.heap_setCell W2 ⟨w.heap.size, 8, none⟩ _ (w.heap.size + 1) (by simp)).trans HZ2.out
      · have := Kd.F_far (p := ⟨w.heap.size, 8, none⟩) HF3.out (fun k hk => by simp; omega) (.slice R2 (r.length - 64) (c' - 64))
        exact this
      · exact HB2.out.setCell (Nat.le_refl _) _
      · simp only [hnew, hold]
        simp [sumC]
        have := HL.out
        omega
  · intro pass
    have PASS := Aside0.mk pass
    clear pass
    repeat (first | go_values | go_guarded | go_step | go_upon | go_back)
    refine (concat_calls (w.heap.size + 1 + 1) 22 R rc l1 A c l2 _ ?cG ?cA HC1.out ?cB HC2.out HM.out).mono ?_
    (case cG => exact alloc_at _ (by simp))
    (case cA => exact Kd.C_below H1.out (below_alloc (below_alloc (below_alloc (Below.refl _ _) _) _) _))
    (case cB => exact Kd.C_below H2.out (below_alloc (below_alloc (below_alloc (Below.refl _ _) _) _) _))
    rintro e2 W2 ⟨v2, rfl, hr2, hb2⟩
    obtain ⟨hq1, hq2, hq3⟩ := alloc3 w (.cells (sumC [h0, h1', h2', h3, h4, h5, h6, h7] R l1.length rc ((m + l2.length) % 18446744073709551616)) 55) (.cells (sumC (List.replicate 8 0) none 0 0 0) 55) (.cells #[.slice R l1.length rc, .slice A l2.length c] 22)
    obtain ⟨A2, c2, rfl, hc2, hC2⟩ := Kd.R_reads hr2
    have HC3 := Aside0.mk hc2
    have HR2 := Aside0.mk hr2
    have HG2 := Aside0.mk (blk_below hq1 hb2)
    have HZ2 := Aside0.mk (blk_below hq2 hb2)
    have HB2 := Aside0.mk (bl (below_alloc (below_alloc (below_alloc (Below.refl w.heap.size w) (.cells (sumC [h0, h1', h2', h3, h4, h5, h6, h7] R l1.length rc ((m + l2.length) % 18446744073709551616)) 55)) (.cells (sumC (List.replicate 8 0) none 0 0 0) 55)) (.cells #[.slice R l1.length rc, .slice A l2.length c] 22)) hb2)
    have hc8 := blk_cell HG2.out 8
    have hf8 := blk_frozen HG2.out 8
    clear hq1 hq2 hq3 hr2 hb2 hc2 hC2
    dsimp only
    repeat (first | go_values | go_guarded | go_step | go_upon | go_back)
    go_step3
    simp only [Exit.then]
    rename_i hKK
    refine hKK _ _ ?_
    refine PASS.out _ _ ⟨[h0, h1', h2', h3, h4, h5, h6, h7], l1 ++ l2, A2, c2, _, _, _, _, _, _, _, _, _, _, _, _, _, _, _, _, _, _, _, _, _, _, _, _, _, _, rfl, ⟨rfl, rfl, HC3.out, ?_, ?_, ?_, ?_⟩⟩
    · have := blk_set HG2.out 8 (.slice A2 (l1.length + l2.length) c2)
      rw [List.length_append]
      exact this
    · exact (Below.heap_setCell W2 ⟨w.heap.size, 8, none⟩ _ (w.heap.size + 1) (by simp)).trans HZ2.out
    · have hF := Kd.R_F (Kd.R_bound HR2.out)
      have hF2 := Kd.F_mono hF (ok' := fun k => w.heap.size + 1 < k) (fun k hk => by have := hk.2.1; simp at this; omega)
      have := Kd.F_far (p := ⟨w.heap.size, 8, none⟩) hF2 (fun k hk => by simp; omega) (.slice A2 (l1.length + l2.length) c2)
      exact this
    · exact HB2.out.setCell (Nat.le_refl _) _
end Go.Proofs.YtncipbbdboeinaaDoor
