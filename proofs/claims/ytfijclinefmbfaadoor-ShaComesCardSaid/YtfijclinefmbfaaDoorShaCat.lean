/-
slices.Clone, slices.Grow of nothing, and slices.Concat of two texts.
-/
import Derived.Test.YtfijclinefmbfaaDoorWhole
import Derived.Test.YtfijclinefmbfaaDoorHandWords
import Derived.Lib.SliceRun
namespace Go.Proofs.YtfijclinefmbfaaDoor
open Go.RowKit Go.Proofs.YtfijclinefmbfaaDoorW.PrintWords Go.Proofs.YtfijclinefmbfaaDoorW.PrintLast Go.Proofs.YtfijclinefmbfaaDoorW.PrintMore
set_option linter.unusedVariables false
set_option linter.unusedSimpArgs false

/-! ### slices.Clone of bytes -/
def slices_Clone_byte_byte.f (l : List Int) : Option (List Int) := if l.length ≤ 140737488355328 then some l else none
theorem info5 : (Tryd.prog.info? 5).map (fun i => (i.zero, i.size, i.bytes)) = some (some (.int .u8 0), 1, 1) := by kernel_rfl

theorem ownsRow_empty (W : World) (e : TypeId) (base : Nat) (hb : base ≤ W.heap.size) (ok : Nat → Prop) (hok : ok W.heap.size) (d : Kd Int) : d.R e (W.alloc (.cells #[] e)) base ok (.slice (some ⟨W.heap.size, 0, none⟩) 0 0) [] := by
  refine ⟨fun k hk => ?_, [], ⟨by simp, .inr ⟨W.heap.size, 0, #[], rfl, hb, heap_alloc_new W _, Nat.le_refl _, by simp only [maxLen]; omega, by simp, by simp⟩⟩, Reps.none _ _⟩
  have : W.heap.size = k := by simpa [Value.ownBlock] using hk
  subst this
  exact hok

set_option maxHeartbeats 1000000 in
theorem slices_Clone_byte_byte.calls (A0 : Option Addr) (c0 : Nat) (l0 : List Int) (r : List Int) (w : World) (hr0 : Kd.C (Kd.int .u8) w A0 l0.length l0) (hc0 : l0.length ≤ c0) (h : slices_Clone_byte_byte.f l0 = some r) :
    Calls Tryd.prog 28 #[.slice A0 l0.length c0] w fun e w' => ∃ v0_ : Value, e = .returned v0_ ∧ Kd.R (Kd.int .u8) 5 w' w.heap.size (fun _ => True) v0_ r ∧ Below w.heap.size w w' := by
  have hh : l0.length ≤ 140737488355328 ∧ l0 = r := by
    unfold slices_Clone_byte_byte.f at h
    split at h
    · exact ⟨by assumption, Option.some.inj h⟩
    · cases h
  clear h
  obtain ⟨hl, rfl⟩ := hh
  have HR0 := Aside0.mk hr0
  have HC0 := Aside0.mk hc0
  have HM := Aside0.mk hl
  have qT : ∀ (w : World) (a : Option Addr) (n c n' c' : Nat), (binOp .eql 22 (.slice a n c) (.slice none n' c')).run Tryd.prog w = .ok (.bool a.isNone) w := fun w a n c n' c' => Lib.run_eql_slice_nil w _ _ a n c n' c' Tryd.underlying22
  cases A0 with
  | none =>
    have he : l0 = [] := by
      rcases Nat.eq_zero_or_pos l0.length with h0 | h0
      · exact List.eq_nil_of_length_eq_zero h0
      · obtain ⟨ad, h1, _⟩ := hr0.2.2 h0
        cases h1
    clear hr0 hc0 hl
    subst he
    go_enter Tryd.func28, Tryd.ntmps28
    go_wp2
    go_ret
    exact ⟨_, rfl, Kd.R_nil _ _ _ _ _, Below.refl _ _⟩
  | some ad =>
    clear hr0 hc0 hl
    go_enter Tryd.func28, Tryd.ntmps28
    go_wp2_with (at_builtin; refine Kd.R_append_rows (Kd.int .u8) (w0 := w) w.heap.size rfl (.tmp 5) (.tmp 6) 22 5 (.int .u8 0) 1 rfl Tryd.underlying22 info5 rfl (by decide) (by omega) (.slice (some ⟨w.heap.size, 0, none⟩) 0 0) [] l0 _ _ _ (fun _ => True) (fun _ => False) rfl rfl ?aO ?aR (fun _ _ h => h) (fun _ h => h.elim) ?aF ?aB ?aS ?aL ?_; (case aO => exact ownsRow_empty w _ _ (Nat.le_refl _) _ trivial _); (case aR => exact Kd.C_alloc HR0.out _); (case aF => exact fun _ _ => trivial); (case aB => exact below_alloc (Below.refl _ _) _); (case aS => simp); (case aL => have := HM.out; simp; omega); intro v1 w1 hown hb hg hat; have HO := Aside0.mk hown; have HB := Aside0.mk hb; clear hown hb hg hat)
    go_ret
    exact ⟨_, rfl, HO.out, HB.out⟩

/-- Grow of nothing: a row of the call's own, of no elements. -/
theorem grow_calls (n : Nat) (hn : n ≤ 1000000) (w : World) :
    Calls Tryd.prog 30 #[.slice none 0 0, .int .i64 n] w fun e w' => ∃ v, e = .returned v ∧ Kd.R (Kd.int .u8) 5 w' w.heap.size (fun _ => True) v [] ∧ Below w.heap.size w w' := by
  have hn0 : ¬ (n : Int) < 0 := by omega
  have HN := Aside0.mk hn
  by_cases hz : n = 0
  · subst hz
    go_enter Tryd.func30, Tryd.ntmps30
    go_wp2
    go_ret
    exact ⟨_, rfl, Kd.R_nil _ _ _ _ _, Below.refl _ _⟩
  · have hp : (0 : Int) < (n : Int) := by omega
    have hw : wrap64 (n : Int) = (n : Int) := by unfold wrap64; omega
    clear hn hz
    go_enter Tryd.func30, Tryd.ntmps30
    repeat ((fail_if_success (with_reducible refine gate_dst (N := 22) rfl ?_)); (first | go_values | go_guarded | go_step | go_upon | go_back))
    simp only [hw]
    refine Kd.R_append_zeros (Kd.int .u8) (w0 := w) w.heap.size rfl (.tmp 20) (.tmp 21) 22 3 5 (.int .u8 0) 1 rfl Tryd.underlying22 Tryd.underlying3 info5 rfl (by decide) (by omega) (.slice none 0 0) [] (0 : Int) (n : Int) (fun _ => True) rfl rfl ?aZ (fun _ _ => trivial) (Kd.R_nil _ _ _ _ _) (by omega) (Below.refl _ _) (Nat.le_refl _) ?aL ?_
    case aZ => rfl
    case aL => have := HN.out; simp; omega
    intro v1 w1 ho hb hg hat
    obtain ⟨A1, c1, rfl⟩ := Kd.R_slice ho
    have HO := Aside0.mk ho
    have HB := Aside0.mk hb
    clear ho hb hg hat
    go_wp2
    go_ret
    have := Kd.R_take HO.out (m := 0) (by omega)
    exact ⟨_, rfl, by simpa using this, HB.out⟩

theorem grow_int (z : Int) (n : Nat) (hz : z = (n : Int)) (hn : n ≤ 1000000) (w : World) :
    Calls Tryd.prog 30 #[.slice none 0 0, .int .i64 z] w fun e w' => ∃ v, e = .returned v ∧ Kd.R (Kd.int .u8) 5 w' w.heap.size (fun _ => True) v [] ∧ Below w.heap.size w w' := by
  subst hz
  exact grow_calls n hn w

/-- Concat of two texts. -/
theorem concat_calls (gb : Nat) (u : Nat) (R : Option Addr) (rc : Nat) (l1 : List Int) (A : Option Addr) (c : Nat) (l2 : List Int) (w : World) (hg : w.heap[gb]? = some (.cells #[.slice R l1.length rc, .slice A l2.length c] u (0, 0)))
    (h1 : Kd.C (Kd.int .u8) w R l1.length l1) (hc1 : l1.length ≤ rc) (h2 : Kd.C (Kd.int .u8) w A l2.length l2) (hc2 : l2.length ≤ c) (hm : l1.length + l2.length ≤ 1000000) :
    Calls Tryd.prog 26 #[.slice (some ⟨gb, 0, none⟩) 2 2] w fun e w' => ∃ v, e = .returned v ∧ Kd.R (Kd.int .u8) 5 w' w.heap.size (fun _ => True) v (l1 ++ l2) ∧ Below w.heap.size w w' := by
  have HG := Aside0.mk hg
  have H1 := Aside0.mk h1
  have H2 := Aside0.mk h2
  have HC1 := Aside0.mk hc1
  have HC2 := Aside0.mk hc2
  have HM := Aside0.mk hm
  have hx0 : w.cell? ⟨gb, 0, none⟩ = some (.slice R l1.length rc) := blk_cell hg 0
  have hx1 : w.cell? ⟨gb, 1, none⟩ = some (.slice A l2.length c) := blk_cell hg 1
  clear hg h1 h2 hc1 hc2 hm
  obtain ⟨z, hz⟩ : ∃ z : Int, z = (l1.length : Int) + (l2.length : Int) := ⟨_, rfl⟩
  have HZ := Aside0.mk hz
  clear hz
  go_enter Tryd.func26, Tryd.ntmps26
  go_wp2
  go_loopw [3, 11] (fun v3 v11 wr => wr = w ∧ ((v11 = .int .i64 0 ∧ v3 = .int .i64 0) ∨ (v11 = .int .i64 1 ∧ v3 = .int .i64 l1.length) ∨ (v11 = .int .i64 2 ∧ v3 = .int .i64 z))) (fun _ v11 _ => 2 - (intOf v11).toNat)
  case atStart => exact ⟨rfl, .inl ⟨rfl, rfl⟩⟩
  case round =>
    obtain ⟨hwr, hv⟩ := hrel
    have hwr2 := hwr.symm
    clear hwr
    subst hwr2
    have hm1 : (l1.length : Int) ≤ 1000000 := by have := HM.out; omega
    have hm2 : (l1.length : Int) + (l2.length : Int) ≤ 1000000 := by have := HM.out; omega
    have hw1 : wrap64 (l1.length : Int) = (l1.length : Int) := by unfold wrap64; omega
    have hw2 : wrap64 ((l1.length : Int) + (l2.length : Int)) = (l1.length : Int) + (l2.length : Int) := by unfold wrap64; omega
    have hd1 : decide ((l1.length : Int) < 0) = false := decide_eq_false (by omega)
    have hd2 : decide ((l1.length : Int) + (l2.length : Int) < 0) = false := decide_eq_false (by omega)
    rcases hv with ⟨rfl, rfl⟩ | ⟨rfl, rfl⟩ | ⟨rfl, rfl⟩
    · go_wp2
      exact ⟨⟨trivial, .inr (.inl ⟨rfl, rfl⟩)⟩, by simp [intOf]⟩
    · go_wp2
      exact ⟨⟨trivial, .inr (.inr ⟨rfl, by rw [HZ.out]⟩)⟩, by simp [intOf]⟩
    · repeat (first
        | (go_at_call 30; (with_reducible refine (grow_int z (l1.length + l2.length) ?hz HM.out w).mono ?_); (case hz => rw [HZ.out]; omega); rintro e2 w2 ⟨v2, rfl, hr2, hb2⟩; have HR2 := Aside0.mk hr2; have HB2 := Aside0.mk hb2; clear hr2 hb2; dsimp only)
        | go_values | go_guarded | go_step | go_upon | go_back)
      go_loopw [6, 27] (fun v6 v27 wq => Aside0 (Below w.heap.size w wq) ∧ ((v27 = .int .i64 0 ∧ Aside0 (Kd.R (Kd.int .u8) 5 wq w.heap.size (fun _ => True) v6 [])) ∨ (v27 = .int .i64 1 ∧ Aside0 (Kd.R (Kd.int .u8) 5 wq w.heap.size (fun _ => True) v6 l1)) ∨ (v27 = .int .i64 2 ∧ Aside0 (Kd.R (Kd.int .u8) 5 wq w.heap.size (fun _ => True) v6 (l1 ++ l2))))) (fun _ v27 _ => 2 - (intOf v27).toNat)
      case atStart => exact ⟨HB2, .inl ⟨rfl, HR2⟩⟩
      case round =>
        clear HB2 HR2 hx0 hx1
        obtain ⟨HB, hv⟩ := hrel
        have hx0 := blk_cell (blk_below HG.out HB.out) 0
        have hx1 := blk_cell (blk_below HG.out HB.out) 1
        rcases hv with ⟨rfl, HV⟩ | ⟨rfl, HV⟩ | ⟨rfl, HV⟩
        · repeat ((fail_if_success (with_reducible refine gate_dst (N := 33) rfl ?_)); (first | go_values | go_guarded | go_step | go_upon | go_back))
          refine Kd.R_append_rows (Kd.int .u8) (w0 := w) w.heap.size rfl (.tmp 31) (.tmp 32) 22 5 (.int .u8 0) 1 rfl Tryd.underlying22 info5 rfl (by decide) (by omega) _ [] l1 _ _ _ (fun _ => True) (fun _ => False) rfl rfl HV.out (Kd.C_below H1.out HB.out) (fun _ _ h => h) (fun _ h => h.elim) (fun _ _ => trivial) HB.out (below_size HB.out) (by have := HM.out; simp; omega) ?_
          intro v1 w1 ho hb hg hat
          have HV2 := Aside0.mk ho
          have HB2 := Aside0.mk hb
          clear ho hb hg hat HV HB hx0 hx1
          go_wp2
          exact ⟨⟨HB2, .inr (.inl ⟨rfl, by simpa using HV2⟩)⟩, by simp [intOf]⟩
        · repeat ((fail_if_success (with_reducible refine gate_dst (N := 33) rfl ?_)); (first | go_values | go_guarded | go_step | go_upon | go_back))
          refine Kd.R_append_rows (Kd.int .u8) (w0 := w) w.heap.size rfl (.tmp 31) (.tmp 32) 22 5 (.int .u8 0) 1 rfl Tryd.underlying22 info5 rfl (by decide) (by omega) _ l1 l2 _ _ _ (fun _ => True) (fun _ => False) rfl rfl HV.out (Kd.C_below H2.out HB.out) (fun _ _ h => h) (fun _ h => h.elim) (fun _ _ => trivial) HB.out (below_size HB.out) (by have := HM.out; simp; omega) ?_
          intro v1 w1 ho hb hg hat
          have HV2 := Aside0.mk ho
          have HB2 := Aside0.mk hb
          clear ho hb hg hat HV HB hx0 hx1
          go_wp2
          exact ⟨⟨HB2, .inr (.inr ⟨rfl, HV2⟩)⟩, by simp [intOf]⟩
        · clear hx0 hx1
          go_wp2
          go_ret
          exact ⟨_, rfl, HV.out, HB.out⟩
end Go.Proofs.YtfijclinefmbfaaDoor
