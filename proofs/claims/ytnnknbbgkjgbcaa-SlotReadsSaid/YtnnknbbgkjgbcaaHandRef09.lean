/-
ref09.Many and ref09.May: what the calls compute, as plain Lean, and that the calls do so.
-/
import Derived.Test.YtnnknbbgkjgbcaaPAll4
import Derived.Test.YtnnknbbgkjgbcaaPAll5
import Derived.Deep.RegionWith
namespace Go.Proofs.Ytnnknbbgkjgbcaa.PAll
open Go.RowKit Go.Proofs.YtnnknbbgkjgbcaaW.PrintWords Go.Proofs.YtnnknbbgkjgbcaaW.PrintLast Go.Proofs.YtnnknbbgkjgbcaaW.PrintMore
set_option linter.unusedVariables false
set_option linter.unusedSimpArgs false

/-- How many slots fit a bucket. -/
def fitR (s w : Int) : Int := if w = 1 * (8 + s) + 64 then 1 else if w = 2 * (8 + s) + 64 then 2 else if w = 3 * (8 + s) + 64 then 3 else if w = 4 * (8 + s) + 64 then 4 else 0
def ref09_Many.f (k : Nat) (b s h w : Int) : Option Int :=
  if b < 1 then some 0 else if b > 64 then some 0 else if s < 1 then some 0 else if s > 32 then some 0 else
    (ref07_May.f h).bind fun t => if t = true then (ref07_Many.f k h).bind fun m => if m < b then some 0 else some (fitR s w) else some 0
theorem ref09_Many.mono : ∀ a0 a1 a2 a3 k, LeO (ref09_Many.f k a0 a1 a2 a3) (ref09_Many.f (k + 1) a0 a1 a2 a3) := by
  intro a0 a1 a2 a3 k
  unfold ref09_Many.f
  repeat' first
      | (with_reducible exact ref07_Many.mono _ _)
      | (with_reducible exact LeO.refl _)
      | (with_reducible refine LeO.ite ?_ ?_)
      | (with_reducible refine LeO.bind ?_ (fun _ => ?_))

theorem fit_at {s w : Int} {k : Nat} (h1 : 1 ≤ k) (h4 : k ≤ 4) (hn : ∀ j : Nat, 1 ≤ j → j < k → w ≠ j * (8 + s) + 64) (hk : w = k * (8 + s) + 64) (hs : 1 ≤ s) : fitR s w = k := by
  have hc : k = 1 ∨ k = 2 ∨ k = 3 ∨ k = 4 := by omega
  unfold fitR
  rcases hc with rfl | rfl | rfl | rfl
  · rw [if_pos (by simpa using hk)]; rfl
  · rw [if_neg (by omega), if_pos (by omega)]; rfl
  · rw [if_neg (by omega), if_neg (by omega), if_pos (by omega)]; rfl
  · rw [if_neg (by omega), if_neg (by omega), if_neg (by omega), if_pos (by omega)]; rfl
theorem fit_none {s w : Int} (hn : ∀ j : Nat, 1 ≤ j → j < 5 → w ≠ j * (8 + s) + 64) : fitR s w = 0 := by
  have h1 := hn 1 (by omega) (by omega)
  have h2 := hn 2 (by omega) (by omega)
  have h3 := hn 3 (by omega) (by omega)
  have h4 := hn 4 (by omega) (by omega)
  unfold fitR
  rw [if_neg (by omega), if_neg (by omega), if_neg (by omega), if_neg (by omega)]

set_option maxHeartbeats 8000000 in
set_option maxRecDepth 100000 in
theorem ref09_Many.calls (k : Nat) (a0_0 : Int) (a0_1 : Int) (a0_2 : Int) (a0_3 : Int) (r : Int) (w : World) (h : ref09_Many.f k a0_0 a0_1 a0_2 a0_3 = some r) :
    Calls Try.prog 47 #[.agg #[.int .i64 a0_0, .int .i64 a0_1, .int .i64 a0_2, .int .i64 a0_3]] w fun e w' => e = .returned (.int .i64 r) ∧ Below w.heap.size w w' := by
  rw [ref09_Many.f] at h
  have HB := Aside0.mk (Below.refl w.heap.size w)
  by_cases c1 : a0_0 < 1
  · rw [if_pos c1] at h
    cases h
    have e1 : decide (a0_0 < 1) = true := decide_eq_true c1
    go_enter Try.func47, Try.ntmps47
    go_wp2
    go_region
    go_wp2
    go_ret
    exact ⟨rfl, below_drew1 (below_alloc HB.out _)⟩
  rw [if_neg c1] at h
  have e1 : decide (a0_0 < 1) = false := decide_eq_false c1
  by_cases c2 : a0_0 > 64
  · rw [if_pos c2] at h
    cases h
    have e2 : decide (64 < a0_0) = true := decide_eq_true c2
    go_enter Try.func47, Try.ntmps47
    go_wp2
    go_region
    go_wp2
    go_ret
    exact ⟨rfl, below_drew1 (below_alloc HB.out _)⟩
  rw [if_neg c2] at h
  have e2 : decide (64 < a0_0) = false := decide_eq_false c2
  by_cases c3 : a0_1 < 1
  · rw [if_pos c3] at h
    cases h
    have e3 : decide (a0_1 < 1) = true := decide_eq_true c3
    go_enter Try.func47, Try.ntmps47
    go_wp2
    go_region
    go_wp2
    go_ret
    exact ⟨rfl, below_drew1 (below_alloc HB.out _)⟩
  rw [if_neg c3] at h
  have e3 : decide (a0_1 < 1) = false := decide_eq_false c3
  by_cases c4 : a0_1 > 32
  · rw [if_pos c4] at h
    cases h
    have e4 : decide (32 < a0_1) = true := decide_eq_true c4
    go_enter Try.func47, Try.ntmps47
    go_wp2
    go_region
    go_wp2
    go_ret
    exact ⟨rfl, below_drew1 (below_alloc HB.out _)⟩
  rw [if_neg c4] at h
  have e4 : decide (32 < a0_1) = false := decide_eq_false c4
  obtain ⟨t, ht, h⟩ := Option.bind_eq_some_iff.mp h
  have HT := Aside0.mk ht
  clear ht
  cases t with
  | false =>
    have H := Aside0.mk (show (0 : Int) = r by simpa using h)
    clear h
    go_enter Try.func47, Try.ntmps47
    go_wp2
    first | (go_region_with (go_at_call 42; go_loud ((with_reducible refine (ref07_May.calls _ _ _ HT.out).mono ?_); rintro e w2 ⟨rfl, hd⟩; have hk := blk_below (show _ = some (.cells #[.int .i64 a0_0, .int .i64 a0_1, .int .i64 a0_2, .int .i64 a0_3] 38 (0, 0)) from blk_drew (heap_alloc_new w _)) hd.below; have c0 := blk_cell hk 0; have c1 := blk_cell hk 1; have c2 := blk_cell hk 2; have c3 := blk_cell hk 3; have HK := Aside0.mk hk; have HB2 := Aside0.mk (hd.below); clear hd hk))) | skip
    all_goals (go_wp2; go_ret; exact ⟨by rw [← H.out]; rfl, below_step (below_drew1 (below_alloc HB.out _)) HB2.out⟩)
  | true =>
    simp only [if_true] at h
    obtain ⟨m, hm, h⟩ := Option.bind_eq_some_iff.mp h
    have HM := Aside0.mk hm
    clear hm
    by_cases c5 : m < a0_0
    · rw [if_pos c5] at h
      cases h
      have e5 : decide (m < a0_0) = true := decide_eq_true c5
      go_enter Try.func47, Try.ntmps47
      go_wp2
      first | (go_region_with (first | (go_at_call 42; (with_reducible refine (ref07_May.calls _ _ _ HT.out).mono ?_); rintro e w2 ⟨rfl, hd⟩; have hk := blk_below (show _ = some (.cells #[.int .i64 a0_0, .int .i64 a0_1, .int .i64 a0_2, .int .i64 a0_3] 38 (0, 0)) from blk_drew (heap_alloc_new w _)) hd.below; have c0 := blk_cell hk 0; have c1 := blk_cell hk 1; have c2 := blk_cell hk 2; have c3 := blk_cell hk 3; have HK := Aside0.mk hk; have HB2 := Aside0.mk (hd.below); clear hd hk) | (go_at_call 58; (with_reducible refine (ref07_Many.calls _ _ _ _ HM.out).mono ?_); rintro e w3 ⟨rfl, hd⟩; have hk := blk_below HK.out hd.below; have d0 := blk_cell hk 0; have d1 := blk_cell hk 1; have d2 := blk_cell hk 2; have d3 := blk_cell hk 3; have HK3 := Aside0.mk hk; have HB3 := Aside0.mk (hd.below); clear hd hk))) | skip
      all_goals (go_wp2; go_ret; exact ⟨rfl, below_step (below_step (below_drew1 (below_alloc HB.out _)) HB2.out) HB3.out⟩)
    · rw [if_neg c5] at h
      have H := Aside0.mk (show fitR a0_1 a0_3 = r by simpa using h)
      clear h
      have e5 : decide (m < a0_0) = false := decide_eq_false c5
      go_enter Try.func47, Try.ntmps47
      go_wp2
      first | (go_region_with (first | (go_at_call 42; (with_reducible refine (ref07_May.calls _ _ _ HT.out).mono ?_); rintro e w2 ⟨rfl, hd⟩; have hk := blk_below (show _ = some (.cells #[.int .i64 a0_0, .int .i64 a0_1, .int .i64 a0_2, .int .i64 a0_3] 38 (0, 0)) from blk_drew (heap_alloc_new w _)) hd.below; have c0 := blk_cell hk 0; have c1 := blk_cell hk 1; have c2 := blk_cell hk 2; have c3 := blk_cell hk 3; have HK := Aside0.mk hk; have HB2 := Aside0.mk (hd.below); clear hd hk) | (go_at_call 58; (with_reducible refine (ref07_Many.calls _ _ _ _ HM.out).mono ?_); rintro e w3 ⟨rfl, hd⟩; have hk := blk_below HK.out hd.below; have d0 := blk_cell hk 0; have d1 := blk_cell hk 1; have d2 := blk_cell hk 2; have d3 := blk_cell hk 3; have HK3 := Aside0.mk hk; have HB3 := Aside0.mk (hd.below); clear hd hk))) | skip
      all_goals
        have hbz := below_step (below_step (below_drew1 (below_alloc HB.out _)) HB2.out) HB3.out
        have HBZ := Aside0.mk hbz
        clear hbz
        have hs1 : 1 ≤ a0_1 := by omega
        have hs2 : a0_1 ≤ 32 := by omega
        clear c1 c2 c3 c4 e1 e2 e3 e4 e5 c5
        go_wp2
        go_loopw [3] (fun i wr => ∃ kk : Nat, 1 ≤ kk ∧ kk ≤ 5 ∧ i = .int .i64 kk ∧ Aside0 (∀ j : Nat, 1 ≤ j → j < kk → a0_3 ≠ j * (8 + a0_1) + 64) ∧ Aside0 (wr.heap[w.heap.size]? = some (.cells #[.int .i64 a0_0, .int .i64 a0_1, .int .i64 a0_2, .int .i64 a0_3] 38 (0, 0))) ∧ Aside0 (Below w.heap.size w wr)) (fun i _ => 5 - (intOf i).toNat)
        case atStart => exact ⟨1, by omega, by omega, rfl, ⟨fun j h1 h2 => by omega⟩, HK3, HBZ⟩
        case round =>
          obtain ⟨kk, k1, k5, rfl, HN, HK4, HB4⟩ := hrel
          have f1 := blk_cell HK4.out 1
          have f3 := blk_cell HK4.out 3
          by_cases h4 : kk ≤ 4
          · have q4 : decide ((kk : Int) ≤ 4) = true := decide_eq_true (by omega)
            have hkk : kk = 1 ∨ kk = 2 ∨ kk = 3 ∨ kk = 4 := by omega
            have w1 : wrap64 (8 + a0_1) = 8 + a0_1 := by unfold wrap64; omega
            have w2 : wrap64 ((kk : Int) * (8 + a0_1)) = (kk : Int) * (8 + a0_1) := by rcases hkk with rfl | rfl | rfl | rfl <;> (unfold wrap64; omega)
            have w3 : wrap64 ((kk : Int) * (8 + a0_1) + 64) = (kk : Int) * (8 + a0_1) + 64 := by rcases hkk with rfl | rfl | rfl | rfl <;> (unfold wrap64; omega)
            by_cases hf : a0_3 = kk * (8 + a0_1) + 64
            · have hq : (a0_3 == (kk : Int) * (8 + a0_1) + 64) = true := by simpa using hf
              go_wp2
              go_ret
              exact ⟨by rw [← H.out, fit_at k1 h4 HN.out hf hs1]; rfl, HB4.out⟩
            · have hq : (a0_3 == (kk : Int) * (8 + a0_1) + 64) = false := by simpa using hf
              go_wp2
              refine ⟨⟨kk + 1, by omega, by omega, by simp, ⟨fun j j1 j2 => ?_⟩, HK4, HB4⟩, ?_⟩
              · by_cases hj : j = kk
                · subst hj; exact hf
                · exact HN.out j j1 (by omega)
              · simp only [intOf]; omega
          · have q4 : decide ((kk : Int) ≤ 4) = false := decide_eq_false (by omega)
            go_wp2
            go_ret
            exact ⟨by rw [← H.out, fit_none (fun j a b => HN.out j a (by omega))]; rfl, HB4.out⟩
end Go.Proofs.Ytnnknbbgkjgbcaa.PAll
