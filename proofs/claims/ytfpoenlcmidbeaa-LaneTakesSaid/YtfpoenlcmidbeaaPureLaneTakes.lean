/-
Whether a lane may be, how many cells are left, and two that are taken, or the error, are the document's (law LaneTakes answers true).
Conditions: none beside the law's own.
-/
import Derived.Test.YtfpoenlcmidbeaaStatedLaneTakes
namespace Go.Proofs.Ytfpoenlcmidbeaa.Pure
open Go.RowKit Go.Proofs.Ytfpoenlcmidbeaa Go.Proofs.Ytfpoenlcmidbeaa.PAll Go.Proofs.YtfpoenlcmidbeaaW.PrintWords
set_option linter.unusedVariables false
set_option linter.unusedSimpArgs false

theorem wrap_succ (i : Nat) (h : i ≤ 140737488355328) : wrap64 ((i : Int) + 1) = ((i + 1 : Nat) : Int) := by unfold wrap64; omega
theorem same_l0 (l : List Int) (a : Int) (hl : l.length ≤ 4100) : ∀ (d k i : Nat), l.length - i = d → i ≤ l.length → d < k → ref05_Same.l0 k i l a l a = some true := by
  intro d
  induction d with
  | zero =>
    intro k i hd hi hk
    obtain ⟨k, rfl⟩ : ∃ m, k = m + 1 := ⟨k - 1, by omega⟩
    rw [ref05_Same.l0, if_neg (by omega), beq_self_eq_true]
  | succ d ih =>
    intro k i hd hi hk
    obtain ⟨k, rfl⟩ : ∃ m, k = m + 1 := ⟨k - 1, by omega⟩
    rw [ref05_Same.l0, if_pos (by omega), if_pos (by omega), if_pos (by omega), if_pos rfl, wrap_succ i (by omega), ih k (i + 1) (by omega) (by omega) (by omega)]
theorem same_f (l : List Int) (a : Int) (hl : l.length ≤ 4100) (k : Nat) (hk : l.length < k) : ref05_Same.f k l a l a = some true := by
  unfold ref05_Same.f
  rw [if_pos rfl]
  exact same_l0 l a hl _ k 0 rfl (Nat.zero_le _) (by omega)
theorem takes_l0 (l : List Int) (a : Int) (hl : l.length ≤ 4100) : ∀ (d k i : Nat) (x : List Int) (b : Int), x.length - i = d → x.length ≤ 4100 → i ≤ x.length → d + l.length + 1 < k → law05_LaneTakes.l0 k true i l a l a x b = some true := by
  intro d
  induction d with
  | zero =>
    intro k i x b hd hx hi hk
    obtain ⟨k, rfl⟩ : ∃ m, k = m + 1 := ⟨k - 1, by omega⟩
    rw [law05_LaneTakes.l0, if_neg (by omega), if_pos rfl, same_f l a hl k (by omega)]
    rfl
  | succ d ih =>
    intro k i x b hd hx hi hk
    obtain ⟨k, rfl⟩ : ∃ m, k = m + 1 := ⟨k - 1, by omega⟩
    rw [law05_LaneTakes.l0, if_pos (by omega), if_pos (by omega), wrap_succ i (by omega), ih k (i + 1) _ b (by rw [List.length_set]; omega) (by rw [List.length_set]; omega) (by rw [List.length_set]; omega) (by omega)]

def Ok (l : List Int) (a : Int) : Prop := l.length ≤ 4096 ∧ 0 ≤ a ∧ a ≤ l.length
theorem may_t {l : List Int} {a : Int} (h : Ok l a) : ref05_May.f l a = some true := by
  unfold ref05_May.f
  unfold Ok at h
  rw [if_pos (by omega), if_pos (by omega), decide_eq_true (by omega)]
theorem may_f {l : List Int} {a : Int} (h : ¬ Ok l a) : ref05_May.f l a = some false := by
  unfold ref05_May.f
  unfold Ok at h
  by_cases h1 : (l.length : Int) ≤ 4096
  · rw [if_pos h1]
    by_cases h2 : a ≥ 0
    · rw [if_pos h2, decide_eq_false (by omega)]
    · rw [if_neg h2]
  · rw [if_neg h1]
theorem check_t {l : List Int} {a : Int} (h : Ok l a) (k : Nat) : lane_Check.f (k + 1) l a = some 0 := by
  unfold lane_Check.f
  unfold Ok at h
  rw [if_neg (by omega), if_neg (by omega), decide_eq_false (by omega), lane_Check.j0, if_neg (by decide)]
theorem check_f {l : List Int} {a : Int} (h : ¬ Ok l a) (k : Nat) : lane_Check.f (k + 1) l a = some 8 := by
  unfold lane_Check.f
  unfold Ok at h
  by_cases h1 : (l.length : Int) > 4096
  · rw [if_pos h1, lane_Check.j0, if_pos rfl]
  · rw [if_neg h1]
    by_cases h2 : a < 0
    · rw [if_pos h2, lane_Check.j0, if_pos rfl]
    · rw [if_neg h2, decide_eq_true (by omega), lane_Check.j0, if_pos rfl]
theorem twin {l : List Int} {a : Int} (hl : l.length ≤ 4100) : ref05_Twin.f l a = some (l, a) := by
  unfold ref05_Twin.f
  rw [Option.bind_some, if_pos (by simp; omega), List.nil_append]
theorem two_eq {l : List Int} {a : Int} (hl : l.length ≤ 4100) : ref05_Two.f l a = lane_Two.f l a := by
  unfold ref05_Two.f lane_Two.f
  by_cases h : Ok l a
  · rw [may_t h, Option.bind_some, if_pos rfl, if_pos (show l.length ≤ 4096 ∧ 0 ≤ a ∧ a ≤ (l.length : Int) from h)]
    have hw : wrap64 ((l.length : Int) - a) = (l.length : Int) - a := by unfold Ok at h; unfold wrap64; omega
    have hL : ref05_Left.f l a = some ((l.length : Int) - a) := by
      unfold ref05_Left.f
      rw [may_t h, Option.bind_some, if_pos rfl, hw]
    rw [hL, Option.bind_some]
    unfold Ok at h
    by_cases h2 : a + 1 < (l.length : Int)
    · have w1 : wrap64 (a + 1) = a + 1 := by unfold wrap64; omega
      have w2 : wrap64 (a + 2) = a + 2 := by unfold wrap64; omega
      rw [if_neg (by omega), twin hl, Option.bind_some, if_pos (by omega), if_pos (by omega), w1, w2, if_pos (by omega), if_pos (by omega), if_pos (by omega)]
    · rw [if_pos (by omega), if_neg (by omega)]
  · rw [may_f h, Option.bind_some, if_neg (by decide), if_neg (show ¬ (l.length ≤ 4096 ∧ 0 ≤ a ∧ a ≤ (l.length : Int)) from h)]
theorem two_some (l : List Int) (a : Int) : ∃ x b c d e, lane_Two.f l a = some (x, b, c, d, e) ∧ x.length ≤ l.length := by
  unfold lane_Two.f
  split
  · split
    · exact ⟨_, _, _, _, _, rfl, Nat.le_refl _⟩
    · exact ⟨_, _, _, _, _, rfl, by simp⟩
  · exact ⟨_, _, _, _, _, rfl, by simp⟩
theorem checks {l : List Int} {a : Int} (k : Nat) : ∃ e, lane_Check.f (k + 1) l a = some e ∧ ref05_Check.f l a = some e := by
  by_cases h : Ok l a
  · exact ⟨0, check_t h k, by unfold ref05_Check.f; rw [may_t h, Option.bind_some, if_pos rfl]⟩
  · exact ⟨8, check_f h k, by unfold ref05_Check.f; rw [may_f h, Option.bind_some, if_neg (by decide)]⟩
theorem lefts {l : List Int} {a : Int} (k : Nat) : ∃ e, lane_Left.f (k + 1) l a = some e ∧ ref05_Left.f l a = some e := by
  by_cases h : Ok l a
  · exact ⟨_, by unfold lane_Left.f; rw [check_t h k, Option.bind_some, if_pos rfl], by unfold ref05_Left.f; rw [may_t h, Option.bind_some, if_pos rfl]⟩
  · exact ⟨0, by unfold lane_Left.f; rw [check_f h k, Option.bind_some, if_neg (by decide)], by unfold ref05_Left.f; rw [may_f h, Option.bind_some, if_neg (by decide)]⟩
theorem takes_j0 (l : List Int) (a : Int) (hl : l.length ≤ 4100) : law05_LaneTakes.j0 20000 false l a = some true := by
  obtain ⟨k, hk⟩ : ∃ k, 20000 = k + 1 + 1 + 1 := ⟨19997, rfl⟩
  have hk2 : 10000 < k := by omega
  rw [hk]
  obtain ⟨x, b, c, d, e, h2, hx⟩ := two_some l a
  obtain ⟨e1, h3, h4⟩ := checks (l := l) (a := a) (k + 1)
  obtain ⟨e2, h5, h6⟩ := lefts (l := l) (a := a) (k + 1)
  rw [law05_LaneTakes.j0, if_neg (by decide), twin hl, Option.bind_some, h2, Option.bind_some, two_eq hl, h2, Option.bind_some]
  dsimp only
  rw [same_f x b (by omega) _ (by omega), Option.bind_some, if_pos rfl, if_pos rfl, if_pos rfl, if_pos rfl, h3, Option.bind_some, h4, Option.bind_some, if_pos rfl, h5, Option.bind_some, h6, Option.bind_some, beq_self_eq_true, law05_LaneTakes.j1]
  exact takes_l0 l a hl _ (k + 1) 0 x b rfl (by omega) (Nat.zero_le _) (by omega)
theorem takes_big (l : List Int) (a : Int) : law05_LaneTakes.j0 20000 true l a = some true := by
  rw [show (20000 : Nat) = 19999 + 1 from rfl, law05_LaneTakes.j0, if_pos rfl]
theorem LaneTakes : law05_LaneTakes.Pure2 := by
  intro l a hl0 hw0 hw1
  refine ⟨20000, ?_⟩
  unfold law05_LaneTakes.f
  by_cases h1 : (l.length : Int) > 100
  · rw [if_pos h1]
    by_cases h2 : (l.length : Int) < 4096
    · rw [if_pos h2]; exact takes_big l a
    · rw [if_neg h2]
      by_cases h3 : (l.length : Int) > 4100
      · rw [decide_eq_true h3]; exact takes_big l a
      · rw [decide_eq_false h3]; exact takes_j0 l a (by omega)
  · rw [if_neg h1, decide_eq_false (by omega)]
    exact takes_j0 l a (by omega)
end Go.Proofs.Ytfpoenlcmidbeaa.Pure
