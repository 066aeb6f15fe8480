/-
Plain facts on paths, of the program's functions and of the reference's.
-/
import Derived.Test.YtncpilnallghpaaGeoLaw
import Derived.Test.YtncpilnallghpaaPAll26
import Derived.Test.YtncpilnallghpaaPAll25
import Derived.Test.YtncpilnallghpaaPAll28
import Derived.Test.YtncpilnallghpaaPAll29
namespace Go.Proofs.Ytncpilnallghpaa
open Go.RowKit Go.Proofs.YtncpilnallghpaaW.PrintWords Go.Proofs.YtncpilnallghpaaW.PrintLast Go.Proofs.YtncpilnallghpaaW.PrintMore Go.Proofs.Ytncpilnallghpaa.PAll
set_option linter.unusedVariables false
set_option linter.unusedSimpArgs false

/-- Whatever holds of all leaves of all heights. -/
theorem all_leaves {p : Int → Int → Prop} (h1 : ∀ a : Fin 2, p 1 a.val) (h2 : ∀ a : Fin 4, p 2 a.val) (h3 : ∀ a : Fin 8, p 3 a.val) (h4 : ∀ a : Fin 16, p 4 a.val) (h5 : ∀ a : Fin 32, p 5 a.val) (h6 : ∀ a : Fin 64, p 6 a.val)
    {high a : Int} (hh : isHigh high = true) (ha : isLeaf high a = true) : p high a := by
  obtain ⟨a0, a1⟩ := (isLeaf_iff high a).1 ha
  obtain ⟨v1, v2, v3, v4, v5, v6⟩ := two_vals
  obtain ⟨m, rfl⟩ := Int.eq_ofNat_of_zero_le a0
  rcases high_cases hh with rfl | rfl | rfl | rfl | rfl | rfl
  · exact h1 ⟨m, by omega⟩
  · exact h2 ⟨m, by omega⟩
  · exact h3 ⟨m, by omega⟩
  · exact h4 ⟨m, by omega⟩
  · exact h5 ⟨m, by omega⟩
  · exact h6 ⟨m, by omega⟩

theorem leaf_eq {high : Int} (hh : isHigh high = true) (a : Int) : ref07_leaf.f 20 high a = some (isLeaf high a) := by
  unfold ref07_leaf.f isLeaf
  by_cases h : a ≥ 0
  · rw [if_pos h, many_eq hh]; simp [h]
  · rw [if_neg h]; simp [h]

/-- The path of the program is the reference's. -/
theorem way_eq {high a : Int} (hh : isHigh high = true) (ha : isLeaf high a = true) : ref07_Way.f 19 high a = some ((wayAll high a).map (·.2)) ∧ ref07_Way.f 20 high a = some ((wayAll high a).map (·.2)) :=
  all_leaves (p := fun high a => ref07_Way.f 19 high a = some ((wayAll high a).map (·.2)) ∧ ref07_Way.f 20 high a = some ((wayAll high a).map (·.2))) (by decide +kernel) (by decide +kernel) (by decide +kernel) (by decide +kernel) (by decide +kernel) (by decide +kernel) hh ha

theorem ref_path_eq (high a : Int) : ref07_Path.f 20 high a = geo_Path.f high a := by
  unfold ref07_Path.f geo_Path.f
  rw [may_eq]
  cases hh : isHigh high with
  | false => rfl
  | true =>
    simp only [Option.bind_some, if_pos, leaf_eq hh]
    cases ha : isLeaf high a with
    | false => rfl
    | true =>
      simp only [ref07_Path.j0, Bool.not_true]
      rw [if_neg (by decide), (way_eq hh ha).1]
      rfl

/-! ### how deep two go together -/
def deepOf (high a b : Int) : Int := high - Lib.bitLen (Go.bits .xor .i64 a b).toNat
theorem deep_all : (∀ a b : Fin 2, ref07_Both.f 19 1 a.val b.val = some (deepOf 1 a.val b.val) ∧ geo_Deep.f 20 1 a.val b.val = some (deepOf 1 a.val b.val, 0)) ∧ (∀ a b : Fin 4, ref07_Both.f 19 2 a.val b.val = some (deepOf 2 a.val b.val) ∧ geo_Deep.f 20 2 a.val b.val = some (deepOf 2 a.val b.val, 0)) ∧
    (∀ a b : Fin 8, ref07_Both.f 19 3 a.val b.val = some (deepOf 3 a.val b.val) ∧ geo_Deep.f 20 3 a.val b.val = some (deepOf 3 a.val b.val, 0)) ∧ (∀ a b : Fin 16, ref07_Both.f 19 4 a.val b.val = some (deepOf 4 a.val b.val) ∧ geo_Deep.f 20 4 a.val b.val = some (deepOf 4 a.val b.val, 0)) ∧
    (∀ a b : Fin 32, ref07_Both.f 19 5 a.val b.val = some (deepOf 5 a.val b.val) ∧ geo_Deep.f 20 5 a.val b.val = some (deepOf 5 a.val b.val, 0)) ∧ (∀ a b : Fin 64, ref07_Both.f 19 6 a.val b.val = some (deepOf 6 a.val b.val) ∧ geo_Deep.f 20 6 a.val b.val = some (deepOf 6 a.val b.val, 0)) := by
  decide +kernel
theorem deep_leaves {high a b : Int} (hh : isHigh high = true) (ha : isLeaf high a = true) (hb : isLeaf high b = true) : ref07_Both.f 19 high a b = some (deepOf high a b) ∧ geo_Deep.f 20 high a b = some (deepOf high a b, 0) := by
  obtain ⟨a0, a1⟩ := (isLeaf_iff high a).1 ha
  obtain ⟨b0, b1⟩ := (isLeaf_iff high b).1 hb
  obtain ⟨v1, v2, v3, v4, v5, v6⟩ := two_vals
  obtain ⟨m, rfl⟩ := Int.eq_ofNat_of_zero_le a0
  obtain ⟨n, rfl⟩ := Int.eq_ofNat_of_zero_le b0
  obtain ⟨d1, d2, d3, d4, d5, d6⟩ := deep_all
  rcases high_cases hh with rfl | rfl | rfl | rfl | rfl | rfl
  · exact d1 ⟨m, by omega⟩ ⟨n, by omega⟩
  · exact d2 ⟨m, by omega⟩ ⟨n, by omega⟩
  · exact d3 ⟨m, by omega⟩ ⟨n, by omega⟩
  · exact d4 ⟨m, by omega⟩ ⟨n, by omega⟩
  · exact d5 ⟨m, by omega⟩ ⟨n, by omega⟩
  · exact d6 ⟨m, by omega⟩ ⟨n, by omega⟩
theorem deep_eq (high a b : Int) : geo_Deep.f 20 high a b = some (if (isHigh high && isLeaf high a && isLeaf high b) = true then (deepOf high a b, 0) else (0, 2)) := by
  cases hh : isHigh high with
  | false => unfold geo_Deep.f; rw [asked_low 19 hh]; rfl
  | true =>
    cases hab : isLeaf high a && isLeaf high b with
    | false =>
      unfold geo_Deep.f
      rw [asked_two 15 hh, hab, Bool.and_assoc, hab]
      rfl
    | true =>
      rw [Bool.and_assoc, hab]
      simp only [Bool.and_eq_true] at hab
      exact (deep_leaves hh hab.1 hab.2).2
theorem ref_deep_eq (high a b : Int) : ref07_Deep.f 20 high a b = some (if (isHigh high && isLeaf high a && isLeaf high b) = true then (deepOf high a b, 0) else (0, 2)) := by
  unfold ref07_Deep.f
  rw [may_eq]
  cases hh : isHigh high with
  | false => rfl
  | true =>
    simp only [Option.bind_some, if_pos, leaf_eq hh]
    cases ha : isLeaf high a with
    | false => rfl
    | true =>
      cases hb : isLeaf high b with
      | false => rfl
      | true =>
        simp only [ref07_Deep.j0, Bool.not_true, if_pos]
        rw [if_neg (by decide), (deep_leaves hh ha hb).1]
        rfl

/-! ### is a bucket on a path? -/
theorem on_l0 (b : Int) (l : List Int) (hl : l.length ≤ 1000) : ∀ (d k i : Nat), l.length - i = d → d < k → ref07_On.l0 k b l i = some ((l.drop i).contains b, 0) := by
  intro d
  induction d with
  | zero =>
    intro k i hd hk
    obtain ⟨k, rfl⟩ : ∃ m, k = m + 1 := ⟨k - 1, by omega⟩
    simp only [ref07_On.l0]
    rw [if_neg (by omega), List.drop_of_length_le (by omega)]
    rfl
  | succ d ih =>
    intro k i hd hk
    obtain ⟨k, rfl⟩ : ∃ m, k = m + 1 := ⟨k - 1, by omega⟩
    have hi : i < l.length := by omega
    have hr : rd l i = l[i] := by simp [rd, List.getD_eq_getElem?_getD, List.getElem?_eq_getElem hi]
    simp only [ref07_On.l0]
    rw [if_pos (by omega), if_pos (by omega), hr, List.drop_eq_getElem_cons hi, List.contains_cons]
    have hw : wrap64 ((i : Int) + 1) = ((i + 1 : Nat) : Int) := by unfold wrap64; omega
    by_cases e : l[i] = b
    · rw [if_pos e]; simp [e]
    · rw [if_neg e, hw, ih k (i + 1) (by omega) (by omega)]
      have e2 : (b == l[i]) = false := beq_eq_false_iff_ne.2 (fun x => e x.symm)
      rw [e2, Bool.false_or]
theorem wayAll_length (high a : Int) : ((wayAll high a).map (·.2)).length = high.toNat + 1 := by simp [wayAll, upto]
theorem ref_on_eq (high b a : Int) : ref07_On.f 20 high b a = geo_On.f high b a := by
  unfold ref07_On.f geo_On.f
  rw [may_eq]
  cases hh : isHigh high with
  | false => rfl
  | true =>
    have h6 := ((isHigh_iff high).1 hh).2
    have ht := two_le hh
    have ht0 : 0 < two high := Int.pow_pos (by decide)
    have hw : wrap64 (wrap64 (2 * two high) - 1) = 2 * two high - 1 := by unfold wrap64; omega
    simp only [Option.bind_some, if_pos, leaf_eq hh, many_eq hh, hw]
    cases ha : isLeaf high a with
    | false => rfl
    | true =>
      by_cases h1 : b < 1
      · have hb : isBucket high b = false := by simp [isBucket]; omega
        rw [if_pos h1, hb]; rfl
      · rw [if_neg h1]
        by_cases h2 : b > 2 * two high - 1
        · have hb : isBucket high b = false := by simp [isBucket]; omega
          rw [decide_eq_true h2, hb]; rfl
        · have hb : isBucket high b = true := by simp [isBucket]; omega
          have hl := on_l0 b ((wayAll high a).map (·.2)) (by rw [wayAll_length]; omega) _ 19 0 rfl (by rw [wayAll_length]; omega)
          have e1 : ref07_On.j0 20 high b a false = some (((wayAll high a).map (·.2)).contains b, 0) := by
            have e2 : ref07_On.j0 20 high b a false = (ref07_Way.f 19 high a).bind fun t => ref07_On.l0 19 b t 0 := rfl
            rw [e2, (way_eq hh ha).1]
            exact hl
          rw [decide_eq_false h2, hb, e1]
          rfl
end Go.Proofs.Ytncpilnallghpaa
