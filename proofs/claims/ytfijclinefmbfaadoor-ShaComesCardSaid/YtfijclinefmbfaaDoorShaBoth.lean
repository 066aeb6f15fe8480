/-
sha.More and sha.End, each in one contract; what comes of two parts.
-/
import Derived.Test.YtfijclinefmbfaaDoorShaNames
namespace Go.Proofs.YtfijclinefmbfaaDoor
open Go.RowKit Go.Proofs.YtfijclinefmbfaaDoorW.PrintWords Go.Proofs.YtfijclinefmbfaaDoorW.PrintLast Go.Proofs.YtfijclinefmbfaaDoorW.PrintMore Go.Proofs.YtfijclinefmbfaaDoor.PAll
set_option linter.unusedVariables false
set_option linter.unusedSimpArgs false

/-- More's error: n the rest's length, m how many came, k how many come. -/
def moreE (n : Nat) (m : Int) (k : Nat) : Int := if checkA n m ≠ 0 then checkA n m else if (k : Int) ≥ 72057594037927936 - m then 4 else 0
def moreS (hs r : List Int) (m : Int) (l : List Int) : List Int × List Int × Int :=
  if moreE r.length m l.length = 0 then ((comeA hs (r ++ l)).1, (comeA hs (r ++ l)).2, (m + l.length) % 18446744073709551616) else (List.replicate 8 0, [], 0)
def endD (hs r : List Int) (m : Int) : List Int := if checkA r.length m = 0 then endA hs r m else List.replicate 32 0
theorem checkA_cases (n : Nat) (m : Int) : checkA n m = 0 ∨ checkA n m = 8 := by
  unfold checkA
  split
  · exact .inr rfl
  · split
    · exact .inr rfl
    · exact .inl rfl
theorem moreS_length {hs : List Int} (h : hs.length = 8) (r : List Int) (m : Int) (l : List Int) : (moreS hs r m l).1.length = 8 := by
  unfold moreS
  split
  · exact comeA_length h _
  · rfl
theorem endD_length (hs r : List Int) (m : Int) : (endD hs r m).length = 32 := by
  unfold endD
  split
  · exact digestA_length _
  · rfl
theorem more_any (cs : Array Value) (hs : List Int) (R : Option Addr) (rc : Nat) (l1 : List Int) (m : Int) (A : Option Addr) (c : Nat) (l2 : List Int) (hcs : cs = sumC hs R l1.length rc m) (hh : hs.length = 8) (w : World) (h1 : Kd.C (Kd.int .u8) w R l1.length l1) (hc1 : l1.length ≤ rc) (h2 : Kd.C (Kd.int .u8) w A l2.length l2) (hc2 : l2.length ≤ c) (hlen : l1.length + l2.length ≤ 1000000) (hk : Ktab w) (hm : 0 ≤ m) :
    Calls Tryd.prog 11 #[.agg cs, .slice A l2.length c] w fun e w' => ∃ R' c', e = .returned (.tuple #[.agg (sumC (moreS hs l1 m l2).1 R' (moreS hs l1 m l2).2.1.length c' (moreS hs l1 m l2).2.2), .int .i64 (moreE l1.length m l2.length)]) ∧ (moreS hs l1 m l2).2.1.length ≤ c' ∧ Kd.R (Kd.int .u8) 5 w' w.heap.size (fun _ => True) (.slice R' (moreS hs l1 m l2).2.1.length c') (moreS hs l1 m l2).2.1 ∧ Below w.heap.size w w' := by
  by_cases hb : checkA l1.length m = 0
  · by_cases hmany : (l2.length : Int) ≥ 72057594037927936 - m
    · have he : moreE l1.length m l2.length = 4 := by unfold moreE; rw [if_neg (by simpa using hb), if_pos hmany]
      have hs' : moreS hs l1 m l2 = (List.replicate 8 0, [], 0) := by unfold moreS; rw [he]; rfl
      rw [he, hs']
      refine (more_many_cs cs hs R l1.length rc m A l2.length c hcs hh (by omega) hm hb (by omega) hmany w).mono ?_
      rintro e w' ⟨rfl, hb'⟩
      exact ⟨none, 0, rfl, Nat.le_refl _, Kd.R_nil _ _ _ _ _, hb'⟩
    · have he : moreE l1.length m l2.length = 0 := by unfold moreE; rw [if_neg (by simpa using hb), if_neg hmany]
      have hs' : moreS hs l1 m l2 = ((comeA hs (l1 ++ l2)).1, (comeA hs (l1 ++ l2)).2, (m + l2.length) % 18446744073709551616) := by unfold moreS; rw [if_pos he]
      rw [he, hs']
      exact more_ok_cs cs hs R rc l1 m A c l2 hcs hh w h1 hc1 h2 hc2 hlen hk hm hb hmany
  · have he : moreE l1.length m l2.length = checkA l1.length m := by unfold moreE; rw [if_pos hb]
    have hs' : moreS hs l1 m l2 = (List.replicate 8 0, [], 0) := by unfold moreS; rw [if_neg (by rw [he]; exact hb)]
    rw [he, hs']
    refine (more_bad_cs cs hs R l1.length rc m A l2.length c hcs hh (by omega) hm hb w).mono ?_
    rintro e w' ⟨rfl, hb'⟩
    exact ⟨none, 0, rfl, Nat.le_refl _, Kd.R_nil _ _ _ _ _, hb'⟩
theorem end_any (cs : Array Value) (hs : List Int) (R : Option Addr) (rc : Nat) (r : List Int) (m : Int) (hcs : cs = sumC hs R r.length rc m) (hh : hs.length = 8) (w : World) (h1 : Kd.C (Kd.int .u8) w R r.length r) (hc1 : r.length ≤ rc) (hr : r.length ≤ 1000000) (hk : Ktab w) (hm : 0 ≤ m) :
    Calls Tryd.prog 13 #[.agg cs] w fun e w' => e = .returned (.tuple #[.agg ⟨(endD hs r m).map (Value.int .u8)⟩, .int .i64 (checkA r.length m)]) ∧ Below w.heap.size w w' := by
  unfold endD
  by_cases hb : checkA r.length m = 0
  · rw [if_pos hb, hb]
    exact end_cs cs hs R rc r m hcs hh w h1 hc1 hk hm hb
  · rw [if_neg hb]
    exact end_bad_cs cs hs R r.length rc m hcs hh (by omega) hm hb w

theorem checkA_ok {n : Nat} {m : Int} (h : checkA n m = 0) : m < 72057594037927936 ∧ (n : Int) = m % 64 := by
  unfold checkA at h
  by_cases h1 : m ≥ 72057594037927936
  · rw [if_pos h1] at h; cases h
  · rw [if_neg h1] at h
    by_cases h2 : (n : Int) ≠ m % 64
    · rw [if_pos h2] at h; cases h
    · exact ⟨by omega, by omega⟩
theorem checkA_ok' {n : Nat} {m : Int} (h1 : m < 72057594037927936) (h2 : (n : Int) = m % 64) : checkA n m = 0 := by
  unfold checkA
  rw [if_neg (by omega), if_neg (by omega)]
theorem moreE_zero {n : Nat} {m : Int} {k : Nat} (h : moreE n m k = 0) : m + k < 72057594037927936 ∧ (n : Int) = m % 64 := by
  unfold moreE at h
  by_cases h1 : checkA n m = 0
  · rw [if_neg (by simpa using h1)] at h
    have := checkA_ok h1
    by_cases h2 : (k : Int) ≥ 72057594037927936 - m
    · rw [if_pos h2] at h; cases h
    · exact ⟨by omega, this.2⟩
  · rw [if_pos h1] at h
    exact absurd h h1
theorem moreE_zero' {n : Nat} {m : Int} {k : Nat} (h1 : m + k < 72057594037927936) (h2 : (n : Int) = m % 64) : moreE n m k = 0 := by
  unfold moreE
  rw [if_neg (by simpa using checkA_ok' (m := m) (by omega) h2), if_neg (by omega)]
theorem moreE_cases (n : Nat) (m : Int) (k : Nat) : moreE n m k = 0 ∨ moreE n m k = checkA n m ∨ moreE n m k = 4 := by
  unfold moreE
  split
  · exact .inr (.inl rfl)
  · split
    · exact .inr (.inr rfl)
    · exact .inl rfl
/-- What came is there. -/
theorem moreS_ok {hs r l : List Int} {m : Int} (h : moreE r.length m l.length = 0) (hm : 0 ≤ m) : moreS hs r m l = ((comeA hs (r ++ l)).1, (comeA hs (r ++ l)).2, m + l.length) := by
  have := moreE_zero h
  unfold moreS
  rw [if_pos h, Int.emod_eq_of_lt (by omega) (by omega)]
theorem moreS_check {hs r l : List Int} {m : Int} (h : moreE r.length m l.length = 0) (hm : 0 ≤ m) : checkA (moreS hs r m l).2.1.length (moreS hs r m l).2.2 = 0 := by
  have := moreE_zero h
  rw [moreS_ok h hm]
  refine checkA_ok' this.1 ?_
  simp only [comeA_rest, List.length_append]
  omega
/-- Two parts, one behind the other: the same as both at once. -/
theorem parts_same {hs r a b : List Int} {m : Int} (hm : 0 ≤ m) (h1 : moreE r.length m a.length = 0) (h2 : moreE (moreS hs r m a).2.1.length (moreS hs r m a).2.2 b.length = 0) :
    moreE r.length m (a ++ b).length = 0 ∧ moreS hs r m (a ++ b) = moreS (moreS hs r m a).1 (moreS hs r m a).2.1 (moreS hs r m a).2.2 b := by
  have e1 := moreE_zero h1
  have e2 := moreE_zero h2
  rw [moreS_ok h1 hm] at e2 h2 ⊢
  have h3 : moreE r.length m (a ++ b).length = 0 := moreE_zero' (by rw [List.length_append]; simp only at e2; omega) e1.2
  refine ⟨h3, ?_⟩
  rw [moreS_ok h3 hm, moreS_ok h2 (by simp only; omega)]
  simp only [comeA_append, List.append_assoc, List.length_append]
  have : m + ((a.length + b.length : Nat) : Int) = m + (a.length : Int) + (b.length : Int) := by omega
  rw [this]
theorem parts_bad {hs r a b : List Int} {m : Int} (hm : 0 ≤ m) (h : moreE r.length m a.length ≠ 0 ∨ moreE (moreS hs r m a).2.1.length (moreS hs r m a).2.2 b.length ≠ 0) (hb : b.length ≤ 1000) :
    moreE r.length m (a ++ b).length ≠ 0 := by
  intro h3
  have e3 := moreE_zero h3
  rw [List.length_append] at e3
  have h1 : moreE r.length m a.length = 0 := moreE_zero' (by omega) e3.2
  rcases h with h | h
  · exact h h1
  · refine h ?_
    rw [moreS_ok h1 hm]
    refine moreE_zero' (by simp only; omega) ?_
    simp only [comeA_rest, List.length_append]
    omega
theorem moreS_rest {hs r l : List Int} {m : Int} : (moreS hs r m l).2.1.length < 64 ∨ (moreS hs r m l).2.1 = [] := by
  unfold moreS
  split
  · refine .inl ?_
    simp only [comeA_rest]
    omega
  · exact .inr rfl
theorem moreS_m {hs r l : List Int} {m : Int} (hm : 0 ≤ m) : 0 ≤ (moreS hs r m l).2.2 := by
  unfold moreS
  split
  · simp only; omega
  · exact Int.le_refl _
end Go.Proofs.YtfijclinefmbfaaDoor
