/-
Slots: what the plain functions of slot answer, in the same words.
-/
import Derived.Test.YtnnknbbgkjgbcaaSlotLow
import Derived.Test.YtnnknbbgkjgbcaaHandSlot
import Derived.Test.YtnnknbbgkjgbcaaPAll16
namespace Go.Proofs.Ytnnknbbgkjgbcaa
open Go.RowKit Go.Proofs.YtnnknbbgkjgbcaaW.PrintWords Go.Proofs.YtnnknbbgkjgbcaaW.PrintLast Go.Proofs.YtnnknbbgkjgbcaaW.PrintMore Go.Proofs.Ytnnknbbgkjgbcaa.PAll
set_option linter.unusedVariables false
set_option linter.unusedSimpArgs false

/-- May a level be. -/
def levelOk (a0 a1 a2 a3 : Int) : Prop := isHigh a2 = true ∧ 1 ≤ a0 ∧ a0 ≤ 64 ∧ a0 ≤ two a2 ∧ 1 ≤ a1 ∧ a1 ≤ 32 ∧ 8 + a1 ≤ wrap64 (a3 - 64) ∧ wrap64 (a3 - 64) ≤ 4 * (8 + a1) ∧ wrap64 (a3 - 64) % (8 + a1) = 0
instance (a0 a1 a2 a3 : Int) : Decidable (levelOk a0 a1 a2 a3) := by unfold levelOk; infer_instance
def slotsS (a0 a1 a2 a3 : Int) : Int × Int := if levelOk a0 a1 a2 a3 then (wrap64 (a3 - 64) / (8 + a1), 0) else (0, 8)

theorem slots_eq20 (a0 a1 a2 a3 : Int) : slot_Slots.f 20 a0 a1 a2 a3 = some (slotsS a0 a1 a2 a3) := by
  unfold slot_Slots.f slotsS
  rw [leaves_eq, Option.bind_some]
  by_cases hh : isHigh a2 = true
  · have hb := high_bounds hh
    rw [if_pos hh]
    simp only [if_true]
    have hm : mn 64 (two a2) = two a2 := by unfold mn; omega
    rw [hm]
    by_cases h1 : a0 < 1
    · rw [if_pos h1, if_neg (by unfold levelOk; omega)]; rfl
    · rw [if_neg h1]
      by_cases h2 : two a2 < a0
      · rw [if_pos h2, if_neg (by unfold levelOk; omega)]; rfl
      · rw [if_neg h2]
        by_cases h3 : a1 < 1
        · rw [if_pos h3, if_neg (by unfold levelOk; omega)]; rfl
        · rw [if_neg h3, slot_Slots.j0]
          by_cases h4 : 32 < a1
          · rw [if_pos (by simpa using h4), if_neg (by unfold levelOk; omega)]
          · have e1 : wrap64 (8 + a1) = 8 + a1 := by unfold wrap64; omega
            have e2 : wrap64 (4 * (8 + a1)) = 4 * (8 + a1) := by unfold wrap64; omega
            rw [if_neg (by simpa using h4), e1, e2]
            by_cases h5 : wrap64 (a3 - 64) < 8 + a1
            · rw [if_pos h5, if_neg (by unfold levelOk; omega)]; rfl
            · rw [if_neg h5]
              by_cases h6 : 4 * (8 + a1) < wrap64 (a3 - 64)
              · rw [if_pos h6, if_neg (by unfold levelOk; omega)]; rfl
              · rw [if_neg h6, if_neg (by omega), slot_Slots.j1]
                have hmod : Int.tmod (wrap64 (a3 - 64)) (8 + a1) = wrap64 (a3 - 64) % (8 + a1) := Int.tmod_eq_emod_of_nonneg (by omega)
                have hdiv : Int.tdiv (wrap64 (a3 - 64)) (8 + a1) = wrap64 (a3 - 64) / (8 + a1) := Int.tdiv_eq_ediv_of_nonneg (by omega)
                have hpos : 0 ≤ wrap64 (a3 - 64) % (8 + a1) := Int.emod_nonneg _ (by omega)
                rw [hmod]
                by_cases h7 : wrap64 (a3 - 64) % (8 + a1) = 0
                · have hq : wrap64 (wrap64 (a3 - 64) / (8 + a1)) = wrap64 (a3 - 64) / (8 + a1) := by
                    have q0 : 0 ≤ wrap64 (a3 - 64) / (8 + a1) := Int.ediv_nonneg (by omega) (by omega)
                    have q1 : wrap64 (a3 - 64) / (8 + a1) ≤ wrap64 (a3 - 64) := Int.ediv_le_self _ (by omega)
                    generalize wrap64 (a3 - 64) / (8 + a1) = q at q0 q1
                    have : wrap64 (a3 - 64) ≤ 160 := by omega
                    unfold wrap64 at *; omega
                  rw [if_neg (by simp [h7]), if_neg (by omega), hdiv, hq, if_pos (by unfold levelOk; exact ⟨hh, by omega, by omega, by omega, by omega, by omega, by omega, by omega, h7⟩)]
                · rw [if_pos (by simp; omega), if_neg (by unfold levelOk; intro h; exact h7 h.2.2.2.2.2.2.2.2)]
  · rw [if_neg hh, if_neg (show ¬ levelOk a0 a1 a2 a3 from fun h => hh h.1)]
    rfl

theorem slots_eq (a0 a1 a2 a3 : Int) {k : Nat} (hk : 20 ≤ k) : slot_Slots.f k a0 a1 a2 a3 = some (slotsS a0 a1 a2 a3) :=
  at_rounds (g := fun k => slot_Slots.f k a0 a1 a2 a3) (slot_Slots.mono a0 a1 a2 a3) hk (slots_eq20 a0 a1 a2 a3)

def mayS (a0 a1 a2 id leaf : Int) (len : Nat) : Prop := 0 ≤ id ∧ id < a0 ∧ 0 ≤ leaf ∧ leaf < two a2 ∧ (len : Int) = a1
instance (a0 a1 a2 id leaf : Int) (len : Nat) : Decidable (mayS a0 a1 a2 id leaf len) := by unfold mayS; infer_instance
def checkS (a0 a1 a2 a3 id leaf : Int) (len : Nat) : Int := if levelOk a0 a1 a2 a3 ∧ mayS a0 a1 a2 id leaf len then 0 else 8

theorem checkS_eq (a0 a1 a2 a3 id leaf : Int) (d : List Int) : slot_Check.f 20 a0 a1 a2 a3 id leaf d = some (checkS a0 a1 a2 a3 id leaf d.length) := by
  unfold slot_Check.f checkS
  rw [slots_eq20, Option.bind_some]
  unfold slotsS
  by_cases hl : levelOk a0 a1 a2 a3
  · have hh := hl.1
    rw [if_pos hl]
    simp only [if_true]
    rw [leaves_eq, Option.bind_some, if_pos hh]
    simp only
    by_cases h1 : id < 0
    · rw [if_pos h1, if_neg (by unfold mayS; omega)]; rfl
    · rw [if_neg h1]
      by_cases h2 : a0 ≤ id
      · rw [if_pos h2, if_neg (by unfold mayS; omega)]; rfl
      · rw [if_neg h2]
        by_cases h3 : leaf < 0
        · rw [if_pos h3, if_neg (by unfold mayS; omega)]; rfl
        · rw [if_neg h3]
          by_cases h4 : two a2 ≤ leaf
          · rw [if_pos h4, if_neg (by unfold mayS; omega)]; rfl
          · rw [if_neg h4, slot_Check.j0]
            by_cases h5 : (d.length : Int) = a1
            · rw [if_neg (by simpa using h5), if_pos ⟨hl, by unfold mayS; omega⟩]
            · rw [if_pos (by simpa using h5), if_neg (by unfold mayS; omega)]
  · rw [if_neg hl, if_neg (show ¬ (levelOk a0 a1 a2 a3 ∧ mayS a0 a1 a2 id leaf d.length) from fun h => hl h.1)]
    rfl

theorem checkS_zero {a0 a1 a2 a3 id leaf : Int} {len : Nat} : checkS a0 a1 a2 a3 id leaf len = 0 ↔ levelOk a0 a1 a2 a3 ∧ mayS a0 a1 a2 id leaf len := by
  unfold checkS
  by_cases h : levelOk a0 a1 a2 a3 ∧ mayS a0 a1 a2 id leaf len
  · rw [if_pos h]; simp [h]
  · rw [if_neg h]; simp [h]

/-! ### a slot's text -/
theorem put44 : ∀ p : Fin 65, ∀ q : Fin 64, num_Put.f 60 [(p.val : Int), (q.val : Int)] [4, 4] = some ([(p.val : Int), 0, 0, 0, (q.val : Int), 0, 0, 0], 0) := by decide +kernel

def ofS (id leaf : Int) (d : List Int) : List Int := [id + 1, 0, 0, 0, leaf, 0, 0, 0] ++ d
def writeS (a0 a1 a2 a3 id leaf : Int) (d : List Int) : List Int × Int := if levelOk a0 a1 a2 a3 ∧ mayS a0 a1 a2 id leaf d.length then (ofS id leaf d, 0) else ([], 8)

theorem writeS_eq (a0 a1 a2 a3 id leaf : Int) (d : List Int) : slot_Write.f a0 a1 a2 a3 id leaf d = some (writeS a0 a1 a2 a3 id leaf d) := by
  unfold slot_Write.f writeS
  rw [checkS_eq, Option.bind_some]
  by_cases h : levelOk a0 a1 a2 a3 ∧ mayS a0 a1 a2 id leaf d.length
  · obtain ⟨hl, hm⟩ := h
    have hh := high_bounds hl.1
    have hl' := hl
    have hm' := hm
    unfold levelOk at hl'
    unfold mayS at hm'
    rw [checkS_zero.2 ⟨hl, hm⟩, if_pos rfl, if_pos ⟨hl, hm⟩]
    have e1 : IntKind.u64.wrap (IntKind.u64.wrap id + 1) = id + 1 := by rw [u64_wrap', u64_wrap']; omega
    have e2 : IntKind.u64.wrap leaf = leaf := by rw [u64_wrap']; omega
    obtain ⟨n, rfl⟩ := Int.eq_ofNat_of_zero_le hm'.1
    obtain ⟨m, rfl⟩ := Int.eq_ofNat_of_zero_le hm'.2.2.1
    have hp := put44 ⟨n + 1, by omega⟩ ⟨m, by omega⟩
    simp only at hp
    rw [e1, e2, show (n : Int) + 1 = ((n + 1 : Nat) : Int) from rfl, hp, Option.bind_some, if_pos (by simp; omega)]
    rfl
  · have : checkS a0 a1 a2 a3 id leaf d.length = 8 := by unfold checkS; rw [if_neg h]
    rw [this, if_neg (by decide), if_neg h]

theorem noneS_eq (a0 a1 a2 a3 : Int) {k : Nat} (hk : 20 ≤ k) : slot_None.f k a0 a1 a2 a3 = some (if levelOk a0 a1 a2 a3 then (List.replicate (8 + a1).toNat 0, 0) else ([], 8)) := by
  unfold slot_None.f
  rw [slots_eq a0 a1 a2 a3 hk, Option.bind_some]
  unfold slotsS
  by_cases hl : levelOk a0 a1 a2 a3
  · have hl' := hl
    unfold levelOk at hl'
    have e1 : wrap64 (8 + a1) = 8 + a1 := by unfold wrap64; omega
    rw [if_pos hl, if_pos hl]
    simp only [if_true]
    rw [e1, if_pos (by omega), if_pos (by omega)]
  · rw [if_neg hl, if_neg hl]
    rfl

/-! ### a slot's parts -/
theorem take44 {p : List Int} (h : p.length = 8) (hb : Bytes p) : num_Take.f 60 p [4, 4] = some ([val (p.take 4), val (p.drop 4)], 0) := by
  have hp1 : (p.take 4).length = 4 := by rw [List.length_take]; omega
  have hp2 : (p.drop 4).length = 4 := by rw [List.length_drop]; omega
  have hb1 := hb.take 4
  have hb2 := hb.drop 4
  have hv1 := val_four hp1 hb1
  have hv2 := val_four hp2 hb2
  have hcut : num_Cut.f p [4, 4] = some ([p.take 4, p.drop 4], 0) := by
    have e : sizeR [4, 4] = (8, 0) := by decide
    rw [num_Cut.f, cutR, e, if_neg (by decide), if_neg (by rw [h]; decide), cutGo, cutGo, cutGo]
    simp only [show (4 : Int).toNat = 4 from rfl]
    rw [List.take_of_length_le (l := p.drop 4) (by rw [hp2]; decide)]
  have hnum : num_numbers.f [4, 4] = some (8, 0) := by decide
  unfold num_Take.f
  rw [hnum, Option.bind_some, if_pos rfl, hcut, Option.bind_some, if_pos rfl]
  generalize p.take 4 = u at *
  generalize p.drop 4 = v at *
  obtain ⟨a, b, c, d, rfl, ha, hb', hc, hd⟩ := four hp1 hb1
  obtain ⟨a', b', c', d', rfl, ha', hb'', hc', hd'⟩ := four hp2 hb2
  have s := fun k x j hj x0 x1 => take_l1_step k [] [a, b, c, d] x [[a, b, c, d], [a', b', c', d']] 2 0 j hj rfl hb1 x0 x1
  have s0 := s 58 0 0 (by decide) (by decide) (by decide)
  have s1 := s 57 (d + 256 * 0) 1 (by decide) (by omega) (by omega)
  have s2 := s 56 (c + 256 * (d + 256 * 0)) 2 (by decide) (by omega) (by omega)
  have s3 := s 55 (b + 256 * (c + 256 * (d + 256 * 0))) 3 (by decide) (by omega) (by omega)
  rw [show rd [a, b, c, d] ((3 - 0 : Nat) : Int) = d from rfl] at s0
  rw [show rd [a, b, c, d] ((3 - 1 : Nat) : Int) = c from rfl] at s1
  rw [show rd [a, b, c, d] ((3 - 2 : Nat) : Int) = b from rfl] at s2
  rw [show rd [a, b, c, d] ((3 - 3 : Nat) : Int) = a from rfl] at s3
  have t0 : num_Take.l0 60 [] [[a, b, c, d], [a', b', c', d']] (([[a, b, c, d], [a', b', c', d']] : List (List Int)).length : Int) 0 = num_Take.l1 59 [] [a, b, c, d] 0 [[a, b, c, d], [a', b', c', d']] 2 0 4 ((0 : Nat) : Int) := by
    rw [num_Take.l0, if_pos (by simp), if_pos (by simp), if_pos (by simp)]
    rfl
  have s' := fun k acc x j hj x0 x1 => take_l1_step k acc [a', b', c', d'] x [[a, b, c, d], [a', b', c', d']] 2 1 j hj rfl hb2 x0 x1
  have w1 : wrap64 (0 + 1) = 1 := by unfold wrap64; omega
  have w2 : wrap64 (1 + 1) = 2 := by unfold wrap64; omega
  have t1 : num_Take.l0 54 [a + 256 * (b + 256 * (c + 256 * (d + 256 * 0)))] [[a, b, c, d], [a', b', c', d']] (([[a, b, c, d], [a', b', c', d']] : List (List Int)).length : Int) 1 = num_Take.l1 53 [a + 256 * (b + 256 * (c + 256 * (d + 256 * 0)))] [a', b', c', d'] 0 [[a, b, c, d], [a', b', c', d']] 2 1 4 ((0 : Nat) : Int) := by
    rw [num_Take.l0, if_pos (by simp), if_pos (by simp), if_pos (by simp)]
    rfl
  rw [t0, s0, s1, s2, s3, num_Take.l1, if_neg (by decide), if_pos (by decide), w1, List.nil_append]
  refine Eq.trans t1 ?_
  have u0 := s' 52 [a + 256 * (b + 256 * (c + 256 * (d + 256 * 0)))] 0 0 (by decide) (by decide) (by decide)
  have u1 := s' 51 [a + 256 * (b + 256 * (c + 256 * (d + 256 * 0)))] (d' + 256 * 0) 1 (by decide) (by omega) (by omega)
  have u2 := s' 50 [a + 256 * (b + 256 * (c + 256 * (d + 256 * 0)))] (c' + 256 * (d' + 256 * 0)) 2 (by decide) (by omega) (by omega)
  have u3 := s' 49 [a + 256 * (b + 256 * (c + 256 * (d + 256 * 0)))] (b' + 256 * (c' + 256 * (d' + 256 * 0))) 3 (by decide) (by omega) (by omega)
  rw [show rd [a', b', c', d'] ((3 - 0 : Nat) : Int) = d' from rfl] at u0
  rw [show rd [a', b', c', d'] ((3 - 1 : Nat) : Int) = c' from rfl] at u1
  rw [show rd [a', b', c', d'] ((3 - 2 : Nat) : Int) = b' from rfl] at u2
  rw [show rd [a', b', c', d'] ((3 - 3 : Nat) : Int) = a' from rfl] at u3
  rw [u0, u1, u2, u3, num_Take.l1, if_neg (by decide), if_pos (by simp), w2, num_Take.l0, if_neg (by simp)]
  rfl

theorem parted_eq {size : Int} {s : List Int} (h1 : 1 ≤ size) (hb : Bytes s) : partR size s = some (if (s.length : Int) = 8 + size then (val (s.take 4), val ((s.drop 4).take 4), s.drop 8, 0) else (0, 0, [], 10)) := by
  unfold partR
  by_cases hl : (s.length : Int) = 8 + size
  · have hp : (s.take 8).length = 8 := by rw [List.length_take]; omega
    rw [if_pos hl, if_pos hl, take44 hp (hb.take 8), Option.bind_some, if_pos (by simp)]
    rw [List.take_of_length_le (l := s.drop 8) (by rw [List.length_drop]; omega)]
    have e1 : (s.take 8).take 4 = s.take 4 := by rw [List.take_take]; rfl
    have e2 : (s.take 8).drop 4 = (s.drop 4).take 4 := by rw [List.drop_take]
    rw [e1, e2]
    rfl
  · rw [if_neg hl, if_neg hl]

theorem val_zero {p : List Int} (h : p.length = 4) (hb : Bytes p) (hv : val p = 0) : p = List.replicate 4 0 := by
  obtain ⟨a, b, c, d, rfl, ha, hb', hc, hd⟩ := four h hb
  simp only [val] at hv
  have : a = 0 ∧ b = 0 ∧ c = 0 ∧ d = 0 := by omega
  obtain ⟨rfl, rfl, rfl, rfl⟩ := this
  rfl
theorem any_pos {d : List Int} (hb : Bytes d) (h : d.any posByte = false) : d = List.replicate d.length 0 := by
  induction d with
  | nil => rfl
  | cons x t ih =>
    rw [List.any_cons, Bool.or_eq_false_iff] at h
    have hx : x = 0 := by
      have := (hb x List.mem_cons_self).1
      have := h.1
      simp only [posByte, decide_eq_false_iff_not] at this
      omega
    rw [List.length_cons, List.replicate_succ, hx, ← ih (fun y hy => hb y (List.mem_cons_of_mem _ hy)) h.2]
theorem three_parts (s : List Int) : s.take 4 ++ ((s.drop 4).take 4 ++ s.drop 8) = s := by
  have e : s.drop 8 = (s.drop 4).drop 4 := by rw [List.drop_drop]
  rw [e, List.take_append_drop, List.take_append_drop]
theorem digits_four {p : List Int} (h : p.length = 4) (hb : Bytes p) (hv : val p < 256) : p = [val p, 0, 0, 0] := by
  obtain ⟨a, b, c, d, rfl, ha, hb', hc, hd⟩ := four h hb
  simp only [val] at hv ⊢
  have : b = 0 ∧ c = 0 ∧ d = 0 := by omega
  obtain ⟨rfl, rfl, rfl⟩ := this
  simp

/-- What slot.Read answers. -/
def readS (a0 a1 a2 a3 : Int) (s : List Int) : Int × Int × List Int × Bool × Int :=
  if levelOk a0 a1 a2 a3 then
    (if (s.length : Int) = 8 + a1 then
      (if s = List.replicate (8 + a1).toNat 0 then (0, 0, [], false, 0)
       else if mayS a0 a1 a2 (val (s.take 4) - 1) (val ((s.drop 4).take 4)) (s.drop 8).length then (val (s.take 4) - 1, val ((s.drop 4).take 4), s.drop 8, true, 0) else (0, 0, [], false, 8))
     else (0, 0, [], false, 10))
  else (0, 0, [], false, 8)

theorem noneR_iff {a1 : Int} {s : List Int} (hb : Bytes s) (hl : (s.length : Int) = 8 + a1) (h1 : 1 ≤ a1) : noneR (val (s.take 4)) (val ((s.drop 4).take 4)) (s.drop 8) = true ↔ s = List.replicate (8 + a1).toNat 0 := by
  have l1 : (s.take 4).length = 4 := by rw [List.length_take]; omega
  have l2 : ((s.drop 4).take 4).length = 4 := by rw [List.length_take, List.length_drop]; omega
  constructor
  · intro h
    simp only [noneR, Bool.and_eq_true, decide_eq_true_eq, Bool.not_eq_true'] at h
    obtain ⟨⟨e1, e2⟩, e3⟩ := h
    have r1 := val_zero l1 (hb.take 4) e1
    have r2 := val_zero l2 ((hb.drop 4).take 4) e2
    have r3 := any_pos (hb.drop 8) e3
    rw [← three_parts s, r1, r2, r3, List.length_drop, List.replicate_append_replicate, List.replicate_append_replicate]
    congr 1
    omega
  · intro h
    rw [h]
    have e1 : (List.replicate (8 + a1).toNat (0 : Int)).take 4 = List.replicate 4 0 := by rw [List.take_replicate]; congr 1; omega
    have e2 : ((List.replicate (8 + a1).toNat (0 : Int)).drop 4).take 4 = List.replicate 4 0 := by rw [List.drop_replicate, List.take_replicate]; congr 1; omega
    rw [e1, e2, List.drop_replicate]
    have e3 : (List.replicate ((8 + a1).toNat - 8) (0 : Int)).any posByte = false := by
      rw [List.any_eq_false]
      intro x hx
      rw [List.eq_of_mem_replicate hx]
      decide
    simp only [noneR, e3]
    decide

theorem readS_eq (a0 a1 a2 a3 : Int) (s : List Int) (hb : Bytes s) : slot_Read.f a0 a1 a2 a3 s = some (readS a0 a1 a2 a3 s) := by
  unfold slot_Read.f readS
  rw [slots_eq20, Option.bind_some]
  unfold slotsS
  by_cases hl : levelOk a0 a1 a2 a3
  · have hl' := hl
    unfold levelOk at hl'
    rw [if_pos hl, if_pos hl]
    simp only [if_true]
    rw [if_pos (by omega), parted_eq (by omega) hb, Option.bind_some]
    by_cases hn : (s.length : Int) = 8 + a1
    · have l1 : (s.take 4).length = 4 := by rw [List.length_take]; omega
      have l2 : ((s.drop 4).take 4).length = 4 := by rw [List.length_take, List.length_drop]; omega
      have v1 := val_four l1 (hb.take 4)
      have v2 := val_four l2 ((hb.drop 4).take 4)
      rw [if_pos hn, if_pos hn]
      simp only [if_true]
      by_cases hz : s = List.replicate (8 + a1).toNat 0
      · rw [if_pos ((noneR_iff hb hn hl'.2.2.2.2.1).2 hz), if_pos hz]
      · rw [if_neg (fun h => hz ((noneR_iff hb hn hl'.2.2.2.2.1).1 h)), if_neg hz]
        have w1 : wrap64 (val (s.take 4)) = val (s.take 4) := by unfold wrap64; omega
        have w2 : wrap64 (val ((s.drop 4).take 4)) = val ((s.drop 4).take 4) := by unfold wrap64; omega
        have w3 : wrap64 (val (s.take 4) - 1) = val (s.take 4) - 1 := by unfold wrap64; omega
        rw [w1, w2, w3, checkS_eq, Option.bind_some]
        by_cases hm : mayS a0 a1 a2 (val (s.take 4) - 1) (val ((s.drop 4).take 4)) (s.drop 8).length
        · rw [if_pos (checkS_zero.2 ⟨hl, hm⟩), if_pos hm]
        · rw [if_neg (fun h => hm (checkS_zero.1 h).2), if_neg hm]
          unfold checkS
          rw [if_neg (fun h => hm h.2)]
    · rw [if_neg hn, if_neg hn]
      rfl
  · rw [if_neg hl, if_neg hl]
    rfl

/-- What is written is read. -/
theorem read_of {a0 a1 a2 a3 id leaf : Int} {d : List Int} (hb : Bytes d) (hl : levelOk a0 a1 a2 a3) (hm : mayS a0 a1 a2 id leaf d.length) :
    Bytes (ofS id leaf d) ∧ readS a0 a1 a2 a3 (ofS id leaf d) = (id, leaf, d, true, 0) := by
  have hl' := hl
  have hm' := hm
  unfold levelOk at hl'
  unfold mayS at hm'
  have hh := high_bounds hl.1
  have e1 : val ((ofS id leaf d).take 4) = id + 1 := by simp [ofS, val]
  have e2 : val (((ofS id leaf d).drop 4).take 4) = leaf := by simp [ofS, val]
  have e3 : (ofS id leaf d).drop 8 = d := by simp [ofS]
  refine ⟨fun x hx => ?_, ?_⟩
  · unfold ofS at hx
    rcases List.mem_append.1 hx with hx | hx
    · simp only [List.mem_cons, List.not_mem_nil, or_false] at hx
      omega
    · exact hb x hx
  · unfold readS
    rw [if_pos hl, if_pos (by simp [ofS]; omega), if_neg (fun h => ?_), e1, e2, e3, if_pos (by rw [show id + 1 - 1 = id by omega]; exact hm), show id + 1 - 1 = id by omega]
    have h0 : (ofS id leaf d)[0]? = some (id + 1) := by simp [ofS]
    rw [h, List.getElem?_replicate] at h0
    split at h0
    · injection h0 with h0; omega
    · cases h0
/-- What is read, written, are these bytes. -/
theorem of_read {a0 a1 a2 a3 : Int} {s : List Int} (hb : Bytes s) (hl : levelOk a0 a1 a2 a3) (hn : (s.length : Int) = 8 + a1) (hm : mayS a0 a1 a2 (val (s.take 4) - 1) (val ((s.drop 4).take 4)) (s.drop 8).length) :
    ofS (val (s.take 4) - 1) (val ((s.drop 4).take 4)) (s.drop 8) = s := by
  have hl' := hl
  have hm' := hm
  unfold levelOk at hl'
  unfold mayS at hm'
  have hh := high_bounds hl.1
  have l1 : (s.take 4).length = 4 := by rw [List.length_take]; omega
  have l2 : ((s.drop 4).take 4).length = 4 := by rw [List.length_take, List.length_drop]; omega
  have r1 := digits_four l1 (hb.take 4) (by omega)
  have r2 := digits_four l2 ((hb.drop 4).take 4) (by omega)
  have r3 := three_parts s
  rw [r1, r2] at r3
  unfold ofS
  rw [show val (s.take 4) - 1 + 1 = val (s.take 4) by omega]
  exact r3
end Go.Proofs.Ytnnknbbgkjgbcaa
