/-
The document's answers on positions at places of blocks, in the words of EntryRead.
-/
import Derived.Test.YtnnknbbgkjgbcaaEntryRead
import Derived.Test.YtnnknbbgkjgbcaaPAll21
import Derived.Test.YtnnknbbgkjgbcaaPAll22
namespace Go.Proofs.Ytnnknbbgkjgbcaa
open Go.RowKit Go.Proofs.YtnnknbbgkjgbcaaW.PrintWords Go.Proofs.YtnnknbbgkjgbcaaW.PrintLast Go.Proofs.YtnnknbbgkjgbcaaW.PrintMore Go.Proofs.Ytnnknbbgkjgbcaa.PAll
set_option linter.unusedVariables false
set_option linter.unusedSimpArgs false

theorem asked_eq (high : Int) (b : List Int) (place : Int) (hm : b.length ≤ 1000) : ref19_asked.f high b place = some (atOk high b.length place) := by
  unfold ref19_asked.f atOk outR
  rw [may_eq, Option.bind_some]
  cases hh : isHigh high with
  | false => rfl
  | true =>
    have w : wrap64 ((b.length : Int) / 4) = (b.length : Int) / 4 := by unfold wrap64; omega
    rw [if_pos rfl, w]
    by_cases h1 : (b.length : Int) ≥ 8
    · rw [if_pos h1]
      by_cases h2 : (b.length : Int) ≤ 32
      · rw [if_pos h2]
        by_cases h3 : (b.length : Int) % 4 = 0
        · rw [if_pos h3]
          by_cases h4 : place ≥ 0
          · rw [if_pos h4]
            by_cases h5 : place < (b.length : Int) / 4
            · rw [decide_eq_true h5, decide_eq_false (by omega), decide_eq_false (by omega), decide_eq_true (by omega), decide_eq_false (by omega), decide_eq_false (by omega)]; rfl
            · rw [decide_eq_false h5, decide_eq_false (by omega), decide_eq_false (by omega), decide_eq_true (by omega), decide_eq_false (by omega), decide_eq_true (by omega)]; rfl
          · rw [if_neg h4, decide_eq_true (show place < 0 by omega)]; simp
        · rw [if_neg h3, decide_eq_false (show ¬ b.length % 4 = 0 by omega)]; simp
      · rw [if_neg h2, decide_eq_true (show (32 : Int) < (b.length : Int) by omega)]; simp
    · rw [if_neg h1, decide_eq_true (show (b.length : Int) < 8 by omega)]; simp

theorem set_four (p : Int) : ∀ (X : List Int) (a b c d : Int) (R : List Int),
    ((((X ++ a :: b :: c :: d :: R).set X.length p).set (X.length + 1) 0).set (X.length + 2) 0).set (X.length + 3) 0 = X ++ [p, 0, 0, 0] ++ R
  | [], _, _, _, _, _ => rfl
  | x :: X, a, b, c, d, R => by
    have := set_four p X a b c d R
    simp only [List.cons_append, List.length_cons, List.set_cons_succ, this]
theorem sets_putL {b : List Int} {m : Nat} (p : Int) (h : m + 4 ≤ b.length) : (((b.set m p).set (m + 1) 0).set (m + 2) 0).set (m + 3) 0 = putL b m p := by
  have e : b = b.take m ++ b.drop m := (List.take_append_drop m b).symm
  have hl : (b.take m).length = m := by rw [List.length_take]; omega
  have hd : b.drop m = b[m] :: b[m + 1] :: b[m + 2] :: b[m + 3] :: b.drop (m + 4) := by
    rw [List.drop_eq_getElem_cons (by omega : m < b.length), List.drop_eq_getElem_cons (by omega : m + 1 < b.length), List.drop_eq_getElem_cons (by omega : m + 1 + 1 < b.length), List.drop_eq_getElem_cons (by omega : m + 1 + 1 + 1 < b.length)]
  have := set_four p (b.take m) b[m] b[m + 1] b[m + 2] b[m + 3] (b.drop (m + 4))
  rw [hl, ← hd, ← e] at this
  exact this

theorem ref_put_l0 (k : Nat) (place p : Int) (b : List Int) (i : Nat) (hi : i < 4) (h0 : 0 ≤ place) (hp : 4 * place + 4 ≤ b.length) (hm : b.length ≤ 1000) :
    ref19_Put.l0 (k + 1) place b [p, 0, 0, 0] i = ref19_Put.l0 k place (b.set ((4 * place).toNat + i) (rd [p, 0, 0, 0] i)) [p, 0, 0, 0] ((i + 1 : Nat) : Int) := by
  have w1 : wrap64 (4 * place) = 4 * place := by unfold wrap64; omega
  have w2 : wrap64 (4 * place + (i : Int)) = 4 * place + i := by unfold wrap64; omega
  have e : (4 * place + (i : Int)).toNat = (4 * place).toNat + i := by omega
  rw [ref19_Put.l0, if_pos (by omega), if_pos (by omega), if_pos (by simp only [List.length_cons, List.length_nil]; omega), w1, w2, if_pos (by omega), if_pos (by omega), e, wrap_succ i (by omega)]

theorem may_check {high : Int} (hh : isHigh high = true) (pos : Int) {k : Nat} (hk : 20 ≤ k) : ref19_May.f k high pos = some (decide (checkR high pos = 0)) := by
  have hm : ref07_Many.f k high = _ := at_rounds (g := fun k => ref07_Many.f k high) (ref07_Many.mono high) hk (many_eq hh)
  unfold ref19_May.f checkR
  rw [hh]
  simp only [if_true]
  by_cases h0 : pos ≥ 0
  · rw [if_pos h0, hm, Option.bind_some]
    by_cases h1 : pos ≤ two high
    · rw [decide_eq_true h1, if_pos ⟨h0, h1⟩]; rfl
    · rw [decide_eq_false h1, if_neg (fun h => h1 h.2)]; rfl
  · rw [if_neg h0, if_neg (fun h => h0 h.1)]; rfl

theorem ref_put_eq (high : Int) (b : List Int) (place pos : Int) (hm : b.length ≤ 1000) : ref19_Put.f 70 high b place pos = some (putPR high b place pos) := by
  unfold ref19_Put.f putPR
  rw [asked_eq high b place hm, Option.bind_some]
  cases hok : atOk high b.length place with
  | false => rfl
  | true =>
    obtain ⟨hh, _, _, _, hp0, hp1⟩ := atOk_facts hok
    rw [if_pos rfl, if_pos rfl, may_check hh pos (by decide), Option.bind_some]
    by_cases h : checkR high pos = 0
    · rw [decide_eq_true h, if_pos rfl, if_pos h, Option.bind_some, if_pos (by simp; omega), List.nil_append]
      obtain ⟨p, rfl⟩ := check_small h
      have e1 : IntKind.u64.wrap (p.val : Int) = (p.val : Int) := by
        rw [show ∀ z, IntKind.u64.wrap z = z % 18446744073709551616 from fun _ => rfl]
        have := p.isLt
        omega
      have hp : ref01_Digits.f 70 (p.val : Int) 4 = _ := at_rounds (g := fun k => ref01_Digits.f k (p.val : Int) 4) (ref01_Digits.mono _ _) (by decide : 60 ≤ 70) (digits4 p)
      have hb : ref19_Bytes.f 70 (p.val : Int) = some [(p.val : Int), 0, 0, 0] := by unfold ref19_Bytes.f; rw [e1, hp]; rfl
      rw [hb, Option.bind_some]
      generalize (p.val : Int) = q
      have s := fun k c i hi (hc : c.length = b.length) => ref_put_l0 k place q c i hi hp0 (by rw [hc]; omega) (by omega)
      have s0 := s 69 b 0 (by decide) rfl
      have s1 := s 68 (b.set (4 * place).toNat q) 1 (by decide) (by simp)
      have s2 := s 67 ((b.set (4 * place).toNat q).set ((4 * place).toNat + 1) 0) 2 (by decide) (by simp)
      have s3 := s 66 (((b.set (4 * place).toNat q).set ((4 * place).toNat + 1) 0).set ((4 * place).toNat + 2) 0) 3 (by decide) (by simp)
      have r0 : rd [q, 0, 0, 0] ((0 : Nat) : Int) = q := rfl
      have r1 : rd [q, 0, 0, 0] ((1 : Nat) : Int) = 0 := rfl
      have r2 : rd [q, 0, 0, 0] ((2 : Nat) : Int) = 0 := rfl
      have r3 : rd [q, 0, 0, 0] ((3 : Nat) : Int) = 0 := rfl
      rw [r0] at s0
      rw [r1] at s1
      rw [r2] at s2
      rw [r3] at s3
      refine s0.trans (s1.trans (s2.trans (s3.trans ?_)))
      rw [← sets_putL q (by omega), ref19_Put.l0, if_neg (by decide)]
    · rw [decide_eq_false h, if_neg (by decide), if_neg h]
      have : checkR high pos = 8 := by
        unfold checkR at h ⊢
        rw [hh] at h ⊢
        simp only [if_true] at h ⊢
        by_cases hc : 0 ≤ pos ∧ pos ≤ two high
        · rw [if_pos hc] at h; exact absurd rfl h
        · rw [if_neg hc]
      rw [this]

theorem number4 {p : List Int} (h : p.length = 4) (hb : Bytes p) : ref01_Number.f 70 p = some (val p) := by
  obtain ⟨a, b, c, d, rfl, ha, hb', hc, hd⟩ := four h hb
  have s : ∀ (k : Nat) (x : Int) (i : Nat), i < 4 → 0 ≤ x → x < 4294967296 → ref01_Number.l0 (k + 1) [a, b, c, d] x i = ref01_Number.l0 k [a, b, c, d] (256 * x + rd [a, b, c, d] i) ((i : Int) - 1) := by
    intro k x i hi x0 x1
    have hbb := hb ([a, b, c, d][i]'hi) (List.getElem_mem _)
    have hr := rd_nat [a, b, c, d] i hi
    have hw : wrap64 ((i : Int) - 1) = (i : Int) - 1 := by unfold wrap64; omega
    have e1 : IntKind.u64.wrap (IntKind.u64.wrap (256 * x) + IntKind.u64.wrap (rd [a, b, c, d] i)) = 256 * x + rd [a, b, c, d] i := by
      rw [hr]
      simp only [u64_wrap']
      omega
    rw [ref01_Number.l0, if_pos (by omega), if_pos (by omega), if_pos (by simp only [List.length_cons, List.length_nil]; omega), e1, hw]
  have w : wrap64 ((([a, b, c, d] : List Int).length : Int) - 1) = 3 := by simp only [List.length_cons, List.length_nil]; unfold wrap64; omega
  have r3 : rd [a, b, c, d] ((3 : Nat) : Int) = d := rfl
  have r2 : rd [a, b, c, d] ((2 : Nat) : Int) = c := rfl
  have r1 : rd [a, b, c, d] ((1 : Nat) : Int) = b := rfl
  have r0 : rd [a, b, c, d] ((0 : Nat) : Int) = a := rfl
  have s0 := s 69 0 3 (by decide) (by decide) (by decide)
  rw [r3] at s0
  have s1 := s 68 (256 * 0 + d) 2 (by decide) (by omega) (by omega)
  rw [r2] at s1
  have s2 := s 67 (256 * (256 * 0 + d) + c) 1 (by decide) (by omega) (by omega)
  rw [r1] at s2
  have s3 := s 66 (256 * (256 * (256 * 0 + d) + c) + b) 0 (by decide) (by omega) (by omega)
  rw [r0] at s3
  unfold ref01_Number.f
  rw [w]
  refine s0.trans (s1.trans (s2.trans (s3.trans ?_)))
  rw [ref01_Number.l0, if_neg (by decide)]
  simp only [val, Option.some.injEq]
  omega

theorem ref_read_eq (high : Int) (b : List Int) (place : Int) (hb : Bytes b) (hm : b.length ≤ 1000) : ref19_Read.f 70 high b place = some (readR high b place) := by
  unfold ref19_Read.f readR
  rw [asked_eq high b place hm, Option.bind_some]
  cases hok : atOk high b.length place with
  | false => rfl
  | true =>
    obtain ⟨hh, _, _, _, hp0, hp1⟩ := atOk_facts hok
    have w1 : wrap64 (4 * place) = 4 * place := by unfold wrap64; omega
    have w2 : wrap64 (4 * place + 4) = 4 * place + 4 := by unfold wrap64; omega
    have e : (4 * place + 4).toNat = (4 * place).toNat + 4 := by omega
    have hl : ((b.take ((4 * place).toNat + 4)).drop (4 * place).toNat).length = 4 := cut_len (by omega)
    have hbb : Bytes ((b.take ((4 * place).toNat + 4)).drop (4 * place).toNat) := (hb.take _).drop _
    have hv := val_four hl hbb
    have ht := high_bounds hh
    have hmm : ref07_Many.f 70 high = _ := at_rounds (g := fun k => ref07_Many.f k high) (ref07_Many.mono high) (by decide : 20 ≤ 70) (many_eq hh)
    rw [if_pos rfl, w1, w2, if_pos (by omega), if_pos (by omega), if_pos (by omega), e, number4 hl hbb, Option.bind_some, hmm, Option.bind_some, if_pos rfl]
    generalize val ((b.take ((4 * place).toNat + 4)).drop (4 * place).toNat) = v at hv
    have w : wrap64 v = v := by unfold wrap64; omega
    have w3 : IntKind.u64.wrap (two high) = two high := by rw [u64_wrap']; omega
    rw [w, w3]
    by_cases h2 : v ≤ two high
    · rw [if_neg (by omega), if_pos h2]
    · rw [if_pos (by omega), if_neg h2]

end Go.Proofs.Ytnnknbbgkjgbcaa
