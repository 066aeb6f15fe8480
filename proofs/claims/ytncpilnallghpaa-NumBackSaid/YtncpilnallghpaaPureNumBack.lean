/-
What is put is taken; what is taken, put again, is these bytes: any numbers, bytes and sizes (law NumBack answers true).
Conditions: none beside the law's own.
-/
import Derived.Test.YtncpilnallghpaaPAll36
import Derived.Test.YtncpilnallghpaaNumTake
namespace Go.Proofs.Ytncpilnallghpaa.Pure
open Go.RowKit Go.Proofs.Ytncpilnallghpaa Go.Proofs.Ytncpilnallghpaa.PAll Go.Proofs.YtncpilnallghpaaW.PrintWords Go.Proofs.YtncpilnallghpaaW.PrintLast

def sumN : List Int → Nat
  | [] => 0
  | n :: t => n.toNat + sumN t

theorem numSum_sumN : ∀ (l : List Int) (s : Int), l.any oddSize = false → 0 ≤ s → s + 8 * l.length ≤ 65536 → numSum s l = some (s + (sumN l : Int)) := by
  intro l
  induction l with
  | nil => intro s _ _ _; simp [numSum, sumN]
  | cons n l ih =>
    intro s ha h0 h1
    rw [List.any_cons, Bool.or_eq_false_iff] at ha
    have hn : 1 ≤ n ∧ n ≤ 8 := by
      have := ha.1
      simp only [oddSize, Bool.or_eq_false_iff, decide_eq_false_iff_not] at this
      omega
    rw [List.length_cons] at h1
    rw [numSum, if_neg (by omega), ih (s + n) ha.2 (by omega) (by omega), sumN]
    congr 1
    omega

theorem total_sumN {l : List Int} (h : okSizes l = true) : total l = (sumN l : Int) := by
  unfold okSizes at h
  rw [Bool.and_eq_true, decide_eq_true_eq, Bool.not_eq_true'] at h
  unfold total
  rw [if_neg (by omega), numSum_sumN l 0 h.1 (by omega) (by omega)]
  simp

theorem digs_bytes : ∀ (s : Nat) (n : Int), Bytes (digs s n)
  | 0, _ => fun x hx => by simp [digs] at hx
  | s + 1, n => fun x hx => by
    rw [digs, List.mem_cons] at hx
    rcases hx with rfl | hx
    · omega
    · exact digs_bytes s _ x hx
theorem val_digs : ∀ (s : Nat) (n : Int), left s n = 0 → val (digs s n) = n
  | 0, n, h => by rw [digs, val]; exact h.symm
  | s + 1, n, h => by
    rw [digs, val, val_digs s _ h]
    omega
theorem digs_val : ∀ (p : List Int), Bytes p → digs p.length (val p) = p ∧ left p.length (val p) = 0
  | [], _ => ⟨rfl, rfl⟩
  | b :: t, h => by
    have ih := digs_val t (fun x hx => h x (List.mem_cons_of_mem _ hx))
    have hb := h b List.mem_cons_self
    have e1 : (b + 256 * val t) % 256 = b := by omega
    have e2 : (b + 256 * val t) / 256 = val t := by omega
    rw [val, List.length_cons, digs, left, e1, e2, ih.1]
    exact ⟨rfl, ih.2⟩

theorem bytes_append {a b : List Int} (ha : Bytes a) (hb : Bytes b) : Bytes (a ++ b) := fun x hx => (List.mem_append.1 hx).elim (ha x) (hb x)

theorem putGo_spec : ∀ (l sizes acc : List Int), l.length = sizes.length →
    putGo l sizes acc = ([], 4) ∨ ∃ D, putGo l sizes acc = (acc ++ D, 0) ∧ D.length = sumN sizes ∧ (cutGo sizes D).map val = l ∧ Bytes D
  | [], [], acc, _ => .inr ⟨[], by rw [putGo, List.append_nil], rfl, rfl, fun x hx => by simp at hx⟩
  | n :: l, s :: sizes, acc, h => by
    rw [putGo, List.headD_cons, List.tail_cons]
    by_cases hz : left s.toNat n = 0
    · rw [if_pos hz]
      rcases putGo_spec l sizes (acc ++ digs s.toNat n) (by simpa using h) with e | ⟨D, e, hl, hc, hb⟩
      · exact .inl e
      · refine .inr ⟨digs s.toNat n ++ D, by rw [e, List.append_assoc], by rw [List.length_append, digs_length, hl, sumN], ?_, bytes_append (digs_bytes _ _) hb⟩
        have ht : (digs s.toNat n ++ D).take s.toNat = digs s.toNat n := by rw [List.take_append_of_le_length (by rw [digs_length]; omega), List.take_of_length_le (by rw [digs_length]; omega)]
        have hd : (digs s.toNat n ++ D).drop s.toNat = D := by rw [List.drop_append_of_le_length (by rw [digs_length]; omega), List.drop_of_length_le (by rw [digs_length]; omega), List.nil_append]
        rw [cutGo, ht, hd, List.map_cons, hc, val_digs _ _ hz]
    · rw [if_neg hz]; exact .inl rfl

theorem back1 (l sizes : List Int) : (putR l sizes).2 = 0 ∧ takeR (putR l sizes).1 sizes = (l, 0) ∧ Bytes (putR l sizes).1 ∨ (putR l sizes).2 ≠ 0 ∧ (putR l sizes).1 = [] := by
  unfold putR
  by_cases ho : okSizes sizes = true
  · by_cases he : l.length = sizes.length
    · rw [ho, decide_eq_true he, Bool.and_true, if_pos rfl]
      rcases putGo_spec l sizes [] he with e | ⟨D, e, hl, hc, hb⟩
      · rw [e]; exact .inr ⟨by simp, rfl⟩
      · rw [e, List.nil_append]
        refine .inl ⟨rfl, ?_, hb⟩
        unfold takeR
        rw [if_pos ho, if_pos (by rw [total_sumN ho, hl]), hc]
    · rw [decide_eq_false he, Bool.and_false]; exact .inr ⟨by simp, rfl⟩
  · rw [Bool.eq_false_iff.mpr ho, Bool.false_and]; exact .inr ⟨by simp, rfl⟩

theorem putGo_cut : ∀ (sizes b acc : List Int), Bytes b → sumN sizes = b.length → putGo ((cutGo sizes b).map val) sizes acc = (acc ++ b, 0)
  | [], b, acc, _, h => by
    have : b = [] := List.eq_nil_of_length_eq_zero (by rw [← h]; rfl)
    rw [this, cutGo, List.map_nil, putGo, List.append_nil]
  | n :: t, b, acc, hb, h => by
    rw [sumN] at h
    have hl : (b.take n.toNat).length = n.toNat := by rw [List.length_take]; omega
    have hv := digs_val (b.take n.toNat) (hb.take _)
    rw [hl] at hv
    rw [cutGo, List.map_cons, putGo, List.headD_cons, List.tail_cons, if_pos hv.2, hv.1, putGo_cut t _ _ (hb.drop _) (by rw [List.length_drop]; omega), List.append_assoc, List.take_append_drop]

theorem back2 (b sizes : List Int) (hb : Bytes b) : (takeR b sizes).2 = 0 ∧ putR (takeR b sizes).1 sizes = (b, 0) ∨ (takeR b sizes).2 ≠ 0 ∧ (takeR b sizes).1 = [] := by
  unfold takeR
  by_cases ho : okSizes sizes = true
  · rw [if_pos ho]
    by_cases h2 : total sizes = (b.length : Int)
    · rw [if_pos h2]
      refine .inl ⟨rfl, ?_⟩
      unfold putR
      have hs : sumN sizes = b.length := by rw [total_sumN ho] at h2; omega
      rw [ho, decide_eq_true (by rw [List.length_map, cutGo_length]), Bool.and_true, if_pos rfl, putGo_cut _ _ _ hb hs, List.nil_append]
    · rw [if_neg h2]; exact .inr ⟨by simp, rfl⟩
  · rw [if_neg ho]; exact .inr ⟨by simp, rfl⟩

theorem takeR_good (b sizes : List Int) (hb : Bytes b) : (takeR b sizes).1.length ≤ 1000 ∧ ∀ x ∈ (takeR b sizes).1, (Lit.int .u64 x).wf = true := by
  unfold takeR
  by_cases ho : okSizes sizes = true
  · rw [if_pos ho]
    by_cases h2 : total sizes = (b.length : Int)
    · rw [if_pos h2]
      unfold okSizes at ho
      rw [Bool.and_eq_true, decide_eq_true_eq, Bool.not_eq_true'] at ho
      refine ⟨by rw [List.length_map, cutGo_length]; omega, fun x hx => ?_⟩
      obtain ⟨p, hp, rfl⟩ := List.mem_map.1 hx
      have := val_lt64 (cutGo_bytes _ _ hb p hp) (cutGo_small _ _ ho.1 p hp)
      rw [Lit.wf, Bool.and_eq_true, decide_eq_true_eq, decide_eq_true_eq]
      exact ⟨this.1, by show val p ≤ 18446744073709551615; omega⟩
    · rw [if_neg h2]; exact ⟨by simp, fun x hx => by simp at hx⟩
  · rw [if_neg ho]; exact ⟨by simp, fun x hx => by simp at hx⟩

theorem j1_true (b sizes : List Int) (hb : Bytes b) (hs : sizes.length ≤ 1000) (hi : ∀ x ∈ sizes, (Lit.int .i64 x).wf = true) : law01_NumBack.j1 2401 b sizes true false = some true := by
  have e1 := take_eq b sizes hb (k := 2400) (by omega)
  have hg := takeR_good b sizes hb
  have e2 := put_eq (takeR b sizes).1 sizes hg.1 hs hg.2 hi (k := 2400) (by omega)
  simp only [law01_NumBack.j1, e1, e2, Option.bind_some, Bool.false_eq_true, if_false, if_true]
  rcases back2 b sizes hb with ⟨h1, h2⟩ | ⟨h1, h2⟩
  · rw [if_pos h1, h2, if_pos rfl, same_self]; rfl
  · rw [if_neg h1, h2]; rfl

theorem NumBack : law01_NumBack.Pure := by
  intro l b sizes _ _ hv _ _ hb0 _ _ hi
  have hb := bytes_of_wf hb0
  refine ⟨2402, ?_⟩
  unfold law01_NumBack.f
  rw [alive_all (by omega), Option.bind_some]
  by_cases hl : (l.length : Int) > 100
  · rw [if_pos hl]; rfl
  rw [if_neg hl]
  by_cases hl2 : (b.length : Int) > 5000
  · rw [if_pos hl2]; rfl
  rw [if_neg hl2]
  by_cases hs : (sizes.length : Int) > 100
  · rw [if_pos hs]; rfl
  rw [if_neg hs]
  have e1 := put_eq l sizes (by omega) (by omega) hv hi (k := 2401) (by omega)
  have j1 := j1_true b sizes hb (by omega) hi
  simp only [law01_NumBack.j0, e1, Option.bind_some, Bool.not_true, Bool.false_eq_true, if_false]
  rcases back1 l sizes with ⟨h1, h2, h3⟩ | ⟨h1, h2⟩
  · rw [take_eq _ sizes h3 (k := 2401) (by omega), h2, Option.bind_some, if_pos h1, if_pos rfl, sameNumbers_self l (by omega) (by omega), Option.bind_some, if_pos rfl]
    exact j1
  · rw [h2, take_eq [] sizes (fun x hx => by simp at hx) (k := 2401) (by omega), Option.bind_some, if_neg h1]
    exact j1

end Go.Proofs.Ytncpilnallghpaa.Pure
