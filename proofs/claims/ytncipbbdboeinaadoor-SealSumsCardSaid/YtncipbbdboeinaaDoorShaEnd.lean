/-
sha.Begin, sha.Check, sha.More.
-/
import Derived.Test.YtncipbbdboeinaaDoorShaCome
namespace Go.Proofs.YtncipbbdboeinaaDoor
open Go.RowKit Go.Proofs.YtncipbbdboeinaaDoorW.PrintWords Go.Proofs.YtncipbbdboeinaaDoorW.PrintLast Go.Proofs.YtncipbbdboeinaaDoorW.PrintMore Go.Proofs.YtncipbbdboeinaaDoor.PAll
set_option linter.unusedVariables false
set_option linter.unusedSimpArgs false

def H0 : List Int := [1779033703, 3144134277, 1013904242, 2773480762, 1359893119, 2600822924, 528734635, 1541459225]
set_option maxHeartbeats 1000000 in
theorem begin_calls (w : World) : Calls Tryd.prog 18 #[] w fun e w' => e = .returned (.agg (sumC H0 none 0 0 0)) ∧ Below w.heap.size w w' := by
  go_enter Tryd.func18, Tryd.ntmps18
  go_wp2
  have hg := heap_alloc_new w (.cells (sumC H0 none 0 0 0) 55)
  refine bodyPost_ret (results_single rfl (.cell w.heap.size _ _ (0, 0) _ rfl hg Tryd.underlying55 rfl rfl .nil)) rfl ?_
  exact ⟨rfl, below_alloc (Below.refl _ _) _⟩

/-- What sha.Check answers: n the rest's length, m how many came. -/
def checkA (n : Nat) (m : Int) : Int := if m ≥ 72057594037927936 then 8 else if (n : Int) ≠ m % 64 then 8 else 0
set_option maxHeartbeats 1000000 in
theorem check_calls (hs : List Int) (R : Option Addr) (n c : Nat) (m : Int) (hh : hs.length = 8) (hn : n ≤ 9223372036854775807) (hm : 0 ≤ m) (w : World) :
    Calls Tryd.prog 29 #[.agg (sumC hs R n c m)] w fun e w' => e = .returned (.int .i64 (checkA n m)) ∧ Below w.heap.size w w' := by
  obtain ⟨h0, h1, h2, h3, h4, h5, h6, h7, rfl⟩ := eight hh
  have hg := heap_alloc_new w (.cells (sumC [h0, h1, h2, h3, h4, h5, h6, h7] R n c m) 55)
  have hc8 : (w.alloc (.cells (sumC [h0, h1, h2, h3, h4, h5, h6, h7] R n c m) 55)).cell? ⟨w.heap.size, 8, none⟩ = some (.slice R n c) := blk_cell hg 8
  have hc9 : (w.alloc (.cells (sumC [h0, h1, h2, h3, h4, h5, h6, h7] R n c m) 55)).cell? ⟨w.heap.size, 9, none⟩ = some (.int .u64 m) := blk_cell hg 9
  clear hg
  by_cases c1 : m ≥ 72057594037927936
  · have d1 : decide (72057594037927936 ≤ m) = true := decide_eq_true c1
    have HE : Aside0 (checkA n m = 8) := ⟨by unfold checkA; rw [if_pos c1]⟩
    clear c1
    go_enter Tryd.func29, Tryd.ntmps29
    go_wp2
    go_ret
    exact ⟨by rw [HE.out]; rfl, below_alloc (Below.refl _ _) _⟩
  · have d1 : decide (72057594037927936 ≤ m) = false := decide_eq_false c1
    have hw : IntKind.u64.wrap (n : Int) = (n : Int) := by
      rw [show ∀ z, IntKind.u64.wrap z = z % 18446744073709551616 from fun _ => rfl]
      omega
    have hmod : Int.tmod m 64 = m % 64 := Int.tmod_eq_emod_of_nonneg hm
    have hmw : IntKind.u64.wrap (m % 64) = m % 64 := by
      rw [show ∀ z, IntKind.u64.wrap z = z % 18446744073709551616 from fun _ => rfl]
      omega
    by_cases c2 : (n : Int) = m % 64
    · have d2 : ((n : Int) != m % 64) = false := by simpa using c2
      have HE : Aside0 (checkA n m = 0) := ⟨by unfold checkA; rw [if_neg c1, if_neg (by simpa using c2)]⟩
      clear c1 c2
      go_enter Tryd.func29, Tryd.ntmps29
      go_wp2
      go_ret
      exact ⟨by rw [HE.out]; rfl, below_alloc (Below.refl _ _) _⟩
    · have d2 : ((n : Int) != m % 64) = true := by simpa using c2
      have HE : Aside0 (checkA n m = 8) := ⟨by unfold checkA; rw [if_neg c1, if_pos c2]⟩
      clear c1 c2
      go_enter Tryd.func29, Tryd.ntmps29
      go_wp2
      go_ret
      exact ⟨by rw [HE.out]; rfl, below_alloc (Below.refl _ _) _⟩

theorem eatA_length : ∀ (n : Nat) {hs : List Int} (r : List Int), hs.length = 8 → (eatA n hs r).1.length = 8
  | 0, hs, r, h => h
  | n + 1, hs, r, h => by
    rw [eatA]
    split
    · exact h
    · exact eatA_length n _ (turnA_length h _)
theorem comeA_length {hs : List Int} (h : hs.length = 8) (r : List Int) : (comeA hs r).1.length = 8 := eatA_length _ _ h
theorem sum_size {hs : List Int} (R : Option Addr) (n c : Nat) (m : Int) (h : hs.length = 8) : (sumC hs R n c m).size = 10 := by simp [h]
theorem check_cs (cs : Array Value) (hs : List Int) (R : Option Addr) (n c : Nat) (m : Int) (hcs : cs = sumC hs R n c m) (hh : hs.length = 8) (hn : n ≤ 9223372036854775807) (hm : 0 ≤ m) (w : World) :
    Calls Tryd.prog 29 #[.agg cs] w fun e w' => e = .returned (.int .i64 (checkA n m)) ∧ Below w.heap.size w w' := by
  subst hcs
  exact check_calls hs R n c m hh hn hm w
theorem come_cs (cs : Array Value) (hs : List Int) (R : Option Addr) (rc : Nat) (l1 : List Int) (m : Int) (A : Option Addr) (c : Nat) (l2 : List Int) (hcs : cs = sumC hs R l1.length rc m) (hh : hs.length = 8) (w : World) (h1 : Kd.C (Kd.int .u8) w R l1.length l1) (hc1 : l1.length ≤ rc) (h2 : Kd.C (Kd.int .u8) w A l2.length l2) (hc2 : l2.length ≤ c) (hm : l1.length + l2.length ≤ 1000000) (hk : Ktab w) :
    Calls Tryd.prog 19 #[.agg cs, .slice A l2.length c] w fun e w' => ∃ R' c', e = .returned (.agg (sumC (comeA hs (l1 ++ l2)).1 R' (comeA hs (l1 ++ l2)).2.length c' ((m + l2.length) % 18446744073709551616))) ∧ (comeA hs (l1 ++ l2)).2.length ≤ c' ∧ Kd.R (Kd.int .u8) 5 w' w.heap.size (fun _ => True) (.slice R' (comeA hs (l1 ++ l2)).2.length c') (comeA hs (l1 ++ l2)).2 ∧ Below w.heap.size w w' := by
  subst hcs
  exact come_calls hs R rc l1 m A c l2 hh w h1 hc1 h2 hc2 hm hk
theorem pair_below (w : World) (a b : Obj) : Below w.heap.size w ((w.alloc a).alloc b) := below_alloc (below_alloc (Below.refl _ _) _) _
abbrev zeroSum : Array Value := sumC (List.replicate 8 0) none 0 0 0
end Go.Proofs.YtncipbbdboeinaaDoor

namespace Go.Proofs.YtncipbbdboeinaaDoor
open Go.RowKit Go.Proofs.YtncipbbdboeinaaDoorW.PrintWords Go.Proofs.YtncipbbdboeinaaDoorW.PrintLast Go.Proofs.YtncipbbdboeinaaDoorW.PrintMore Go.Proofs.YtncipbbdboeinaaDoor.PAll
set_option linter.unusedVariables false
set_option linter.unusedSimpArgs false

/-- How many noughts stand between the mark and the count. -/
def padZ (n : Nat) : Nat := (119 - n % 64) % 64
def lenA (m : Int) : List Int := (List.range 8).map fun i => (m * 8 % 18446744073709551616) / 2 ^ (56 - 8 * i) % 256
def tailA (n : Nat) (m : Int) : List Int := (128 :: List.replicate (padZ n) 0) ++ lenA m
def digestA (hs : List Int) : List Int := (List.range 32).map fun i => hs.getD (i / 4) 0 / 2 ^ (24 - i % 4 * 8) % 256
def endA (hs r : List Int) (m : Int) : List Int := digestA (comeA hs (r ++ tailA r.length m)).1
theorem lenA_length (m : Int) : (lenA m).length = 8 := by simp [lenA]
theorem digestA_length (hs : List Int) : (digestA hs).length = 32 := by simp [digestA]
def lenOf : Value → Nat
  | .slice _ n _ => n
  | _ => 0
/-- The digest's cells while its first k bytes are put. -/
def fillD (L : List Int) (k : Nat) : Array Value := ⟨(L.take k ++ List.replicate (32 - k) 0).map (Value.int .u8)⟩
theorem fillD_set {L : List Int} {k : Nat} (hl : L.length = 32) (hk : k < 32) : (fillD L k).setIfInBounds k (.int .u8 (L.getD k 0)) = fillD L (k + 1) := by
  have hlt : (L.take k).length = k := by rw [List.length_take]; omega
  unfold fillD
  have e1 : 32 - k = (32 - (k + 1)) + 1 := by omega
  rw [e1, List.replicate_succ, List.take_succ_eq_append_getElem (by omega : k < L.length), List.append_assoc]
  simp [List.getD_eq_getElem?_getD, List.getElem?_eq_getElem (show k < L.length by omega)]
  have hA : (List.take k (List.map (Value.int IntKind.u8) L)).length = k := by rw [List.length_take, List.length_map]; omega
  rw [List.set_append_right _ _ (by rw [hA]; exact Nat.le_refl _), hA, Nat.sub_self]
  rfl
theorem fillD_all {L : List Int} (hl : L.length = 32) : fillD L 32 = ⟨L.map (Value.int .u8)⟩ := by
  unfold fillD
  rw [List.take_of_length_le (by omega)]
  simp
theorem thirty_lt {k : Nat} (h : k < 32) : k = 0 ∨ k = 1 ∨ k = 2 ∨ k = 3 ∨ k = 4 ∨ k = 5 ∨ k = 6 ∨ k = 7 ∨ k = 8 ∨ k = 9 ∨ k = 10 ∨ k = 11 ∨ k = 12 ∨ k = 13 ∨ k = 14 ∨ k = 15 ∨ k = 16 ∨ k = 17 ∨ k = 18 ∨ k = 19 ∨ k = 20 ∨ k = 21 ∨ k = 22 ∨ k = 23 ∨ k = 24 ∨ k = 25 ∨ k = 26 ∨ k = 27 ∨ k = 28 ∨ k = 29 ∨ k = 30 ∨ k = 31 := by omega
abbrev zeroDigest : Array Value := ⟨(List.replicate 32 0).map (Value.int .u8)⟩
theorem one_u8 (l : List Int) : ∀ v ∈ l.map (Value.int .u8), v.oneCell' = true := by
  intro v hv
  simp only [List.mem_map] at hv
  obtain ⟨x, _, rfl⟩ := hv
  rfl

set_option maxHeartbeats 2000000 in
set_option maxRecDepth 100000 in
theorem end_bad (hs : List Int) (R : Option Addr) (n c : Nat) (m : Int) (hh : hs.length = 8) (hn : n ≤ 9223372036854775807) (hm : 0 ≤ m) (hb : checkA n m ≠ 0) (w : World) :
    Calls Tryd.prog 20 #[.agg (sumC hs R n c m)] w fun e w' => e = .returned (.tuple #[.agg zeroDigest, .int .i64 (checkA n m)]) ∧ Below w.heap.size w w' := by
  obtain ⟨h0, h1, h2, h3, h4, h5, h6, h7, rfl⟩ := eight hh
  obtain ⟨hq1, hq2⟩ := alloc2 w (.cells (sumC [h0, h1, h2, h3, h4, h5, h6, h7] R n c m) 55) (.cells zeroDigest 29)
  have HQ1 := Aside0.mk hq1
  have HQ2 := Aside0.mk hq2
  have HN := Aside0.mk hn
  have HM := Aside0.mk hm
  have hne : (checkA n m != 0) = true := by simpa using hb
  generalize hck : checkA n m = ck at hne
  have HCK := Aside0.mk hck
  clear hq1 hq2 hn hm hb hck
  go_enter Tryd.func20, Tryd.ntmps20
  repeat (first
    | ((with_reducible refine wpList_load 55 (.tmp 1) w.heap.size _ _ _ rfl rfl ?hx HQ1.out Tryd.underlying55 ?hd ?hi ?_); (case hx => rfl); (case hd => rfl); (case hi => rfl))
    | ((with_reducible refine wpList_load 29 (.tmp 2) (w.heap.size + 1) _ _ _ rfl rfl ?hx HZ2.out Tryd.underlying29 ?hd ?hi ?_); (case hx => rfl); (case hd => rfl); (case hi => rfl))
    | (go_at_call 29; (with_reducible refine (check_cs _ [h0, h1, h2, h3, h4, h5, h6, h7] R n c m ?hcs rfl HN.out HM.out _).mono ?_); (case hcs => rfl); rintro e2 w2 ⟨rfl, hb2⟩; rw [HCK.out]; have HB2 := Aside0.mk (bl (pair_below w _ _) hb2); have HZ2 := Aside0.mk (blk_below HQ2.out hb2); clear hb2; dsimp only)
    | ((with_reducible refine wpList_store 29 (.tmp 2) (.tmp 12) (w.heap.size + 1) _ _ zeroDigest rfl rfl ?hx ?hy HZ2.out ?hs ?hi ?h1 ?_); (case h1 => exact one_u8 _); (case hs => rfl); (case hx => rfl); (case hy => rfl); (case hi => rfl); intro w1 g1 g2 g3 g4; have HG1 := Aside0.mk g1; have HG3 := Aside0.mk (g3 w.heap.size w HB2.out (by omega)); clear g1 g2 g3 g4)
    | go_values | go_guarded | go_step | go_upon | go_back)
  refine bodyPost_ret (results_list (rs := [.cell 2 29, .tmp 3]) rfl (by simp) (.cell (w.heap.size + 1) _ _ (0, 0) _ rfl HG1.out Tryd.underlying29 rfl rfl (.tmp .nil))) rfl ?_
  exact ⟨rfl, HG3.out⟩

set_option maxHeartbeats 8000000 in
set_option maxRecDepth 100000 in
theorem end_ok (hs : List Int) (R : Option Addr) (rc : Nat) (r : List Int) (m : Int) (hh : hs.length = 8) (w : World) (h1 : Kd.C (Kd.int .u8) w R r.length r) (hc1 : r.length ≤ rc) (hk : Ktab w) (hm : 0 ≤ m) (hb : checkA r.length m = 0) :
    Calls Tryd.prog 20 #[.agg (sumC hs R r.length rc m)] w fun e w' => e = .returned (.tuple #[.agg ⟨(endA hs r m).map (Value.int .u8)⟩, .int .i64 0]) ∧ Below w.heap.size w w' := by
  obtain ⟨h0, h1', h2', h3, h4, h5, h6, h7, rfl⟩ := eight hh
  have hr64 : r.length < 64 := by
    unfold checkA at hb
    by_cases hc : m ≥ 72057594037927936
    · rw [if_pos hc] at hb; cases hb
    · rw [if_neg hc] at hb
      by_cases hc2 : (r.length : Int) ≠ m % 64
      · rw [if_pos hc2] at hb; cases hb
      · omega
  obtain ⟨hq1, hq2⟩ := alloc2 w (.cells (sumC [h0, h1', h2', h3, h4, h5, h6, h7] R r.length rc m) 55) (.cells zeroDigest 29)
  have HQ1 := Aside0.mk hq1
  have HQ2 := Aside0.mk hq2
  have HM := Aside0.mk hm
  have HCK := Aside0.mk hb
  have H1 := Aside0.mk h1
  have HC1 := Aside0.mk hc1
  have HK := Aside0.mk hk
  have HR64 := Aside0.mk hr64
  have HN : Aside0 (r.length ≤ 9223372036854775807) := ⟨by omega⟩
  clear hq1 hq2 hm hb h1 hc1 hk hr64
  go_enter Tryd.func20, Tryd.ntmps20
  repeat (first
    | ((with_reducible refine wpList_load 55 (.tmp 1) w.heap.size _ _ _ rfl rfl ?hx HQ1.out Tryd.underlying55 ?hd ?hi ?_); (case hx => rfl); (case hd => rfl); (case hi => rfl))
    | (go_at_call 29; (with_reducible refine (check_cs _ [h0, h1', h2', h3, h4, h5, h6, h7] R r.length rc m ?hcs rfl HN.out HM.out _).mono ?_); (case hcs => rfl); rintro e2 w2 ⟨rfl, hb2⟩; rw [HCK.out]; have HB2 := Aside0.mk (bl (pair_below w _ _) hb2); have HZ2 := Aside0.mk (blk_below HQ2.out hb2); have HQ3 := Aside0.mk (blk_below HQ1.out hb2); clear hb2; dsimp only)
    | ((with_reducible refine gate_dst (N := 14) rfl ?_); refine Kd.R_lit (Kd.int .u8) _ 5 ?hg (N := 14) ?hd (xs := ([128] : List Int)) (inner := [.int .u8 128]) (ok := fun _ => True) (okp := fun _ => True) ?hr ?hp (fun _ hk => hk) trivial (Below.refl _ _) (Nat.le_refl _) (by simp) ?_; (case hd => rfl); (case hg => rfl); (case hr => first | (go_simp; done) | (go_simp; rfl)); (case hp => exact ⟨rfl, fun j p h => by match j, h with | 0, h => (simp at h; subst h; rfl) | j + 1, h => simp at h⟩); intro v4 w4 ho hb hg_ hnew_; have HB4 := Aside0.mk (bl HB2.out hb); have HO4 := Aside0.mk (Kd.R_lower ho (below_size HB2.out)); have HZ4 := Aside0.mk (blk_below HZ2.out hb); have HQ4 := Aside0.mk (blk_below HQ3.out hb); clear hg_ hnew_ ho hb)
    | go_values | go_guarded | go_step | go_upon | go_back)
  obtain ⟨A4, c4, hv4⟩ := Kd.R_slice HO4.out
  replace hv4 : v4 = .slice A4 1 c4 := hv4
  subst hv4
  have HP : Aside0 (padZ r.length ≤ 63 ∧ (r.length + 1 + padZ r.length) % 64 = 56 ∧ ∀ j, j < padZ r.length → (r.length + 1 + j) % 64 ≠ 56) := ⟨by have := HR64.out; unfold padZ; refine ⟨by omega, by omega, fun j hj => by omega⟩⟩
  go_loopw [5] (fun v5 wr => ∃ (A : Option Addr) (q c j : Nat), v5 = .slice A q c ∧ q = j + 1 ∧ j ≤ padZ r.length ∧ Aside0 (Kd.R (Kd.int .u8) 5 wr w.heap.size (fun _ => True) (.slice A q c) (128 :: List.replicate j 0)) ∧ Aside0 (wr.heap[w.heap.size]? = some (.cells (sumC [h0, h1', h2', h3, h4, h5, h6, h7] R r.length rc m) 55 (0, 0))) ∧ Aside0 (wr.heap[w.heap.size + 1]? = some (.cells zeroDigest 29 (0, 0))) ∧ Aside0 (Below w.heap.size w wr)) (fun v5 _ => padZ r.length + 1 - lenOf v5)
  case atStart => exact ⟨A4, 1, c4, 0, rfl, rfl, by omega, HO4, HQ4, HZ4, HB4⟩
  case round =>
    clear HO4 HQ4 HZ4 HB4
    obtain ⟨A, q, c, j, rfl, hq, hj, HO, HQ, HZ, HB⟩ := hrel
    have hc8 : wr.cell? ⟨w.heap.size, 8, none⟩ = some (.slice R r.length rc) := blk_cell HQ.out 8
    have hrl : (r.length : Int) ≤ 64 := by have := HR64.out; omega
    have hql : (q : Int) ≤ 64 := by have := HP.out.1; omega
    have htm : Int.tmod ((r.length : Int) + (q : Int)) 64 = ((r.length : Int) + (q : Int)) % 64 := Int.tmod_eq_emod_of_nonneg (by omega)
    have HQJ := Aside0.mk hq
    by_cases hlt : j < padZ r.length
    · have hd1 : (((r.length : Int) + (q : Int)) % 64 != 56) = true := by
        have := HP.out.2.2 j hlt
        simp only [bne_iff_ne, ne_eq]
        omega
      have HLT := Aside0.mk hlt
      clear hq hlt
      repeat ((fail_if_success (with_reducible refine gate_dst (N := 25) rfl ?_)); (first | go_values | go_guarded | go_step | go_upon | go_back))
      refine Kd.R_append (Kd.int .u8) (w0 := w) w.heap.size rfl (.tmp 23) (.tmp 24) 22 5 (.int .u8 0) 1 rfl Tryd.underlying22 info5 rfl (by decide) (by omega) (.slice A q c) (128 :: List.replicate j 0) 0 [.int .u8 0] (fun _ => True) (fun _ => False) rfl rfl rfl (fun _ hk => hk.elim) (fun _ _ => trivial) HO.out HB.out (below_size HB.out) (by have := HP.out.1; have := HLT.out; simp; omega) ?_
      intro v1 w1 ho hb hg hat
      obtain ⟨A1, c1, rfl⟩ := Kd.R_slice ho
      have hll : (128 :: List.replicate j (0 : Int) ++ [0]).length = q + 1 := by rw [HQJ.out]; simp
      rw [hll] at ho ⊢
      rw [show 128 :: List.replicate j (0 : Int) ++ [0] = 128 :: List.replicate (j + 1) 0 by rw [List.replicate_succ']; rfl] at ho
      have HO1 := Aside0.mk ho
      have HB1 := Aside0.mk hb
      have HQ1' := Aside0.mk (blk_grown HQ.out hg (Kd.R_ne HO.out HQ.out (by decide)))
      have HZ1 := Aside0.mk (blk_grown HZ.out hg (Kd.R_ne HO.out HZ.out (by decide)))
      clear ho hb hg hat hll HO HB HQ HZ hc8 htm
      go_wp2
      exact ⟨⟨A1, q + 1, c1, j + 1, rfl, by have := HQJ.out; omega, by have := HLT.out; omega, HO1, HQ1', HZ1, HB1⟩, by have := HQJ.out; have := HLT.out; simp [lenOf]; omega⟩
    · have hjz : j = padZ r.length := by omega
      have hd1 : (((r.length : Int) + (q : Int)) % 64 != 56) = false := by
        have := HP.out.2.1
        rw [bne_eq_false_iff_eq]
        omega
      subst hjz
      clear hq hlt
      have hml : (lenA m).length = 8 := lenA_length m
      have HML := Aside0.mk hml
      clear hml
      go_wp2
      go_loopw [5, 26] (fun v5 v26 wr => ∃ (A : Option Addr) (q c k : Nat), v26 = .int .i64 k ∧ k ≤ 8 ∧ v5 = .slice A q c ∧ q = padZ r.length + 1 + k ∧ Aside0 (Kd.R (Kd.int .u8) 5 wr w.heap.size (fun _ => True) (.slice A q c) (128 :: List.replicate (padZ r.length) 0 ++ (lenA m).take k)) ∧ Aside0 (wr.heap[w.heap.size]? = some (.cells (sumC [h0, h1', h2', h3, h4, h5, h6, h7] R r.length rc m) 55 (0, 0))) ∧ Aside0 (wr.heap[w.heap.size + 1]? = some (.cells zeroDigest 29 (0, 0))) ∧ Aside0 (Below w.heap.size w wr)) (fun _ v26 _ => 8 - (intOf v26).toNat)
      case atStart => exact ⟨A, q, c, 0, rfl, by omega, rfl, by have := HQJ.out; omega, by simpa using HO, HQ, HZ, HB⟩
      case round =>
        clear HO HQ HZ HB hc8 htm hd1 hql HQJ
        obtain ⟨A, q, c, k, rfl, hk, rfl, hq, HO, HQ, HZ, HB⟩ := hrel
        have HQK := Aside0.mk hq
        clear hq
        by_cases hk8 : k < 8
        · have hc9 : wr.cell? ⟨w.heap.size, 9, none⟩ = some (.int .u64 m) := blk_cell HQ.out 9
          have hgetk : (lenA m).take (k + 1) = (lenA m).take k ++ [(lenA m).getD k 0] := by
            rw [List.take_succ_eq_append_getElem (by rw [HML.out]; exact hk8)]
            simp [List.getD_eq_getElem?_getD, List.getElem?_eq_getElem (show k < (lenA m).length by rw [HML.out]; exact hk8)]
          have HGK := Aside0.mk hgetk
          clear hgetk
          rcases eight_lt hk8 with rfl | rfl | rfl | rfl | rfl | rfl | rfl | rfl
          · repeat ((fail_if_success (with_reducible refine gate_dst (N := 39) rfl ?_)); (first | go_values | go_guarded | go_step | go_upon | go_back))
            refine Kd.R_append (Kd.int .u8) (w0 := w) w.heap.size rfl (.tmp 29) (.tmp 38) 22 5 (.int .u8 0) 1 rfl Tryd.underlying22 info5 rfl (by decide) (by omega) (.slice A q c) (128 :: List.replicate (padZ r.length) 0 ++ (lenA m).take 0) ((lenA m).getD 0 0) [.int .u8 ((lenA m).getD 0 0)] (fun _ => True) (fun _ => False) rfl rfl rfl (fun _ hk => hk.elim) (fun _ _ => trivial) HO.out HB.out (below_size HB.out) (by have := HP.out.1; simp; omega) ?_
            intro v1 w1 ho hb hg hat
            obtain ⟨A1, c1, rfl⟩ := Kd.R_slice ho
            rw [List.append_assoc, ← HGK.out] at ho ⊢
            have hll : (128 :: List.replicate (padZ r.length) (0 : Int) ++ (lenA m).take (0 + 1)).length = q + 1 := by rw [HQK.out, List.length_append, List.length_take, HML.out]; simp
            rw [hll] at ho ⊢
            have HO1 := Aside0.mk ho
            have HB1 := Aside0.mk hb
            have HQ1' := Aside0.mk (blk_grown HQ.out hg (Kd.R_ne HO.out HQ.out (by decide)))
            have HZ1 := Aside0.mk (blk_grown HZ.out hg (Kd.R_ne HO.out HZ.out (by decide)))
            clear ho hb hg hat hll HO HB HQ HZ hc9
            go_wp2
            exact ⟨⟨A1, q + 1, c1, 0 + 1, rfl, by omega, rfl, by have := HQK.out; omega, HO1, HQ1', HZ1, HB1⟩, by simp [intOf]⟩
          · repeat ((fail_if_success (with_reducible refine gate_dst (N := 39) rfl ?_)); (first | go_values | go_guarded | go_step | go_upon | go_back))
            refine Kd.R_append (Kd.int .u8) (w0 := w) w.heap.size rfl (.tmp 29) (.tmp 38) 22 5 (.int .u8 0) 1 rfl Tryd.underlying22 info5 rfl (by decide) (by omega) (.slice A q c) (128 :: List.replicate (padZ r.length) 0 ++ (lenA m).take 1) ((lenA m).getD 1 0) [.int .u8 ((lenA m).getD 1 0)] (fun _ => True) (fun _ => False) rfl rfl rfl (fun _ hk => hk.elim) (fun _ _ => trivial) HO.out HB.out (below_size HB.out) (by have := HP.out.1; simp; omega) ?_
            intro v1 w1 ho hb hg hat
            obtain ⟨A1, c1, rfl⟩ := Kd.R_slice ho
            rw [List.append_assoc, ← HGK.out] at ho ⊢
            have hll : (128 :: List.replicate (padZ r.length) (0 : Int) ++ (lenA m).take (1 + 1)).length = q + 1 := by rw [HQK.out, List.length_append, List.length_take, HML.out]; simp
            rw [hll] at ho ⊢
            have HO1 := Aside0.mk ho
            have HB1 := Aside0.mk hb
            have HQ1' := Aside0.mk (blk_grown HQ.out hg (Kd.R_ne HO.out HQ.out (by decide)))
            have HZ1 := Aside0.mk (blk_grown HZ.out hg (Kd.R_ne HO.out HZ.out (by decide)))
            clear ho hb hg hat hll HO HB HQ HZ hc9
            go_wp2
            exact ⟨⟨A1, q + 1, c1, 1 + 1, rfl, by omega, rfl, by have := HQK.out; omega, HO1, HQ1', HZ1, HB1⟩, by simp [intOf]⟩
          · repeat ((fail_if_success (with_reducible refine gate_dst (N := 39) rfl ?_)); (first | go_values | go_guarded | go_step | go_upon | go_back))
            refine Kd.R_append (Kd.int .u8) (w0 := w) w.heap.size rfl (.tmp 29) (.tmp 38) 22 5 (.int .u8 0) 1 rfl Tryd.underlying22 info5 rfl (by decide) (by omega) (.slice A q c) (128 :: List.replicate (padZ r.length) 0 ++ (lenA m).take 2) ((lenA m).getD 2 0) [.int .u8 ((lenA m).getD 2 0)] (fun _ => True) (fun _ => False) rfl rfl rfl (fun _ hk => hk.elim) (fun _ _ => trivial) HO.out HB.out (below_size HB.out) (by have := HP.out.1; simp; omega) ?_
            intro v1 w1 ho hb hg hat
            obtain ⟨A1, c1, rfl⟩ := Kd.R_slice ho
            rw [List.append_assoc, ← HGK.out] at ho ⊢
            have hll : (128 :: List.replicate (padZ r.length) (0 : Int) ++ (lenA m).take (2 + 1)).length = q + 1 := by rw [HQK.out, List.length_append, List.length_take, HML.out]; simp
            rw [hll] at ho ⊢
            have HO1 := Aside0.mk ho
            have HB1 := Aside0.mk hb
            have HQ1' := Aside0.mk (blk_grown HQ.out hg (Kd.R_ne HO.out HQ.out (by decide)))
            have HZ1 := Aside0.mk (blk_grown HZ.out hg (Kd.R_ne HO.out HZ.out (by decide)))
            clear ho hb hg hat hll HO HB HQ HZ hc9
            go_wp2
            exact ⟨⟨A1, q + 1, c1, 2 + 1, rfl, by omega, rfl, by have := HQK.out; omega, HO1, HQ1', HZ1, HB1⟩, by simp [intOf]⟩
          · repeat ((fail_if_success (with_reducible refine gate_dst (N := 39) rfl ?_)); (first | go_values | go_guarded | go_step | go_upon | go_back))
            refine Kd.R_append (Kd.int .u8) (w0 := w) w.heap.size rfl (.tmp 29) (.tmp 38) 22 5 (.int .u8 0) 1 rfl Tryd.underlying22 info5 rfl (by decide) (by omega) (.slice A q c) (128 :: List.replicate (padZ r.length) 0 ++ (lenA m).take 3) ((lenA m).getD 3 0) [.int .u8 ((lenA m).getD 3 0)] (fun _ => True) (fun _ => False) rfl rfl rfl (fun _ hk => hk.elim) (fun _ _ => trivial) HO.out HB.out (below_size HB.out) (by have := HP.out.1; simp; omega) ?_
            intro v1 w1 ho hb hg hat
            obtain ⟨A1, c1, rfl⟩ := Kd.R_slice ho
            rw [List.append_assoc, ← HGK.out] at ho ⊢
            have hll : (128 :: List.replicate (padZ r.length) (0 : Int) ++ (lenA m).take (3 + 1)).length = q + 1 := by rw [HQK.out, List.length_append, List.length_take, HML.out]; simp
            rw [hll] at ho ⊢
            have HO1 := Aside0.mk ho
            have HB1 := Aside0.mk hb
            have HQ1' := Aside0.mk (blk_grown HQ.out hg (Kd.R_ne HO.out HQ.out (by decide)))
            have HZ1 := Aside0.mk (blk_grown HZ.out hg (Kd.R_ne HO.out HZ.out (by decide)))
            clear ho hb hg hat hll HO HB HQ HZ hc9
            go_wp2
            exact ⟨⟨A1, q + 1, c1, 3 + 1, rfl, by omega, rfl, by have := HQK.out; omega, HO1, HQ1', HZ1, HB1⟩, by simp [intOf]⟩
          · repeat ((fail_if_success (with_reducible refine gate_dst (N := 39) rfl ?_)); (first | go_values | go_guarded | go_step | go_upon | go_back))
            refine Kd.R_append (Kd.int .u8) (w0 := w) w.heap.size rfl (.tmp 29) (.tmp 38) 22 5 (.int .u8 0) 1 rfl Tryd.underlying22 info5 rfl (by decide) (by omega) (.slice A q c) (128 :: List.replicate (padZ r.length) 0 ++ (lenA m).take 4) ((lenA m).getD 4 0) [.int .u8 ((lenA m).getD 4 0)] (fun _ => True) (fun _ => False) rfl rfl rfl (fun _ hk => hk.elim) (fun _ _ => trivial) HO.out HB.out (below_size HB.out) (by have := HP.out.1; simp; omega) ?_
            intro v1 w1 ho hb hg hat
            obtain ⟨A1, c1, rfl⟩ := Kd.R_slice ho
            rw [List.append_assoc, ← HGK.out] at ho ⊢
            have hll : (128 :: List.replicate (padZ r.length) (0 : Int) ++ (lenA m).take (4 + 1)).length = q + 1 := by rw [HQK.out, List.length_append, List.length_take, HML.out]; simp
            rw [hll] at ho ⊢
            have HO1 := Aside0.mk ho
            have HB1 := Aside0.mk hb
            have HQ1' := Aside0.mk (blk_grown HQ.out hg (Kd.R_ne HO.out HQ.out (by decide)))
            have HZ1 := Aside0.mk (blk_grown HZ.out hg (Kd.R_ne HO.out HZ.out (by decide)))
            clear ho hb hg hat hll HO HB HQ HZ hc9
            go_wp2
            exact ⟨⟨A1, q + 1, c1, 4 + 1, rfl, by omega, rfl, by have := HQK.out; omega, HO1, HQ1', HZ1, HB1⟩, by simp [intOf]⟩
          · repeat ((fail_if_success (with_reducible refine gate_dst (N := 39) rfl ?_)); (first | go_values | go_guarded | go_step | go_upon | go_back))
            refine Kd.R_append (Kd.int .u8) (w0 := w) w.heap.size rfl (.tmp 29) (.tmp 38) 22 5 (.int .u8 0) 1 rfl Tryd.underlying22 info5 rfl (by decide) (by omega) (.slice A q c) (128 :: List.replicate (padZ r.length) 0 ++ (lenA m).take 5) ((lenA m).getD 5 0) [.int .u8 ((lenA m).getD 5 0)] (fun _ => True) (fun _ => False) rfl rfl rfl (fun _ hk => hk.elim) (fun _ _ => trivial) HO.out HB.out (below_size HB.out) (by have := HP.out.1; simp; omega) ?_
            intro v1 w1 ho hb hg hat
            obtain ⟨A1, c1, rfl⟩ := Kd.R_slice ho
            rw [List.append_assoc, ← HGK.out] at ho ⊢
            have hll : (128 :: List.replicate (padZ r.length) (0 : Int) ++ (lenA m).take (5 + 1)).length = q + 1 := by rw [HQK.out, List.length_append, List.length_take, HML.out]; simp
            rw [hll] at ho ⊢
            have HO1 := Aside0.mk ho
            have HB1 := Aside0.mk hb
            have HQ1' := Aside0.mk (blk_grown HQ.out hg (Kd.R_ne HO.out HQ.out (by decide)))
            have HZ1 := Aside0.mk (blk_grown HZ.out hg (Kd.R_ne HO.out HZ.out (by decide)))
            clear ho hb hg hat hll HO HB HQ HZ hc9
            go_wp2
            exact ⟨⟨A1, q + 1, c1, 5 + 1, rfl, by omega, rfl, by have := HQK.out; omega, HO1, HQ1', HZ1, HB1⟩, by simp [intOf]⟩
          · repeat ((fail_if_success (with_reducible refine gate_dst (N := 39) rfl ?_)); (first | go_values | go_guarded | go_step | go_upon | go_back))
            refine Kd.R_append (Kd.int .u8) (w0 := w) w.heap.size rfl (.tmp 29) (.tmp 38) 22 5 (.int .u8 0) 1 rfl Tryd.underlying22 info5 rfl (by decide) (by omega) (.slice A q c) (128 :: List.replicate (padZ r.length) 0 ++ (lenA m).take 6) ((lenA m).getD 6 0) [.int .u8 ((lenA m).getD 6 0)] (fun _ => True) (fun _ => False) rfl rfl rfl (fun _ hk => hk.elim) (fun _ _ => trivial) HO.out HB.out (below_size HB.out) (by have := HP.out.1; simp; omega) ?_
            intro v1 w1 ho hb hg hat
            obtain ⟨A1, c1, rfl⟩ := Kd.R_slice ho
            rw [List.append_assoc, ← HGK.out] at ho ⊢
            have hll : (128 :: List.replicate (padZ r.length) (0 : Int) ++ (lenA m).take (6 + 1)).length = q + 1 := by rw [HQK.out, List.length_append, List.length_take, HML.out]; simp
            rw [hll] at ho ⊢
            have HO1 := Aside0.mk ho
            have HB1 := Aside0.mk hb
            have HQ1' := Aside0.mk (blk_grown HQ.out hg (Kd.R_ne HO.out HQ.out (by decide)))
            have HZ1 := Aside0.mk (blk_grown HZ.out hg (Kd.R_ne HO.out HZ.out (by decide)))
            clear ho hb hg hat hll HO HB HQ HZ hc9
            go_wp2
            exact ⟨⟨A1, q + 1, c1, 6 + 1, rfl, by omega, rfl, by have := HQK.out; omega, HO1, HQ1', HZ1, HB1⟩, by simp [intOf]⟩
          · repeat ((fail_if_success (with_reducible refine gate_dst (N := 39) rfl ?_)); (first | go_values | go_guarded | go_step | go_upon | go_back))
            have h7e : (lenA m).getD 7 0 = m * 8 % 18446744073709551616 % 256 := by simp [lenA]
            refine Kd.R_append (Kd.int .u8) (w0 := w) w.heap.size rfl (.tmp 29) (.tmp 38) 22 5 (.int .u8 0) 1 rfl Tryd.underlying22 info5 rfl (by decide) (by omega) (.slice A q c) (128 :: List.replicate (padZ r.length) 0 ++ (lenA m).take 7) (m * 8 % 18446744073709551616 % 256) [.int .u8 (m * 8 % 18446744073709551616 % 256)] (fun _ => True) (fun _ => False) rfl rfl rfl (fun _ hk => hk.elim) (fun _ _ => trivial) HO.out HB.out (below_size HB.out) (by have := HP.out.1; simp; omega) ?_
            intro v1 w1 ho hb hg hat
            obtain ⟨A1, c1, rfl⟩ := Kd.R_slice ho
            rw [List.append_assoc, ← h7e, ← HGK.out] at ho ⊢
            have hll : (128 :: List.replicate (padZ r.length) (0 : Int) ++ (lenA m).take (7 + 1)).length = q + 1 := by rw [HQK.out, List.length_append, List.length_take, HML.out]; simp
            rw [hll] at ho ⊢
            have HO1 := Aside0.mk ho
            have HB1 := Aside0.mk hb
            have HQ1' := Aside0.mk (blk_grown HQ.out hg (Kd.R_ne HO.out HQ.out (by decide)))
            have HZ1 := Aside0.mk (blk_grown HZ.out hg (Kd.R_ne HO.out HZ.out (by decide)))
            clear ho hb hg hat hll HO HB HQ HZ hc9
            go_wp2
            exact ⟨⟨A1, q + 1, c1, 7 + 1, rfl, by omega, rfl, by have := HQK.out; omega, HO1, HQ1', HZ1, HB1⟩, by simp [intOf]⟩
        · have hk88 : k = 8 := by omega
          subst hk88
          have hdone : (lenA m).take 8 = lenA m := List.take_of_length_le (by rw [HML.out]; exact Nat.le_refl _)
          have HO2 : Aside0 (Kd.R (Kd.int .u8) 5 wr w.heap.size (fun _ => True) (.slice A q c) (tailA r.length m)) := ⟨by have := HO.out; rw [hdone] at this; exact this⟩
          have hql : q = (tailA r.length m).length := by
            rw [HQK.out]
            simp [tailA, lenA_length]
          subst hql
          have htl : (tailA r.length m).length ≤ 100 := by have := HP.out.1; simp [tailA, lenA_length]; omega
          obtain ⟨t0, t1, t2, t3, t4, t5, t6, t7, ht8⟩ := eight (comeA_length (hs := [h0, h1', h2', h3, h4, h5, h6, h7]) rfl (r ++ tailA r.length m))
          have HT8 := Aside0.mk ht8
          have HTL := Aside0.mk htl
          clear hdone HO hk8 ht8 htl
          repeat (first
            | ((with_reducible refine wpList_load 55 (.tmp 1) w.heap.size _ _ _ rfl rfl ?hx HQ.out Tryd.underlying55 ?hd ?hi ?_); (case hx => rfl); (case hd => rfl); (case hi => rfl))
            | (go_at_call 19; (with_reducible refine (come_cs _ [h0, h1', h2', h3, h4, h5, h6, h7] R rc r m A c (tailA r.length m) ?hcs rfl wr (Kd.C_below H1.out HB.out) HC1.out (Kd.R_reads' HO2.out).2.2 (Kd.R_reads' HO2.out).2.1 (by have := HTL.out; have := HR64.out; omega) (HK.out.below HB.out)).mono ?_); (case hcs => rfl); rintro e3 w3 ⟨R3, c3, rfl, hc3, hr3, hb3⟩; rw [HT8.out]; generalize hn3 : (comeA [h0, h1', h2', h3, h4, h5, h6, h7] (r ++ tailA r.length m)).2.length = n3; generalize hm3 : ((m + ((tailA r.length m).length : Int)) % 18446744073709551616) = m3; have HB3 := Aside0.mk (bl HB.out hb3); have HZ3 := Aside0.mk (blk_below HZ.out hb3); have HQ3' := Aside0.mk (blk_below HQ.out hb3); clear hc3 hr3 hb3 hn3 hm3; dsimp only)
            | ((with_reducible refine wpList_store 55 (.tmp 1) (.tmp 43) w.heap.size _ _ (sumC [t0, t1, t2, t3, t4, t5, t6, t7] R3 n3 c3 m3) rfl rfl ?hx ?hy HQ3'.out ?hs ?hi ?h1 ?_); (case h1 => exact one_sum _ _ _ rfl rfl); (case hs => rfl); (case hx => rfl); (case hy => rfl); (case hi => rfl); intro w1 g1 g2 g3 g4; have HG1 := Aside0.mk g1; have HG2 := Aside0.mk ((g2 (w.heap.size + 1) (by omega)).trans HZ3.out); have HG3 := Aside0.mk (g3 w.heap.size w HB3.out (Nat.le_refl _)); clear g1 g2 g3 g4)
            | go_values | go_guarded | go_step | go_upon | go_back)
          have hds : Aside0 ((digestA [t0, t1, t2, t3, t4, t5, t6, t7]).length = 32) := ⟨digestA_length _⟩
          have HZD : Aside0 (w1.heap[w.heap.size + 1]? = some (.cells (fillD (digestA [t0, t1, t2, t3, t4, t5, t6, t7]) 0) 29 (0, 0))) := ⟨HG2.out⟩
          clear HG2 HZ3 HQ3' HB3
          go_loopw [44] (fun i wr => ∃ k : Nat, i = .int .i64 k ∧ k ≤ 32 ∧ Aside0 (wr.heap[w.heap.size]? = some (.cells (sumC [t0, t1, t2, t3, t4, t5, t6, t7] R3 n3 c3 m3) 55 (0, 0))) ∧ Aside0 (wr.heap[w.heap.size + 1]? = some (.cells (fillD (digestA [t0, t1, t2, t3, t4, t5, t6, t7]) k) 29 (0, 0))) ∧ Aside0 (Below w.heap.size w wr)) (fun i _ => 32 - (intOf i).toNat)
          case atStart => exact ⟨0, rfl, by omega, HG1, HZD, HG3⟩
          case round =>
            clear HG1 HZD HG3 HO2 HQ HZ HB
            obtain ⟨k, rfl, hk, HS, HD, HB⟩ := hrel
            by_cases hk32 : k < 32
            · obtain ⟨x0, x1, x2, x3, x4, x5, x6, x7⟩ := cells8 (tail := [.slice R3 n3 c3, .int .u64 m3]) HS.out
              have hset := blk_set HD.out k (.int .u8 ((digestA [t0, t1, t2, t3, t4, t5, t6, t7]).getD k 0))
              rw [fillD_set hds.out hk32] at hset
              have hsum := (Below.heap_setCell wr ⟨w.heap.size + 1, k, none⟩ (.int .u8 ((digestA [t0, t1, t2, t3, t4, t5, t6, t7]).getD k 0)) w.heap.size (by simp)).trans HS.out
              have hbel := HB.out.setCell (p := ⟨w.heap.size + 1, k, none⟩) (by simp) (.int .u8 ((digestA [t0, t1, t2, t3, t4, t5, t6, t7]).getD k 0))
              obtain ⟨v0, hcd⟩ : ∃ v0, wr.cell? ⟨w.heap.size + 1, k, none⟩ = some v0 := by
                have hsz : k < (fillD (digestA [t0, t1, t2, t3, t4, t5, t6, t7]) k).size := by simp [fillD, hds.out]; omega
                exact ⟨_, (blk_cell HD.out k).trans (Array.getElem?_eq_getElem hsz)⟩
              have hfd := blk_frozen HD.out k
              have HSET := Aside0.mk hset
              have HSUM := Aside0.mk hsum
              have HBEL := Aside0.mk hbel
              clear hset hsum hbel HS HD HB
              rcases thirty_lt hk32 with rfl | rfl | rfl | rfl | rfl | rfl | rfl | rfl | rfl | rfl | rfl | rfl | rfl | rfl | rfl | rfl | rfl | rfl | rfl | rfl | rfl | rfl | rfl | rfl | rfl | rfl | rfl | rfl | rfl | rfl | rfl | rfl
              · go_wp2
                exact ⟨⟨0 + 1, rfl, by omega, HSUM, HSET, HBEL⟩, by simp [intOf]⟩
              · go_wp2
                exact ⟨⟨1 + 1, rfl, by omega, HSUM, HSET, HBEL⟩, by simp [intOf]⟩
              · go_wp2
                exact ⟨⟨2 + 1, rfl, by omega, HSUM, HSET, HBEL⟩, by simp [intOf]⟩
              · have e : (digestA [t0, t1, t2, t3, t4, t5, t6, t7]).getD 3 0 = t0 % 256 := by simp [digestA]
                rw [e] at HSUM HSET HBEL
                go_wp2
                exact ⟨⟨3 + 1, rfl, by omega, HSUM, HSET, HBEL⟩, by simp [intOf]⟩
              · go_wp2
                exact ⟨⟨4 + 1, rfl, by omega, HSUM, HSET, HBEL⟩, by simp [intOf]⟩
              · go_wp2
                exact ⟨⟨5 + 1, rfl, by omega, HSUM, HSET, HBEL⟩, by simp [intOf]⟩
              · go_wp2
                exact ⟨⟨6 + 1, rfl, by omega, HSUM, HSET, HBEL⟩, by simp [intOf]⟩
              · have e : (digestA [t0, t1, t2, t3, t4, t5, t6, t7]).getD 7 0 = t1 % 256 := by simp [digestA]
                rw [e] at HSUM HSET HBEL
                go_wp2
                exact ⟨⟨7 + 1, rfl, by omega, HSUM, HSET, HBEL⟩, by simp [intOf]⟩
              · go_wp2
                exact ⟨⟨8 + 1, rfl, by omega, HSUM, HSET, HBEL⟩, by simp [intOf]⟩
              · go_wp2
                exact ⟨⟨9 + 1, rfl, by omega, HSUM, HSET, HBEL⟩, by simp [intOf]⟩
              · go_wp2
                exact ⟨⟨10 + 1, rfl, by omega, HSUM, HSET, HBEL⟩, by simp [intOf]⟩
              · have e : (digestA [t0, t1, t2, t3, t4, t5, t6, t7]).getD 11 0 = t2 % 256 := by simp [digestA]
                rw [e] at HSUM HSET HBEL
                go_wp2
                exact ⟨⟨11 + 1, rfl, by omega, HSUM, HSET, HBEL⟩, by simp [intOf]⟩
              · go_wp2
                exact ⟨⟨12 + 1, rfl, by omega, HSUM, HSET, HBEL⟩, by simp [intOf]⟩
              · go_wp2
                exact ⟨⟨13 + 1, rfl, by omega, HSUM, HSET, HBEL⟩, by simp [intOf]⟩
              · go_wp2
                exact ⟨⟨14 + 1, rfl, by omega, HSUM, HSET, HBEL⟩, by simp [intOf]⟩
              · have e : (digestA [t0, t1, t2, t3, t4, t5, t6, t7]).getD 15 0 = t3 % 256 := by simp [digestA]
                rw [e] at HSUM HSET HBEL
                go_wp2
                exact ⟨⟨15 + 1, rfl, by omega, HSUM, HSET, HBEL⟩, by simp [intOf]⟩
              · go_wp2
                exact ⟨⟨16 + 1, rfl, by omega, HSUM, HSET, HBEL⟩, by simp [intOf]⟩
              · go_wp2
                exact ⟨⟨17 + 1, rfl, by omega, HSUM, HSET, HBEL⟩, by simp [intOf]⟩
              · go_wp2
                exact ⟨⟨18 + 1, rfl, by omega, HSUM, HSET, HBEL⟩, by simp [intOf]⟩
              · have e : (digestA [t0, t1, t2, t3, t4, t5, t6, t7]).getD 19 0 = t4 % 256 := by simp [digestA]
                rw [e] at HSUM HSET HBEL
                go_wp2
                exact ⟨⟨19 + 1, rfl, by omega, HSUM, HSET, HBEL⟩, by simp [intOf]⟩
              · go_wp2
                exact ⟨⟨20 + 1, rfl, by omega, HSUM, HSET, HBEL⟩, by simp [intOf]⟩
              · go_wp2
                exact ⟨⟨21 + 1, rfl, by omega, HSUM, HSET, HBEL⟩, by simp [intOf]⟩
              · go_wp2
                exact ⟨⟨22 + 1, rfl, by omega, HSUM, HSET, HBEL⟩, by simp [intOf]⟩
              · have e : (digestA [t0, t1, t2, t3, t4, t5, t6, t7]).getD 23 0 = t5 % 256 := by simp [digestA]
                rw [e] at HSUM HSET HBEL
                go_wp2
                exact ⟨⟨23 + 1, rfl, by omega, HSUM, HSET, HBEL⟩, by simp [intOf]⟩
              · go_wp2
                exact ⟨⟨24 + 1, rfl, by omega, HSUM, HSET, HBEL⟩, by simp [intOf]⟩
              · go_wp2
                exact ⟨⟨25 + 1, rfl, by omega, HSUM, HSET, HBEL⟩, by simp [intOf]⟩
              · go_wp2
                exact ⟨⟨26 + 1, rfl, by omega, HSUM, HSET, HBEL⟩, by simp [intOf]⟩
              · have e : (digestA [t0, t1, t2, t3, t4, t5, t6, t7]).getD 27 0 = t6 % 256 := by simp [digestA]
                rw [e] at HSUM HSET HBEL
                go_wp2
                exact ⟨⟨27 + 1, rfl, by omega, HSUM, HSET, HBEL⟩, by simp [intOf]⟩
              · go_wp2
                exact ⟨⟨28 + 1, rfl, by omega, HSUM, HSET, HBEL⟩, by simp [intOf]⟩
              · go_wp2
                exact ⟨⟨29 + 1, rfl, by omega, HSUM, HSET, HBEL⟩, by simp [intOf]⟩
              · go_wp2
                exact ⟨⟨30 + 1, rfl, by omega, HSUM, HSET, HBEL⟩, by simp [intOf]⟩
              · have e : (digestA [t0, t1, t2, t3, t4, t5, t6, t7]).getD 31 0 = t7 % 256 := by simp [digestA]
                rw [e] at HSUM HSET HBEL
                go_wp2
                exact ⟨⟨31 + 1, rfl, by omega, HSUM, HSET, HBEL⟩, by simp [intOf]⟩
            · have hk32' : k = 32 := by omega
              subst hk32'
              have HDD : Aside0 (wr.heap[w.heap.size + 1]? = some (.cells ⟨(digestA [t0, t1, t2, t3, t4, t5, t6, t7]).map (Value.int .u8)⟩ 29 (0, 0))) := ⟨by rw [← fillD_all hds.out]; exact HD.out⟩
              have hone := one_u8 (digestA [t0, t1, t2, t3, t4, t5, t6, t7])
              have hsz : ((digestA [t0, t1, t2, t3, t4, t5, t6, t7]).map (Value.int .u8)).length = 32 := by simp [digestA_length]
              generalize hvs : (digestA [t0, t1, t2, t3, t4, t5, t6, t7]).map (Value.int .u8) = vs at HDD hone hsz
              have HVS := Aside0.mk hvs
              have HON := Aside0.mk hone
              have hi : (Tryd.prog.info? 29).map (·.size) = some (⟨vs⟩ : Array Value).size := by
                rw [show (⟨vs⟩ : Array Value).size = 32 from hsz]
                rfl
              clear hvs hone HD
              repeat (first
                | ((with_reducible refine wpList_load 29 (.tmp 2) (w.heap.size + 1) _ _ _ rfl rfl ?hx HDD.out Tryd.underlying29 ?hd hi ?_); (case hx => rfl); (case hd => rfl))
                | ((with_reducible refine wpList_store 29 (.tmp 2) (.tmp 61) (w.heap.size + 1) _ _ ⟨vs⟩ rfl rfl ?hx ?hy HDD.out rfl hi HON.out ?_); (case hx => rfl); (case hy => rfl); intro w9 g1 g2 g3 g4; have HG1 := Aside0.mk g1; have HG3 := Aside0.mk (g3 w.heap.size w HB.out (by omega)); clear g1 g2 g3 g4)
                | go_values | go_guarded | go_step | go_upon | go_back)
              refine bodyPost_ret (results_list (rs := [.cell 2 29, .tmp 3]) rfl (by simp) (.cell (w.heap.size + 1) _ _ (0, 0) _ rfl HG1.out Tryd.underlying29 rfl hi (.tmp .nil))) rfl ?_
              exact ⟨by unfold endA; rw [HT8.out, HVS.out]; rfl, HG3.out⟩
end Go.Proofs.YtncipbbdboeinaaDoor
