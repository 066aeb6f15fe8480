/-
sha.Begin, sha.Check, sha.More.
-/
import Derived.Test.YtfijclinefmbfaaDoorShaCome
namespace Go.Proofs.YtfijclinefmbfaaDoor
open Go.RowKit Go.Proofs.YtfijclinefmbfaaDoorW.PrintWords Go.Proofs.YtfijclinefmbfaaDoorW.PrintLast Go.Proofs.YtfijclinefmbfaaDoorW.PrintMore Go.Proofs.YtfijclinefmbfaaDoor.PAll
set_option linter.unusedVariables false
set_option linter.unusedSimpArgs false

def H0 : List Int := [1779033703, 3144134277, 1013904242, 2773480762, 1359893119, 2600822924, 528734635, 1541459225]
set_option maxHeartbeats 1000000 in
theorem begin_calls (w : World) : Calls Tryd.prog 18 #[] w fun e w' => e = .returned (.agg (sumC H0 none 0 0 0)) ∧ Below w.heap.size w w' := by
  go_enter Tryd.func18, Tryd.ntmps18
  go_wp2
  have hg := heap_alloc_new w (.cells (sumC H0 none 0 0 0) 34)
  refine bodyPost_ret (results_single rfl (.cell w.heap.size _ _ (0, 0) _ rfl hg Tryd.underlying34 rfl rfl .nil)) rfl ?_
  exact ⟨rfl, below_alloc (Below.refl _ _) _⟩

/-- What sha.Check answers: n the rest's length, m how many came. -/
def checkA (n : Nat) (m : Int) : Int := if m ≥ 72057594037927936 then 8 else if (n : Int) ≠ m % 64 then 8 else 0
set_option maxHeartbeats 1000000 in
theorem check_calls (hs : List Int) (R : Option Addr) (n c : Nat) (m : Int) (hh : hs.length = 8) (hn : n ≤ 9223372036854775807) (hm : 0 ≤ m) (w : World) :
    Calls Tryd.prog 16 #[.agg (sumC hs R n c m)] w fun e w' => e = .returned (.int .i64 (checkA n m)) ∧ Below w.heap.size w w' := by
  obtain ⟨h0, h1, h2, h3, h4, h5, h6, h7, rfl⟩ := eight hh
  have hg := heap_alloc_new w (.cells (sumC [h0, h1, h2, h3, h4, h5, h6, h7] R n c m) 34)
  have hc8 : (w.alloc (.cells (sumC [h0, h1, h2, h3, h4, h5, h6, h7] R n c m) 34)).cell? ⟨w.heap.size, 8, none⟩ = some (.slice R n c) := blk_cell hg 8
  have hc9 : (w.alloc (.cells (sumC [h0, h1, h2, h3, h4, h5, h6, h7] R n c m) 34)).cell? ⟨w.heap.size, 9, none⟩ = some (.int .u64 m) := blk_cell hg 9
  clear hg
  by_cases c1 : m ≥ 72057594037927936
  · have d1 : decide (72057594037927936 ≤ m) = true := decide_eq_true c1
    have HE : Aside0 (checkA n m = 8) := ⟨by unfold checkA; rw [if_pos c1]⟩
    clear c1
    go_enter Tryd.func16, Tryd.ntmps16
    go_wp2
    go_ret
    exact ⟨by rw [HE.out]; rfl, below_alloc (Below.refl _ _) _⟩
  · have d1 : decide (72057594037927936 ≤ m) = false := decide_eq_false c1
    have hw : IntKind.u64.wrap (n : Int) = (n : Int) := by
      rw [show ∀ z, IntKind.u64.wrap z = z % 18446744073709551616 from fun _ => rfl]
      omega
    have hmod : Int.tmod m 64 = m % 64 := Int.tmod_eq_emod_of_nonneg hm
    have hmw : IntKind.u64.wrap (m % 64) = m % 64 := by
      rw [show ∀ z, IntKind.u64.wrap z = z % 18446744073709551616 from fun _ => rfl]
      omega
    by_cases c2 : (n : Int) = m % 64
    · have d2 : ((n : Int) != m % 64) = false := by simpa using c2
      have HE : Aside0 (checkA n m = 0) := ⟨by unfold checkA; rw [if_neg c1, if_neg (by simpa using c2)]⟩
      clear c1 c2
      go_enter Tryd.func16, Tryd.ntmps16
      go_wp2
      go_ret
      exact ⟨by rw [HE.out]; rfl, below_alloc (Below.refl _ _) _⟩
    · have d2 : ((n : Int) != m % 64) = true := by simpa using c2
      have HE : Aside0 (checkA n m = 8) := ⟨by unfold checkA; rw [if_neg c1, if_pos c2]⟩
      clear c1 c2
      go_enter Tryd.func16, Tryd.ntmps16
      go_wp2
      go_ret
      exact ⟨by rw [HE.out]; rfl, below_alloc (Below.refl _ _) _⟩

theorem eatA_length : ∀ (n : Nat) {hs : List Int} (r : List Int), hs.length = 8 → (eatA n hs r).1.length = 8
  | 0, hs, r, h => h
  | n + 1, hs, r, h => by
    rw [eatA]
    split
    · exact h
    · exact eatA_length n _ (turnA_length h _)
theorem comeA_length {hs : List Int} (h : hs.length = 8) (r : List Int) : (comeA hs r).1.length = 8 := eatA_length _ _ h
theorem sum_size {hs : List Int} (R : Option Addr) (n c : Nat) (m : Int) (h : hs.length = 8) : (sumC hs R n c m).size = 10 := by simp [h]
theorem check_cs (cs : Array Value) (hs : List Int) (R : Option Addr) (n c : Nat) (m : Int) (hcs : cs = sumC hs R n c m) (hh : hs.length = 8) (hn : n ≤ 9223372036854775807) (hm : 0 ≤ m) (w : World) :
    Calls Tryd.prog 16 #[.agg cs] w fun e w' => e = .returned (.int .i64 (checkA n m)) ∧ Below w.heap.size w w' := by
  subst hcs
  exact check_calls hs R n c m hh hn hm w
theorem come_cs (cs : Array Value) (hs : List Int) (R : Option Addr) (rc : Nat) (l1 : List Int) (m : Int) (A : Option Addr) (c : Nat) (l2 : List Int) (hcs : cs = sumC hs R l1.length rc m) (hh : hs.length = 8) (w : World) (h1 : Kd.C (Kd.int .u8) w R l1.length l1) (hc1 : l1.length ≤ rc) (h2 : Kd.C (Kd.int .u8) w A l2.length l2) (hc2 : l2.length ≤ c) (hm : l1.length + l2.length ≤ 1000000) (hk : Ktab w) :
    Calls Tryd.prog 22 #[.agg cs, .slice A l2.length c] w fun e w' => ∃ R' c', e = .returned (.agg (sumC (comeA hs (l1 ++ l2)).1 R' (comeA hs (l1 ++ l2)).2.length c' ((m + l2.length) % 18446744073709551616))) ∧ (comeA hs (l1 ++ l2)).2.length ≤ c' ∧ Kd.R (Kd.int .u8) 5 w' w.heap.size (fun _ => True) (.slice R' (comeA hs (l1 ++ l2)).2.length c') (comeA hs (l1 ++ l2)).2 ∧ Below w.heap.size w w' := by
  subst hcs
  exact come_calls hs R rc l1 m A c l2 hh w h1 hc1 h2 hc2 hm hk
theorem pair_below (w : World) (a b : Obj) : Below w.heap.size w ((w.alloc a).alloc b) := below_alloc (below_alloc (Below.refl _ _) _) _
abbrev zeroSum : Array Value := sumC (List.replicate 8 0) none 0 0 0
set_option maxHeartbeats 2000000 in
set_option maxRecDepth 100000 in
theorem more_bad (hs : List Int) (R : Option Addr) (n c : Nat) (m : Int) (A : Option Addr) (n2 c2 : Nat) (hh : hs.length = 8) (hn : n ≤ 9223372036854775807) (hm : 0 ≤ m) (hb : checkA n m ≠ 0) (w : World) :
    Calls Tryd.prog 11 #[.agg (sumC hs R n c m), .slice A n2 c2] w fun e w' => e = .returned (.tuple #[.agg zeroSum, .int .i64 (checkA n m)]) ∧ Below w.heap.size w w' := by
  obtain ⟨h0, h1, h2, h3, h4, h5, h6, h7, rfl⟩ := eight hh
  obtain ⟨hq1, hq2⟩ := alloc2 w (.cells (sumC [h0, h1, h2, h3, h4, h5, h6, h7] R n c m) 34) (.cells zeroSum 34)
  have HQ1 := Aside0.mk hq1
  have HQ2 := Aside0.mk hq2
  have HN := Aside0.mk hn
  have HM := Aside0.mk hm
  have hne : (checkA n m != 0) = true := by simpa using hb
  generalize hck : checkA n m = ck at hne
  have HCK := Aside0.mk hck
  clear hq1 hq2 hn hm hb hck
  go_enter Tryd.func11, Tryd.ntmps11
  repeat (first
    | ((with_reducible refine wpList_load 34 (.tmp 2) w.heap.size _ _ _ rfl rfl ?hx HQ1.out Tryd.underlying34 ?hd ?hi ?_); (case hx => rfl); (case hd => rfl); (case hi => rfl))
    | (go_at_call 16; (with_reducible refine (check_cs _ [h0, h1, h2, h3, h4, h5, h6, h7] R n c m ?hcs rfl HN.out HM.out _).mono ?_); (case hcs => rfl); rintro e2 w2 ⟨rfl, hb2⟩; rw [HCK.out]; have HB2 := Aside0.mk (bl (pair_below w _ _) hb2); have HZ2 := Aside0.mk (blk_below HQ2.out hb2); clear hb2; dsimp only)
    | ((with_reducible refine wpList_store 34 (.tmp 4) (.tmp 12) (w.heap.size + 1) _ _ zeroSum rfl rfl ?hx ?hy HZ2.out ?hs ?hi ?h1 ?_); (case h1 => exact one_sum _ _ _ rfl rfl); (case hs => rfl); (case hx => rfl); (case hy => rfl); (case hi => rfl); intro w1 g1 g2 g3 g4; have HG1 := Aside0.mk g1; have HG3 := Aside0.mk (g3 w.heap.size w HB2.out (by omega)); clear g1 g2 g3 g4)
    | go_values | go_guarded | go_step | go_upon | go_back)
  refine bodyPost_ret (results_list (rs := [.cell 4 34, .tmp 5]) rfl (by simp) (.cell (w.heap.size + 1) _ _ (0, 0) _ rfl HG1.out Tryd.underlying34 rfl rfl (.tmp .nil))) rfl ?_
  exact ⟨rfl, HG3.out⟩

set_option maxHeartbeats 2000000 in
set_option maxRecDepth 100000 in
theorem more_many (hs : List Int) (R : Option Addr) (n c : Nat) (m : Int) (A : Option Addr) (n2 c2 : Nat) (hh : hs.length = 8) (hn : n ≤ 9223372036854775807) (hm : 0 ≤ m) (hb : checkA n m = 0) (hn2 : n2 ≤ 1000000) (hmany : (n2 : Int) ≥ 72057594037927936 - m) (w : World) :
    Calls Tryd.prog 11 #[.agg (sumC hs R n c m), .slice A n2 c2] w fun e w' => e = .returned (.tuple #[.agg zeroSum, .int .i64 4]) ∧ Below w.heap.size w w' := by
  obtain ⟨h0, h1, h2, h3, h4, h5, h6, h7, rfl⟩ := eight hh
  have hm1 : m < 72057594037927936 := by
    unfold checkA at hb
    by_cases hc : m ≥ 72057594037927936
    · rw [if_pos hc] at hb; cases hb
    · omega
  obtain ⟨hq1, hq2⟩ := alloc2 w (.cells (sumC [h0, h1, h2, h3, h4, h5, h6, h7] R n c m) 34) (.cells zeroSum 34)
  have HQ1 := Aside0.mk hq1
  have HQ2 := Aside0.mk hq2
  have HN := Aside0.mk hn
  have HM := Aside0.mk hm
  have HCK := Aside0.mk hb
  have hw1 : IntKind.u64.wrap (72057594037927936 - m) = 72057594037927936 - m := by
    rw [show ∀ z, IntKind.u64.wrap z = z % 18446744073709551616 from fun _ => rfl]
    omega
  have hw2 : IntKind.u64.wrap (n2 : Int) = (n2 : Int) := by
    rw [show ∀ z, IntKind.u64.wrap z = z % 18446744073709551616 from fun _ => rfl]
    omega
  have hd : decide (72057594037927936 - m ≤ (n2 : Int)) = true := decide_eq_true hmany
  clear hq1 hq2 hn hb
  go_enter Tryd.func11, Tryd.ntmps11
  repeat (first
    | ((with_reducible refine wpList_load 34 (.tmp 2) w.heap.size _ _ _ rfl rfl ?hx HQ1.out Tryd.underlying34 ?hd ?hi ?_); (case hx => rfl); (case hd => rfl); (case hi => rfl))
    | (go_at_call 16; (with_reducible refine (check_cs _ [h0, h1, h2, h3, h4, h5, h6, h7] R n c m ?hcs rfl HN.out HM.out _).mono ?_); (case hcs => rfl); rintro e2 w2 ⟨rfl, hb2⟩; rw [HCK.out]; have HB2 := Aside0.mk (bl (pair_below w _ _) hb2); have HZ2 := Aside0.mk (blk_below HQ2.out hb2); have hc9 := blk_cell (blk_below HQ1.out hb2) 9; clear hb2; dsimp only)
    | ((with_reducible refine wpList_store 34 (.tmp 4) (.tmp 22) (w.heap.size + 1) _ _ zeroSum rfl rfl ?hx ?hy HZ2.out ?hs ?hi ?h1 ?_); (case h1 => exact one_sum _ _ _ rfl rfl); (case hs => rfl); (case hx => rfl); (case hy => rfl); (case hi => rfl); intro w1 g1 g2 g3 g4; have HG1 := Aside0.mk g1; have HG3 := Aside0.mk (g3 w.heap.size w HB2.out (by omega)); clear g1 g2 g3 g4)
    | go_values | go_guarded | go_step | go_upon | go_back)
  refine bodyPost_ret (results_list (rs := [.cell 4 34, .tmp 5]) rfl (by simp) (.cell (w.heap.size + 1) _ _ (0, 0) _ rfl HG1.out Tryd.underlying34 rfl rfl (.tmp .nil))) rfl ?_
  exact ⟨rfl, HG3.out⟩

set_option maxHeartbeats 2000000 in
set_option maxRecDepth 100000 in
theorem more_ok (hs : List Int) (R : Option Addr) (rc : Nat) (l1 : List Int) (m : Int) (A : Option Addr) (c : Nat) (l2 : List Int) (hh : hs.length = 8) (w : World) (h1 : Kd.C (Kd.int .u8) w R l1.length l1) (hc1 : l1.length ≤ rc) (h2 : Kd.C (Kd.int .u8) w A l2.length l2) (hc2 : l2.length ≤ c) (hlen : l1.length + l2.length ≤ 1000000) (hk : Ktab w)
    (hm : 0 ≤ m) (hb : checkA l1.length m = 0) (hmany : ¬ (l2.length : Int) ≥ 72057594037927936 - m) :
    Calls Tryd.prog 11 #[.agg (sumC hs R l1.length rc m), .slice A l2.length c] w fun e w' => ∃ R' c', e = .returned (.tuple #[.agg (sumC (comeA hs (l1 ++ l2)).1 R' (comeA hs (l1 ++ l2)).2.length c' ((m + l2.length) % 18446744073709551616)), .int .i64 0]) ∧ (comeA hs (l1 ++ l2)).2.length ≤ c' ∧ Kd.R (Kd.int .u8) 5 w' w.heap.size (fun _ => True) (.slice R' (comeA hs (l1 ++ l2)).2.length c') (comeA hs (l1 ++ l2)).2 ∧ Below w.heap.size w w' := by
  obtain ⟨h0, h1', h2', h3, h4, h5, h6, h7, rfl⟩ := eight hh
  have hm1 : m < 72057594037927936 := by
    unfold checkA at hb
    by_cases hc : m ≥ 72057594037927936
    · rw [if_pos hc] at hb; cases hb
    · omega
  obtain ⟨hq1, hq2⟩ := alloc2 w (.cells (sumC [h0, h1', h2', h3, h4, h5, h6, h7] R l1.length rc m) 34) (.cells zeroSum 34)
  have HQ1 := Aside0.mk hq1
  have HQ2 := Aside0.mk hq2
  have HM := Aside0.mk hm
  have HCK := Aside0.mk hb
  have H1 := Aside0.mk h1
  have H2 := Aside0.mk h2
  have HC1 := Aside0.mk hc1
  have HC2 := Aside0.mk hc2
  have HLEN := Aside0.mk hlen
  have HK := Aside0.mk hk
  have hw1 : IntKind.u64.wrap (72057594037927936 - m) = 72057594037927936 - m := by
    rw [show ∀ z, IntKind.u64.wrap z = z % 18446744073709551616 from fun _ => rfl]
    omega
  have hw2 : IntKind.u64.wrap (l2.length : Int) = (l2.length : Int) := by
    rw [show ∀ z, IntKind.u64.wrap z = z % 18446744073709551616 from fun _ => rfl]
    omega
  have hd : decide (72057594037927936 - m ≤ (l2.length : Int)) = false := decide_eq_false hmany
  have HN : Aside0 (l1.length ≤ 9223372036854775807) := ⟨by omega⟩
  clear hq1 hq2 hb h1 h2 hc1 hc2 hlen hk
  go_enter Tryd.func11, Tryd.ntmps11
  repeat (first
    | ((with_reducible refine wpList_load 34 (.tmp 2) w.heap.size _ _ _ rfl rfl ?hx HQ1.out Tryd.underlying34 ?hd ?hi ?_); (case hx => rfl); (case hd => rfl); (case hi => rfl))
    | ((with_reducible refine wpList_load 34 (.tmp 2) w.heap.size _ _ _ rfl rfl ?hx HQ3.out Tryd.underlying34 ?hd ?hi ?_); (case hx => rfl); (case hd => rfl); (case hi => rfl))
    | (go_at_call 16; (with_reducible refine (check_cs _ [h0, h1', h2', h3, h4, h5, h6, h7] R l1.length rc m ?hcs rfl HN.out HM.out _).mono ?_); (case hcs => rfl); rintro e2 w2 ⟨rfl, hb2⟩; rw [HCK.out]; have HB2 := Aside0.mk (bl (pair_below w _ _) hb2); have HZ2 := Aside0.mk (blk_below HQ2.out hb2); have HQ3 := Aside0.mk (blk_below HQ1.out hb2); have hc9 := blk_cell HQ3.out 9; clear hb2; dsimp only)
    | (go_at_call 22; (with_reducible refine (come_cs _ [h0, h1', h2', h3, h4, h5, h6, h7] R rc l1 m A c l2 ?hcs rfl w2 (Kd.C_below H1.out HB2.out) HC1.out (Kd.C_below H2.out HB2.out) HC2.out HLEN.out (HK.out.below HB2.out)).mono ?_); (case hcs => rfl); rintro e3 w3 ⟨R3, c3, rfl, hc3, hr3, hb3⟩; have HC3 := Aside0.mk hc3; have HR3 := Aside0.mk hr3; have HB3 := Aside0.mk (bl HB2.out hb3); have HZ3 := Aside0.mk (blk_below HZ2.out hb3); have HS3 := Aside0.mk hb3.size; have hone : ∀ v ∈ (sumC (comeA [h0, h1', h2', h3, h4, h5, h6, h7] (l1 ++ l2)).1 R3 (comeA [h0, h1', h2', h3, h4, h5, h6, h7] (l1 ++ l2)).2.length c3 ((m + l2.length) % 18446744073709551616)).toList, v.oneCell' = true := one_sum (comeA [h0, h1', h2', h3, h4, h5, h6, h7] (l1 ++ l2)).1 (.slice R3 (comeA [h0, h1', h2', h3, h4, h5, h6, h7] (l1 ++ l2)).2.length c3) (.int .u64 ((m + l2.length) % 18446744073709551616)) rfl rfl; have hsz := sum_size R3 (comeA [h0, h1', h2', h3, h4, h5, h6, h7] (l1 ++ l2)).2.length c3 ((m + l2.length) % 18446744073709551616) (comeA_length (hs := [h0, h1', h2', h3, h4, h5, h6, h7]) rfl (l1 ++ l2)); generalize hnew : sumC (comeA [h0, h1', h2', h3, h4, h5, h6, h7] (l1 ++ l2)).1 R3 (comeA [h0, h1', h2', h3, h4, h5, h6, h7] (l1 ++ l2)).2.length c3 ((m + l2.length) % 18446744073709551616) = csn at hone hsz ⊢; have HNEW := Aside0.mk hnew; have HONE := Aside0.mk hone; have HSZ := Aside0.mk hsz; clear hc3 hr3 hb3 hnew hone hsz; dsimp only)
    | ((with_reducible refine wpList_store 34 (.tmp 4) (.tmp 25) (w.heap.size + 1) _ _ csn rfl rfl ?hx ?hy HZ3.out ?hs ?hi HONE.out ?_); (case hs => rw [HSZ.out]; rfl); (case hx => rfl); (case hy => rfl); (case hi => rw [HSZ.out]; rfl); intro w1 g1 g2 g3 g4; have HG1 := Aside0.mk g1; have HG2 := Aside0.mk g2; have HG3 := Aside0.mk (g3 w.heap.size w HB3.out (by omega)); clear g1 g2 g3 g4)
    | go_values | go_guarded | go_step | go_upon | go_back)
  refine bodyPost_ret (results_list (rs := [.cell 4 34, .tmp 5]) rfl (by simp) (.cell (w.heap.size + 1) _ _ (0, 0) _ rfl HG1.out Tryd.underlying34 rfl (by rw [HSZ.out]; rfl) (.tmp .nil))) rfl ?_
  have hlow := HB2.out.size
  have hgl := blk_lt HZ2.out
  refine ⟨R3, c3, by rw [HNEW.out]; rfl, HC3.out, ?_, HG3.out⟩
  refine Kd.R_mono (Kd.R_lower (Kd.R_step (Kd.R_bound HR3.out) (fun k hk _ => ?_)) hlow) (fun _ _ => trivial)
  exact HG2.out k (by omega)
end Go.Proofs.YtfijclinefmbfaaDoor
