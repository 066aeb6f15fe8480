/-
The document's End, Of, Same.
-/
import Derived.Test.YtfijclinefmbfaaDoorRefEnded
namespace Go.Proofs.YtfijclinefmbfaaDoor
open Go.RowKit Go.Proofs.YtfijclinefmbfaaDoorW.PrintWords Go.Proofs.YtfijclinefmbfaaDoorW.PrintLast Go.Proofs.YtfijclinefmbfaaDoorW.PrintMore Go.Proofs.YtfijclinefmbfaaDoor.PAll
set_option linter.unusedVariables false
set_option linter.unusedSimpArgs false

set_option maxHeartbeats 4000000 in
set_option maxRecDepth 100000 in
theorem refEnd_any (cs : Array Value) (hs : List Int) (R : Option Addr) (rc : Nat) (r : List Int) (m : Int) (hcs : cs = sumC hs R r.length rc m) (hh : hs.length = 8) (w : World) (h1 : Kd.C (Kd.int .u8) w R r.length r) (hc1 : r.length ≤ rc) (hr : r.length ≤ 1000000) (hm : 0 ≤ m) :
    Calls Tryd.prog 14 #[.agg cs] w fun e w' => e = .returned (.tuple #[.agg ⟨(endD hs r m).map (Value.int .u8)⟩, .int .i64 (checkA r.length m)]) ∧ Below w.heap.size w w' := by
  subst hcs
  obtain ⟨h0, h1', h2', h3, h4, h5, h6, h7, rfl⟩ := eight hh
  obtain ⟨hq1, hq2⟩ := alloc2 w (.cells (sumC [h0, h1', h2', h3, h4, h5, h6, h7] R r.length rc m) 34) (.cells zeroD 24)
  have HQ1 := Aside0.mk hq1
  have HQ2 := Aside0.mk hq2
  have HB0 := Aside0.mk (below_alloc (below_alloc (Below.refl w.heap.size w) (.cells (sumC [h0, h1', h2', h3, h4, h5, h6, h7] R r.length rc m) 34)) (.cells zeroD 24))
  have HN : Aside0 (r.length ≤ 9223372036854775807) := ⟨by omega⟩
  have HM := Aside0.mk hm
  have H1 := Aside0.mk h1
  have HC1 := Aside0.mk hc1
  clear hq1 hq2 h1 hc1 hm
  by_cases hck : checkA r.length m = 0
  · have HCK : Aside0 ((checkA r.length m == 0) = true) := ⟨by rw [hck]; rfl⟩
    have hrm := (checkA_ok hck).2
    have HR64 : Aside0 (r.length < 64) := ⟨by omega⟩
    unfold endD
    rw [if_pos hck, hck]
    have hel : (endA [h0, h1', h2', h3, h4, h5, h6, h7] r m).length = 32 := digestA_length _
    generalize hvs : (endA [h0, h1', h2', h3, h4, h5, h6, h7] r m).map (Value.int .u8) = vs
    have hone : ∀ v ∈ vs, v.oneCell' = true := by rw [← hvs]; exact one_u8 _
    have hsz2 : vs.length = 32 := by rw [← hvs, List.length_map]; exact hel
    have hi : (Tryd.prog.info? 24).map (·.size) = some (⟨vs⟩ : Array Value).size := by
      rw [show (⟨vs⟩ : Array Value).size = 32 from hsz2]
      rfl
    have hzs : zeroD.size = (⟨vs⟩ : Array Value).size := by rw [show (⟨vs⟩ : Array Value).size = 32 from hsz2]; rfl
    have HVS := Aside0.mk hvs
    have HON := Aside0.mk hone
    clear hck hrm hel hvs hone hsz2 hr
    go_enter Tryd.func14, Tryd.ntmps14
    repeat (first
      | ((with_reducible refine wpList_load 34 (.tmp 1) w.heap.size _ _ _ rfl rfl ?hx HQ1.out Tryd.underlying34 ?hd ?hi ?_); (case hx => rfl); (case hd => rfl); (case hi => rfl))
      | (go_at_call 25; (with_reducible refine (may_calls _ [h0, h1', h2', h3, h4, h5, h6, h7] R r.length rc m ?hcs rfl HN.out HM.out _).mono ?_); (case hcs => rfl); rintro e2 w2 ⟨rfl, hb2⟩; rw [HCK.out]; have HB2 := Aside0.mk (bl HB0.out hb2); have HZ2 := Aside0.mk (blk_below HQ2.out hb2); have HS2 := Aside0.mk (blk_below HQ1.out hb2); clear hb2 HQ1; dsimp only)
      | ((with_reducible refine wpList_load 34 (.tmp 1) w.heap.size _ _ _ rfl rfl ?hx HS2.out Tryd.underlying34 ?hd ?hi ?_); (case hx => rfl); (case hd => rfl); (case hi => rfl))
      | (go_at_call 23; (with_reducible refine (ended_cs _ [h0, h1', h2', h3, h4, h5, h6, h7] R rc r m ?hcs rfl w2 (Kd.C_below H1.out HB2.out) HC1.out HM.out HR64.out).mono ?_); (case hcs => rfl); rintro e3 w3 ⟨rfl, hb3⟩; rw [HVS.out]; have HB3 := Aside0.mk (bl HB2.out hb3); have HZ3 := Aside0.mk (blk_below HZ2.out hb3); clear hb3; dsimp only)
      | ((with_reducible refine wpList_store 24 (.tmp 2) (.tmp 9) (w.heap.size + 1) _ _ ⟨vs⟩ rfl rfl ?hx ?hy HZ3.out hzs hi HON.out ?_); (case hx => rfl); (case hy => rfl); intro w1 g1 g2 g3 g4; have HG1 := Aside0.mk g1; have HG3 := Aside0.mk (g3 w.heap.size w HB3.out (by omega)); clear g1 g2 g3 g4)
      | go_values | go_guarded | go_step | go_upon | go_back)
    refine bodyPost_ret (results_list (rs := [.cell 2 24, .tmp 3]) rfl (by simp) (.cell (w.heap.size + 1) _ _ (0, 0) _ rfl HG1.out Tryd.underlying24 rfl hi (.tmp .nil))) rfl ?_
    exact ⟨rfl, HG3.out⟩
  · have hb : checkA r.length m = 8 := by rcases checkA_cases r.length m with h | h; exact absurd h hck; exact h
    have HCK : Aside0 ((checkA r.length m == 0) = false) := ⟨by rw [hb]; rfl⟩
    unfold endD
    rw [if_neg hck, hb]
    clear hck hb hr
    go_enter Tryd.func14, Tryd.ntmps14
    repeat (first
      | ((with_reducible refine wpList_load 34 (.tmp 1) w.heap.size _ _ _ rfl rfl ?hx HQ1.out Tryd.underlying34 ?hd ?hi ?_); (case hx => rfl); (case hd => rfl); (case hi => rfl))
      | (go_at_call 25; (with_reducible refine (may_calls _ [h0, h1', h2', h3, h4, h5, h6, h7] R r.length rc m ?hcs rfl HN.out HM.out _).mono ?_); (case hcs => rfl); rintro e2 w2 ⟨rfl, hb2⟩; rw [HCK.out]; have HB2 := Aside0.mk (bl HB0.out hb2); have HZ2 := Aside0.mk (blk_below HQ2.out hb2); clear hb2 HQ1; dsimp only)
      | ((with_reducible refine wpList_store 24 (.tmp 2) (.tmp 7) (w.heap.size + 1) _ _ zeroD rfl rfl ?hx ?hy HZ2.out ?hs ?hi ?h1 ?_); (case h1 => exact one_u8 (List.replicate 32 0)); (case hs => rfl); (case hx => rfl); (case hy => rfl); (case hi => rfl); intro w1 g1 g2 g3 g4; have HG1 := Aside0.mk g1; have HG3 := Aside0.mk (g3 w.heap.size w HB2.out (by omega)); clear g1 g2 g3 g4)
      | go_values | go_guarded | go_step | go_upon | go_back)
    refine bodyPost_ret (results_list (rs := [.cell 2 24, .tmp 3]) rfl (by simp) (.cell (w.heap.size + 1) _ _ (0, 0) _ rfl HG1.out Tryd.underlying24 rfl rfl (.tmp .nil))) rfl ?_
    exact ⟨rfl, HG3.out⟩

set_option maxHeartbeats 4000000 in
set_option maxRecDepth 100000 in
theorem refOf_calls (A : Option Addr) (c : Nat) (l : List Int) (w : World) (h1 : Kd.C (Kd.int .u8) w A l.length l) (hc1 : l.length ≤ c) (hl : l.length ≤ 100000) :
    Calls Tryd.prog 9 #[.slice A l.length c] w fun e w' => e = .returned (.agg ⟨(ofA l).map (Value.int .u8)⟩) ∧ Below w.heap.size w w' := by
  have HQ2 := Aside0.mk (heap_alloc_new w (.cells zeroD 24))
  have HB0 := Aside0.mk (below_alloc (Below.refl w.heap.size w) (.cells zeroD 24))
  have H1 := Aside0.mk h1
  have HC1 := Aside0.mk hc1
  have HL := Aside0.mk hl
  have hm0 : ((0 : Int) + (l.length : Int)) % 18446744073709551616 = (l.length : Int) := by omega
  have HM0 := Aside0.mk hm0
  have hof : ofA l = endA (comeA H0 l).1 (comeA H0 l).2 l.length := rfl
  have hrest := comeA_rest H0 l
  have hh8 := comeA_length (hs := H0) rfl l
  generalize hq : comeA H0 l = q at *
  obtain ⟨hs1, r1⟩ := q
  dsimp only at hof hrest hh8
  have hel : (endA hs1 r1 (l.length : Int)).length = 32 := digestA_length _
  rw [hof]
  generalize hvs : (endA hs1 r1 (l.length : Int)).map (Value.int .u8) = vs
  have hone : ∀ v ∈ vs, v.oneCell' = true := by rw [← hvs]; exact one_u8 _
  have hsz2 : vs.length = 32 := by rw [← hvs, List.length_map]; exact hel
  have hi : (Tryd.prog.info? 24).map (·.size) = some (⟨vs⟩ : Array Value).size := by
    rw [show (⟨vs⟩ : Array Value).size = 32 from hsz2]
    rfl
  have hzs : zeroD.size = (⟨vs⟩ : Array Value).size := by rw [show (⟨vs⟩ : Array Value).size = 32 from hsz2]; rfl
  have HVS := Aside0.mk hvs
  have HON := Aside0.mk hone
  have HQQ := Aside0.mk hq
  have HR1 : Aside0 (r1.length < 64) := ⟨by omega⟩
  clear h1 hc1 hl hm0 hof hrest hel hvs hone hsz2 hq
  go_enter Tryd.func9, Tryd.ntmps9
  repeat (first
    | (go_at_call 19; (with_reducible refine (refBegin_calls _).mono ?_); rintro e2 w2 ⟨rfl, hb2⟩; have HB2 := Aside0.mk (bl HB0.out hb2); have HZ2 := Aside0.mk (blk_below HQ2.out hb2); clear hb2; dsimp only)
    | (go_at_call 24; (with_reducible refine (came_cs _ H0 none 0 [] 0 A c l ?hcs rfl w2 (Kd.C_nil _ _) (by decide) (Kd.C_below H1.out HB2.out) HC1.out (by have := HL.out; simp; omega)).mono ?_); (case hcs => rfl); rintro e3 w3 ⟨R3, c3, rfl, hc3, hr3, hb3⟩; rw [List.nil_append] at hc3 hr3 ⊢; rw [HQQ.out] at hc3 hr3 ⊢; rw [HM0.out]; dsimp only at hc3 hr3 ⊢; have HB3 := Aside0.mk (bl HB2.out hb3); have HZ3 := Aside0.mk (blk_below HZ2.out hb3); have HC3 := Aside0.mk hc3; have HF3 := Aside0.mk hr3; clear hc3 hr3 hb3)
    | (go_at_call 23; (with_reducible refine (ended_cs _ hs1 R3 c3 r1 (l.length : Int) ?hcs hh8 w3 (Kd.F_now HF3.out) HC3.out (by omega) HR1.out).mono ?_); (case hcs => rfl); rintro e4 w4 ⟨rfl, hb4⟩; rw [HVS.out]; have HB4 := Aside0.mk (bl HB3.out hb4); have HZ4 := Aside0.mk (blk_below HZ3.out hb4); clear hb4; dsimp only)
    | ((with_reducible refine wpList_store 24 (.tmp 2) (.tmp 6) w.heap.size _ _ ⟨vs⟩ rfl rfl ?hx ?hy HZ4.out hzs hi HON.out ?_); (case hx => rfl); (case hy => rfl); intro w1 g1 g2 g3 g4; have HG1 := Aside0.mk g1; have HG3 := Aside0.mk (g3 w.heap.size w HB4.out (by omega)); clear g1 g2 g3 g4)
    | go_values | go_guarded | go_step | go_upon | go_back)
  refine bodyPost_ret (results_single rfl (.cell w.heap.size _ _ (0, 0) _ rfl HG1.out Tryd.underlying24 rfl hi .nil)) rfl ?_
  exact ⟨rfl, HG3.out⟩

set_option maxHeartbeats 4000000 in
set_option maxRecDepth 100000 in
/-- Two digests under way, of the same words, rest and count. -/
theorem refSame_calls (cs1 cs2 : Array Value) (hs : List Int) (R1 : Option Addr) (c1 : Nat) (R2 : Option Addr) (c2 : Nat) (r : List Int) (m : Int) (hcs1 : cs1 = sumC hs R1 r.length c1 m) (hcs2 : cs2 = sumC hs R2 r.length c2 m) (hh : hs.length = 8) (w : World) (h1 : Kd.C (Kd.int .u8) w R1 r.length r) (h2 : Kd.C (Kd.int .u8) w R2 r.length r) :
    Calls Tryd.prog 15 #[.agg cs1, .agg cs2] w fun e w' => e = .returned (.bool true) ∧ Below w.heap.size w w' := by
  subst hcs1 hcs2
  have hi8 : (Tryd.prog.info? 31).map (·.size) = some (hs.map (Value.int .u32)).length := by
    rw [List.length_map, hh]
    rfl
  obtain ⟨hq1, hq2⟩ := alloc2 w (.cells (sumC hs R1 r.length c1 m) 34) (.cells (sumC hs R2 r.length c2 m) 34)
  have hb0 := below_alloc (below_alloc (Below.refl w.heap.size w) (.cells (sumC hs R1 r.length c1 m) 34)) (.cells (sumC hs R2 r.length c2 m) 34)
  go_enter Tryd.func15, Tryd.ntmps15
  repeat ((fail_if_success (with_reducible refine gate_dst (N := 5) rfl ?_)); (first | go_values | go_guarded | go_step | go_upon | go_back))
  generalize hX0 : (w.alloc _).alloc _ = W0
  have hX : (w.alloc (.cells (sumC hs R1 r.length c1 m) 34)).alloc (.cells (sumC hs R2 r.length c2 m) 34) = W0 := hX0
  rw [hX] at hq1 hq2 hb0
  clear hX hX0
  have hcv := Kd.C_string (P := Tryd.prog) (src := 22) (dst := 9) (c := c1) Tryd.underlying22 Tryd.underlying5 Tryd.underlying9 (Kd.C_below h1 hb0)
  have hcw := Kd.C_string (P := Tryd.prog) (src := 22) (dst := 9) (c := c2) Tryd.underlying22 Tryd.underlying5 Tryd.underlying9 (Kd.C_below h2 hb0)
  have hew := eq_words hh W0
  have ha8 : W0.cell? ⟨w.heap.size, 8, none⟩ = some (.slice R1 r.length c1) := (blk_cell hq1 8).trans (sum_cell8 R1 r.length c1 m hh)
  have ha9 : W0.cell? ⟨w.heap.size, 9, none⟩ = some (.int .u64 m) := (blk_cell hq1 9).trans (sum_cell9 R1 r.length c1 m hh)
  have hb8 : W0.cell? ⟨w.heap.size + 1, 8, none⟩ = some (.slice R2 r.length c2) := (blk_cell hq2 8).trans (sum_cell8 R2 r.length c2 m hh)
  have hb9 : W0.cell? ⟨w.heap.size + 1, 9, none⟩ = some (.int .u64 m) := (blk_cell hq2 9).trans (sum_cell9 R2 r.length c2 m hh)
  have HQ1 := Aside0.mk hq1
  have HQ2 := Aside0.mk hq2
  have HB0 := Aside0.mk hb0
  clear hq1 hq2 hb0 h1 h2
  repeat (first
    | ((with_reducible refine wpList_part_g 31 (.tmp 5) w.heap.size _ (hs.map (Value.int .u32)) _ _ ?hw rfl ?hx HQ1.out Tryd.underlying31 ?hd hi8 ?_); (case hw => rfl); (case hx => rfl); (case hd => rfl))
    | ((with_reducible refine wpList_part_g 31 (.tmp 7) (w.heap.size + 1) _ (hs.map (Value.int .u32)) _ _ ?hw rfl ?hx HQ2.out Tryd.underlying31 ?hd hi8 ?_); (case hw => rfl); (case hx => rfl); (case hd => rfl))
    | go_values | go_guarded | go_step | go_upon | go_back)
  go_ret
  exact ⟨rfl, HB0.out⟩
end Go.Proofs.YtfijclinefmbfaaDoor
