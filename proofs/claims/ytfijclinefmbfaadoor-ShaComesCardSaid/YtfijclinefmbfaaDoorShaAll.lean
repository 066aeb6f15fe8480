/-
sha.Of: the digest of parts.
-/
import Derived.Test.YtfijclinefmbfaaDoorShaEnd
namespace Go.Proofs.YtfijclinefmbfaaDoor
open Go.RowKit Go.Proofs.YtfijclinefmbfaaDoorW.PrintWords Go.Proofs.YtfijclinefmbfaaDoorW.PrintLast Go.Proofs.YtfijclinefmbfaaDoorW.PrintMore Go.Proofs.YtfijclinefmbfaaDoor.PAll
set_option linter.unusedVariables false
set_option linter.unusedSimpArgs false

theorem comeA_ind {P : List Int → List Int → Prop} (h1 : ∀ hs r, r.length < 64 → P hs r) (h2 : ∀ hs r, ¬ r.length < 64 → P (turnA hs (r.take 64)) (r.drop 64) → P hs r) : ∀ (n : Nat) (hs r : List Int), r.length ≤ n → P hs r
  | 0, hs, r, h => h1 hs r (by omega)
  | n + 1, hs, r, h => by
    by_cases hl : r.length < 64
    · exact h1 hs r hl
    · exact h2 hs r hl (comeA_ind h1 h2 n _ _ (by rw [List.length_drop]; omega))
/-- Bytes come one behind the other. -/
theorem comeA_append (hs r b : List Int) : comeA (comeA hs r).1 ((comeA hs r).2 ++ b) = comeA hs (r ++ b) := by
  refine comeA_ind (P := fun hs r => comeA (comeA hs r).1 ((comeA hs r).2 ++ b) = comeA hs (r ++ b)) ?_ ?_ r.length hs r (Nat.le_refl _)
  · intro hs r hl
    rw [comeA_small hl]
  · intro hs r hl ih
    rw [comeA_step hl, ih, comeA_step (r := r ++ b) (by rw [List.length_append]; omega), List.take_append_of_le_length (by omega), List.drop_append_of_le_length (by omega)]
theorem comeA_rest (hs r : List Int) : (comeA hs r).2.length = r.length % 64 := by
  refine comeA_ind (P := fun hs r => (comeA hs r).2.length = r.length % 64) ?_ ?_ r.length hs r (Nat.le_refl _)
  · intro hs r hl
    rw [comeA_small hl]
    exact (Nat.mod_eq_of_lt hl).symm
  · intro hs r hl ih
    rw [comeA_step hl, ih, List.length_drop]
    omega
def ofA (l : List Int) : List Int := endA (comeA H0 l).1 (comeA H0 l).2 l.length
/-- The parts' bytes, one behind the other. -/
def flatP (ps : List (Option Addr × Nat × List Int)) : List Int := (ps.map (·.2.2)).flatten
theorem flatP_step {ps : List (Option Addr × Nat × List Int)} {i : Nat} (h : i < ps.length) : flatP (ps.take (i + 1)) = flatP (ps.take i) ++ (ps[i]).2.2 := by
  unfold flatP
  rw [List.take_succ_eq_append_getElem h, List.map_append, List.flatten_append]
  simp
theorem flatP_le {ps : List (Option Addr × Nat × List Int)} (i : Nat) : (flatP (ps.take i)).length ≤ (flatP ps).length := by
  conv => rhs; rw [← List.take_append_drop i ps]
  unfold flatP
  rw [List.map_append, List.flatten_append, List.length_append]
  omega
theorem flatP_all (ps : List (Option Addr × Nat × List Int)) : flatP (ps.take ps.length) = flatP ps := by rw [List.take_length]
theorem end_cs (cs : Array Value) (hs : List Int) (R : Option Addr) (rc : Nat) (r : List Int) (m : Int) (hcs : cs = sumC hs R r.length rc m) (hh : hs.length = 8) (w : World) (h1 : Kd.C (Kd.int .u8) w R r.length r) (hc1 : r.length ≤ rc) (hk : Ktab w) (hm : 0 ≤ m) (hb : checkA r.length m = 0) :
    Calls Tryd.prog 13 #[.agg cs] w fun e w' => e = .returned (.tuple #[.agg ⟨(endA hs r m).map (Value.int .u8)⟩, .int .i64 0]) ∧ Below w.heap.size w w' := by
  subst hcs
  exact end_ok hs R rc r m hh w h1 hc1 hk hm hb

set_option maxHeartbeats 4000000 in
set_option maxRecDepth 100000 in
theorem of_calls (G : Option Addr) (c0 : Nat) (ps : List (Option Addr × Nat × List Int)) (w : World) (hps : ∀ i p, ps[i]? = some p → (∃ gb, G = some ⟨gb, 0, none⟩ ∧ w.cell? ⟨gb, i, none⟩ = some (.slice p.1 p.2.2.length p.2.1)) ∧ Kd.C (Kd.int .u8) w p.1 p.2.2.length p.2.2 ∧ p.2.2.length ≤ p.2.1)
    (hn : ps.length ≤ 1000) (htot : (flatP ps).length ≤ 100000) (hk : Ktab w) :
    Calls Tryd.prog 8 #[.slice G ps.length c0] w fun e w' => e = .returned (.agg ⟨(ofA (flatP ps)).map (Value.int .u8)⟩) ∧ Below w.heap.size w w' := by
  have HPS := Aside0.mk hps
  have HTOT := Aside0.mk htot
  have HK := Aside0.mk hk
  have HZ0 := Aside0.mk (heap_alloc_new w (.cells zeroDigest 24))
  have HB0 := Aside0.mk (below_alloc (Below.refl w.heap.size w) (.cells zeroDigest 24))
  have hnn : (ps.length : Int) ≤ 1000 := by omega
  clear hps htot hk
  go_enter Tryd.func8, Tryd.ntmps8
  repeat (first
    | (go_at_call 18; (with_reducible refine (begin_calls _).mono ?_); rintro e2 w2 ⟨rfl, hb2⟩; have HB2 := Aside0.mk (below_alloc (bl HB0.out hb2) (.cells #[.int .u32 0, .int .u32 0, .int .u32 0, .int .u32 0, .int .u32 0, .int .u32 0, .int .u32 0, .int .u32 0, .slice none 0 0, .int .u64 0] 34)); have HZ2 := Aside0.mk (blk_alloc (blk_below HZ0.out hb2) (.cells #[.int .u32 0, .int .u32 0, .int .u32 0, .int .u32 0, .int .u32 0, .int .u32 0, .int .u32 0, .int .u32 0, .slice none 0 0, .int .u64 0] 34)); have HG2 := Aside0.mk (heap_alloc_new w2 (.cells #[.int .u32 0, .int .u32 0, .int .u32 0, .int .u32 0, .int .u32 0, .int .u32 0, .int .u32 0, .int .u32 0, .slice none 0 0, .int .u64 0] 34)); have HLT := Aside0.mk (show w.heap.size < w2.heap.size from blk_lt (blk_below HZ0.out hb2)); clear hb2; dsimp only)
    | ((with_reducible refine wpList_store 34 (.tmp 3) (.tmp 8) w2.heap.size _ _ (sumC H0 none 0 0 0) rfl rfl ?hx ?hy HG2.out ?hs ?hi ?h1 ?_); (case h1 => exact one_sum _ _ _ rfl rfl); (case hs => rfl); (case hx => rfl); (case hy => rfl); (case hi => rfl); intro w3 g1 g2 g3 g4; have HG3 := Aside0.mk g1; have HB3 := Aside0.mk (g3 w.heap.size w HB2.out (Nat.le_of_lt HLT.out)); have HZ3 := Aside0.mk ((g2 w.heap.size (by have := HLT.out; omega)).trans HZ2.out); clear g1 g2 g3 g4)
    | go_values | go_guarded | go_step | go_upon | go_back)
  have hsz := HLT.out
  generalize w2.heap.size = g3 at *
  clear HG2 HZ2 HB2 HZ0 HB0
  go_loopw [11] (fun i wr => ∃ (k : Nat) (R : Option Addr) (c : Nat), i = .int .i64 k ∧ k ≤ ps.length ∧ (comeA H0 (flatP (ps.take k))).2.length ≤ c ∧ Aside0 (wr.heap[g3]? = some (.cells (sumC (comeA H0 (flatP (ps.take k))).1 R (comeA H0 (flatP (ps.take k))).2.length c ((flatP (ps.take k)).length : Int)) 34 (0, 0))) ∧ Aside0 (wr.heap[w.heap.size]? = some (.cells zeroDigest 24 (0, 0))) ∧ Aside0 (Kd.F (Kd.int .u8) wr (fun k => g3 < k) R (comeA H0 (flatP (ps.take k))).2.length (comeA H0 (flatP (ps.take k))).2) ∧ Aside0 (Below w.heap.size w wr)) (fun i _ => ps.length - (intOf i).toNat)
  case atStart => exact ⟨0, none, 0, rfl, by omega, by simp [flatP, comeA_small], ⟨by have := HG3.out; simpa [flatP, comeA_small] using this⟩, HZ3, ⟨by simpa [flatP, comeA_small] using Kd.F_nil (Kd.int .u8) w3 (fun k => g3 < k)⟩, HB3⟩
  case round =>
    clear HG3 HZ3 HB3
    obtain ⟨k, R, c, rfl, hkn, hrc, HG, HZ, HF, HB⟩ := hrel
    by_cases hlt : k < ps.length
    · have hd1 : decide ((k : Int) < (ps.length : Int)) = true := decide_eq_true (by omega)
      have hlt2 : (k : Int) < (ps.length : Int) := by omega
      obtain ⟨⟨gb, rfl, hcell⟩, hC, hcap⟩ := HPS.out k ps[k] (List.getElem?_eq_getElem hlt)
      have hstep := flatP_step hlt
      have hle := flatP_le (ps := ps) (k + 1)
      have htot := HTOT.out
      rw [hstep, List.length_append] at hle
      have hcw := pw_cell_below HB.out hcell
      generalize ps[k] = p at hcell hC hcap hstep hle hcw
      obtain ⟨A, cA, l⟩ := p
      have happ := comeA_append H0 (flatP (ps.take k)) l
      rw [← hstep] at happ
      have hrl := comeA_rest H0 (flatP (ps.take k))
      have hlen : (flatP (ps.take (k + 1))).length = (flatP (ps.take k)).length + l.length := by rw [hstep, List.length_append]
      have hh8 := comeA_length (hs := H0) rfl (flatP (ps.take k))
      have hh9 := comeA_length (hs := H0) rfl (flatP (ps.take (k + 1)))
      have HCW := Aside0.mk hcw
      have HC := Aside0.mk (Kd.C_below hC HB.out)
      have HCAP := Aside0.mk hcap
      have HAPP := Aside0.mk happ
      have HLEN := Aside0.mk hlen
      have HH9 := Aside0.mk hh9
      have HRC := Aside0.mk hrc
      have HBND : Aside0 ((comeA H0 (flatP (ps.take k))).2.length + l.length ≤ 1000000) := ⟨by rw [hrl]; simp only at hle; omega⟩
      have HBN2 : Aside0 (((flatP (ps.take k)).length : Int) + (l.length : Int) < 1000000) := ⟨by simp only at hle; omega⟩
      dsimp only at hcw
      have HLE := Aside0.mk hlt
      clear hcell hC hcap happ hlen hrc hstep hle hrl htot hh9 hlt HCW hkn
      generalize comeA H0 (flatP (ps.take k)) = q0 at HG HF hh8 HAPP HRC HBND
      generalize hm0 : ((flatP (ps.take k)).length : Int) = m0 at HG HBN2
      generalize hq1 : comeA H0 (flatP (ps.take (k + 1))) = q1 at HAPP HH9
      obtain ⟨hs0, r0⟩ := q0
      dsimp only at HG HF hh8 HAPP HRC HBND
      have HM0 := Aside0.mk hm0
      have HQ1 := Aside0.mk hq1
      clear hm0 hq1
      repeat (first
        | ((with_reducible refine wpList_load 34 (.tmp 3) g3 _ _ _ rfl rfl ?hx HG.out Tryd.underlying34 ?hd ?hi ?_); (case hx => rfl); (case hd => rfl); (case hi => rw [sum_size _ _ _ _ hh8]; rfl))
        | (go_at_call 22; (with_reducible refine (come_cs _ hs0 R c r0 m0 A cA l ?hcs hh8 wr (Kd.F_now HF.out) HRC.out HC.out HCAP.out HBND.out (HK.out.below HB.out)).mono ?_); (case hcs => rfl); rintro e3 w3 ⟨R3, c3, rfl, hc3, hr3, hb3⟩; rw [HAPP.out] at hc3 hr3 ⊢; have HB3 := Aside0.mk (bl HB.out hb3); have HZ3 := Aside0.mk (blk_below HZ.out hb3); have HG3 := Aside0.mk (blk_below HG.out hb3); have HC3 := Aside0.mk hc3; have hgl := blk_lt HG.out; have HF3 := Aside0.mk (Kd.F_mono (Kd.R_F (Kd.R_bound hr3)) (ok' := fun k => g3 < k) (fun k hk => by have := hk.2.1; omega)); clear hc3 hr3 hb3 hgl; dsimp only)
        | ((with_reducible refine wpList_store 34 (.tmp 3) (.tmp 17) g3 _ _ (sumC q1.1 R3 q1.2.length c3 ((m0 + (l.length : Int)) % 18446744073709551616)) rfl rfl ?hx ?hy HG3.out ?hs ?hi ?h1 ?_); (case h1 => exact one_sum _ _ _ rfl rfl); (case hs => rw [sum_size _ _ _ _ hh8, sum_size _ _ _ _ HH9.out]); (case hx => rfl); (case hy => rfl); (case hi => rw [sum_size _ _ _ _ HH9.out]; rfl); intro w4 g1 g2 g3' g4; have HG4 := Aside0.mk g1; have HB4 := Aside0.mk (g3' w.heap.size w HB3.out (Nat.le_of_lt hsz)); have HZ4 := Aside0.mk ((g2 w.heap.size (by omega)).trans HZ3.out); have HF4 := Aside0.mk (Kd.F_step HF3.out (fun k hk _ => g2 k (by omega))); clear g1 g2 g3' g4)
        | go_values | go_guarded | go_step | go_upon | go_back)
      have hm1 : (m0 + (l.length : Int)) % 18446744073709551616 = ((flatP (ps.take (k + 1))).length : Int) := by
        have := HBN2.out
        rw [HLEN.out, ← HM0.out]
        push_cast
        rw [← HM0.out] at this
        omega
      have hg4 := HG4.out
      have hf4 := HF4.out
      have hc4 := HC3.out
      rw [hm1] at hg4
      have hq := HQ1.out
      subst hq
      exact ⟨⟨k + 1, R3, c3, rfl, by have := HLE.out; omega, hc4, ⟨hg4⟩, HZ4, ⟨hf4⟩, HB4⟩, by have := HLE.out; simp [intOf]; omega⟩
    · have hd1 : decide ((k : Int) < (ps.length : Int)) = false := decide_eq_false (by omega)
      have hkk : k = ps.length := by omega
      subst hkk
      rw [flatP_all] at hrc HG HF
      have hh8 := comeA_length (hs := H0) rfl (flatP ps)
      have hrl := comeA_rest H0 (flatP ps)
      have hck : checkA (comeA H0 (flatP ps)).2.length ((flatP ps).length : Int) = 0 := by
        have := HTOT.out
        unfold checkA
        rw [if_neg (by omega), if_neg (by rw [hrl]; simp)]
      have HCK := Aside0.mk hck
      have HRC := Aside0.mk hrc
      have hnn : (0 : Int) ≤ ((flatP ps).length : Int) := by omega
      have HNN := Aside0.mk hnn
      have HE : Aside0 (ofA (flatP ps) = endA (comeA H0 (flatP ps)).1 (comeA H0 (flatP ps)).2 ((flatP ps).length : Int)) := ⟨rfl⟩
      clear hrl hck hrc hnn hlt hkn
      generalize comeA H0 (flatP ps) = q0 at *
      generalize ((flatP ps).length : Int) = m0 at *
      obtain ⟨hs0, r0⟩ := q0
      dsimp only at HG HF hh8 HRC HCK HE
      have hel : (endA hs0 r0 m0).length = 32 := digestA_length _
      generalize hvs : (endA hs0 r0 m0).map (Value.int .u8) = vs
      have hone : ∀ v ∈ vs, v.oneCell' = true := by rw [← hvs]; exact one_u8 _
      have hsz2 : vs.length = 32 := by rw [← hvs, List.length_map]; exact hel
      have hi : (Tryd.prog.info? 24).map (·.size) = some (⟨vs⟩ : Array Value).size := by
        rw [show (⟨vs⟩ : Array Value).size = 32 from hsz2]
        rfl
      have hzs : zeroDigest.size = (⟨vs⟩ : Array Value).size := by rw [show (⟨vs⟩ : Array Value).size = 32 from hsz2]; rfl
      have HVS := Aside0.mk hvs
      have HON := Aside0.mk hone
      clear hvs hone hel
      repeat (first
        | ((with_reducible refine wpList_load 34 (.tmp 3) g3 _ _ _ rfl rfl ?hx HG.out Tryd.underlying34 ?hd ?hi ?_); (case hx => rfl); (case hd => rfl); (case hi => rw [sum_size _ _ _ _ hh8]; rfl))
        | (go_at_call 13; (with_reducible refine (end_cs _ hs0 R c r0 m0 ?hcs hh8 wr (Kd.F_now HF.out) HRC.out (HK.out.below HB.out) HNN.out HCK.out).mono ?_); (case hcs => rfl); rintro e3 w3 ⟨rfl, hb3⟩; rw [HVS.out]; have HB3 := Aside0.mk (below_alloc (bl HB.out hb3) (.cells #[.int .u8 0, .int .u8 0, .int .u8 0, .int .u8 0, .int .u8 0, .int .u8 0, .int .u8 0, .int .u8 0, .int .u8 0, .int .u8 0, .int .u8 0, .int .u8 0, .int .u8 0, .int .u8 0, .int .u8 0, .int .u8 0, .int .u8 0, .int .u8 0, .int .u8 0, .int .u8 0, .int .u8 0, .int .u8 0, .int .u8 0, .int .u8 0, .int .u8 0, .int .u8 0, .int .u8 0, .int .u8 0, .int .u8 0, .int .u8 0, .int .u8 0, .int .u8 0] 24)); have HZ3 := Aside0.mk (blk_alloc (blk_below HZ.out hb3) (.cells #[.int .u8 0, .int .u8 0, .int .u8 0, .int .u8 0, .int .u8 0, .int .u8 0, .int .u8 0, .int .u8 0, .int .u8 0, .int .u8 0, .int .u8 0, .int .u8 0, .int .u8 0, .int .u8 0, .int .u8 0, .int .u8 0, .int .u8 0, .int .u8 0, .int .u8 0, .int .u8 0, .int .u8 0, .int .u8 0, .int .u8 0, .int .u8 0, .int .u8 0, .int .u8 0, .int .u8 0, .int .u8 0, .int .u8 0, .int .u8 0, .int .u8 0, .int .u8 0] 24)); have HG3 := Aside0.mk (heap_alloc_new w3 (.cells #[.int .u8 0, .int .u8 0, .int .u8 0, .int .u8 0, .int .u8 0, .int .u8 0, .int .u8 0, .int .u8 0, .int .u8 0, .int .u8 0, .int .u8 0, .int .u8 0, .int .u8 0, .int .u8 0, .int .u8 0, .int .u8 0, .int .u8 0, .int .u8 0, .int .u8 0, .int .u8 0, .int .u8 0, .int .u8 0, .int .u8 0, .int .u8 0, .int .u8 0, .int .u8 0, .int .u8 0, .int .u8 0, .int .u8 0, .int .u8 0, .int .u8 0, .int .u8 0] 24)); have hw3 : w.heap.size < w3.heap.size := blk_lt (blk_below HZ.out hb3); clear hb3; dsimp only)
        | ((with_reducible refine wpList_store 24 (.tmp 6) (.tmp 22) w3.heap.size _ _ ⟨vs⟩ rfl rfl ?hx ?hy HG3.out ?hs hi HON.out ?_); (case hs => exact hzs); (case hx => rfl); (case hy => rfl); intro w9 g1 g2 g3' g4; have HG9 := Aside0.mk g1; have HZ9 := Aside0.mk ((g2 w.heap.size (by omega)).trans HZ3.out); have HB9 := Aside0.mk (g3' w.heap.size w HB3.out (Nat.le_of_lt hw3)); generalize w3.heap.size = g6 at *; clear g1 g2 g3' g4)
        | ((with_reducible refine wpList_load 24 (.tmp 6) g6 _ _ _ rfl rfl ?hx HG9.out Tryd.underlying24 ?hd hi ?_); (case hx => rfl); (case hd => rfl))
        | ((with_reducible refine wpList_store 24 (.tmp 2) (.tmp 24) w.heap.size _ _ ⟨vs⟩ rfl rfl ?hx ?hy HZ9.out ?hs hi HON.out ?_); (case hs => exact hzs); (case hx => rfl); (case hy => rfl); intro w10 g1 g2 g3' g4; have HG10 := Aside0.mk g1; have HB10 := Aside0.mk (g3' w.heap.size w HB9.out (Nat.le_refl _)); clear g1 g2 g3' g4)
        | go_values | go_guarded | go_step | go_upon | go_back)
      refine bodyPost_ret (results_single rfl (.cell w.heap.size _ _ (0, 0) _ rfl HG10.out Tryd.underlying24 rfl hi .nil)) rfl ?_
      exact ⟨by rw [HE.out, HVS.out], HB10.out⟩
end Go.Proofs.YtfijclinefmbfaaDoor
