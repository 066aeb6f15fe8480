/-
sha.Of: the digest of parts.
-/
import Derived.Test.YtncipbbdboeinaaDoorShaEnd
import Derived.Deep.RegionWith
import Derived.Lib.SlBytesConst
namespace Go.Proofs.YtncipbbdboeinaaDoor
open Go.RowKit Go.Proofs.YtncipbbdboeinaaDoorW.PrintWords Go.Proofs.YtncipbbdboeinaaDoorW.PrintLast Go.Proofs.YtncipbbdboeinaaDoorW.PrintMore Go.Proofs.YtncipbbdboeinaaDoor.PAll
set_option linter.unusedVariables false
set_option linter.unusedSimpArgs false

theorem comeA_ind {P : List Int → List Int → Prop} (h1 : ∀ hs r, r.length < 64 → P hs r) (h2 : ∀ hs r, ¬ r.length < 64 → P (turnA hs (r.take 64)) (r.drop 64) → P hs r) : ∀ (n : Nat) (hs r : List Int), r.length ≤ n → P hs r
  | 0, hs, r, h => h1 hs r (by omega)
  | n + 1, hs, r, h => by
    by_cases hl : r.length < 64
    · exact h1 hs r hl
    · exact h2 hs r hl (comeA_ind h1 h2 n _ _ (by rw [List.length_drop]; omega))
/-- Bytes come one behind the other. -/
theorem comeA_append (hs r b : List Int) : comeA (comeA hs r).1 ((comeA hs r).2 ++ b) = comeA hs (r ++ b) := by
  refine comeA_ind (P := fun hs r => comeA (comeA hs r).1 ((comeA hs r).2 ++ b) = comeA hs (r ++ b)) ?_ ?_ r.length hs r (Nat.le_refl _)
  · intro hs r hl
    rw [comeA_small hl]
  · intro hs r hl ih
    rw [comeA_step hl, ih, comeA_step (r := r ++ b) (by rw [List.length_append]; omega), List.take_append_of_le_length (by omega), List.drop_append_of_le_length (by omega)]
theorem comeA_rest (hs r : List Int) : (comeA hs r).2.length = r.length % 64 := by
  refine comeA_ind (P := fun hs r => (comeA hs r).2.length = r.length % 64) ?_ ?_ r.length hs r (Nat.le_refl _)
  · intro hs r hl
    rw [comeA_small hl]
    exact (Nat.mod_eq_of_lt hl).symm
  · intro hs r hl ih
    rw [comeA_step hl, ih, List.length_drop]
    omega
def ofA (l : List Int) : List Int := endA (comeA H0 l).1 (comeA H0 l).2 l.length
/-- The parts' bytes, one behind the other. -/
def flatP (ps : List (Option Addr × Nat × List Int)) : List Int := (ps.map (·.2.2)).flatten
theorem flatP_step {ps : List (Option Addr × Nat × List Int)} {i : Nat} (h : i < ps.length) : flatP (ps.take (i + 1)) = flatP (ps.take i) ++ (ps[i]).2.2 := by
  unfold flatP
  rw [List.take_succ_eq_append_getElem h, List.map_append, List.flatten_append]
  simp
theorem flatP_le {ps : List (Option Addr × Nat × List Int)} (i : Nat) : (flatP (ps.take i)).length ≤ (flatP ps).length := by
  conv => rhs; rw [← List.take_append_drop i ps]
  unfold flatP
  rw [List.map_append, List.flatten_append, List.length_append]
  omega
theorem flatP_all (ps : List (Option Addr × Nat × List Int)) : flatP (ps.take ps.length) = flatP ps := by rw [List.take_length]
theorem end_cs (cs : Array Value) (hs : List Int) (R : Option Addr) (rc : Nat) (r : List Int) (m : Int) (hcs : cs = sumC hs R r.length rc m) (hh : hs.length = 8) (w : World) (h1 : Kd.C (Kd.int .u8) w R r.length r) (hc1 : r.length ≤ rc) (hk : Ktab w) (hm : 0 ≤ m) (hb : checkA r.length m = 0) :
    Calls Tryd.prog 20 #[.agg cs] w fun e w' => e = .returned (.tuple #[.agg ⟨(endA hs r m).map (Value.int .u8)⟩, .int .i64 0]) ∧ Below w.heap.size w w' := by
  subst hcs
  exact end_ok hs R rc r m hh w h1 hc1 hk hm hb

set_option maxHeartbeats 4000000 in
set_option maxRecDepth 100000 in
theorem of_calls (G : Option Addr) (c0 : Nat) (ps : List (Option Addr × Nat × List Int)) (w : World) (hps : ∀ i p, ps[i]? = some p → (∃ gb, G = some ⟨gb, 0, none⟩ ∧ w.cell? ⟨gb, i, none⟩ = some (.slice p.1 p.2.2.length p.2.1)) ∧ Kd.C (Kd.int .u8) w p.1 p.2.2.length p.2.2 ∧ p.2.2.length ≤ p.2.1)
    (hn : ps.length ≤ 1000) (htot : (flatP ps).length ≤ 100000) (hk : Ktab w) :
    Calls Tryd.prog 13 #[.slice G ps.length c0] w fun e w' => e = .returned (.agg ⟨(ofA (flatP ps)).map (Value.int .u8)⟩) ∧ Below w.heap.size w w' := by
  have HPS := Aside0.mk hps
  have HTOT := Aside0.mk htot
  have HK := Aside0.mk hk
  have HZ0 := Aside0.mk (heap_alloc_new w (.cells zeroDigest 29))
  have HB0 := Aside0.mk (below_alloc (Below.refl w.heap.size w) (.cells zeroDigest 29))
  have hnn : (ps.length : Int) ≤ 1000 := by omega
  clear hps htot hk
  go_enter Tryd.func13, Tryd.ntmps13
  repeat (first
    | (go_at_call 18; (with_reducible refine (begin_calls _).mono ?_); rintro e2 w2 ⟨rfl, hb2⟩; have HB2 := Aside0.mk (below_alloc (bl HB0.out hb2) (.cells #[.int .u32 0, .int .u32 0, .int .u32 0, .int .u32 0, .int .u32 0, .int .u32 0, .int .u32 0, .int .u32 0, .slice none 0 0, .int .u64 0] 55)); have HZ2 := Aside0.mk (blk_alloc (blk_below HZ0.out hb2) (.cells #[.int .u32 0, .int .u32 0, .int .u32 0, .int .u32 0, .int .u32 0, .int .u32 0, .int .u32 0, .int .u32 0, .slice none 0 0, .int .u64 0] 55)); have HG2 := Aside0.mk (heap_alloc_new w2 (.cells #[.int .u32 0, .int .u32 0, .int .u32 0, .int .u32 0, .int .u32 0, .int .u32 0, .int .u32 0, .int .u32 0, .slice none 0 0, .int .u64 0] 55)); have HLT := Aside0.mk (show w.heap.size < w2.heap.size from blk_lt (blk_below HZ0.out hb2)); clear hb2; dsimp only)
    | ((with_reducible refine wpList_store 55 (.tmp 3) (.tmp 8) w2.heap.size _ _ (sumC H0 none 0 0 0) rfl rfl ?hx ?hy HG2.out ?hs ?hi ?h1 ?_); (case h1 => exact one_sum _ _ _ rfl rfl); (case hs => rfl); (case hx => rfl); (case hy => rfl); (case hi => rfl); intro w3 g1 g2 g3 g4; have HG3 := Aside0.mk g1; have HB3 := Aside0.mk (g3 w.heap.size w HB2.out (Nat.le_of_lt HLT.out)); have HZ3 := Aside0.mk ((g2 w.heap.size (by have := HLT.out; omega)).trans HZ2.out); clear g1 g2 g3 g4)
    | go_values | go_guarded | go_step | go_upon | go_back)
  have hsz := HLT.out
  generalize w2.heap.size = g3 at *
  clear HG2 HZ2 HB2 HZ0 HB0
  go_loopw [11] (fun i wr => ∃ (k : Nat) (R : Option Addr) (c : Nat), i = .int .i64 k ∧ k ≤ ps.length ∧ (comeA H0 (flatP (ps.take k))).2.length ≤ c ∧ Aside0 (wr.heap[g3]? = some (.cells (sumC (comeA H0 (flatP (ps.take k))).1 R (comeA H0 (flatP (ps.take k))).2.length c ((flatP (ps.take k)).length : Int)) 55 (0, 0))) ∧ Aside0 (wr.heap[w.heap.size]? = some (.cells zeroDigest 29 (0, 0))) ∧ Aside0 (Kd.F (Kd.int .u8) wr (fun k => g3 < k) R (comeA H0 (flatP (ps.take k))).2.length (comeA H0 (flatP (ps.take k))).2) ∧ Aside0 (Below w.heap.size w wr)) (fun i _ => ps.length - (intOf i).toNat)
  case atStart => exact ⟨0, none, 0, rfl, by omega, by simp [flatP, comeA_small], ⟨by have := HG3.out; simpa [flatP, comeA_small] using this⟩, HZ3, ⟨by simpa [flatP, comeA_small] using Kd.F_nil (Kd.int .u8) w3 (fun k => g3 < k)⟩, HB3⟩
  case round =>
    clear HG3 HZ3 HB3
    obtain ⟨k, R, c, rfl, hkn, hrc, HG, HZ, HF, HB⟩ := hrel
    by_cases hlt : k < ps.length
    · have hd1 : decide ((k : Int) < (ps.length : Int)) = true := decide_eq_true (by omega)
      have hlt2 : (k : Int) < (ps.length : Int) := by omega
      obtain ⟨⟨gb, rfl, hcell⟩, hC, hcap⟩ := HPS.out k ps[k] (List.getElem?_eq_getElem hlt)
      have hstep := flatP_step hlt
      have hle := flatP_le (ps := ps) (k + 1)
      have htot := HTOT.out
      rw [hstep, List.length_append] at hle
      have hcw := pw_cell_below HB.out hcell
      generalize ps[k] = p at hcell hC hcap hstep hle hcw
      obtain ⟨A, cA, l⟩ := p
      have happ := comeA_append H0 (flatP (ps.take k)) l
      rw [← hstep] at happ
      have hrl := comeA_rest H0 (flatP (ps.take k))
      have hlen : (flatP (ps.take (k + 1))).length = (flatP (ps.take k)).length + l.length := by rw [hstep, List.length_append]
      have hh8 := comeA_length (hs := H0) rfl (flatP (ps.take k))
      have hh9 := comeA_length (hs := H0) rfl (flatP (ps.take (k + 1)))
      have HCW := Aside0.mk hcw
      have HC := Aside0.mk (Kd.C_below hC HB.out)
      have HCAP := Aside0.mk hcap
      have HAPP := Aside0.mk happ
      have HLEN := Aside0.mk hlen
      have HH9 := Aside0.mk hh9
      have HRC := Aside0.mk hrc
      have HBND : Aside0 ((comeA H0 (flatP (ps.take k))).2.length + l.length ≤ 1000000) := ⟨by rw [hrl]; simp only at hle; omega⟩
      have HBN2 : Aside0 (((flatP (ps.take k)).length : Int) + (l.length : Int) < 1000000) := ⟨by simp only at hle; omega⟩
      dsimp only at hcw
      have HLE := Aside0.mk hlt
      clear hcell hC hcap happ hlen hrc hstep hle hrl htot hh9 hlt HCW hkn
      generalize comeA H0 (flatP (ps.take k)) = q0 at HG HF hh8 HAPP HRC HBND
      generalize hm0 : ((flatP (ps.take k)).length : Int) = m0 at HG HBN2
      generalize hq1 : comeA H0 (flatP (ps.take (k + 1))) = q1 at HAPP HH9
      obtain ⟨hs0, r0⟩ := q0
      dsimp only at HG HF hh8 HAPP HRC HBND
      have HM0 := Aside0.mk hm0
      have HQ1 := Aside0.mk hq1
      clear hm0 hq1
      repeat (first
        | ((with_reducible refine wpList_load 55 (.tmp 3) g3 _ _ _ rfl rfl ?hx HG.out Tryd.underlying55 ?hd ?hi ?_); (case hx => rfl); (case hd => rfl); (case hi => rw [sum_size _ _ _ _ hh8]; rfl))
        | (go_at_call 19; (with_reducible refine (come_cs _ hs0 R c r0 m0 A cA l ?hcs hh8 wr (Kd.F_now HF.out) HRC.out HC.out HCAP.out HBND.out (HK.out.below HB.out)).mono ?_); (case hcs => rfl); rintro e3 w3 ⟨R3, c3, rfl, hc3, hr3, hb3⟩; rw [HAPP.out] at hc3 hr3 ⊢; have HB3 := Aside0.mk (bl HB.out hb3); have HZ3 := Aside0.mk (blk_below HZ.out hb3); have HG3 := Aside0.mk (blk_below HG.out hb3); have HC3 := Aside0.mk hc3; have hgl := blk_lt HG.out; have HF3 := Aside0.mk (Kd.F_mono (Kd.R_F (Kd.R_bound hr3)) (ok' := fun k => g3 < k) (fun k hk => by have := hk.2.1; omega)); clear hc3 hr3 hb3 hgl; dsimp only)
        | ((with_reducible refine wpList_store 55 (.tmp 3) (.tmp 17) g3 _ _ (sumC q1.1 R3 q1.2.length c3 ((m0 + (l.length : Int)) % 18446744073709551616)) rfl rfl ?hx ?hy HG3.out ?hs ?hi ?h1 ?_); (case h1 => exact one_sum _ _ _ rfl rfl); (case hs => rw [sum_size _ _ _ _ hh8, sum_size _ _ _ _ HH9.out]); (case hx => rfl); (case hy => rfl); (case hi => rw [sum_size _ _ _ _ HH9.out]; rfl); intro w4 g1 g2 g3' g4; have HG4 := Aside0.mk g1; have HB4 := Aside0.mk (g3' w.heap.size w HB3.out (Nat.le_of_lt hsz)); have HZ4 := Aside0.mk ((g2 w.heap.size (by omega)).trans HZ3.out); have HF4 := Aside0.mk (Kd.F_step HF3.out (fun k hk _ => g2 k (by omega))); clear g1 g2 g3' g4)
        | go_values | go_guarded | go_step | go_upon | go_back)
      have hm1 : (m0 + (l.length : Int)) % 18446744073709551616 = ((flatP (ps.take (k + 1))).length : Int) := by
        have := HBN2.out
        rw [HLEN.out, ← HM0.out]
        push_cast
        rw [← HM0.out] at this
        omega
      have hg4 := HG4.out
      have hf4 := HF4.out
      have hc4 := HC3.out
      rw [hm1] at hg4
      have hq := HQ1.out
      subst hq
      exact ⟨⟨k + 1, R3, c3, rfl, by have := HLE.out; omega, hc4, ⟨hg4⟩, HZ4, ⟨hf4⟩, HB4⟩, by have := HLE.out; simp [intOf]; omega⟩
    · have hd1 : decide ((k : Int) < (ps.length : Int)) = false := decide_eq_false (by omega)
      have hkk : k = ps.length := by omega
      subst hkk
      rw [flatP_all] at hrc HG HF
      have hh8 := comeA_length (hs := H0) rfl (flatP ps)
      have hrl := comeA_rest H0 (flatP ps)
      have hck : checkA (comeA H0 (flatP ps)).2.length ((flatP ps).length : Int) = 0 := by
        have := HTOT.out
        unfold checkA
        rw [if_neg (by omega), if_neg (by rw [hrl]; simp)]
      have HCK := Aside0.mk hck
      have HRC := Aside0.mk hrc
      have hnn : (0 : Int) ≤ ((flatP ps).length : Int) := by omega
      have HNN := Aside0.mk hnn
      have HE : Aside0 (ofA (flatP ps) = endA (comeA H0 (flatP ps)).1 (comeA H0 (flatP ps)).2 ((flatP ps).length : Int)) := ⟨rfl⟩
      clear hrl hck hrc hnn hlt hkn
      generalize comeA H0 (flatP ps) = q0 at *
      generalize ((flatP ps).length : Int) = m0 at *
      obtain ⟨hs0, r0⟩ := q0
      dsimp only at HG HF hh8 HRC HCK HE
      have hel : (endA hs0 r0 m0).length = 32 := digestA_length _
      generalize hvs : (endA hs0 r0 m0).map (Value.int .u8) = vs
      have hone : ∀ v ∈ vs, v.oneCell' = true := by rw [← hvs]; exact one_u8 _
      have hsz2 : vs.length = 32 := by rw [← hvs, List.length_map]; exact hel
      have hi : (Tryd.prog.info? 29).map (·.size) = some (⟨vs⟩ : Array Value).size := by
        rw [show (⟨vs⟩ : Array Value).size = 32 from hsz2]
        rfl
      have hzs : zeroDigest.size = (⟨vs⟩ : Array Value).size := by rw [show (⟨vs⟩ : Array Value).size = 32 from hsz2]; rfl
      have HVS := Aside0.mk hvs
      have HON := Aside0.mk hone
      clear hvs hone hel
      repeat (first
        | ((with_reducible refine wpList_load 55 (.tmp 3) g3 _ _ _ rfl rfl ?hx HG.out Tryd.underlying55 ?hd ?hi ?_); (case hx => rfl); (case hd => rfl); (case hi => rw [sum_size _ _ _ _ hh8]; rfl))
        | (go_at_call 20; (with_reducible refine (end_cs _ hs0 R c r0 m0 ?hcs hh8 wr (Kd.F_now HF.out) HRC.out (HK.out.below HB.out) HNN.out HCK.out).mono ?_); (case hcs => rfl); rintro e3 w3 ⟨rfl, hb3⟩; rw [HVS.out]; have HB3 := Aside0.mk (below_alloc (bl HB.out hb3) (.cells #[.int .u8 0, .int .u8 0, .int .u8 0, .int .u8 0, .int .u8 0, .int .u8 0, .int .u8 0, .int .u8 0, .int .u8 0, .int .u8 0, .int .u8 0, .int .u8 0, .int .u8 0, .int .u8 0, .int .u8 0, .int .u8 0, .int .u8 0, .int .u8 0, .int .u8 0, .int .u8 0, .int .u8 0, .int .u8 0, .int .u8 0, .int .u8 0, .int .u8 0, .int .u8 0, .int .u8 0, .int .u8 0, .int .u8 0, .int .u8 0, .int .u8 0, .int .u8 0] 29)); have HZ3 := Aside0.mk (blk_alloc (blk_below HZ.out hb3) (.cells #[.int .u8 0, .int .u8 0, .int .u8 0, .int .u8 0, .int .u8 0, .int .u8 0, .int .u8 0, .int .u8 0, .int .u8 0, .int .u8 0, .int .u8 0, .int .u8 0, .int .u8 0, .int .u8 0, .int .u8 0, .int .u8 0, .int .u8 0, .int .u8 0, .int .u8 0, .int .u8 0, .int .u8 0, .int .u8 0, .int .u8 0, .int .u8 0, .int .u8 0, .int .u8 0, .int .u8 0, .int .u8 0, .int .u8 0, .int .u8 0, .int .u8 0, .int .u8 0] 29)); have HG3 := Aside0.mk (heap_alloc_new w3 (.cells #[.int .u8 0, .int .u8 0, .int .u8 0, .int .u8 0, .int .u8 0, .int .u8 0, .int .u8 0, .int .u8 0, .int .u8 0, .int .u8 0, .int .u8 0, .int .u8 0, .int .u8 0, .int .u8 0, .int .u8 0, .int .u8 0, .int .u8 0, .int .u8 0, .int .u8 0, .int .u8 0, .int .u8 0, .int .u8 0, .int .u8 0, .int .u8 0, .int .u8 0, .int .u8 0, .int .u8 0, .int .u8 0, .int .u8 0, .int .u8 0, .int .u8 0, .int .u8 0] 29)); have hw3 : w.heap.size < w3.heap.size := blk_lt (blk_below HZ.out hb3); clear hb3; dsimp only)
        | ((with_reducible refine wpList_store 29 (.tmp 6) (.tmp 22) w3.heap.size _ _ ⟨vs⟩ rfl rfl ?hx ?hy HG3.out ?hs hi HON.out ?_); (case hs => exact hzs); (case hx => rfl); (case hy => rfl); intro w9 g1 g2 g3' g4; have HG9 := Aside0.mk g1; have HZ9 := Aside0.mk ((g2 w.heap.size (by omega)).trans HZ3.out); have HB9 := Aside0.mk (g3' w.heap.size w HB3.out (Nat.le_of_lt hw3)); generalize w3.heap.size = g6 at *; clear g1 g2 g3' g4)
        | ((with_reducible refine wpList_load 29 (.tmp 6) g6 _ _ _ rfl rfl ?hx HG9.out Tryd.underlying29 ?hd hi ?_); (case hx => rfl); (case hd => rfl))
        | ((with_reducible refine wpList_store 29 (.tmp 2) (.tmp 24) w.heap.size _ _ ⟨vs⟩ rfl rfl ?hx ?hy HZ9.out ?hs hi HON.out ?_); (case hs => exact hzs); (case hx => rfl); (case hy => rfl); intro w10 g1 g2 g3' g4; have HG10 := Aside0.mk g1; have HB10 := Aside0.mk (g3' w.heap.size w HB9.out (Nat.le_refl _)); clear g1 g2 g3' g4)
        | go_values | go_guarded | go_step | go_upon | go_back)
      refine bodyPost_ret (results_single rfl (.cell w.heap.size _ _ (0, 0) _ rfl HG10.out Tryd.underlying29 rfl hi .nil)) rfl ?_
      exact ⟨by rw [HE.out, HVS.out], HB10.out⟩
end Go.Proofs.YtncipbbdboeinaaDoor

namespace Go.Proofs.YtncipbbdboeinaaDoor
open Go.RowKit Go.Proofs.YtncipbbdboeinaaDoorW.PrintWords Go.Proofs.YtncipbbdboeinaaDoorW.PrintLast Go.Proofs.YtncipbbdboeinaaDoorW.PrintMore Go.Proofs.YtncipbbdboeinaaDoor.PAll
set_option linter.unusedVariables false
set_option linter.unusedSimpArgs false

/-- A block of numbers, marked or not, read as a row. -/
theorem F_row {W : World} {b t : Nat} {fr : Nat × Nat} (k : IntKind) (zs : List Int) (hz : zs.length ≤ 9223372036854775807) {ok : Nat → Prop} (hok : ok b) (h : W.heap[b]? = some (.cells (zs.map (Value.int k)).toArray t fr)) :
    Kd.F (Kd.int k) W ok (some ⟨b, 0, none⟩) zs.length zs := by
  intro W' hW
  have hlt : b < W.heap.size := (Array.getElem?_eq_some_iff.1 h).1
  have h' : W'.heap[b]? = some (.cells (zs.map (Value.int k)).toArray t fr) := (hW b hok hlt).trans h
  refine ⟨rfl, hz, fun _ => ⟨_, rfl, fun j p hj => ?_⟩⟩
  refine ⟨[.int k p], rfl, rfl, fun i u hu => ?_⟩
  have hi : i = 0 := by
    rcases i with _ | i
    · rfl
    · simp at hu
  subst hi
  simp only [List.getElem?_cons_zero, Option.some.injEq] at hu
  subst hu
  have hc : ∀ k', W'.cell? ⟨b, k', none⟩ = (zs.map (Value.int k)).toArray[k']? := fun k' => cell_of_row W' b k' _ t fr h'
  have he : (⟨b, 0, none⟩ : Addr).add (j * (Kd.int k).sz + 0) = ⟨b, j, none⟩ := by rw [add_at]; simp [Kd.int, Kd.scalar]
  rw [he, hc]
  simp [hj]

def dgt (q : Int) : Int := [48, 49, 50, 51, 52, 53, 54, 55, 56, 57, 97, 98, 99, 100, 101, 102].getD q.toNat 0
def hexL (l : List Int) : List Int := l.flatMap fun x => [dgt (x / 16), dgt (x % 16)]
theorem digit_cases {q : Int} (h0 : 0 ≤ q) (h1 : q < 16) : q = 0 ∨ q = 1 ∨ q = 2 ∨ q = 3 ∨ q = 4 ∨ q = 5 ∨ q = 6 ∨ q = 7 ∨ q = 8 ∨ q = 9 ∨ q = 10 ∨ q = 11 ∨ q = 12 ∨ q = 13 ∨ q = 14 ∨ q = 15 := by omega
theorem digit_run (q : Int) (h0 : 0 ≤ q) (h1 : q < 16) (W : World) : (Instr.index 9 (.string { data := #[48, 49, 50, 51, 52, 53, 54, 55, 56, 57, 97, 98, 99, 100, 101, 102] }) (.int .u8 q)).run Tryd.prog W = .ok (.int .u8 (dgt q)) W := by
  rcases digit_cases h0 h1 with rfl | rfl | rfl | rfl | rfl | rfl | rfl | rfl | rfl | rfl | rfl | rfl | rfl | rfl | rfl | rfl <;> (rw [run_index_string _ _ _ _ _ Tryd.underlying9]; rfl)
theorem hexL_length (l : List Int) : (hexL l).length = 2 * l.length := by
  induction l with
  | nil => rfl
  | cons x l ih => simp only [hexL, List.flatMap_cons, List.length_append, List.length_cons, List.length_nil] at ih ⊢; omega
theorem hexL_step {l : List Int} {k : Nat} (h : k < l.length) : hexL (l.take (k + 1)) = hexL (l.take k) ++ [dgt (l.getD k 0 / 16), dgt (l.getD k 0 % 16)] := by
  rw [List.take_succ_eq_append_getElem h, hexL, hexL, List.flatMap_append]
  congr 1
  simp [List.getD_eq_getElem?_getD, List.getElem?_eq_getElem h]
theorem dgt_u8 (q : Int) : 0 ≤ dgt q ∧ dgt q < 256 := by
  unfold dgt
  generalize q.toNat = n
  rcases Nat.lt_or_ge n 16 with h | h
  · rcases (show n = 0 ∨ n = 1 ∨ n = 2 ∨ n = 3 ∨ n = 4 ∨ n = 5 ∨ n = 6 ∨ n = 7 ∨ n = 8 ∨ n = 9 ∨ n = 10 ∨ n = 11 ∨ n = 12 ∨ n = 13 ∨ n = 14 ∨ n = 15 by omega) with rfl | rfl | rfl | rfl | rfl | rfl | rfl | rfl | rfl | rfl | rfl | rfl | rfl | rfl | rfl | rfl <;> decide
  · rw [List.getD_eq_getElem?_getD, List.getElem?_eq_none (by simpa using h)]
    decide

end Go.Proofs.YtncipbbdboeinaaDoor

namespace Go.Proofs.YtncipbbdboeinaaDoor
open Go.RowKit Go.Proofs.YtncipbbdboeinaaDoorW.PrintWords Go.Proofs.YtncipbbdboeinaaDoorW.PrintLast Go.Proofs.YtncipbbdboeinaaDoorW.PrintMore Go.Proofs.YtncipbbdboeinaaDoor.PAll
set_option linter.unusedVariables false
set_option linter.unusedSimpArgs false

theorem ex_none : hexL (ofA []) = [101, 51, 98, 48, 99, 52, 52, 50, 57, 56, 102, 99, 49, 99, 49, 52, 57, 97, 102, 98, 102, 52, 99, 56, 57, 57, 54, 102, 98, 57, 50, 52, 50, 55, 97, 101, 52, 49, 101, 52, 54, 52, 57, 98, 57, 51, 52, 99, 97, 52, 57, 53, 57, 57, 49, 98, 55, 56, 53, 50, 98, 56, 53, 53] := by decide +kernel
theorem str_none : strOfNums (hexL (ofA [])) = { data := #[101, 51, 98, 48, 99, 52, 52, 50, 57, 56, 102, 99, 49, 99, 49, 52, 57, 97, 102, 98, 102, 52, 99, 56, 57, 57, 54, 102, 98, 57, 50, 52, 50, 55, 97, 101, 52, 49, 101, 52, 54, 52, 57, 98, 57, 51, 52, 99, 97, 52, 57, 53, 57, 57, 49, 98, 55, 56, 53, 50, 98, 56, 53, 53] } := by rw [ex_none]; rfl
theorem ex_abc : hexL (ofA [97, 98, 99]) = [98, 97, 55, 56, 49, 54, 98, 102, 56, 102, 48, 49, 99, 102, 101, 97, 52, 49, 52, 49, 52, 48, 100, 101, 53, 100, 97, 101, 50, 50, 50, 51, 98, 48, 48, 51, 54, 49, 97, 51, 57, 54, 49, 55, 55, 97, 57, 99, 98, 52, 49, 48, 102, 102, 54, 49, 102, 50, 48, 48, 49, 53, 97, 100] := by decide +kernel
theorem str_abc : strOfNums (hexL (ofA [97, 98, 99])) = { data := #[98, 97, 55, 56, 49, 54, 98, 102, 56, 102, 48, 49, 99, 102, 101, 97, 52, 49, 52, 49, 52, 48, 100, 101, 53, 100, 97, 101, 50, 50, 50, 51, 98, 48, 48, 51, 54, 49, 97, 51, 57, 54, 49, 55, 55, 97, 57, 99, 98, 52, 49, 48, 102, 102, 54, 49, 102, 50, 48, 48, 49, 53, 97, 100] } := by rw [ex_abc]; rfl
theorem ex_long : hexL (ofA [97, 98, 99, 100, 98, 99, 100, 101, 99, 100, 101, 102, 100, 101, 102, 103, 101, 102, 103, 104, 102, 103, 104, 105, 103, 104, 105, 106, 104, 105, 106, 107, 105, 106, 107, 108, 106, 107, 108, 109, 107, 108, 109, 110, 108, 109, 110, 111, 109, 110, 111, 112, 110, 111, 112, 113]) = [50, 52, 56, 100, 54, 97, 54, 49, 100, 50, 48, 54, 51, 56, 98, 56, 101, 53, 99, 48, 50, 54, 57, 51, 48, 99, 51, 101, 54, 48, 51, 57, 97, 51, 51, 99, 101, 52, 53, 57, 54, 52, 102, 102, 50, 49, 54, 55, 102, 54, 101, 99, 101, 100, 100, 52, 49, 57, 100, 98, 48, 54, 99, 49] := by decide +kernel
theorem str_long : strOfNums (hexL (ofA [97, 98, 99, 100, 98, 99, 100, 101, 99, 100, 101, 102, 100, 101, 102, 103, 101, 102, 103, 104, 102, 103, 104, 105, 103, 104, 105, 106, 104, 105, 106, 107, 105, 106, 107, 108, 106, 107, 108, 109, 107, 108, 109, 110, 108, 109, 110, 111, 109, 110, 111, 112, 110, 111, 112, 113])) = { data := #[50, 52, 56, 100, 54, 97, 54, 49, 100, 50, 48, 54, 51, 56, 98, 56, 101, 53, 99, 48, 50, 54, 57, 51, 48, 99, 51, 101, 54, 48, 51, 57, 97, 51, 51, 99, 101, 52, 53, 57, 54, 52, 102, 102, 50, 49, 54, 55, 102, 54, 101, 99, 101, 100, 100, 52, 49, 57, 100, 98, 48, 54, 99, 49] } := by rw [ex_long]; rfl
theorem ofA_length (l : List Int) : (ofA l).length = 32 := digestA_length _
theorem ofA_u8 (l : List Int) : ∀ x ∈ ofA l, 0 ≤ x ∧ x < 256 := by
  intro x hx
  simp only [ofA, endA, digestA, List.mem_map] at hx
  obtain ⟨i, _, rfl⟩ := hx
  omega
theorem of_nil (w : World) (hk : Ktab w) : Calls Tryd.prog 13 #[.slice none 0 0] w fun e w' => e = .returned (.agg ⟨(ofA []).map (Value.int .u8)⟩) ∧ Below w.heap.size w w' :=
  of_calls none 0 [] w (fun i p h => by simp at h) (by simp) (by simp [flatP]) hk
/-- A slice's part as of_calls takes it. -/
theorem of_parts1 (w : World) (gb : Nat) (fr : Nat × Nat) (t : Nat) (A1 : Option Addr) (c1 : Nat) (l1 : List Int) (hg : w.heap[gb]? = some (.cells #[.slice A1 l1.length c1] t fr)) (h1 : Kd.C (Kd.int .u8) w A1 l1.length l1) (hc1 : l1.length ≤ c1) (ht : l1.length ≤ 100000) (hk : Ktab w) :
    Calls Tryd.prog 13 #[.slice (some ⟨gb, 0, none⟩) 1 1] w fun e w' => e = .returned (.agg ⟨(ofA l1).map (Value.int .u8)⟩) ∧ Below w.heap.size w w' := by
  have := of_calls (some ⟨gb, 0, none⟩) 1 [(A1, c1, l1)] w (fun i p h => by
    match i, h with
    | 0, h =>
      simp only [List.getElem?_cons_zero, Option.some.injEq] at h
      subst h
      exact ⟨⟨gb, rfl, (cell_of_row w gb 0 _ t fr hg).trans rfl⟩, h1, hc1⟩
    | i + 1, h => simp at h) (by simp) (by simpa [flatP] using ht) hk
  simpa [flatP] using this
theorem of_parts2 (w : World) (gb : Nat) (fr : Nat × Nat) (t : Nat) (A1 : Option Addr) (c1 : Nat) (l1 : List Int) (A2 : Option Addr) (c2 : Nat) (l2 : List Int) (hg : w.heap[gb]? = some (.cells #[.slice A1 l1.length c1, .slice A2 l2.length c2] t fr)) (h1 : Kd.C (Kd.int .u8) w A1 l1.length l1) (hc1 : l1.length ≤ c1) (h2 : Kd.C (Kd.int .u8) w A2 l2.length l2) (hc2 : l2.length ≤ c2) (ht : l1.length + l2.length ≤ 100000) (hk : Ktab w) :
    Calls Tryd.prog 13 #[.slice (some ⟨gb, 0, none⟩) 2 2] w fun e w' => e = .returned (.agg ⟨(ofA (l1 ++ l2)).map (Value.int .u8)⟩) ∧ Below w.heap.size w w' := by
  have := of_calls (some ⟨gb, 0, none⟩) 2 [(A1, c1, l1), (A2, c2, l2)] w (fun i p h => by
    match i, h with
    | 0, h =>
      simp only [List.getElem?_cons_zero, Option.some.injEq] at h
      subst h
      exact ⟨⟨gb, rfl, (cell_of_row w gb 0 _ t fr hg).trans rfl⟩, h1, hc1⟩
    | 1, h =>
      simp only [List.getElem?_cons_succ, List.getElem?_cons_zero, Option.some.injEq] at h
      subst h
      exact ⟨⟨gb, rfl, (cell_of_row w gb 1 _ t fr hg).trans rfl⟩, h2, hc2⟩
    | i + 2, h => simp at h) (by simp) (by simpa [flatP] using ht) hk
  simpa [flatP] using this
theorem of_parts3 (w : World) (gb : Nat) (fr : Nat × Nat) (t : Nat) (A1 : Option Addr) (c1 : Nat) (l1 : List Int) (A2 : Option Addr) (c2 : Nat) (l2 : List Int) (A3 : Option Addr) (c3 : Nat) (l3 : List Int) (hg : w.heap[gb]? = some (.cells #[.slice A1 l1.length c1, .slice A2 l2.length c2, .slice A3 l3.length c3] t fr)) (h1 : Kd.C (Kd.int .u8) w A1 l1.length l1) (hc1 : l1.length ≤ c1) (h2 : Kd.C (Kd.int .u8) w A2 l2.length l2) (hc2 : l2.length ≤ c2) (h3 : Kd.C (Kd.int .u8) w A3 l3.length l3) (hc3 : l3.length ≤ c3) (ht : l1.length + l2.length + l3.length ≤ 100000) (hk : Ktab w) :
    Calls Tryd.prog 13 #[.slice (some ⟨gb, 0, none⟩) 3 3] w fun e w' => e = .returned (.agg ⟨(ofA (l1 ++ l2 ++ l3)).map (Value.int .u8)⟩) ∧ Below w.heap.size w w' := by
  have := of_calls (some ⟨gb, 0, none⟩) 3 [(A1, c1, l1), (A2, c2, l2), (A3, c3, l3)] w (fun i p h => by
    match i, h with
    | 0, h =>
      simp only [List.getElem?_cons_zero, Option.some.injEq] at h
      subst h
      exact ⟨⟨gb, rfl, (cell_of_row w gb 0 _ t fr hg).trans rfl⟩, h1, hc1⟩
    | 1, h =>
      simp only [List.getElem?_cons_succ, List.getElem?_cons_zero, Option.some.injEq] at h
      subst h
      exact ⟨⟨gb, rfl, (cell_of_row w gb 1 _ t fr hg).trans rfl⟩, h2, hc2⟩
    | 2, h =>
      simp only [List.getElem?_cons_succ, List.getElem?_cons_zero, Option.some.injEq] at h
      subst h
      exact ⟨⟨gb, rfl, (cell_of_row w gb 2 _ t fr hg).trans rfl⟩, h3, hc3⟩
    | i + 3, h => simp at h) (by simp) (by simp [flatP]; omega) hk
  simpa [flatP, List.append_assoc] using this
theorem heap3 (w : World) (a b c : Obj) : (((w.alloc a).alloc b).alloc c).heap[w.heap.size]? = some a ∧ (((w.alloc a).alloc b).alloc c).heap[w.heap.size + 1]? = some b ∧ (((w.alloc a).alloc b).alloc c).heap[w.heap.size + 2]? = some c := by
  obtain ⟨h1, h2⟩ := alloc2 w a b
  exact ⟨blk_alloc h1 c, blk_alloc h2 c, alloc_at (X := (w.alloc a).alloc b) c⟩

end Go.Proofs.YtncipbbdboeinaaDoor

namespace Go.Proofs.YtncipbbdboeinaaDoor
open Go.RowKit Go.Proofs.YtncipbbdboeinaaDoorW.PrintWords Go.Proofs.YtncipbbdboeinaaDoorW.PrintLast Go.Proofs.YtncipbbdboeinaaDoorW.PrintMore Go.Proofs.YtncipbbdboeinaaDoor.PAll
set_option linter.unusedVariables false
set_option linter.unusedSimpArgs false

theorem end_bad_cs (cs : Array Value) (hs : List Int) (R : Option Addr) (n c : Nat) (m : Int) (hcs : cs = sumC hs R n c m) (hh : hs.length = 8) (hn : n ≤ 9223372036854775807) (hm : 0 ≤ m) (hb : checkA n m ≠ 0) (w : World) :
    Calls Tryd.prog 20 #[.agg cs] w fun e w' => e = .returned (.tuple #[.agg zeroDigest, .int .i64 (checkA n m)]) ∧ Below w.heap.size w w' := by
  subst hcs
  exact end_bad hs R n c m hh hn hm hb w
abbrev zeroS : Array Value := #[.int .u32 0, .int .u32 0, .int .u32 0, .int .u32 0, .int .u32 0, .int .u32 0, .int .u32 0, .int .u32 0, .slice none 0 0, .int .u64 0]
theorem zeroS_eq : zeroSum = zeroS := rfl
abbrev zeroD : Array Value := #[.int .u8 0, .int .u8 0, .int .u8 0, .int .u8 0, .int .u8 0, .int .u8 0, .int .u8 0, .int .u8 0, .int .u8 0, .int .u8 0, .int .u8 0, .int .u8 0, .int .u8 0, .int .u8 0, .int .u8 0, .int .u8 0, .int .u8 0, .int .u8 0, .int .u8 0, .int .u8 0, .int .u8 0, .int .u8 0, .int .u8 0, .int .u8 0, .int .u8 0, .int .u8 0, .int .u8 0, .int .u8 0, .int .u8 0, .int .u8 0, .int .u8 0, .int .u8 0]
theorem zeroD_eq : zeroDigest = zeroD := rfl

end Go.Proofs.YtncipbbdboeinaaDoor
