/-
The document's turn of words by a block: the program's.
-/
import Derived.Test.YtncipbbdboeinaaDoorRefWords
namespace Go.Proofs.YtncipbbdboeinaaDoor
open Go.RowKit Go.Proofs.YtncipbbdboeinaaDoorW.PrintWords Go.Proofs.YtncipbbdboeinaaDoorW.PrintLast Go.Proofs.YtncipbbdboeinaaDoorW.PrintMore Go.Proofs.YtncipbbdboeinaaDoor.PAll
set_option linter.unusedVariables false
set_option linter.unusedSimpArgs false

theorem ad_ad (p x y : Int) : ad p (ad x y) = (p + (x + y)) % 4294967296 := by unfold ad; omega
theorem turnA_length8 {hs : List Int} (h : hs.length = 8) (b : List Int) : (turnA hs b).length = 8 := by
  simp [turnA, h, roundsA_length h]
set_option maxHeartbeats 8000000 in
set_option maxRecDepth 100000 in
theorem refTurn_calls (A : Addr) (c0 : Nat) (b hs : List Int) (hb : b.length = 64) (hh : hs.length = 8) (w : World) (hr : Kd.C (Kd.int .u8) w (some A) 64 b) (hc : 64 ≤ c0) :
    Calls Tryd.prog 38 #[.agg ⟨hs.map (Value.int .u32)⟩, .slice (some A) 64 c0] w fun e w' => e = .returned (.agg ⟨(turnA hs b).map (Value.int .u32)⟩) ∧ Below w.heap.size w w' := by
  obtain ⟨h0, h1, h2, h3, h4, h5, h6, h7, rfl⟩ := eight hh
  have HR := Aside0.mk hr
  have HC := Aside0.mk hc
  have HL := Aside0.mk hb
  clear hr hc hb hh
  have hone := one_u32 (wordsA b 64)
  have hwords := fun W' (hW : Below w.heap.size w W') => words_calls A c0 b HL.out W' (Kd.C_below HR.out hW) HC.out
  have hstep : ∀ t, roundsA [h0, h1, h2, h3, h4, h5, h6, h7] b (t + 1) = roundA (kT.getD t 0) ((wordsA b 64).getD t 0) (roundsA [h0, h1, h2, h3, h4, h5, h6, h7] b t) := fun t => rfl
  have hxl := wordsA_length b 64
  have hkone := one_u32 kT
  have hkl : kT.length = 64 := rfl
  have htab := fun W' => table_calls W'
  generalize wordsA b 64 = xs at hone hwords hstep hxl
  generalize kT = kk at hstep hkone hkl htab
  have hxv : ∀ t, t < 64 → (⟨xs.map (Value.int .u32)⟩ : Array Value)[t]? = some (.int .u32 (xs.getD t 0)) := fun t ht => nums_cell (by omega)
  have hkv : ∀ t, t < 64 → (⟨kk.map (Value.int .u32)⟩ : Array Value)[t]? = some (.int .u32 (kk.getD t 0)) := fun t ht => nums_cell (by omega)
  have hsz : (xs.map (Value.int .u32)).length = 64 := by rw [List.length_map]; exact hxl
  have hksz : (kk.map (Value.int .u32)).length = 64 := by rw [List.length_map]; exact hkl
  generalize xs.map (Value.int .u32) = vs at hone hwords hxv hsz
  generalize kk.map (Value.int .u32) = ks at hkone htab hkv hksz
  have hi6 : (Tryd.prog.info? 73).map (·.size) = some (⟨vs⟩ : Array Value).size := by
    rw [show (⟨vs⟩ : Array Value).size = 64 from hsz]
    rfl
  have hi5 : (Tryd.prog.info? 73).map (·.size) = some (⟨ks⟩ : Array Value).size := by
    rw [show (⟨ks⟩ : Array Value).size = 64 from hksz]
    rfl
  have hz6 : (#[.int .u32 0, .int .u32 0, .int .u32 0, .int .u32 0, .int .u32 0, .int .u32 0, .int .u32 0, .int .u32 0, .int .u32 0, .int .u32 0, .int .u32 0, .int .u32 0, .int .u32 0, .int .u32 0, .int .u32 0, .int .u32 0, .int .u32 0, .int .u32 0, .int .u32 0, .int .u32 0, .int .u32 0, .int .u32 0, .int .u32 0, .int .u32 0, .int .u32 0, .int .u32 0, .int .u32 0, .int .u32 0, .int .u32 0, .int .u32 0, .int .u32 0, .int .u32 0, .int .u32 0, .int .u32 0, .int .u32 0, .int .u32 0, .int .u32 0, .int .u32 0, .int .u32 0, .int .u32 0, .int .u32 0, .int .u32 0, .int .u32 0, .int .u32 0, .int .u32 0, .int .u32 0, .int .u32 0, .int .u32 0, .int .u32 0, .int .u32 0, .int .u32 0, .int .u32 0, .int .u32 0, .int .u32 0, .int .u32 0, .int .u32 0, .int .u32 0, .int .u32 0, .int .u32 0, .int .u32 0, .int .u32 0, .int .u32 0, .int .u32 0, .int .u32 0] : Array Value).size = (⟨vs⟩ : Array Value).size := by rw [show (⟨vs⟩ : Array Value).size = 64 from hsz]; rfl
  have hz5 : (#[.int .u32 0, .int .u32 0, .int .u32 0, .int .u32 0, .int .u32 0, .int .u32 0, .int .u32 0, .int .u32 0, .int .u32 0, .int .u32 0, .int .u32 0, .int .u32 0, .int .u32 0, .int .u32 0, .int .u32 0, .int .u32 0, .int .u32 0, .int .u32 0, .int .u32 0, .int .u32 0, .int .u32 0, .int .u32 0, .int .u32 0, .int .u32 0, .int .u32 0, .int .u32 0, .int .u32 0, .int .u32 0, .int .u32 0, .int .u32 0, .int .u32 0, .int .u32 0, .int .u32 0, .int .u32 0, .int .u32 0, .int .u32 0, .int .u32 0, .int .u32 0, .int .u32 0, .int .u32 0, .int .u32 0, .int .u32 0, .int .u32 0, .int .u32 0, .int .u32 0, .int .u32 0, .int .u32 0, .int .u32 0, .int .u32 0, .int .u32 0, .int .u32 0, .int .u32 0, .int .u32 0, .int .u32 0, .int .u32 0, .int .u32 0, .int .u32 0, .int .u32 0, .int .u32 0, .int .u32 0, .int .u32 0, .int .u32 0, .int .u32 0, .int .u32 0] : Array Value).size = (⟨ks⟩ : Array Value).size := by rw [show (⟨ks⟩ : Array Value).size = 64 from hksz]; rfl
  have HON := Aside0.mk hone
  have HKON := Aside0.mk hkone
  have HWD := Aside0.mk hwords
  have HTB := Aside0.mk htab
  have HST := Aside0.mk hstep
  have HXV := Aside0.mk hxv
  have HKV := Aside0.mk hkv
  clear hone hkone hwords htab hstep hxv hkv hxl hkl hsz hksz
  obtain ⟨hk0, hk1⟩ := alloc2 w (.cells #[.int .u32 h0, .int .u32 h1, .int .u32 h2, .int .u32 h3, .int .u32 h4, .int .u32 h5, .int .u32 h6, .int .u32 h7] 53) (.cells #[.int .u32 0, .int .u32 0, .int .u32 0, .int .u32 0, .int .u32 0, .int .u32 0, .int .u32 0, .int .u32 0] 53)
  have HB0 := Aside0.mk (below_alloc (below_alloc (Below.refl w.heap.size w) (.cells #[.int .u32 h0, .int .u32 h1, .int .u32 h2, .int .u32 h3, .int .u32 h4, .int .u32 h5, .int .u32 h6, .int .u32 h7] 53)) (.cells #[.int .u32 0, .int .u32 0, .int .u32 0, .int .u32 0, .int .u32 0, .int .u32 0, .int .u32 0, .int .u32 0] 53))
  have HK0 := Aside0.mk hk0
  have HK1 := Aside0.mk hk1
  clear hk0 hk1
  go_enter Tryd.func38, Tryd.ntmps38
  repeat (first
    | (go_at_call 40; (with_reducible refine (HTB.out _).mono ?_); rintro e1 w1 ⟨rfl, hb1⟩; have HB1 := Aside0.mk (below_alloc (bl HB0.out hb1) (.cells #[.int .u32 0, .int .u32 0, .int .u32 0, .int .u32 0, .int .u32 0, .int .u32 0, .int .u32 0, .int .u32 0, .int .u32 0, .int .u32 0, .int .u32 0, .int .u32 0, .int .u32 0, .int .u32 0, .int .u32 0, .int .u32 0, .int .u32 0, .int .u32 0, .int .u32 0, .int .u32 0, .int .u32 0, .int .u32 0, .int .u32 0, .int .u32 0, .int .u32 0, .int .u32 0, .int .u32 0, .int .u32 0, .int .u32 0, .int .u32 0, .int .u32 0, .int .u32 0, .int .u32 0, .int .u32 0, .int .u32 0, .int .u32 0, .int .u32 0, .int .u32 0, .int .u32 0, .int .u32 0, .int .u32 0, .int .u32 0, .int .u32 0, .int .u32 0, .int .u32 0, .int .u32 0, .int .u32 0, .int .u32 0, .int .u32 0, .int .u32 0, .int .u32 0, .int .u32 0, .int .u32 0, .int .u32 0, .int .u32 0, .int .u32 0, .int .u32 0, .int .u32 0, .int .u32 0, .int .u32 0, .int .u32 0, .int .u32 0, .int .u32 0, .int .u32 0] 73)); have HN1 := Aside0.mk (heap_alloc_new w1 (.cells #[.int .u32 0, .int .u32 0, .int .u32 0, .int .u32 0, .int .u32 0, .int .u32 0, .int .u32 0, .int .u32 0, .int .u32 0, .int .u32 0, .int .u32 0, .int .u32 0, .int .u32 0, .int .u32 0, .int .u32 0, .int .u32 0, .int .u32 0, .int .u32 0, .int .u32 0, .int .u32 0, .int .u32 0, .int .u32 0, .int .u32 0, .int .u32 0, .int .u32 0, .int .u32 0, .int .u32 0, .int .u32 0, .int .u32 0, .int .u32 0, .int .u32 0, .int .u32 0, .int .u32 0, .int .u32 0, .int .u32 0, .int .u32 0, .int .u32 0, .int .u32 0, .int .u32 0, .int .u32 0, .int .u32 0, .int .u32 0, .int .u32 0, .int .u32 0, .int .u32 0, .int .u32 0, .int .u32 0, .int .u32 0, .int .u32 0, .int .u32 0, .int .u32 0, .int .u32 0, .int .u32 0, .int .u32 0, .int .u32 0, .int .u32 0, .int .u32 0, .int .u32 0, .int .u32 0, .int .u32 0, .int .u32 0, .int .u32 0, .int .u32 0, .int .u32 0] 73)); have HP0 := Aside0.mk (blk_alloc (blk_below HK0.out hb1) (.cells #[.int .u32 0, .int .u32 0, .int .u32 0, .int .u32 0, .int .u32 0, .int .u32 0, .int .u32 0, .int .u32 0, .int .u32 0, .int .u32 0, .int .u32 0, .int .u32 0, .int .u32 0, .int .u32 0, .int .u32 0, .int .u32 0, .int .u32 0, .int .u32 0, .int .u32 0, .int .u32 0, .int .u32 0, .int .u32 0, .int .u32 0, .int .u32 0, .int .u32 0, .int .u32 0, .int .u32 0, .int .u32 0, .int .u32 0, .int .u32 0, .int .u32 0, .int .u32 0, .int .u32 0, .int .u32 0, .int .u32 0, .int .u32 0, .int .u32 0, .int .u32 0, .int .u32 0, .int .u32 0, .int .u32 0, .int .u32 0, .int .u32 0, .int .u32 0, .int .u32 0, .int .u32 0, .int .u32 0, .int .u32 0, .int .u32 0, .int .u32 0, .int .u32 0, .int .u32 0, .int .u32 0, .int .u32 0, .int .u32 0, .int .u32 0, .int .u32 0, .int .u32 0, .int .u32 0, .int .u32 0, .int .u32 0, .int .u32 0, .int .u32 0, .int .u32 0] 73)); have HP1 := Aside0.mk (blk_alloc (blk_below HK1.out hb1) (.cells #[.int .u32 0, .int .u32 0, .int .u32 0, .int .u32 0, .int .u32 0, .int .u32 0, .int .u32 0, .int .u32 0, .int .u32 0, .int .u32 0, .int .u32 0, .int .u32 0, .int .u32 0, .int .u32 0, .int .u32 0, .int .u32 0, .int .u32 0, .int .u32 0, .int .u32 0, .int .u32 0, .int .u32 0, .int .u32 0, .int .u32 0, .int .u32 0, .int .u32 0, .int .u32 0, .int .u32 0, .int .u32 0, .int .u32 0, .int .u32 0, .int .u32 0, .int .u32 0, .int .u32 0, .int .u32 0, .int .u32 0, .int .u32 0, .int .u32 0, .int .u32 0, .int .u32 0, .int .u32 0, .int .u32 0, .int .u32 0, .int .u32 0, .int .u32 0, .int .u32 0, .int .u32 0, .int .u32 0, .int .u32 0, .int .u32 0, .int .u32 0, .int .u32 0, .int .u32 0, .int .u32 0, .int .u32 0, .int .u32 0, .int .u32 0, .int .u32 0, .int .u32 0, .int .u32 0, .int .u32 0, .int .u32 0, .int .u32 0, .int .u32 0, .int .u32 0] 73)); have hl1 := blk_lt (blk_below HK1.out hb1); clear hb1 HB0 HK0 HK1; dsimp only)
    | ((with_reducible refine wpList_store 73 (.tmp 5) (.tmp 16) w1.heap.size _ _ ⟨ks⟩ rfl rfl ?hx ?hy HN1.out hz5 hi5 HKON.out ?_); (case hx => rfl); (case hy => rfl); intro w2 q1 q2 q3 q4; have HG5 := Aside0.mk q1; have HK0 := Aside0.mk ((q2 w.heap.size (by omega)).trans HP0.out); have HK1 := Aside0.mk ((q2 (w.heap.size + 1) (by omega)).trans HP1.out); have HB2 := Aside0.mk (q3 w.heap.size w HB1.out (by omega)); have hl5 : w.heap.size + 1 < w1.heap.size := hl1; generalize w1.heap.size = g5 at *; clear q1 q2 q3 q4 HN1 HP0 HP1 HB1 hl1)
    | (go_at_call 41; (with_reducible refine (HWD.out w2 HB2.out).mono ?_); rintro e3 w3 ⟨rfl, hb3⟩; have HB3 := Aside0.mk (below_alloc (bl HB2.out hb3) (.cells #[.int .u32 0, .int .u32 0, .int .u32 0, .int .u32 0, .int .u32 0, .int .u32 0, .int .u32 0, .int .u32 0, .int .u32 0, .int .u32 0, .int .u32 0, .int .u32 0, .int .u32 0, .int .u32 0, .int .u32 0, .int .u32 0, .int .u32 0, .int .u32 0, .int .u32 0, .int .u32 0, .int .u32 0, .int .u32 0, .int .u32 0, .int .u32 0, .int .u32 0, .int .u32 0, .int .u32 0, .int .u32 0, .int .u32 0, .int .u32 0, .int .u32 0, .int .u32 0, .int .u32 0, .int .u32 0, .int .u32 0, .int .u32 0, .int .u32 0, .int .u32 0, .int .u32 0, .int .u32 0, .int .u32 0, .int .u32 0, .int .u32 0, .int .u32 0, .int .u32 0, .int .u32 0, .int .u32 0, .int .u32 0, .int .u32 0, .int .u32 0, .int .u32 0, .int .u32 0, .int .u32 0, .int .u32 0, .int .u32 0, .int .u32 0, .int .u32 0, .int .u32 0, .int .u32 0, .int .u32 0, .int .u32 0, .int .u32 0, .int .u32 0, .int .u32 0] 73)); have HN3 := Aside0.mk (heap_alloc_new w3 (.cells #[.int .u32 0, .int .u32 0, .int .u32 0, .int .u32 0, .int .u32 0, .int .u32 0, .int .u32 0, .int .u32 0, .int .u32 0, .int .u32 0, .int .u32 0, .int .u32 0, .int .u32 0, .int .u32 0, .int .u32 0, .int .u32 0, .int .u32 0, .int .u32 0, .int .u32 0, .int .u32 0, .int .u32 0, .int .u32 0, .int .u32 0, .int .u32 0, .int .u32 0, .int .u32 0, .int .u32 0, .int .u32 0, .int .u32 0, .int .u32 0, .int .u32 0, .int .u32 0, .int .u32 0, .int .u32 0, .int .u32 0, .int .u32 0, .int .u32 0, .int .u32 0, .int .u32 0, .int .u32 0, .int .u32 0, .int .u32 0, .int .u32 0, .int .u32 0, .int .u32 0, .int .u32 0, .int .u32 0, .int .u32 0, .int .u32 0, .int .u32 0, .int .u32 0, .int .u32 0, .int .u32 0, .int .u32 0, .int .u32 0, .int .u32 0, .int .u32 0, .int .u32 0, .int .u32 0, .int .u32 0, .int .u32 0, .int .u32 0, .int .u32 0, .int .u32 0] 73)); have HP0 := Aside0.mk (blk_alloc (blk_below HK0.out hb3) (.cells #[.int .u32 0, .int .u32 0, .int .u32 0, .int .u32 0, .int .u32 0, .int .u32 0, .int .u32 0, .int .u32 0, .int .u32 0, .int .u32 0, .int .u32 0, .int .u32 0, .int .u32 0, .int .u32 0, .int .u32 0, .int .u32 0, .int .u32 0, .int .u32 0, .int .u32 0, .int .u32 0, .int .u32 0, .int .u32 0, .int .u32 0, .int .u32 0, .int .u32 0, .int .u32 0, .int .u32 0, .int .u32 0, .int .u32 0, .int .u32 0, .int .u32 0, .int .u32 0, .int .u32 0, .int .u32 0, .int .u32 0, .int .u32 0, .int .u32 0, .int .u32 0, .int .u32 0, .int .u32 0, .int .u32 0, .int .u32 0, .int .u32 0, .int .u32 0, .int .u32 0, .int .u32 0, .int .u32 0, .int .u32 0, .int .u32 0, .int .u32 0, .int .u32 0, .int .u32 0, .int .u32 0, .int .u32 0, .int .u32 0, .int .u32 0, .int .u32 0, .int .u32 0, .int .u32 0, .int .u32 0, .int .u32 0, .int .u32 0, .int .u32 0, .int .u32 0] 73)); have HP1 := Aside0.mk (blk_alloc (blk_below HK1.out hb3) (.cells #[.int .u32 0, .int .u32 0, .int .u32 0, .int .u32 0, .int .u32 0, .int .u32 0, .int .u32 0, .int .u32 0, .int .u32 0, .int .u32 0, .int .u32 0, .int .u32 0, .int .u32 0, .int .u32 0, .int .u32 0, .int .u32 0, .int .u32 0, .int .u32 0, .int .u32 0, .int .u32 0, .int .u32 0, .int .u32 0, .int .u32 0, .int .u32 0, .int .u32 0, .int .u32 0, .int .u32 0, .int .u32 0, .int .u32 0, .int .u32 0, .int .u32 0, .int .u32 0, .int .u32 0, .int .u32 0, .int .u32 0, .int .u32 0, .int .u32 0, .int .u32 0, .int .u32 0, .int .u32 0, .int .u32 0, .int .u32 0, .int .u32 0, .int .u32 0, .int .u32 0, .int .u32 0, .int .u32 0, .int .u32 0, .int .u32 0, .int .u32 0, .int .u32 0, .int .u32 0, .int .u32 0, .int .u32 0, .int .u32 0, .int .u32 0, .int .u32 0, .int .u32 0, .int .u32 0, .int .u32 0, .int .u32 0, .int .u32 0, .int .u32 0, .int .u32 0] 73)); have HP5 := Aside0.mk (blk_alloc (blk_below HG5.out hb3) (.cells #[.int .u32 0, .int .u32 0, .int .u32 0, .int .u32 0, .int .u32 0, .int .u32 0, .int .u32 0, .int .u32 0, .int .u32 0, .int .u32 0, .int .u32 0, .int .u32 0, .int .u32 0, .int .u32 0, .int .u32 0, .int .u32 0, .int .u32 0, .int .u32 0, .int .u32 0, .int .u32 0, .int .u32 0, .int .u32 0, .int .u32 0, .int .u32 0, .int .u32 0, .int .u32 0, .int .u32 0, .int .u32 0, .int .u32 0, .int .u32 0, .int .u32 0, .int .u32 0, .int .u32 0, .int .u32 0, .int .u32 0, .int .u32 0, .int .u32 0, .int .u32 0, .int .u32 0, .int .u32 0, .int .u32 0, .int .u32 0, .int .u32 0, .int .u32 0, .int .u32 0, .int .u32 0, .int .u32 0, .int .u32 0, .int .u32 0, .int .u32 0, .int .u32 0, .int .u32 0, .int .u32 0, .int .u32 0, .int .u32 0, .int .u32 0, .int .u32 0, .int .u32 0, .int .u32 0, .int .u32 0, .int .u32 0, .int .u32 0, .int .u32 0, .int .u32 0] 73)); have hl1 := blk_lt (blk_below HG5.out hb3); clear hb3 HB2 HK0 HK1 HG5; dsimp only)
    | ((with_reducible refine wpList_store 73 (.tmp 6) (.tmp 18) w3.heap.size _ _ ⟨vs⟩ rfl rfl ?hx ?hy HN3.out hz6 hi6 HON.out ?_); (case hx => rfl); (case hy => rfl); intro w4 q1 q2 q3 q4; have HG6 := Aside0.mk q1; have HK0 := Aside0.mk ((q2 w.heap.size (by omega)).trans HP0.out); have HK1 := Aside0.mk ((q2 (w.heap.size + 1) (by omega)).trans HP1.out); have HG5 := Aside0.mk ((q2 g5 (by omega)).trans HP5.out); have HB4 := Aside0.mk (q3 w.heap.size w HB3.out (by omega)); have hl6 : g5 < w3.heap.size := hl1; generalize w3.heap.size = g6 at *; clear q1 q2 q3 q4 HN3 HP0 HP1 HP5 HB3 hl1)
    | ((with_reducible refine wpList_load 53 (.tmp 2) w.heap.size _ _ _ rfl rfl ?hx HK0.out Tryd.underlying53 ?hd ?hi ?_); (case hx => rfl); (case hd => rfl); (case hi => rfl))
    | go_values | go_guarded | go_step | go_upon | go_back)
  have HG7 := Aside0.mk (heap_alloc_new w4 (.cells #[.int .u32 h0, .int .u32 h1, .int .u32 h2, .int .u32 h3, .int .u32 h4, .int .u32 h5, .int .u32 h6, .int .u32 h7] 53))
  have HM0 := Aside0.mk (blk_alloc HK0.out (.cells #[.int .u32 h0, .int .u32 h1, .int .u32 h2, .int .u32 h3, .int .u32 h4, .int .u32 h5, .int .u32 h6, .int .u32 h7] 53))
  have HM1 := Aside0.mk (blk_alloc HK1.out (.cells #[.int .u32 h0, .int .u32 h1, .int .u32 h2, .int .u32 h3, .int .u32 h4, .int .u32 h5, .int .u32 h6, .int .u32 h7] 53))
  have HM5 := Aside0.mk (blk_alloc HG5.out (.cells #[.int .u32 h0, .int .u32 h1, .int .u32 h2, .int .u32 h3, .int .u32 h4, .int .u32 h5, .int .u32 h6, .int .u32 h7] 53))
  have HM6 := Aside0.mk (blk_alloc HG6.out (.cells #[.int .u32 h0, .int .u32 h1, .int .u32 h2, .int .u32 h3, .int .u32 h4, .int .u32 h5, .int .u32 h6, .int .u32 h7] 53))
  have HB6 := Aside0.mk (below_alloc HB4.out (.cells #[.int .u32 h0, .int .u32 h1, .int .u32 h2, .int .u32 h3, .int .u32 h4, .int .u32 h5, .int .u32 h6, .int .u32 h7] 53))
  have hl7 := blk_lt HG6.out
  clear HK0 HK1 HG5 HG6 HB4
  generalize w4.heap.size = g7 at *
  generalize w4.alloc (.cells #[.int .u32 h0, .int .u32 h1, .int .u32 h2, .int .u32 h3, .int .u32 h4, .int .u32 h5, .int .u32 h6, .int .u32 h7] 53) = w6 at *
  have HG7' : Aside0 (w6.heap[g7]? = some (.cells ⟨(roundsA [h0, h1, h2, h3, h4, h5, h6, h7] b 0).map (Value.int .u32)⟩ 53 (0, 0))) := ⟨HG7.out⟩
  clear HG7
  go_loopw [8] (fun i wr => ∃ t : Nat, i = .int .i64 t ∧ t ≤ 64 ∧ Aside0 (wr.heap[w.heap.size]? = some (.cells #[.int .u32 h0, .int .u32 h1, .int .u32 h2, .int .u32 h3, .int .u32 h4, .int .u32 h5, .int .u32 h6, .int .u32 h7] 53 (0, 0))) ∧ Aside0 (wr.heap[w.heap.size + 1]? = some (.cells #[.int .u32 0, .int .u32 0, .int .u32 0, .int .u32 0, .int .u32 0, .int .u32 0, .int .u32 0, .int .u32 0] 53 (0, 0))) ∧ Aside0 (wr.heap[g5]? = some (.cells ⟨ks⟩ 73 (0, 0))) ∧ Aside0 (wr.heap[g6]? = some (.cells ⟨vs⟩ 73 (0, 0))) ∧ Aside0 (wr.heap[g7]? = some (.cells ⟨(roundsA [h0, h1, h2, h3, h4, h5, h6, h7] b t).map (Value.int .u32)⟩ 53 (0, 0))) ∧ Aside0 (Below w.heap.size w wr)) (fun i _ => 64 - (intOf i).toNat)
  case atStart => exact ⟨0, rfl, by omega, HM0, HM1, HM5, HM6, HG7', HB6⟩
  case round =>
    clear HM0 HM1 HM5 HM6 HG7' HB6
    obtain ⟨t, rfl, ht, HM0, HM1, HM5, HM6, HG7, HB⟩ := hrel
    by_cases hlt : t < 64
    · have hd1 : decide ((t : Int) < 64) = true := decide_eq_true (by omega)
      have hlt2 : (t : Int) < 64 := by omega
      obtain ⟨s0, s1, s2, s3, s4, s5, s6, s7, hs⟩ := eight (roundsA_length (hs := [h0, h1, h2, h3, h4, h5, h6, h7]) rfl b t)
      have hst := HST.out t
      have h7b := HG7.out
      rw [hs] at hst h7b
      have HST1 := Aside0.mk hst
      have HG7b := Aside0.mk h7b
      have HX := Aside0.mk (HXV.out t hlt)
      have HY := Aside0.mk (HKV.out t hlt)
      generalize kk.getD t 0 = kv at HY HST1
      generalize xs.getD t 0 = xv at HX HST1
      obtain ⟨hc0, hc1, hc2, hc3, hc4, hc5, hc6, hc7⟩ := cells8b HG7b.out
      clear hs hst h7b HG7
      go_wp2
      rw [chosen s4 s5 s6]
      clear hc0 hc1 hc2 hc3 hc4 hc5 hc6 hc7
      refine start_ (n := 22) (S := fun w' => w'.heap[w.heap.size]? = some (.cells #[.int .u32 h0, .int .u32 h1, .int .u32 h2, .int .u32 h3, .int .u32 h4, .int .u32 h5, .int .u32 h6, .int .u32 h7] 53 (0, 0)) ∧ w'.heap[w.heap.size + 1]? = some (.cells #[.int .u32 0, .int .u32 0, .int .u32 0, .int .u32 0, .int .u32 0, .int .u32 0, .int .u32 0, .int .u32 0] 53 (0, 0)) ∧ w'.heap[g5]? = some (.cells ⟨ks⟩ 73 (0, 0)) ∧ w'.heap[g6]? = some (.cells ⟨vs⟩ 73 (0, 0)) ∧ w'.heap[g7]? = some (.cells ⟨[s0, s1, s2, s3, s4, s5, s6, s7].map (Value.int .u32)⟩ 53 (0, 0)) ∧ Below w.heap.size w w') (ds := []) #[false, false, false, false, false, false, false, false, false, false, false, false, false, false, false, false, false, false, false, false, false, false] (by kernel_rfl) rfl rfl ⟨blk_drew HM0.out, blk_drew HM1.out, blk_drew HM5.out, blk_drew HM6.out, blk_drew HG7b.out, below_drew HB.out⟩ (fun hHeld => ?_)
      refine pure_ (i := 0) (N := (some 36)) (v := ?_) (a' := ?_) #[true, false, false, false, false, false, false, false, false, false, false, false, false, false, false, false, false, false, false, false, false, false] rfl rfl (by kernel_rfl) (fun _ _ _ h => h) (Or.inl ⟨by rfl, ?_⟩) ?_ ?_
      rotate_left
      · intro w'
        go_simp
        with_reducible rfl
      rotate_left
      · simp only [Act.put, List.setIfInBounds_toArray, List.set_cons_zero, List.set_cons_succ, i64_w, i32_w]
        rfl
      refine take_ (i := 1) (N := (some 37)) (v := ?_) (a' := ?_) #[true, true, false, false, false, false, false, false, false, false, false, false, false, false, false, false, false, false, false, false, false, false] rfl rfl (by kernel_rfl) (fun _ _ _ h => h) (Or.inl ⟨by rfl, ?_⟩) hHeld ?_ ?_
      rotate_left
      · rintro w' ⟨z0, z1, z2, z3, z4, z5⟩
        obtain ⟨hc0, hc1, hc2, hc3, hc4, hc5, hc6, hc7⟩ := cells8b z4
        go_simp
        with_reducible rfl
      rotate_left
      · simp only [Act.put, List.setIfInBounds_toArray, List.set_cons_zero, List.set_cons_succ, i64_w, i32_w]
        rfl
      refine pure_ (i := 2) (N := (some 38)) (v := ?_) (a' := ?_) #[true, true, true, false, false, false, false, false, false, false, false, false, false, false, false, false, false, false, false, false, false, false] rfl rfl (by kernel_rfl) (fun _ _ _ h => h) (Or.inl ⟨by rfl, ?_⟩) ?_ ?_
      rotate_left
      · intro w'
        go_simp
        with_reducible rfl
      rotate_left
      · simp only [Act.put, List.setIfInBounds_toArray, List.set_cons_zero, List.set_cons_succ, i64_w, i32_w]
        rfl
      refine pure_ (i := 4) (N := (some 40)) (v := ?_) (a' := ?_) #[true, true, true, false, true, false, false, false, false, false, false, false, false, false, false, false, false, false, false, false, false, false] rfl rfl (by kernel_rfl) (fun _ _ _ h => h) (Or.inl ⟨by rfl, ?_⟩) ?_ ?_
      rotate_left
      · intro w'
        go_simp
        with_reducible rfl
      rotate_left
      · simp only [Act.put, List.setIfInBounds_toArray, List.set_cons_zero, List.set_cons_succ, i64_w, i32_w]
        rfl
      refine pure_ (i := 7) (N := (some 43)) (v := ?_) (a' := ?_) #[true, true, true, false, true, false, false, true, false, false, false, false, false, false, false, false, false, false, false, false, false, false] rfl rfl (by kernel_rfl) (fun _ _ _ h => h) (Or.inl ⟨by rfl, ?_⟩) ?_ ?_
      rotate_left
      · intro w'
        go_simp
        with_reducible rfl
      rotate_left
      · simp only [Act.put, List.setIfInBounds_toArray, List.set_cons_zero, List.set_cons_succ, i64_w, i32_w]
        rfl
      refine pure_ (i := 11) (N := (some 47)) (v := ?_) (a' := ?_) #[true, true, true, false, true, false, false, true, false, false, false, true, false, false, false, false, false, false, false, false, false, false] rfl rfl (by kernel_rfl) (fun _ _ _ h => h) (Or.inl ⟨by rfl, ?_⟩) ?_ ?_
      rotate_left
      · intro w'
        go_simp
        with_reducible rfl
      rotate_left
      · simp only [Act.put, List.setIfInBounds_toArray, List.set_cons_zero, List.set_cons_succ, i64_w, i32_w]
        rfl
      refine pure_ (i := 13) (N := (some 49)) (v := ?_) (a' := ?_) #[true, true, true, false, true, false, false, true, false, false, false, true, false, true, false, false, false, false, false, false, false, false] rfl rfl (by kernel_rfl) (fun _ _ _ h => h) (Or.inl ⟨by rfl, ?_⟩) ?_ ?_
      rotate_left
      · intro w'
        go_simp
        with_reducible rfl
      rotate_left
      · simp only [Act.put, List.setIfInBounds_toArray, List.set_cons_zero, List.set_cons_succ, i64_w, i32_w]
        rfl
      refine pure_ (i := 14) (N := (some 50)) (v := ?_) (a' := ?_) #[true, true, true, false, true, false, false, true, false, false, false, true, false, true, true, false, false, false, false, false, false, false] rfl rfl (by kernel_rfl) (fun _ _ _ h => h) (Or.inl ⟨by rfl, ?_⟩) ?_ ?_
      rotate_left
      · intro w'
        go_simp
        with_reducible rfl
      rotate_left
      · simp only [Act.put, List.setIfInBounds_toArray, List.set_cons_zero, List.set_cons_succ, i64_w, i32_w]
        rfl
      refine take_ (i := 15) (N := (some 51)) (v := ?_) (a' := ?_) #[true, true, true, false, true, false, false, true, false, false, false, true, false, true, true, true, false, false, false, false, false, false] rfl rfl (by kernel_rfl) (fun _ _ _ h => h) (Or.inl ⟨by rfl, ?_⟩) hHeld ?_ ?_
      rotate_left
      · rintro w' ⟨z0, z1, z2, z3, z4, z5⟩
        have hx := (blk_cell z2 t).trans HY.out
        go_simp
        with_reducible rfl
      rotate_left
      · simp only [Act.put, List.setIfInBounds_toArray, List.set_cons_zero, List.set_cons_succ, i64_w, i32_w]
        rfl
      refine pure_ (i := 17) (N := (some 53)) (v := ?_) (a' := ?_) #[true, true, true, false, true, false, false, true, false, false, false, true, false, true, true, true, false, true, false, false, false, false] rfl rfl (by kernel_rfl) (fun _ _ _ h => h) (Or.inl ⟨by rfl, ?_⟩) ?_ ?_
      rotate_left
      · intro w'
        go_simp
        with_reducible rfl
      rotate_left
      · simp only [Act.put, List.setIfInBounds_toArray, List.set_cons_zero, List.set_cons_succ, i64_w, i32_w]
        rfl
      refine pure_ (i := 18) (N := (some 54)) (v := ?_) (a' := ?_) #[true, true, true, false, true, false, false, true, false, false, false, true, false, true, true, true, false, true, true, false, false, false] rfl rfl (by kernel_rfl) (fun _ _ _ h => h) (Or.inl ⟨by rfl, ?_⟩) ?_ ?_
      rotate_left
      · intro w'
        go_simp
        with_reducible rfl
      rotate_left
      · simp only [Act.put, List.setIfInBounds_toArray, List.set_cons_zero, List.set_cons_succ, i64_w, i32_w]
        rfl
      refine take_ (i := 19) (N := (some 55)) (v := ?_) (a' := ?_) #[true, true, true, false, true, false, false, true, false, false, false, true, false, true, true, true, false, true, true, true, false, false] rfl rfl (by kernel_rfl) (fun _ _ _ h => h) (Or.inl ⟨by rfl, ?_⟩) hHeld ?_ ?_
      rotate_left
      · rintro w' ⟨z0, z1, z2, z3, z4, z5⟩
        have hx := (blk_cell z3 t).trans HX.out
        go_simp
        with_reducible rfl
      rotate_left
      · simp only [Act.put, List.setIfInBounds_toArray, List.set_cons_zero, List.set_cons_succ, i64_w, i32_w]
        rfl
      refine one_ (i := 3) (N := (some 39)) #[true, true, true, true, true, false, false, true, false, false, false, true, false, true, true, true, false, true, true, true, false, false] rfl rfl (by kernel_rfl) (by decide) (fun K hK => ?_)
      refine goes_ Tryd.func42 (by kernel_rfl) rfl #[.int .u32 s4, .int .u32 6] (by rfl) rfl rfl (by (try simp only [List.map_toArray, List.map_cons, List.map_nil]); first | done | rfl) ?_
      with_reducible refine (turned_6 s4 _).mono ?_
      rintro e w' ⟨rfl, rfl⟩
      refine ⟨_, rfl, ?_⟩
      refine hK.out _ _ hHeld (fun hHeld => ?_)
      clear hK K
      refine norm_ (a' := ?_) ?_ ?_
      rotate_left
      · show Act.put _ (some 39) _ = _
        simp only [Act.put, List.setIfInBounds_toArray, List.set_cons_zero, List.set_cons_succ, i64_w, i32_w]
        rfl
      refine one_ (i := 5) (N := (some 41)) #[true, true, true, true, true, true, false, true, false, false, false, true, false, true, true, true, false, true, true, true, false, false] rfl rfl (by kernel_rfl) (by decide) (fun K hK => ?_)
      refine goes_ Tryd.func42 (by kernel_rfl) rfl #[.int .u32 s4, .int .u32 11] (by rfl) rfl rfl (by (try simp only [List.map_toArray, List.map_cons, List.map_nil]); first | done | rfl) ?_
      with_reducible refine (turned_11 s4 _).mono ?_
      rintro e w' ⟨rfl, rfl⟩
      refine ⟨_, rfl, ?_⟩
      refine hK.out _ _ hHeld (fun hHeld => ?_)
      clear hK K
      refine norm_ (a' := ?_) ?_ ?_
      rotate_left
      · show Act.put _ (some 41) _ = _
        simp only [Act.put, List.setIfInBounds_toArray, List.set_cons_zero, List.set_cons_succ, i64_w, i32_w]
        rfl
      refine pure_ (i := 6) (N := (some 42)) (v := ?_) (a' := ?_) #[true, true, true, true, true, true, true, true, false, false, false, true, false, true, true, true, false, true, true, true, false, false] rfl rfl (by kernel_rfl) (fun _ _ _ h => h) (Or.inl ⟨by rfl, ?_⟩) ?_ ?_
      rotate_left
      · intro w'
        go_simp
        with_reducible rfl
      rotate_left
      · simp only [Act.put, List.setIfInBounds_toArray, List.set_cons_zero, List.set_cons_succ, i64_w, i32_w]
        rfl
      refine one_ (i := 8) (N := (some 44)) #[true, true, true, true, true, true, true, true, true, false, false, true, false, true, true, true, false, true, true, true, false, false] rfl rfl (by kernel_rfl) (by decide) (fun K hK => ?_)
      refine goes_ Tryd.func42 (by kernel_rfl) rfl #[.int .u32 s4, .int .u32 25] (by rfl) rfl rfl (by (try simp only [List.map_toArray, List.map_cons, List.map_nil]); first | done | rfl) ?_
      with_reducible refine (turned_25 s4 _).mono ?_
      rintro e w' ⟨rfl, rfl⟩
      refine ⟨_, rfl, ?_⟩
      refine hK.out _ _ hHeld (fun hHeld => ?_)
      clear hK K
      refine norm_ (a' := ?_) ?_ ?_
      rotate_left
      · show Act.put _ (some 44) _ = _
        simp only [Act.put, List.setIfInBounds_toArray, List.set_cons_zero, List.set_cons_succ, i64_w, i32_w]
        rfl
      refine pure_ (i := 9) (N := (some 45)) (v := ?_) (a' := ?_) #[true, true, true, true, true, true, true, true, true, true, false, true, false, true, true, true, false, true, true, true, false, false] rfl rfl (by kernel_rfl) (fun _ _ _ h => h) (Or.inl ⟨by rfl, ?_⟩) ?_ ?_
      rotate_left
      · intro w'
        go_simp
        with_reducible rfl
      rotate_left
      · simp only [Act.put, List.setIfInBounds_toArray, List.set_cons_zero, List.set_cons_succ, i64_w, i32_w]
        rfl
      refine pure_ (i := 10) (N := (some 46)) (v := ?_) (a' := ?_) #[true, true, true, true, true, true, true, true, true, true, true, true, false, true, true, true, false, true, true, true, false, false] rfl rfl (by kernel_rfl) (fun _ _ _ h => h) (Or.inl ⟨by rfl, ?_⟩) ?_ ?_
      rotate_left
      · intro w'
        go_simp
        with_reducible rfl
      rotate_left
      · simp only [Act.put, List.setIfInBounds_toArray, List.set_cons_zero, List.set_cons_succ, i64_w, i32_w]
        rfl
      refine pure_ (i := 12) (N := (some 48)) (v := ?_) (a' := ?_) #[true, true, true, true, true, true, true, true, true, true, true, true, true, true, true, true, false, true, true, true, false, false] rfl rfl (by kernel_rfl) (fun _ _ _ h => h) (Or.inl ⟨by rfl, ?_⟩) ?_ ?_
      rotate_left
      · intro w'
        go_simp
        with_reducible rfl
      rotate_left
      · simp only [Act.put, List.setIfInBounds_toArray, List.set_cons_zero, List.set_cons_succ, i64_w, i32_w]
        rfl
      refine pure_ (i := 16) (N := (some 52)) (v := ?_) (a' := ?_) #[true, true, true, true, true, true, true, true, true, true, true, true, true, true, true, true, true, true, true, true, false, false] rfl rfl (by kernel_rfl) (fun _ _ _ h => h) (Or.inl ⟨by rfl, ?_⟩) ?_ ?_
      rotate_left
      · intro w'
        go_simp
        with_reducible rfl
      rotate_left
      · simp only [Act.put, List.setIfInBounds_toArray, List.set_cons_zero, List.set_cons_succ, i64_w, i32_w]
        rfl
      refine pure_ (i := 20) (N := (some 56)) (v := ?_) (a' := ?_) #[true, true, true, true, true, true, true, true, true, true, true, true, true, true, true, true, true, true, true, true, true, false] rfl rfl (by kernel_rfl) (fun _ _ _ h => h) (Or.inl ⟨by rfl, ?_⟩) ?_ ?_
      rotate_left
      · intro w'
        go_simp
        with_reducible rfl
      rotate_left
      · simp only [Act.put, List.setIfInBounds_toArray, List.set_cons_zero, List.set_cons_succ, i64_w, i32_w]
        rfl
      refine pure_ (i := 21) (N := (some 11)) (v := ?_) (a' := ?_) #[true, true, true, true, true, true, true, true, true, true, true, true, true, true, true, true, true, true, true, true, true, true] rfl rfl (by kernel_rfl) (fun _ _ _ h => h) (Or.inl ⟨by rfl, ?_⟩) ?_ ?_
      rotate_left
      · intro w'
        go_simp
        with_reducible rfl
      rotate_left
      · simp only [Act.put, List.setIfInBounds_toArray, List.set_cons_zero, List.set_cons_succ, i64_w, i32_w]
        rfl
      refine done_ (by kernel_rfl) ?_
      generalize hp : IntKind.u32.wrap (IntKind.u32.wrap (IntKind.u32.wrap (IntKind.u32.wrap (s7 + Go.bits .xor .u32 (Go.bits .xor .u32 (rotR s4 6) (rotR s4 11)) (rotR s4 25)) + Go.bits .xor .u32 s6 (Go.bits .and .u32 s4 (Go.bits .xor .u32 s5 s6))) + kv) + xv) = p
      have HP : Aside0 (p = ad (ad (ad (ad s7 (oneW s4)) (Go.bits .xor .u32 s6 (Go.bits .and .u32 s4 (Go.bits .xor .u32 s5 s6)))) kv) xv) := ⟨hp.symm⟩
      clear hp HX HY HM0 HM1 HM5 HM6 HG7b HB
      obtain ⟨z0, z1, z2, z3, z4, z5⟩ := hHeld
      obtain ⟨hc0, hc1, hc2, hc3, hc4, hc5, hc6, hc7⟩ := cells8b z4
      have HM0 := Aside0.mk z0
      have HM1 := Aside0.mk z1
      have HM5 := Aside0.mk z2
      have HM6 := Aside0.mk z3
      have HM7 := Aside0.mk z4
      have HB := Aside0.mk z5
      clear z0 z1 z2 z3 z4 z5
      repeat (first
        | (go_at_call 42; (with_reducible refine (turned_2 s0 _).mono ?_); rintro e1 w1 ⟨rfl, rfl⟩; dsimp only)
        | (go_at_call 42; (with_reducible refine (turned_13 s0 _).mono ?_); rintro e1 w1 ⟨rfl, rfl⟩; dsimp only)
        | (go_at_call 42; (with_reducible refine (turned_22 s0 _).mono ?_); rintro e1 w1 ⟨rfl, rfl⟩; dsimp only)
        | ((with_reducible refine wpList_store 53 (.tmp 7) (.tmp 103) g7 _ _ ?cs rfl rfl ?hx ?hy HM7.out ?hs ?hi ?h1 ?_); (case hx => rfl); (case hy => rfl); (case hs => rfl); (case hi => rfl); (case h1 => exact one_u32 [_, _, _, _, _, _, _, _]); intro w2 q1 q2 q3 q4; rw [most s0 s1 s2] at q1; have HN7 := Aside0.mk q1; have HN0 := Aside0.mk ((q2 w.heap.size (by omega)).trans HM0.out); have HN1 := Aside0.mk ((q2 (w.heap.size + 1) (by omega)).trans HM1.out); have HN5 := Aside0.mk ((q2 g5 (by omega)).trans HM5.out); have HN6 := Aside0.mk ((q2 g6 (by omega)).trans HM6.out); have HNB := Aside0.mk (q3 w.heap.size w HB.out (by omega)); clear q1 q2 q3 q4 HM0 HM1 HM5 HM6 HM7 HB)
        | go_values | go_guarded | go_step | go_upon | go_back)
      refine ⟨⟨t + 1, rfl, by omega, HN0, HN1, HN5, HN6, ⟨?_⟩, HNB⟩, by simp [intOf]; omega⟩
      rw [HST1.out]
      obtain rfl := HP.out
      simp only [roundA]
      rw [ad_ad]
      exact HN7.out
    · have hd1 : decide ((t : Int) < 64) = false := decide_eq_false (by omega)
      have ht64 : t = 64 := by omega
      obtain ⟨s0, s1, s2, s3, s4, s5, s6, s7, hs⟩ := eight (roundsA_length (hs := [h0, h1, h2, h3, h4, h5, h6, h7]) rfl b 64)
      have hturn : Aside0 (turnA [h0, h1, h2, h3, h4, h5, h6, h7] b = midA [h0, h1, h2, h3, h4, h5, h6, h7] [s0, s1, s2, s3, s4, s5, s6, s7] 8) := ⟨by unfold turnA; rw [hs]; rfl⟩
      have h7b := HG7.out
      rw [ht64, hs] at h7b
      have HS7 := Aside0.mk h7b
      have HGm : Aside0 (wr.heap[w.heap.size]? = some (.cells ⟨(midA [h0, h1, h2, h3, h4, h5, h6, h7] [s0, s1, s2, s3, s4, s5, s6, s7] 0).map (Value.int .u32) ++ []⟩ 53 (0, 0))) := ⟨HM0.out⟩
      clear hs h7b HG7 HM0 HM5 HM6 ht64
      go_wp2
      go_loopw [15] (fun i wr => ∃ k : Nat, i = .int .i64 k ∧ k ≤ 8 ∧ Aside0 (wr.heap[w.heap.size]? = some (.cells ⟨(midA [h0, h1, h2, h3, h4, h5, h6, h7] [s0, s1, s2, s3, s4, s5, s6, s7] k).map (Value.int .u32) ++ []⟩ 53 (0, 0))) ∧ Aside0 (wr.heap[g7]? = some (.cells ⟨[s0, s1, s2, s3, s4, s5, s6, s7].map (Value.int .u32)⟩ 53 (0, 0))) ∧ Aside0 (wr.heap[w.heap.size + 1]? = some (.cells #[.int .u32 0, .int .u32 0, .int .u32 0, .int .u32 0, .int .u32 0, .int .u32 0, .int .u32 0, .int .u32 0] 53 (0, 0))) ∧ Aside0 (Below w.heap.size w wr)) (fun i _ => 8 - (intOf i).toNat)
      case atStart => exact ⟨0, rfl, by omega, HGm, HS7, HM1, HB⟩
      case round =>
        clear HGm HS7 HM1 HB
        obtain ⟨k, rfl, hk, HGm, HS7, HM1, HB⟩ := hrel
        by_cases hk8 : k < 8
        · have hd3 : decide ((k : Int) < 8) = true := decide_eq_true (by omega)
          have hk2 : (k : Int) < 8 := by omega
          have hcg := (blk_cell HGm.out k).trans (midA_cell [] hk8)
          have hfg := blk_frozen HGm.out k
          have hcs : wr.cell? ⟨g7, k, none⟩ = some (.int .u32 ([s0, s1, s2, s3, s4, s5, s6, s7].getD k 0)) := (blk_cell HS7.out k).trans (nums_cell (by simpa using hk8))
          have hset := blk_set HGm.out k (.int .u32 (ad ([h0, h1, h2, h3, h4, h5, h6, h7].getD k 0) ([s0, s1, s2, s3, s4, s5, s6, s7].getD k 0)))
          rw [midA_set [] hk8] at hset
          have hn7 := (Below.heap_setCell wr ⟨w.heap.size, k, none⟩ (.int .u32 (ad ([h0, h1, h2, h3, h4, h5, h6, h7].getD k 0) ([s0, s1, s2, s3, s4, s5, s6, s7].getD k 0))) g7 (by simp; omega)).trans HS7.out
          have hn1 := (Below.heap_setCell wr ⟨w.heap.size, k, none⟩ (.int .u32 (ad ([h0, h1, h2, h3, h4, h5, h6, h7].getD k 0) ([s0, s1, s2, s3, s4, s5, s6, s7].getD k 0))) (w.heap.size + 1) (by simp)).trans HM1.out
          have hbb := HB.out.setCell (p := ⟨w.heap.size, k, none⟩) (by simp) (.int .u32 (ad ([h0, h1, h2, h3, h4, h5, h6, h7].getD k 0) ([s0, s1, s2, s3, s4, s5, s6, s7].getD k 0)))
          have HQ1 := Aside0.mk hset
          have HQ2 := Aside0.mk hn7
          have HQ3 := Aside0.mk hn1
          have HQ4 := Aside0.mk hbb
          clear hset hn7 hn1 hbb
          generalize [h0, h1, h2, h3, h4, h5, h6, h7].getD k 0 = hv at hcg HQ1 HQ2 HQ3 HQ4
          generalize [s0, s1, s2, s3, s4, s5, s6, s7].getD k 0 = sv at hcs HQ1 HQ2 HQ3 HQ4
          go_wp2
          go_region
          go_wp2
          exact ⟨⟨k + 1, rfl, by omega, ⟨blk_drew HQ1.out⟩, ⟨blk_drew HQ2.out⟩, ⟨blk_drew HQ3.out⟩, ⟨below_drew HQ4.out⟩⟩, by simp [intOf]; omega⟩
        · have hd3 : decide ((k : Int) < 8) = false := decide_eq_false (by omega)
          have hk88 : k = 8 := by omega
          subst hk88
          have hend : Aside0 (wr.heap[w.heap.size]? = some (.cells ⟨(turnA [h0, h1, h2, h3, h4, h5, h6, h7] b).map (Value.int .u32)⟩ 53 (0, 0))) := ⟨by rw [hturn.out]; simpa using HGm.out⟩
          obtain ⟨n0, n1, n2, n3, n4, n5, n6, n7, hns⟩ := eight (turnA_length8 (hs := [h0, h1, h2, h3, h4, h5, h6, h7]) rfl b)
          rw [hns] at hend
          have HNS := Aside0.mk hns
          clear HGm hturn
          have hdd : Aside0 (wr.heap[w.heap.size]? = some (.cells #[.int .u32 n0, .int .u32 n1, .int .u32 n2, .int .u32 n3, .int .u32 n4, .int .u32 n5, .int .u32 n6, .int .u32 n7] 53 (0, 0))) := ⟨hend.out⟩
          clear hend hns
          repeat (first
            | ((with_reducible refine wpList_load 53 (.tmp 2) w.heap.size _ _ _ rfl rfl ?hx hdd.out Tryd.underlying53 ?hd ?hi ?_); (case hx => rfl); (case hd => rfl); (case hi => rfl))
            | ((with_reducible refine wpList_store 53 (.tmp 4) (.tmp 117) (w.heap.size + 1) _ _ #[.int .u32 n0, .int .u32 n1, .int .u32 n2, .int .u32 n3, .int .u32 n4, .int .u32 n5, .int .u32 n6, .int .u32 n7] rfl rfl ?hx ?hy HM1.out ?hs ?hi ?h1 ?_); (case hx => rfl); (case hy => rfl); (case hs => rfl); (case hi => rfl); (case h1 => exact one_u32 [n0, n1, n2, n3, n4, n5, n6, n7]); intro w2 q1 q2 q3 q4; have HG1 := Aside0.mk q1; have HG3 := Aside0.mk (q3 w.heap.size w HB.out (by omega)); clear q1 q2 q3 q4)
            | go_values | go_guarded | go_step | go_upon | go_back)
          refine bodyPost_ret (results_single rfl (.cell (w.heap.size + 1) _ _ (0, 0) _ rfl HG1.out Tryd.underlying53 rfl rfl .nil)) rfl ?_
          exact ⟨by rw [HNS.out]; rfl, HG3.out⟩
end Go.Proofs.YtncipbbdboeinaaDoor
