/-
The walk of law BucketSlots.
-/
import Derived.Test.YtknmokpnkcckeaaBackAll
namespace Go.Proofs.Ytknmokpnkcckeaa
open Go.RowKit Go.Proofs.YtknmokpnkcckeaaW.PrintWords Go.Proofs.YtknmokpnkcckeaaW.PrintLast Go.Proofs.YtknmokpnkcckeaaW.PrintMore Go.Proofs.Ytknmokpnkcckeaa.PAll
set_option linter.unusedVariables false
set_option linter.unusedSimpArgs false


set_option maxHeartbeats 3000000 in
set_option maxRecDepth 100000 in
theorem slots_great (k : Nat) (l0 l1 l2 l3 : Int) (A : Option Addr) (c : Nat) (xs : List S62) (L R : List Int) (w : World) (hL : L.length = 32) (hR : R.length = 32) (hr : Kd.C k62 w A xs.length xs) (hc : xs.length ≤ c) (hgr : ref09_Great.f k xs 10 = some true) :
    Calls Try.prog 8 #[.agg #[.int .i64 l0, .int .i64 l1, .int .i64 l2, .int .i64 l3], .agg ⟨bkC A xs.length c L R⟩] w fun e w' => e = .returned (.bool true) ∧ Below w.heap.size w w' := by
  have HR := Aside0.mk hr
  have HC := Aside0.mk hc
  have HGR := Aside0.mk hgr
  have HBc := Aside0.mk (below_alloc (below_alloc (Below.refl w.heap.size w) (.cells #[.int .i64 l0, .int .i64 l1, .int .i64 l2, .int .i64 l3] 23)) (.cells ⟨bkC A xs.length c L R⟩ 40))
  have HG0 := Aside0.mk (blk_alloc (heap_alloc_new w (.cells #[.int .i64 l0, .int .i64 l1, .int .i64 l2, .int .i64 l3] 23)) (.cells ⟨bkC A xs.length c L R⟩ 40))
  have HG1 : Aside0 (((w.alloc (.cells #[.int .i64 l0, .int .i64 l1, .int .i64 l2, .int .i64 l3] 23)).alloc (.cells ⟨bkC A xs.length c L R⟩ 40)).heap[w.heap.size + 1]? = some (.cells ⟨bkC A xs.length c L R⟩ 40 (0, 0))) := ⟨by
    have h := heap_alloc_new (w.alloc (.cells #[.int .i64 l0, .int .i64 l1, .int .i64 l2, .int .i64 l3] 23)) (.cells ⟨bkC A xs.length c L R⟩ 40)
    rw [World.size_alloc] at h
    exact h⟩
  clear hr hc hgr
  go_enter Try.func8, Try.ntmps8
  repeat (first
    | (go_at_call 16; (with_reducible refine (refGreat_calls k A c xs L R true _ HRb.out HC.out HGR.out).mono ?_); rintro e2 w2 ⟨rfl, hb⟩; have HBc := Aside0.mk (bl HBc.out hb); have HG0 := Aside0.mk (blk_below HG0.out hb); have HG1 := Aside0.mk (blk_below HG1.out hb); have HRb := Aside0.mk (Kd.C_below HRb.out hb); clear hb; (try dsimp only))
    | (go_at_call 31; (with_reducible refine (alive_calls _).mono ?_); rintro e1 w1 ⟨rfl, hb⟩; have HBc := Aside0.mk (bl HBc.out hb); have HG0 := Aside0.mk (blk_below HG0.out hb); have HG1 := Aside0.mk (blk_below HG1.out hb); have HRb := Aside0.mk (Kd.C_below HR.out HBc.out); clear hb; (try dsimp only))
    | ((with_reducible refine wpList_whole_g 40 (.tmp 3) (w.heap.size + 1) 40 (bkC A xs.length c L R) _ ?hw rfl ?hx ?hg Try.underlying40 ?hd ?hi ?_); (case hg => exact HG1.out); (case hw => rfl); (case hx => rfl); (case hd => rfl); (case hi => rw [bkC_length hL hR]; exact info40))
    | ((with_reducible refine wpList_whole_g 23 (.tmp 2) (w.heap.size) 23 ([.int .i64 l0, .int .i64 l1, .int .i64 l2, .int .i64 l3]) _ ?hw rfl ?hx ?hg Try.underlying23 ?hd ?hi ?_); (case hg => exact HG0.out); (case hw => rfl); (case hx => rfl); (case hd => rfl); (case hi => exact infoLB))
    | go_values | go_guarded | go_step | go_upon | go_back)
  go_ret
  exact ⟨rfl, HBc.out⟩

set_option maxHeartbeats 3000000 in
set_option maxRecDepth 100000 in
theorem slots_bad (k : Nat) (l0 l1 l2 l3 : Int) (A : Option Addr) (c : Nat) (xs : List S62) (L R : List Int) (w : World) (hL : L.length = 32) (hR : R.length = 32) (hr : Kd.C k62 w A xs.length xs) (hc : xs.length ≤ c) (hgr : ref09_Great.f k xs 10 = some false) (many : Nat) (Z : List Int) (wf3 : (Lit.int .i64 l3).wf = true) (hn : xs.length ≤ 1000) (hwf : ∀ x ∈ xs, (Lit.int .i64 x.f0).wf = true) (hmn : manyS l0 l1 l2 l3 = (many : Int)) (hE : bckS l0 l1 l2 l3 xs = 8) (hZ : Z = if (8 : Int) = 0 then ofK l1 txtS xs many ++ L ++ R else []) (n f : Int) (hSL : slot_Slots.f 20 l0 l1 l2 l3 = some (n, f)) :
    Calls Try.prog 8 #[.agg #[.int .i64 l0, .int .i64 l1, .int .i64 l2, .int .i64 l3], .agg ⟨bkC A xs.length c L R⟩] w fun e w' => e = .returned (.bool true) ∧ Below w.heap.size w w' := by
  have HR := Aside0.mk hr
  have HC := Aside0.mk hc
  have HGR := Aside0.mk hgr
  have HBc := Aside0.mk (below_alloc (below_alloc (Below.refl w.heap.size w) (.cells #[.int .i64 l0, .int .i64 l1, .int .i64 l2, .int .i64 l3] 23)) (.cells ⟨bkC A xs.length c L R⟩ 40))
  have HG0 := Aside0.mk (blk_alloc (heap_alloc_new w (.cells #[.int .i64 l0, .int .i64 l1, .int .i64 l2, .int .i64 l3] 23)) (.cells ⟨bkC A xs.length c L R⟩ 40))
  have HG1 : Aside0 (((w.alloc (.cells #[.int .i64 l0, .int .i64 l1, .int .i64 l2, .int .i64 l3] 23)).alloc (.cells ⟨bkC A xs.length c L R⟩ 40)).heap[w.heap.size + 1]? = some (.cells ⟨bkC A xs.length c L R⟩ 40 (0, 0))) := ⟨by
    have h := heap_alloc_new (w.alloc (.cells #[.int .i64 l0, .int .i64 l1, .int .i64 l2, .int .i64 l3] 23)) (.cells ⟨bkC A xs.length c L R⟩ 40)
    rw [World.size_alloc] at h
    exact h⟩
  have Qhn := Aside0.mk hn
  have Qhwf := Aside0.mk hwf
  have Qhmn := Aside0.mk hmn
  have QhE := Aside0.mk hE
  have QhZ := Aside0.mk hZ
  have QhSL := Aside0.mk hSL
  clear hr hc hgr hn hwf hmn hE hZ hSL
  go_enter Try.func8, Try.ntmps8
  repeat (first
    | (go_at_call 32; (with_reducible refine (slot_Slots.calls 20 l0 l1 l2 l3 (n) f _ QhSL.out).mono ?_); rintro e4 w4 ⟨rfl, hb⟩; have HBc := Aside0.mk (bl HBc.out hb); have HG0 := Aside0.mk (blk_below HG0.out hb); have HG1 := Aside0.mk (blk_below HG1.out hb); have HRb := Aside0.mk (Kd.C_below HRb.out hb); have HX1 := Aside0.mk (Kd.C_below HX1.out hb); have HS4 := Aside0.mk hb.size; clear hb; (try dsimp only))
    | (go_at_call 18; (with_reducible refine (wrtT_calls many 8 Z l0 l1 l2 l3 A c xs L R _ wf3 hL hR HRb.out Qhn.out Qhwf.out Qhmn.out QhE.out QhZ.out).mono ?_); rintro e3 w3 ⟨A1, c1, rfl, hc1, hC1, hb⟩; have HBc := Aside0.mk (bl HBc.out hb); have HG0 := Aside0.mk (blk_below HG0.out hb); have HG1 := Aside0.mk (blk_below HG1.out hb); have HRb := Aside0.mk (Kd.C_below HRb.out hb); have HC1 := Aside0.mk hc1; have HX1 := Aside0.mk hC1; clear hc1 hC1; clear hb; (try dsimp only))
    | (go_at_call 16; (with_reducible refine (refGreat_calls k A c xs L R false _ HRb.out HC.out HGR.out).mono ?_); rintro e2 w2 ⟨rfl, hb⟩; have HBc := Aside0.mk (bl HBc.out hb); have HG0 := Aside0.mk (blk_below HG0.out hb); have HG1 := Aside0.mk (blk_below HG1.out hb); have HRb := Aside0.mk (Kd.C_below HRb.out hb); clear hb; (try dsimp only))
    | (go_at_call 31; (with_reducible refine (alive_calls _).mono ?_); rintro e1 w1 ⟨rfl, hb⟩; have HBc := Aside0.mk (bl HBc.out hb); have HG0 := Aside0.mk (blk_below HG0.out hb); have HG1 := Aside0.mk (blk_below HG1.out hb); have HRb := Aside0.mk (Kd.C_below HR.out HBc.out); clear hb; (try dsimp only))
    | ((with_reducible refine wpList_whole_g 40 (.tmp 3) (w.heap.size + 1) 40 (bkC A xs.length c L R) _ ?hw rfl ?hx ?hg Try.underlying40 ?hd ?hi ?_); (case hg => exact HG1.out); (case hw => rfl); (case hx => rfl); (case hd => rfl); (case hi => rw [bkC_length hL hR]; exact info40))
    | ((with_reducible refine wpList_whole_g 23 (.tmp 2) (w.heap.size) 23 ([.int .i64 l0, .int .i64 l1, .int .i64 l2, .int .i64 l3]) _ ?hw rfl ?hx ?hg Try.underlying23 ?hd ?hi ?_); (case hg => exact HG0.out); (case hw => rfl); (case hx => rfl); (case hd => rfl); (case hi => exact infoLB))
    | go_values | go_guarded | go_step | go_upon | go_back)
  go_ret
  exact ⟨rfl, HBc.out⟩

set_option maxHeartbeats 3000000 in
set_option maxRecDepth 100000 in
theorem slots_good (k : Nat) (l0 l1 l2 l3 : Int) (A : Option Addr) (c : Nat) (xs : List S62) (L R : List Int) (w : World) (hL : L.length = 32) (hR : R.length = 32) (hr : Kd.C k62 w A xs.length xs) (hc : xs.length ≤ c) (hgr : ref09_Great.f k xs 10 = some false) (many : Nat) (Z : List Int) (wf3 : (Lit.int .i64 l3).wf = true) (hn : xs.length ≤ 1000) (hwf : ∀ x ∈ xs, (Lit.int .i64 x.f0).wf = true) (hmn : manyS l0 l1 l2 l3 = (many : Int)) (hE : bckS l0 l1 l2 l3 xs = 0) (hZ : Z = if (0 : Int) = 0 then ofK l1 txtS xs many ++ L ++ R else []) (hSL : slot_Slots.f 20 l0 l1 l2 l3 = some ((many : Int), 0)) (hlen : xs.length ≤ many) (hm4 : many ≤ 4) (h1 : 1 ≤ l1) (h32 : l1 ≤ 32) (hW : ∀ x ∈ xs, slot_Write.f l0 l1 l2 l3 x.f0 x.f1 x.f2 = some (txtS x, 0)) (hTl : ∀ x ∈ xs, (txtS x).length = (8 + l1).toNat) (hN : slot_None.f 20 l0 l1 l2 l3 = some (List.replicate (8 + l1).toNat 0, 0)) :
    Calls Try.prog 8 #[.agg #[.int .i64 l0, .int .i64 l1, .int .i64 l2, .int .i64 l3], .agg ⟨bkC A xs.length c L R⟩] w fun e w' => e = .returned (.bool true) ∧ Below w.heap.size w w' := by
  have hex := ofK_exact (xs := xs) (T := txtS) (size := l1) hTl
  have HR := Aside0.mk hr
  have HC := Aside0.mk hc
  have HGR := Aside0.mk hgr
  have HBc := Aside0.mk (below_alloc (below_alloc (Below.refl w.heap.size w) (.cells #[.int .i64 l0, .int .i64 l1, .int .i64 l2, .int .i64 l3] 23)) (.cells ⟨bkC A xs.length c L R⟩ 40))
  have HG0 := Aside0.mk (blk_alloc (heap_alloc_new w (.cells #[.int .i64 l0, .int .i64 l1, .int .i64 l2, .int .i64 l3] 23)) (.cells ⟨bkC A xs.length c L R⟩ 40))
  have HG1 : Aside0 (((w.alloc (.cells #[.int .i64 l0, .int .i64 l1, .int .i64 l2, .int .i64 l3] 23)).alloc (.cells ⟨bkC A xs.length c L R⟩ 40)).heap[w.heap.size + 1]? = some (.cells ⟨bkC A xs.length c L R⟩ 40 (0, 0))) := ⟨by
    have h := heap_alloc_new (w.alloc (.cells #[.int .i64 l0, .int .i64 l1, .int .i64 l2, .int .i64 l3] 23)) (.cells ⟨bkC A xs.length c L R⟩ 40)
    rw [World.size_alloc] at h
    exact h⟩
  have Qhn := Aside0.mk hn
  have Qhwf := Aside0.mk hwf
  have Qhmn := Aside0.mk hmn
  have QhE := Aside0.mk hE
  have QhZ := Aside0.mk hZ
  have QhSL := Aside0.mk hSL
  have HW := Aside0.mk hW
  have HTL := Aside0.mk hTl
  have HNN := Aside0.mk hN
  have HEX := Aside0.mk hex
  clear hr hc hgr hW hTl hN hn hwf hmn hE hZ hSL hex
  go_enter Try.func8, Try.ntmps8
  repeat (first
    | (go_at_call 32; (with_reducible refine (slot_Slots.calls 20 l0 l1 l2 l3 (many : Int) 0 _ QhSL.out).mono ?_); rintro e4 w4 ⟨rfl, hb⟩; have HBc := Aside0.mk (bl HBc.out hb); have HG0 := Aside0.mk (blk_below HG0.out hb); have HG1 := Aside0.mk (blk_below HG1.out hb); have HRb := Aside0.mk (Kd.C_below HRb.out hb); have HX1 := Aside0.mk (Kd.C_below HX1.out hb); have HS4 := Aside0.mk hb.size; clear hb; (try dsimp only))
    | (go_at_call 18; (with_reducible refine (wrtT_calls many 0 Z l0 l1 l2 l3 A c xs L R _ wf3 hL hR HRb.out Qhn.out Qhwf.out Qhmn.out QhE.out QhZ.out).mono ?_); rintro e3 w3 ⟨A1, c1, rfl, hc1, hC1, hb⟩; have HBc := Aside0.mk (bl HBc.out hb); have HG0 := Aside0.mk (blk_below HG0.out hb); have HG1 := Aside0.mk (blk_below HG1.out hb); have HRb := Aside0.mk (Kd.C_below HRb.out hb); have HC1 := Aside0.mk hc1; have HX1 := Aside0.mk hC1; clear hc1 hC1; clear hb; (try dsimp only))
    | (go_at_call 16; (with_reducible refine (refGreat_calls k A c xs L R false _ HRb.out HC.out HGR.out).mono ?_); rintro e2 w2 ⟨rfl, hb⟩; have HBc := Aside0.mk (bl HBc.out hb); have HG0 := Aside0.mk (blk_below HG0.out hb); have HG1 := Aside0.mk (blk_below HG1.out hb); have HRb := Aside0.mk (Kd.C_below HRb.out hb); clear hb; (try dsimp only))
    | (go_at_call 31; (with_reducible refine (alive_calls _).mono ?_); rintro e1 w1 ⟨rfl, hb⟩; have HBc := Aside0.mk (bl HBc.out hb); have HG0 := Aside0.mk (blk_below HG0.out hb); have HG1 := Aside0.mk (blk_below HG1.out hb); have HRb := Aside0.mk (Kd.C_below HR.out HBc.out); clear hb; (try dsimp only))
    | ((with_reducible refine wpList_whole_g 40 (.tmp 3) (w.heap.size + 1) 40 (bkC A xs.length c L R) _ ?hw rfl ?hx ?hg Try.underlying40 ?hd ?hi ?_); (case hg => exact HG1.out); (case hw => rfl); (case hx => rfl); (case hd => rfl); (case hi => rw [bkC_length hL hR]; exact info40))
    | ((with_reducible refine wpList_whole_g 23 (.tmp 2) (w.heap.size) 23 ([.int .i64 l0, .int .i64 l1, .int .i64 l2, .int .i64 l3]) _ ?hw rfl ?hx ?hg Try.underlying23 ?hd ?hi ?_); (case hg => exact HG0.out); (case hw => rfl); (case hx => rfl); (case hd => rfl); (case hi => exact infoLB))
    | go_values | go_guarded | go_step | go_upon | go_back)
  have hs4 : w.heap.size + 2 ≤ w4.heap.size := by
    have h2 := (Array.getElem?_eq_some_iff.1 HG1.out).1
    omega
  go_loopw [10, 11, 12, 13] (fun v10 v11 v12 v13 wr => ∃ i : Nat, v11 = .int .i64 i ∧ i ≤ many ∧ Aside0 (Kd.R (Kd.int .u8) 5 wr (w4.heap.size) (fun _ => True) v10 (ofK l1 txtS xs i)) ∧ Aside0 (Below (w4.heap.size) w4 wr)) (fun _ v11 _ _ _ => many - (intOf v11).toNat)
  case atStart => exact ⟨0, rfl, Nat.zero_le _, ⟨Kd.R_nil _ _ _ _ _⟩, ⟨Below.refl _ _⟩⟩
  case round =>
    obtain ⟨i, rfl, hi, HV, HB⟩ := hrel
    obtain ⟨A7, c7, rfl⟩ := Kd.R_slice HV.out
    have hszr : w4.heap.size ≤ wr.heap.size := by have := HB.out.size; omega
    have HBW := Aside0.mk (HBc.out.trans (HB.out.mono (by omega : w.heap.size ≤ w4.heap.size)))
    have HG0r := Aside0.mk ((HB.out.block w.heap.size (by omega)).trans HG0.out)
    have HG1r := Aside0.mk ((HB.out.block (w.heap.size + 1) (by omega)).trans HG1.out)
    have hlj := HEX.out i
    have hlj2 : i * (8 + l1).toNat ≤ 4 * 40 := Nat.mul_le_mul (by omega) (by omega)
    have HLN := Aside0.mk (show (ofK l1 txtS xs i).length ≤ 200 by omega)
    clear hlj hlj2
    by_cases hlm : i < many
    · have hd1 : decide ((i : Int) < (many : Int)) = true := decide_eq_true (by omega)
      have hlm2 : (i : Int) < (many : Int) := by omega
      by_cases hlt : i < xs.length
      · have hd2 : decide ((i : Int) < (xs.length : Int)) = true := decide_eq_true (by omega)
        have hlt2 : (i : Int) < (xs.length : Int) := by omega
        have hget : xs[i]? = some xs[i] := List.getElem?_eq_getElem hlt
        have hwx := HW.out xs[i] (List.getElem_mem hlt)
        have htl := HTL.out xs[i] (List.getElem_mem hlt)
        have hstep : ofK l1 txtS xs (i + 1) = ofK l1 txtS xs i ++ txtS xs[i] := by simp only [ofK, hget]
        generalize xs[i] = x at hget hwx htl hstep
        obtain ⟨ad, A2, c2, rfl, hx0, hx1, hx2, hc2, hCx⟩ := at62 HR.out hget
        obtain ⟨f0, f1, f2⟩ := x
        dsimp only at hx0 hx1 hx2 hCx hc2 hwx
        have HX0 := Aside0.mk (cell_belowK HBW.out hx0)
        have HXX1 := Aside0.mk (cell_belowK HBW.out hx1)
        have HXX2 := Aside0.mk (cell_belowK HBW.out hx2)
        have HCXr := Aside0.mk (Kd.C_below hCx HBW.out)
        have HC2 := Aside0.mk hc2
        have HWX := Aside0.mk hwx
        have HST := Aside0.mk hstep
        have HLT := Aside0.mk htl
        clear hget hCx hc2 hwx htl hstep hx0 hx1 hx2
        repeat (first
          | (go_at_call 33; (with_reducible refine (slot_None.calls 20 l0 l1 l2 l3 _ 0 _ HNN.out).mono ?_); rintro e5 wN ⟨v5, rfl, hR5, hb⟩; obtain ⟨A5, c5, rfl⟩ := Kd.R_slice hR5; have HBN := Aside0.mk hb; have HLNN := Aside0.mk (blk_below HG0r.out hb); have HKN := Aside0.mk (blk_below HG1r.out hb); have HX0N := Aside0.mk (cell_belowK hb HX0.out); have HX1N := Aside0.mk (cell_belowK hb HXX1.out); have HX2N := Aside0.mk (cell_belowK hb HXX2.out); have HCX := Aside0.mk (Kd.C_below HCXr.out hb); have hk := bk_cell0 HKN.out; clear hb hR5; (try dsimp only))
          | ((with_reducible refine wpList_whole_g 23 (.tmp 2) (w.heap.size) 23 ([.int .i64 l0, .int .i64 l1, .int .i64 l2, .int .i64 l3]) _ ?hw rfl ?hx ?hg Try.underlying23 ?hd ?hi ?_); (case hg => exact HG0r.out); (case hw => rfl); (case hx => rfl); (case hd => rfl); (case hi => exact infoLB))
          | go_values | go_guarded | go_step | go_upon | go_back)
        clear hk
        refine start_ (n := 12) (S := fun w' => Below wN.heap.size wN w') (ds := []) #[false, false, false, false, false, false, false, false, false, false, false, false] (by kernel_rfl) rfl rfl (below_drew (Below.refl _ _)) (fun hHeld => ?_)
        refine take_ (i := 0) (N := (some 52)) (v := ?_) (a' := ?_) #[true, false, false, false, false, false, false, false, false, false, false, false] rfl rfl (by kernel_rfl) (fun _ _ _ h => h) (Or.inl ⟨by rfl, ?_⟩) hHeld ?_ ?_
        rotate_left
        · rintro w' z0
          refine exec_loadB (ty := 23) (x := .tmp 2) ?_ ?_ (blk_below HLNN.out z0) Try.underlying23 rfl infoLB
          · rfl
          · rfl
        rotate_left
        · simp only [Act.put, List.setIfInBounds_toArray, List.set_cons_zero, List.set_cons_succ, i64_w, i32_w]
          rfl
        refine pure_ (i := 1) (N := (some 53)) (v := ?_) (a' := ?_) #[true, true, false, false, false, false, false, false, false, false, false, false] rfl rfl (by kernel_rfl) (fun _ _ _ h => h) (Or.inl ⟨by rfl, ?_⟩) ?_ ?_
        rotate_left
        · intro w'
          go_simp
          with_reducible rfl
        rotate_left
        · simp only [Act.put, List.setIfInBounds_toArray, List.set_cons_zero, List.set_cons_succ, i64_w, i32_w]
          rfl
        refine take_ (i := 2) (N := (some 54)) (v := ?_) (a' := ?_) #[true, true, true, false, false, false, false, false, false, false, false, false] rfl rfl (by kernel_rfl) (fun _ _ _ h => h) (Or.inl ⟨by rfl, ?_⟩) hHeld ?_ ?_
        rotate_left
        · rintro w' z0
          have hc := bk_cell0 (blk_below HKN.out z0)
          go_simp
          with_reducible rfl
        rotate_left
        · simp only [Act.put, List.setIfInBounds_toArray, List.set_cons_zero, List.set_cons_succ, i64_w, i32_w]
          rfl
        refine pure_ (i := 3) (N := (some 55)) (v := ?_) (a' := ?_) #[true, true, true, true, false, false, false, false, false, false, false, false] rfl rfl (by kernel_rfl) (fun _ _ _ h => h) (Or.inl ⟨by rfl, ?_⟩) ?_ ?_
        rotate_left
        · intro w'
          go_simp
          with_reducible rfl
        rotate_left
        · simp only [Act.put, List.setIfInBounds_toArray, List.set_cons_zero, List.set_cons_succ, i64_w, i32_w]
          rfl
        refine pure_ (i := 4) (N := (some 56)) (v := ?_) (a' := ?_) #[true, true, true, true, true, false, false, false, false, false, false, false] rfl rfl (by kernel_rfl) (fun _ _ _ h => h) (Or.inl ⟨by rfl, ?_⟩) ?_ ?_
        rotate_left
        · intro w'
          go_simp
          with_reducible rfl
        rotate_left
        · simp only [Act.put, List.setIfInBounds_toArray, List.set_cons_zero, List.set_cons_succ, i64_w, i32_w]
          rfl
        refine take_ (i := 5) (N := (some 57)) (v := ?_) (a' := ?_) #[true, true, true, true, true, true, false, false, false, false, false, false] rfl rfl (by kernel_rfl) (fun _ _ _ h => h) (Or.inl ⟨by rfl, ?_⟩) hHeld ?_ ?_
        rotate_left
        · rintro w' z0
          have hq0 := cell_belowK z0 HX0N.out
          have hq1 := cell_belowK z0 HX1N.out
          have hq2 := cell_belowK z0 HX2N.out
          go_simp
          with_reducible rfl
        rotate_left
        · simp only [Act.put, List.setIfInBounds_toArray, List.set_cons_zero, List.set_cons_succ, i64_w, i32_w]
          rfl
        refine one_ (i := 6) (N := (some 58)) #[true, true, true, true, true, true, true, false, false, false, false, false] rfl rfl (by kernel_rfl) (by decide) (fun K hK => ?_)
        refine goes_ Try.func34 (by kernel_rfl) rfl #[.agg #[.int .i64 l0, .int .i64 l1, .int .i64 l2, .int .i64 l3], .agg #[.int .i64 f0, .int .i64 f1, .slice A2 f2.length c2]] (by rfl) rfl rfl (by (try simp only [List.map_toArray, List.map_cons, List.map_nil]); first | done | rfl) ?_
        refine (slot_Write.calls l0 l1 l2 l3 f0 f1 A2 c2 f2 _ 0 _ (Kd.C_below HCX.out hHeld) HC2.out HWX.out).mono ?_
        rintro e3 w5 ⟨v3, rfl, hR3, hb⟩
        obtain ⟨A3, c3, rfl⟩ := Kd.R_slice hR3
        have HR3 := Aside0.mk hR3
        have hS := bl hHeld hb
        have HS5 := Aside0.mk hS.size
        clear hb hR3
        refine ⟨_, rfl, ?_⟩
        refine hK.out _ _ hS (fun hHeld => ?_)
        clear hK K
        refine norm_ (a' := ?_) ?_ ?_
        rotate_left
        · show Act.put _ (some 58) _ = _
          simp only [Act.put, List.setIfInBounds_toArray, List.set_cons_zero, List.set_cons_succ, i64_w, i32_w]
          rfl
        refine pure_ (i := 7) (N := (some 51)) (v := ?_) (a' := ?_) #[true, true, true, true, true, true, true, true, false, false, false, false] rfl rfl (by kernel_rfl) (fun _ _ _ h => h) (Or.inl ⟨by rfl, ?_⟩) ?_ ?_
        rotate_left
        · intro w'
          go_simp
          with_reducible rfl
        rotate_left
        · simp only [Act.put, List.setIfInBounds_toArray, List.set_cons_zero, List.set_cons_succ, i64_w, i32_w]
          rfl
        refine pure_ (i := 8) (N := (some 59)) (v := ?_) (a' := ?_) #[true, true, true, true, true, true, true, true, true, false, false, false] rfl rfl (by kernel_rfl) (fun _ _ _ h => h) (Or.inl ⟨by rfl, ?_⟩) ?_ ?_
        rotate_left
        · intro w'
          go_simp
          with_reducible rfl
        rotate_left
        · simp only [Act.put, List.setIfInBounds_toArray, List.set_cons_zero, List.set_cons_succ, i64_w, i32_w]
          rfl
        refine pure_ (i := 9) (N := (some 60)) (v := ?_) (a' := ?_) #[true, true, true, true, true, true, true, true, true, true, false, false] rfl rfl (by kernel_rfl) (fun _ _ _ h => h) (Or.inl ⟨by rfl, ?_⟩) ?_ ?_
        rotate_left
        · intro w'
          go_simp
          with_reducible rfl
        rotate_left
        · simp only [Act.put, List.setIfInBounds_toArray, List.set_cons_zero, List.set_cons_succ, i64_w, i32_w]
          rfl
        refine pure_ (i := 10) (N := (some 12)) (v := ?_) (a' := ?_) #[true, true, true, true, true, true, true, true, true, true, true, false] rfl rfl (by kernel_rfl) (fun _ _ _ h => h) (Or.inl ⟨by rfl, ?_⟩) ?_ ?_
        rotate_left
        · intro w'
          go_simp
          with_reducible rfl
        rotate_left
        · simp only [Act.put, List.setIfInBounds_toArray, List.set_cons_zero, List.set_cons_succ, i64_w, i32_w]
          rfl
        refine pure_ (i := 11) (N := (some 13)) (v := ?_) (a' := ?_) #[true, true, true, true, true, true, true, true, true, true, true, true] rfl rfl (by kernel_rfl) (fun _ _ _ h => h) (Or.inl ⟨by rfl, ?_⟩) ?_ ?_
        rotate_left
        · intro w'
          go_simp
          with_reducible rfl
        rotate_left
        · simp only [Act.put, List.setIfInBounds_toArray, List.set_cons_zero, List.set_cons_succ, i64_w, i32_w]
          rfl
        refine done_ (by kernel_rfl) ?_
        have HB5 := Aside0.mk (bl HBN.out hHeld)
        repeat (first
          | ((with_reducible refine gate_builtin (b := .append) (xs := #[.tmp 63, .tmp 64]) rfl ?_); at_builtin; refine Kd.R_append_rows (Kd.int .u8) (w0 := w4) (w4.heap.size) rfl (.tmp 63) (.tmp 64) 43 5 (.int .u8 0) 1 rfl Try.underlying43 info5B rfl (by decide) (by omega) (.slice A7 (ofK l1 txtS xs i).length c7) (ofK l1 txtS xs i) (txtS ⟨f0, f1, f2⟩) _ _ _ (fun _ => True) (fun _ => False) rfl rfl ?aO ?aR (fun _ _ h => h) (fun _ h => h.elim) ?aF ?aB ?aS ?aL ?_; (case aO => exact Kd.R_below HV.out HB5.out); (case aR => exact (Kd.R_reads' HR3.out).2.2); (case aF => exact (fun _ _ => trivial)); (case aB => exact HB.out.trans (HB5.out.mono hszr)); (case aS => have := HB5.out.size; omega); (case aL => have h1 := HLT.out; have h2 := HLN.out; omega); intro v6 w6 hown hb hg hat; have HOWN := Aside0.mk hown; have HB6 := Aside0.mk hb; clear hown hb hg hat)
          | go_values | go_guarded | go_step | go_upon | go_back)
        refine ⟨⟨i + 1, by simp, by omega, ⟨by rw [HST.out]; exact HOWN.out⟩, HB6⟩, by simp [intOf]; omega⟩
      · have hd2 : decide ((i : Int) < (xs.length : Int)) = false := decide_eq_false (by omega)
        have hlt2 : ¬ (i : Int) < (xs.length : Int) := by omega
        have hstep : ofK l1 txtS xs (i + 1) = ofK l1 txtS xs i ++ List.replicate (8 + l1).toNat 0 := by simp only [ofK, List.getElem?_eq_none (by omega : xs.length ≤ i)]
        have HST := Aside0.mk hstep
        have hm8 : ((8 + l1).toNat : Int) ≤ 40 := by omega
        have HM8 := Aside0.mk hm8
        clear hstep hm8
        repeat (first
          | (go_at_call 33; (with_reducible refine (slot_None.calls 20 l0 l1 l2 l3 _ 0 _ HNN.out).mono ?_); rintro e5 wN ⟨v5, rfl, hR5, hb⟩; obtain ⟨A5, c5, rfl⟩ := Kd.R_slice hR5; simp only [List.length_replicate] at hR5 ⊢; have HR5 := Aside0.mk hR5; have HBN := Aside0.mk hb; have HKN := Aside0.mk (blk_below HG1r.out hb); have hk := bk_cell0 HKN.out; clear hb hR5; (try dsimp only))
          | ((with_reducible refine wpList_whole_g 23 (.tmp 2) (w.heap.size) 23 ([.int .i64 l0, .int .i64 l1, .int .i64 l2, .int .i64 l3]) _ ?hw rfl ?hx ?hg Try.underlying23 ?hd ?hi ?_); (case hg => exact HG0r.out); (case hw => rfl); (case hx => rfl); (case hd => rfl); (case hi => exact infoLB))
          | ((with_reducible refine gate_builtin (b := .append) (xs := #[.tmp 63, .tmp 64]) rfl ?_); at_builtin; refine Kd.R_append_rows (Kd.int .u8) (w0 := w4) (w4.heap.size) rfl (.tmp 63) (.tmp 64) 43 5 (.int .u8 0) 1 rfl Try.underlying43 info5B rfl (by decide) (by omega) (.slice A7 (ofK l1 txtS xs i).length c7) (ofK l1 txtS xs i) (List.replicate (8 + l1).toNat (0 : Int)) A5 (8 + l1).toNat c5 (fun _ => True) (fun _ => False) rfl rfl ?aO ?aR (fun _ _ h => h) (fun _ h => h.elim) ?aF ?aB ?aS ?aL ?_; (case aO => exact Kd.R_below HV.out HBN.out); (case aR => have h := (Kd.R_reads' HR5.out).2.2; rw [List.length_replicate] at h; exact h); (case aF => exact (fun _ _ => trivial)); (case aB => exact HB.out.trans (HBN.out.mono hszr)); (case aS => have := HBN.out.size; omega); (case aL => have h1 := HM8.out; have h2 := HLN.out; omega); intro v6 w6 hown hb hg hat; have HOWN := Aside0.mk hown; have HB6 := Aside0.mk hb; clear hown hb hg hat)
          | go_values | go_guarded | go_step | go_upon | go_back)
        refine ⟨⟨i + 1, by simp, by omega, ⟨by rw [HST.out]; exact HOWN.out⟩, HB6⟩, by simp [intOf]; omega⟩
    · have hd1 : decide ((i : Int) < (many : Int)) = false := decide_eq_false (by omega)
      have him : i = many := by omega
      have hd5 : decide ((xs.length : Int) ≤ (many : Int)) = true := decide_eq_true (by omega)
      have hlm2 : ¬ (i : Int) < (many : Int) := by omega
      have hd3 : ((ofK l1 txtS xs i).length : Int) ≤ 200 := by have := HLN.out; omega
      have HIM := Aside0.mk him
      clear him
      repeat (first | go_values | go_guarded | go_step | go_upon | go_back)
      refine start_ (n := 8) (S := fun w' => Below (w4.heap.size) w4 w') (ds := [3, 6]) #[false, false, false, false, false, false, false, false] (by kernel_rfl) rfl rfl (below_drew HB.out) (fun hHeld => ?_)
      refine pure_ (i := 0) (N := (some 66)) (v := ?_) (a' := ?_) #[true, false, false, false, false, false, false, false] rfl rfl (by kernel_rfl) (fun _ _ _ h => h) (Or.inl ⟨by rfl, ?_⟩) ?_ ?_
      rotate_left
      · intro w'
        go_simp
        with_reducible rfl
      rotate_left
      · simp only [Act.put, List.setIfInBounds_toArray, List.set_cons_zero, List.set_cons_succ, i64_w, i32_w]
        rfl
      refine pure_ (i := 1) (N := (some 67)) (v := ?_) (a' := ?_) #[true, true, false, false, false, false, false, false] rfl rfl (by kernel_rfl) (fun _ _ _ h => h) (Or.inl ⟨by rfl, ?_⟩) ?_ ?_
      rotate_left
      · intro w'
        go_simp
        with_reducible rfl
      rotate_left
      · simp only [Act.put, List.setIfInBounds_toArray, List.set_cons_zero, List.set_cons_succ, i64_w, i32_w]
        rfl
      refine pure_ (i := 2) (N := (some 68)) (v := ?_) (a' := ?_) #[true, true, true, false, false, false, false, false] rfl rfl (by kernel_rfl) (fun _ _ _ h => h) (Or.inl ⟨by rfl, ?_⟩) ?_ ?_
      rotate_left
      · intro w'
        go_simp
        with_reducible rfl
      rotate_left
      · simp only [Act.put, List.setIfInBounds_toArray, List.set_cons_zero, List.set_cons_succ, i64_w, i32_w]
        rfl
      refine pure_ (i := 4) (N := (some 70)) (v := ?_) (a' := ?_) #[true, true, true, false, true, false, false, false] rfl rfl (by kernel_rfl) (fun _ _ _ h => h) (Or.inl ⟨by rfl, ?_⟩) ?_ ?_
      rotate_left
      · intro w'
        go_simp
        with_reducible rfl
      rotate_left
      · simp only [Act.put, List.setIfInBounds_toArray, List.set_cons_zero, List.set_cons_succ, i64_w, i32_w]
        rfl
      refine pure_ (i := 5) (N := (some 71)) (v := ?_) (a' := ?_) #[true, true, true, false, true, true, false, false] rfl rfl (by kernel_rfl) (fun _ _ _ h => h) (Or.inl ⟨by rfl, ?_⟩) ?_ ?_
      rotate_left
      · intro w'
        go_simp
        with_reducible rfl
      rotate_left
      · simp only [Act.put, List.setIfInBounds_toArray, List.set_cons_zero, List.set_cons_succ, i64_w, i32_w]
        rfl
      refine last_ (i := 3) (N := (some 69)) #[true, true, true, true, true, true, false, false] rfl rfl (by kernel_rfl) (by decide) (fun K hK => ?_)
      refine Kd.R_append_rows_step (Kd.int .u8) (w0 := w4) (w4.heap.size) rfl (.tmp 66) (.tmp 68) 43 5 (.int .u8 0) 1 rfl Try.underlying43 info5B rfl (by decide) (by omega) (.slice A7 (ofK l1 txtS xs i).length c7) (ofK l1 txtS xs i) L (some ⟨w.heap.size + 1, 1, none⟩) 32 32 (fun _ => True) (fun _ => False) rfl rfl ?aO ?aR (fun _ _ h => h) (fun _ h => h.elim) ?aF ?aB ?aS ?aL ?_
      case aO => exact HV.out
      case aR => exact C_dig (pre := [.slice A xs.length c]) (tail := R.map (Value.int .u8)) hL ((HB.out.block _ (by omega)).trans HG1.out) rfl
      case aF => exact (fun _ _ => trivial)
      case aB => exact below_drew HB.out
      case aS => show w4.heap.size ≤ wr.heap.size; omega
      case aL => simp; omega
      intro v8 w8 hown hb hg hat
      have HOWN := Aside0.mk hown
      have HB8 := Aside0.mk hb
      clear hown hb hg hat
      refine hK.out _ _ ?_
      clear hK K
      refine norm_ (a' := ?_) ?_ ?_
      rotate_left
      · show Act.put _ (some 69) _ = _
        simp only [Act.put, List.setIfInBounds_toArray, List.set_cons_zero, List.set_cons_succ, i64_w, i32_w]
        rfl
      refine last_ (i := 6) (N := (some 72)) #[true, true, true, true, true, true, true, false] rfl rfl (by kernel_rfl) (by decide) (fun K hK => ?_)
      refine Kd.R_append_rows_step (Kd.int .u8) (w0 := w4) (w4.heap.size) rfl (.tmp 69) (.tmp 71) 43 5 (.int .u8 0) 1 rfl Try.underlying43 info5B rfl (by decide) (by omega) v8 (ofK l1 txtS xs i ++ L) R (some ⟨w.heap.size + 1, 33, none⟩) 32 32 (fun _ => True) (fun _ => False) rfl rfl ?aO ?aR (fun _ _ h => h) (fun _ h => h.elim) ?aF ?aB ?aS ?aL ?_
      case aO => exact HOWN.out
      case aR => exact C_dig hR (bk_right ((HB8.out.block _ (by omega)).trans HG1.out)) (by simp [hL])
      case aF => exact (fun _ _ => trivial)
      case aB => exact HB8.out
      case aS => have := HB8.out.size; omega
      case aL => simp; omega
      intro v9 w9 hown hb hg hat
      have HOWN9 := Aside0.mk hown
      have HB9 := Aside0.mk hb
      clear hown hb hg hat
      refine hK.out _ _ ?_
      clear hK K
      refine norm_ (a' := ?_) ?_ ?_
      rotate_left
      · show Act.put _ (some 72) _ = _
        simp only [Act.put, List.setIfInBounds_toArray, List.set_cons_zero, List.set_cons_succ, i64_w, i32_w]
        rfl
      refine pure_ (i := 7) (N := (some 10)) (v := ?_) (a' := ?_) #[true, true, true, true, true, true, true, true] rfl rfl (by kernel_rfl) (fun _ _ _ h => h) (Or.inl ⟨by rfl, ?_⟩) ?_ ?_
      rotate_left
      · intro w'
        go_simp
        with_reducible rfl
      rotate_left
      · simp only [Act.put, List.setIfInBounds_toArray, List.set_cons_zero, List.set_cons_succ, i64_w, i32_w]
        rfl
      refine done_ (by kernel_rfl) ?_
      have h9 := HOWN9.out
      have hZ9 : ofK l1 txtS xs i ++ L ++ R = Z := by rw [QhZ.out, if_pos rfl, HIM.out]
      rw [hZ9] at h9
      obtain ⟨A9, c9, rfl⟩ := Kd.R_slice h9
      have HY9 := Aside0.mk h9
      have HBZ := Aside0.mk (HBc.out.trans (HB9.out.mono (by omega : w.heap.size ≤ w4.heap.size)))
      have HX9 := Aside0.mk (Kd.C_below HX1.out HB9.out)
      have hk := bk_cell0 ((HB9.out.block (w.heap.size + 1) (by omega)).trans HG1.out)
      clear h9 hZ9
      repeat (first
        | (go_at_call 21; (with_reducible refine (same01_calls A1 c1 A9 c9 Z _ HX9.out HC1.out (Kd.R_reads' HY9.out).2.2 (Kd.R_reads' HY9.out).2.1).mono ?_); rintro ea wa ⟨rfl, hb⟩; have HBF := Aside0.mk (bl HBZ.out hb); clear hb; (try dsimp only))
        | go_values | go_guarded | go_step | go_upon | go_back)
      go_ret
      exact ⟨rfl, HBF.out⟩


end Go.Proofs.Ytknmokpnkcckeaa
/-
BucketSlots answers true, whatever the level and the bucket.
-/
namespace Go.Proofs.Ytknmokpnkcckeaa
open Go.RowKit Go.Proofs.YtknmokpnkcckeaaW.PrintWords Go.Proofs.YtknmokpnkcckeaaW.PrintLast Go.Proofs.YtknmokpnkcckeaaW.PrintMore Go.Proofs.Ytknmokpnkcckeaa.PAll
set_option linter.unusedVariables false
set_option linter.unusedSimpArgs false

theorem bck_casesS (l0 l1 l2 l3 : Int) (xs : List S62) : bckS l0 l1 l2 l3 xs = 0 ∨ bckS l0 l1 l2 l3 xs = 8 := by
  unfold bckS
  split
  · exact Or.inl rfl
  · exact Or.inr rfl
set_option maxRecDepth 100000 in
theorem bucketSlots_all (l0 l1 l2 l3 : Int) (A : Option Addr) (c : Nat) (xs : List S62) (L R : List Int) (w : World) (hL : L.length = 32) (hR : R.length = 32) (wf3 : (Lit.int .i64 l3).wf = true)
    (hr : Kd.C k62 w A xs.length xs) (hc : xs.length ≤ c) (hwf : ∀ x ∈ xs, (Lit.int .i64 x.f0).wf = true) :
    Calls Try.prog 8 #[.agg #[.int .i64 l0, .int .i64 l1, .int .i64 l2, .int .i64 l3], .agg ⟨bkC A xs.length c L R⟩] w fun e w' => e = .returned (.bool true) ∧ Below w.heap.size w w' := by
  obtain ⟨ga, hga, hgx⟩ := great_eq xs (k := 500) (by omega)
  cases ga with
  | true => exact slots_great 500 l0 l1 l2 l3 A c xs L R w hL hR hr hc hga
  | false =>
    have hn := hgx rfl
    rcases bck_casesS l0 l1 l2 l3 xs with hE | hE
    · have hE' := hE
      unfold bckS at hE'
      split at hE'
      · next hh =>
        obtain ⟨hl, hle, hok⟩ := hh
        have hmay := okB_mem xs [] hok
        obtain ⟨many, q, hmn, hdv, h1, h4, hq, hl3, hl1, hl32, hhi⟩ := level_facts hl wf3
        refine slots_good 500 l0 l1 l2 l3 A c xs L R w hL hR hr hc hga many _ wf3 (by omega) hwf hmn hE (by rw [if_pos rfl]) ?_ (by omega) h4 hl1 hl32 (fun x hx => write_eq hl (hmay x hx)) (fun x hx => ?_) (none_eq (Nat.le_refl _) hl)
        · rw [slots_eq20]
          unfold slotsS
          rw [if_pos hl, hdv]
        · have := (hmay x hx).2.2.2.2
          unfold txtS ofS
          simp
          omega
      · cases hE'
    · have hmany : ∃ many : Nat, manyS l0 l1 l2 l3 = (many : Int) := by
        by_cases hl : levelOk l0 l1 l2 l3
        · obtain ⟨many, q, hmn, _⟩ := level_facts hl wf3
          exact ⟨many, hmn⟩
        · exact ⟨0, by unfold manyS; rw [if_neg hl]; rfl⟩
      obtain ⟨many, hmn⟩ := hmany
      exact slots_bad 500 l0 l1 l2 l3 A c xs L R w hL hR hr hc hga many [] wf3 (by omega) hwf hmn hE (by rw [if_neg (by decide)]) (slotsS l0 l1 l2 l3).1 (slotsS l0 l1 l2 l3).2 (slots_eq20 _ _ _ _)
end Go.Proofs.Ytknmokpnkcckeaa
