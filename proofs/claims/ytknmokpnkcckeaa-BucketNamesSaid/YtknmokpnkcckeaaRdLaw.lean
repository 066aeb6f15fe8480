/-
The document's Read of a bucket, where the level may be and the text is as long as it says.
-/
import Derived.Test.YtknmokpnkcckeaaRefSl
import Derived.Test.YtknmokpnkcckeaaBkRdG
namespace Go.Proofs.Ytknmokpnkcckeaa
open Go.RowKit Go.Proofs.YtknmokpnkcckeaaW.PrintWords Go.Proofs.YtknmokpnkcckeaaW.PrintLast Go.Proofs.YtknmokpnkcckeaaW.PrintMore Go.Proofs.Ytknmokpnkcckeaa.PAll
set_option linter.unusedVariables false
set_option linter.unusedSimpArgs false

/-- Slots read one behind the other, gaps or not. -/
def goD (rd : List Int → RS) : List (List Int) → List S62 → Option (List S62)
  | [], xs => some xs
  | p :: ps, xs => if (rd p).2.2.2.2 ≠ 0 then none else goD rd ps (if (rd p).2.2.2.1 = true then xs ++ [⟨(rd p).1, (rd p).2.1, (rd p).2.2.1⟩] else xs)
theorem goD_append (rd : List Int → RS) : ∀ (ps qs : List (List Int)) (xs : List S62), goD rd (ps ++ qs) xs = (goD rd ps xs).bind (goD rd qs)
  | [], qs, xs => rfl
  | p :: ps, qs, xs => by
    rw [List.cons_append, goD, goD]
    split
    · rfl
    · exact goD_append rd ps qs _
/-- What the document's Read answers. -/
def readD (l0 l1 l2 : Int) (many q : Nat) (rd : List Int → RS) (T : S62 → List Int) (t : List Int) : List S62 × List Int × List Int × Int :=
  match goD rd (slotsB many q t) [] with
  | none => ([], dig0, dig0, 8)
  | some xs => if (decide ((xs.length : Int) ≤ (many : Int)) && okB l0 l1 l2 [] xs) = true ∧ ofK l1 T xs many ++ (t.drop (many * q)).take 32 ++ (t.drop (many * q + 32)).take 32 = t then (xs, (t.drop (many * q)).take 32, (t.drop (many * q + 32)).take 32, 0) else ([], dig0, dig0, 8)
structure DInv (base h g : Nat) (l0 l1 l2 l3 : Int) (w : World) (rd : List Int → RS) (TL TR : List Int) (ps : List (List Int)) (W : World) : Prop where
  box : BoxD h l0 l1 l2 l3 W
  bel : Below w.heap.size w W
  lt : base ≤ W.heap.size
  st : ∃ (A : Option Addr) (c : Nat) (D : List BD), goD rd ps [] = some (D.map (·.1)) ∧ D.length ≤ ps.length ∧ W.heap[g]? = some (.cells ⟨bkC A D.length c TL TR⟩ 40 (0, 0)) ∧ OwnB base W (.slice A D.length c) D ∧ ∀ d ∈ D, GoodR base (.slice A D.length c) W d
theorem DInv.skip {base h g : Nat} {l0 l1 l2 l3 : Int} {w : World} {rd : List Int → RS} {TL TR : List Int} {ps : List (List Int)} {p : List Int} {W W' : World} (hI : DInv base h g l0 l1 l2 l3 w rd TL TR ps W) (hb : Below W.heap.size W W') (he : (rd p).2.2.2.2 = 0) (hi : (rd p).2.2.2.1 = false) (hw : w.heap.size ≤ W.heap.size) : DInv base h g l0 l1 l2 l3 w rd TL TR (ps ++ [p]) W' := by
  obtain ⟨A, c, D, h1, h2, h3, h4, h5⟩ := hI.st
  refine ⟨hI.box.below hb, hI.bel.trans (hb.mono hw), Nat.le_trans hI.lt hb.size, A, c, D, ?_, by rw [List.length_append]; omega, blk_below h3 hb, h4.step (fun k hk => hb.block k (h4.lt k hk.symm)), fun d hd => (h5 d hd).step (fun k _ hk _ _ => hb.block k hk) hb.size (.inl rfl)⟩
  rw [goD_append, h1]
  simp [goD, he, hi]
theorem DInv.block1 {base h g : Nat} {l0 l1 l2 l3 : Int} {w : World} {rd : List Int → RS} {TL TR : List Int} {ps : List (List Int)} {p : List Int} {W W1 Wa W2 : World} {ok : Nat → Prop} {A A1 A3 : Option Addr} {c c1 c3 : Nat} {D : List BD} (hI : DInv base h g l0 l1 l2 l3 w rd TL TR ps W)
    (h1 : goD rd ps [] = some (D.map (·.1))) (hD : D.length ≤ ps.length) (h5 : W.heap[g]? = some (.cells ⟨bkC A D.length c TL TR⟩ 40 (0, 0))) (h6 : OwnB base W (.slice A D.length c) D) (h7 : ∀ d ∈ D, GoodR base (.slice A D.length c) W d)
    (he : (rd p).2.2.2.2 = 0) (hi : (rd p).2.2.2.1 = true)
    (hb : Below W.heap.size W W1) (hV : Kd.F (Kd.int .u8) W1 (Young W.heap.size W1) A3 (rd p).2.2.1.length (rd p).2.2.1) (hc3 : (rd p).2.2.1.length ≤ c3)
    (hR : Kd.R (Kd.raw 3) 62 Wa base ok (.slice A1 (D.length + 1) c1) (D.map cell3 ++ [cell3 (⟨(rd p).1, (rd p).2.1, (rd p).2.2.1⟩, A3, c3)])) (hgr : W1.grownBy Wa (Value.slice A D.length c).ownBlock) (hat : (Value.slice A1 (D.length + 1) c1).ownBlock = (Value.slice A D.length c).ownBlock ∨ ∃ b, (Value.slice A1 (D.length + 1) c1).ownBlock = some b ∧ W1.heap.size ≤ b)
    (h2 : W2 = Wa.setCell ⟨g, 0, none⟩ (.slice A1 (D.length + 1) c1)) (hg : g < base) (hw : w.heap.size ≤ g) (hh : h + 1 < g) :
    DInv base h g l0 l1 l2 l3 w rd TL TR (ps ++ [p]) W2 := by
  have hs2 : W2.heap.size = Wa.heap.size := by rw [h2]; simp [World.setCell]
  have hf2 : ∀ k, k ≠ g → W2.heap[k]? = Wa.heap[k]? := fun k hk => by rw [h2]; exact Below.heap_setCell Wa ⟨g, 0, none⟩ _ k hk
  have hlt := hI.lt
  have hbs := hb.size
  have hgs := hgr.size
  have hob : ∀ k, (Value.slice A D.length c).ownBlock = some k → base ≤ k := h6.base
  have hol : ∀ k, (Value.slice A D.length c).ownBlock = some k → k < W.heap.size := h6.lt
  have hall : ∀ k, k < W.heap.size → k ≠ g → some k ≠ (Value.slice A D.length c).ownBlock → W2.heap[k]? = W.heap[k]? := fun k hk k2 k3 => (hf2 k k2).trans ((hgr.block k (by omega) k3).trans (hb.block k hk))
  have hno : ∀ k, k < base → some k ≠ (Value.slice A D.length c).ownBlock := fun k hk e => by have := hob k e.symm; omega
  refine ⟨⟨(hall h (by omega) (by omega) (hno _ (by omega))).trans hI.box.lev, (hall (h + 1) (by omega) (by omega) (hno _ (by omega))).trans hI.box.res⟩, ?_, by omega, A1, c1, D ++ [(⟨(rd p).1, (rd p).2.1, (rd p).2.2.1⟩, A3, c3)], ?_, ?_, ?_, ?_, ?_⟩
  · have hbel := hI.bel
    exact ⟨by rw [h2]; exact hgr.os.trans (hb.os.trans hbel.os), by rw [h2]; exact hgr.tape.trans (hb.tape.trans hbel.tape), by rw [h2]; exact hgr.output.trans (hb.output.trans hbel.output), by have := hbel.size; omega, fun k hk => (hall k (by have := hbel.size; omega) (by omega) (hno _ (by omega))).trans (hbel.block k hk)⟩
  · rw [goD_append, h1]
    simp [goD, he, hi]
  · simp only [List.length_append, List.length_singleton]; omega
  · have e1 : Wa.heap[g]? = some (.cells ⟨bkC A D.length c TL TR⟩ 40 (0, 0)) := (hgr.block g (by omega) (hno _ hg)).trans (blk_below h5 hb)
    have e2 := bk_set0 (A' := A1) (n' := D.length + 1) (c' := c1) e1
    rw [h2, List.length_append, List.length_singleton]
    exact e2
  · have hR1 : OwnB base Wa (.slice A1 (D.length + 1) c1) (D ++ [(⟨(rd p).1, (rd p).2.1, (rd p).2.2.1⟩, A3, c3)]) := by
      have := Kd.R_tight rfl hR
      unfold OwnB
      rw [List.map_append]
      exact this
    rw [List.length_append, List.length_singleton]
    exact hR1.step (fun k hk => hf2 k (by have := hR1.base k hk.symm; omega))
  · intro d hd
    rw [List.length_append, List.length_singleton]
    rcases List.mem_append.1 hd with hd | hd
    · exact (h7 d hd).step (fun k hk1 hk2 _ hk4 => hall k hk2 (by omega) hk4) (by omega) (by
        rcases hat with hat | ⟨b, hat, hle⟩
        · exact .inl hat
        · exact .inr ⟨b, hat, by omega⟩)
    · cases List.mem_singleton.1 hd
      have hk9 : ∀ k, W.heap.size ≤ k → k < W1.heap.size → W2.heap[k]? = W1.heap[k]? := fun k hk1 hk2 => (hf2 k (by omega)).trans (hgr.block k hk2 (fun e => by have := hol k e.symm; omega))
      refine ⟨hc3, Kd.F_mono (Kd.F_step (Kd.F_bound hV) (fun k hk hlt => hk9 k hk.1.1 hlt)) (fun k hk => ?_)⟩
      obtain ⟨⟨h8, cs, qq, h9⟩, h10⟩ := hk
      refine ⟨by omega, by omega, ⟨cs, qq, (hk9 k h8 h10).trans h9⟩, fun e => ?_⟩
      rcases hat with hat | ⟨b, hat, hle⟩
      · rw [hat] at e
        have := hol k e.symm
        omega
      · rw [hat] at e
        injection e with e
        omega
end Go.Proofs.Ytknmokpnkcckeaa

namespace Go.Proofs.Ytknmokpnkcckeaa
open Go.RowKit Go.Proofs.YtknmokpnkcckeaaW.PrintWords Go.Proofs.YtknmokpnkcckeaaW.PrintLast Go.Proofs.YtknmokpnkcckeaaW.PrintMore Go.Proofs.Ytknmokpnkcckeaa.PAll
set_option linter.unusedVariables false
set_option linter.unusedSimpArgs false
attribute [local go_sem] Oper.semAt_some

/-- What bucket.Read answers: blocks, digests, the error. -/
def readB (l0 l1 l2 l3 : Int) (many q : Nat) (rd : List Int → RS) (t : List Int) : List S62 × List Int × List Int × Int :=
  match goR rd (slotsB many q t) (false, []) with
  | none => ([], dig0, dig0, 8)
  | some s => if bckS l0 l1 l2 l3 s.2 = 0 then (s.2, (t.drop (many * q)).take 32, (t.drop (many * q + 32)).take 32, 0) else ([], dig0, dig0, bckS l0 l1 l2 l3 s.2)


def onlyN (K : Act → World → Prop) : Exit → Act → World → Prop
  | .normal, a, w => K a w
  | _, _, _ => False
theorem wp_onlyN {P : Program} {K : Act → World → Prop} {Q : Exit → Act → World → Prop} {c : Code} {a : Act} {w : World} (h : c.wp P (onlyN K) a w) (hq : ∀ a w, K a w → Q .normal a w) : c.wp P Q a w :=
  wp_mono h (fun e a w h => by
    cases e with
    | normal => exact hq _ _ h
    | _ => exact h.elim)
/-- A row written anew: what lies as it lay. -/
theorem setRow_keep {W W' : World} {g : Nat} {cs : Array Value} (h : W.setRow g cs = W') : (∀ k, k ≠ g → W'.heap[k]? = W.heap[k]?) ∧ W'.heap.size = W.heap.size ∧ W'.os = W.os ∧ W'.tape = W.tape ∧ W'.output = W.output := by
  subst h
  exact ⟨fun k hk => setRow_other _ g _ _ hk, by simp [World.setRow], rfl, rfl, rfl⟩

set_option maxHeartbeats 16000000 in
set_option maxRecDepth 100000 in
theorem readBk_good (many q : Nat) (rd : List Int → RS) (l0 l1 l2 l3 : Int) (A : Option Addr) (c : Nat) (t : List Int) (w : World) (hr : Kd.C (Kd.int .u8) w A t.length t) (hc : t.length ≤ c) (hs : slot_Slots.f 20 l0 l1 l2 l3 = some ((many : Int), 0)) (h1 : 1 ≤ many) (h4 : many ≤ 4) (hl1 : 1 ≤ l1) (hl32 : l1 ≤ 32) (hl3 : l3 = 64 + (many : Int) * (8 + l1)) (hlen : (t.length : Int) = l3) (hq : 8 + l1 = (q : Int))
    (hrd : ∀ i, i < many → slot_Read.f l0 l1 l2 l3 ((t.drop (i * q)).take q) = some (rd ((t.drop (i * q)).take q))) (hwf : ∀ i, i < many → (Lit.int .i64 (rd ((t.drop (i * q)).take q)).1).wf = true) :
    CallsIn Fence.wide 6 Try.prog 27 #[.agg #[.int .i64 l0, .int .i64 l1, .int .i64 l2, .int .i64 l3], .slice A t.length c] w fun e w' => ∃ A' c', e = .returned (.tuple #[.agg ⟨bkC A' (readB l0 l1 l2 l3 many q rd t).1.length c' (readB l0 l1 l2 l3 many q rd t).2.1 (readB l0 l1 l2 l3 many q rd t).2.2.1⟩, .int .i64 (readB l0 l1 l2 l3 many q rd t).2.2.2]) ∧ (readB l0 l1 l2 l3 many q rd t).1.length ≤ c' ∧ Kd.C k62 w' A' (readB l0 l1 l2 l3 many q rd t).1.length (readB l0 l1 l2 l3 many q rd t).1 ∧ (∃ ok, SoftB w' ok A' ((readB l0 l1 l2 l3 many q rd t).1.map (·.f2.length)) ∧ Soft w' ok ∧ ∀ k, ok k → w.heap.size ≤ k) ∧ Below w.heap.size w w' := by
  have HR := Aside0.mk hr
  have HC := Aside0.mk hc
  have HSL := Aside0.mk hs
  have HL3 := Aside0.mk hl3
  have HQ := Aside0.mk hq
  have HRD := Aside0.mk hrd
  have HWF := Aside0.mk hwf
  obtain ⟨SZ, hz⟩ : ∃ SZ, SZ = List.replicate many (8 + l1) ++ [32, 32] := ⟨_, rfl⟩
  obtain ⟨PS, hps⟩ : ∃ PS, PS = partsB many q t := ⟨_, rfl⟩
  have HSZ := Aside0.mk hz
  have HPS := Aside0.mk hps
  have HCUT : Aside0 (num_Cut.f t SZ = some (PS, 0)) := ⟨by
    rw [hz, hq, cut_eq h1 h4 (by omega) (by omega), if_pos (by rw [hlen, hl3, hq]; omega), hps]⟩
  have hu23 := Try.underlying23
  have HF := Aside0.mk (BoxR.new l0 l1 l2 l3 w)
  have HB := Aside0.mk (readW_below l0 l1 l2 l3 w)
  unfold readW at HF HB
  have HLEN := Aside0.mk hlen
  have hnp : PS.length = many + 2 := by rw [hps]; simp [partsB]
  have HNP : Aside0 (0 < PS.length) := ⟨by omega⟩
  have HN2 := Aside0.mk hnp
  clear hnp
  clear hr hc hs hl3 hlen hz hps hrd hwf hq
  refine callsIn_of_wp_marks Try.func27 rfl trivial ?_
  simp only [Try.ntmps27, List.size_toArray, List.length_cons, List.length_nil, Nat.reduceAdd, Nat.reduceSub, Array.replicate_succ, Array.replicate_zero, List.push_toArray, List.append_toArray, List.nil_append, List.cons_append]
  refine wpIn_wide.2 ?_
  repeat (first
    | (go_at_call 32; (with_reducible refine (slot_Slots.calls 20 l0 l1 l2 l3 many 0 _ HSL.out).mono ?_); rintro e2 w2 ⟨rfl, hb2⟩; have HF2 := Aside0.mk (HF.out.below hb2); have HB2 := Aside0.mk (bl HB.out hb2); have HF3 := Aside0.mk (HF2.out.setErr 0); have HB3 := Aside0.mk (HB2.out.setCell (p := ⟨w.heap.size + 1 + 1, 0, none⟩) (by show w.heap.size ≤ w.heap.size + 1 + 1; omega) (.int .i64 0)); have hc5 := blk_cell HF2.out.err 0; have hf5 := blk_frozen HF2.out.err 0; have hc6 := blk_cell HF3.out.err 0; clear hb2 HF HB; (try dsimp only))
    | (go_at_call 55; (with_reducible refine (sizesZ_calls SZ many h1 h4 l0 l1 l2 l3 _ hl1 hl32 HL3.out HSZ.out).mono ?_); rintro e4 w4 ⟨A4, c4, rfl, hc4, hC4, hb4⟩; have HC4 := Aside0.mk hc4; have HR4 := Aside0.mk hC4; have HF4 := Aside0.mk (HF3.out.below hb4); have HB4 := Aside0.mk (bl HB3.out hb4); clear hb4 hc4 hC4 hc5 hf5 hc6; (try dsimp only))
    | (go_at_call 54; (with_reducible refine (num_Cut.calls2 A c t A4 c4 SZ PS 0 _ (Kd.C_below HR.out HB4.out) HC.out HR4.out HC4.out HCUT.out).mono ?_); rintro e5 w5 ⟨v5, rfl, hV5, hb5⟩; obtain ⟨A5, c5, rfl⟩ := Kd.V_slice hV5; obtain ⟨pa, vs, rfl, hpok, hvl, hpl, hcell, hpart⟩ := parts_of hV5 HNP.out; have HPOK := Aside0.mk hpok; have HVL := Aside0.mk hvl; have HCELL := Aside0.mk hcell; have HPART := Aside0.mk hpart; have HSB5 := Aside0.mk hb5.size; have HW4 := Aside0.mk (heap_ltB HF4.out.err); have HF5 := Aside0.mk ((HF4.out.below hb5).setErr 0); have HB5 := Aside0.mk ((bl HB4.out hb5).setCell (p := ⟨w.heap.size + 1 + 1, 0, none⟩) (by show w.heap.size ≤ w.heap.size + 1 + 1; omega) (.int .i64 0)); have hc7 := blk_cell (HF4.out.below hb5).err 0; have hf7 := blk_frozen (HF4.out.below hb5).err 0; have hc8 := blk_cell HF5.out.err 0; clear hb5 hV5 hpok hvl hpl hcell hpart; (try dsimp only))
    | (go_at_call 56; (with_reducible refine (callsIn_wide.1 (slots_in 5 (some pa) PS.length c5 _)).mono ?_); rintro e9 w9 ⟨rfl, hw9⟩; (try dsimp only))
    | ((with_reducible refine wpList_whole_g 23 (.tmp 2) (w.heap.size) 23 [.int .i64 l0, .int .i64 l1, .int .i64 l2, .int .i64 l3] _ ?hw rfl ?hx ?hg Try.underlying23 ?hd ?hi ?_); (case hg => exact HF3.out.lev); (case hw => rfl); (case hx => rfl); (case hd => rfl); (case hi => exact infoLB))
    | go_values | go_guarded | go_step | go_upon | go_back)
  clear hc7 hf7 hc8
  have hsz8 : (w5.setCell ⟨w.heap.size + 1 + 1, 0, none⟩ (.int .i64 0)).heap.size = w5.heap.size := by simp [World.setCell]
  have hG8 := heap_alloc_new (w5.setCell ⟨w.heap.size + 1 + 1, 0, none⟩ (.int .i64 0)) (.cells #[.bool false] 4)
  have hS8 := heap_alloc_new ((w5.setCell ⟨w.heap.size + 1 + 1, 0, none⟩ (.int .i64 0)).alloc (.cells #[.bool false] 4)) (.cells #[.slice (some pa) PS.length c5] 90)
  rw [hsz8] at hG8
  rw [World.size_alloc, hsz8] at hS8
  rw [← hw9] at hS8
  have hsz9 : w9.heap.size = w5.heap.size + 1 + 1 := by rw [hw9, World.size_alloc, World.size_alloc, hsz8]
  rw [World.size_alloc, hsz8]
  have hfar : ∀ k, k < w5.heap.size → k ≠ w.heap.size + 1 + 1 → w9.heap[k]? = w5.heap[k]? := fun k hk h1 => by
    rw [hw9, Below.heap_alloc _ _ _ (by rw [World.size_alloc, hsz8]; omega), Below.heap_alloc _ _ _ (by rw [hsz8]; exact hk)]
    exact Below.heap_setCell w5 ⟨w.heap.size + 1 + 1, 0, none⟩ _ k h1
  have hs5 := HSB5.out
  have hw4s := HW4.out
  have HF9 : Aside0 (BoxR w.heap.size l0 l1 l2 l3 0 Try.zeroCells40 w9) := ⟨by
    rw [hw9]
    exact (HF5.out.below (below_alloc (Below.refl _ _) _)).below (below_alloc (Below.refl _ _) _)⟩
  have HB9 : Aside0 (Below w.heap.size w w9) := ⟨by
    rw [hw9]
    exact below_alloc (below_alloc HB5.out _) _⟩
  have HG9 : Aside0 (w9.heap[w5.heap.size]? = some (.cells #[.bool false] 4 (0, 0))) := ⟨by
    rw [hw9]
    exact blk_alloc hG8 _⟩
  have hBh : w9.cell? ⟨w5.heap.size + 1, 0, none⟩ = some (.slice (some pa) PS.length c5) := (blk_cell hS8 0).trans (by simp)
  have HPC : Aside0 (pa.block < w5.heap.size ∧ ∀ (j : Nat) v, vs[j]? = some v → w9.cell? (pa.add j) = some v) := ⟨by
    obtain ⟨hp1, cs, qq, hp2⟩ := HPOK.out
    have hp3 := heap_ltB hp2
    refine ⟨hp3, fun j v hv => ?_⟩
    rw [← HCELL.out j v hv]
    exact World.cell?_of_block (by rw [add_blockB]; exact hfar _ hp3 (by omega))⟩
  have HPT : Aside0 (∀ (j : Nat) (p : List Int), PS[j]? = some p → ∃ Ap cp, vs[j]? = some (.slice Ap p.length cp) ∧ p.length ≤ cp ∧ Kd.F (Kd.int .u8) w9 (fun k => w4.heap.size ≤ k ∧ k < w5.heap.size) Ap p.length p) := ⟨fun j p hp => by
    obtain ⟨Ap, cp, h1, h2, h3⟩ := HPART.out j p hp
    refine ⟨Ap, cp, h1, h2, Kd.F_step (Kd.F_mono (Kd.F_bound h3) (fun k hk => ⟨hk.1.1, hk.2⟩)) (fun k hk _ => hfar k hk.2 (by omega))⟩⟩
  clear hfar hS8 hG8 hsz8 hw9 HF2 HF3 HF4 HF5 HB2 HB3 HB4 HB5 HC4 HR4 HCELL HPART HCUT
  have HS := Aside1.mk (slots_stops 5 (by omega) (w5.heap.size + 1) many c5 PS.length pa vs (by omega) (by rw [HN2.out]; omega) HVL.out w9 (by omega) (by have := HPC.out.1; omega) hBh HPC.out.2)
  clear hBh
  refine (wpIn_wide (n := 6)).1 ?_
  refine wpIn_rangeFunc_ownG rfl (by omega) (gf := 76) (lb := #[.pointer (some ⟨w5.heap.size + 1, 0, none⟩)]) ?hg trivial (enters_of Try.func76 (by kernel_rfl) rfl)
    HS.out KeepTwo.trans (KeepTwo.put (by omega) (by have := HPC.out.1; omega)) (Below.refl _ _) (fun _ => rfl)
    (fun (pre : List {i : Nat // i < many}) W => RInv w9.heap.size w.heap.size w5.heap.size w9 rd (pre.map (fun x => (t.drop (x.1 * q)).take q)) W)
    (fun cd (pre : List {i : Nat // i < many}) W => (cd = .ret ∧ goR rd (pre.map (fun x => (t.drop (x.1 * q)).take q)) (false, []) = none) ∧ RStop w9.heap.size w.heap.size w5.heap.size w9 W)
    (RInv.own (fun (pre : List {i : Nat // i < many}) => pre.map (fun x => (t.drop (x.1 * q)).take q)))
    (fun cd => RStop.own (fun (pre : List {i : Nat // i < many}) => cd = .ret ∧ goR rd (pre.map (fun x => (t.drop (x.1 * q)).take q)) (false, []) = none))
    (RInv.start HG9.out HF9.out.res)
    (fun x => { tmps := #[Value.agg #[Value.int .i64 l0, Value.int .i64 l1, Value.int .i64 l2, Value.int .i64 l3], Value.slice A t.length c, Value.pointer (some ⟨w.heap.size, 0, none⟩), undef, Value.pointer (some ⟨w.heap.size + 1, 0, none⟩), Value.pointer (some ⟨w.heap.size + 1 + 1, 0, none⟩), Value.int .i64 (many : Int), Value.slice (some pa) PS.length c5, Value.pointer (some ⟨w5.heap.size, 0, none⟩), vs.getD x.1 undef, undef, undef, undef, undef, Value.tuple #[Value.int .i64 (many : Int), Value.int .i64 0], Value.agg #[Value.int .i64 l0, Value.int .i64 l1, Value.int .i64 l2, Value.int .i64 l3], Value.tuple #[Value.int .i64 (many : Int), Value.int .i64 0], Value.int .i64 (many : Int), Value.int .i64 0, Value.int .i64 0, Value.bool false, undef, undef, Value.tuple #[Value.slice (some pa) PS.length c5, Value.int .i64 0], Value.slice A t.length c, Value.agg ⟨[Value.int .i64 l0, Value.int .i64 l1, Value.int .i64 l2, Value.int .i64 l3]⟩, Value.int .i64 (many : Int), Value.slice A4 SZ.length c4, Value.tuple #[Value.slice (some pa) PS.length c5, Value.int .i64 0], Value.slice (some pa) PS.length c5, Value.int .i64 0, Value.int .i64 0, Value.bool false, undef, undef, Value.slice (some pa) PS.length c5, Value.func (.func 76) #[] #[Value.pointer (some ⟨w5.heap.size + 1, 0, none⟩)], vs.getD x.1 undef, undef, undef, undef, undef, undef, undef, undef, undef, undef, undef, undef, undef, undef, undef, undef, undef, undef, undef, undef, undef, undef, undef, undef, undef, undef, undef, undef, undef, undef, undef, undef, undef, undef, undef, undef, undef, undef, undef, undef, undef, undef, undef, undef, undef, undef, undef, undef, undef], defers := [] }) ?assign ?body ?done ?stop
  case hg => rfl
  case assign =>
    intro l x W K hK
    gi_wp2
    exact hK
  case stop =>
    rintro D cd pre W hD ⟨k, hk, hpk⟩ ⟨⟨rfl, hgo⟩, hst⟩ hKD
    have hnone : goR rd (slotsB many q t) (false, []) = none := by
      have e1 : slotsB many q t = pre.map (fun x : {i : Nat // i < many} => (t.drop (x.1 * q)).take q) ++ ((List.range many).drop k).map (fun i => (t.drop (i * q)).take q) := by
        rw [show pre.map (fun x : {i : Nat // i < many} => (t.drop (x.1 * q)).take q) = (pre.map (·.1)).map (fun i => (t.drop (i * q)).take q) by rw [List.map_map]; rfl, hpk, ← List.map_append]
        unfold slotsB
        congr 1
        rw [show List.range k = (List.range many).take k by rw [List.take_range, Nat.min_eq_left hk], List.take_append_drop]
      rw [e1, goR_append, hgo]
      rfl
    have hRB : readB l0 l1 l2 l3 many q rd t = ([], dig0, dig0, 8) := by
      unfold readB
      rw [hnone]
    refine wpIn_wide.2 ?_
    repeat go_step
    have hres := hst.res
    have herr := hst.err
    have hne : ∀ k cs u s, W.heap[k]? = some (Obj.cells cs u s) → k ≠ D := fun k cs u s h e => by
      subst e
      rw [hKD] at h
      cases h
    have hfarD : ∀ k, k ≠ D → (W.putObj D (.deferred none)).heap[k]? = W.heap[k]? := fun k hk => World.putObj_heap_other hk
    have hres2 := (hfarD _ (hne _ _ _ _ hres)).trans hres
    have herr2 := (hfarD _ (hne _ _ _ _ herr)).trans herr
    have hbW : Below w.heap.size w W := ⟨hst.os.trans HB9.out.os, hst.tape.trans HB9.out.tape, hst.output.trans HB9.out.output, by have := HB9.out.size; have := hst.size; omega, fun k hk => (hst.block k (by omega) (by omega) (by omega) (by omega)).trans (HB9.out.block k hk)⟩
    have hB2 : Below w.heap.size w (W.putObj D (.deferred none)) := hbW.trans (belowK_b (w := w) (Nat.le_refl _) W D _ _ (by have := HB9.out.size; omega) hKD rfl rfl)
    refine ⟨by simp, .inl ⟨_, _, rfl, run_takeDeferred hKD, ?_⟩⟩
    refine ⟨.tuple #[.agg Try.zeroCells40, .int .i64 8], results_bk (e := 8) rfl rfl rfl hres2 rfl ((blk_cell herr2 0).trans rfl), ?_⟩
    rw [hRB]
    exact ⟨none, 0, by rw [bk_zero]; rfl, Nat.le_refl _, Kd.C_nil _ _, ⟨fun _ => False, fun i m hi => by simp at hi, fun k hk => hk.elim, fun k hk => hk.elim⟩, hB2⟩
  case body =>
    rintro l pre ⟨i, hi⟩ W hI hltn
    clear HR HC HSL HL3
    have hLV : W.heap[w.heap.size]? = some (.cells #[.int .i64 l0, .int .i64 l1, .int .i64 l2, .int .i64 l3] 23 (0, 0)) := (hI.block _ (by omega) (by omega) (by omega)).trans HF9.out.lev
    have hER : W.heap[w.heap.size + 1 + 1]? = some (.cells #[.int .i64 0] 28 (0, 0)) := (hI.block _ (by omega) (by omega) (by omega)).trans HF9.out.err
    have hiN : PS[i]? = some ((t.drop (i * q)).take q) := by
      rw [HPS.out]
      unfold partsB
      rw [List.getElem?_append_left (by simpa using hi)]
      simp [hi]
    obtain ⟨Ap, cp, hv, hcp, hFp⟩ := HPT.out i _ hiN
    have hFW : Kd.F (Kd.int .u8) W (fun k => w4.heap.size ≤ k ∧ k < w5.heap.size) Ap ((t.drop (i * q)).take q).length ((t.drop (i * q)).take q) := Kd.F_step hFp (fun k hk _ => hI.block k (by omega) (by omega) (by omega))
    have hrdp := HRD.out i hi
    have hge : vs.getD i undef = .slice Ap ((t.drop (i * q)).take q).length cp := by rw [List.getD_eq_getElem?_getD, hv]; rfl
    dsimp only
    rw [hge]
    have hpre : (pre ++ [(⟨i, hi⟩ : {i : Nat // i < many})]).map (fun x : {i : Nat // i < many} => (t.drop (x.1 * q)).take q) = pre.map (fun x => (t.drop (x.1 * q)).take q) ++ [(t.drop (i * q)).take q] := List.map_append
    generalize (t.drop (i * q)).take q = p at hrdp hFW hcp hpre ⊢
    obtain ⟨⟨r1, r2, r3, r4, r5⟩, hp⟩ : ∃ r, rd p = r := ⟨_, rfl⟩
    rw [hp] at hrdp
    obtain ⟨gap, A0, c0, D, hg1, hg2, hg3, hg4, hg5, hg6⟩ := hI.st
    have hIl := hI.lt
    have HI := Aside0.mk hI
    have HP := Aside0.mk hp
    have HPRE := Aside0.mk hpre
    have HRDP := Aside0.mk hrdp
    have HFW := Aside0.mk hFW
    have HCP := Aside0.mk hcp
    have HLV := Aside0.mk hLV
    have HER := Aside0.mk hER
    have HG1 := Aside0.mk hg1
    have HG2 := Aside0.mk hg2
    have HDL : Aside0 (D.length ≤ 1000) := ⟨by rw [List.length_map] at hg2; have := hltn; omega⟩
    have HG3 := Aside0.mk hg3
    have HG4 := Aside0.mk hg4
    have HG5 := Aside0.mk hg5
    have HG6 := Aside0.mk hg6
    clear hI hp hpre hrdp hFW hcp hLV hER hg1 hg2 hg3 hg4 hg5 hg6 hiN hv hFp hge
    have hpa1 := HPC.out.1
    have hpa2 := HPOK.out.1
    have hIlt := hIl
    clear hIl
    by_cases h5 : r5 = 0
    · subst h5
      cases r4 with
      | false =>
        repeat (first
          | ((with_reducible refine wpList_whole_g 23 (.tmp 2) (w.heap.size) 23 [.int .i64 l0, .int .i64 l1, .int .i64 l2, .int .i64 l3] _ ?hw rfl ?hx ?hg Try.underlying23 ?hd ?hi ?_); (case hg => exact HLV.out); (case hw => rfl); (case hx => rfl); (case hd => rfl); (case hi => exact infoLB))
          | (go_at_call 57; (with_reducible refine (slot_Read.calls2 l0 l1 l2 l3 Ap cp p r1 r2 r3 false 0 _ (Kd.F_now HFW.out) HCP.out HRDP.out).mono ?_); rintro e6 w6 ⟨v6, rfl, hV6, hb6⟩; obtain ⟨A6, c6, rfl⟩ := Kd.V_slice hV6; have HV6 := Aside0.mk hV6; have HB6 := Aside0.mk hb6; have HZ6 := Aside0.mk (heap_alloc_new w6 (.cells #[.int .i64 0, .int .i64 0, .slice none 0 0] 62)); clear hV6 hb6; (try dsimp only))
          | ((with_reducible refine wpList_store 62 (.tmp 10) (.tmp 42) w6.heap.size 62 #[.int .i64 0, .int .i64 0, .slice none 0 0] #[.int .i64 r1, .int .i64 r2, .slice A6 r3.length c6] rfl rfl ?hx ?hy ?hg ?hs ?hi ?h1 ?_); (case hg => exact HZ6.out); (case hx => rfl); (case hy => rfl); (case hs => rfl); (case hi => exact info62S); (case h1 => exact cell3_one (⟨r1, r2, r3⟩, A6, c6)); intro w7 q1 q2 q3 q4; have HX7 := Aside0.mk q1; have hb67 := q3 w6.heap.size w6 (below_alloc (Below.refl _ _) _) (Nat.le_refl _); have HB67 := Aside0.mk hb67; have HB7 := Aside0.mk (bl HB6.out hb67); have HG7 := Aside0.mk (blk_below HG3.out HB7.out); have hcg := blk_cell HG7.out 0; have hfg := blk_frozen HG7.out 0; clear q1 q2 q3 q4 hb67)
          | (refine plain_in rfl (by rintro ⟨_, _, h⟩; exact h) ?_)
          | go_values | go_guarded | go_step | go_upon | gi_step)
        obtain ⟨n1, n2, n3⟩ := RInv.empty HI.out HB7.out rfl (by omega) (by omega) (by rw [HP.out]) (by rw [HP.out])
        rw [← HPRE.out] at n3
        exact ⟨n1, ⟨n2 _ (by omega) (by omega) (by omega), n2 _ (by omega) (by omega) (by omega)⟩, n3⟩
      | true =>
        cases gap with
        | true =>
          repeat (first
            | ((with_reducible refine wpList_whole_g 23 (.tmp 2) (w.heap.size) 23 [.int .i64 l0, .int .i64 l1, .int .i64 l2, .int .i64 l3] _ ?hw rfl ?hx ?hg Try.underlying23 ?hd ?hi ?_); (case hg => exact HLV.out); (case hw => rfl); (case hx => rfl); (case hd => rfl); (case hi => exact infoLB))
            | (go_at_call 57; (with_reducible refine (slot_Read.calls2 l0 l1 l2 l3 Ap cp p r1 r2 r3 true 0 _ (Kd.F_now HFW.out) HCP.out HRDP.out).mono ?_); rintro e6 w6 ⟨v6, rfl, hV6, hb6⟩; obtain ⟨A6, c6, rfl⟩ := Kd.V_slice hV6; have HV6 := Aside0.mk hV6; have HB6 := Aside0.mk hb6; have HZ6 := Aside0.mk (heap_alloc_new w6 (.cells #[.int .i64 0, .int .i64 0, .slice none 0 0] 62)); clear hV6 hb6; (try dsimp only))
            | ((with_reducible refine wpList_store 62 (.tmp 10) (.tmp 42) w6.heap.size 62 #[.int .i64 0, .int .i64 0, .slice none 0 0] #[.int .i64 r1, .int .i64 r2, .slice A6 r3.length c6] rfl rfl ?hx ?hy ?hg ?hs ?hi ?h1 ?_); (case hg => exact HZ6.out); (case hx => rfl); (case hy => rfl); (case hs => rfl); (case hi => exact info62S); (case h1 => exact cell3_one (⟨r1, r2, r3⟩, A6, c6)); intro w7 q1 q2 q3 q4; have HX7 := Aside0.mk q1; have hb67 := q3 w6.heap.size w6 (below_alloc (Below.refl _ _) _) (Nat.le_refl _); have HB67 := Aside0.mk hb67; have HB7 := Aside0.mk (bl HB6.out hb67); have HG7 := Aside0.mk (blk_below HG3.out HB7.out); have hcg := blk_cell HG7.out 0; have hfg := blk_frozen HG7.out 0; clear q1 q2 q3 q4 hb67)
            | ((with_reducible refine wpList_store 40 (.tmp 4) (.tmp 53) (w.heap.size + 1) 40 ⟨bkC A0 D.length c0 dig0 dig0⟩ Try.zeroCells40 rfl rfl ?hx ?hy ?hg ?hs ?hi ?h1 ?_); (case hg => exact blk_below HG4.out HB7.out); (case hx => rfl); (case hy => rfl); (case hs => show (bkC A0 D.length c0 dig0 dig0).length = _; rw [bkC_length dig0_length dig0_length]; rfl); (case hi => exact info40); (case h1 => rw [bk_zero]; exact bk_ones _ _ _ _ _); intro w8 q1 q2 q3 q4; have HZ8 := Aside0.mk q1; have HK8 := Aside0.mk q2; have HB8 := Aside0.mk (q3 0 w7 (Below.refl _ _) (by omega)); have HS8 := Aside0.mk q4; have hE8 := (q2 _ (by omega)).trans (blk_below HER.out HB7.out); have hce := blk_cell hE8 0; have hfe := blk_frozen hE8 0; clear q1 q2 q3 q4 hE8)
            | (refine plain_in rfl (by rintro ⟨_, _, h⟩; exact h) ?_)
            | go_values | go_guarded | go_step | go_upon | gi_step)
          obtain ⟨n1, n2⟩ := RStop.make HI.out HB7.out HZ8.out HK8.out HB8.out HS8.out HER.out rfl (by omega)
          exact ⟨n1, ⟨rfl, by rw [HPRE.out, goR_append, HG1.out, Option.bind_some, goR, HP.out]; exact if_pos (.inr ⟨rfl, rfl⟩)⟩, n2⟩
        | false =>
          repeat (first
            | ((with_reducible refine wpList_whole_g 23 (.tmp 2) (w.heap.size) 23 [.int .i64 l0, .int .i64 l1, .int .i64 l2, .int .i64 l3] _ ?hw rfl ?hx ?hg Try.underlying23 ?hd ?hi ?_); (case hg => exact HLV.out); (case hw => rfl); (case hx => rfl); (case hd => rfl); (case hi => exact infoLB))
            | (go_at_call 57; (with_reducible refine (slot_Read.calls2 l0 l1 l2 l3 Ap cp p r1 r2 r3 true 0 _ (Kd.F_now HFW.out) HCP.out HRDP.out).mono ?_); rintro e6 w6 ⟨v6, rfl, hV6, hb6⟩; obtain ⟨A6, c6, rfl⟩ := Kd.V_slice hV6; have HV6 := Aside0.mk hV6; have HB6 := Aside0.mk hb6; have HZ6 := Aside0.mk (heap_alloc_new w6 (.cells #[.int .i64 0, .int .i64 0, .slice none 0 0] 62)); clear hV6 hb6; (try dsimp only))
            | ((with_reducible refine wpList_store 62 (.tmp 10) (.tmp 42) w6.heap.size 62 #[.int .i64 0, .int .i64 0, .slice none 0 0] #[.int .i64 r1, .int .i64 r2, .slice A6 r3.length c6] rfl rfl ?hx ?hy ?hg ?hs ?hi ?h1 ?_); (case hg => exact HZ6.out); (case hx => rfl); (case hy => rfl); (case hs => rfl); (case hi => exact info62S); (case h1 => exact cell3_one (⟨r1, r2, r3⟩, A6, c6)); intro w7 q1 q2 q3 q4; have HX7 := Aside0.mk q1; have hb67 := q3 w6.heap.size w6 (below_alloc (Below.refl _ _) _) (Nat.le_refl _); have HB67 := Aside0.mk hb67; have HB7 := Aside0.mk (bl HB6.out hb67); have HG7 := Aside0.mk (blk_below HG3.out HB7.out); have hcg := blk_cell HG7.out 0; have hfg := blk_frozen HG7.out 0; clear q1 q2 q3 q4 hb67; have HO7 := Aside0.mk (HG5.out.gapped HB7.out (W2 := (w7.setCell ⟨w5.heap.size, 0, none⟩ (.bool false))) rfl (by omega)); have hr7 := blk_far (p := ⟨w5.heap.size, 0, none⟩) (blk_below HG4.out HB7.out) (by show w.heap.size + 1 ≠ w5.heap.size; omega) (.bool false); have HR7 := Aside0.mk hr7; have hcr := bk_cell0 hr7; have hx7 := blk_far (p := ⟨w5.heap.size, 0, none⟩) HX7.out (by show w6.heap.size ≠ w5.heap.size; have := HB6.out.size; omega) (.bool false); obtain ⟨hx0, hx1, hx2⟩ := box3B hx7; have HSG : Aside0 (w9.heap.size ≤ (w7.setCell ⟨w5.heap.size, 0, none⟩ (.bool false)).heap.size) := ⟨by have := HB7.out.size; simp [World.setCell]; omega⟩; clear hr7 hx7)
            | ((with_reducible refine gate_builtin (b := .append) (xs := #[.tmp 58, .tmp 60]) rfl ?_); at_builtin; refine Kd.R_append (Kd.raw 3) (w0 := (w7.setCell ⟨w5.heap.size, 0, none⟩ (.bool false))) w9.heap.size rfl (.tmp 58) (.tmp 60) 24 62 _ 40 rfl Try.underlying24 info62B rfl (by decide) (by decide) (.slice A0 D.length c0) (D.map cell3) (cell3 (⟨r1, r2, r3⟩, A6, c6)) (cell3 (⟨r1, r2, r3⟩, A6, c6)) (fun _ => True) (fun _ => False) rfl ?hx ⟨rfl, rfl, cell3_one _⟩ (fun _ h => h.elim) (fun _ _ => trivial) HO7.out (Below.refl _ _) HSG.out ?aL ?_; (case hx => show Value.slice (some ⟨_, 0, none⟩) 1 1 = _; simp [World.setCell]); (case aL => have := HDL.out; rw [List.length_map]; omega); intro v8 w8 hR hb hg hat; obtain ⟨A8, c8, rfl⟩ : ∃ A c, v8 = .slice A (D.length + 1) c := (by obtain ⟨A, c, e⟩ := Kd.R_slice hR; exact ⟨A, c, by rw [e]; simp⟩); have HR8 := Aside0.mk hR; have HG8 := Aside0.mk hg; have HA8 := Aside0.mk hat; have hr8 := (hb.block _ (by omega)).trans HR7.out; have hcr8 := bk_cell0 hr8; have hfr8 := blk_frozen hr8 0; clear hR hb hg hat hr8 hcr hx0 hx1 hx2)
            | (refine plain_in rfl (by rintro ⟨_, _, h⟩; exact h) ?_)
            | go_values | go_guarded | go_step | go_upon | gi_step)
          have hVF := F_young (Kd.V_F HV6.out) HB67.out (Nat.le_refl _)
          obtain ⟨n1, n2, n3⟩ := RInv.block1 (p := p) (A3 := A6) (c3 := c6) HI.out HG1.out HG2.out HG3.out HG4.out HG5.out HG6.out rfl (by rw [HP.out]) (by rw [HP.out]) HB7.out (by rw [HP.out]; exact hVF) (by rw [HP.out]; exact (Kd.V_at HV6.out).2.1) rfl (by rw [HP.out]; exact HR8.out) HG8.out HA8.out rfl (by omega) (by omega) (by omega)
          rw [← HPRE.out] at n3
          exact ⟨n1, ⟨n2 _ (by omega) (by omega) (by omega), n2 _ (by omega) (by omega) (by omega)⟩, n3⟩
    · have hd5 : decide (r5 = 0) = false := decide_eq_false h5
      repeat (first
        | ((with_reducible refine wpList_whole_g 23 (.tmp 2) (w.heap.size) 23 [.int .i64 l0, .int .i64 l1, .int .i64 l2, .int .i64 l3] _ ?hw rfl ?hx ?hg Try.underlying23 ?hd ?hi ?_); (case hg => exact HLV.out); (case hw => rfl); (case hx => rfl); (case hd => rfl); (case hi => exact infoLB))
        | (go_at_call 57; (with_reducible refine (slot_Read.calls2 l0 l1 l2 l3 Ap cp p r1 r2 r3 r4 r5 _ (Kd.F_now HFW.out) HCP.out HRDP.out).mono ?_); rintro e6 w6 ⟨v6, rfl, hV6, hb6⟩; obtain ⟨A6, c6, rfl⟩ := Kd.V_slice hV6; have HV6 := Aside0.mk hV6; have HB6 := Aside0.mk hb6; have HZ6 := Aside0.mk (heap_alloc_new w6 (.cells #[.int .i64 0, .int .i64 0, .slice none 0 0] 62)); clear hV6 hb6; (try dsimp only))
        | ((with_reducible refine wpList_store 62 (.tmp 10) (.tmp 42) w6.heap.size 62 #[.int .i64 0, .int .i64 0, .slice none 0 0] #[.int .i64 r1, .int .i64 r2, .slice A6 r3.length c6] rfl rfl ?hx ?hy ?hg ?hs ?hi ?h1 ?_); (case hg => exact HZ6.out); (case hx => rfl); (case hy => rfl); (case hs => rfl); (case hi => exact info62S); (case h1 => exact cell3_one (⟨r1, r2, r3⟩, A6, c6)); intro w7 q1 q2 q3 q4; have HX7 := Aside0.mk q1; have hb67 := q3 w6.heap.size w6 (below_alloc (Below.refl _ _) _) (Nat.le_refl _); have HB67 := Aside0.mk hb67; have HB7 := Aside0.mk (bl HB6.out hb67); have HG7 := Aside0.mk (blk_below HG3.out HB7.out); have hcg := blk_cell HG7.out 0; have hfg := blk_frozen HG7.out 0; clear q1 q2 q3 q4 hb67)
        | ((with_reducible refine wpList_store 40 (.tmp 4) (.tmp 53) (w.heap.size + 1) 40 ⟨bkC A0 D.length c0 dig0 dig0⟩ Try.zeroCells40 rfl rfl ?hx ?hy ?hg ?hs ?hi ?h1 ?_); (case hg => exact blk_below HG4.out HB7.out); (case hx => rfl); (case hy => rfl); (case hs => show (bkC A0 D.length c0 dig0 dig0).length = _; rw [bkC_length dig0_length dig0_length]; rfl); (case hi => exact info40); (case h1 => rw [bk_zero]; exact bk_ones _ _ _ _ _); intro w8 q1 q2 q3 q4; have HZ8 := Aside0.mk q1; have HK8 := Aside0.mk q2; have HB8 := Aside0.mk (q3 0 w7 (Below.refl _ _) (by omega)); have HS8 := Aside0.mk q4; have hE8 := (q2 _ (by omega)).trans (blk_below HER.out HB7.out); have hce := blk_cell hE8 0; have hfe := blk_frozen hE8 0; clear q1 q2 q3 q4 hE8)
        | (refine plain_in rfl (by rintro ⟨_, _, h⟩; exact h) ?_)
        | go_values | go_guarded | go_step | go_upon | gi_step)
      obtain ⟨n1, n2⟩ := RStop.make HI.out HB7.out HZ8.out HK8.out HB8.out HS8.out HER.out rfl (by omega)
      exact ⟨n1, ⟨rfl, by rw [HPRE.out, goR_append, HG1.out, Option.bind_some, goR, HP.out]; exact if_pos (.inl h5)⟩, n2⟩
  case done =>
    rintro D ys W hD hys hI hKD
    have hmap : ys.map (fun x : {i : Nat // i < many} => (t.drop (x.1 * q)).take q) = slotsB many q t := by
      unfold slotsB
      rw [← hys, List.map_map]
      rfl
    rw [hmap] at hI
    obtain ⟨gap, A0, c0, D0, hg1, hg2, hg3, hg4, hg5, hg6⟩ := hI.st
    have hpa1 := HPC.out.1
    have hpa2 := HPOK.out.1
    have hIl := hI.lt
    have hcw : ∀ j v, vs[j]? = some v → W.cell? (pa.add j) = some v := fun j v hv => by
      rw [← HPC.out.2 j v hv]
      exact World.cell?_of_block (by rw [add_blockB]; exact hI.block _ (by omega) (by omega) (by omega))
    have hFw : ∀ (j : Nat) (p : List Int), PS[j]? = some p → p.length = 32 → ∃ ad cp, vs[j]? = some (.slice (some ad) 32 cp) ∧ Kd.F (Kd.int .u8) W (fun k => w4.heap.size ≤ k ∧ k < w5.heap.size) (some ad) 32 p := fun j p hj h32 => by
      obtain ⟨Ap, cp, h1, h2, h3⟩ := HPT.out j p hj
      have h4 : Kd.F (Kd.int .u8) W (fun k => w4.heap.size ≤ k ∧ k < w5.heap.size) Ap p.length p := Kd.F_step h3 (fun k hk _ => hI.block k (by omega) (by omega) (by omega))
      rw [h32] at h1 h4
      obtain ⟨ad, _, e, _⟩ := Kd.F_get h4 (0 : Int) 0 (by omega) (by omega)
      subst e
      exact ⟨ad, cp, h1, h4⟩
    have hlen := HLEN.out
    have hl3 := HL3.out
    have hqq := HQ.out
    have hlt64 : t.length = many * q + 64 := by
      have : (t.length : Int) = ((many * q + 64 : Nat) : Int) := by rw [hlen, hl3, hqq]; push_cast; omega
      exact_mod_cast this
    obtain ⟨TL, htl⟩ : ∃ TL, TL = (t.drop (many * q)).take 32 := ⟨_, rfl⟩
    obtain ⟨TR, htr⟩ : ∃ TR, TR = (t.drop (many * q + 32)).take 32 := ⟨_, rfl⟩
    have hTL : TL.length = 32 := by rw [htl, List.length_take, List.length_drop]; omega
    have hTR : TR.length = 32 := by rw [htr, List.length_take, List.length_drop]; omega
    have hPL : PS[many]? = some TL := by
      rw [HPS.out, htl]
      unfold partsB
      rw [List.getElem?_append_right (by simp)]
      simp
    have hPR : PS[many + 1]? = some TR := by
      rw [HPS.out, htr]
      unfold partsB
      rw [List.getElem?_append_right (by simp)]
      simp
    obtain ⟨aL, cL, hvL, hFL⟩ := hFw _ _ hPL hTL
    obtain ⟨aR, cR, hvR, hFR⟩ := hFw _ _ hPR hTR
    have hcL := hcw _ _ hvL
    have hcR := hcw _ _ hvR
    have HI := Aside0.mk hI
    have HG1 := Aside0.mk hg1
    have HDN : Aside0 (D0.length ≤ 1000) := ⟨by have : (slotsB many q t).length = many := by simp [slotsB]
                                                omega⟩
    have HG4 := Aside0.mk hg4
    have HG5 := Aside0.mk hg5
    have HG6 := Aside0.mk hg6
    have HFL := Aside0.mk hFL
    have HFR := Aside0.mk hFR
    have HTL := Aside0.mk htl
    have HTR := Aside0.mk htr
    have HCR := Aside0.mk hcR
    have hmN : (many : Int) < (PS.length : Int) := by rw [HN2.out]; omega
    have hmN2 : many < PS.length := by omega
    have hmN3 : (many : Int) + 1 < (PS.length : Int) := by rw [HN2.out]; omega
    have hmN4 : many + 1 < PS.length := by omega
    have hw1 : wrap64 ((many : Int) + 1) = (many : Int) + 1 := (i64_w _).symm.trans (IntWalk.i64_in _ (by omega))
    clear hI hg1 hg2 hg3 hg4 hg5 hg6 hFL hFR htl htr hcR hcw hFw hPL hPR hlen hl3 hqq hlt64 hmap HPT HSZ
    repeat go_step
    refine wp_onlyN ?_ (fun _ _ h => h)
    refine start_ (n := 7) (S := fun w' => w' = W.drew) (ds := [6]) #[false, false, false, false, false, false, false] (by kernel_rfl) rfl rfl rfl (fun hHeld => ?_)
    refine pure_ (i := 0) (N := (some 63)) (v := ?_) (a' := ?_) #[true, false, false, false, false, false, false] rfl rfl (by kernel_rfl) (fun _ _ _ h => h) (Or.inl ⟨by rfl, ?_⟩) ?_ ?_
    rotate_left
    · intro w'
      go_simp
      with_reducible rfl
    rotate_left
    · simp only [Act.put, List.setIfInBounds_toArray, List.set_cons_zero, List.set_cons_succ, i64_w, i32_w]
      rfl
    refine pure_ (i := 1) (N := (some 64)) (v := ?_) (a' := ?_) #[true, true, false, false, false, false, false] rfl rfl (by kernel_rfl) (fun _ _ _ h => h) (Or.inl ⟨by rfl, ?_⟩) ?_ ?_
    rotate_left
    · intro w'
      go_simp
      rfl
    rotate_left
    · simp only [Act.put, List.setIfInBounds_toArray, List.set_cons_zero, List.set_cons_succ, i64_w, i32_w]
      rfl
    refine pure_ (i := 2) (N := (some 65)) (v := ?_) (a' := ?_) #[true, true, true, false, false, false, false] rfl rfl (by kernel_rfl) (fun _ _ _ h => h) (Or.inl ⟨by rfl, ?_⟩) ?_ ?_
    rotate_left
    · intro w'
      go_simp
      with_reducible rfl
    rotate_left
    · simp only [Act.put, List.setIfInBounds_toArray, List.set_cons_zero, List.set_cons_succ, i64_w, i32_w]
      rfl
    refine pure_ (i := 3) (N := (some 66)) (v := ?_) (a' := ?_) #[true, true, true, true, false, false, false] rfl rfl (by kernel_rfl) (fun _ _ _ h => h) (Or.inl ⟨by rfl, ?_⟩) ?_ ?_
    rotate_left
    · intro w'
      go_simp
      with_reducible rfl
    rotate_left
    · simp only [Act.put, List.setIfInBounds_toArray, List.set_cons_zero, List.set_cons_succ, i64_w, i32_w]
      rfl
    refine pure_ (i := 4) (N := (some 67)) (v := ?_) (a' := ?_) #[true, true, true, true, true, false, false] rfl rfl (by kernel_rfl) (fun _ _ _ h => h) (Or.inl ⟨by rfl, ?_⟩) ?_ ?_
    rotate_left
    · intro w'
      go_simp
      rfl
    rotate_left
    · simp only [Act.put, List.setIfInBounds_toArray, List.set_cons_zero, List.set_cons_succ, i64_w, i32_w]
      rfl
    refine take_ (i := 5) (N := (some 68)) (v := ?_) (a' := ?_) #[true, true, true, true, true, true, false] rfl rfl (by kernel_rfl) (fun _ _ _ h => h) (Or.inl ⟨by rfl, ?_⟩) hHeld ?_ ?_
    rotate_left
    · rintro w' rfl
      have hc := hcL
      go_simp
      with_reducible rfl
    rotate_left
    · simp only [Act.put, List.setIfInBounds_toArray, List.set_cons_zero, List.set_cons_succ, i64_w, i32_w]
      rfl
    refine last_ (i := 6) (N := (some 69)) #[true, true, true, true, true, true, true] rfl rfl (by kernel_rfl) (by decide) (fun K hK => ?_)
    refine ite_wanted rfl ?_
    refine op_copy (.tmp 64) (.tmp 68) 43 43 rfl (.slice (some ⟨w.heap.size + 1, 1, none⟩) 32 32) (.slice (some aL) 32 cL) rfl rfl (run_copy_row _ _ 43 43 3 5 (w.heap.size + 1) 1 32 32 aL 32 cL _ 40 (TL.map (Value.int .u8)) Try.underlying43 info1U HG4.out (by rw [List.length_map, hTL]; rfl) (fun j v hv => C_srcB (Kd.F_now HFL.out) j v hv) (by rw [List.length_map, hTL]; show 1 + 32 ≤ (bkC A0 D0.length c0 dig0 dig0).length; rw [bkC_length dig0_length dig0_length]; omega) (fun v hv => by obtain ⟨x, _, rfl⟩ := List.mem_map.1 hv; rfl)) ?_
    rw [copy_left dig0_length hTL]
    generalize hW1 : World.setRow _ (w.heap.size + 1) _ = W1
    have HK16 := Aside0.mk (setRow_keep hW1)
    have HR16 : Aside0 (W1.heap[w.heap.size + 1]? = some (.cells ⟨bkC A0 D0.length c0 TL dig0⟩ 40 (0, 0))) := ⟨by rw [← hW1]; exact setRow_heap _ _ _ _ _ _ HG4.out⟩
    clear hW1
    refine hK.out _ _ ?_
    clear hK K
    refine norm_ (a' := ?_) ?_ ?_
    rotate_left
    · show Act.put _ (some 69) _ = _
      simp only [Act.put, List.setIfInBounds_toArray, List.set_cons_zero, List.set_cons_succ, i64_w, i32_w, goInt, List.length_map, hTL]
      rfl
    refine done_ (by kernel_rfl) ?_
    simp only [onlyN]
    repeat go_step
    have hk1 := HK16.out.1
    have hs1 := HK16.out.2.1
    have hcR1 : W1.cell? (pa.add (many + 1)) = some (.slice (some aR) 32 cR) := by
      rw [← HCR.out]
      exact World.cell?_of_block (by rw [add_blockB]; exact (hk1 _ (by omega)).trans rfl)
    have hcR2 : W1.drew.cell? ⟨pa.block, pa.off + (many + 1), none⟩ = some (.slice (some aR) 32 cR) := hcR1
    have HFR1 := Aside0.mk (Kd.F_step (W1 := W1) HFR.out (fun k hk _ => hk1 k (by omega)))
    clear hcL
    refine wp_onlyN ?_ (fun _ _ h => h)
    refine start_ (n := 8) (S := fun w' => w' = W1.drew) (ds := [7]) #[false, false, false, false, false, false, false, false] (by kernel_rfl) rfl rfl rfl (fun hHeld => ?_)
    refine pure_ (i := 0) (N := (some 70)) (v := ?_) (a' := ?_) #[true, false, false, false, false, false, false, false] rfl rfl (by kernel_rfl) (fun _ _ _ h => h) (Or.inl ⟨by rfl, ?_⟩) ?_ ?_
    rotate_left
    · intro w'
      go_simp
      with_reducible rfl
    rotate_left
    · simp only [Act.put, List.setIfInBounds_toArray, List.set_cons_zero, List.set_cons_succ, i64_w, i32_w]
      rfl
    refine pure_ (i := 1) (N := (some 71)) (v := ?_) (a' := ?_) #[true, true, false, false, false, false, false, false] rfl rfl (by kernel_rfl) (fun _ _ _ h => h) (Or.inl ⟨by rfl, ?_⟩) ?_ ?_
    rotate_left
    · intro w'
      go_simp
      rfl
    rotate_left
    · simp only [Act.put, List.setIfInBounds_toArray, List.set_cons_zero, List.set_cons_succ, i64_w, i32_w]
      rfl
    refine pure_ (i := 2) (N := (some 72)) (v := ?_) (a' := ?_) #[true, true, true, false, false, false, false, false] rfl rfl (by kernel_rfl) (fun _ _ _ h => h) (Or.inl ⟨by rfl, ?_⟩) ?_ ?_
    rotate_left
    · intro w'
      go_simp
      with_reducible rfl
    rotate_left
    · simp only [Act.put, List.setIfInBounds_toArray, List.set_cons_zero, List.set_cons_succ, i64_w, i32_w]
      rfl
    refine pure_ (i := 3) (N := (some 73)) (v := ?_) (a' := ?_) #[true, true, true, true, false, false, false, false] rfl rfl (by kernel_rfl) (fun _ _ _ h => h) (Or.inl ⟨by rfl, ?_⟩) ?_ ?_
    rotate_left
    · intro w'
      go_simp
      with_reducible rfl
    rotate_left
    · simp only [Act.put, List.setIfInBounds_toArray, List.set_cons_zero, List.set_cons_succ, i64_w, i32_w]
      rfl
    refine pure_ (i := 4) (N := (some 74)) (v := ?_) (a' := ?_) #[true, true, true, true, true, false, false, false] rfl rfl (by kernel_rfl) (fun _ _ _ h => h) (Or.inl ⟨by rfl, ?_⟩) ?_ ?_
    rotate_left
    · intro w'
      go_simp
      with_reducible rfl
    rotate_left
    · simp only [Act.put, List.setIfInBounds_toArray, List.set_cons_zero, List.set_cons_succ, i64_w, i32_w]
      rfl
    refine pure_ (i := 5) (N := (some 75)) (v := ?_) (a' := ?_) #[true, true, true, true, true, true, false, false] rfl rfl (by kernel_rfl) (fun _ _ _ h => h) (Or.inl ⟨by rfl, ?_⟩) ?_ ?_
    rotate_left
    · intro w'
      go_simp
      rfl
    rotate_left
    · simp only [Act.put, List.setIfInBounds_toArray, List.set_cons_zero, List.set_cons_succ, i64_w, i32_w]
      rfl
    refine take_ (i := 6) (N := (some 76)) (v := ?_) (a' := ?_) #[true, true, true, true, true, true, true, false] rfl rfl (by kernel_rfl) (fun _ _ _ h => h) (Or.inl ⟨by rfl, ?_⟩) hHeld ?_ ?_
    rotate_left
    · rintro w' rfl
      have hc := hcR2
      go_simp
      with_reducible rfl
    rotate_left
    · simp only [Act.put, List.setIfInBounds_toArray, List.set_cons_zero, List.set_cons_succ, i64_w, i32_w]
      rfl
    refine last_ (i := 7) (N := (some 77)) #[true, true, true, true, true, true, true, true] rfl rfl (by kernel_rfl) (by decide) (fun K hK => ?_)
    refine ite_wanted rfl ?_
    refine op_copy (.tmp 71) (.tmp 76) 43 43 rfl (.slice (some ⟨w.heap.size + 1, 33, none⟩) 32 32) (.slice (some aR) 32 cR) rfl rfl (run_copy_row _ _ 43 43 3 5 (w.heap.size + 1) 33 32 32 aR 32 cR _ 40 (TR.map (Value.int .u8)) Try.underlying43 info1U HR16.out (by rw [List.length_map, hTR]; rfl) (fun j v hv => C_srcB (Kd.F_now HFR1.out) j v hv) (by rw [List.length_map, hTR]; show 33 + 32 ≤ (bkC A0 D0.length c0 TL dig0).length; rw [bkC_length hTL dig0_length]; omega) (fun v hv => by obtain ⟨x, _, rfl⟩ := List.mem_map.1 hv; rfl)) ?_
    rw [copy_right hTL dig0_length hTR]
    generalize hW1 : World.setRow _ (w.heap.size + 1) _ = W2
    have HK17 := Aside0.mk (setRow_keep hW1)
    have HR17 : Aside0 (W2.heap[w.heap.size + 1]? = some (.cells ⟨bkC A0 D0.length c0 TL TR⟩ 40 (0, 0))) := ⟨by rw [← hW1]; exact setRow_heap _ _ _ _ _ _ HR16.out⟩
    clear hW1
    refine hK.out _ _ ?_
    clear hK K
    refine norm_ (a' := ?_) ?_ ?_
    rotate_left
    · show Act.put _ (some 77) _ = _
      simp only [Act.put, List.setIfInBounds_toArray, List.set_cons_zero, List.set_cons_succ, i64_w, i32_w, goInt, List.length_map, hTR]
      rfl
    refine done_ (by kernel_rfl) ?_
    simp only [onlyN]
    have hk2 := HK17.out.1
    have hs2 := HK17.out.2.1
    have hk12 : ∀ k, k ≠ w.heap.size + 1 → W2.heap[k]? = W.heap[k]? := fun k hk => (hk2 k hk).trans (hk1 k hk)
    have hsz2 : W2.heap.size = W.heap.size := hs2.trans hs1
    have HB2 : Aside0 (Below w.heap.size w W2) := ⟨by
      have hI := HI.out
      have h16 := HK16.out.2.2
      have h17 := HK17.out.2.2
      have hb9 := HB9.out
      exact ⟨h17.1.trans (h16.1.trans (hI.os.trans hb9.os)), h17.2.1.trans (h16.2.1.trans (hI.tape.trans hb9.tape)), h17.2.2.trans (h16.2.2.trans (hI.output.trans hb9.output)), by have := hb9.size; have := hI.size; omega, fun k hk => (hk12 k (by omega)).trans ((hI.block k (by omega) (by omega) (by omega)).trans (hb9.block k hk))⟩⟩
    have HLV2 : Aside0 (W2.heap[w.heap.size]? = some (.cells #[.int .i64 l0, .int .i64 l1, .int .i64 l2, .int .i64 l3] 23 (0, 0))) := ⟨(hk12 _ (by omega)).trans ((HI.out.block _ (by omega) (by omega) (by omega)).trans HF9.out.lev)⟩
    have HER2 : Aside0 (W2.heap[w.heap.size + 1 + 1]? = some (.cells #[.int .i64 0] 28 (0, 0))) := ⟨(hk12 _ (by omega)).trans ((HI.out.block _ (by omega) (by omega) (by omega)).trans HF9.out.err)⟩
    have HKD : Aside0 (W2.heap[D]? = some (.deferred (some []))) := ⟨(hk12 _ (by omega)).trans hKD⟩
    have HFIN : Aside0 (∀ Wf : World, (∀ k, w9.heap.size ≤ k → k < W2.heap.size → k ≠ D → Wf.heap[k]? = W2.heap[k]?) → W2.heap.size ≤ Wf.heap.size → D0.length ≤ c0 ∧ Kd.C k62 Wf A0 D0.length (D0.map (·.1)) ∧ ∃ ok, SoftB Wf ok A0 ((D0.map (·.1)).map (·.f2.length)) ∧ Soft Wf ok ∧ ∀ k, ok k → w.heap.size ≤ k) := ⟨fun Wf hf hsf => by
      refine read_fin HG5.out HG6.out (fun k h1 h2 hcs => ?_) (by omega) (by omega)
      obtain ⟨cs, qq, hc⟩ := hcs
      refine (hf k h1 (by omega) (fun e => ?_)).trans (hk12 k (by omega))
      subst e
      rw [hKD] at hc
      cases hc⟩
    have hX := HFIN.out W2 (fun _ _ _ _ => rfl) (Nat.le_refl _)
    obtain ⟨X, hx⟩ : ∃ X, X = D0.map (·.1) := ⟨_, rfl⟩
    have hxl : X.length = D0.length := by rw [hx, List.length_map]
    have HX := Aside0.mk hx
    have HCX : Aside0 (Kd.C k62 W2 A0 X.length X) := ⟨by rw [hxl, hx]; exact hX.2.1⟩
    have HXN : Aside0 (X.length ≤ 1000) := ⟨by have := HDN.out; omega⟩
    have HXW : Aside0 (∀ x ∈ X, (Lit.int .i64 x.f0).wf = true) := ⟨fun x hxm => by
      rw [hx] at hxm
      rcases goR_mem rd _ _ _ HG1.out x hxm with h | ⟨p, hp, h⟩
      · cases h
      · rw [h]
        obtain ⟨i, hi, rfl⟩ := List.mem_map.1 hp
        exact HWF.out i (List.mem_range.1 hi)⟩
    have HRB0 : Aside0 (readB l0 l1 l2 l3 many q rd t = if bckS l0 l1 l2 l3 X = 0 then (X, TL, TR, 0) else ([], dig0, dig0, bckS l0 l1 l2 l3 X)) := ⟨by
      unfold readB
      rw [HG1.out, HTL.out, HTR.out, hx]⟩
    rw [← hxl] at HR17
    obtain ⟨E, hE⟩ : ∃ E, E = bckS l0 l1 l2 l3 X := ⟨_, rfl⟩
    have HRB := HRB0.out
    rw [← hE] at HRB
    clear HRB0
    have HE := Aside0.mk hE
    have HXL := Aside0.mk hxl
    clear hxl hX hx hE HK16 HK17 HR16 HFR1 HFR HFL HG4 HCR hcR1 hcR2 HG5 HG6 HG1 hk1 hs1 hk2 hs2
    by_cases hE0 : E = 0
    · subst hE0
      rw [if_pos rfl] at HRB
      replace HRB := Aside0.mk HRB
      repeat (first
        | ((with_reducible refine wpList_whole_g 23 (.tmp 2) (w.heap.size) 23 [.int .i64 l0, .int .i64 l1, .int .i64 l2, .int .i64 l3] _ ?hw rfl ?hx ?hg Try.underlying23 ?hd ?hi ?_); (case hg => exact HLV2.out); (case hw => rfl); (case hx => rfl); (case hd => rfl); (case hi => exact infoLB))
        | ((with_reducible refine wpList_whole_g 40 (.tmp 4) (w.heap.size + 1) 40 (bkC A0 X.length c0 TL TR) _ ?hw rfl ?hx ?hg Try.underlying40 ?hd ?hi ?_); (case hg => exact HR17.out); (case hw => rfl); (case hx => rfl); (case hd => rfl); (case hi => rw [bkC_length hTL hTR]; exact info40))
        | (go_at_call 22; (with_reducible refine (bcheck_calls (H := Unit) l0 l1 l2 l3 A0 c0 X TL TR _ HCX.out HXN.out HXW.out).mono ?_); rintro e6 w6 ⟨he, hb6⟩; rw [← HE.out] at he; subst he; have HB6 := Aside0.mk hb6; have HR6 := Aside0.mk (blk_below HR17.out hb6); have HER6 := Aside0.mk (blk_below HER2.out hb6); have HKD6 := Aside0.mk (blk_below HKD.out hb6); clear hb6; (try dsimp only))
        | ((with_reducible refine wpList_whole_g 40 (.tmp 4) (w.heap.size + 1) 40 (bkC A0 X.length c0 TL TR) _ ?hw rfl ?hx ?hg Try.underlying40 ?hd ?hi ?_); (case hg => exact HR6.out); (case hw => rfl); (case hx => rfl); (case hd => rfl); (case hi => rw [bkC_length hTL hTR]; exact info40))
        | ((with_reducible refine wpList_store 40 (.tmp 4) (.tmp 85) (w.heap.size + 1) 40 ⟨(bkC A0 X.length c0 TL TR)⟩ ⟨(bkC A0 X.length c0 TL TR)⟩ rfl rfl ?hx ?hy ?hg rfl ?hi ?h1 ?_); (case hg => exact HR6.out); (case hx => rfl); (case hy => rfl); (case hi => show _ = some ((bkC A0 X.length c0 TL TR)).length; rw [bkC_length hTL hTR]; exact info40); (case h1 => exact bk_ones _ _ _ _ _); intro w7 q1 q2 q3 q4; have HR7 := Aside0.mk q1; have HE7 := Aside0.mk ((q2 _ (by omega)).trans HER6.out); have HK7 := Aside0.mk ((q2 D (by omega)).trans HKD6.out); have HF7 := Aside0.mk (fun (k : Nat) (h : w9.heap.size ≤ k) (hk : k < W2.heap.size) => (q2 k (by omega)).trans (HB6.out.block k hk)); have HS7 := Aside0.mk q4; have HB7 := Aside0.mk (q3 _ _ (bl HB2.out HB6.out) (by omega)); have hce := blk_cell HE7.out 0; have hfe := blk_frozen HE7.out 0; clear q1 q2 q3 q4)
        | go_values | go_guarded | go_step | go_upon | go_back)
      repeat go_step
      have he8 := blk_set HE7.out 0 (.int .i64 0)
      have hfar : ∀ k, k ≠ w.heap.size + 1 + 1 → (w7.setCell ⟨w.heap.size + 1 + 1, 0, none⟩ (.int .i64 0)).heap[k]? = w7.heap[k]? := fun k hk => Below.heap_setCell w7 ⟨w.heap.size + 1 + 1, 0, none⟩ _ k hk
      have hb8 := HB7.out.setCell (p := ⟨w.heap.size + 1 + 1, 0, none⟩) (by show w.heap.size ≤ w.heap.size + 1 + 1; omega) (.int .i64 0)
      have hs8 : (w7.setCell ⟨w.heap.size + 1 + 1, 0, none⟩ (.int .i64 0)).heap.size = w7.heap.size := by simp [World.setCell]
      generalize hw8 : w7.setCell ⟨w.heap.size + 1 + 1, 0, none⟩ (.int .i64 0) = w8 at he8 hfar hb8 hs8 ⊢
      have hK8 : w8.heap[D]? = some (.deferred (some [])) := (hfar D (by omega)).trans HK7.out
      have hfarD : ∀ k, k ≠ D → (w8.putObj D (.deferred none)).heap[k]? = w8.heap[k]? := fun k hk => World.putObj_heap_other hk
      have hr9 := (hfarD (w.heap.size + 1) (by omega)).trans ((hfar _ (by omega)).trans HR7.out)
      have he9 := (hfarD (w.heap.size + 1 + 1) (by omega)).trans he8
      have hB10 : Below w.heap.size w (w8.putObj D (.deferred none)) := hb8.trans (belowK_b (w := w) (Nat.le_refl _) w8 D _ _ (by have := HB9.out.size; omega) hK8 rfl rfl)
      obtain ⟨hf1, hf2, ok, hf3, hf4, hf5⟩ := HFIN.out (w8.putObj D (.deferred none)) (fun k h hk hne => (hfarD k hne).trans ((hfar k (by omega)).trans (HF7.out k h hk))) (by have := HB6.out.size; have := HS7.out; simp [World.putObj]; omega)
      refine ⟨by simp, .inl ⟨_, _, rfl, run_takeDeferred hK8, ?_⟩⟩
      refine ⟨.tuple #[.agg ⟨(bkC A0 X.length c0 TL TR)⟩, .int .i64 0], results_bk (e := 0) rfl rfl rfl hr9 (bkC_length hTL hTR) ((blk_cell he9 0).trans rfl), ?_⟩
      rw [HRB.out]
      exact ⟨A0, c0, rfl, by rw [HXL.out]; exact hf1, by rw [HXL.out, HX.out]; exact hf2, ⟨ok, by rw [HX.out]; exact hf3, hf4, hf5⟩, hB10⟩
    · rw [if_neg hE0] at HRB
      replace HRB := Aside0.mk HRB
      have hd2 : decide (E = 0) = false := decide_eq_false hE0
      repeat (first
        | ((with_reducible refine wpList_whole_g 23 (.tmp 2) (w.heap.size) 23 [.int .i64 l0, .int .i64 l1, .int .i64 l2, .int .i64 l3] _ ?hw rfl ?hx ?hg Try.underlying23 ?hd ?hi ?_); (case hg => exact HLV2.out); (case hw => rfl); (case hx => rfl); (case hd => rfl); (case hi => exact infoLB))
        | ((with_reducible refine wpList_whole_g 40 (.tmp 4) (w.heap.size + 1) 40 (bkC A0 X.length c0 TL TR) _ ?hw rfl ?hx ?hg Try.underlying40 ?hd ?hi ?_); (case hg => exact HR17.out); (case hw => rfl); (case hx => rfl); (case hd => rfl); (case hi => rw [bkC_length hTL hTR]; exact info40))
        | (go_at_call 22; (with_reducible refine (bcheck_calls (H := Unit) l0 l1 l2 l3 A0 c0 X TL TR _ HCX.out HXN.out HXW.out).mono ?_); rintro e6 w6 ⟨he, hb6⟩; rw [← HE.out] at he; subst he; have HB6 := Aside0.mk hb6; have HR6 := Aside0.mk (blk_below HR17.out hb6); have HER6 := Aside0.mk (blk_below HER2.out hb6); have HKD6 := Aside0.mk (blk_below HKD.out hb6); clear hb6; (try dsimp only))
        | ((with_reducible refine wpList_store 40 (.tmp 4) (.tmp 83) (w.heap.size + 1) 40 ⟨(bkC A0 X.length c0 TL TR)⟩ Try.zeroCells40 rfl rfl ?hx ?hy ?hg ?hs ?hi ?h1 ?_); (case hg => exact HR6.out); (case hx => rfl); (case hy => rfl); (case hs => show ((bkC A0 X.length c0 TL TR)).length = _; rw [bkC_length hTL hTR]; rfl); (case hi => exact info40); (case h1 => rw [bk_zero]; exact bk_ones _ _ _ _ _); intro w7 q1 q2 q3 q4; have HR7 := Aside0.mk q1; have HE7 := Aside0.mk ((q2 _ (by omega)).trans HER6.out); have HK7 := Aside0.mk ((q2 D (by omega)).trans HKD6.out); have HF7 := Aside0.mk (fun (k : Nat) (h : w9.heap.size ≤ k) (hk : k < W2.heap.size) => (q2 k (by omega)).trans (HB6.out.block k hk)); have HS7 := Aside0.mk q4; have HB7 := Aside0.mk (q3 _ _ (bl HB2.out HB6.out) (by omega)); have hce := blk_cell HE7.out 0; have hfe := blk_frozen HE7.out 0; clear q1 q2 q3 q4)
        | go_values | go_guarded | go_step | go_upon | go_back)
      repeat go_step
      have he8 := blk_set HE7.out 0 (.int .i64 E)
      have hfar : ∀ k, k ≠ w.heap.size + 1 + 1 → (w7.setCell ⟨w.heap.size + 1 + 1, 0, none⟩ (.int .i64 E)).heap[k]? = w7.heap[k]? := fun k hk => Below.heap_setCell w7 ⟨w.heap.size + 1 + 1, 0, none⟩ _ k hk
      have hb8 := HB7.out.setCell (p := ⟨w.heap.size + 1 + 1, 0, none⟩) (by show w.heap.size ≤ w.heap.size + 1 + 1; omega) (.int .i64 E)
      have hs8 : (w7.setCell ⟨w.heap.size + 1 + 1, 0, none⟩ (.int .i64 E)).heap.size = w7.heap.size := by simp [World.setCell]
      generalize hw8 : w7.setCell ⟨w.heap.size + 1 + 1, 0, none⟩ (.int .i64 E) = w8 at he8 hfar hb8 hs8 ⊢
      have hK8 : w8.heap[D]? = some (.deferred (some [])) := (hfar D (by omega)).trans HK7.out
      have hfarD : ∀ k, k ≠ D → (w8.putObj D (.deferred none)).heap[k]? = w8.heap[k]? := fun k hk => World.putObj_heap_other hk
      have hr9 := (hfarD (w.heap.size + 1) (by omega)).trans ((hfar _ (by omega)).trans HR7.out)
      have he9 := (hfarD (w.heap.size + 1 + 1) (by omega)).trans he8
      have hB10 : Below w.heap.size w (w8.putObj D (.deferred none)) := hb8.trans (belowK_b (w := w) (Nat.le_refl _) w8 D _ _ (by have := HB9.out.size; omega) hK8 rfl rfl)
      refine ⟨by simp, .inl ⟨_, _, rfl, run_takeDeferred hK8, ?_⟩⟩
      refine ⟨.tuple #[.agg Try.zeroCells40, .int .i64 E], results_bk (e := E) rfl rfl rfl hr9 rfl ((blk_cell he9 0).trans rfl), ?_⟩
      rw [HRB.out]
      exact ⟨none, 0, by rw [bk_zero]; rfl, Nat.le_refl _, Kd.C_nil _ _, ⟨fun _ => False, fun i m hi => by simp at hi, fun k hk => hk.elim, fun k hk => hk.elim⟩, hB10⟩
end Go.Proofs.Ytknmokpnkcckeaa

namespace Go.Proofs.Ytknmokpnkcckeaa
open Go.RowKit Go.Proofs.YtknmokpnkcckeaaW.PrintWords Go.Proofs.YtknmokpnkcckeaaW.PrintLast Go.Proofs.YtknmokpnkcckeaaW.PrintMore Go.Proofs.Ytknmokpnkcckeaa.PAll
set_option linter.unusedVariables false
set_option linter.unusedSimpArgs false

/-- A slot's text of a block. -/
def txtS (x : S62) : List Int := ofS x.f0 x.f1 x.f2
section
variable (rd : List Int → RS) (Z : List Int)
/-- What a slot may be: none, bad, or a block's text. -/
def SlotOk (p : List Int) : Prop := (p ≠ Z ∧ (rd p).2.2.2.2 ≠ 0) ∨ (p = Z ∧ (rd p).2.2.2.1 = false ∧ (rd p).2.2.2.2 = 0) ∨ (p ≠ Z ∧ (rd p).2.2.2.1 = true ∧ (rd p).2.2.2.2 = 0 ∧ txtS ⟨(rd p).1, (rd p).2.1, (rd p).2.2.1⟩ = p)
variable {rd Z}
theorem goR_some : ∀ (ps : List (List Int)) (g g' : Bool) (ys xs : List S62), (∀ p ∈ ps, SlotOk rd Z p) → goR rd ps (g, ys) = some (g', xs) → goD rd ps ys = some xs ∧ ∃ bs, xs = ys ++ bs ∧ bs.length ≤ ps.length ∧ ps = bs.map txtS ++ List.replicate (ps.length - bs.length) Z ∧ (g = true → bs = [])
  | [], g, g', ys, xs, _, h => by
    cases h
    exact ⟨rfl, [], by simp, Nat.le_refl _, rfl, fun _ => rfl⟩
  | p :: ps, g, g', ys, xs, hok, h => by
    have hp := hok p List.mem_cons_self
    have hps : ∀ p ∈ ps, SlotOk rd Z p := fun x hx => hok x (List.mem_cons_of_mem _ hx)
    rw [goR] at h
    by_cases hbad : (rd p).2.2.2.2 ≠ 0 ∨ ((rd p).2.2.2.1 = true ∧ g = true)
    · rw [if_pos hbad] at h
      cases h
    · rw [if_neg hbad] at h
      have h5 : (rd p).2.2.2.2 = 0 := Classical.byContradiction fun hn => hbad (.inl hn)
      rcases hp with hp | ⟨hz, hi, _⟩ | ⟨hz, hi, _, ht⟩
      · exact absurd h5 hp.2
      · simp only [hi, Bool.not_false] at h
        obtain ⟨hD, bs, h1, h2, h3, h4⟩ := goR_some ps true g' ys xs hps (by simpa using h)
        have hb := h4 rfl
        subst hb
        refine ⟨?_, [], h1, Nat.zero_le _, ?_, fun _ => rfl⟩
        · rw [goD, if_neg (by simp [h5]), hi]
          simpa using hD
        · rw [hz]
          simp only [List.map_nil, List.nil_append, List.length_nil, Nat.sub_zero, List.length_cons, List.replicate_succ] at h3 ⊢
          rw [← h3]
      · have hg : g = false := by
          cases g with
          | false => rfl
          | true => exact absurd (.inr ⟨hi, rfl⟩) hbad
        simp only [hi, Bool.not_true, if_true] at h
        obtain ⟨hD, bs, h1, h2, h3, h4⟩ := goR_some ps false g' _ xs hps h
        refine ⟨?_, ⟨(rd p).1, (rd p).2.1, (rd p).2.2.1⟩ :: bs, by rw [h1, List.append_assoc]; rfl, by simp only [List.length_cons]; omega, ?_, fun hgt => by rw [hg] at hgt; cases hgt⟩
        · rw [goD, if_neg (by simp [h5]), hi]
          simpa using hD
        · rw [List.map_cons, ht, List.cons_append]
          simp only [List.length_cons]
          rw [show ps.length + 1 - (bs.length + 1) = ps.length - bs.length by omega, ← h3]
theorem goR_zeros (hZ : (rd Z).2.2.2.1 = false ∧ (rd Z).2.2.2.2 = 0) : ∀ (n : Nat) (g : Bool) (ys : List S62), ∃ g', goR rd (List.replicate n Z) (g, ys) = some (g', ys)
  | 0, g, ys => ⟨g, rfl⟩
  | n + 1, g, ys => by
    rw [List.replicate_succ, goR, if_neg (by simp [hZ])]
    simp only [hZ.1]
    exact goR_zeros hZ n _ ys
theorem goR_of (hZ : (rd Z).2.2.2.1 = false ∧ (rd Z).2.2.2.2 = 0) : ∀ (bs : List S62) (n : Nat) (ys xs : List S62), (∀ b ∈ bs, txtS b ≠ Z ∧ SlotOk rd Z (txtS b)) → goD rd (bs.map txtS ++ List.replicate n Z) ys = some xs → ∃ g', goR rd (bs.map txtS ++ List.replicate n Z) (false, ys) = some (g', xs)
  | [], n, ys, xs, _, h => by
    obtain ⟨g', h1⟩ := goR_zeros hZ n false ys
    have h2 : ∀ (n : Nat), goD rd (List.replicate n Z) ys = some ys := fun n => by
      induction n with
      | zero => rfl
      | succ n ih => rw [List.replicate_succ, goD, if_neg (by simp [hZ]), hZ.1]; simpa using ih
    simp only [List.map_nil, List.nil_append] at h ⊢
    rw [h2 n] at h
    cases h
    exact ⟨g', h1⟩
  | b :: bs, n, ys, xs, hb, h => by
    obtain ⟨hne, hok⟩ := hb b List.mem_cons_self
    rw [List.map_cons, List.cons_append, goD] at h
    rw [List.map_cons, List.cons_append, goR]
    by_cases h5 : (rd (txtS b)).2.2.2.2 ≠ 0
    · rw [if_pos h5] at h
      cases h
    · rw [if_neg h5] at h
      rcases hok with hok | ⟨hz, _⟩ | ⟨_, hi, _⟩
      · exact absurd hok.2 h5
      · exact absurd hz hne
      · rw [if_neg (by simp at h5; simp [h5])]
        simp only [hi, if_true, Bool.not_true] at h ⊢
        exact goR_of hZ bs n _ xs (fun x hx => hb x (List.mem_cons_of_mem _ hx)) h
end
theorem flat_inj {q : Nat} : ∀ (ps qs : List (List Int)), ps.length = qs.length → (∀ p ∈ ps, p.length = q) → (∀ p ∈ qs, p.length = q) → ps.flatten = qs.flatten → ps = qs
  | [], [], _, _, _, _ => rfl
  | [], _ :: _, h, _, _, _ => by simp at h
  | _ :: _, [], h, _, _, _ => by simp at h
  | p :: ps, r :: qs, h, h1, h2, he => by
    rw [List.flatten_cons, List.flatten_cons] at he
    obtain ⟨e1, e2⟩ := List.append_inj he (by rw [h1 p List.mem_cons_self, h2 r List.mem_cons_self])
    rw [e1, flat_inj ps qs (by simpa using h) (fun x hx => h1 x (List.mem_cons_of_mem _ hx)) (fun x hx => h2 x (List.mem_cons_of_mem _ hx)) e2]
theorem slots_flat (q : Nat) : ∀ (n : Nat) (t : List Int), (slotsB n q t).flatten = t.take (n * q)
  | 0, t => by simp [slotsB]
  | n + 1, t => by
    have ih := slots_flat q n t
    unfold slotsB at ih ⊢
    rw [List.range_succ, List.map_append, List.flatten_append, ih, Nat.succ_mul, List.take_add]
    simp
theorem ofK_flat {size : Int} {q : Nat} (hq : (8 + size).toNat = q) (xs : List S62) : ∀ k, ofK size txtS xs k = (((xs.take k).map txtS) ++ List.replicate (k - xs.length) (List.replicate q 0)).flatten
  | 0 => by simp [ofK]
  | k + 1 => by
    rw [ofK, ofK_flat hq xs k, hq]
    by_cases hk : k < xs.length
    · rw [List.getElem?_eq_getElem hk, List.take_succ_eq_append_getElem hk, show k - xs.length = 0 by omega, show k + 1 - xs.length = 0 by omega]
      simp only [List.replicate_zero, List.append_nil, List.map_append, List.map_cons, List.map_nil, List.flatten_append, List.flatten_cons, List.flatten_nil]
    · rw [List.getElem?_eq_none (by omega), List.take_of_length_le (by omega), List.take_of_length_le (by omega), show k + 1 - xs.length = (k - xs.length) + 1 by omega, List.replicate_succ', ← List.append_assoc, List.flatten_append]
      simp
theorem slots_mem {n q : Nat} {t p : List Int} (h : p ∈ slotsB n q t) (hl : n * q ≤ t.length) : p.length = q := by
  unfold slotsB at h
  obtain ⟨i, hi, rfl⟩ := List.mem_map.1 h
  have hi2 := List.mem_range.1 hi
  have : (i + 1) * q ≤ n * q := Nat.mul_le_mul_right q hi2
  rw [Nat.succ_mul] at this
  rw [List.length_take, List.length_drop]
  omega
theorem slots_bytes {n q : Nat} {t p : List Int} (h : p ∈ slotsB n q t) (hb : Bytes t) : Bytes p := by
  unfold slotsB at h
  obtain ⟨i, hi, rfl⟩ := List.mem_map.1 h
  exact (hb.drop _).take _
/-- Both say the same. -/
theorem read_eq (l0 l1 l2 l3 : Int) (many q : Nat) (t : List Int) (hl : levelOk l0 l1 l2 l3) (hm : wrap64 (l3 - 64) / (8 + l1) = (many : Int)) (hq : 8 + l1 = (q : Int)) (hlen : t.length = many * q + 64) (hb : Bytes t) : readB l0 l1 l2 l3 many q (readS l0 l1 l2 l3) t = readD l0 l1 l2 many q (readS l0 l1 l2 l3) txtS t := by
  obtain ⟨Z, hZ⟩ : ∃ Z, Z = List.replicate q (0 : Int) := ⟨_, rfl⟩
  have hqn : (8 + l1).toNat = q := by omega
  have hl' := hl
  unfold levelOk at hl'
  have hrdZ : readS l0 l1 l2 l3 Z = (0, 0, [], false, 0) := by
    unfold readS
    rw [if_pos hl, if_pos (by rw [hZ, List.length_replicate]; omega), if_pos (by rw [hZ, hqn])]
  have hok : ∀ p, Bytes p → p.length = q → SlotOk (readS l0 l1 l2 l3) Z p := fun p hbp hlp => by
    by_cases hz : p = Z
    · refine .inr (.inl ⟨hz, ?_, ?_⟩) <;> rw [hz, hrdZ]
    · have hpl : (p.length : Int) = 8 + l1 := by omega
      by_cases hmy : mayS l0 l1 l2 (val (p.take 4) - 1) (val ((p.drop 4).take 4)) (p.drop 8).length
      · have hr : readS l0 l1 l2 l3 p = (val (p.take 4) - 1, val ((p.drop 4).take 4), p.drop 8, true, 0) := by
          unfold readS
          rw [if_pos hl, if_pos hpl, if_neg (by rw [hqn, ← hZ]; exact hz), if_pos hmy]
        exact .inr (.inr ⟨hz, by rw [hr], by rw [hr], by rw [hr]; exact of_read hbp hl hpl hmy⟩)
      · have hr : readS l0 l1 l2 l3 p = (0, 0, [], false, 8) := by
          unfold readS
          rw [if_pos hl, if_pos hpl, if_neg (by rw [hqn, ← hZ]; exact hz), if_neg hmy]
        exact .inl ⟨hz, by rw [hr]; decide⟩
  have hmq : many * q ≤ t.length := by omega
  have hsl : ∀ p ∈ slotsB many q t, SlotOk (readS l0 l1 l2 l3) Z p := fun p hp => hok p (slots_bytes hp hb) (slots_mem hp hmq)
  have hsn : (slotsB many q t).length = many := by simp [slotsB]
  have htx : t = (slotsB many q t).flatten ++ (t.drop (many * q)).take 32 ++ (t.drop (many * q + 32)).take 32 := by
    rw [slots_flat, List.append_assoc]
    have e1 : (t.drop (many * q + 32)).take 32 = t.drop (many * q + 32) := List.take_of_length_le (by rw [List.length_drop]; omega)
    have e2 : (t.drop (many * q)).take 32 ++ t.drop (many * q + 32) = t.drop (many * q) := by
      rw [← List.drop_drop, List.take_append_drop]
    rw [e1, e2, List.take_append_drop]
  unfold readB readD
  cases hR : goR (readS l0 l1 l2 l3) (slotsB many q t) (false, []) with
  | some s =>
    obtain ⟨g, xs⟩ := s
    obtain ⟨hD, bs, h1, h2, h3, _⟩ := goR_some _ _ _ _ _ hsl hR
    rw [List.nil_append] at h1
    subst h1
    rw [hsn] at h2 h3
    have hof : ofK l1 txtS xs many = (slotsB many q t).flatten := by
      rw [ofK_flat hqn, List.take_of_length_le h2, ← hZ, ← h3]
    rw [hD]
    simp only
    have hcond : ofK l1 txtS xs many ++ (t.drop (many * q)).take 32 ++ (t.drop (many * q + 32)).take 32 = t := by rw [hof]; exact htx.symm
    by_cases hc : (decide ((xs.length : Int) ≤ (many : Int)) && okB l0 l1 l2 [] xs) = true
    · have hc' := hc
      rw [Bool.and_eq_true, decide_eq_true_eq] at hc'
      have hb0 : bckS l0 l1 l2 l3 xs = 0 := by
        unfold bckS
        rw [if_pos ⟨hl, by rw [hm]; exact hc'.1, hc'.2⟩]
      rw [hb0, if_pos rfl, if_pos ⟨hc, hcond⟩]
    · have hb8 : bckS l0 l1 l2 l3 xs = 8 := by
        unfold bckS
        rw [if_neg (fun h => hc (by rw [Bool.and_eq_true, decide_eq_true_eq]; exact ⟨by rw [hm] at h; exact h.2.1, h.2.2⟩))]
      rw [hb8, if_neg (by decide), if_neg (fun h => hc h.1)]
  | none =>
    cases hD : goD (readS l0 l1 l2 l3) (slotsB many q t) [] with
    | none => rfl
    | some xs =>
      simp only
      rw [if_neg]
      rintro ⟨hc, ht⟩
      rw [Bool.and_eq_true, decide_eq_true_eq] at hc
      have hxm : xs.length ≤ many := by omega
      have hmay := okB_mem xs [] hc.2
      have hxl : ∀ x ∈ xs, (txtS x).length = q := fun x hx => by
        have := (hmay x hx).2.2.2.2
        unfold txtS ofS
        rw [List.length_append]
        simp
        omega
      have hfl : (xs.map txtS ++ List.replicate (many - xs.length) Z).flatten = (slotsB many q t).flatten := by
        rw [ofK_flat hqn, List.take_of_length_le hxm, ← hZ] at ht
        have hlenf : ∀ (ps : List (List Int)), (∀ p ∈ ps, p.length = q) → ps.flatten.length = ps.length * q := fun ps => by
          induction ps with
          | nil => intro _; simp
          | cons p ps ih =>
            intro h
            rw [List.flatten_cons, List.length_append, h p List.mem_cons_self, ih (fun x hx => h x (List.mem_cons_of_mem _ hx)), List.length_cons, Nat.succ_mul]
            omega
        have hq1 : ∀ p ∈ xs.map txtS ++ List.replicate (many - xs.length) Z, p.length = q := fun p hp => by
          rcases List.mem_append.1 hp with hp | hp
          · obtain ⟨x, hx, rfl⟩ := List.mem_map.1 hp
            exact hxl x hx
          · rw [List.eq_of_mem_replicate hp, hZ, List.length_replicate]
        have ht2 := ht.trans htx
        rw [List.append_assoc, List.append_assoc] at ht2
        refine (List.append_inj ht2 ?_).1
        rw [hlenf _ hq1, hlenf _ (fun p hp => slots_mem hp hmq), hsn]
        simp
        rw [Nat.add_sub_cancel' hxm]
      have hps := flat_inj (q := q) _ _ (by rw [hsn]; simp; omega) (fun p hp => by
          rcases List.mem_append.1 hp with hp | hp
          · obtain ⟨x, hx, rfl⟩ := List.mem_map.1 hp
            exact hxl x hx
          · rw [List.eq_of_mem_replicate hp, hZ, List.length_replicate]) (fun p hp => slots_mem hp hmq) hfl
      rw [← hps] at hR hD hsl
      obtain ⟨g', hg⟩ := goR_of (rd := readS l0 l1 l2 l3) (Z := Z) (by rw [hrdZ]; exact ⟨rfl, rfl⟩) xs (many - xs.length) [] xs (fun b hbm => by
        refine ⟨fun e => ?_, hsl _ (List.mem_append_left _ (List.mem_map_of_mem hbm))⟩
        have h0 : (txtS b)[0]? = some (b.f0 + 1) := by simp [txtS, ofS]
        rw [e, hZ, List.getElem?_replicate] at h0
        have := (hmay b hbm).1
        split at h0
        · injection h0 with h0; omega
        · cases h0) hD
      rw [hg] at hR
      cases hR
end Go.Proofs.Ytknmokpnkcckeaa

namespace Go.Proofs.Ytknmokpnkcckeaa
open Go.RowKit Go.Proofs.YtknmokpnkcckeaaW.PrintWords Go.Proofs.YtknmokpnkcckeaaW.PrintLast Go.Proofs.YtknmokpnkcckeaaW.PrintMore Go.Proofs.Ytknmokpnkcckeaa.PAll
set_option linter.unusedVariables false
set_option linter.unusedSimpArgs false

/-- What both Reads answer: blocks, digests, the error. -/
def readAns (l0 l1 l2 l3 : Int) (t : List Int) : List S62 × List Int × List Int × Int :=
  if levelOk l0 l1 l2 l3 then (if (t.length : Int) = l3 then readB l0 l1 l2 l3 (manyS l0 l1 l2 l3).toNat (8 + l1).toNat (readS l0 l1 l2 l3) t else ([], dig0, dig0, 10)) else ([], dig0, dig0, 8)
theorem level_facts {l0 l1 l2 l3 : Int} (hl : levelOk l0 l1 l2 l3) (w3 : (Lit.int .i64 l3).wf = true) : ∃ many q : Nat, manyS l0 l1 l2 l3 = (many : Int) ∧ wrap64 (l3 - 64) / (8 + l1) = (many : Int) ∧ 1 ≤ many ∧ many ≤ 4 ∧ 8 + l1 = (q : Int) ∧ l3 = 64 + (many : Int) * (8 + l1) ∧ 1 ≤ l1 ∧ l1 ≤ 32 ∧ isHigh l2 = true := by
  have hl' := hl
  unfold levelOk at hl'
  obtain ⟨h0, h1, h2, h3, h4, h5, h6, h7, h8⟩ := hl'
  obtain ⟨m, e, q1, q4, ed⟩ := quot_of h4 h6 h7 h8
  obtain ⟨n, rfl⟩ := Int.eq_ofNat_of_zero_le (show 0 ≤ m by omega)
  obtain ⟨q, hq⟩ := Int.eq_ofNat_of_zero_le (show 0 ≤ 8 + l1 by omega)
  refine ⟨n, q, ?_, ed, by omega, by omega, hq, ?_, h4, h5, h0⟩
  · unfold manyS
    rw [if_pos hl, ed]
  · have hb3 := w3
    rw [Lit.wf, Bool.and_eq_true, decide_eq_true_eq, decide_eq_true_eq] at hb3
    have hlo : -9223372036854775808 ≤ l3 := hb3.1
    have hhi : l3 ≤ 9223372036854775807 := hb3.2
    have ew : wrap64 (l3 - 64) = l3 - 64 := by
      have : 0 < wrap64 (l3 - 64) ∧ wrap64 (l3 - 64) ≤ 1000 := by omega
      unfold wrap64 at this ⊢
      omega
    rw [ew] at e
    rw [Int.mul_comm] at e
    omega
theorem readS_wf {l0 l1 l2 l3 : Int} (p : List Int) : (Lit.int .i64 (readS l0 l1 l2 l3 p).1).wf = true := by
  unfold readS
  split
  · next hl =>
    split
    · split
      · decide
      · split
        · next hm =>
          unfold levelOk at hl
          unfold mayS at hm
          rw [Lit.wf, Bool.and_eq_true, decide_eq_true_eq, decide_eq_true_eq]
          constructor
          · show -9223372036854775808 ≤ _
            simp only
            omega
          · show _ ≤ 9223372036854775807
            simp only
            omega
        · decide
    · decide
  · decide
theorem readB_bytes {l0 l1 l2 l3 : Int} {many q : Nat} {t : List Int} (hb : Bytes t) : ∀ x ∈ (readB l0 l1 l2 l3 many q (readS l0 l1 l2 l3) t).1, Bytes x.f2 ∧ (Lit.int .i64 x.f0).wf = true ∧ mayS l0 l1 l2 x.f0 x.f1 x.f2.length ∧ levelOk l0 l1 l2 l3 := by
  unfold readB
  cases hR : goR (readS l0 l1 l2 l3) (slotsB many q t) (false, []) with
  | none => intro x hx; cases hx
  | some s =>
    simp only
    split
    · next hE =>
      intro x hx
      have hok : okB l0 l1 l2 [] s.2 = true ∧ levelOk l0 l1 l2 l3 := by
        unfold bckS at hE
        split at hE
        · next hh => exact ⟨hh.2.2, hh.1⟩
        · cases hE
      rcases goR_mem _ _ _ _ hR x hx with h | ⟨p, hp, h⟩
      · cases h
      · have hbp := slots_bytes hp hb
        have hmx := okB_mem _ _ hok.1 x hx
        refine ⟨?_, by rw [h]; exact readS_wf p, hmx, hok.2⟩
        rw [h]
        show Bytes (readS l0 l1 l2 l3 p).2.2.1
        unfold readS
        split
        · split
          · split
            · intro z hz; cases hz
            · split
              · exact hbp.drop 8
              · intro z hz; cases hz
          · intro z hz; cases hz
        · intro z hz; cases hz
    · intro x hx; cases hx

set_option maxRecDepth 100000 in
theorem bkRead_calls (l0 l1 l2 l3 : Int) (A : Option Addr) (c : Nat) (t : List Int) (w : World) (hr : Kd.C (Kd.int .u8) w A t.length t) (hc : t.length ≤ c) (hb : Bytes t) (w3 : (Lit.int .i64 l3).wf = true) (X : List S62) (L R : List Int) (E : Int) (hX : readAns l0 l1 l2 l3 t = (X, L, R, E)) :
    Calls Try.prog 27 #[.agg #[.int .i64 l0, .int .i64 l1, .int .i64 l2, .int .i64 l3], .slice A t.length c] w fun e w' => ∃ A' c', e = .returned (.tuple #[.agg ⟨bkC A' X.length c' L R⟩, .int .i64 E]) ∧ X.length ≤ c' ∧ Kd.C k62 w' A' X.length X ∧ (∃ ok, SoftB w' ok A' (X.map (·.f2.length)) ∧ Soft w' ok ∧ ∀ k, ok k → w.heap.size ≤ k) ∧ Below w.heap.size w w' := by
  unfold readAns at hX
  by_cases hl : levelOk l0 l1 l2 l3
  · obtain ⟨many, q, hmn, hdv, h1, h4, hq, hl3, hl1, hl32, hh⟩ := level_facts hl w3
    have hs : slot_Slots.f 20 l0 l1 l2 l3 = some ((many : Int), 0) := by rw [slots_eq20]; unfold slotsS; rw [if_pos hl, hdv]
    rw [if_pos hl] at hX
    by_cases hlen : (t.length : Int) = l3
    · rw [if_pos hlen, hmn, hq, Int.toNat_natCast, Int.toNat_natCast] at hX
      refine ((callsIn_wide.1 (readBk_good many q (readS l0 l1 l2 l3) l0 l1 l2 l3 A c t w hr hc hs h1 h4 hl1 hl32 hl3 hlen hq (fun i hi => readS_eq _ _ _ _ _ ((hb.drop _).take _)) (fun i hi => readS_wf _)))).mono fun e w' hp => ?_
      rw [hX] at hp
      exact hp
    · rw [if_neg hlen] at hX
      cases hX
      refine (readBk_short many l0 l1 l2 l3 A c t w hr hc hs h1 h4 hl1 hl32 hl3 hlen).mono fun e w' hp => ?_
      obtain ⟨rfl, hbl⟩ := hp
      exact ⟨none, 0, rfl, Nat.le_refl _, Kd.C_nil _ _, ⟨fun _ => False, fun i m hi => by simp at hi, fun k hk => hk.elim, fun k hk => hk.elim⟩, hbl⟩
  · rw [if_neg hl] at hX
    cases hX
    refine (readBk_bad l0 l1 l2 l3 A c t w hl).mono fun e w' hp => ?_
    obtain ⟨rfl, hbl⟩ := hp
    exact ⟨none, 0, rfl, Nat.le_refl _, Kd.C_nil _ _, ⟨fun _ => False, fun i m hi => by simp at hi, fun k hk => hk.elim, fun k hk => hk.elim⟩, hbl⟩
end Go.Proofs.Ytknmokpnkcckeaa

namespace Go.Proofs.Ytknmokpnkcckeaa
open Go.RowKit Go.Proofs.YtknmokpnkcckeaaW.PrintWords Go.Proofs.YtknmokpnkcckeaaW.PrintLast Go.Proofs.YtknmokpnkcckeaaW.PrintMore Go.Proofs.Ytknmokpnkcckeaa.PAll
set_option linter.unusedVariables false
set_option linter.unusedSimpArgs false

theorem readAns_facts {l0 l1 l2 l3 : Int} {t : List Int} (hb : Bytes t) (w3 : (Lit.int .i64 l3).wf = true) {X : List S62} {L R : List Int} {E : Int} (h : readAns l0 l1 l2 l3 t = (X, L, R, E)) : L.length = 32 ∧ R.length = 32 ∧ X.length ≤ 4 ∧ (∀ x ∈ X, Bytes x.f2 ∧ x.f2.length ≤ 32) ∧ Bytes L ∧ Bytes R := by
  have hd0 : Bytes dig0 := fun z hz => by rw [List.eq_of_mem_replicate hz]; decide
  have triv : ∀ e : Int, ((([] : List S62), dig0, dig0, e) = (X, L, R, E)) → L.length = 32 ∧ R.length = 32 ∧ X.length ≤ 4 ∧ (∀ x ∈ X, Bytes x.f2 ∧ x.f2.length ≤ 32) ∧ Bytes L ∧ Bytes R := fun e he => by
    cases he
    exact ⟨dig0_length, dig0_length, by simp, fun x hx => by simp at hx, hd0, hd0⟩
  unfold readAns at h
  by_cases hl : levelOk l0 l1 l2 l3
  · rw [if_pos hl] at h
    by_cases hlen : (t.length : Int) = l3
    · rw [if_pos hlen] at h
      obtain ⟨many, q, hmn, hdv, h1, h4, hq, hl3, hl1, hl32, hh⟩ := level_facts hl w3
      rw [hmn, hq, Int.toNat_natCast, Int.toNat_natCast] at h
      have hlt64 : t.length = many * q + 64 := by
        have : (t.length : Int) = ((many * q + 64 : Nat) : Int) := by rw [hlen, hl3, hq]; push_cast; omega
        exact_mod_cast this
      have hby := readB_bytes (l0 := l0) (l1 := l1) (l2 := l2) (l3 := l3) (many := many) (q := q) hb
      rw [h] at hby
      have hx : ∀ x ∈ X, Bytes x.f2 ∧ x.f2.length ≤ 32 := fun x hx => by
        obtain ⟨b1, _, b3, _⟩ := hby x hx
        have := b3.2.2.2.2
        exact ⟨b1, by omega⟩
      unfold readB at h
      cases hR : goR (readS l0 l1 l2 l3) (slotsB many q t) (false, []) with
      | none => rw [hR] at h; exact triv _ h
      | some s =>
        rw [hR] at h
        simp only at h
        split at h
        · next hE =>
          cases h
          refine ⟨by rw [List.length_take, List.length_drop]; omega, by rw [List.length_take, List.length_drop]; omega, ?_, hx, (hb.drop _).take _, (hb.drop _).take _⟩
          unfold bckS at hE
          split at hE
          · next hh => have := hh.2.1; omega
          · cases hE
        · exact triv _ h
    · rw [if_neg hlen] at h
      exact triv _ h
  · rw [if_neg hl] at h
    exact triv _ h

end Go.Proofs.Ytknmokpnkcckeaa
