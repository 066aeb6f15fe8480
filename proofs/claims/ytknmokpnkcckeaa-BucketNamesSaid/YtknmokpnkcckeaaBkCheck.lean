/-
bucket.Check: a level's bucket, its blocks' numbers counted in a map.
-/
import Derived.Maps.OwnOps
import Derived.Maps.Views
import Derived.Test.YtknmokpnkcckeaaSlotC
import Derived.Test.YtknmokpnkcckeaaWhole
namespace Go.Proofs.Ytknmokpnkcckeaa
open Go.RowKit Go.Maps Go.Proofs.YtknmokpnkcckeaaW.PrintWords Go.Proofs.YtknmokpnkcckeaaW.PrintLast Go.Proofs.YtknmokpnkcckeaaW.PrintMore Go.Proofs.Ytknmokpnkcckeaa.PAll
set_option linter.unusedVariables false
set_option linter.unusedSimpArgs false

/-- A bucket's cells. -/
def bkC (A : Option Addr) (n c : Nat) (L R : List Int) : List Value := .slice A n c :: (L.map (Value.int .u8) ++ R.map (Value.int .u8))
theorem bkC_length {A : Option Addr} {n c : Nat} {L R : List Int} (hL : L.length = 32) (hR : R.length = 32) : (bkC A n c L R).length = 65 := by simp [bkC, hL, hR]
theorem bk_cell0 {W : World} {b t : Nat} {A : Option Addr} {n c : Nat} {L R : List Int} (h : W.heap[b]? = some (.cells ⟨bkC A n c L R⟩ t (0, 0))) : W.cell? ⟨b, 0, none⟩ = some (.slice A n c) := (blk_cell h 0).trans (by simp [bkC])
theorem at62 {w : World} {A : Option Addr} {n : Nat} {xs : List S62} (h : Kd.C k62 w A n xs) {i : Nat} {x : S62} (hx : xs[i]? = some x) : ∃ ad A2 c2, A = some ad ∧ w.cell? (ad.add (i * 3)) = some (.int .i64 x.f0) ∧ w.cell? ⟨(ad.add (i * 3)).block, (ad.add (i * 3)).off + 1, none⟩ = some (.int .i64 x.f1) ∧ w.cell? ⟨(ad.add (i * 3)).block, (ad.add (i * 3)).off + 2, none⟩ = some (.slice A2 x.f2.length c2) ∧ x.f2.length ≤ c2 ∧ (Kd.int .u8).C w A2 x.f2.length x.f2 := by
  have hi := (List.getElem?_eq_some_iff.1 hx).1
  have hn := h.1
  have hr : rd_T62 xs (i : Int) = x := by
    simp [rd_T62, List.getD_eq_getElem?_getD, hx]
  have := at_T62 h (i : Int) (by omega) (by omega)
  rw [hr] at this
  simpa using this

theorem cell_belowK {w W : World} {a : Addr} {v : Value} (hb : Below w.heap.size w W) (h : w.cell? a = some v) : W.cell? a = some v := by
  have hlt : a.block < w.heap.size := by
    refine Classical.byContradiction fun hn => ?_
    have : w.heap[a.block]? = none := Array.getElem?_eq_none (by omega)
    simp [World.cell?, this] at h
  have := hb.block a.block hlt
  simpa [World.cell?, this] using h
theorem heap_ltK {W : World} {k : Nat} {o : Obj} (h : W.heap[k]? = some o) : k < W.heap.size := (Array.getElem?_eq_some_iff.1 h).1
theorem box3B {W : World} {b t : Nat} {x y z : Value} (h : W.heap[b]? = some (.cells #[x, y, z] t (0, 0))) : W.cell? ⟨b, 0, none⟩ = some x ∧ W.cell? ⟨b, 1, none⟩ = some y ∧ W.cell? ⟨b, 2, none⟩ = some z := ⟨blk_cell h 0, blk_cell h 1, blk_cell h 2⟩
theorem bkLaw : Keyed Try.prog 3 := int_keyed Try.underlying3
theorem bkZero (w : World) : (zeroValue 3).run Try.prog w = .ok (.int .i64 0) w := by kernel_rfl
theorem check_at (a0 a1 a2 a3 id leaf : Int) (d : List Int) {k : Nat} (hk : 20 ≤ k) : slot_Check.f k a0 a1 a2 a3 id leaf d = some (checkS a0 a1 a2 a3 id leaf d.length) :=
  at_rounds (g := fun k => slot_Check.f k a0 a1 a2 a3 id leaf d) (slot_Check.mono a0 a1 a2 a3 id leaf d) hk (checkS_eq a0 a1 a2 a3 id leaf d)
/-- Numbers that are met once, and blocks that may be. -/
def okB (a0 a1 a2 : Int) : List Int → List S62 → Bool
  | _, [] => true
  | seen, x :: t => !(seen.contains x.f0) && decide (mayS a0 a1 a2 x.f0 x.f1 x.f2.length) && okB a0 a1 a2 (x.f0 :: seen) t
/-- The counts under way. -/
def CountsB {H : Type} (D : DataW H) (seen : List Int) : Prop := IsMap D ∧ ∀ id : Int, D.atKey (.int .i64 id) (.lit (.int .i64 0)) = .lit (.int .i64 (if seen.contains id = true then 1 else 0))
theorem CountsB.start {H : Type} : CountsB (H := H) (.map []) [] := ⟨⟨[], rfl⟩, fun id => rfl⟩
theorem CountsB.put {H : Type} {D : DataW H} {seen : List Int} (h : CountsB D seen) (id : Int) (hid : seen.contains id = false) : CountsB (D.put (.int .i64 id) (.lit (.int .i64 1))) (id :: seen) := by
  obtain ⟨hm, ha⟩ := h
  obtain ⟨es, rfl⟩ := hm
  refine ⟨⟨_, rfl⟩, fun id' => ?_⟩
  by_cases he : id' = id
  · subst he
    rw [atKey_put_same ⟨es, rfl⟩ (by simp [WideAt.IsKeyLit])]
    simp
  · rw [atKey_put_other (by simpa using he), ha id']
    have : ((id :: seen).contains id') = (seen.contains id') := by
      rw [List.contains_cons]
      simp [he]
    rw [this]
def bckS (a0 a1 a2 a3 : Int) (xs : List S62) : Int := if levelOk a0 a1 a2 a3 ∧ (xs.length : Int) ≤ wrap64 (a3 - 64) / (8 + a1) ∧ okB a0 a1 a2 [] xs = true then 0 else 8

set_option maxHeartbeats 8000000 in
set_option maxRecDepth 100000 in
theorem bcheck_calls {H : Type} (l0 l1 l2 l3 : Int) (A : Option Addr) (c : Nat) (xs : List S62) (L R : List Int) (w : World) (hr : Kd.C k62 w A xs.length xs) (hn : xs.length ≤ 1000) (hw : ∀ x ∈ xs, (Lit.int .i64 x.f0).wf = true) :
    Calls Try.prog 22 #[.agg #[.int .i64 l0, .int .i64 l1, .int .i64 l2, .int .i64 l3], .agg ⟨bkC A xs.length c L R⟩] w fun e w' => e = .returned (.int .i64 (bckS l0 l1 l2 l3 xs)) ∧ Below w.heap.size w w' := by
  have hmm := @run_makeMap Try.prog
  have HR := Aside0.mk hr
  have HN := Aside0.mk hn
  have HW := Aside0.mk hw
  have hu23 := Try.underlying23
  have hu62 := Try.underlying62
  have HB0 := Aside0.mk (below_alloc (below_alloc (Below.refl w.heap.size w) (.cells #[.int .i64 l0, .int .i64 l1, .int .i64 l2, .int .i64 l3] 23)) (.cells ⟨bkC A xs.length c L R⟩ 40))
  have HL0 := Aside0.mk (blk_alloc (heap_alloc_new w (.cells #[.int .i64 l0, .int .i64 l1, .int .i64 l2, .int .i64 l3] 23)) (.cells ⟨bkC A xs.length c L R⟩ 40))
  have hbk0 := heap_alloc_new (w.alloc (.cells #[.int .i64 l0, .int .i64 l1, .int .i64 l2, .int .i64 l3] 23)) (.cells ⟨bkC A xs.length c L R⟩ 40)
  rw [World.size_alloc] at hbk0
  have HK0 := Aside0.mk hbk0
  have HS := Aside0.mk (slots_eq20 l0 l1 l2 l3)
  have hn3 : (xs.length : Int) ≤ 1000 := by omega
  clear hr hn hw hbk0
  go_enter Try.func22, Try.ntmps22
  by_cases hl : levelOk l0 l1 l2 l3
  · have HSL : Aside0 (slot_Slots.f 20 l0 l1 l2 l3 = some (wrap64 (l3 - 64) / (8 + l1), 0)) := ⟨by rw [slots_eq20]; unfold slotsS; rw [if_pos hl]⟩
    obtain ⟨many, hmany⟩ : ∃ m, m = wrap64 (l3 - 64) / (8 + l1) := ⟨_, rfl⟩
    rw [← hmany] at HSL
    have HMY := Aside0.mk hmany
    have HLV := Aside0.mk hl
    clear hmany HS hl
    by_cases hm : (xs.length : Int) ≤ many
    · have hd0 : decide ((xs.length : Int) > many) = false := decide_eq_false (by omega)
      repeat (first
        | (go_at_call 32; (with_reducible refine (slot_Slots.calls 20 l0 l1 l2 l3 many 0 _ HSL.out).mono ?_); rintro e2 w2 ⟨rfl, hb2⟩; have HB2 := Aside0.mk (bl HB0.out hb2); have HL2 := Aside0.mk (blk_below HL0.out hb2); have HK2 := Aside0.mk (blk_below HK0.out hb2); have hk2 := bk_cell0 HK2.out; have hk3 := bk_cell0 (blk_alloc HK2.out (.map #[] 0)); clear hb2; (try dsimp only))
        | go_values | go_guarded | go_step | go_upon | go_back)
      clear hk2 hk3 hd0
      have hw2 : w.heap.size ≤ w2.heap.size := HB2.out.size
      have hw3 : w.heap.size < w2.heap.size := heap_ltK HL2.out
      have HOM := Aside0.mk (World.ownsMap_made w2 Try.prog 3 (plainElem (H := H) Try.prog 3))
      have HL3 := Aside0.mk (blk_alloc HL2.out (.map #[] 0))
      have HB3 := Aside0.mk (below_alloc HB2.out (.map #[] 0))
      clear HB0 HL0 HK0 HSL HB2 HL2 HK2
      go_loopw [28] (fun v28 wr => ∃ (i : Nat) (seen : List Int) (D : DataW H), v28 = .int .i64 i ∧ i ≤ xs.length ∧ Aside0 (wr.ownsMap Try.prog 3 (plainElem (H := H) Try.prog 3) w2.heap.size i D) ∧ Aside0 (CountsB D seen) ∧ Aside0 (okB l0 l1 l2 [] xs = okB l0 l1 l2 seen (xs.drop i)) ∧ Aside0 (wr.heap[w.heap.size]? = some (.cells #[.int .i64 l0, .int .i64 l1, .int .i64 l2, .int .i64 l3] 23 (0, 0))) ∧ Aside0 (Below w.heap.size w wr)) (fun v28 _ => xs.length - (intOf v28).toNat)
      case atStart => exact ⟨0, [], _, rfl, Nat.zero_le _, HOM, ⟨CountsB.start⟩, ⟨by rw [List.drop_zero]⟩, HL3, HB3⟩
      case round =>
        clear HOM HL3 HB3
        obtain ⟨i, seen, D, rfl, hi, HOM, HCB, HOK, HL, HB⟩ := hrel
        by_cases hlt : i < xs.length
        · have hd1 : decide ((i : Int) < (xs.length : Int)) = true := decide_eq_true (by omega)
          have hlt2 : (i : Int) < (xs.length : Int) := by omega
          have hget : xs[i]? = some xs[i] := List.getElem?_eq_getElem hlt
          have hwx := HW.out xs[i] (List.getElem_mem hlt)
          have hok := HOK.out
          rw [List.drop_eq_getElem_cons hlt, okB] at hok
          generalize xs[i] = x at hget hwx hok
          obtain ⟨ad, A2, c2, rfl, hx0, hx1, hx2, hc2, hCx⟩ := at62 HR.out hget
          replace hx0 := cell_belowK HB.out hx0
          replace hx1 := cell_belowK HB.out hx1
          replace hx2 := cell_belowK HB.out hx2
          have HCX := Aside0.mk hCx
          have HC2 := Aside0.mk hc2
          obtain ⟨f0, f1, f2⟩ := x
          dsimp only at hx0 hx1 hx2 hwx hok HCX HC2
          have hkey : keyOf Try.prog 3 (.int .i64 f0) = some (.int .i64 f0) := keyOf_int_mk Try.underlying3 hwx
          have hnew := heap_alloc_new wr (.cells #[.int .i64 f0, .int .i64 f1, .slice A2 f2.length c2] 62)
          obtain ⟨hy0, hy1, hy2⟩ := box3B hnew
          have HNEW := Aside0.mk hnew
          have HBN := Aside0.mk (below_alloc HB.out (.cells #[.int .i64 f0, .int .i64 f1, .slice A2 f2.length c2] 62))
          have HLN := Aside0.mk (blk_alloc HL.out (.cells #[.int .i64 f0, .int .i64 f1, .slice A2 f2.length c2] 62))
          have hown := HOM.out.alloc (.cells #[.int .i64 f0, .int .i64 f1, .slice A2 f2.length c2] 62)
          have hmlt := HOM.out.lt
          have hi9 : i < maxLen := by have : (1000 : Nat) < maxLen := by decide
                                      omega
          clear hget hCx hc2 hnew
          cases hseen : seen.contains f0 with
          | true =>
            have hres : bckS l0 l1 l2 l3 xs = 8 := by
              unfold bckS
              rw [if_neg (fun h => by rw [h.2.2, hseen] at hok; simp at hok)]
            repeat (first
              | (at_lookup; refine wpList_lookup_own_int _ rfl _ _ 87 rfl 3 3 .i64 bkLaw Try.underlying87 Try.underlying3 (bkZero _) w2.heap.size i D rfl hown _ _ rfl hkey ?_; intro c' hat hwc; have h9 := hat.symm.trans (HCB.out.2 f0); rw [hseen] at h9; simp at h9; subst h9; clear hat hwc) | (at_mapUpdate; refine wpList_mapUpdate_own _ rfl _ _ _ 87 rfl 3 3 bkLaw Try.underlying87 _ w2.heap.size i D rfl hown hi9 _ (.int .i64 2) _ rfl rfl hkey _ [] (plainElem_int Try.underlying3 (by decide)) ?_; intro w4 hown1 hgrow1; have hsz1 := hgrow1.size; have HB4 := Aside0.mk (HBN.out.grown hgrow1 (by have := HBN.out.size; omega) (fun j hj => by cases hj; exact hw2)); have hn4 := (hgrow1.block wr.heap.size (by simp) (by simp; omega)).trans HNEW.out; have HN4 := Aside0.mk hn4; have HL4 := Aside0.mk ((hgrow1.block w.heap.size (by have := HBN.out.size; have := heap_ltK HLN.out; omega) (by simp; omega)).trans HLN.out); obtain ⟨hz0, hz1, hz2⟩ := box3B hn4; have hl0 := blk_cell HL4.out 0; have hl1 := blk_cell HL4.out 1; have hl2 := blk_cell HL4.out 2; have hl3 := blk_cell HL4.out 3; have HOM1 := Aside0.mk hown1; clear hown hn4 hy0 hy1 hy2 hx0 hx1 hx2 hgrow1) | (at_lookup; refine wpList_lookup_own_int _ rfl _ _ 87 rfl 3 3 .i64 bkLaw Try.underlying87 Try.underlying3 (bkZero _) w2.heap.size (i + 1) _ rfl hown1 _ _ rfl hkey ?_; intro c' hat hwc; rw [atKey_put_same HCB.out.1 (by simp [WideAt.IsKeyLit])] at hat; simp at hat; subst hat; clear hwc hown1)
              | go_values | go_guarded | go_step | go_upon | go_back)
            go_ret
            rw [hres]
            exact ⟨rfl, HB4.out⟩
          | false =>
            have hck := check_at l0 l1 l2 l3 f0 f1 f2 (k := 20) (Nat.le_refl _)
            by_cases hm : mayS l0 l1 l2 f0 f1 f2.length
            · rw [checkS_zero.2 ⟨HLV.out, hm⟩] at hck
              have HCK := Aside0.mk hck
              clear hck
              repeat (first
                | (at_lookup; refine wpList_lookup_own_int _ rfl _ _ 87 rfl 3 3 .i64 bkLaw Try.underlying87 Try.underlying3 (bkZero _) w2.heap.size i D rfl hown _ _ rfl hkey ?_; intro c' hat hwc; have h9 := hat.symm.trans (HCB.out.2 f0); rw [hseen] at h9; simp at h9; subst h9; clear hat hwc) | (at_mapUpdate; refine wpList_mapUpdate_own _ rfl _ _ _ 87 rfl 3 3 bkLaw Try.underlying87 _ w2.heap.size i D rfl hown hi9 _ (.int .i64 1) _ rfl rfl hkey _ [] (plainElem_int Try.underlying3 (by decide)) ?_; intro w4 hown1 hgrow1; have hsz1 := hgrow1.size; have HB4 := Aside0.mk (HBN.out.grown hgrow1 (by have := HBN.out.size; omega) (fun j hj => by cases hj; exact hw2)); have hn4 := (hgrow1.block wr.heap.size (by simp) (by simp; omega)).trans HNEW.out; have HN4 := Aside0.mk hn4; have HL4 := Aside0.mk ((hgrow1.block w.heap.size (by have := HBN.out.size; have := heap_ltK HLN.out; omega) (by simp; omega)).trans HLN.out); obtain ⟨hz0, hz1, hz2⟩ := box3B hn4; have hl0 := blk_cell HL4.out 0; have hl1 := blk_cell HL4.out 1; have hl2 := blk_cell HL4.out 2; have hl3 := blk_cell HL4.out 3; have HOM1 := Aside0.mk hown1; clear hown hn4 hy0 hy1 hy2 hx0 hx1 hx2 hgrow1) | (at_lookup; refine wpList_lookup_own_int _ rfl _ _ 87 rfl 3 3 .i64 bkLaw Try.underlying87 Try.underlying3 (bkZero _) w2.heap.size (i + 1) _ rfl hown1 _ _ rfl hkey ?_; intro c' hat hwc; rw [atKey_put_same HCB.out.1 (by simp [WideAt.IsKeyLit])] at hat; simp at hat; subst hat; clear hwc hown1)
                | (go_at_call 51; (with_reducible refine (slot_Check.calls 20 l0 l1 l2 l3 f0 f1 A2 c2 f2 0 _ (Kd.C_below HCX.out HB4.out) HC2.out HCK.out).mono ?_); rintro e5 w5 ⟨rfl, hb5⟩; have HB5 := Aside0.mk hb5; clear hb5 hz0 hz1 hz2 hl0 hl1 hl2 hl3; (try dsimp only))
                | go_values | go_guarded | go_step | go_upon | go_back)
              refine ⟨⟨i + 1, f0 :: seen, _, by simp, by omega, ⟨?_⟩, ⟨HCB.out.put f0 hseen⟩, ⟨hok.trans (by rw [hseen, decide_eq_true hm]; rfl)⟩, ⟨(HB5.out.block _ (heap_ltK HL4.out)).trans HL4.out⟩, ⟨bl HB4.out HB5.out⟩⟩, by simp [intOf]; omega⟩
              have hlt4 := HOM1.out.lt
              obtain ⟨es, clk, h1, h2⟩ := HOM1.out
              exact ⟨es, clk, (HB5.out.block _ hlt4).trans h1, h2⟩
            · have h8 : checkS l0 l1 l2 l3 f0 f1 f2.length = 8 := by
                unfold checkS
                rw [if_neg (fun h => hm h.2)]
              rw [h8] at hck
              have HCK := Aside0.mk hck
              clear hck
              have hres : bckS l0 l1 l2 l3 xs = 8 := by
                unfold bckS
                rw [if_neg (fun h => by rw [h.2.2, decide_eq_false hm] at hok; simp at hok)]
              repeat (first
                | (at_lookup; refine wpList_lookup_own_int _ rfl _ _ 87 rfl 3 3 .i64 bkLaw Try.underlying87 Try.underlying3 (bkZero _) w2.heap.size i D rfl hown _ _ rfl hkey ?_; intro c' hat hwc; have h9 := hat.symm.trans (HCB.out.2 f0); rw [hseen] at h9; simp at h9; subst h9; clear hat hwc) | (at_mapUpdate; refine wpList_mapUpdate_own _ rfl _ _ _ 87 rfl 3 3 bkLaw Try.underlying87 _ w2.heap.size i D rfl hown hi9 _ (.int .i64 1) _ rfl rfl hkey _ [] (plainElem_int Try.underlying3 (by decide)) ?_; intro w4 hown1 hgrow1; have hsz1 := hgrow1.size; have HB4 := Aside0.mk (HBN.out.grown hgrow1 (by have := HBN.out.size; omega) (fun j hj => by cases hj; exact hw2)); have hn4 := (hgrow1.block wr.heap.size (by simp) (by simp; omega)).trans HNEW.out; have HN4 := Aside0.mk hn4; have HL4 := Aside0.mk ((hgrow1.block w.heap.size (by have := HBN.out.size; have := heap_ltK HLN.out; omega) (by simp; omega)).trans HLN.out); obtain ⟨hz0, hz1, hz2⟩ := box3B hn4; have hl0 := blk_cell HL4.out 0; have hl1 := blk_cell HL4.out 1; have hl2 := blk_cell HL4.out 2; have hl3 := blk_cell HL4.out 3; have HOM1 := Aside0.mk hown1; clear hown hn4 hy0 hy1 hy2 hx0 hx1 hx2 hgrow1) | (at_lookup; refine wpList_lookup_own_int _ rfl _ _ 87 rfl 3 3 .i64 bkLaw Try.underlying87 Try.underlying3 (bkZero _) w2.heap.size (i + 1) _ rfl hown1 _ _ rfl hkey ?_; intro c' hat hwc; rw [atKey_put_same HCB.out.1 (by simp [WideAt.IsKeyLit])] at hat; simp at hat; subst hat; clear hwc hown1)
                | (go_at_call 51; (with_reducible refine (slot_Check.calls 20 l0 l1 l2 l3 f0 f1 A2 c2 f2 8 _ (Kd.C_below HCX.out HB4.out) HC2.out HCK.out).mono ?_); rintro e5 w5 ⟨rfl, hb5⟩; have HB5 := Aside0.mk (bl HB4.out hb5); clear hb5 hz0 hz1 hz2 hl0 hl1 hl2 hl3; (try dsimp only))
                | go_values | go_guarded | go_step | go_upon | go_back)
              go_ret
              rw [hres]
              exact ⟨rfl, HB5.out⟩
        · have hd1 : decide ((i : Int) < (xs.length : Int)) = false := decide_eq_false (by omega)
          have hres : bckS l0 l1 l2 l3 xs = 0 := by
            unfold bckS
            rw [if_pos ⟨HLV.out, by rw [← HMY.out]; exact hm, by rw [HOK.out, List.drop_of_length_le (by omega)]; rfl⟩]
          repeat (first
            | go_values | go_guarded | go_step | go_upon | go_back)
          go_ret
          rw [hres]
          exact ⟨rfl, HB.out⟩
    · have hd0 : decide ((xs.length : Int) > many) = true := decide_eq_true (by omega)
      have hres : bckS l0 l1 l2 l3 xs = 8 := by
        unfold bckS
        rw [if_neg (fun h => hm (by rw [HMY.out]; exact h.2.1))]
      rw [hres]
      repeat (first
        | (go_at_call 32; (with_reducible refine (slot_Slots.calls 20 l0 l1 l2 l3 many 0 _ HSL.out).mono ?_); rintro e2 w2 ⟨rfl, hb2⟩; have HB2 := Aside0.mk (bl HB0.out hb2); have HK2 := Aside0.mk (blk_below HK0.out hb2); have hk2 := bk_cell0 HK2.out; clear hb2; (try dsimp only))
        | go_values | go_guarded | go_step | go_upon | go_back)
      go_ret
      exact ⟨rfl, HB2.out⟩
  · have HSL : Aside0 (slot_Slots.f 20 l0 l1 l2 l3 = some (0, 8)) := ⟨by rw [slots_eq20]; unfold slotsS; rw [if_neg hl]⟩
    have hres : bckS l0 l1 l2 l3 xs = 8 := by
      unfold bckS
      rw [if_neg (fun h => hl h.1)]
    rw [hres]
    clear HS
    repeat (first
      | (go_at_call 32; (with_reducible refine (slot_Slots.calls 20 l0 l1 l2 l3 0 8 _ HSL.out).mono ?_); rintro e2 w2 ⟨rfl, hb2⟩; have HB2 := Aside0.mk (bl HB0.out hb2); clear hb2; (try dsimp only))
      | go_values | go_guarded | go_step | go_upon | go_back)
    go_ret
    exact ⟨rfl, HB2.out⟩
end Go.Proofs.Ytknmokpnkcckeaa
