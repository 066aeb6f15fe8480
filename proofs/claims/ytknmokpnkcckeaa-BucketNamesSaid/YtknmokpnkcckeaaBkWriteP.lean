/-
bucket.Write: a bucket's text.
-/
import Derived.Test.YtknmokpnkcckeaaBkWrt
import Derived.Test.YtknmokpnkcckeaaHandSlot
import Derived.Test.YtknmokpnkcckeaaPAll31
namespace Go.Proofs.Ytknmokpnkcckeaa
open Go.RowKit Go.Proofs.YtknmokpnkcckeaaW.PrintWords Go.Proofs.YtknmokpnkcckeaaW.PrintLast Go.Proofs.YtknmokpnkcckeaaW.PrintMore Go.Proofs.Ytknmokpnkcckeaa.PAll
set_option linter.unusedVariables false
set_option linter.unusedSimpArgs false

def sliceLen : Value → Nat
  | .slice _ n _ => n
  | _ => 0
theorem ofK_exact {size : Int} {T : S62 → List Int} {xs : List S62} (hT : ∀ x ∈ xs, (T x).length = (8 + size).toNat) : ∀ k, (ofK size T xs k).length = k * (8 + size).toNat
  | 0 => by simp [ofK]
  | k + 1 => by
    have := ofK_exact hT k
    simp only [ofK, List.length_append, this]
    cases hx : xs[k]? with
    | some x => have := hT x (List.mem_of_getElem? hx); simp only [this]; rw [Nat.succ_mul]
    | none => simp only [List.length_replicate]; rw [Nat.succ_mul]

set_option maxHeartbeats 8000000 in
set_option maxRecDepth 100000 in
theorem wrtBk_good (kn : Nat) (l0 l1 l2 l3 : Int) (many : Nat) (A : Option Addr) (c : Nat) (xs : List S62) (L R : List Int) (T : S62 → List Int) (w : World) (hL : L.length = 32) (hR : R.length = 32) (hr : Kd.C k62 w A xs.length xs) (hn : xs.length ≤ 1000) (hwf : ∀ x ∈ xs, (Lit.int .i64 x.f0).wf = true) (h0 : bckS l0 l1 l2 l3 xs = 0) (hlen : xs.length ≤ many) (hm4 : many ≤ 4) (h1 : 1 ≤ l1) (h32 : l1 ≤ 32) (hl3 : l3 = 64 + (many : Int) * (8 + l1))
    (hW : ∀ x ∈ xs, slot_Write.f l0 l1 l2 l3 x.f0 x.f1 x.f2 = some (T x, 0)) (hTl : ∀ x ∈ xs, (T x).length = (8 + l1).toNat) (hN : slot_None.f kn l0 l1 l2 l3 = some (List.replicate (8 + l1).toNat 0, 0)) :
    Calls Try.prog 18 #[.agg #[.int .i64 l0, .int .i64 l1, .int .i64 l2, .int .i64 l3], .agg ⟨bkC A xs.length c L R⟩] w fun e w' => ∃ v, e = .returned (.tuple #[v, .int .i64 0]) ∧ Kd.R (Kd.int .u8) 5 w' w.heap.size (fun _ => True) v (ofK l1 T xs many ++ L ++ R) ∧ Below w.heap.size w w' := by
  have HR := Aside0.mk hr
  have HWF := Aside0.mk hwf
  have H0 := Aside0.mk h0
  have HW := Aside0.mk hW
  have HTL := Aside0.mk hTl
  have HNN := Aside0.mk hN
  have HL3 := Aside0.mk hl3
  have hex := ofK_exact (xs := xs) (T := T) (size := l1) hTl
  have hu23 := Try.underlying23
  have hu62 := Try.underlying62
  have hu38 := Try.underlying38
  have hn3 : (xs.length : Int) ≤ 1000 := by omega
  have HB0 := Aside0.mk (below_alloc (below_alloc (Below.refl w.heap.size w) (.cells #[.int .i64 l0, .int .i64 l1, .int .i64 l2, .int .i64 l3] 23)) (.cells ⟨bkC A xs.length c L R⟩ 40))
  have HL0 := Aside0.mk (blk_alloc (heap_alloc_new w (.cells #[.int .i64 l0, .int .i64 l1, .int .i64 l2, .int .i64 l3] 23)) (.cells ⟨bkC A xs.length c L R⟩ 40))
  have hbk0 := heap_alloc_new (w.alloc (.cells #[.int .i64 l0, .int .i64 l1, .int .i64 l2, .int .i64 l3] 23)) (.cells ⟨bkC A xs.length c L R⟩ 40)
  rw [World.size_alloc] at hbk0
  have HK0 := Aside0.mk hbk0
  have HEX := Aside0.mk hex
  clear hr hwf h0 hW hTl hN hl3 hbk0 hex
  go_enter Try.func18, Try.ntmps18
  repeat (first
    | ((with_reducible refine wpList_whole_g 40 (.tmp 3) (w.heap.size + 1) 40 (bkC A xs.length c L R) _ ?hw rfl ?hx ?hg Try.underlying40 ?hd ?hi ?_); (case hg => exact HK0.out); (case hw => rfl); (case hx => rfl); (case hd => rfl); (case hi => rw [bkC_length hL hR]; exact info40))
    | (go_at_call 22; (with_reducible refine (bcheck_calls (H := Unit) l0 l1 l2 l3 A c xs L R _ (Kd.C_below HR.out HB0.out) hn HWF.out).mono ?_); rintro e2 w2 ⟨rfl, hb2⟩; rw [H0.out]; have HB2 := Aside0.mk (bl HB0.out hb2); have HL2 := Aside0.mk (blk_below HL0.out hb2); have HK2 := Aside0.mk (blk_below HK0.out hb2); have hk2 := bk_cell0 HK2.out; have HS2 := Aside0.mk hb2.size; clear hb2; (try dsimp only))
    | go_values | go_guarded | go_step | go_upon | go_back)
  have hs2 : w.heap.size + 2 ≤ w2.heap.size := by have := HS2.out; simpa using this
  clear hk2 HL0 HK0 HS2 HB0
  go_loopw [7, 23] (fun v7 v23 wr => ∃ i : Nat, v23 = .int .i64 i ∧ i ≤ xs.length ∧ Aside0 (Kd.R (Kd.int .u8) 5 wr (w.heap.size + 2) (fun _ => True) v7 (ofK l1 T xs i)) ∧ Aside0 (Below (w.heap.size + 2) w2 wr)) (fun _ v23 _ => xs.length - (intOf v23).toNat)
  case atStart => exact ⟨0, rfl, Nat.zero_le _, ⟨Kd.R_nil _ _ _ _ _⟩, ⟨Below.refl _ _⟩⟩
  case round =>
    obtain ⟨i, rfl, hi, HV, HB⟩ := hrel
    obtain ⟨A7, c7, rfl⟩ := Kd.R_slice HV.out
    have hszr : w.heap.size + 2 ≤ wr.heap.size := by have := HB.out.size; omega
    have HBW := Aside0.mk (HB2.out.trans (HB.out.mono (by omega : w.heap.size ≤ w.heap.size + 2)))
    have HL := Aside0.mk ((HB.out.block w.heap.size (by omega)).trans HL2.out)
    by_cases hlt : i < xs.length
    · have hd1 : decide ((i : Int) < (xs.length : Int)) = true := decide_eq_true (by omega)
      have hlt2 : (i : Int) < (xs.length : Int) := by omega
      have hget : xs[i]? = some xs[i] := List.getElem?_eq_getElem hlt
      have hwx := HW.out xs[i] (List.getElem_mem hlt)
      have htl := HTL.out xs[i] (List.getElem_mem hlt)
      have hstep : ofK l1 T xs (i + 1) = ofK l1 T xs i ++ T xs[i] := by simp only [ofK, hget]
      have hlen2 : (ofK l1 T xs i).length ≤ 200 := by
        rw [HEX.out]
        have : i * (8 + l1).toNat ≤ 4 * 40 := Nat.mul_le_mul (by omega) (by omega)
        omega
      generalize xs[i] = x at hget hwx htl hstep
      obtain ⟨ad, A2, c2, rfl, hx0, hx1, hx2, hc2, hCx⟩ := at62 HR.out hget
      obtain ⟨f0, f1, f2⟩ := x
      dsimp only at hx0 hx1 hx2 hCx hc2 hwx
      replace hx0 := cell_belowK HBW.out hx0
      replace hx1 := cell_belowK HBW.out hx1
      replace hx2 := cell_belowK HBW.out hx2
      have hnb := below_alloc (Below.refl wr.heap.size wr) (.cells #[.int .i64 f0, .int .i64 f1, .slice A2 f2.length c2] 62)
      have HNB := Aside0.mk hnb
      have HCX := Aside0.mk (Kd.C_below hCx (bl HBW.out hnb))
      have HC2 := Aside0.mk hc2
      have HWX := Aside0.mk hwx
      have HST := Aside0.mk hstep
      have HLT := Aside0.mk htl
      have HLN := Aside0.mk hlen2
      obtain ⟨hy0, hy1, hy2⟩ := box3B (heap_alloc_new wr (.cells #[.int .i64 f0, .int .i64 f1, .slice A2 f2.length c2] 62))
      have hln := blk_alloc HL.out (.cells #[.int .i64 f0, .int .i64 f1, .slice A2 f2.length c2] 62)
      have hl0 := blk_cell hln 0
      have hl1 := blk_cell hln 1
      have hl2 := blk_cell hln 2
      have hl3 := blk_cell hln 3
      clear hget hCx hc2 hwx htl hstep hlen2 hnb hln
      repeat (first
        | (go_at_call 34; (with_reducible refine (slot_Write.calls l0 l1 l2 l3 f0 f1 A2 c2 f2 _ 0 _ HCX.out HC2.out HWX.out).mono ?_); rintro e3 w3 ⟨v3, rfl, hR3, hb3⟩; obtain ⟨A3, c3, rfl⟩ := Kd.R_slice hR3; have HR3 := Aside0.mk hR3; have HB3 := Aside0.mk (bl HNB.out hb3); clear hR3 hb3 hl0 hl1 hl2 hl3 hy0 hy1 hy2 hx0 hx1 hx2; (try dsimp only))
        | ((with_reducible refine gate_builtin (b := .append) (xs := #[.tmp 33, .tmp 34]) rfl ?_); at_builtin; refine Kd.R_append_rows (Kd.int .u8) (w0 := w2) (w.heap.size + 2) rfl (.tmp 33) (.tmp 34) 43 5 (.int .u8 0) 1 rfl Try.underlying43 info5B rfl (by decide) (by omega) (.slice A7 (ofK l1 T xs i).length c7) (ofK l1 T xs i) (T ⟨f0, f1, f2⟩) _ _ _ (fun _ => True) (fun _ => False) rfl rfl ?aO ?aR (fun _ _ h => h) (fun _ h => h.elim) ?aF ?aB ?aS ?aL ?_; (case aO => exact Kd.R_below HV.out HB3.out); (case aR => exact (Kd.R_reads' HR3.out).2.2); (case aF => exact (fun _ _ => trivial)); (case aB => exact HB.out.trans (HB3.out.mono hszr)); (case aS => have := HB3.out.size; omega); (case aL => have h1 := HLT.out; have h2 := HLN.out; omega); intro v6 w6 hown hb hg hat; have HOWN := Aside0.mk hown; have HB6 := Aside0.mk hb; clear hown hb hg hat)
        | go_values | go_guarded | go_step | go_upon | go_back)
      refine ⟨⟨i + 1, by simp, by omega, ⟨by rw [HST.out]; exact HOWN.out⟩, HB6⟩, by simp [intOf]; omega⟩
    · have hd1 : decide ((i : Int) < (xs.length : Int)) = false := decide_eq_false (by omega)
      have hix : i = xs.length := by omega
      subst hix
      have hl0 := blk_cell HL.out 0
      have hl1 := blk_cell HL.out 1
      have hl2 := blk_cell HL.out 2
      have hl3 := blk_cell HL.out 3
      repeat (first
        | (go_at_call 33; (with_reducible refine (slot_None.calls kn l0 l1 l2 l3 _ 0 _ HNN.out).mono ?_); rintro e4 w4 ⟨v4, rfl, hR4, hb4⟩; obtain ⟨A4, c4, rfl⟩ := Kd.R_slice hR4; simp only [List.length_replicate] at hR4 ⊢; have HR4 := Aside0.mk hR4; have HB4 := Aside0.mk hb4; clear hR4 hb4 hl0 hl1 hl2 hl3; (try dsimp only))
        | go_values | go_guarded | go_step | go_upon | go_back)
      have HV4 := Aside0.mk (Kd.R_below HV.out HB4.out)
      have hAp : ∀ k, (Value.slice A4 (8 + l1).toNat c4).ownBlock = some k → (Value.slice A7 (ofK l1 T xs xs.length).length c7).ownBlock ≠ some k := fun k hk he => by
        have h1 := Kd.R_base HR4.out k hk
        have h2 := Kd.R_lt HV.out k he
        omega
      have HN4 := Aside0.mk (Kd.R_lower (Kd.R_tight rfl HR4.out) (Nat.zero_le _))
      have HB4' := Aside0.mk (HB.out.trans (HB4.out.mono hszr))
      have HAP := Aside0.mk hAp
      clear hAp HR4 HV HB HBW HL hszr HB4
      have hm8 : ((8 + l1).toNat : Int) = 8 + l1 := by omega
      go_loopw [7] (fun v7 wr => ∃ j : Nat, xs.length ≤ j ∧ j ≤ many ∧ Aside0 (Kd.R (Kd.int .u8) 5 wr (w.heap.size + 2) (fun _ => True) v7 (ofK l1 T xs j)) ∧ Aside0 (Kd.R (Kd.int .u8) 5 wr 0 (fun k => some k = (Value.slice A4 (8 + l1).toNat c4).ownBlock) (.slice A4 (8 + l1).toNat c4) (List.replicate (8 + l1).toNat (0 : Int))) ∧ Aside0 (∀ k, (Value.slice A4 (8 + l1).toNat c4).ownBlock = some k → v7.ownBlock ≠ some k) ∧ Aside0 (Below (w.heap.size + 2) w2 wr)) (fun v7 _ => 1000 - sliceLen v7)
      case atStart => exact ⟨xs.length, Nat.le_refl _, hlen, HV4, HN4, HAP, HB4'⟩
      case round =>
        clear HV4 HN4 HAP HB4'
        obtain ⟨j, hj1, hj2, HV, HN4, HAP, HB⟩ := hrel
        obtain ⟨A7, c7, rfl⟩ := Kd.R_slice HV.out
        have hszr : w.heap.size + 2 ≤ wr.heap.size := by have := HB.out.size; omega
        have HLV := Aside0.mk ((HB.out.block w.heap.size (by omega)).trans HL2.out)
        have hl3 := blk_cell HLV.out 3
        have hlj := HEX.out j
        have hlj2 : j * (8 + l1).toNat ≤ 4 * 40 := Nat.mul_le_mul (by omega) (by omega)
        have c2 : ((many * (8 + l1).toNat : Nat) : Int) = (many : Int) * (8 + l1) := by rw [Int.natCast_mul, hm8]
        have HLJ := Aside0.mk (show (ofK l1 T xs j).length ≤ 200 by omega)
        by_cases hlt : j < many
        · have c1 : j * (8 + l1).toNat < many * (8 + l1).toNat := Nat.mul_lt_mul_of_pos_right hlt (by omega)
          have hd1 : decide (((ofK l1 T xs j).length : Int) + 64 < l3) = true := decide_eq_true (by rw [HL3.out, hlj]; omega)
          have hd2 : ((ofK l1 T xs j).length : Int) + 64 < l3 := of_decide_eq_true hd1
          have hstep : ofK l1 T xs (j + 1) = ofK l1 T xs j ++ List.replicate (8 + l1).toNat 0 := by simp only [ofK, List.getElem?_eq_none hj1]
          have hd3 : ((ofK l1 T xs j).length : Int) ≤ 200 := by have := HLJ.out; omega
          have HST := Aside0.mk hstep
          clear hstep c1 c2 hlj hlj2
          repeat (first
            | ((with_reducible refine gate_builtin (b := .append) (xs := #[.tmp 48, .tmp 49]) rfl ?_); at_builtin; refine Kd.R_append_rows (Kd.int .u8) (w0 := w2) (w.heap.size + 2) rfl (.tmp 48) (.tmp 49) 43 5 (.int .u8 0) 1 rfl Try.underlying43 info5B rfl (by decide) (by omega) (.slice A7 (ofK l1 T xs j).length c7) (ofK l1 T xs j) (List.replicate (8 + l1).toNat (0 : Int)) A4 (8 + l1).toNat c4 (fun _ => True) (fun _ => False) rfl rfl ?aO ?aR (fun _ _ h => h) (fun _ h => h.elim) ?aF ?aB ?aS ?aL ?_; (case aO => exact HV.out); (case aR => have h := (Kd.R_reads' HN4.out).2.2; rw [List.length_replicate] at h; exact h); (case aF => exact (fun _ _ => trivial)); (case aB => exact HB.out); (case aS => omega); (case aL => have h2 := HLJ.out; omega); intro v6 w6 hown hb hg hat; obtain ⟨A6, c6, rfl⟩ := Kd.R_slice hown; have HOWN := Aside0.mk hown; have HB6 := Aside0.mk hb; have HG6 := Aside0.mk hg; have HAT := Aside0.mk hat; clear hown hb hg hat)
            | go_values | go_guarded | go_step | go_upon | go_back)
          have hap2 : ∀ k, (Value.slice A4 (8 + l1).toNat c4).ownBlock = some k → (Value.slice A6 (ofK l1 T xs j ++ List.replicate (8 + l1).toNat 0).length c6).ownBlock ≠ some k := fun k hk he => by
            rcases HAT.out with h1 | ⟨b, h1, h2⟩
            · exact HAP.out k hk (h1 ▸ he)
            · rw [h1] at he
              injection he with he
              have := Kd.R_lt HN4.out k hk
              omega
          have hn2 := Kd.R_grown HN4.out HG6.out (fun k hk he => HAP.out k hk.symm he.symm)
          refine ⟨⟨j + 1, by omega, by omega, ⟨?_⟩, ⟨hn2⟩, ⟨?_⟩, HB6⟩, ?_⟩
          · rw [HST.out]
            simpa using HOWN.out
          · simpa using hap2
          · have h2 := HLJ.out
            simp [sliceLen]
            omega
        · have hjm : j = many := by omega
          subst hjm
          have hd1 : decide (((ofK l1 T xs j).length : Int) + 64 < l3) = false := decide_eq_false (by rw [HL3.out, hlj]; omega)
          have hd2 : ¬ ((ofK l1 T xs j).length : Int) + 64 < l3 := of_decide_eq_false hd1
          have hd3 : ((ofK l1 T xs j).length : Int) ≤ 200 := by have := HLJ.out; omega
          clear c2 hlj hlj2
          go_wp2
          refine start_ (n := 9) (S := fun w' => Below (w.heap.size + 2) w2 w') (ds := [3, 6]) #[false, false, false, false, false, false, false, false, false] (by kernel_rfl) rfl rfl (below_drew HB.out) (fun hHeld => ?_)
          refine pure_ (i := 0) (N := (some 51)) (v := ?_) (a' := ?_) #[true, false, false, false, false, false, false, false, false] rfl rfl (by kernel_rfl) (fun _ _ _ h => h) (Or.inl ⟨by rfl, ?_⟩) ?_ ?_
          rotate_left
          · intro w'
            go_simp
            with_reducible rfl
          rotate_left
          · simp only [Act.put, List.setIfInBounds_toArray, List.set_cons_zero, List.set_cons_succ, i64_w, i32_w]
            rfl
          refine pure_ (i := 1) (N := (some 52)) (v := ?_) (a' := ?_) #[true, true, false, false, false, false, false, false, false] rfl rfl (by kernel_rfl) (fun _ _ _ h => h) (Or.inl ⟨by rfl, ?_⟩) ?_ ?_
          rotate_left
          · intro w'
            go_simp
            with_reducible rfl
          rotate_left
          · simp only [Act.put, List.setIfInBounds_toArray, List.set_cons_zero, List.set_cons_succ, i64_w, i32_w]
            rfl
          refine pure_ (i := 2) (N := (some 53)) (v := ?_) (a' := ?_) #[true, true, true, false, false, false, false, false, false] rfl rfl (by kernel_rfl) (fun _ _ _ h => h) (Or.inl ⟨by rfl, ?_⟩) ?_ ?_
          rotate_left
          · intro w'
            go_simp
            with_reducible rfl
          rotate_left
          · simp only [Act.put, List.setIfInBounds_toArray, List.set_cons_zero, List.set_cons_succ, i64_w, i32_w]
            rfl
          refine pure_ (i := 4) (N := (some 55)) (v := ?_) (a' := ?_) #[true, true, true, false, true, false, false, false, false] rfl rfl (by kernel_rfl) (fun _ _ _ h => h) (Or.inl ⟨by rfl, ?_⟩) ?_ ?_
          rotate_left
          · intro w'
            go_simp
            with_reducible rfl
          rotate_left
          · simp only [Act.put, List.setIfInBounds_toArray, List.set_cons_zero, List.set_cons_succ, i64_w, i32_w]
            rfl
          refine pure_ (i := 5) (N := (some 56)) (v := ?_) (a' := ?_) #[true, true, true, false, true, true, false, false, false] rfl rfl (by kernel_rfl) (fun _ _ _ h => h) (Or.inl ⟨by rfl, ?_⟩) ?_ ?_
          rotate_left
          · intro w'
            go_simp
            with_reducible rfl
          rotate_left
          · simp only [Act.put, List.setIfInBounds_toArray, List.set_cons_zero, List.set_cons_succ, i64_w, i32_w]
            rfl
          refine last_ (i := 3) (N := (some 54)) #[true, true, true, true, true, true, false, false, false] rfl rfl (by kernel_rfl) (by decide) (fun K hK => ?_)
          refine Kd.R_append_rows_step (Kd.int .u8) (w0 := w2) (w.heap.size + 2) rfl (.tmp 51) (.tmp 53) 43 5 (.int .u8 0) 1 rfl Try.underlying43 info5B rfl (by decide) (by omega) (.slice A7 (ofK l1 T xs j).length c7) (ofK l1 T xs j) L (some ⟨w.heap.size + 1, 1, none⟩) 32 32 (fun _ => True) (fun _ => False) rfl rfl ?aO ?aR (fun _ _ h => h) (fun _ h => h.elim) ?aF ?aB ?aS ?aL ?_
          case aO => exact HV.out
          case aR => exact C_dig (pre := [.slice A xs.length c]) (tail := R.map (Value.int .u8)) hL ((HB.out.block _ (by omega)).trans HK2.out) rfl
          case aF => exact (fun _ _ => trivial)
          case aB => exact below_drew HB.out
          case aS => show w.heap.size + 2 ≤ wr.heap.size; omega
          case aL => simp; omega
          intro v8 w8 hown hb hg hat
          have HOWN := Aside0.mk hown
          have HB8 := Aside0.mk hb
          clear hown hb hg hat
          refine hK.out _ _ ?_
          clear hK K
          refine norm_ (a' := ?_) ?_ ?_
          rotate_left
          · show Act.put _ (some 54) _ = _
            simp only [Act.put, List.setIfInBounds_toArray, List.set_cons_zero, List.set_cons_succ, i64_w, i32_w]
            rfl
          refine last_ (i := 6) (N := (some 57)) #[true, true, true, true, true, true, true, false, false] rfl rfl (by kernel_rfl) (by decide) (fun K hK => ?_)
          refine Kd.R_append_rows_step (Kd.int .u8) (w0 := w2) (w.heap.size + 2) rfl (.tmp 54) (.tmp 56) 43 5 (.int .u8 0) 1 rfl Try.underlying43 info5B rfl (by decide) (by omega) v8 (ofK l1 T xs j ++ L) R (some ⟨w.heap.size + 1, 33, none⟩) 32 32 (fun _ => True) (fun _ => False) rfl rfl ?aO ?aR (fun _ _ h => h) (fun _ h => h.elim) ?aF ?aB ?aS ?aL ?_
          case aO => exact HOWN.out
          case aR => exact C_dig hR (bk_right ((HB8.out.block _ (by omega)).trans HK2.out)) (by simp [hL])
          case aF => exact (fun _ _ => trivial)
          case aB => exact HB8.out
          case aS => have := HB8.out.size; omega
          case aL => simp; omega
          intro v9 w9 hown hb hg hat
          have HOWN9 := Aside0.mk hown
          have HB9 := Aside0.mk hb
          clear hown hb hg hat
          refine hK.out _ _ ?_
          clear hK K
          refine norm_ (a' := ?_) ?_ ?_
          rotate_left
          · show Act.put _ (some 57) _ = _
            simp only [Act.put, List.setIfInBounds_toArray, List.set_cons_zero, List.set_cons_succ, i64_w, i32_w]
            rfl
          refine pure_ (i := 7) (N := (some 4)) (v := ?_) (a' := ?_) #[true, true, true, true, true, true, true, true, false] rfl rfl (by kernel_rfl) (fun _ _ _ h => h) (Or.inl ⟨by rfl, ?_⟩) ?_ ?_
          rotate_left
          · intro w'
            go_simp
            with_reducible rfl
          rotate_left
          · simp only [Act.put, List.setIfInBounds_toArray, List.set_cons_zero, List.set_cons_succ, i64_w, i32_w]
            rfl
          refine pure_ (i := 8) (N := (some 5)) (v := ?_) (a' := ?_) #[true, true, true, true, true, true, true, true, true] rfl rfl (by kernel_rfl) (fun _ _ _ h => h) (Or.inl ⟨by rfl, ?_⟩) ?_ ?_
          rotate_left
          · intro w'
            go_simp
            with_reducible rfl
          rotate_left
          · simp only [Act.put, List.setIfInBounds_toArray, List.set_cons_zero, List.set_cons_succ, i64_w, i32_w]
            rfl
          refine done_ (by kernel_rfl) ?_
          go_wp2
          go_ret2
          exact ⟨v9, rfl, Kd.R_lower HOWN9.out (Nat.le_add_right _ 2), HB2.out.trans (HB9.out.mono (Nat.le_add_right _ 2))⟩

set_option maxHeartbeats 8000000 in
set_option maxRecDepth 100000 in
theorem wrtBk_bad (l0 l1 l2 l3 : Int) (A : Option Addr) (c : Nat) (xs : List S62) (L R : List Int) (e : Int) (w : World) (hL : L.length = 32) (hR : R.length = 32) (hr : Kd.C k62 w A xs.length xs) (hn : xs.length ≤ 1000) (hwf : ∀ x ∈ xs, (Lit.int .i64 x.f0).wf = true) (he : bckS l0 l1 l2 l3 xs = e) (hn0 : e ≠ 0) :
    Calls Try.prog 18 #[.agg #[.int .i64 l0, .int .i64 l1, .int .i64 l2, .int .i64 l3], .agg ⟨bkC A xs.length c L R⟩] w fun r w' => r = .returned (.tuple #[.slice none 0 0, .int .i64 e]) ∧ Below w.heap.size w w' := by
  have HR := Aside0.mk hr
  have HWF := Aside0.mk hwf
  have H0 := Aside0.mk he
  have hu23 := Try.underlying23
  have hu38 := Try.underlying38
  have hd0 : decide (e = 0) = false := decide_eq_false hn0
  have HB0 := Aside0.mk (below_alloc (below_alloc (Below.refl w.heap.size w) (.cells #[.int .i64 l0, .int .i64 l1, .int .i64 l2, .int .i64 l3] 23)) (.cells ⟨bkC A xs.length c L R⟩ 40))
  have HL0 := Aside0.mk (blk_alloc (heap_alloc_new w (.cells #[.int .i64 l0, .int .i64 l1, .int .i64 l2, .int .i64 l3] 23)) (.cells ⟨bkC A xs.length c L R⟩ 40))
  have hbk0 := heap_alloc_new (w.alloc (.cells #[.int .i64 l0, .int .i64 l1, .int .i64 l2, .int .i64 l3] 23)) (.cells ⟨bkC A xs.length c L R⟩ 40)
  rw [World.size_alloc] at hbk0
  have HK0 := Aside0.mk hbk0
  clear hr hwf he hbk0
  go_enter Try.func18, Try.ntmps18
  repeat (first
    | ((with_reducible refine wpList_whole_g 40 (.tmp 3) (w.heap.size + 1) 40 (bkC A xs.length c L R) _ ?hw rfl ?hx ?hg Try.underlying40 ?hd ?hi ?_); (case hg => exact HK0.out); (case hw => rfl); (case hx => rfl); (case hd => rfl); (case hi => rw [bkC_length hL hR]; exact info40))
    | (go_at_call 22; (with_reducible refine (bcheck_calls (H := Unit) l0 l1 l2 l3 A c xs L R _ (Kd.C_below HR.out HB0.out) hn HWF.out).mono ?_); rintro e2 w2 ⟨rfl, hb2⟩; rw [H0.out]; have HB2 := Aside0.mk (bl HB0.out hb2); clear hb2; (try dsimp only))
    | go_values | go_guarded | go_step | go_upon | go_back)
  go_ret2
  exact ⟨rfl, HB2.out⟩
end Go.Proofs.Ytknmokpnkcckeaa
