/-
ref10.May: may a bucket be (the document's).
-/
import Derived.Test.YtknmokpnkcckeaaBkRef
import Derived.Test.YtknmokpnkcckeaaPAll14
import Derived.Test.YtknmokpnkcckeaaBkTwinP
import Derived.Test.YtknmokpnkcckeaaPAll38
namespace Go.Proofs.Ytknmokpnkcckeaa
open Go.RowKit Go.Proofs.YtknmokpnkcckeaaW.PrintWords Go.Proofs.YtknmokpnkcckeaaW.PrintLast Go.Proofs.YtknmokpnkcckeaaW.PrintMore Go.Proofs.Ytknmokpnkcckeaa.PAll
set_option linter.unusedVariables false
set_option linter.unusedSimpArgs false

theorem infoLB : (Try.prog.info? 23).map (·.size) = some 4 := by kernel_rfl
theorem exec_loadB {P : Program} {o : Oper} {a : Act} {w : World} {ty : TypeId} {x : Operand} {b u : Nat} {cs : Array Value} {d : TypeDesc} (ho : o.op = .load ty x) (hx : a.eval x = .pointer (some ⟨b, 0, none⟩)) (hg : w.heap[b]? = some (.cells cs u (0, 0))) (hu : P.underlying ty = some d) (hd : d.isRow = true) (hi : (P.info? ty).map (·.size) = some cs.size) :
    (execOp a.eval o).run P w = .ok (.value (.agg cs)) w := by
  have hl := load_whole hg hu hd hi
  unfold execOp
  simp only [ho, hx, Sem.run_bind, hl, Result.andThen_ok, Sem.run_pure]
/-- The numbers met ahead of a place. -/
def seenB (xs : List S62) (i : Nat) : List Int := ((xs.take i).map (·.f0)).reverse
theorem seenB_succ {xs : List S62} {i : Nat} (h : i < xs.length) : seenB xs (i + 1) = (xs[i]).f0 :: seenB xs i := by
  unfold seenB
  rw [List.take_succ_eq_append_getElem h, List.map_append, List.reverse_append]
  rfl
theorem seenB_mem {xs : List S62} {i : Nat} {f : Int} : (seenB xs i).contains f = true ↔ ∃ k x, k < i ∧ xs[k]? = some x ∧ x.f0 = f := by
  unfold seenB
  simp only [List.contains_iff_mem, List.mem_reverse, List.mem_map]
  constructor
  · rintro ⟨x, hx, rfl⟩
    obtain ⟨k, hk, he⟩ := List.getElem_of_mem hx
    have hk1 : k < min i xs.length := by simpa using hk
    have hk2 : k < i ∧ k < xs.length := by omega
    exact ⟨k, x, hk2.1, by rw [← he, List.getElem_take]; exact List.getElem?_eq_getElem hk2.2, rfl⟩
  · rintro ⟨k, x, hk, hx, rfl⟩
    obtain ⟨hlt, he⟩ := List.getElem?_eq_some_iff.1 hx
    refine ⟨x, ?_, rfl⟩
    rw [List.mem_take_iff_getElem]
    exact ⟨k, by omega, he⟩

set_option maxHeartbeats 8000000 in
set_option maxRecDepth 100000 in
theorem refMayB_calls (l0 l1 l2 l3 many : Int) (A : Option Addr) (c : Nat) (xs : List S62) (L R : List Int) (w : World) (hL : L.length = 32) (hR : R.length = 32) (hr : Kd.C k62 w A xs.length xs) (hn : xs.length ≤ 1000) (hh : isHigh l2 = true) (hm : ref09_Many.f 20 l0 l1 l2 l3 = some many) :
    Calls Try.prog 47 #[.agg #[.int .i64 l0, .int .i64 l1, .int .i64 l2, .int .i64 l3], .agg ⟨bkC A xs.length c L R⟩] w fun e w' => e = .returned (.bool (decide ((xs.length : Int) ≤ many) && okB l0 l1 l2 [] xs)) ∧ Below w.heap.size w w' := by
  have HR := Aside0.mk hr
  have HM := Aside0.mk hm
  have HH := Aside0.mk hh
  have hu23 := Try.underlying23
  have hu62 := Try.underlying62
  have hn3 : (xs.length : Int) ≤ 1000 := by omega
  clear hr hm hh
  go_enter Try.func47, Try.ntmps47
  go_wp2
  obtain ⟨w0, hw0⟩ : ∃ W, (w.alloc (.cells #[.int .i64 l0, .int .i64 l1, .int .i64 l2, .int .i64 l3] 23)).alloc (.cells ⟨bkC A xs.length c L R⟩ 40) = W := ⟨_, rfl⟩
  rw [hw0]
  have hb0 : Below w.heap.size w w0 := hw0 ▸ below_alloc (below_alloc (Below.refl _ _) _) _
  have hl0 : w0.heap[w.heap.size]? = some (.cells #[.int .i64 l0, .int .i64 l1, .int .i64 l2, .int .i64 l3] 23 (0, 0)) := hw0 ▸ blk_alloc (heap_alloc_new w _) _
  have hk0 : w0.heap[w.heap.size + 1]? = some (.cells ⟨bkC A xs.length c L R⟩ 40 (0, 0)) := by
    rw [← hw0]
    have := heap_alloc_new (w.alloc (.cells #[.int .i64 l0, .int .i64 l1, .int .i64 l2, .int .i64 l3] 23)) (.cells ⟨bkC A xs.length c L R⟩ 40)
    rwa [World.size_alloc] at this
  have HB0 := Aside0.mk hb0
  have HL0 := Aside0.mk hl0
  have HK0 := Aside0.mk hk0
  have HLV : Aside0 (∀ w', Below w0.heap.size w0 w' → w'.heap[w.heap.size]? = some (.cells #[.int .i64 l0, .int .i64 l1, .int .i64 l2, .int .i64 l3] 23 (0, 0))) := ⟨fun w' hb => blk_below hl0 hb⟩
  have HBX : Aside0 (∀ w', Below w0.heap.size w0 w' → w'.heap[w.heap.size + 1]? = some (.cells ⟨bkC A xs.length c L R⟩ 40 (0, 0))) := ⟨fun w' hb => blk_below hk0 hb⟩
  clear hb0 hl0 hk0 hw0
  refine start_ (n := 6) (S := fun w' => Below w0.heap.size w0 w') (ds := []) #[false, false, false, false, false, false] (by kernel_rfl) rfl rfl (below_drew (Below.refl _ _)) (fun hHeld => ?_)
  refine pure_ (i := 0) (N := (some 7)) (v := ?_) (a' := ?_) #[true, false, false, false, false, false] rfl rfl (by kernel_rfl) (fun _ _ _ h => h) (Or.inl ⟨by rfl, ?_⟩) ?_ ?_
  rotate_left
  · intro w'
    go_simp
    with_reducible rfl
  rotate_left
  · simp only [Act.put, List.setIfInBounds_toArray, List.set_cons_zero, List.set_cons_succ, i64_w, i32_w]
    rfl
  refine take_ (i := 1) (N := (some 8)) (v := ?_) (a' := ?_) #[true, true, false, false, false, false] rfl rfl (by kernel_rfl) (fun _ _ _ h => h) (Or.inl ⟨by rfl, ?_⟩) hHeld ?_ ?_
  rotate_left
  · rintro w' z0
    have hc := bk_cell0 (HBX.out _ z0)
    go_simp
    with_reducible rfl
  rotate_left
  · simp only [Act.put, List.setIfInBounds_toArray, List.set_cons_zero, List.set_cons_succ, i64_w, i32_w]
    rfl
  refine pure_ (i := 2) (N := (some 9)) (v := ?_) (a' := ?_) #[true, true, true, false, false, false] rfl rfl (by kernel_rfl) (fun _ _ _ h => h) (Or.inl ⟨by rfl, ?_⟩) ?_ ?_
  rotate_left
  · intro w'
    go_simp
    with_reducible rfl
  rotate_left
  · simp only [Act.put, List.setIfInBounds_toArray, List.set_cons_zero, List.set_cons_succ, i64_w, i32_w]
    rfl
  refine take_ (i := 3) (N := (some 10)) (v := ?_) (a' := ?_) #[true, true, true, true, false, false] rfl rfl (by kernel_rfl) (fun _ _ _ h => h) (Or.inl ⟨by rfl, ?_⟩) hHeld ?_ ?_
  rotate_left
  · rintro w' z0
    have hc := HLV.out _ z0
    refine exec_loadB (ty := 23) (x := .tmp 2) ?_ ?_ hc Try.underlying23 rfl infoLB
    · rfl
    · rfl
  rotate_left
  · simp only [Act.put, List.setIfInBounds_toArray, List.set_cons_zero, List.set_cons_succ, i64_w, i32_w]
    rfl
  refine one_ (i := 4) (N := (some 11)) #[true, true, true, true, true, false] rfl rfl (by kernel_rfl) (by decide) (fun K hK => ?_)
  refine goes_ Try.func46 (by kernel_rfl) rfl #[.agg #[.int .i64 l0, .int .i64 l1, .int .i64 l2, .int .i64 l3]] (by rfl) rfl rfl (by (try simp only [List.map_toArray, List.map_cons, List.map_nil]); first | done | rfl) ?_
  refine (ref09_Many.calls 20 l0 l1 l2 l3 many _ HM.out).mono ?_
  rintro e w2 ⟨rfl, hb⟩
  have hS := hHeld.trans (hb.mono hHeld.size)
  clear hb
  refine ⟨_, rfl, ?_⟩
  refine hK.out _ _ hS (fun hHeld => ?_)
  clear hK K
  refine norm_ (a' := ?_) ?_ ?_
  rotate_left
  · show Act.put _ (some 11) _ = _
    simp only [Act.put, List.setIfInBounds_toArray, List.set_cons_zero, List.set_cons_succ, i64_w, i32_w]
    rfl
  refine pure_ (i := 5) (N := (some 12)) (v := ?_) (a' := ?_) #[true, true, true, true, true, true] rfl rfl (by kernel_rfl) (fun _ _ _ h => h) (Or.inl ⟨by rfl, ?_⟩) ?_ ?_
  rotate_left
  · intro w'
    go_simp
    with_reducible rfl
  rotate_left
  · simp only [Act.put, List.setIfInBounds_toArray, List.set_cons_zero, List.set_cons_succ, i64_w, i32_w]
    rfl
  refine done_ (by kernel_rfl) ?_
  have HW2 := Aside0.mk hHeld
  have HB2 := Aside0.mk (bl HB0.out hHeld)
  have HL2 := Aside0.mk (HLV.out _ hHeld)
  have HK2 := Aside0.mk (HBX.out _ hHeld)
  clear hHeld HLV HBX
  by_cases hm : (xs.length : Int) ≤ many
  · have hd0 : decide (many < (xs.length : Int)) = false := decide_eq_false (by omega)
    have HMM := Aside0.mk (decide_eq_true hm)
    go_wp2
    clear hd0
    go_loopw [5] (fun v5 wr => ∃ i : Nat, v5 = .int .i64 i ∧ i ≤ xs.length ∧ Aside0 (okB l0 l1 l2 [] xs = okB l0 l1 l2 (seenB xs i) (xs.drop i)) ∧ Aside0 (wr.heap[w.heap.size]? = some (.cells #[.int .i64 l0, .int .i64 l1, .int .i64 l2, .int .i64 l3] 23 (0, 0))) ∧ Aside0 (wr.heap[w.heap.size + 1]? = some (.cells ⟨bkC A xs.length c L R⟩ 40 (0, 0))) ∧ Aside0 (Below w.heap.size w wr)) (fun v5 _ => xs.length - (intOf v5).toNat)
    case atStart => exact ⟨0, rfl, Nat.zero_le _, ⟨by rw [List.drop_zero]; rfl⟩, HL2, HK2, HB2⟩
    case round =>
      clear HL2 HK2 HB2 HW2 HB0 HL0 HK0
      obtain ⟨i, rfl, hi, HE, HL, HK, HB⟩ := hrel
      have hk := bk_cell0 HK.out
      by_cases hlt : i < xs.length
      · have hd1 : decide ((i : Int) < (xs.length : Int)) = true := decide_eq_true (by omega)
        have hlt2 : (i : Int) < (xs.length : Int) := by omega
        have hget : xs[i]? = some xs[i] := List.getElem?_eq_getElem hlt
        have he := HE.out
        have hsu := seenB_succ hlt
        rw [List.drop_eq_getElem_cons hlt, okB] at he
        have HGT := Aside0.mk hget
        generalize xs[i] = x at hget he hsu HGT
        have HR' := HR
        obtain ⟨ad, A2, c2, rfl, hx0, hx1, hx2, hc2, hCx⟩ := at62 HR'.out hget
        obtain ⟨f0, f1, f2⟩ := x
        dsimp only at hx0 hx1 hx2 hCx hc2 he hsu
        have HX0 := Aside0.mk (cell_belowK HB.out hx0)
        have HX1 := Aside0.mk (cell_belowK HB.out hx1)
        have HX2 := Aside0.mk (cell_belowK HB.out hx2)
        have HLV : Aside0 (∀ w', Below wr.heap.size wr w' → w'.heap[w.heap.size]? = some (.cells #[.int .i64 l0, .int .i64 l1, .int .i64 l2, .int .i64 l3] 23 (0, 0))) := ⟨fun w' hb => blk_below HL.out hb⟩
        have HBX : Aside0 (∀ w', Below wr.heap.size wr w' → w'.heap[w.heap.size + 1]? = some (.cells ⟨bkC (some ad) xs.length c L R⟩ 40 (0, 0))) := ⟨fun w' hb => blk_below HK.out hb⟩
        have HBC : Aside0 (∀ w', Below wr.heap.size wr w' → w'.cell? (ad.add (i * 3)) = some (.int .i64 f0) ∧ w'.cell? ⟨(ad.add (i * 3)).block, (ad.add (i * 3)).off + 1, none⟩ = some (.int .i64 f1) ∧ w'.cell? ⟨(ad.add (i * 3)).block, (ad.add (i * 3)).off + 2, none⟩ = some (.slice A2 f2.length c2)) := ⟨fun w' hb => ⟨cell_belowK hb HX0.out, cell_belowK hb HX1.out, cell_belowK hb HX2.out⟩⟩
        have HDT : Aside0 (∀ w', Below wr.heap.size wr w' → Kd.C (Kd.int .u8) w' A2 f2.length f2) := ⟨fun w' hb => Kd.C_below (Kd.C_below hCx HB.out) hb⟩
        have HDC := Aside0.mk hc2
        have hmay := refMay_eq (a0 := l0) (a1 := l1) (a2 := l2) (a3 := l3) (id := f0) (leaf := f1) f2 HH.out
        have HEE := Aside0.mk he
        have HSU := Aside0.mk hsu
        clear hget hx0 hx1 hx2 hCx hc2 he hsu
        by_cases hms : mayS l0 l1 l2 f0 f1 f2.length
        · rw [decide_eq_true hms] at hmay HEE
          have HMY := Aside0.mk hmay
          clear hmay hms
          go_wp2
          refine start_ (n := 8) (S := fun w' => Below wr.heap.size wr w') (ds := []) #[false, false, false, false, false, false, false, false] (by kernel_rfl) rfl rfl (below_drew (Below.refl _ _)) (fun hHeld => ?_)
          refine take_ (i := 0) (N := (some 20)) (v := ?_) (a' := ?_) #[true, false, false, false, false, false, false, false] rfl rfl (by kernel_rfl) (fun _ _ _ h => h) (Or.inl ⟨by rfl, ?_⟩) hHeld ?_ ?_
          rotate_left
          · rintro w' z0
            have hc := HLV.out _ z0
            refine exec_loadB (ty := 23) (x := .tmp 2) ?_ ?_ hc Try.underlying23 rfl infoLB
            · rfl
            · rfl
          rotate_left
          · simp only [Act.put, List.setIfInBounds_toArray, List.set_cons_zero, List.set_cons_succ, i64_w, i32_w]
            rfl
          refine pure_ (i := 1) (N := (some 21)) (v := ?_) (a' := ?_) #[true, true, false, false, false, false, false, false] rfl rfl (by kernel_rfl) (fun _ _ _ h => h) (Or.inl ⟨by rfl, ?_⟩) ?_ ?_
          rotate_left
          · intro w'
            go_simp
            with_reducible rfl
          rotate_left
          · simp only [Act.put, List.setIfInBounds_toArray, List.set_cons_zero, List.set_cons_succ, i64_w, i32_w]
            rfl
          refine take_ (i := 2) (N := (some 22)) (v := ?_) (a' := ?_) #[true, true, true, false, false, false, false, false] rfl rfl (by kernel_rfl) (fun _ _ _ h => h) (Or.inl ⟨by rfl, ?_⟩) hHeld ?_ ?_
          rotate_left
          · rintro w' z0
            have hc := bk_cell0 (HBX.out _ z0)
            go_simp
            with_reducible rfl
          rotate_left
          · simp only [Act.put, List.setIfInBounds_toArray, List.set_cons_zero, List.set_cons_succ, i64_w, i32_w]
            rfl
          refine pure_ (i := 3) (N := (some 23)) (v := ?_) (a' := ?_) #[true, true, true, true, false, false, false, false] rfl rfl (by kernel_rfl) (fun _ _ _ h => h) (Or.inl ⟨by rfl, ?_⟩) ?_ ?_
          rotate_left
          · intro w'
            go_simp
            with_reducible rfl
          rotate_left
          · simp only [Act.put, List.setIfInBounds_toArray, List.set_cons_zero, List.set_cons_succ, i64_w, i32_w]
            rfl
          refine pure_ (i := 4) (N := (some 24)) (v := ?_) (a' := ?_) #[true, true, true, true, true, false, false, false] rfl rfl (by kernel_rfl) (fun _ _ _ h => h) (Or.inl ⟨by rfl, ?_⟩) ?_ ?_
          rotate_left
          · intro w'
            go_simp
            with_reducible rfl
          rotate_left
          · simp only [Act.put, List.setIfInBounds_toArray, List.set_cons_zero, List.set_cons_succ, i64_w, i32_w]
            rfl
          refine take_ (i := 5) (N := (some 25)) (v := ?_) (a' := ?_) #[true, true, true, true, true, true, false, false] rfl rfl (by kernel_rfl) (fun _ _ _ h => h) (Or.inl ⟨by rfl, ?_⟩) hHeld ?_ ?_
          rotate_left
          · rintro w' z0
            obtain ⟨hc0, hc1, hc2⟩ := HBC.out _ z0
            go_simp
            with_reducible rfl
          rotate_left
          · simp only [Act.put, List.setIfInBounds_toArray, List.set_cons_zero, List.set_cons_succ, i64_w, i32_w]
            rfl
          refine one_ (i := 6) (N := (some 26)) #[true, true, true, true, true, true, true, false] rfl rfl (by kernel_rfl) (by decide) (fun K hK => ?_)
          refine goes_ Try.func70 (by kernel_rfl) rfl #[.agg #[.int .i64 l0, .int .i64 l1, .int .i64 l2, .int .i64 l3], .agg #[.int .i64 f0, .int .i64 f1, .slice A2 f2.length c2]] (by rfl) rfl rfl (by (try simp only [List.map_toArray, List.map_cons, List.map_nil]); first | done | rfl) ?_
          refine (ref09_May.calls 20 l0 l1 l2 l3 f0 f1 A2 c2 f2 true _ (HDT.out _ hHeld) HDC.out HMY.out).mono ?_
          rintro e w5 ⟨rfl, hb⟩
          have hS := hHeld.trans (hb.mono hHeld.size)
          clear hb
          refine ⟨_, rfl, ?_⟩
          refine hK.out _ _ hS (fun hHeld => ?_)
          clear hK K
          refine norm_ (a' := ?_) ?_ ?_
          rotate_left
          · show Act.put _ (some 26) _ = _
            simp only [Act.put, List.setIfInBounds_toArray, List.set_cons_zero, List.set_cons_succ, i64_w, i32_w]
            rfl
          refine pure_ (i := 7) (N := (some 27)) (v := ?_) (a' := ?_) #[true, true, true, true, true, true, true, true] rfl rfl (by kernel_rfl) (fun _ _ _ h => h) (Or.inl ⟨by rfl, ?_⟩) ?_ ?_
          rotate_left
          · intro w'
            go_simp
            with_reducible rfl
          rotate_left
          · simp only [Act.put, List.setIfInBounds_toArray, List.set_cons_zero, List.set_cons_succ, i64_w, i32_w]
            rfl
          refine done_ (by kernel_rfl) ?_
          have HW5 := Aside0.mk hHeld
          clear hHeld
          go_wp2
          obtain ⟨wo, hwo⟩ : ∃ wo, wo = wr := ⟨_, rfl⟩
          subst hwo
          clear hk
          go_loopw [6] (fun v6 wr => ∃ j : Nat, v6 = .int .i64 j ∧ j ≤ i ∧ Aside0 (∀ k x, k < j → xs[k]? = some x → x.f0 ≠ f0) ∧ Aside0 (Below wo.heap.size wo wr)) (fun v6 _ => i - (intOf v6).toNat)
          case atStart => exact ⟨0, rfl, Nat.zero_le _, ⟨fun k x h => absurd h (Nat.not_lt_zero _)⟩, HW5⟩
          case round =>
            clear HW5
            obtain ⟨j, rfl, hj, HNE, HBI⟩ := hrel
            by_cases hlj : j < i
            · have hd3 : decide ((j : Int) < (i : Int)) = true := decide_eq_true (by omega)
              have hlj2 : (j : Int) < (i : Int) := by omega
              have hlj3 : (j : Int) < (xs.length : Int) := by omega
              have hgj : xs[j]? = some xs[j] := List.getElem?_eq_getElem (by omega)
              have HGJ := Aside0.mk hgj
              generalize xs[j] = x at hgj HGJ
              obtain ⟨ad2, B2, d2, he2, hy0, _, _, _, _⟩ := at62 HR.out hgj
              injection he2 with he2
              subst he2
              obtain ⟨g0, g1, g2⟩ := x
              dsimp only at hy0
              have HY0 := Aside0.mk (cell_belowK HBI.out (cell_belowK HB.out hy0))
              have HZ0 := Aside0.mk (cell_belowK HBI.out HX0.out)
              have HBXO := HBX
              have HBX : Aside0 (∀ w', Below wr.heap.size wr w' → w'.heap[w.heap.size + 1]? = some (.cells ⟨bkC (some ad) xs.length c L R⟩ 40 (0, 0))) := ⟨fun w' hb => HBXO.out w' (bl HBI.out hb)⟩
              have HCK : Aside0 (∀ w', Below wr.heap.size wr w' → w'.cell? (ad.add (j * 3)) = some (.int .i64 g0)) := ⟨fun w' hb => cell_belowK hb HY0.out⟩
              have HCI : Aside0 (∀ w', Below wr.heap.size wr w' → w'.cell? (ad.add (i * 3)) = some (.int .i64 f0)) := ⟨fun w' hb => cell_belowK hb HZ0.out⟩
              clear hgj hy0
              by_cases hq : g0 = f0
              · subst hq
                go_wp2
                refine start_ (n := 13) (S := fun w' => Below wr.heap.size wr w') (ds := []) #[false, false, false, false, false, false, false, false, false, false, false, false, false] (by kernel_rfl) rfl rfl (below_drew (Below.refl _ _)) (fun hHeld => ?_)
                refine pure_ (i := 0) (N := (some 33)) (v := ?_) (a' := ?_) #[true, false, false, false, false, false, false, false, false, false, false, false, false] rfl rfl (by kernel_rfl) (fun _ _ _ h => h) (Or.inl ⟨by rfl, ?_⟩) ?_ ?_
                rotate_left
                · intro w'
                  go_simp
                  with_reducible rfl
                rotate_left
                · simp only [Act.put, List.setIfInBounds_toArray, List.set_cons_zero, List.set_cons_succ, i64_w, i32_w]
                  rfl
                refine take_ (i := 1) (N := (some 34)) (v := ?_) (a' := ?_) #[true, true, false, false, false, false, false, false, false, false, false, false, false] rfl rfl (by kernel_rfl) (fun _ _ _ h => h) (Or.inl ⟨by rfl, ?_⟩) hHeld ?_ ?_
                rotate_left
                · rintro w' z0
                  have hc := bk_cell0 (HBX.out _ z0)
                  go_simp
                  with_reducible rfl
                rotate_left
                · simp only [Act.put, List.setIfInBounds_toArray, List.set_cons_zero, List.set_cons_succ, i64_w, i32_w]
                  rfl
                refine pure_ (i := 2) (N := (some 35)) (v := ?_) (a' := ?_) #[true, true, true, false, false, false, false, false, false, false, false, false, false] rfl rfl (by kernel_rfl) (fun _ _ _ h => h) (Or.inl ⟨by rfl, ?_⟩) ?_ ?_
                rotate_left
                · intro w'
                  go_simp
                  with_reducible rfl
                rotate_left
                · simp only [Act.put, List.setIfInBounds_toArray, List.set_cons_zero, List.set_cons_succ, i64_w, i32_w]
                  rfl
                refine pure_ (i := 3) (N := (some 36)) (v := ?_) (a' := ?_) #[true, true, true, true, false, false, false, false, false, false, false, false, false] rfl rfl (by kernel_rfl) (fun _ _ _ h => h) (Or.inl ⟨by rfl, ?_⟩) ?_ ?_
                rotate_left
                · intro w'
                  go_simp
                  with_reducible rfl
                rotate_left
                · simp only [Act.put, List.setIfInBounds_toArray, List.set_cons_zero, List.set_cons_succ, i64_w, i32_w]
                  rfl
                refine pure_ (i := 4) (N := (some 37)) (v := ?_) (a' := ?_) #[true, true, true, true, true, false, false, false, false, false, false, false, false] rfl rfl (by kernel_rfl) (fun _ _ _ h => h) (Or.inl ⟨by rfl, ?_⟩) ?_ ?_
                rotate_left
                · intro w'
                  go_simp
                  with_reducible rfl
                rotate_left
                · simp only [Act.put, List.setIfInBounds_toArray, List.set_cons_zero, List.set_cons_succ, i64_w, i32_w]
                  rfl
                refine take_ (i := 5) (N := (some 38)) (v := ?_) (a' := ?_) #[true, true, true, true, true, true, false, false, false, false, false, false, false] rfl rfl (by kernel_rfl) (fun _ _ _ h => h) (Or.inl ⟨by rfl, ?_⟩) hHeld ?_ ?_
                rotate_left
                · rintro w' z0
                  have hc := HCK.out _ z0
                  go_simp
                  with_reducible rfl
                rotate_left
                · simp only [Act.put, List.setIfInBounds_toArray, List.set_cons_zero, List.set_cons_succ, i64_w, i32_w]
                  rfl
                refine pure_ (i := 6) (N := (some 39)) (v := ?_) (a' := ?_) #[true, true, true, true, true, true, true, false, false, false, false, false, false] rfl rfl (by kernel_rfl) (fun _ _ _ h => h) (Or.inl ⟨by rfl, ?_⟩) ?_ ?_
                rotate_left
                · intro w'
                  go_simp
                  with_reducible rfl
                rotate_left
                · simp only [Act.put, List.setIfInBounds_toArray, List.set_cons_zero, List.set_cons_succ, i64_w, i32_w]
                  rfl
                refine take_ (i := 7) (N := (some 40)) (v := ?_) (a' := ?_) #[true, true, true, true, true, true, true, true, false, false, false, false, false] rfl rfl (by kernel_rfl) (fun _ _ _ h => h) (Or.inl ⟨by rfl, ?_⟩) hHeld ?_ ?_
                rotate_left
                · rintro w' z0
                  have hc := bk_cell0 (HBX.out _ z0)
                  go_simp
                  with_reducible rfl
                rotate_left
                · simp only [Act.put, List.setIfInBounds_toArray, List.set_cons_zero, List.set_cons_succ, i64_w, i32_w]
                  rfl
                refine pure_ (i := 8) (N := (some 41)) (v := ?_) (a' := ?_) #[true, true, true, true, true, true, true, true, true, false, false, false, false] rfl rfl (by kernel_rfl) (fun _ _ _ h => h) (Or.inl ⟨by rfl, ?_⟩) ?_ ?_
                rotate_left
                · intro w'
                  go_simp
                  with_reducible rfl
                rotate_left
                · simp only [Act.put, List.setIfInBounds_toArray, List.set_cons_zero, List.set_cons_succ, i64_w, i32_w]
                  rfl
                refine pure_ (i := 9) (N := (some 42)) (v := ?_) (a' := ?_) #[true, true, true, true, true, true, true, true, true, true, false, false, false] rfl rfl (by kernel_rfl) (fun _ _ _ h => h) (Or.inl ⟨by rfl, ?_⟩) ?_ ?_
                rotate_left
                · intro w'
                  go_simp
                  with_reducible rfl
                rotate_left
                · simp only [Act.put, List.setIfInBounds_toArray, List.set_cons_zero, List.set_cons_succ, i64_w, i32_w]
                  rfl
                refine pure_ (i := 10) (N := (some 43)) (v := ?_) (a' := ?_) #[true, true, true, true, true, true, true, true, true, true, true, false, false] rfl rfl (by kernel_rfl) (fun _ _ _ h => h) (Or.inl ⟨by rfl, ?_⟩) ?_ ?_
                rotate_left
                · intro w'
                  go_simp
                  with_reducible rfl
                rotate_left
                · simp only [Act.put, List.setIfInBounds_toArray, List.set_cons_zero, List.set_cons_succ, i64_w, i32_w]
                  rfl
                refine take_ (i := 11) (N := (some 44)) (v := ?_) (a' := ?_) #[true, true, true, true, true, true, true, true, true, true, true, true, false] rfl rfl (by kernel_rfl) (fun _ _ _ h => h) (Or.inl ⟨by rfl, ?_⟩) hHeld ?_ ?_
                rotate_left
                · rintro w' z0
                  have hc := HCI.out _ z0
                  go_simp
                  with_reducible rfl
                rotate_left
                · simp only [Act.put, List.setIfInBounds_toArray, List.set_cons_zero, List.set_cons_succ, i64_w, i32_w]
                  rfl
                refine pure_ (i := 12) (N := (some 45)) (v := ?_) (a' := ?_) #[true, true, true, true, true, true, true, true, true, true, true, true, true] rfl rfl (by kernel_rfl) (fun _ _ _ h => h) (Or.inl ⟨by rfl, ?_⟩) ?_ ?_
                rotate_left
                · intro w'
                  go_simp
                  with_reducible rfl
                rotate_left
                · simp only [Act.put, List.setIfInBounds_toArray, List.set_cons_zero, List.set_cons_succ, i64_w, i32_w]
                  rfl
                refine done_ (by kernel_rfl) ?_
                have HWI := Aside0.mk hHeld
                clear hHeld
                go_wp2
                go_ret
                have hcon : (seenB xs i).contains _ = true := seenB_mem.2 ⟨j, _, hlj, HGJ.out, rfl⟩
                exact ⟨by rw [HEE.out, hcon, Bool.not_true, Bool.false_and, Bool.false_and, Bool.and_false]; rfl, bl HB.out (bl HBI.out HWI.out)⟩
              · have hd4 : decide (g0 = f0) = false := decide_eq_false hq
                have HQ := Aside0.mk hq
                go_wp2
                refine start_ (n := 13) (S := fun w' => Below wr.heap.size wr w') (ds := []) #[false, false, false, false, false, false, false, false, false, false, false, false, false] (by kernel_rfl) rfl rfl (below_drew (Below.refl _ _)) (fun hHeld => ?_)
                refine pure_ (i := 0) (N := (some 33)) (v := ?_) (a' := ?_) #[true, false, false, false, false, false, false, false, false, false, false, false, false] rfl rfl (by kernel_rfl) (fun _ _ _ h => h) (Or.inl ⟨by rfl, ?_⟩) ?_ ?_
                rotate_left
                · intro w'
                  go_simp
                  with_reducible rfl
                rotate_left
                · simp only [Act.put, List.setIfInBounds_toArray, List.set_cons_zero, List.set_cons_succ, i64_w, i32_w]
                  rfl
                refine take_ (i := 1) (N := (some 34)) (v := ?_) (a' := ?_) #[true, true, false, false, false, false, false, false, false, false, false, false, false] rfl rfl (by kernel_rfl) (fun _ _ _ h => h) (Or.inl ⟨by rfl, ?_⟩) hHeld ?_ ?_
                rotate_left
                · rintro w' z0
                  have hc := bk_cell0 (HBX.out _ z0)
                  go_simp
                  with_reducible rfl
                rotate_left
                · simp only [Act.put, List.setIfInBounds_toArray, List.set_cons_zero, List.set_cons_succ, i64_w, i32_w]
                  rfl
                refine pure_ (i := 2) (N := (some 35)) (v := ?_) (a' := ?_) #[true, true, true, false, false, false, false, false, false, false, false, false, false] rfl rfl (by kernel_rfl) (fun _ _ _ h => h) (Or.inl ⟨by rfl, ?_⟩) ?_ ?_
                rotate_left
                · intro w'
                  go_simp
                  with_reducible rfl
                rotate_left
                · simp only [Act.put, List.setIfInBounds_toArray, List.set_cons_zero, List.set_cons_succ, i64_w, i32_w]
                  rfl
                refine pure_ (i := 3) (N := (some 36)) (v := ?_) (a' := ?_) #[true, true, true, true, false, false, false, false, false, false, false, false, false] rfl rfl (by kernel_rfl) (fun _ _ _ h => h) (Or.inl ⟨by rfl, ?_⟩) ?_ ?_
                rotate_left
                · intro w'
                  go_simp
                  with_reducible rfl
                rotate_left
                · simp only [Act.put, List.setIfInBounds_toArray, List.set_cons_zero, List.set_cons_succ, i64_w, i32_w]
                  rfl
                refine pure_ (i := 4) (N := (some 37)) (v := ?_) (a' := ?_) #[true, true, true, true, true, false, false, false, false, false, false, false, false] rfl rfl (by kernel_rfl) (fun _ _ _ h => h) (Or.inl ⟨by rfl, ?_⟩) ?_ ?_
                rotate_left
                · intro w'
                  go_simp
                  with_reducible rfl
                rotate_left
                · simp only [Act.put, List.setIfInBounds_toArray, List.set_cons_zero, List.set_cons_succ, i64_w, i32_w]
                  rfl
                refine take_ (i := 5) (N := (some 38)) (v := ?_) (a' := ?_) #[true, true, true, true, true, true, false, false, false, false, false, false, false] rfl rfl (by kernel_rfl) (fun _ _ _ h => h) (Or.inl ⟨by rfl, ?_⟩) hHeld ?_ ?_
                rotate_left
                · rintro w' z0
                  have hc := HCK.out _ z0
                  go_simp
                  with_reducible rfl
                rotate_left
                · simp only [Act.put, List.setIfInBounds_toArray, List.set_cons_zero, List.set_cons_succ, i64_w, i32_w]
                  rfl
                refine pure_ (i := 6) (N := (some 39)) (v := ?_) (a' := ?_) #[true, true, true, true, true, true, true, false, false, false, false, false, false] rfl rfl (by kernel_rfl) (fun _ _ _ h => h) (Or.inl ⟨by rfl, ?_⟩) ?_ ?_
                rotate_left
                · intro w'
                  go_simp
                  with_reducible rfl
                rotate_left
                · simp only [Act.put, List.setIfInBounds_toArray, List.set_cons_zero, List.set_cons_succ, i64_w, i32_w]
                  rfl
                refine take_ (i := 7) (N := (some 40)) (v := ?_) (a' := ?_) #[true, true, true, true, true, true, true, true, false, false, false, false, false] rfl rfl (by kernel_rfl) (fun _ _ _ h => h) (Or.inl ⟨by rfl, ?_⟩) hHeld ?_ ?_
                rotate_left
                · rintro w' z0
                  have hc := bk_cell0 (HBX.out _ z0)
                  go_simp
                  with_reducible rfl
                rotate_left
                · simp only [Act.put, List.setIfInBounds_toArray, List.set_cons_zero, List.set_cons_succ, i64_w, i32_w]
                  rfl
                refine pure_ (i := 8) (N := (some 41)) (v := ?_) (a' := ?_) #[true, true, true, true, true, true, true, true, true, false, false, false, false] rfl rfl (by kernel_rfl) (fun _ _ _ h => h) (Or.inl ⟨by rfl, ?_⟩) ?_ ?_
                rotate_left
                · intro w'
                  go_simp
                  with_reducible rfl
                rotate_left
                · simp only [Act.put, List.setIfInBounds_toArray, List.set_cons_zero, List.set_cons_succ, i64_w, i32_w]
                  rfl
                refine pure_ (i := 9) (N := (some 42)) (v := ?_) (a' := ?_) #[true, true, true, true, true, true, true, true, true, true, false, false, false] rfl rfl (by kernel_rfl) (fun _ _ _ h => h) (Or.inl ⟨by rfl, ?_⟩) ?_ ?_
                rotate_left
                · intro w'
                  go_simp
                  with_reducible rfl
                rotate_left
                · simp only [Act.put, List.setIfInBounds_toArray, List.set_cons_zero, List.set_cons_succ, i64_w, i32_w]
                  rfl
                refine pure_ (i := 10) (N := (some 43)) (v := ?_) (a' := ?_) #[true, true, true, true, true, true, true, true, true, true, true, false, false] rfl rfl (by kernel_rfl) (fun _ _ _ h => h) (Or.inl ⟨by rfl, ?_⟩) ?_ ?_
                rotate_left
                · intro w'
                  go_simp
                  with_reducible rfl
                rotate_left
                · simp only [Act.put, List.setIfInBounds_toArray, List.set_cons_zero, List.set_cons_succ, i64_w, i32_w]
                  rfl
                refine take_ (i := 11) (N := (some 44)) (v := ?_) (a' := ?_) #[true, true, true, true, true, true, true, true, true, true, true, true, false] rfl rfl (by kernel_rfl) (fun _ _ _ h => h) (Or.inl ⟨by rfl, ?_⟩) hHeld ?_ ?_
                rotate_left
                · rintro w' z0
                  have hc := HCI.out _ z0
                  go_simp
                  with_reducible rfl
                rotate_left
                · simp only [Act.put, List.setIfInBounds_toArray, List.set_cons_zero, List.set_cons_succ, i64_w, i32_w]
                  rfl
                refine pure_ (i := 12) (N := (some 45)) (v := ?_) (a' := ?_) #[true, true, true, true, true, true, true, true, true, true, true, true, true] rfl rfl (by kernel_rfl) (fun _ _ _ h => h) (Or.inl ⟨by rfl, ?_⟩) ?_ ?_
                rotate_left
                · intro w'
                  go_simp
                  with_reducible rfl
                rotate_left
                · simp only [Act.put, List.setIfInBounds_toArray, List.set_cons_zero, List.set_cons_succ, i64_w, i32_w]
                  rfl
                refine done_ (by kernel_rfl) ?_
                have HWI := Aside0.mk hHeld
                clear hHeld
                go_wp2
                refine ⟨⟨j + 1, by simp, by omega, ⟨fun k x hk hx => ?_⟩, ⟨bl HBI.out HWI.out⟩⟩, by simp [intOf]; omega⟩
                by_cases hkj : k = j
                · subst hkj
                  have := HGJ.out.symm.trans hx
                  cases this
                  exact HQ.out
                · exact HNE.out k x (by omega) hx
            · have hd3 : decide ((j : Int) < (i : Int)) = false := decide_eq_false (by omega)
              have hji : j = i := by omega
              subst hji
              go_wp2
              refine ⟨⟨j + 1, by simp, by omega, ⟨?_⟩, ⟨HLV.out _ HBI.out⟩, ⟨HBX.out _ HBI.out⟩, ⟨bl HB.out HBI.out⟩⟩, by simp [intOf]; omega⟩
              have hcon : (seenB xs j).contains f0 = false := by
                rw [← Bool.not_eq_true]
                intro h
                obtain ⟨k, x, h1, h2, h3⟩ := seenB_mem.1 h
                exact HNE.out k x h1 h2 h3
              rw [HSU.out, HEE.out, hcon]
              rfl
        · rw [decide_eq_false hms] at hmay HEE
          have HMY := Aside0.mk hmay
          clear hmay hms
          go_wp2
          refine start_ (n := 8) (S := fun w' => Below wr.heap.size wr w') (ds := []) #[false, false, false, false, false, false, false, false] (by kernel_rfl) rfl rfl (below_drew (Below.refl _ _)) (fun hHeld => ?_)
          refine take_ (i := 0) (N := (some 20)) (v := ?_) (a' := ?_) #[true, false, false, false, false, false, false, false] rfl rfl (by kernel_rfl) (fun _ _ _ h => h) (Or.inl ⟨by rfl, ?_⟩) hHeld ?_ ?_
          rotate_left
          · rintro w' z0
            have hc := HLV.out _ z0
            refine exec_loadB (ty := 23) (x := .tmp 2) ?_ ?_ hc Try.underlying23 rfl infoLB
            · rfl
            · rfl
          rotate_left
          · simp only [Act.put, List.setIfInBounds_toArray, List.set_cons_zero, List.set_cons_succ, i64_w, i32_w]
            rfl
          refine pure_ (i := 1) (N := (some 21)) (v := ?_) (a' := ?_) #[true, true, false, false, false, false, false, false] rfl rfl (by kernel_rfl) (fun _ _ _ h => h) (Or.inl ⟨by rfl, ?_⟩) ?_ ?_
          rotate_left
          · intro w'
            go_simp
            with_reducible rfl
          rotate_left
          · simp only [Act.put, List.setIfInBounds_toArray, List.set_cons_zero, List.set_cons_succ, i64_w, i32_w]
            rfl
          refine take_ (i := 2) (N := (some 22)) (v := ?_) (a' := ?_) #[true, true, true, false, false, false, false, false] rfl rfl (by kernel_rfl) (fun _ _ _ h => h) (Or.inl ⟨by rfl, ?_⟩) hHeld ?_ ?_
          rotate_left
          · rintro w' z0
            have hc := bk_cell0 (HBX.out _ z0)
            go_simp
            with_reducible rfl
          rotate_left
          · simp only [Act.put, List.setIfInBounds_toArray, List.set_cons_zero, List.set_cons_succ, i64_w, i32_w]
            rfl
          refine pure_ (i := 3) (N := (some 23)) (v := ?_) (a' := ?_) #[true, true, true, true, false, false, false, false] rfl rfl (by kernel_rfl) (fun _ _ _ h => h) (Or.inl ⟨by rfl, ?_⟩) ?_ ?_
          rotate_left
          · intro w'
            go_simp
            with_reducible rfl
          rotate_left
          · simp only [Act.put, List.setIfInBounds_toArray, List.set_cons_zero, List.set_cons_succ, i64_w, i32_w]
            rfl
          refine pure_ (i := 4) (N := (some 24)) (v := ?_) (a' := ?_) #[true, true, true, true, true, false, false, false] rfl rfl (by kernel_rfl) (fun _ _ _ h => h) (Or.inl ⟨by rfl, ?_⟩) ?_ ?_
          rotate_left
          · intro w'
            go_simp
            with_reducible rfl
          rotate_left
          · simp only [Act.put, List.setIfInBounds_toArray, List.set_cons_zero, List.set_cons_succ, i64_w, i32_w]
            rfl
          refine take_ (i := 5) (N := (some 25)) (v := ?_) (a' := ?_) #[true, true, true, true, true, true, false, false] rfl rfl (by kernel_rfl) (fun _ _ _ h => h) (Or.inl ⟨by rfl, ?_⟩) hHeld ?_ ?_
          rotate_left
          · rintro w' z0
            obtain ⟨hc0, hc1, hc2⟩ := HBC.out _ z0
            go_simp
            with_reducible rfl
          rotate_left
          · simp only [Act.put, List.setIfInBounds_toArray, List.set_cons_zero, List.set_cons_succ, i64_w, i32_w]
            rfl
          refine one_ (i := 6) (N := (some 26)) #[true, true, true, true, true, true, true, false] rfl rfl (by kernel_rfl) (by decide) (fun K hK => ?_)
          refine goes_ Try.func70 (by kernel_rfl) rfl #[.agg #[.int .i64 l0, .int .i64 l1, .int .i64 l2, .int .i64 l3], .agg #[.int .i64 f0, .int .i64 f1, .slice A2 f2.length c2]] (by rfl) rfl rfl (by (try simp only [List.map_toArray, List.map_cons, List.map_nil]); first | done | rfl) ?_
          refine (ref09_May.calls 20 l0 l1 l2 l3 f0 f1 A2 c2 f2 false _ (HDT.out _ hHeld) HDC.out HMY.out).mono ?_
          rintro e w5 ⟨rfl, hb⟩
          have hS := hHeld.trans (hb.mono hHeld.size)
          clear hb
          refine ⟨_, rfl, ?_⟩
          refine hK.out _ _ hS (fun hHeld => ?_)
          clear hK K
          refine norm_ (a' := ?_) ?_ ?_
          rotate_left
          · show Act.put _ (some 26) _ = _
            simp only [Act.put, List.setIfInBounds_toArray, List.set_cons_zero, List.set_cons_succ, i64_w, i32_w]
            rfl
          refine pure_ (i := 7) (N := (some 27)) (v := ?_) (a' := ?_) #[true, true, true, true, true, true, true, true] rfl rfl (by kernel_rfl) (fun _ _ _ h => h) (Or.inl ⟨by rfl, ?_⟩) ?_ ?_
          rotate_left
          · intro w'
            go_simp
            with_reducible rfl
          rotate_left
          · simp only [Act.put, List.setIfInBounds_toArray, List.set_cons_zero, List.set_cons_succ, i64_w, i32_w]
            rfl
          refine done_ (by kernel_rfl) ?_
          have HW5 := Aside0.mk hHeld
          clear hHeld
          go_wp2
          go_ret
          exact ⟨by rw [HEE.out, Bool.and_false, Bool.false_and, Bool.and_false]; rfl, bl HB.out HW5.out⟩
      · have hd1 : decide ((i : Int) < (xs.length : Int)) = false := decide_eq_false (by omega)
        go_wp2
        go_ret
        exact ⟨by rw [HE.out, HMM.out, List.drop_of_length_le (by omega)]; rfl, HB.out⟩
  · have hd0 : decide (many < (xs.length : Int)) = true := decide_eq_true (by omega)
    have HMM := Aside0.mk (decide_eq_false hm)
    go_wp2
    go_ret
    exact ⟨by rw [HMM.out, Bool.false_and]; rfl, HB2.out⟩
end Go.Proofs.Ytknmokpnkcckeaa

namespace Go.Proofs.Ytknmokpnkcckeaa
open Go.RowKit Go.Proofs.YtknmokpnkcckeaaW.PrintWords Go.Proofs.YtknmokpnkcckeaaW.PrintLast Go.Proofs.YtknmokpnkcckeaaW.PrintMore Go.Proofs.Ytknmokpnkcckeaa.PAll
set_option linter.unusedVariables false
set_option linter.unusedSimpArgs false

theorem info5B : (Try.prog.info? 5).map (fun i => (i.zero, i.size, i.bytes)) = some (some (.int .u8 0), 1, 1) := by kernel_rfl
theorem C_dig {W : World} {b o t : Nat} {pre tail : List Value} {L : List Int} (hl : L.length = 32) (h : W.heap[b]? = some (.cells ⟨pre ++ (L.map (Value.int .u8) ++ tail)⟩ t (0, 0))) (hp : pre.length = o) : Kd.C (Kd.int .u8) W (some ⟨b, o, none⟩) 32 L := by
  refine ⟨hl, by omega, fun _ => ⟨_, rfl, fun j p hj => ?_⟩⟩
  have hj2 := (List.getElem?_eq_some_iff.1 hj).1
  refine ⟨[.int .u8 p], rfl, rfl, fun i u hu => ?_⟩
  rcases i with _ | i
  · simp only [List.getElem?_cons_zero, Option.some.injEq] at hu
    subst hu
    rw [add_at, blk_cell h, List.getElem?_toArray]
    have e : o + (j * (Kd.int .u8).sz + 0) = o + j := by show o + (j * 1 + 0) = o + j; omega
    rw [e, List.getElem?_append_right (by omega), show o + j - pre.length = j by omega, List.getElem?_append_left (by simpa using hj2), List.getElem?_map, hj]
    rfl
  · simp at hu
/-- The first slots' text. -/
def ofK (size : Int) (T : S62 → List Int) (xs : List S62) : Nat → List Int
  | 0 => []
  | k + 1 => ofK size T xs k ++ (match xs[k]? with | some x => T x | none => List.replicate (8 + size).toNat 0)
theorem ofK_length {size : Int} {T : S62 → List Int} {xs : List S62} (hs : size ≤ 32) (hT : ∀ x ∈ xs, (T x).length ≤ 1000) : ∀ k, (ofK size T xs k).length ≤ k * 1000
  | 0 => Nat.le_refl _
  | k + 1 => by
    have := ofK_length hs hT k
    simp only [ofK, List.length_append]
    cases hx : xs[k]? with
    | some x => have := hT x (List.mem_of_getElem? hx); simp only; omega
    | none => simp only [List.length_replicate]; omega

set_option maxHeartbeats 8000000 in
set_option maxRecDepth 100000 in
theorem refOfB_calls (kf : Nat) (l0 l1 l2 l3 : Int) (many : Nat) (A : Option Addr) (c : Nat) (xs : List S62) (L R : List Int) (T : S62 → List Int) (w : World) (hL : L.length = 32) (hR : R.length = 32) (hr : Kd.C k62 w A xs.length xs) (hn : xs.length ≤ 1000) (hm4 : many ≤ 4) (h1 : 1 ≤ l1) (h32 : l1 ≤ 32) (hm : ref09_Many.f 20 l0 l1 l2 l3 = some (many : Int)) (hT : ∀ x ∈ xs, ref09_Of.f kf x.f0 x.f1 x.f2 = some (T x)) (hTl : ∀ x ∈ xs, (T x).length ≤ 1000) :
    Calls Try.prog 48 #[.agg #[.int .i64 l0, .int .i64 l1, .int .i64 l2, .int .i64 l3], .agg ⟨bkC A xs.length c L R⟩] w fun e w' => ∃ v, e = .returned v ∧ Kd.R (Kd.int .u8) 5 w' w.heap.size (fun _ => True) v (ofK l1 T xs many ++ L ++ R) ∧ Below w.heap.size w w' := by
  have HR := Aside0.mk hr
  have HM := Aside0.mk hm
  have HT := Aside0.mk hT
  have HTL := Aside0.mk hTl
  have hu23 := Try.underlying23
  have hu62 := Try.underlying62
  have hu38 := Try.underlying38
  have hn3 : (xs.length : Int) ≤ 1000 := by omega
  clear hr hm hT hTl
  go_enter Try.func48, Try.ntmps48
  go_wp2
  obtain ⟨w0, hw0⟩ : ∃ W, (w.alloc (.cells #[.int .i64 l0, .int .i64 l1, .int .i64 l2, .int .i64 l3] 23)).alloc (.cells ⟨bkC A xs.length c L R⟩ 40) = W := ⟨_, rfl⟩
  rw [hw0]
  have HB0 : Aside0 (Below w.heap.size w w0) := ⟨hw0 ▸ below_alloc (below_alloc (Below.refl _ _) _) _⟩
  have HL0 : Aside0 (w0.heap[w.heap.size]? = some (.cells #[.int .i64 l0, .int .i64 l1, .int .i64 l2, .int .i64 l3] 23 (0, 0))) := ⟨hw0 ▸ blk_alloc (heap_alloc_new w _) _⟩
  have HK0 : Aside0 (w0.heap[w.heap.size + 1]? = some (.cells ⟨bkC A xs.length c L R⟩ 40 (0, 0))) := ⟨by
    rw [← hw0]
    have := heap_alloc_new (w.alloc (.cells #[.int .i64 l0, .int .i64 l1, .int .i64 l2, .int .i64 l3] 23)) (.cells ⟨bkC A xs.length c L R⟩ 40)
    rwa [World.size_alloc] at this⟩
  have hs0 : w0.heap.size = w.heap.size + 2 := by rw [← hw0]; simp
  clear hw0
  go_loopw [5, 6] (fun v5 v6 wr => ∃ i : Nat, v6 = .int .i64 i ∧ i ≤ many ∧ Aside0 (Kd.R (Kd.int .u8) 5 wr (w.heap.size + 2) (fun _ => True) v5 (ofK l1 T xs i)) ∧ Aside0 (wr.heap[w.heap.size]? = some (.cells #[.int .i64 l0, .int .i64 l1, .int .i64 l2, .int .i64 l3] 23 (0, 0))) ∧ Aside0 (wr.heap[w.heap.size + 1]? = some (.cells ⟨bkC A xs.length c L R⟩ 40 (0, 0))) ∧ Aside0 (Below (w.heap.size + 2) w0 wr)) (fun _ v6 _ => many - (intOf v6).toNat)
  case atStart => exact ⟨0, rfl, Nat.zero_le _, ⟨Kd.R_nil _ _ _ _ _⟩, HL0, HK0, ⟨Below.refl _ _⟩⟩
  case round =>
    obtain ⟨i, rfl, hi, HV, HL, HK, HB⟩ := hrel
    obtain ⟨A5, c5, rfl⟩ := Kd.R_slice HV.out
    have hl0 := blk_cell HL.out 0
    have hl1 := blk_cell HL.out 1
    have hl2 := blk_cell HL.out 2
    have hl3 := blk_cell HL.out 3
    have hlen := ofK_length (T := T) (xs := xs) h32 HTL.out i
    have hbw : Below w.heap.size w wr := HB0.out.trans (HB.out.mono (by omega))
    have HBW := Aside0.mk hbw
    have hszr : w.heap.size + 2 ≤ wr.heap.size := by have := HB.out.size; omega
    clear hbw
    by_cases hlt : i < many
    · have hd1 : decide ((i : Int) < (many : Int)) = true := decide_eq_true (by omega)
      by_cases hlx : i < xs.length
      · have hd2 : decide ((i : Int) < (xs.length : Int)) = true := decide_eq_true (by omega)
        have hlx2 : (i : Int) < (xs.length : Int) := by omega
        have hget : xs[i]? = some xs[i] := List.getElem?_eq_getElem hlx
        have htx := HT.out xs[i] (List.getElem_mem hlx)
        have htl := HTL.out xs[i] (List.getElem_mem hlx)
        have hstep : ofK l1 T xs (i + 1) = ofK l1 T xs i ++ T xs[i] := by simp only [ofK, hget]
        generalize xs[i] = x at hget htx htl hstep
        obtain ⟨ad, A2, c2, rfl, hx0, hx1, hx2, hc2, hCx⟩ := at62 HR.out hget
        obtain ⟨f0, f1, f2⟩ := x
        dsimp only at hx0 hx1 hx2 hCx hc2 htx
        have HX0 := Aside0.mk (cell_belowK HBW.out hx0)
        have HX1 := Aside0.mk (cell_belowK HBW.out hx1)
        have HX2 := Aside0.mk (cell_belowK HBW.out hx2)
        have HCX := Aside0.mk (Kd.C_below hCx HBW.out)
        have HC2 := Aside0.mk hc2
        have HTX := Aside0.mk htx
        have HST := Aside0.mk hstep
        have HLT := Aside0.mk htl
        clear hget hx0 hx1 hx2 hCx hc2 htx hstep htl
        repeat (first
          | (go_at_call 46; (with_reducible refine (ref09_Many.calls 20 l0 l1 l2 l3 many _ HM.out).mono ?_); rintro e2 w2 ⟨rfl, hb2⟩; have HB2 := Aside0.mk hb2; clear hb2 hl0 hl1 hl2 hl3; have hk2 := bk_cell0 (blk_below HK.out HB2.out); have hl1 := blk_cell (blk_below HL.out HB2.out) 1; have hx0 := cell_belowK HB2.out HX0.out; have hx1 := cell_belowK HB2.out HX1.out; have hx2 := cell_belowK HB2.out HX2.out; (try dsimp only))
          | (go_at_call 71; (with_reducible refine (ref09_Of.calls kf f0 f1 A2 c2 f2 _ _ (Kd.C_below HCX.out HB2.out) HC2.out HTX.out).mono ?_); rintro e3 w3 ⟨v3, rfl, hR3, hb3⟩; obtain ⟨A3, c3, rfl⟩ := Kd.R_slice hR3; have HR3 := Aside0.mk hR3; have HB3 := Aside0.mk (bl HB2.out hb3); clear hR3 hb3; (try dsimp only))
          | ((with_reducible refine gate_builtin (b := .append) (xs := #[.tmp 18, .tmp 24]) rfl ?_); at_builtin; refine Kd.R_append_rows (Kd.int .u8) (w0 := w0) (w.heap.size + 2) rfl (.tmp 18) (.tmp 24) 43 5 (.int .u8 0) 1 rfl Try.underlying43 info5B rfl (by decide) (by omega) (.slice A5 (ofK l1 T xs i).length c5) (ofK l1 T xs i) (T ⟨f0, f1, f2⟩) _ _ _ (fun _ => True) (fun _ => False) rfl rfl ?aO ?aR (fun _ _ h => h) (fun _ h => h.elim) ?aF ?aB ?aS ?aL ?_; (case aO => exact Kd.R_below HV.out HB3.out); (case aR => exact (Kd.R_reads' HR3.out).2.2); (case aF => exact (fun _ _ => trivial)); (case aB => exact HB.out.trans (HB3.out.mono hszr)); (case aS => have := HB3.out.size; omega); (case aL => have := HLT.out; simp; omega); intro v6 w6 hown hb hg hat; have HOWN := Aside0.mk hown; have HB6 := Aside0.mk hb; have HG6 := Aside0.mk hg; clear hown hb hg hat)
          | go_values | go_guarded | go_step | go_upon | go_back)
        refine ⟨⟨i + 1, by simp, by omega, ⟨by rw [HST.out]; exact HOWN.out⟩, ⟨(HB6.out.block _ (by omega)).trans HL0.out⟩, ⟨(HB6.out.block _ (by omega)).trans HK0.out⟩, HB6⟩, by simp [intOf]; omega⟩
      · have hd2 : decide ((i : Int) < (xs.length : Int)) = false := decide_eq_false (by omega)
        have hstep : ofK l1 T xs (i + 1) = ofK l1 T xs i ++ List.replicate (8 + l1).toNat 0 := by simp only [ofK, List.getElem?_eq_none (show xs.length ≤ i by omega)]
        have HST := Aside0.mk hstep
        clear hstep
        have hl8 : (8 : Int) + l1 ≤ 40 := by omega
        repeat (first
          | (go_at_call 46; (with_reducible refine (ref09_Many.calls 20 l0 l1 l2 l3 many _ HM.out).mono ?_); rintro e2 w2 ⟨rfl, hb2⟩; have HB2 := Aside0.mk hb2; clear hb2 hl0 hl1 hl2 hl3; have hk2 := bk_cell0 (blk_below HK.out HB2.out); have hl1 := blk_cell (blk_below HL.out HB2.out) 1; (try dsimp only))
          | ((with_reducible refine gate_builtin (b := .append) (xs := #[.tmp 26, .tmp 29]) rfl ?_); at_builtin; refine Kd.R_append_zeros (Kd.int .u8) (w0 := w0) (w.heap.size + 2) rfl (.tmp 26) (.tmp 29) 43 3 5 (.int .u8 0) 1 rfl Try.underlying43 Try.underlying3 info5B rfl (by decide) (by decide) (.slice A5 (ofK l1 T xs i).length c5) (ofK l1 T xs i) (0 : Int) (8 + l1) (fun _ => True) rfl rfl rfl (fun _ _ => trivial) ?aO (by omega) ?aB ?aS ?aL ?_; (case aO => exact Kd.R_below HV.out HB2.out); (case aB => exact HB.out.trans (HB2.out.mono hszr)); (case aS => have := HB2.out.size; omega); (case aL => omega); intro v6 w6 hown hb hg hat; have HOWN := Aside0.mk hown; have HB6 := Aside0.mk hb; have HG6 := Aside0.mk hg; clear hown hb hg hat)
          | go_values | go_guarded | go_step | go_upon | go_back)
        refine ⟨⟨i + 1, by simp, by omega, ⟨by rw [HST.out]; exact HOWN.out⟩, ⟨(HB6.out.block _ (by omega)).trans HL0.out⟩, ⟨(HB6.out.block _ (by omega)).trans HK0.out⟩, HB6⟩, by simp [intOf]; omega⟩
    · have hd1 : decide ((i : Int) < (many : Int)) = false := decide_eq_false (by omega)
      have him : i = many := by omega
      subst him
      have hLl : L.length ≤ 32 := by omega
      have hRl : R.length ≤ 32 := by omega
      repeat (first
        | (go_at_call 46; (with_reducible refine (ref09_Many.calls 20 l0 l1 l2 l3 i _ HM.out).mono ?_); rintro e2 w2 ⟨rfl, hb2⟩; have HB2 := Aside0.mk hb2; clear hb2 hl0 hl1 hl2 hl3; (try dsimp only))
        | ((with_reducible refine gate_builtin (b := .append) (xs := #[.tmp 31, .tmp 33]) rfl ?_); at_builtin; refine Kd.R_append_rows (Kd.int .u8) (w0 := w0) (w.heap.size + 2) rfl (.tmp 31) (.tmp 33) 43 5 (.int .u8 0) 1 rfl Try.underlying43 info5B rfl (by decide) (by omega) (.slice A5 (ofK l1 T xs i).length c5) (ofK l1 T xs i) L (some ⟨w.heap.size + 1, 1, none⟩) 32 32 (fun _ => True) (fun _ => False) rfl rfl ?aO ?aR (fun _ _ h => h) (fun _ h => h.elim) ?aF ?aB ?aS ?aL ?_; (case aO => exact Kd.R_below HV.out HB2.out); (case aR => exact C_dig (pre := [.slice A xs.length c]) (tail := R.map (Value.int .u8)) hL (blk_below HK.out HB2.out) rfl); (case aF => exact (fun _ _ => trivial)); (case aB => exact HB.out.trans (HB2.out.mono hszr)); (case aS => have := HB2.out.size; omega); (case aL => simp; omega); intro v6 w6 hown hb hg hat; have HOWN := Aside0.mk hown; have HB6 := Aside0.mk hb; clear hown hb hg hat)
        | ((with_reducible refine gate_builtin (b := .append) (xs := #[.tmp 35, .tmp 37]) rfl ?_); at_builtin; refine Kd.R_append_rows (Kd.int .u8) (w0 := w0) (w.heap.size + 2) rfl (.tmp 35) (.tmp 37) 43 5 (.int .u8 0) 1 rfl Try.underlying43 info5B rfl (by decide) (by omega) v6 (ofK l1 T xs i ++ L) R (some ⟨w.heap.size + 1, 33, none⟩) 32 32 (fun _ => True) (fun _ => False) rfl rfl ?aO ?aR (fun _ _ h => h) (fun _ h => h.elim) ?aF ?aB ?aS ?aL ?_; (case aO => exact HOWN.out); (case aR => exact C_dig hR (bk_right ((HB6.out.block _ (by omega)).trans HK0.out)) (by simp [hL])); (case aF => exact (fun _ _ => trivial)); (case aB => exact HB6.out); (case aS => have := HB6.out.size; omega); (case aL => simp; omega); intro v8 w8 hown hb hg hat; have HOWN8 := Aside0.mk hown; have HB8 := Aside0.mk hb; clear hown hb hg hat)
        | go_values | go_guarded | go_step | go_upon | go_back)
      go_ret
      exact ⟨v8, rfl, Kd.R_lower HOWN8.out (by omega), HB0.out.trans (HB8.out.mono (by omega))⟩
end Go.Proofs.Ytknmokpnkcckeaa

namespace Go.Proofs.Ytknmokpnkcckeaa
open Go.RowKit Go.Proofs.YtknmokpnkcckeaaW.PrintWords Go.Proofs.YtknmokpnkcckeaaW.PrintLast Go.Proofs.YtknmokpnkcckeaaW.PrintMore Go.Proofs.Ytknmokpnkcckeaa.PAll
set_option linter.unusedVariables false
set_option linter.unusedSimpArgs false

end Go.Proofs.Ytknmokpnkcckeaa
