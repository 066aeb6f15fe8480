/-
The laws' hex: a digest's digits.
-/
import Derived.Test.YtfijclinefmbfaaDoorShaAll
import Derived.Deep.RegionWith
namespace Go.Proofs.YtfijclinefmbfaaDoor
open Go.RowKit Go.Proofs.YtfijclinefmbfaaDoorW.PrintWords Go.Proofs.YtfijclinefmbfaaDoorW.PrintLast Go.Proofs.YtfijclinefmbfaaDoorW.PrintMore Go.Proofs.YtfijclinefmbfaaDoor.PAll
set_option linter.unusedVariables false
set_option linter.unusedSimpArgs false

/-- A block of numbers, marked or not, read as a row. -/
theorem F_row {W : World} {b t : Nat} {fr : Nat × Nat} (k : IntKind) (zs : List Int) (hz : zs.length ≤ 9223372036854775807) {ok : Nat → Prop} (hok : ok b) (h : W.heap[b]? = some (.cells (zs.map (Value.int k)).toArray t fr)) :
    Kd.F (Kd.int k) W ok (some ⟨b, 0, none⟩) zs.length zs := by
  intro W' hW
  have hlt : b < W.heap.size := (Array.getElem?_eq_some_iff.1 h).1
  have h' : W'.heap[b]? = some (.cells (zs.map (Value.int k)).toArray t fr) := (hW b hok hlt).trans h
  refine ⟨rfl, hz, fun _ => ⟨_, rfl, fun j p hj => ?_⟩⟩
  refine ⟨[.int k p], rfl, rfl, fun i u hu => ?_⟩
  have hi : i = 0 := by
    rcases i with _ | i
    · rfl
    · simp at hu
  subst hi
  simp only [List.getElem?_cons_zero, Option.some.injEq] at hu
  subst hu
  have hc : ∀ k', W'.cell? ⟨b, k', none⟩ = (zs.map (Value.int k)).toArray[k']? := fun k' => cell_of_row W' b k' _ t fr h'
  have he : (⟨b, 0, none⟩ : Addr).add (j * (Kd.int k).sz + 0) = ⟨b, j, none⟩ := by rw [add_at]; simp [Kd.int, Kd.scalar]
  rw [he, hc]
  simp [hj]

def dgt (q : Int) : Int := [48, 49, 50, 51, 52, 53, 54, 55, 56, 57, 97, 98, 99, 100, 101, 102].getD q.toNat 0
def hexL (l : List Int) : List Int := l.flatMap fun x => [dgt (x / 16), dgt (x % 16)]
theorem digit_cases {q : Int} (h0 : 0 ≤ q) (h1 : q < 16) : q = 0 ∨ q = 1 ∨ q = 2 ∨ q = 3 ∨ q = 4 ∨ q = 5 ∨ q = 6 ∨ q = 7 ∨ q = 8 ∨ q = 9 ∨ q = 10 ∨ q = 11 ∨ q = 12 ∨ q = 13 ∨ q = 14 ∨ q = 15 := by omega
theorem digit_run (q : Int) (h0 : 0 ≤ q) (h1 : q < 16) (W : World) : (Instr.index 9 (.string { data := #[48, 49, 50, 51, 52, 53, 54, 55, 56, 57, 97, 98, 99, 100, 101, 102] }) (.int .u8 q)).run Tryd.prog W = .ok (.int .u8 (dgt q)) W := by
  rcases digit_cases h0 h1 with rfl | rfl | rfl | rfl | rfl | rfl | rfl | rfl | rfl | rfl | rfl | rfl | rfl | rfl | rfl | rfl <;> (rw [run_index_string _ _ _ _ _ Tryd.underlying9]; rfl)
theorem hexL_length (l : List Int) : (hexL l).length = 2 * l.length := by
  induction l with
  | nil => rfl
  | cons x l ih => simp only [hexL, List.flatMap_cons, List.length_append, List.length_cons, List.length_nil] at ih ⊢; omega
theorem hexL_step {l : List Int} {k : Nat} (h : k < l.length) : hexL (l.take (k + 1)) = hexL (l.take k) ++ [dgt (l.getD k 0 / 16), dgt (l.getD k 0 % 16)] := by
  rw [List.take_succ_eq_append_getElem h, hexL, hexL, List.flatMap_append]
  congr 1
  simp [List.getD_eq_getElem?_getD, List.getElem?_eq_getElem h]
theorem dgt_u8 (q : Int) : 0 ≤ dgt q ∧ dgt q < 256 := by
  unfold dgt
  generalize q.toNat = n
  rcases Nat.lt_or_ge n 16 with h | h
  · rcases (show n = 0 ∨ n = 1 ∨ n = 2 ∨ n = 3 ∨ n = 4 ∨ n = 5 ∨ n = 6 ∨ n = 7 ∨ n = 8 ∨ n = 9 ∨ n = 10 ∨ n = 11 ∨ n = 12 ∨ n = 13 ∨ n = 14 ∨ n = 15 by omega) with rfl | rfl | rfl | rfl | rfl | rfl | rfl | rfl | rfl | rfl | rfl | rfl | rfl | rfl | rfl | rfl <;> decide
  · rw [List.getD_eq_getElem?_getD, List.getElem?_eq_none (by simpa using h)]
    decide

set_option maxHeartbeats 4000000 in
set_option maxRecDepth 100000 in
theorem hex_calls (l : List Int) (hl : l.length = 32) (hr : ∀ x ∈ l, 0 ≤ x ∧ x < 256) (w : World) :
    Calls Tryd.prog 21 #[.agg ⟨l.map (Value.int .u8)⟩] w fun e w' => e = .returned (.string (strOfNums (hexL l))) ∧ Below w.heap.size w w' := by
  have HL := Aside0.mk hl
  have HR := Aside0.mk hr
  have HB0 := Aside0.mk (heap_alloc_new w (.cells ⟨l.map (Value.int .u8)⟩ 24))
  have HB1 := Aside0.mk (below_alloc (Below.refl w.heap.size w) (.cells ⟨l.map (Value.int .u8)⟩ 24))
  have hsz : (l.map (Value.int .u8)).length = 32 := by rw [List.length_map]; exact hl
  have hcell : ∀ k, k < 32 → (⟨l.map (Value.int .u8)⟩ : Array Value)[k]? = some (.int .u8 (l.getD k 0)) := fun k hk => by
    simp [List.getD_eq_getElem?_getD, List.getElem?_eq_getElem (show k < l.length by omega)]
  have HCELL := Aside0.mk hcell
  generalize hvs : l.map (Value.int .u8) = vs at HB0 HB1 hsz HCELL
  clear hvs hcell hl hr
  go_enter Tryd.func21, Tryd.ntmps21
  go_wp2
  go_loopw [3, 4] (fun v3 i wr => ∃ (A : Option Addr) (q c k : Nat), i = .int .i64 k ∧ k ≤ 32 ∧ v3 = .slice A q c ∧ q = 2 * k ∧ Aside0 (Kd.R (Kd.int .u8) 5 wr w.heap.size (fun _ => True) (.slice A q c) (hexL (l.take k))) ∧ Aside0 (wr.heap[w.heap.size]? = some (.cells ⟨vs⟩ 24 (0, 0))) ∧ Aside0 (Below w.heap.size w wr)) (fun _ i _ => 32 - (intOf i).toNat)
  case atStart => exact ⟨none, 0, 0, 0, rfl, by omega, rfl, rfl, ⟨Kd.R_nil _ _ _ _ _⟩, HB0, HB1⟩
  case round =>
    clear HB0 HB1
    obtain ⟨A, q, c, k, rfl, hk, rfl, hq, HO, HD, HB⟩ := hrel
    have HQ := Aside0.mk hq
    clear hq
    by_cases hk32 : k < 32
    · have hd1 : decide ((k : Int) < 32) = true := decide_eq_true (by omega)
      have hk2 : (k : Int) < 32 := by omega
      have hx := HCELL.out k hk32
      have hxr := HR.out (l.getD k 0) (by
        rw [List.getD_eq_getElem?_getD, List.getElem?_eq_getElem (show k < l.length by rw [HL.out]; exact hk32)]
        exact List.getElem_mem _)
      have hst := hexL_step (l := l) (k := k) (by rw [HL.out]; exact hk32)
      have HST := Aside0.mk hst
      generalize l.getD k 0 = x at hx hxr HST
      have htd : Int.tdiv x 16 = x / 16 := Int.tdiv_eq_ediv_of_nonneg hxr.1
      have htm : Int.tmod x 16 = x % 16 := Int.tmod_eq_emod_of_nonneg hxr.1
      have hi1 := digit_run (x / 16) (by omega) (by omega)
      have hi2 := digit_run (x % 16) (by omega) (by omega)
      have hw1 : IntKind.u8.wrap (x / 16) = x / 16 := by
        rw [show ∀ z, IntKind.u8.wrap z = z % 256 from fun _ => rfl]
        omega
      have hw2 : IntKind.u8.wrap (x % 16) = x % 16 := by
        rw [show ∀ z, IntKind.u8.wrap z = z % 256 from fun _ => rfl]
        omega
      have HX := Aside0.mk hx
      clear hst hx hxr
      generalize x / 16 = q1 at *
      generalize x % 16 = q2 at *
      generalize dgt q1 = d1 at *
      generalize dgt q2 = d2 at *
      go_wp2
      refine start_ (n := 14) (S := fun w' => w'.heap[w.heap.size]? = some (.cells ⟨vs⟩ 24 (0, 0)) ∧ Below w.heap.size w w') (ds := []) #[false, false, false, false, false, false, false, false, false, false, false, false, false, false] (by kernel_rfl) rfl rfl ⟨blk_drew HD.out, below_drew HB.out⟩ (fun hHeld => ?_)
      refine pure_ (i := 0) (N := (some 9)) (v := ?_) (a' := ?_) #[true, false, false, false, false, false, false, false, false, false, false, false, false, false] rfl rfl (by kernel_rfl) (fun _ _ _ h => h) (Or.inl ⟨by rfl, ?_⟩) ?_ ?_
      rotate_left
      · intro w'
        go_simp
        with_reducible rfl
      rotate_left
      · simp only [Act.put, List.setIfInBounds_toArray, List.set_cons_zero, List.set_cons_succ, i64_w, i32_w]
        rfl
      refine pure_ (i := 1) (N := (some 10)) (v := ?_) (a' := ?_) #[true, true, false, false, false, false, false, false, false, false, false, false, false, false] rfl rfl (by kernel_rfl) (fun _ _ _ h => h) (Or.inl ⟨by rfl, ?_⟩) ?_ ?_
      rotate_left
      · intro w'
        go_simp
        with_reducible rfl
      rotate_left
      · simp only [Act.put, List.setIfInBounds_toArray, List.set_cons_zero, List.set_cons_succ, i64_w, i32_w]
        rfl
      refine pure_ (i := 2) (N := (some 11)) (v := ?_) (a' := ?_) #[true, true, true, false, false, false, false, false, false, false, false, false, false, false] rfl rfl (by kernel_rfl) (fun _ _ _ h => h) (Or.inl ⟨by rfl, ?_⟩) ?_ ?_
      rotate_left
      · intro w'
        go_simp
        with_reducible rfl
      rotate_left
      · simp only [Act.put, List.setIfInBounds_toArray, List.set_cons_zero, List.set_cons_succ, i64_w, i32_w]
        rfl
      refine take_ (i := 3) (N := (some 12)) (v := ?_) (a' := ?_) #[true, true, true, true, false, false, false, false, false, false, false, false, false, false] rfl rfl (by kernel_rfl) (fun _ _ _ h => h) (Or.inl ⟨by rfl, ?_⟩) hHeld ?_ ?_
      rotate_left
      · rintro w' ⟨z0, z1⟩
        have hc := (blk_cell z0 k).trans HX.out
        go_simp
        with_reducible rfl
      rotate_left
      · simp only [Act.put, List.setIfInBounds_toArray, List.set_cons_zero, List.set_cons_succ, i64_w, i32_w]
        rfl
      refine pure_ (i := 4) (N := (some 13)) (v := ?_) (a' := ?_) #[true, true, true, true, true, false, false, false, false, false, false, false, false, false] rfl rfl (by kernel_rfl) (fun _ _ _ h => h) (Or.inl ⟨by rfl, ?_⟩) ?_ ?_
      rotate_left
      · intro w'
        go_simp
        with_reducible rfl
      rotate_left
      · simp only [Act.put, List.setIfInBounds_toArray, List.set_cons_zero, List.set_cons_succ, i64_w, i32_w]
        rfl
      refine pure_ (i := 5) (N := (some 14)) (v := ?_) (a' := ?_) #[true, true, true, true, true, true, false, false, false, false, false, false, false, false] rfl rfl (by kernel_rfl) (fun _ _ _ h => h) (Or.inl ⟨by rfl, ?_⟩) ?_ ?_
      rotate_left
      · intro w'
        go_simp
        with_reducible rfl
      rotate_left
      · simp only [Act.put, List.setIfInBounds_toArray, List.set_cons_zero, List.set_cons_succ, i64_w, i32_w]
        rfl
      refine pure_ (i := 6) (N := (some 15)) (v := ?_) (a' := ?_) #[true, true, true, true, true, true, true, false, false, false, false, false, false, false] rfl rfl (by kernel_rfl) (fun _ _ _ h => h) (Or.inl ⟨by rfl, ?_⟩) ?_ ?_
      rotate_left
      · intro w'
        go_simp
        with_reducible rfl
      rotate_left
      · simp only [Act.put, List.setIfInBounds_toArray, List.set_cons_zero, List.set_cons_succ, i64_w, i32_w]
        rfl
      refine pure_ (i := 7) (N := (some 16)) (v := ?_) (a' := ?_) #[true, true, true, true, true, true, true, true, false, false, false, false, false, false] rfl rfl (by kernel_rfl) (fun _ _ _ h => h) (Or.inl ⟨by rfl, ?_⟩) ?_ ?_
      rotate_left
      · intro w'
        go_simp
        with_reducible rfl
      rotate_left
      · simp only [Act.put, List.setIfInBounds_toArray, List.set_cons_zero, List.set_cons_succ, i64_w, i32_w]
        rfl
      refine take_ (i := 8) (N := (some 17)) (v := ?_) (a' := ?_) #[true, true, true, true, true, true, true, true, true, false, false, false, false, false] rfl rfl (by kernel_rfl) (fun _ _ _ h => h) (Or.inl ⟨by rfl, ?_⟩) hHeld ?_ ?_
      rotate_left
      · rintro w' ⟨z0, z1⟩
        have hc := (blk_cell z0 k).trans HX.out
        go_simp
        with_reducible rfl
      rotate_left
      · simp only [Act.put, List.setIfInBounds_toArray, List.set_cons_zero, List.set_cons_succ, i64_w, i32_w]
        rfl
      refine pure_ (i := 9) (N := (some 18)) (v := ?_) (a' := ?_) #[true, true, true, true, true, true, true, true, true, true, false, false, false, false] rfl rfl (by kernel_rfl) (fun _ _ _ h => h) (Or.inl ⟨by rfl, ?_⟩) ?_ ?_
      rotate_left
      · intro w'
        go_simp
        with_reducible rfl
      rotate_left
      · simp only [Act.put, List.setIfInBounds_toArray, List.set_cons_zero, List.set_cons_succ, i64_w, i32_w]
        rfl
      refine pure_ (i := 10) (N := (some 19)) (v := ?_) (a' := ?_) #[true, true, true, true, true, true, true, true, true, true, true, false, false, false] rfl rfl (by kernel_rfl) (fun _ _ _ h => h) (Or.inl ⟨by rfl, ?_⟩) ?_ ?_
      rotate_left
      · intro w'
        go_simp
        with_reducible rfl
      rotate_left
      · simp only [Act.put, List.setIfInBounds_toArray, List.set_cons_zero, List.set_cons_succ, i64_w, i32_w]
        rfl
      refine one_ (i := 11) (N := (some 20)) #[true, true, true, true, true, true, true, true, true, true, true, true, false, false] rfl rfl (by kernel_rfl) (by decide) (fun K hK => ?_)
      refine ite_wanted rfl ?_
      have HOd := Kd.R_alloc (Kd.R_drew HO.out) (.cells #[.int .u8 d1, .int .u8 d2] 5)
      have hnew := heap_alloc_new (wof hHeld.1) (.cells #[.int .u8 d1, .int .u8 d2] 5)
      have hS := And.intro (blk_alloc hHeld.1 (.cells #[.int .u8 d1, .int .u8 d2] 5)) (below_alloc hHeld.2 (.cells #[.int .u8 d1, .int .u8 d2] 5))
      dsimp only [wof] at hnew
      go_simp
      refine hK.out _ _ hS (fun hHeld => ?_)
      clear hS hK K
      refine one_ (i := 12) (N := (some 21)) #[true, true, true, true, true, true, true, true, true, true, true, true, true, false] rfl rfl (by kernel_rfl) (by decide) (fun K hK => ?_)
      refine Kd.R_append_rows_step (Kd.int .u8) (w0 := w) w.heap.size rfl (.tmp 9) (.tmp 20) 22 5 (.int .u8 0) 1 rfl Tryd.underlying22 info5 rfl (by decide) (by omega) (.slice A q c) (hexL (l.take k)) [d1, d2] _ 2 2 (fun _ => True) (fun _ => False) rfl rfl HOd (Kd.F_now (F_row .u8 [d1, d2] (ok := fun _ => True) (by simp) trivial hnew)) (fun _ _ h => h) (fun _ h => h.elim) (fun _ _ => trivial) hHeld.2 (below_size hHeld.2) (by rw [hexL_length, List.length_take, HL.out]; omega) ?_
      intro v1 w1 ho hb hg hat
      have hd := blk_grown hHeld.1 hg (Kd.R_ne HOd hHeld.1 (by decide))
      refine hK.out _ _ ⟨hd, hb⟩ (fun hHeld1 => ?_)
      clear hK K
      rw [← HST.out] at ho
      obtain ⟨A1, c1, rfl⟩ := Kd.R_slice ho
      have hll : (hexL (l.take (k + 1))).length = 2 * k + 2 := by rw [hexL_length, List.length_take, HL.out]; omega
      rw [hll] at ho ⊢
      have HO1 := Aside0.mk ho
      have HD1 := Aside0.mk hd
      have HB1 := Aside0.mk hb
      clear hg hat hnew hHeld
      refine norm_ (a' := ?_) ?_ ?_
      rotate_left
      · show Act.put _ (some 21) _ = _
        simp only [Act.put, List.setIfInBounds_toArray, List.set_cons_zero, List.set_cons_succ, i64_w, i32_w]
        rfl
      refine pure_ (i := 13) (N := (some 3)) (v := ?_) (a' := ?_) #[true, true, true, true, true, true, true, true, true, true, true, true, true, true] rfl rfl (by kernel_rfl) (fun _ _ _ h => h) (Or.inl ⟨by rfl, ?_⟩) ?_ ?_
      rotate_left
      · intro w'
        go_simp
        with_reducible rfl
      rotate_left
      · simp only [Act.put, List.setIfInBounds_toArray, List.set_cons_zero, List.set_cons_succ, i64_w, i32_w]
        rfl
      refine done_ (by kernel_rfl) ?_
      go_wp2
      exact ⟨⟨A1, 2 * k + 2, c1, k + 1, rfl, by omega, rfl, by omega, HO1, HD1, HB1⟩, by simp [intOf]; omega⟩
    · have hd1 : decide ((k : Int) < 32) = false := decide_eq_false (by omega)
      have hk3 : k = 32 := by omega
      subst hk3
      have ho := HO.out
      rw [List.take_of_length_le (by rw [HL.out]; exact Nat.le_refl _)] at ho
      have hcv := Kd.C_string (P := Tryd.prog) (src := 22) (dst := 9) (c := c) Tryd.underlying22 Tryd.underlying5 Tryd.underlying9 (Kd.F_now (Kd.R_F ho))
      clear ho HO
      go_wp2
      go_ret
      exact ⟨rfl, HB.out⟩
end Go.Proofs.YtfijclinefmbfaaDoor
