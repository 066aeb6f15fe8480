/-
sha.spread: a block's 64 words.
-/
import Derived.Test.YtncipbbdboeinaaDoorShaOf
import Derived.Test.YtncipbbdboeinaaDoorWhole
import Derived.Deep.LoopGhost
namespace Go.Proofs.YtncipbbdboeinaaDoor
open Go.RowKit Go.Proofs.YtncipbbdboeinaaDoorW.PrintWords Go.Proofs.YtncipbbdboeinaaDoorW.PrintLast Go.Proofs.YtncipbbdboeinaaDoorW.PrintMore Go.Proofs.YtncipbbdboeinaaDoor.PAll
set_option linter.unusedVariables false
set_option linter.unusedSimpArgs false

def ad (x y : Int) : Int := (x + y) % 4294967296
def putB (x c : Int) : Int := Go.bits .or .u32 (x * 256 % 4294967296) (c % 4294967296)
/-- Word t of a block, of its first j bytes. -/
def word4 (b : List Int) (t : Nat) : Nat → Int
  | 0 => 0
  | j + 1 => putB (word4 b t j) (b.getD (4 * t + j) 0)
def nextA (b ws : List Int) (t : Nat) : Int := if t < 16 then word4 b t 4 else ad (ad (ad (ws.getD (t - 16) 0) (lowW (ws.getD (t - 15) 0))) (ws.getD (t - 7) 0)) (highW (ws.getD (t - 2) 0))
def wordsA (b : List Int) : Nat → List Int
  | 0 => []
  | t + 1 => wordsA b t ++ [nextA b (wordsA b t) t]
theorem wordsA_length (b : List Int) : ∀ t, (wordsA b t).length = t
  | 0 => rfl
  | t + 1 => by rw [wordsA, List.length_append, wordsA_length b t]; rfl
/-- The words' cells while word t is made. -/
def fillW (b : List Int) (t : Nat) (v : Int) : List Int := wordsA b t ++ v :: List.replicate (63 - t) 0
def cellsW (b : List Int) (t : Nat) (v : Int) : Array Value := ⟨(fillW b t v).map (Value.int .u32)⟩
def cellsAt (b : List Int) (t : Nat) : Array Value := ⟨(wordsA b t ++ List.replicate (64 - t) 0).map (Value.int .u32)⟩
theorem cellsW_get (b : List Int) {t : Nat} (v : Int) : (cellsW b t v)[t]? = some (.int .u32 v) := by
  simp [cellsW, fillW, wordsA_length]
theorem cellsW_low (b : List Int) {t i : Nat} (v : Int) (h : i < t) : (cellsW b t v)[i]? = some (.int .u32 ((wordsA b t).getD i 0)) := by
  have hl : i < (wordsA b t).length := by rw [wordsA_length]; exact h
  have : (fillW b t v)[i]? = some ((wordsA b t).getD i 0) := by
    unfold fillW
    rw [List.getElem?_append_left hl, List.getD_eq_getElem?_getD, List.getElem?_eq_getElem hl]
    rfl
  simp only [cellsW, List.getElem?_toArray, List.getElem?_map, this, Option.map_some]
theorem cellsW_set (b : List Int) {t : Nat} (v u : Int) : (cellsW b t v).setIfInBounds t (.int .u32 u) = cellsW b t u := by
  simp [cellsW, fillW, wordsA_length]
theorem cellsAt_W (b : List Int) {t : Nat} (h : t < 64) : cellsAt b t = cellsW b t 0 := by
  unfold cellsAt cellsW fillW
  rw [show 64 - t = (63 - t) + 1 by omega, List.replicate_succ]
theorem cellsW_next (b : List Int) {t : Nat} (h : t < 64) : cellsW b t (nextA b (wordsA b t) t) = cellsAt b (t + 1) := by
  unfold cellsAt cellsW fillW
  rw [wordsA, List.append_assoc, show 64 - (t + 1) = 63 - t by omega]
  rfl
theorem cellsAt_all (b : List Int) : cellsAt b 64 = ⟨(wordsA b 64).map (Value.int .u32)⟩ := by simp [cellsAt]

theorem alloc3 (w : World) (a b c : Obj) : (((w.alloc a).alloc b).alloc c).heap[w.heap.size]? = some a ∧ (((w.alloc a).alloc b).alloc c).heap[w.heap.size + 1]? = some b ∧ (((w.alloc a).alloc b).alloc c).heap[w.heap.size + 1 + 1]? = some c := by
  refine ⟨?_, ?_, ?_⟩
  · exact blk_alloc (blk_alloc (heap_alloc_new w a) b) c
  · have := heap_alloc_new (w.alloc a) b
    rw [show (w.alloc a).heap.size = w.heap.size + 1 by simp] at this
    exact blk_alloc this c
  · have := heap_alloc_new ((w.alloc a).alloc b) c
    rw [show ((w.alloc a).alloc b).heap.size = w.heap.size + 1 + 1 by simp] at this
    exact this
theorem add_add_ (A : Addr) (x y : Nat) : (A.add x).add y = A.add (x + y) := by
  unfold Addr.add
  by_cases hx : x = 0 <;> by_cases hy : y = 0 <;> simp_all [Nat.add_assoc]
theorem blk_setW {W : World} {g t : Nat} {b : List Int} {v : Int} (h : W.heap[g]? = some (.cells (cellsW b t v) 73 (0, 0))) (u : Int) : (W.setCell ⟨g, t, none⟩ (.int .u32 u)).heap[g]? = some (.cells (cellsW b t u) 73 (0, 0)) := by
  have := blk_set h t (.int .u32 u)
  rw [cellsW_set] at this
  exact this

set_option maxHeartbeats 4000000 in
set_option maxRecDepth 100000 in
theorem spread_calls (A : Addr) (c0 : Nat) (b : List Int) (hb : b.length = 64) (w : World) (hr : Kd.C (Kd.int .u8) w (some A) 64 b) (hc : 64 ≤ c0) :
    Calls Tryd.prog 36 #[.slice (some A) 64 c0] w fun e w' => e = .returned (.agg ⟨(wordsA b 64).map (Value.int .u32)⟩) ∧ Below w.heap.size w w' := by
  have HR := Aside0.mk hr
  have HC := Aside0.mk hc
  have HL := Aside0.mk hb
  clear hr hc hb
  go_enter Tryd.func36, Tryd.ntmps36
  go_wp2
  generalize hW1 : ((w.alloc _).alloc _).alloc _ = W1
  obtain ⟨hk0, hk1, hk2⟩ := alloc3 w (.cells (cellsAt b 0) 73) (.cells #[.int .i64 7, .int .i64 18, .int .i64 3, .bool true] 72) (.cells #[.int .i64 17, .int .i64 19, .int .i64 10, .bool true] 72)
  have hW2 : ((w.alloc (.cells (cellsAt b 0) 73)).alloc (.cells #[.int .i64 7, .int .i64 18, .int .i64 3, .bool true] 72)).alloc (.cells #[.int .i64 17, .int .i64 19, .int .i64 10, .bool true] 72) = W1 := hW1
  have HB1 : Aside0 (Below w.heap.size w W1) := ⟨by rw [← hW2]; exact below_alloc (below_alloc (below_alloc (Below.refl _ _) _) _) _⟩
  rw [hW2] at hk0 hk1 hk2
  clear hW1 hW2
  have HK0 := Aside0.mk hk0
  have HK1 := Aside0.mk hk1
  have HK2 := Aside0.mk hk2
  clear hk0 hk1 hk2
  go_loopw [12] (fun i wr => ∃ t : Nat, i = .int .i64 t ∧ t ≤ 64 ∧ Aside0 (wr.heap[w.heap.size]? = some (.cells (cellsAt b t) 73 (0, 0))) ∧ Aside0 (wr.heap[w.heap.size + 1]? = some (.cells #[.int .i64 7, .int .i64 18, .int .i64 3, .bool true] 72 (0, 0))) ∧ Aside0 (wr.heap[w.heap.size + 1 + 1]? = some (.cells #[.int .i64 17, .int .i64 19, .int .i64 10, .bool true] 72 (0, 0))) ∧ Aside0 (Below w.heap.size w wr)) (fun i _ => 64 - (intOf i).toNat)
  case atStart => exact ⟨0, rfl, by omega, HK0, HK1, HK2, HB1⟩
  case round =>
    clear HK0 HK1 HK2 HB1
    obtain ⟨t, rfl, ht, HK0, HK1, HK2, HB⟩ := hrel
    by_cases hlt : t < 64
    · have hd1 : decide ((t : Int) < 64) = true := decide_eq_true (by omega)
      have HW := HK0.out
      rw [cellsAt_W b hlt] at HW
      have HW0 := Aside0.mk HW
      clear HK0 HW
      by_cases h16 : t < 16
      · have hd2 : decide ((t : Int) < 16) = true := decide_eq_true (by omega)
        have b1 : 0 ≤ 4 * (t : Int) + 4 := by omega
        have b2 : 4 * (t : Int) + 4 ≤ (c0 : Int) := by have := HC.out; omega
        have b3 : 0 ≤ 4 * (t : Int) := by omega
        have b5 : (4 * (t : Int) + 4).toNat = 4 * t + 4 := by omega
        have b6 : ¬ c0 = 4 * t := by have := HC.out; omega
        have b7 : 4 * t + 4 - 4 * t = 4 := by omega
        have HLT := Aside0.mk hlt
        have H16 := Aside0.mk h16
        go_wp2
        rw [b7]
        clear b1 b2 b3 b5 b6 b7
        go_loopw [25] (fun i wr => ∃ j : Nat, i = .int .i64 j ∧ j ≤ 4 ∧ Aside0 (wr.heap[w.heap.size]? = some (.cells (cellsW b t (word4 b t j)) 73 (0, 0))) ∧ Aside0 (wr.heap[w.heap.size + 1]? = some (.cells #[.int .i64 7, .int .i64 18, .int .i64 3, .bool true] 72 (0, 0))) ∧ Aside0 (wr.heap[w.heap.size + 1 + 1]? = some (.cells #[.int .i64 17, .int .i64 19, .int .i64 10, .bool true] 72 (0, 0))) ∧ Aside0 (Below w.heap.size w wr)) (fun i _ => 4 - (intOf i).toNat)
        case atStart => exact ⟨0, rfl, by omega, HW0, HK1, HK2, HB⟩
        case round =>
          clear HW0 HK1 HK2 HB
          obtain ⟨j, rfl, hj, HW0, HK1, HK2, HB⟩ := hrel
          by_cases hj4 : j < 4
          · have hd3 : decide ((j : Int) < 4) = true := decide_eq_true (by omega)
            obtain ⟨ad, e1, hx0⟩ := Kd.at_int (Kd.C_below HR.out HB.out) ((4 * t + j : Nat) : Int) (by omega) (by omega)
            cases e1
            have hx : wr.cell? ((A.add (4 * t)).add j) = some (.int .u8 (b.getD (4 * t + j) 0)) := by
              rw [add_add_]
              rw [rd, Int.toNat_natCast] at hx0
              exact hx0
            clear hx0
            have hcw := (blk_cell HW0.out t).trans (cellsW_get b (word4 b t j))
            have hfw := blk_frozen HW0.out t
            have k1 : (j : Int) < 4 := by omega
            have k2 : (t : Int) < 64 := by have := HLT.out; omega
            have hnew := blk_setW HW0.out (putB (word4 b t j) (b.getD (4 * t + j) 0))
            have hk1 := (Below.heap_setCell wr ⟨w.heap.size, t, none⟩ (.int .u32 (putB (word4 b t j) (b.getD (4 * t + j) 0))) (w.heap.size + 1) (by simp)).trans HK1.out
            have hk2 := (Below.heap_setCell wr ⟨w.heap.size, t, none⟩ (.int .u32 (putB (word4 b t j) (b.getD (4 * t + j) 0))) (w.heap.size + 1 + 1) (by simp; omega)).trans HK2.out
            have hbb := HB.out.setCell (p := ⟨w.heap.size, t, none⟩) (Nat.le_refl _) (.int .u32 (putB (word4 b t j) (b.getD (4 * t + j) 0)))
            have HN := Aside0.mk hnew
            have HN1 := Aside0.mk hk1
            have HN2 := Aside0.mk hk2
            have HNB := Aside0.mk hbb
            clear hnew hk1 hk2 hbb
            go_wp2
            exact ⟨⟨j + 1, rfl, by omega, HN, HN1, HN2, HNB⟩, by simp [intOf]; omega⟩
          · have hd3 : decide ((j : Int) < 4) = false := decide_eq_false (by omega)
            have hj44 : j = 4 := by omega
            subst hj44
            have hnx : Aside0 (wr.heap[w.heap.size]? = some (.cells (cellsAt b (t + 1)) 73 (0, 0))) := ⟨by
              have := HW0.out
              rw [show word4 b t 4 = nextA b (wordsA b t) t by unfold nextA; rw [if_pos H16.out], cellsW_next b HLT.out] at this
              exact this⟩
            clear HW0
            go_wp2
            exact ⟨⟨t + 1, rfl, by omega, hnx, HK1, HK2, HB⟩, by simp [intOf]; omega⟩
      · have hd2 : decide ((t : Int) < 16) = false := decide_eq_false (by omega)
        obtain ⟨p16, e16⟩ : ∃ p, p = t - 16 := ⟨_, rfl⟩
        obtain ⟨p15, e15⟩ : ∃ p, p = t - 15 := ⟨_, rfl⟩
        obtain ⟨p7, e7⟩ : ∃ p, p = t - 7 := ⟨_, rfl⟩
        obtain ⟨p2, e2⟩ : ∃ p, p = t - 2 := ⟨_, rfl⟩
        have hw16 : wrap64 ((t : Int) - 16) = (p16 : Int) := by unfold wrap64; omega
        have hw15 : wrap64 ((t : Int) - 15) = (p15 : Int) := by unfold wrap64; omega
        have hw7 : wrap64 ((t : Int) - 7) = (p7 : Int) := by unfold wrap64; omega
        have hw2 : wrap64 ((t : Int) - 2) = (p2 : Int) := by unfold wrap64; omega
        have k16 : (p16 : Int) < 64 := by omega
        have k15 : (p15 : Int) < 64 := by omega
        have k7 : (p7 : Int) < 64 := by omega
        have k2 : (p2 : Int) < 64 := by omega
        have kt : (t : Int) < 64 := by omega
        have x16 := Aside0.mk (cellsW_low b 0 (show p16 < t by omega))
        have x15 := Aside0.mk (cellsW_low b 0 (show p15 < t by omega))
        have x7 := Aside0.mk (cellsW_low b 0 (show p7 < t by omega))
        have x2 := Aside0.mk (cellsW_low b 0 (show p2 < t by omega))
        have hnext : Aside0 (nextA b (wordsA b t) t = ad (ad (ad ((wordsA b t).getD p16 0) (lowW ((wordsA b t).getD p15 0))) ((wordsA b t).getD p7 0)) (highW ((wordsA b t).getD p2 0))) := ⟨by unfold nextA; rw [if_neg h16, e16, e15, e7, e2]⟩
        have HE := Aside0.mk (And.intro e16 (And.intro e15 (And.intro e7 e2)))
        generalize (wordsA b t).getD p16 0 = y16 at x16 hnext
        generalize (wordsA b t).getD p15 0 = y15 at x15 hnext
        generalize (wordsA b t).getD p7 0 = y7 at x7 hnext
        generalize (wordsA b t).getD p2 0 = y2 at x2 hnext
        clear e16 e15 e7 e2
        go_wp2
        refine start_ (n := 26) (S := fun w' => w'.heap[w.heap.size]? = some (.cells (cellsW b t 0) 73 (0, 0)) ∧ w'.heap[w.heap.size + 1]? = some (.cells #[.int .i64 7, .int .i64 18, .int .i64 3, .bool true] 72 (0, 0)) ∧ w'.heap[w.heap.size + 1 + 1]? = some (.cells #[.int .i64 17, .int .i64 19, .int .i64 10, .bool true] 72 (0, 0)) ∧ Below w.heap.size w w') (ds := [25]) #[false, false, false, false, false, false, false, false, false, false, false, false, false, false, false, false, false, false, false, false, false, false, false, false, false, false] (by kernel_rfl) rfl rfl ⟨blk_drew HW0.out, blk_drew HK1.out, blk_drew HK2.out, below_drew HB.out⟩ (fun hHeld => ?_)
        refine pure_ (i := 0) (N := (some 39)) (v := ?_) (a' := ?_) #[true, false, false, false, false, false, false, false, false, false, false, false, false, false, false, false, false, false, false, false, false, false, false, false, false, false] rfl rfl (by kernel_rfl) (fun _ _ _ h => h) (Or.inl ⟨by rfl, ?_⟩) ?_ ?_
        rotate_left
        · intro w'
          go_simp
          with_reducible rfl
        rotate_left
        · simp only [Act.put, List.setIfInBounds_toArray, List.set_cons_zero, List.set_cons_succ, i64_w, i32_w, hw16, hw15, hw7, hw2]
          rfl
        refine pure_ (i := 1) (N := (some 40)) (v := ?_) (a' := ?_) #[true, true, false, false, false, false, false, false, false, false, false, false, false, false, false, false, false, false, false, false, false, false, false, false, false, false] rfl rfl (by kernel_rfl) (fun _ _ _ h => h) (Or.inl ⟨by rfl, ?_⟩) ?_ ?_
        rotate_left
        · intro w'
          go_simp
          with_reducible rfl
        rotate_left
        · simp only [Act.put, List.setIfInBounds_toArray, List.set_cons_zero, List.set_cons_succ, i64_w, i32_w, hw16, hw15, hw7, hw2]
          rfl
        refine pure_ (i := 2) (N := (some 41)) (v := ?_) (a' := ?_) #[true, true, true, false, false, false, false, false, false, false, false, false, false, false, false, false, false, false, false, false, false, false, false, false, false, false] rfl rfl (by kernel_rfl) (fun _ _ _ h => h) (Or.inl ⟨by rfl, ?_⟩) ?_ ?_
        rotate_left
        · intro w'
          go_simp
          with_reducible rfl
        rotate_left
        · simp only [Act.put, List.setIfInBounds_toArray, List.set_cons_zero, List.set_cons_succ, i64_w, i32_w, hw16, hw15, hw7, hw2]
          rfl
        refine pure_ (i := 3) (N := (some 42)) (v := ?_) (a' := ?_) #[true, true, true, true, false, false, false, false, false, false, false, false, false, false, false, false, false, false, false, false, false, false, false, false, false, false] rfl rfl (by kernel_rfl) (fun _ _ _ h => h) (Or.inl ⟨by rfl, ?_⟩) ?_ ?_
        rotate_left
        · intro w'
          go_simp
          with_reducible rfl
        rotate_left
        · simp only [Act.put, List.setIfInBounds_toArray, List.set_cons_zero, List.set_cons_succ, i64_w, i32_w, hw16, hw15, hw7, hw2]
          rfl
        refine take_ (i := 4) (N := (some 43)) (v := ?_) (a' := ?_) #[true, true, true, true, true, false, false, false, false, false, false, false, false, false, false, false, false, false, false, false, false, false, false, false, false, false] rfl rfl (by kernel_rfl) (fun _ _ _ h => h) (Or.inl ⟨by rfl, ?_⟩) hHeld ?_ ?_
        rotate_left
        · rintro w' ⟨s0, s1, s2, s3⟩
          have hx := (blk_cell s0 p16).trans x16.out
          go_simp
          with_reducible rfl
        rotate_left
        · simp only [Act.put, List.setIfInBounds_toArray, List.set_cons_zero, List.set_cons_succ, i64_w, i32_w, hw16, hw15, hw7, hw2]
          rfl
        refine take_ (i := 5) (N := (some 44)) (v := ?_) (a' := ?_) #[true, true, true, true, true, true, false, false, false, false, false, false, false, false, false, false, false, false, false, false, false, false, false, false, false, false] rfl rfl (by kernel_rfl) (fun _ _ _ h => h) (Or.inl ⟨by rfl, ?_⟩) hHeld ?_ ?_
        rotate_left
        · rintro w' ⟨s0, s1, s2, s3⟩
          obtain ⟨hc0, hc1, hc2, hc3⟩ := box4 s1
          go_simp
          with_reducible rfl
        rotate_left
        · simp only [Act.put, List.setIfInBounds_toArray, List.set_cons_zero, List.set_cons_succ, i64_w, i32_w, hw16, hw15, hw7, hw2]
          rfl
        refine pure_ (i := 6) (N := (some 45)) (v := ?_) (a' := ?_) #[true, true, true, true, true, true, true, false, false, false, false, false, false, false, false, false, false, false, false, false, false, false, false, false, false, false] rfl rfl (by kernel_rfl) (fun _ _ _ h => h) (Or.inl ⟨by rfl, ?_⟩) ?_ ?_
        rotate_left
        · intro w'
          go_simp
          with_reducible rfl
        rotate_left
        · simp only [Act.put, List.setIfInBounds_toArray, List.set_cons_zero, List.set_cons_succ, i64_w, i32_w, hw16, hw15, hw7, hw2]
          rfl
        refine pure_ (i := 7) (N := (some 46)) (v := ?_) (a' := ?_) #[true, true, true, true, true, true, true, true, false, false, false, false, false, false, false, false, false, false, false, false, false, false, false, false, false, false] rfl rfl (by kernel_rfl) (fun _ _ _ h => h) (Or.inl ⟨by rfl, ?_⟩) ?_ ?_
        rotate_left
        · intro w'
          go_simp
          with_reducible rfl
        rotate_left
        · simp only [Act.put, List.setIfInBounds_toArray, List.set_cons_zero, List.set_cons_succ, i64_w, i32_w, hw16, hw15, hw7, hw2]
          rfl
        refine pure_ (i := 8) (N := (some 47)) (v := ?_) (a' := ?_) #[true, true, true, true, true, true, true, true, true, false, false, false, false, false, false, false, false, false, false, false, false, false, false, false, false, false] rfl rfl (by kernel_rfl) (fun _ _ _ h => h) (Or.inl ⟨by rfl, ?_⟩) ?_ ?_
        rotate_left
        · intro w'
          go_simp
          with_reducible rfl
        rotate_left
        · simp only [Act.put, List.setIfInBounds_toArray, List.set_cons_zero, List.set_cons_succ, i64_w, i32_w, hw16, hw15, hw7, hw2]
          rfl
        refine take_ (i := 9) (N := (some 48)) (v := ?_) (a' := ?_) #[true, true, true, true, true, true, true, true, true, true, false, false, false, false, false, false, false, false, false, false, false, false, false, false, false, false] rfl rfl (by kernel_rfl) (fun _ _ _ h => h) (Or.inl ⟨by rfl, ?_⟩) hHeld ?_ ?_
        rotate_left
        · rintro w' ⟨s0, s1, s2, s3⟩
          have hx := (blk_cell s0 p15).trans x15.out
          go_simp
          with_reducible rfl
        rotate_left
        · simp only [Act.put, List.setIfInBounds_toArray, List.set_cons_zero, List.set_cons_succ, i64_w, i32_w, hw16, hw15, hw7, hw2]
          rfl
        refine pure_ (i := 12) (N := (some 51)) (v := ?_) (a' := ?_) #[true, true, true, true, true, true, true, true, true, true, false, false, true, false, false, false, false, false, false, false, false, false, false, false, false, false] rfl rfl (by kernel_rfl) (fun _ _ _ h => h) (Or.inl ⟨by rfl, ?_⟩) ?_ ?_
        rotate_left
        · intro w'
          go_simp
          with_reducible rfl
        rotate_left
        · simp only [Act.put, List.setIfInBounds_toArray, List.set_cons_zero, List.set_cons_succ, i64_w, i32_w, hw16, hw15, hw7, hw2]
          rfl
        refine pure_ (i := 13) (N := (some 52)) (v := ?_) (a' := ?_) #[true, true, true, true, true, true, true, true, true, true, false, false, true, true, false, false, false, false, false, false, false, false, false, false, false, false] rfl rfl (by kernel_rfl) (fun _ _ _ h => h) (Or.inl ⟨by rfl, ?_⟩) ?_ ?_
        rotate_left
        · intro w'
          go_simp
          with_reducible rfl
        rotate_left
        · simp only [Act.put, List.setIfInBounds_toArray, List.set_cons_zero, List.set_cons_succ, i64_w, i32_w, hw16, hw15, hw7, hw2]
          rfl
        refine pure_ (i := 14) (N := (some 53)) (v := ?_) (a' := ?_) #[true, true, true, true, true, true, true, true, true, true, false, false, true, true, true, false, false, false, false, false, false, false, false, false, false, false] rfl rfl (by kernel_rfl) (fun _ _ _ h => h) (Or.inl ⟨by rfl, ?_⟩) ?_ ?_
        rotate_left
        · intro w'
          go_simp
          with_reducible rfl
        rotate_left
        · simp only [Act.put, List.setIfInBounds_toArray, List.set_cons_zero, List.set_cons_succ, i64_w, i32_w, hw16, hw15, hw7, hw2]
          rfl
        refine take_ (i := 15) (N := (some 54)) (v := ?_) (a' := ?_) #[true, true, true, true, true, true, true, true, true, true, false, false, true, true, true, true, false, false, false, false, false, false, false, false, false, false] rfl rfl (by kernel_rfl) (fun _ _ _ h => h) (Or.inl ⟨by rfl, ?_⟩) hHeld ?_ ?_
        rotate_left
        · rintro w' ⟨s0, s1, s2, s3⟩
          have hx := (blk_cell s0 p7).trans x7.out
          go_simp
          with_reducible rfl
        rotate_left
        · simp only [Act.put, List.setIfInBounds_toArray, List.set_cons_zero, List.set_cons_succ, i64_w, i32_w, hw16, hw15, hw7, hw2]
          rfl
        refine take_ (i := 17) (N := (some 56)) (v := ?_) (a' := ?_) #[true, true, true, true, true, true, true, true, true, true, false, false, true, true, true, true, false, true, false, false, false, false, false, false, false, false] rfl rfl (by kernel_rfl) (fun _ _ _ h => h) (Or.inl ⟨by rfl, ?_⟩) hHeld ?_ ?_
        rotate_left
        · rintro w' ⟨s0, s1, s2, s3⟩
          obtain ⟨hc0, hc1, hc2, hc3⟩ := box4 s2
          go_simp
          with_reducible rfl
        rotate_left
        · simp only [Act.put, List.setIfInBounds_toArray, List.set_cons_zero, List.set_cons_succ, i64_w, i32_w, hw16, hw15, hw7, hw2]
          rfl
        refine pure_ (i := 18) (N := (some 57)) (v := ?_) (a' := ?_) #[true, true, true, true, true, true, true, true, true, true, false, false, true, true, true, true, false, true, true, false, false, false, false, false, false, false] rfl rfl (by kernel_rfl) (fun _ _ _ h => h) (Or.inl ⟨by rfl, ?_⟩) ?_ ?_
        rotate_left
        · intro w'
          go_simp
          with_reducible rfl
        rotate_left
        · simp only [Act.put, List.setIfInBounds_toArray, List.set_cons_zero, List.set_cons_succ, i64_w, i32_w, hw16, hw15, hw7, hw2]
          rfl
        refine pure_ (i := 19) (N := (some 58)) (v := ?_) (a' := ?_) #[true, true, true, true, true, true, true, true, true, true, false, false, true, true, true, true, false, true, true, true, false, false, false, false, false, false] rfl rfl (by kernel_rfl) (fun _ _ _ h => h) (Or.inl ⟨by rfl, ?_⟩) ?_ ?_
        rotate_left
        · intro w'
          go_simp
          with_reducible rfl
        rotate_left
        · simp only [Act.put, List.setIfInBounds_toArray, List.set_cons_zero, List.set_cons_succ, i64_w, i32_w, hw16, hw15, hw7, hw2]
          rfl
        refine pure_ (i := 20) (N := (some 59)) (v := ?_) (a' := ?_) #[true, true, true, true, true, true, true, true, true, true, false, false, true, true, true, true, false, true, true, true, true, false, false, false, false, false] rfl rfl (by kernel_rfl) (fun _ _ _ h => h) (Or.inl ⟨by rfl, ?_⟩) ?_ ?_
        rotate_left
        · intro w'
          go_simp
          with_reducible rfl
        rotate_left
        · simp only [Act.put, List.setIfInBounds_toArray, List.set_cons_zero, List.set_cons_succ, i64_w, i32_w, hw16, hw15, hw7, hw2]
          rfl
        refine take_ (i := 21) (N := (some 60)) (v := ?_) (a' := ?_) #[true, true, true, true, true, true, true, true, true, true, false, false, true, true, true, true, false, true, true, true, true, true, false, false, false, false] rfl rfl (by kernel_rfl) (fun _ _ _ h => h) (Or.inl ⟨by rfl, ?_⟩) hHeld ?_ ?_
        rotate_left
        · rintro w' ⟨s0, s1, s2, s3⟩
          have hx := (blk_cell s0 p2).trans x2.out
          go_simp
          with_reducible rfl
        rotate_left
        · simp only [Act.put, List.setIfInBounds_toArray, List.set_cons_zero, List.set_cons_succ, i64_w, i32_w, hw16, hw15, hw7, hw2]
          rfl
        refine one_ (i := 10) (N := (some 49)) #[true, true, true, true, true, true, true, true, true, true, true, false, true, true, true, true, false, true, true, true, true, true, false, false, false, false] rfl rfl (by kernel_rfl) (by decide) (fun K hK => ?_)
        refine goes_ Tryd.func37 (by kernel_rfl) rfl #[.agg #[.int .i64 7, .int .i64 18, .int .i64 3, .bool true], .int .u32 y15] (by rfl) rfl rfl (by (try simp only [List.map_toArray, List.map_cons, List.map_nil]); first | done | rfl) ?_
        with_reducible refine (of_low y15 _).mono ?_
        rintro e w' ⟨rfl, hb⟩
        refine ⟨_, rfl, ?_⟩
        refine hK.out _ _ ⟨blk_below hHeld.1 hb, blk_below hHeld.2.1 hb, blk_below hHeld.2.2.1 hb, bl hHeld.2.2.2 hb⟩ (fun hHeld => ?_)
        clear hK K
        refine norm_ (a' := ?_) ?_ ?_
        rotate_left
        · show Act.put _ (some 49) _ = _
          simp only [Act.put, List.setIfInBounds_toArray, List.set_cons_zero, List.set_cons_succ, i64_w, i32_w, hw16, hw15, hw7, hw2]
          rfl
        refine pure_ (i := 11) (N := (some 50)) (v := ?_) (a' := ?_) #[true, true, true, true, true, true, true, true, true, true, true, true, true, true, true, true, false, true, true, true, true, true, false, false, false, false] rfl rfl (by kernel_rfl) (fun _ _ _ h => h) (Or.inl ⟨by rfl, ?_⟩) ?_ ?_
        rotate_left
        · intro w'
          go_simp
          with_reducible rfl
        rotate_left
        · simp only [Act.put, List.setIfInBounds_toArray, List.set_cons_zero, List.set_cons_succ, i64_w, i32_w, hw16, hw15, hw7, hw2]
          rfl
        refine pure_ (i := 16) (N := (some 55)) (v := ?_) (a' := ?_) #[true, true, true, true, true, true, true, true, true, true, true, true, true, true, true, true, true, true, true, true, true, true, false, false, false, false] rfl rfl (by kernel_rfl) (fun _ _ _ h => h) (Or.inl ⟨by rfl, ?_⟩) ?_ ?_
        rotate_left
        · intro w'
          go_simp
          with_reducible rfl
        rotate_left
        · simp only [Act.put, List.setIfInBounds_toArray, List.set_cons_zero, List.set_cons_succ, i64_w, i32_w, hw16, hw15, hw7, hw2]
          rfl
        refine one_ (i := 22) (N := (some 61)) #[true, true, true, true, true, true, true, true, true, true, true, true, true, true, true, true, true, true, true, true, true, true, true, false, false, false] rfl rfl (by kernel_rfl) (by decide) (fun K hK => ?_)
        refine goes_ Tryd.func37 (by kernel_rfl) rfl #[.agg #[.int .i64 17, .int .i64 19, .int .i64 10, .bool true], .int .u32 y2] (by rfl) rfl rfl (by (try simp only [List.map_toArray, List.map_cons, List.map_nil]); first | done | rfl) ?_
        with_reducible refine (of_high y2 _).mono ?_
        rintro e w' ⟨rfl, hb⟩
        refine ⟨_, rfl, ?_⟩
        refine hK.out _ _ ⟨blk_below hHeld.1 hb, blk_below hHeld.2.1 hb, blk_below hHeld.2.2.1 hb, bl hHeld.2.2.2 hb⟩ (fun hHeld => ?_)
        clear hK K
        refine norm_ (a' := ?_) ?_ ?_
        rotate_left
        · show Act.put _ (some 61) _ = _
          simp only [Act.put, List.setIfInBounds_toArray, List.set_cons_zero, List.set_cons_succ, i64_w, i32_w, hw16, hw15, hw7, hw2]
          rfl
        refine pure_ (i := 23) (N := (some 62)) (v := ?_) (a' := ?_) #[true, true, true, true, true, true, true, true, true, true, true, true, true, true, true, true, true, true, true, true, true, true, true, true, false, false] rfl rfl (by kernel_rfl) (fun _ _ _ h => h) (Or.inl ⟨by rfl, ?_⟩) ?_ ?_
        rotate_left
        · intro w'
          go_simp
          with_reducible rfl
        rotate_left
        · simp only [Act.put, List.setIfInBounds_toArray, List.set_cons_zero, List.set_cons_succ, i64_w, i32_w, hw16, hw15, hw7, hw2]
          rfl
        refine pure_ (i := 24) (N := (some 63)) (v := ?_) (a' := ?_) #[true, true, true, true, true, true, true, true, true, true, true, true, true, true, true, true, true, true, true, true, true, true, true, true, true, false] rfl rfl (by kernel_rfl) (fun _ _ _ h => h) (Or.inl ⟨by rfl, ?_⟩) ?_ ?_
        rotate_left
        · intro w'
          go_simp
          with_reducible rfl
        rotate_left
        · simp only [Act.put, List.setIfInBounds_toArray, List.set_cons_zero, List.set_cons_succ, i64_w, i32_w, hw16, hw15, hw7, hw2]
          rfl
        refine last_ (i := 25) (N := none) #[true, true, true, true, true, true, true, true, true, true, true, true, true, true, true, true, true, true, true, true, true, true, true, true, true, true] rfl rfl (by kernel_rfl) (by decide) (fun K hK => ?_)
        refine ite_wanted rfl ?_
        have hcw := (blk_cell hHeld.1 t).trans (cellsW_get b 0)
        have hfw := blk_frozen hHeld.1 t
        go_simp
        refine hK.out _ _ ?_
        clear hK K hcw hfw
        refine done_ (by kernel_rfl) ?_
        obtain ⟨z0, z1, z2, z3⟩ := hHeld
        have hnew := blk_setW z0 (nextA b (wordsA b t) t)
        rw [cellsW_next b hlt, hnext.out] at hnew
        have hk1 := (Below.heap_setCell w' ⟨w.heap.size, t, none⟩ (.int .u32 (ad (ad (ad y16 (lowW y15)) y7) (highW y2))) (w.heap.size + 1) (by simp)).trans z1
        have hk2 := (Below.heap_setCell w' ⟨w.heap.size, t, none⟩ (.int .u32 (ad (ad (ad y16 (lowW y15)) y7) (highW y2))) (w.heap.size + 1 + 1) (by simp; omega)).trans z2
        have hbb := z3.setCell (p := ⟨w.heap.size, t, none⟩) (Nat.le_refl _) (.int .u32 (ad (ad (ad y16 (lowW y15)) y7) (highW y2)))
        have HN := Aside0.mk hnew
        have HN1 := Aside0.mk hk1
        have HN2 := Aside0.mk hk2
        have HNB := Aside0.mk hbb
        clear hnew hk1 hk2 hbb z0 z1 z2 z3
        go_wp2
        exact ⟨⟨t + 1, rfl, by omega, HN, HN1, HN2, HNB⟩, by simp [intOf]; omega⟩
    · have hd1 : decide ((t : Int) < 64) = false := decide_eq_false (by omega)
      have ht64 : t = 64 := by omega
      subst ht64
      have HKA : Aside0 (wr.heap[w.heap.size]? = some (.cells ⟨(wordsA b 64).map (Value.int .u32)⟩ 73 (0, 0))) := ⟨by rw [← cellsAt_all]; exact HK0.out⟩
      have hone := one_u32 (wordsA b 64)
      have hsz : ((wordsA b 64).map (Value.int .u32)).length = 64 := by simp [wordsA_length]
      generalize hvs : (wordsA b 64).map (Value.int .u32) = vs at HKA hone hsz
      have HVS := Aside0.mk hvs
      have HON := Aside0.mk hone
      clear HK0 hvs hone
      have hi : (Tryd.prog.info? 73).map (·.size) = some (⟨vs⟩ : Array Value).size := by
        rw [show (⟨vs⟩ : Array Value).size = 64 from hsz]
        rfl
      repeat (first
        | ((with_reducible refine wpList_load 73 (.tmp 2) w.heap.size _ _ (.array 64 52) rfl rfl ?hx HKA.out ?hu ?hd hi ?_); (case hx => rfl); (case hu => exact Tryd.underlying73); (case hd => rfl))
        | ((with_reducible refine wpList_store 73 (.tmp 2) (.tmp 65) w.heap.size _ _ ⟨vs⟩ rfl rfl ?hx ?hy HKA.out rfl hi HON.out ?_); (case hx => rfl); (case hy => rfl); intro w1 g1 g2 g3 g4; have HG1 := Aside0.mk g1; have HG3 := Aside0.mk (g3 _ _ HB.out (Nat.le_refl _)); clear g1 g2 g3 g4)
        | go_values | go_guarded | go_step | go_upon | go_back)
      refine bodyPost_ret (results_single rfl (.cell w.heap.size _ _ (0, 0) _ rfl HG1.out Tryd.underlying73 rfl hi .nil)) rfl ?_
      exact ⟨by rw [HVS.out], HG3.out⟩
end Go.Proofs.YtncipbbdboeinaaDoor
