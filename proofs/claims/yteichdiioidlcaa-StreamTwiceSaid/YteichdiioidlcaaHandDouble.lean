/-
chacha's words: four of them turned in place; a double round.
-/
import Derived.Test.YteichdiioidlcaaHandQuarter
import Derived.Test.YteichdiioidlcaaRowWords
namespace Go.Proofs.Yteichdiioidlcaa
open Go.RowKit Go.Shelf Go.Proofs.YteichdiioidlcaaW.PrintWords Go.Proofs.YteichdiioidlcaaW.PrintLast Go.Proofs.YteichdiioidlcaaW.PrintMore
set_option linter.unusedVariables false
set_option linter.unusedSimpArgs false

theorem quarter_calls0 (q : Four) (w : World) (hq : q.U) : Calls Try.prog 16 #[.agg q.cells] w fun e w' => e = .returned (.agg (quarterR q).cells) ∧ Below w.heap.size w w' := callsIn_wide.1 (quarter_in q w hq)

/-- Four places' words, turned. -/
def four (x : List Int) (i j k l : Nat) : Four := ⟨x.getD i 0, x.getD j 0, x.getD k 0, x.getD l 0⟩
def turnAt (x : List Int) (i j k l : Nat) : List Int :=
  (((x.set i (quarterR (four x i j k l)).a).set j (quarterR (four x i j k l)).b).set k (quarterR (four x i j k l)).c).set l (quarterR (four x i j k l)).d
def AllU (x : List Int) : Prop := ∀ y ∈ x, U32 y
theorem AllU.get {x : List Int} (h : AllU x) (i : Nat) : U32 (x.getD i 0) := by
  rw [List.getD_eq_getElem?_getD]
  cases hi : x[i]? with
  | none => exact ⟨by decide, by decide⟩
  | some y => exact h y (List.mem_of_getElem? hi)
theorem AllU.set {x : List Int} (h : AllU x) (i : Nat) {y : Int} (hy : U32 y) : AllU (x.set i y) := fun z hz => by
  rcases List.mem_or_eq_of_mem_set hz with hz | rfl
  · exact h z hz
  · exact hy
theorem AllU.turn {x : List Int} (h : AllU x) (i j k l : Nat) : AllU (turnAt x i j k l) := by
  have hq : (quarterR (four x i j k l)).U := runQ_U ⟨h.get i, h.get j, h.get k, h.get l⟩ _
  exact (((h.set i hq.1).set j hq.2.1).set k hq.2.2.1).set l hq.2.2.2
theorem turnAt_length (x : List Int) (i j k l : Nat) : (turnAt x i j k l).length = x.length := by simp [turnAt]

theorem cell_num {W : World} {g t : Nat} {k : IntKind} {x : List Int} (h : W.heap[g]? = some (.cells (numCells k x) t (0, 0))) {i : Nat} (hi : i < x.length) : W.cell? ⟨g, i, none⟩ = some (.int k (x.getD i 0)) := by
  rw [blk_cell h i, List.getD_eq_getElem?_getD, List.getElem?_eq_getElem hi]
  simp [hi]
theorem set_num {W : World} {g t : Nat} {k : IntKind} {x : List Int} (h : W.heap[g]? = some (.cells (numCells k x) t (0, 0))) (i : Nat) (y : Int) : (W.setCell ⟨g, i, none⟩ (.int k y)).heap[g]? = some (.cells (numCells k (x.set i y)) t (0, 0)) := by
  rw [blk_set h i (.int k y)]
  simp [numCells, List.map_set]

/-- The four words, as they are taken one by one. -/
def fillQ (x : List Int) (i0 i1 i2 i3 : Nat) : Nat → Array Value
  | 0 => #[.int .u32 0, .int .u32 0, .int .u32 0, .int .u32 0]
  | 1 => #[.int .u32 (x.getD i0 0), .int .u32 0, .int .u32 0, .int .u32 0]
  | 2 => #[.int .u32 (x.getD i0 0), .int .u32 (x.getD i1 0), .int .u32 0, .int .u32 0]
  | 3 => #[.int .u32 (x.getD i0 0), .int .u32 (x.getD i1 0), .int .u32 (x.getD i2 0), .int .u32 0]
  | _ => #[.int .u32 (x.getD i0 0), .int .u32 (x.getD i1 0), .int .u32 (x.getD i2 0), .int .u32 (x.getD i3 0)]

/-- All but block g stays, as it was in w. -/
structure Kept (g : Nat) (w w' : World) : Prop where
  rest : ∀ b, b ≠ g → b < w.heap.size → w'.heap[b]? = w.heap[b]?
  size : w.heap.size ≤ w'.heap.size
  os : w'.os = w.os
  tape : w'.tape = w.tape
  output : w'.output = w.output
theorem Kept.step {g : Nat} {w w1 w2 : World} (h : Kept g w w1) (k : Below w1.heap.size w1 w2) : Kept g w w2 :=
  ⟨fun b hb hl => (k.block b (Nat.lt_of_lt_of_le hl h.size)).trans (h.rest b hb hl), Nat.le_trans h.size k.size, k.os.trans h.os, k.tape.trans h.tape, k.output.trans h.output⟩
theorem Kept.of {g : Nat} {w w1 : World} (k : Below w.heap.size w w1) : Kept g w w1 := ⟨fun b _ hl => k.block b hl, k.size, k.os, k.tape, k.output⟩
theorem Kept.set {g : Nat} {w w1 : World} (h : Kept g w w1) (i : Nat) (v : Value) : Kept g w (w1.setCell ⟨g, i, none⟩ v) :=
  ⟨fun b hb hl => (Below.heap_setCell w1 ⟨g, i, none⟩ v b hb).trans (h.rest b hb hl), by simpa [World.setCell] using h.size, h.os, h.tape, h.output⟩
theorem Kept.drew {g : Nat} {w w1 : World} (h : Kept g w w1) : Kept g w w1.drew := ⟨h.rest, h.size, h.os, h.tape, h.output⟩
theorem heap_first (w : World) (a b : Obj) : ((w.alloc a).alloc b).heap[w.heap.size]? = some a := by
  have h1 := heap_alloc_new w a
  have hl : w.heap.size < (w.alloc a).heap.size := by simp
  exact ((Below.refl _ _).alloc (Nat.le_refl _) b).block _ hl |>.trans h1

/-- The words, some of the four laid back. -/
def backQ (x : List Int) (i0 i1 i2 i3 : Nat) (a b c d : Int) : Nat → List Int
  | 0 => x
  | 1 => x.set i0 a
  | 2 => (x.set i0 a).set i1 b
  | 3 => ((x.set i0 a).set i1 b).set i2 c
  | _ => (((x.set i0 a).set i1 b).set i2 c).set i3 d

theorem backQ_length (x : List Int) (i0 i1 i2 i3 : Nat) (a b c d : Int) (n : Nat) : (backQ x i0 i1 i2 i3 a b c d n).length = x.length := by
  unfold backQ
  split <;> simp
theorem back_turn {x : List Int} {i0 i1 i2 i3 : Nat} {a b c d : Int} (h : quarterR (four x i0 i1 i2 i3) = ⟨a, b, c, d⟩) : backQ x i0 i1 i2 i3 a b c d 4 = turnAt x i0 i1 i2 i3 := by
  unfold turnAt
  rw [h]
  rfl
set_option maxHeartbeats 4000000 in
set_option maxRecDepth 100000 in
theorem turn_calls (x : List Int) (g : Nat) (i0 i1 i2 i3 : Nat) (w : World) (hx : w.heap[g]? = some (.cells (numCells .u32 x) 59 (0, 0))) (hl : x.length = 16) (hu : AllU x) (h0 : i0 < 16) (h1 : i1 < 16) (h2 : i2 < 16) (h3 : i3 < 16) :
    Calls Try.prog 31 #[.pointer (some ⟨g, 0, none⟩), .agg #[.int .i64 i0, .int .i64 i1, .int .i64 i2, .int .i64 i3]] w fun e w' => (∃ v, e = .returned v) ∧
      w'.heap[g]? = some (.cells (numCells .u32 (turnAt x i0 i1 i2 i3)) 59 (0, 0)) ∧ (∀ b, b ≠ g → b < w.heap.size → w'.heap[b]? = w.heap[b]?) ∧ w.heap.size ≤ w'.heap.size ∧ w'.os = w.os ∧ w'.tape = w.tape ∧ w'.output = w.output := by
  have hgl := blk_lt hx
  have a0 := cell_num hx (i := i0) (by omega)
  have a1 := cell_num hx (i := i1) (by omega)
  have a2 := cell_num hx (i := i2) (by omega)
  have a3 := cell_num hx (i := i3) (by omega)
  have HX := Aside0.mk hx
  have HL := Aside0.mk hl
  have HF := Aside0.mk (show (four x i0 i1 i2 i3).U from ⟨hu.get i0, hu.get i1, hu.get i2, hu.get i3⟩)
  clear hx hl hu
  have x0 : ∀ w : World, (Instr.index 61 (.agg #[.int .i64 i0, .int .i64 i1, .int .i64 i2, .int .i64 i3]) (.int .i64 0)).run Try.prog w = .ok (.int .i64 i0) w := fun _ => by kernel_rfl
  have x1 : ∀ w : World, (Instr.index 61 (.agg #[.int .i64 i0, .int .i64 i1, .int .i64 i2, .int .i64 i3]) (.int .i64 1)).run Try.prog w = .ok (.int .i64 i1) w := fun _ => by kernel_rfl
  have x2 : ∀ w : World, (Instr.index 61 (.agg #[.int .i64 i0, .int .i64 i1, .int .i64 i2, .int .i64 i3]) (.int .i64 2)).run Try.prog w = .ok (.int .i64 i2) w := fun _ => by kernel_rfl
  have x3 : ∀ w : World, (Instr.index 61 (.agg #[.int .i64 i0, .int .i64 i1, .int .i64 i2, .int .i64 i3]) (.int .i64 3)).run Try.prog w = .ok (.int .i64 i3) w := fun _ => by kernel_rfl
  have k0 : (i0 : Int) < 16 := by omega
  have k1 : (i1 : Int) < 16 := by omega
  have k2 : (i2 : Int) < 16 := by omega
  have k3 : (i3 : Int) < 16 := by omega
  go_enter Try.func31, Try.ntmps31
  go_wp2
  go_loopw [10] (fun i wr => ∃ k : Nat, k ≤ 4 ∧ i = .int .i64 k ∧ Aside0 (wr = (w.alloc (.cells #[.int .i64 i0, .int .i64 i1, .int .i64 i2, .int .i64 i3] 61)).alloc (.cells (fillQ x i0 i1 i2 i3 k) 30))) (fun i _ => 4 - (intOf i).toNat)
  case atStart => exact ⟨0, by omega, rfl, ⟨rfl⟩⟩
  case round =>
    obtain ⟨k, hk, rfl, HW⟩ := hrel
    have hk5 : k = 0 ∨ k = 1 ∨ k = 2 ∨ k = 3 ∨ k = 4 := by omega
    clear hk
    rcases hk5 with rfl | rfl | rfl | rfl | rfl
    · have e : wr = (w.alloc (.cells #[.int .i64 i0, .int .i64 i1, .int .i64 i2, .int .i64 i3] 61)).alloc (.cells #[.int .u32 0, .int .u32 0, .int .u32 0, .int .u32 0] 30) := HW.out
      clear HW
      subst e
      go_wp2
      go_roundw
      case rel => exact ⟨1, by omega, rfl, ⟨rfl⟩⟩
      case measure => simp [intOf]
    · have e : wr = (w.alloc (.cells #[.int .i64 i0, .int .i64 i1, .int .i64 i2, .int .i64 i3] 61)).alloc (.cells #[.int .u32 (x.getD i0 0), .int .u32 0, .int .u32 0, .int .u32 0] 30) := HW.out
      clear HW
      subst e
      go_wp2
      go_roundw
      case rel => exact ⟨2, by omega, rfl, ⟨rfl⟩⟩
      case measure => simp [intOf]
    · have e : wr = (w.alloc (.cells #[.int .i64 i0, .int .i64 i1, .int .i64 i2, .int .i64 i3] 61)).alloc (.cells #[.int .u32 (x.getD i0 0), .int .u32 (x.getD i1 0), .int .u32 0, .int .u32 0] 30) := HW.out
      clear HW
      subst e
      go_wp2
      go_roundw
      case rel => exact ⟨3, by omega, rfl, ⟨rfl⟩⟩
      case measure => simp [intOf]
    · have e : wr = (w.alloc (.cells #[.int .i64 i0, .int .i64 i1, .int .i64 i2, .int .i64 i3] 61)).alloc (.cells #[.int .u32 (x.getD i0 0), .int .u32 (x.getD i1 0), .int .u32 (x.getD i2 0), .int .u32 0] 30) := HW.out
      clear HW
      subst e
      go_wp2
      go_roundw
      case rel => exact ⟨4, by omega, rfl, ⟨rfl⟩⟩
      case measure => simp [intOf]
    · have e : wr = (w.alloc (.cells #[.int .i64 i0, .int .i64 i1, .int .i64 i2, .int .i64 i3] 61)).alloc (.cells #[.int .u32 (x.getD i0 0), .int .u32 (x.getD i1 0), .int .u32 (x.getD i2 0), .int .u32 (x.getD i3 0)] 30) := HW.out
      clear HW
      subst e
      obtain ⟨qa, qb, qc, qd, hE⟩ : ∃ a b c d, quarterR (four x i0 i1 i2 i3) = ⟨a, b, c, d⟩ := ⟨_, _, _, _, rfl⟩
      have HE := Aside0.mk hE
      have y0 : ∀ w : World, (Instr.index 30 (.agg (Four.mk qa qb qc qd).cells) (.int .i64 0)).run Try.prog w = .ok (.int .u32 qa) w := fun _ => by kernel_rfl
      have y1 : ∀ w : World, (Instr.index 30 (.agg (Four.mk qa qb qc qd).cells) (.int .i64 1)).run Try.prog w = .ok (.int .u32 qb) w := fun _ => by kernel_rfl
      have y2 : ∀ w : World, (Instr.index 30 (.agg (Four.mk qa qb qc qd).cells) (.int .i64 2)).run Try.prog w = .ok (.int .u32 qc) w := fun _ => by kernel_rfl
      have y3 : ∀ w : World, (Instr.index 30 (.agg (Four.mk qa qb qc qd).cells) (.int .i64 3)).run Try.prog w = .ok (.int .u32 qd) w := fun _ => by kernel_rfl
      clear hE
      have HGS := Aside0.mk hgl
      go_wp2_with (go_at_call 16; go_loud (refine calls_of_args (show _ = #[.agg (four x i0 i1 i2 i3).cells] from by rfl) ?_; refine (quarter_calls0 (four x i0 i1 i2 i3) _ HF.out).mono ?_; rw [HE.out]; rintro e w3 ⟨rfl, hb⟩; have HG := Aside0.mk (blk_below (blk_alloc (blk_alloc HX.out _) _) hb); have HI := Aside0.mk (blk_below (heap_first w _ _) hb); have HK := Aside0.mk ((Kept.of (g := g) (below_alloc (below_alloc (Below.refl w.heap.size w) _) _)).step hb); clear hb a0 a1 a2 a3))
      go_loopw [24] (fun i wr => ∃ j : Nat, j ≤ 4 ∧ i = .int .i64 j ∧ Aside0 (wr.heap[g]? = some (.cells (numCells .u32 (backQ x i0 i1 i2 i3 qa qb qc qd j)) 59 (0, 0))) ∧ Aside0 (wr.heap[w.heap.size]? = some (.cells #[.int .i64 i0, .int .i64 i1, .int .i64 i2, .int .i64 i3] 61 (0, 0))) ∧ Aside0 (Kept g w wr)) (fun i _ => 4 - (intOf i).toNat)
      case atStart => exact ⟨0, by omega, rfl, HG, HI, HK⟩
      case round =>
        clear HG HI HK
        obtain ⟨j, hj, rfl, HG, HI, HK⟩ := hrel
        have hj5 : j = 0 ∨ j = 1 ∨ j = 2 ∨ j = 3 ∨ j = 4 := by omega
        clear hj
        rcases hj5 with rfl | rfl | rfl | rfl | rfl
        · have f0 := blk_cell HI.out 0
          have f1 := blk_frozen HG.out i0
          have f2 := cell_num HG.out (i := i0) (by rw [backQ_length, HL.out]; exact h0)
          go_wp2
          go_region
          go_wp2
          go_roundw
          case rel => exact ⟨1, by omega, rfl, ⟨set_num (blk_drew HG.out) i0 qa⟩, ⟨blk_far (blk_drew HI.out) (show w.heap.size ≠ g by omega) _⟩, ⟨HK.out.drew.set _ _⟩⟩
          case measure => simp [intOf]
        · have f0 := blk_cell HI.out 1
          have f1 := blk_frozen HG.out i1
          have f2 := cell_num HG.out (i := i1) (by rw [backQ_length, HL.out]; exact h1)
          go_wp2
          go_region
          go_wp2
          go_roundw
          case rel => exact ⟨2, by omega, rfl, ⟨set_num (blk_drew HG.out) i1 qb⟩, ⟨blk_far (blk_drew HI.out) (show w.heap.size ≠ g by omega) _⟩, ⟨HK.out.drew.set _ _⟩⟩
          case measure => simp [intOf]
        · have f0 := blk_cell HI.out 2
          have f1 := blk_frozen HG.out i2
          have f2 := cell_num HG.out (i := i2) (by rw [backQ_length, HL.out]; exact h2)
          go_wp2
          go_region
          go_wp2
          go_roundw
          case rel => exact ⟨3, by omega, rfl, ⟨set_num (blk_drew HG.out) i2 qc⟩, ⟨blk_far (blk_drew HI.out) (show w.heap.size ≠ g by omega) _⟩, ⟨HK.out.drew.set _ _⟩⟩
          case measure => simp [intOf]
        · have f0 := blk_cell HI.out 3
          have f1 := blk_frozen HG.out i3
          have f2 := cell_num HG.out (i := i3) (by rw [backQ_length, HL.out]; exact h3)
          go_wp2
          go_region
          go_wp2
          go_roundw
          case rel => exact ⟨4, by omega, rfl, ⟨set_num (blk_drew HG.out) i3 qd⟩, ⟨blk_far (blk_drew HI.out) (show w.heap.size ≠ g by omega) _⟩, ⟨HK.out.drew.set _ _⟩⟩
          case measure => simp [intOf]
        · go_wp2
          go_end0
          have hk := HK.out
          exact ⟨⟨_, rfl⟩, by rw [← back_turn HE.out]; exact HG.out, hk.rest, hk.size, hk.os, hk.tape, hk.output⟩
end Go.Proofs.Yteichdiioidlcaa
