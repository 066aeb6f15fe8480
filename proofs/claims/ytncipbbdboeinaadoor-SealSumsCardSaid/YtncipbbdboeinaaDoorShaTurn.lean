/-
sha.turn: words turned by a block.
-/
import Derived.Test.YtncipbbdboeinaaDoorShaSpread
import Derived.Deep.RegionWith
import Derived.Laws.CopyRow
namespace Go.Proofs.YtncipbbdboeinaaDoor
open Go.RowKit Go.Proofs.YtncipbbdboeinaaDoorW.PrintWords Go.Proofs.YtncipbbdboeinaaDoorW.PrintLast Go.Proofs.YtncipbbdboeinaaDoorW.PrintMore Go.Proofs.YtncipbbdboeinaaDoor.PAll
set_option linter.unusedVariables false
set_option linter.unusedSimpArgs false

/-- The rounds' words, where they lie. -/
def kT : List Int := [1116352408, 1899447441, 3049323471, 3921009573, 961987163, 1508970993, 2453635748, 2870763221, 3624381080, 310598401, 607225278, 1426881987, 1925078388, 2162078206, 2614888103, 3248222580, 3835390401, 4022224774, 264347078, 604807628, 770255983, 1249150122, 1555081692, 1996064986, 2554220882, 2821834349, 2952996808, 3210313671, 3336571891, 3584528711, 113926993, 338241895, 666307205, 773529912, 1294757372, 1396182291, 1695183700, 1986661051, 2177026350, 2456956037, 2730485921, 2820302411, 3259730800, 3345764771, 3516065817, 3600352804, 4094571909, 275423344, 430227734, 506948616, 659060556, 883997877, 958139571, 1322822218, 1537002063, 1747873779, 1955562222, 2024104815, 2227730452, 2361852424, 2428436474, 2756734187, 3204031479, 3329325298]
def Ktab (w : World) : Prop := ∀ i, i < 64 → w.cell? ⟨1, i, none⟩ = some (.int .u32 (kT.getD i 0))
theorem Ktab.below {w w' : World} (h : Ktab w) (hb : Below w.heap.size w w') : Ktab w' := fun i hi => pw_cell_below hb (h i hi)
/-- One round. -/
def roundA (k x : Int) : List Int → List Int
  | [a, b, c, d, e, f, g, h] =>
    let p := ad (ad (ad (ad h (oneW e)) (Go.bits .xor .u32 g (Go.bits .and .u32 e (Go.bits .xor .u32 f g)))) k) x
    let q := ad (twoW a) (Go.bits .or .u32 (Go.bits .and .u32 a b) (Go.bits .and .u32 c (Go.bits .or .u32 a b)))
    [ad p q, a, b, c, ad d p, e, f, g]
  | l => l
def roundsA (hs : List Int) (b : List Int) : Nat → List Int
  | 0 => hs
  | t + 1 => roundA (kT.getD t 0) ((wordsA b 64).getD t 0) (roundsA hs b t)
theorem roundA_length (k x : Int) {l : List Int} (h : l.length = 8) : (roundA k x l).length = 8 := by
  match l, h with
  | [_, _, _, _, _, _, _, _], _ => rfl
theorem roundsA_length {hs : List Int} (h : hs.length = 8) (b : List Int) : ∀ t, (roundsA hs b t).length = 8
  | 0 => h
  | t + 1 => roundA_length _ _ (roundsA_length h b t)
def turnA (hs b : List Int) : List Int := List.zipWith ad hs (roundsA hs b 64)

theorem eight {l : List Int} (h : l.length = 8) : ∃ a b c d e f g i, l = [a, b, c, d, e, f, g, i] := by
  match l, h with
  | [_, _, _, _, _, _, _, _], _ => exact ⟨_, _, _, _, _, _, _, _, rfl⟩
theorem cells8 {W : World} {b t : Nat} {h0 h1 h2 h3 h4 h5 h6 h7 : Int} {tail : List Value} (h : W.heap[b]? = some (.cells ⟨[h0, h1, h2, h3, h4, h5, h6, h7].map (Value.int .u32) ++ tail⟩ t (0, 0))) :
    W.cell? ⟨b, 0, none⟩ = some (.int .u32 h0) ∧ W.cell? ⟨b, 1, none⟩ = some (.int .u32 h1) ∧ W.cell? ⟨b, 2, none⟩ = some (.int .u32 h2) ∧ W.cell? ⟨b, 3, none⟩ = some (.int .u32 h3) ∧ W.cell? ⟨b, 4, none⟩ = some (.int .u32 h4) ∧ W.cell? ⟨b, 5, none⟩ = some (.int .u32 h5) ∧ W.cell? ⟨b, 6, none⟩ = some (.int .u32 h6) ∧ W.cell? ⟨b, 7, none⟩ = some (.int .u32 h7) :=
  ⟨blk_cell h 0, blk_cell h 1, blk_cell h 2, blk_cell h 3, blk_cell h 4, blk_cell h 5, blk_cell h 6, blk_cell h 7⟩
theorem at_world {K : Act → World → Prop} {a : Act} {X Y : World} (h : Y = X) (hk : K a Y) : K a X := h ▸ hk
/-- The world that a fact speaks of. -/
abbrev wof {W : World} {b : Nat} {o : Obj} (_ : W.heap[b]? = some o) : World := W
theorem cells8b {W : World} {b t : Nat} {h0 h1 h2 h3 h4 h5 h6 h7 : Int} (h : W.heap[b]? = some (.cells ⟨[h0, h1, h2, h3, h4, h5, h6, h7].map (Value.int .u32)⟩ t (0, 0))) :
    W.cell? ⟨b, 0, none⟩ = some (.int .u32 h0) ∧ W.cell? ⟨b, 1, none⟩ = some (.int .u32 h1) ∧ W.cell? ⟨b, 2, none⟩ = some (.int .u32 h2) ∧ W.cell? ⟨b, 3, none⟩ = some (.int .u32 h3) ∧ W.cell? ⟨b, 4, none⟩ = some (.int .u32 h4) ∧ W.cell? ⟨b, 5, none⟩ = some (.int .u32 h5) ∧ W.cell? ⟨b, 6, none⟩ = some (.int .u32 h6) ∧ W.cell? ⟨b, 7, none⟩ = some (.int .u32 h7) :=
  ⟨blk_cell h 0, blk_cell h 1, blk_cell h 2, blk_cell h 3, blk_cell h 4, blk_cell h 5, blk_cell h 6, blk_cell h 7⟩
theorem copy_src8 {W : World} {b t : Nat} {h0 h1 h2 h3 h4 h5 h6 h7 : Int} (h : W.heap[b]? = some (.cells ⟨[h0, h1, h2, h3, h4, h5, h6, h7].map (Value.int .u32)⟩ t (0, 0))) :
    ∀ j v, ([.int .u32 h0, .int .u32 h1, .int .u32 h2, .int .u32 h3, .int .u32 h4, .int .u32 h5, .int .u32 h6] : List Value)[j]? = some v → W.cell? ((⟨b, 0, none⟩ : Addr).add j) = some v := by
  intro j v hj
  rw [Addr.add_mid, Nat.zero_add, blk_cell h j, List.getElem?_toArray]
  have hl := (List.getElem?_eq_some_iff.1 hj).1
  have : ([.int .u32 h0, .int .u32 h1, .int .u32 h2, .int .u32 h3, .int .u32 h4, .int .u32 h5, .int .u32 h6] ++ [.int .u32 h7] : List Value)[j]? = some v := by rw [List.getElem?_append_left hl]; exact hj
  exact this
/-- The words while the first k of them are added to. -/
def midA (H S : List Int) (k : Nat) : List Int := (List.zipWith ad H S).take k ++ H.drop k
theorem eight_lt {k : Nat} (h : k < 8) : k = 0 ∨ k = 1 ∨ k = 2 ∨ k = 3 ∨ k = 4 ∨ k = 5 ∨ k = 6 ∨ k = 7 := by omega
theorem midA_cell {h0 h1 h2 h3 h4 h5 h6 h7 s0 s1 s2 s3 s4 s5 s6 s7 : Int} (tail : List Value) {k : Nat} (h : k < 8) : (⟨(midA [h0, h1, h2, h3, h4, h5, h6, h7] [s0, s1, s2, s3, s4, s5, s6, s7] k).map (Value.int .u32) ++ tail⟩ : Array Value)[k]? = some (.int .u32 ([h0, h1, h2, h3, h4, h5, h6, h7].getD k 0)) := by
  rcases eight_lt h with rfl | rfl | rfl | rfl | rfl | rfl | rfl | rfl <;> rfl
theorem midA_set {h0 h1 h2 h3 h4 h5 h6 h7 s0 s1 s2 s3 s4 s5 s6 s7 : Int} (tail : List Value) {k : Nat} (h : k < 8) : (⟨(midA [h0, h1, h2, h3, h4, h5, h6, h7] [s0, s1, s2, s3, s4, s5, s6, s7] k).map (Value.int .u32) ++ tail⟩ : Array Value).setIfInBounds k (.int .u32 (ad ([h0, h1, h2, h3, h4, h5, h6, h7].getD k 0) ([s0, s1, s2, s3, s4, s5, s6, s7].getD k 0))) = ⟨(midA [h0, h1, h2, h3, h4, h5, h6, h7] [s0, s1, s2, s3, s4, s5, s6, s7] (k + 1)).map (Value.int .u32) ++ tail⟩ := by
  rcases eight_lt h with rfl | rfl | rfl | rfl | rfl | rfl | rfl | rfl <;> simp [midA]
theorem nums_cell {l : List Int} {k : Nat} (h : k < l.length) : (⟨l.map (Value.int .u32)⟩ : Array Value)[k]? = some (.int .u32 (l.getD k 0)) := by
  simp [List.getD_eq_getElem?_getD, List.getElem?_eq_getElem h]
theorem below_row {B g : Nat} {w0 w : World} (hb : Below B w0 w) (hBg : B ≤ g) (cs : Array Value) : Below B w0 (w.setRow g cs) :=
  hb.trans ⟨rfl, rfl, rfl, by simp [World.setRow], fun k hk => setRow_other w g k cs (by omega)⟩
theorem alloc2 (w : World) (a b : Obj) : ((w.alloc a).alloc b).heap[w.heap.size]? = some a ∧ ((w.alloc a).alloc b).heap[w.heap.size + 1]? = some b := by
  refine ⟨blk_alloc (heap_alloc_new w a) b, ?_⟩
  have := heap_alloc_new (w.alloc a) b
  rw [show (w.alloc a).heap.size = w.heap.size + 1 by simp] at this
  exact this

set_option maxHeartbeats 4000000 in
set_option maxRecDepth 100000 in
theorem turn_calls (A : Addr) (c0 g : Nat) (b hs : List Int) (tail : List Value) (u : Nat) (hb : b.length = 64) (hh : hs.length = 8) (w : World) (hr : Kd.C (Kd.int .u8) w (some A) 64 b) (hc : 64 ≤ c0) (hk : Ktab w)
    (hg : w.heap[g]? = some (.cells ⟨hs.map (Value.int .u32) ++ tail⟩ u (0, 0))) :
    Calls Tryd.prog 27 #[.pointer (some ⟨g, 0, none⟩), .slice (some A) 64 c0] w fun e w' => e = .returned (.tuple #[]) ∧ w'.heap[g]? = some (.cells ⟨(turnA hs b).map (Value.int .u32) ++ tail⟩ u (0, 0)) ∧ KeepBut w w' g none ∧ ∀ B w0, Below B w0 w → B ≤ g → Below B w0 w' := by
  obtain ⟨h0, h1, h2, h3, h4, h5, h6, h7, rfl⟩ := eight hh
  have hgl := blk_lt hg
  have HR := Aside0.mk hr
  have HC := Aside0.mk hc
  have HL := Aside0.mk hb
  have HH := Aside0.mk hh
  have HK := Aside0.mk hk
  have HG := Aside0.mk hg
  clear hr hc hb hh hk hg
  go_enter Tryd.func27, Tryd.ntmps27
  go_wp2
  generalize hW1 : (w.alloc _).alloc _ = W1
  obtain ⟨ho, ht⟩ := alloc2 w (.cells #[.int .i64 6, .int .i64 11, .int .i64 25, .bool false] 72) (.cells #[.int .i64 2, .int .i64 13, .int .i64 22, .bool false] 72)
  have HB1 : Aside0 (Below w.heap.size w W1) := ⟨by rw [← hW1]; exact below_alloc (below_alloc (Below.refl _ _) _) _⟩
  rw [hW1] at ho ht
  clear hW1
  have HO := Aside0.mk ho
  have HT := Aside0.mk ht
  clear ho ht
  refine wp_mono (Q := fun e a' W' => e = .normal ∧ ∃ g6 g7, a' = { tmps := #[.pointer (some ⟨g, 0, none⟩), .slice (some A) 64 c0, undef, undef, .pointer (some ⟨w.heap.size, 0, none⟩), .pointer (some ⟨w.heap.size + 1, 0, none⟩), .pointer (some ⟨g6, 0, none⟩), .pointer (some ⟨g7, 0, none⟩), undef, undef, undef, undef, .agg #[.int .i64 6, .int .i64 11, .int .i64 25], .agg #[.int .i64 6, .int .i64 11, .int .i64 25, .bool false], .agg #[.int .i64 2, .int .i64 13, .int .i64 22], .agg #[.int .i64 2, .int .i64 13, .int .i64 22, .bool false], .slice (some A) 64 c0, .agg ⟨(wordsA b 64).map (Value.int .u32)⟩, .pointer (some ⟨g, 0, none⟩), .pointer (some ⟨g, 0, none⟩), .agg #[.int .u32 h0, .int .u32 h1, .int .u32 h2, .int .u32 h3, .int .u32 h4, .int .u32 h5, .int .u32 h6, .int .u32 h7], undef, undef, undef, undef, undef, undef, undef, undef, undef, undef, undef, undef, undef, undef, undef, undef, undef, undef, undef, undef, undef, undef, undef, undef, undef, undef, undef, undef, undef, undef, undef, undef, undef, undef, undef, undef, undef, undef, undef, undef, undef, undef, undef, undef, undef, undef, undef, undef, undef, undef, undef, undef, undef, undef, undef, undef, undef, undef, undef, undef, undef, undef, undef, undef, undef, undef, undef, undef, undef, undef, undef, undef, undef, undef, undef, undef, undef], defers := [] } ∧ W'.heap[w.heap.size]? = some (.cells #[.int .i64 6, .int .i64 11, .int .i64 25, .bool false] 72 (0, 0)) ∧ W'.heap[w.heap.size + 1]? = some (.cells #[.int .i64 2, .int .i64 13, .int .i64 22, .bool false] 72 (0, 0)) ∧ W'.heap[g6]? = some (.cells ⟨(wordsA b 64).map (Value.int .u32)⟩ 73 (0, 0)) ∧ W'.heap[g7]? = some (.cells #[.int .u32 h0, .int .u32 h1, .int .u32 h2, .int .u32 h3, .int .u32 h4, .int .u32 h5, .int .u32 h6, .int .u32 h7] 53 (0, 0)) ∧ g6 ≠ g7 ∧ w.heap.size + 1 < g6 ∧ w.heap.size + 1 < g7 ∧ Below w.heap.size w W') ?_ ?_
  · have hone := one_u32 (wordsA b 64)
    have hsz : ((wordsA b 64).map (Value.int .u32)).length = 64 := by simp [wordsA_length]
    have hspread := fun W' (hW : Below w.heap.size w W') => spread_calls A c0 b HL.out W' (Kd.C_below HR.out hW) HC.out
    generalize hvs : (wordsA b 64).map (Value.int .u32) = vs at hone hsz hspread ⊢
    clear hvs
    have hi66 : (Tryd.prog.info? 73).map (·.size) = some (⟨vs⟩ : Array Value).size := by
      rw [show (⟨vs⟩ : Array Value).size = 64 from hsz]
      rfl
    have HON := Aside0.mk hone
    have HSP := Aside0.mk hspread
    have HI := Aside0.mk hi66
    have HSZ := Aside0.mk hsz
    clear hone hspread hi66 hsz
    refine start_ (n := 9) (S := fun w' => w'.heap[w.heap.size]? = some (.cells #[.int .i64 6, .int .i64 11, .int .i64 25, .bool false] 72 (0, 0)) ∧ w'.heap[w.heap.size + 1]? = some (.cells #[.int .i64 2, .int .i64 13, .int .i64 22, .bool false] 72 (0, 0)) ∧ Below w.heap.size w w') (ds := []) #[false, false, false, false, false, false, false, false, false] (by kernel_rfl) rfl rfl ⟨blk_drew HO.out, blk_drew HT.out, below_drew HB1.out⟩ (fun hHeld => ?_)
    refine pure_ (i := 0) (N := (some 16)) (v := ?_) (a' := ?_) #[true, false, false, false, false, false, false, false, false] rfl rfl (by kernel_rfl) (fun _ _ _ h => by cases h.1) (Or.inl ⟨by rfl, ?_⟩) ?_ ?_
    rotate_left
    · intro w'
      go_simp
      with_reducible rfl
    rotate_left
    · simp only [Act.put, List.setIfInBounds_toArray, List.set_cons_zero, List.set_cons_succ, i64_w, i32_w]
      rfl
    refine pure_ (i := 2) (N := (some 18)) (v := ?_) (a' := ?_) #[true, false, true, false, false, false, false, false, false] rfl rfl (by kernel_rfl) (fun _ _ _ h => by cases h.1) (Or.inl ⟨by rfl, ?_⟩) ?_ ?_
    rotate_left
    · rintro w' 
      go_simp
      with_reducible rfl
    rotate_left
    · simp only [Act.put, List.setIfInBounds_toArray, List.set_cons_zero, List.set_cons_succ, i64_w, i32_w]
      rfl
    refine pure_ (i := 3) (N := (some 19)) (v := ?_) (a' := ?_) #[true, false, true, true, false, false, false, false, false] rfl rfl (by kernel_rfl) (fun _ _ _ h => by cases h.1) (Or.inl ⟨by rfl, ?_⟩) ?_ ?_
    rotate_left
    · rintro w' 
      go_simp
      with_reducible rfl
    rotate_left
    · simp only [Act.put, List.setIfInBounds_toArray, List.set_cons_zero, List.set_cons_succ, i64_w, i32_w]
      rfl
    refine take_ (i := 4) (N := (some 20)) (v := ?_) (a' := ?_) #[true, false, true, true, true, false, false, false, false] rfl rfl (by kernel_rfl) (fun _ _ _ h => by cases h.1) (Or.inl ⟨by rfl, ?_⟩) hHeld ?_ ?_
    rotate_left
    · rintro w' ⟨s0, s1, s2⟩
      obtain ⟨hc0, hc1, hc2, hc3, hc4, hc5, hc6, hc7⟩ := cells8 (blk_below HG.out s2)
      go_simp
      with_reducible rfl
    rotate_left
    · simp only [Act.put, List.setIfInBounds_toArray, List.set_cons_zero, List.set_cons_succ, i64_w, i32_w]
      rfl
    refine join_ (σ := Nat × Nat) 2 #[true, true, true, true, true, true, true, false, false] (fun s => [(17, .agg ⟨vs⟩), (6, .pointer (some ⟨s.1, 0, none⟩)), (7, .pointer (some ⟨s.2, 0, none⟩))]) (fun s w' => (w'.heap[w.heap.size]? = some (.cells #[.int .i64 6, .int .i64 11, .int .i64 25, .bool false] 72 (0, 0)) ∧ w'.heap[w.heap.size + 1]? = some (.cells #[.int .i64 2, .int .i64 13, .int .i64 22, .bool false] 72 (0, 0)) ∧ Below w.heap.size w w') ∧ w'.heap[s.1]? = some (.cells (Array.replicate 64 (.int .u32 0)) 73 (0, 0)) ∧ w'.heap[s.2]? = some (.cells (Array.replicate 8 (.int .u32 0)) 53 (0, 0)) ∧ s.1 ≠ s.2 ∧ w.heap.size + 1 < s.1 ∧ w.heap.size + 1 < s.2) ?_ ?_
    · rintro ⟨g6, g7⟩ w' ⟨hHeld, hz6, hz7, hne, hl6, hl7⟩
      simp only at hz6 hz7 hne hl6 hl7
      refine norm_ (a' := ?_) ?_ ?_
      rotate_left
      · simp only [putAll, Act.put, List.setIfInBounds_toArray, List.set_cons_zero, List.set_cons_succ, i64_w, i32_w]
        rfl
      refine one_ (i := 7) (N := none) #[true, true, true, true, true, true, true, true, false] rfl rfl (by kernel_rfl) (by decide) (fun K hK => ?_)
      refine ite_wanted rfl ?_
      refine op_store 73 (.tmp 6) (.tmp 17) g6 _ _ ⟨vs⟩ rfl rfl rfl hz6 (by rw [show (⟨vs⟩ : Array Value).size = 64 from HSZ.out]; rfl) HI.out HON.out ?_
      intro w1 q1 q2 q3 q4
      refine hK.out _ _ ⟨(q2 _ (by omega)).trans hHeld.1, (q2 _ (by omega)).trans hHeld.2.1, q3 _ _ hHeld.2.2 (by omega)⟩ (fun hHeld1 => ?_)
      clear hK K
      replace hz7 := (q2 g7 (Ne.symm hne)).trans hz7
      refine one_ (i := 8) (N := none) #[true, true, true, true, true, true, true, true, true] rfl rfl (by kernel_rfl) (by decide) (fun K hK => ?_)
      refine ite_wanted rfl ?_
      refine op_store 53 (.tmp 7) (.tmp 20) g7 _ _ #[.int .u32 h0, .int .u32 h1, .int .u32 h2, .int .u32 h3, .int .u32 h4, .int .u32 h5, .int .u32 h6, .int .u32 h7] rfl rfl rfl hz7 rfl rfl (one_u32 [h0, h1, h2, h3, h4, h5, h6, h7]) ?_
      intro w2 p1 p2 p3 p4
      refine hK.out _ _ ⟨(p2 _ (by omega)).trans hHeld1.1, (p2 _ (by omega)).trans hHeld1.2.1, p3 _ _ hHeld1.2.2 (by omega)⟩ (fun hHeld2 => ?_)
      clear hK K
      refine done_ (by kernel_rfl) ?_
      refine ⟨rfl, g6, g7, rfl, hHeld2.1, hHeld2.2.1, (p2 _ hne).trans q1, p1, hne, hl6, hl7, hHeld2.2.2⟩
    · intro hcont
      refine three_ (i := 1) (j := 5) (k := 6) (Ni := some 17) (Nj := some 6) (Nk := some 7) #[true, true, true, true, true, false, false, false, false] #[true, false, true, true, true, true, false, false, false] #[true, false, true, true, true, false, true, false, false] rfl rfl rfl rfl rfl rfl (by kernel_rfl) (by decide) (by decide) (by decide) (fun K hK => ?_) (fun K hK => ?_) (fun K hK => ?_)
      · skip
        refine goes_ Tryd.func36 (by kernel_rfl) rfl #[.slice (some A) 64 c0] (by rfl) rfl rfl (by (try simp only [List.map_toArray, List.map_cons, List.map_nil]); first | done | rfl) ?_
        refine (HSP.out _ hHeld.2.2).mono ?_
        rintro e w' ⟨rfl, hbs⟩
        refine ⟨_, rfl, ?_⟩
        refine hK.out _ _ ⟨blk_below hHeld.1 hbs, blk_below hHeld.2.1 hbs, bl hHeld.2.2 hbs⟩ (fun hHeld1 => ?_)
        clear hK K
        have hHeld := hHeld1
        clear hHeld1
        refine two_ (i := 5) (j := 6) (Ni := some 6) (Nj := some 7) #[true, true, true, true, true, true, false, false, false] #[true, true, true, true, true, false, true, false, false] rfl rfl rfl rfl (by kernel_rfl) (by decide) (by decide) (fun K hK => ?_) (fun K hK => ?_)
        · skip
          refine ite_wanted rfl ?_
          go_simp
          obtain ⟨Y5, hY⟩ : ∃ Y, Y = (wof hHeld.1).alloc (.cells (Array.replicate 64 (.int .u32 0)) 73) := ⟨_, rfl⟩
          have khz6 := blk_lt hHeld.2.1
          have hz6 := heap_alloc_new (wof hHeld.1) (.cells (Array.replicate 64 (.int .u32 0)) 73)
          have hS := And.intro (blk_alloc hHeld.1 (.cells (Array.replicate 64 (.int .u32 0)) 73)) (And.intro (blk_alloc hHeld.2.1 (.cells (Array.replicate 64 (.int .u32 0)) 73)) (below_alloc hHeld.2.2 (.cells (Array.replicate 64 (.int .u32 0)) 73)))
          dsimp only [wof] at hY hz6 hS
          rw [← hY] at hz6 hS 
          refine at_world (K := K) hY ?_
          clear hY
          refine hK.out _ _ hS (fun hHeld1 => ?_)
          clear hS
          clear hK K
          have hHeld := hHeld1
          clear hHeld1
          refine one_ (i := 6) (N := some 7) #[true, true, true, true, true, true, true, false, false] rfl rfl (by kernel_rfl) (by decide) (fun K hK => ?_)
          skip
          refine ite_wanted rfl ?_
          go_simp
          obtain ⟨Y6, hY⟩ : ∃ Y, Y = (wof hHeld.1).alloc (.cells (Array.replicate 8 (.int .u32 0)) 53) := ⟨_, rfl⟩
          have lhz6 := blk_lt hz6
          replace hz6 := blk_alloc hz6 (.cells (Array.replicate 8 (.int .u32 0)) 53)
          have khz7 := blk_lt hHeld.2.1
          have hz7 := heap_alloc_new (wof hHeld.1) (.cells (Array.replicate 8 (.int .u32 0)) 53)
          have hS := And.intro (blk_alloc hHeld.1 (.cells (Array.replicate 8 (.int .u32 0)) 53)) (And.intro (blk_alloc hHeld.2.1 (.cells (Array.replicate 8 (.int .u32 0)) 53)) (below_alloc hHeld.2.2 (.cells (Array.replicate 8 (.int .u32 0)) 53)))
          dsimp only [wof] at hY hz7 hS
          rw [← hY] at hz7 hS hz6
          refine at_world (K := K) hY ?_
          clear hY
          refine hK.out _ _ hS (fun hHeld1 => ?_)
          clear hS
          clear hK K
          have hHeld := hHeld1
          clear hHeld1
          have hdr : W1.drew.heap.size = W1.heap.size := rfl
          exact norm_ (by rfl) (hcont (_, _) _ ⟨hHeld, hz6, hz7, by simp; omega, by simp; omega, by simp; omega⟩)
        · skip
          refine ite_wanted rfl ?_
          go_simp
          obtain ⟨Y6, hY⟩ : ∃ Y, Y = (wof hHeld.1).alloc (.cells (Array.replicate 8 (.int .u32 0)) 53) := ⟨_, rfl⟩
          have khz7 := blk_lt hHeld.2.1
          have hz7 := heap_alloc_new (wof hHeld.1) (.cells (Array.replicate 8 (.int .u32 0)) 53)
          have hS := And.intro (blk_alloc hHeld.1 (.cells (Array.replicate 8 (.int .u32 0)) 53)) (And.intro (blk_alloc hHeld.2.1 (.cells (Array.replicate 8 (.int .u32 0)) 53)) (below_alloc hHeld.2.2 (.cells (Array.replicate 8 (.int .u32 0)) 53)))
          dsimp only [wof] at hY hz7 hS
          rw [← hY] at hz7 hS 
          refine at_world (K := K) hY ?_
          clear hY
          refine hK.out _ _ hS (fun hHeld1 => ?_)
          clear hS
          clear hK K
          have hHeld := hHeld1
          clear hHeld1
          refine one_ (i := 5) (N := some 6) #[true, true, true, true, true, true, true, false, false] rfl rfl (by kernel_rfl) (by decide) (fun K hK => ?_)
          skip
          refine ite_wanted rfl ?_
          go_simp
          obtain ⟨Y5, hY⟩ : ∃ Y, Y = (wof hHeld.1).alloc (.cells (Array.replicate 64 (.int .u32 0)) 73) := ⟨_, rfl⟩
          have lhz7 := blk_lt hz7
          replace hz7 := blk_alloc hz7 (.cells (Array.replicate 64 (.int .u32 0)) 73)
          have khz6 := blk_lt hHeld.2.1
          have hz6 := heap_alloc_new (wof hHeld.1) (.cells (Array.replicate 64 (.int .u32 0)) 73)
          have hS := And.intro (blk_alloc hHeld.1 (.cells (Array.replicate 64 (.int .u32 0)) 73)) (And.intro (blk_alloc hHeld.2.1 (.cells (Array.replicate 64 (.int .u32 0)) 73)) (below_alloc hHeld.2.2 (.cells (Array.replicate 64 (.int .u32 0)) 73)))
          dsimp only [wof] at hY hz6 hS
          rw [← hY] at hz6 hS hz7
          refine at_world (K := K) hY ?_
          clear hY
          refine hK.out _ _ hS (fun hHeld1 => ?_)
          clear hS
          clear hK K
          have hHeld := hHeld1
          clear hHeld1
          have hdr : W1.drew.heap.size = W1.heap.size := rfl
          exact norm_ (by rfl) (hcont (_, _) _ ⟨hHeld, hz6, hz7, by simp; omega, by simp; omega, by simp; omega⟩)
      · skip
        refine ite_wanted rfl ?_
        go_simp
        obtain ⟨Y5, hY⟩ : ∃ Y, Y = (wof hHeld.1).alloc (.cells (Array.replicate 64 (.int .u32 0)) 73) := ⟨_, rfl⟩
        have khz6 := blk_lt hHeld.2.1
        have hz6 := heap_alloc_new (wof hHeld.1) (.cells (Array.replicate 64 (.int .u32 0)) 73)
        have hS := And.intro (blk_alloc hHeld.1 (.cells (Array.replicate 64 (.int .u32 0)) 73)) (And.intro (blk_alloc hHeld.2.1 (.cells (Array.replicate 64 (.int .u32 0)) 73)) (below_alloc hHeld.2.2 (.cells (Array.replicate 64 (.int .u32 0)) 73)))
        dsimp only [wof] at hY hz6 hS
        rw [← hY] at hz6 hS 
        refine at_world (K := K) hY ?_
        clear hY
        refine hK.out _ _ hS (fun hHeld1 => ?_)
        clear hS
        clear hK K
        have hHeld := hHeld1
        clear hHeld1
        refine two_ (i := 1) (j := 6) (Ni := some 17) (Nj := some 7) #[true, true, true, true, true, true, false, false, false] #[true, false, true, true, true, true, true, false, false] rfl rfl rfl rfl (by kernel_rfl) (by decide) (by decide) (fun K hK => ?_) (fun K hK => ?_)
        · skip
          refine goes_ Tryd.func36 (by kernel_rfl) rfl #[.slice (some A) 64 c0] (by rfl) rfl rfl (by (try simp only [List.map_toArray, List.map_cons, List.map_nil]); first | done | rfl) ?_
          refine (HSP.out _ hHeld.2.2).mono ?_
          rintro e w' ⟨rfl, hbs⟩
          refine ⟨_, rfl, ?_⟩
          replace hz6 := blk_below hz6 hbs
          refine hK.out _ _ ⟨blk_below hHeld.1 hbs, blk_below hHeld.2.1 hbs, bl hHeld.2.2 hbs⟩ (fun hHeld1 => ?_)
          clear hK K
          have hHeld := hHeld1
          clear hHeld1
          refine one_ (i := 6) (N := some 7) #[true, true, true, true, true, true, true, false, false] rfl rfl (by kernel_rfl) (by decide) (fun K hK => ?_)
          skip
          refine ite_wanted rfl ?_
          go_simp
          obtain ⟨Y6, hY⟩ : ∃ Y, Y = (wof hHeld.1).alloc (.cells (Array.replicate 8 (.int .u32 0)) 53) := ⟨_, rfl⟩
          have lhz6 := blk_lt hz6
          replace hz6 := blk_alloc hz6 (.cells (Array.replicate 8 (.int .u32 0)) 53)
          have khz7 := blk_lt hHeld.2.1
          have hz7 := heap_alloc_new (wof hHeld.1) (.cells (Array.replicate 8 (.int .u32 0)) 53)
          have hS := And.intro (blk_alloc hHeld.1 (.cells (Array.replicate 8 (.int .u32 0)) 53)) (And.intro (blk_alloc hHeld.2.1 (.cells (Array.replicate 8 (.int .u32 0)) 53)) (below_alloc hHeld.2.2 (.cells (Array.replicate 8 (.int .u32 0)) 53)))
          dsimp only [wof] at hY hz7 hS
          rw [← hY] at hz7 hS hz6
          refine at_world (K := K) hY ?_
          clear hY
          refine hK.out _ _ hS (fun hHeld1 => ?_)
          clear hS
          clear hK K
          have hHeld := hHeld1
          clear hHeld1
          have hdr : W1.drew.heap.size = W1.heap.size := rfl
          exact norm_ (by rfl) (hcont (_, _) _ ⟨hHeld, hz6, hz7, by simp; omega, by simp; omega, by simp; omega⟩)
        · skip
          refine ite_wanted rfl ?_
          go_simp
          obtain ⟨Y6, hY⟩ : ∃ Y, Y = (wof hHeld.1).alloc (.cells (Array.replicate 8 (.int .u32 0)) 53) := ⟨_, rfl⟩
          have lhz6 := blk_lt hz6
          replace hz6 := blk_alloc hz6 (.cells (Array.replicate 8 (.int .u32 0)) 53)
          have khz7 := blk_lt hHeld.2.1
          have hz7 := heap_alloc_new (wof hHeld.1) (.cells (Array.replicate 8 (.int .u32 0)) 53)
          have hS := And.intro (blk_alloc hHeld.1 (.cells (Array.replicate 8 (.int .u32 0)) 53)) (And.intro (blk_alloc hHeld.2.1 (.cells (Array.replicate 8 (.int .u32 0)) 53)) (below_alloc hHeld.2.2 (.cells (Array.replicate 8 (.int .u32 0)) 53)))
          dsimp only [wof] at hY hz7 hS
          rw [← hY] at hz7 hS hz6
          refine at_world (K := K) hY ?_
          clear hY
          refine hK.out _ _ hS (fun hHeld1 => ?_)
          clear hS
          clear hK K
          have hHeld := hHeld1
          clear hHeld1
          refine one_ (i := 1) (N := some 17) #[true, true, true, true, true, true, true, false, false] rfl rfl (by kernel_rfl) (by decide) (fun K hK => ?_)
          skip
          refine goes_ Tryd.func36 (by kernel_rfl) rfl #[.slice (some A) 64 c0] (by rfl) rfl rfl (by (try simp only [List.map_toArray, List.map_cons, List.map_nil]); first | done | rfl) ?_
          refine (HSP.out _ hHeld.2.2).mono ?_
          rintro e w' ⟨rfl, hbs⟩
          refine ⟨_, rfl, ?_⟩
          replace hz6 := blk_below hz6 hbs
          replace hz7 := blk_below hz7 hbs
          refine hK.out _ _ ⟨blk_below hHeld.1 hbs, blk_below hHeld.2.1 hbs, bl hHeld.2.2 hbs⟩ (fun hHeld1 => ?_)
          clear hK K
          have hHeld := hHeld1
          clear hHeld1
          have hdr : W1.drew.heap.size = W1.heap.size := rfl
          exact norm_ (by rfl) (hcont (_, _) _ ⟨hHeld, hz6, hz7, by simp; omega, by simp; omega, by simp; omega⟩)
      · skip
        refine ite_wanted rfl ?_
        go_simp
        obtain ⟨Y6, hY⟩ : ∃ Y, Y = (wof hHeld.1).alloc (.cells (Array.replicate 8 (.int .u32 0)) 53) := ⟨_, rfl⟩
        have khz7 := blk_lt hHeld.2.1
        have hz7 := heap_alloc_new (wof hHeld.1) (.cells (Array.replicate 8 (.int .u32 0)) 53)
        have hS := And.intro (blk_alloc hHeld.1 (.cells (Array.replicate 8 (.int .u32 0)) 53)) (And.intro (blk_alloc hHeld.2.1 (.cells (Array.replicate 8 (.int .u32 0)) 53)) (below_alloc hHeld.2.2 (.cells (Array.replicate 8 (.int .u32 0)) 53)))
        dsimp only [wof] at hY hz7 hS
        rw [← hY] at hz7 hS 
        refine at_world (K := K) hY ?_
        clear hY
        refine hK.out _ _ hS (fun hHeld1 => ?_)
        clear hS
        clear hK K
        have hHeld := hHeld1
        clear hHeld1
        refine two_ (i := 1) (j := 5) (Ni := some 17) (Nj := some 6) #[true, true, true, true, true, false, true, false, false] #[true, false, true, true, true, true, true, false, false] rfl rfl rfl rfl (by kernel_rfl) (by decide) (by decide) (fun K hK => ?_) (fun K hK => ?_)
        · skip
          refine goes_ Tryd.func36 (by kernel_rfl) rfl #[.slice (some A) 64 c0] (by rfl) rfl rfl (by (try simp only [List.map_toArray, List.map_cons, List.map_nil]); first | done | rfl) ?_
          refine (HSP.out _ hHeld.2.2).mono ?_
          rintro e w' ⟨rfl, hbs⟩
          refine ⟨_, rfl, ?_⟩
          replace hz7 := blk_below hz7 hbs
          refine hK.out _ _ ⟨blk_below hHeld.1 hbs, blk_below hHeld.2.1 hbs, bl hHeld.2.2 hbs⟩ (fun hHeld1 => ?_)
          clear hK K
          have hHeld := hHeld1
          clear hHeld1
          refine one_ (i := 5) (N := some 6) #[true, true, true, true, true, true, true, false, false] rfl rfl (by kernel_rfl) (by decide) (fun K hK => ?_)
          skip
          refine ite_wanted rfl ?_
          go_simp
          obtain ⟨Y5, hY⟩ : ∃ Y, Y = (wof hHeld.1).alloc (.cells (Array.replicate 64 (.int .u32 0)) 73) := ⟨_, rfl⟩
          have lhz7 := blk_lt hz7
          replace hz7 := blk_alloc hz7 (.cells (Array.replicate 64 (.int .u32 0)) 73)
          have khz6 := blk_lt hHeld.2.1
          have hz6 := heap_alloc_new (wof hHeld.1) (.cells (Array.replicate 64 (.int .u32 0)) 73)
          have hS := And.intro (blk_alloc hHeld.1 (.cells (Array.replicate 64 (.int .u32 0)) 73)) (And.intro (blk_alloc hHeld.2.1 (.cells (Array.replicate 64 (.int .u32 0)) 73)) (below_alloc hHeld.2.2 (.cells (Array.replicate 64 (.int .u32 0)) 73)))
          dsimp only [wof] at hY hz6 hS
          rw [← hY] at hz6 hS hz7
          refine at_world (K := K) hY ?_
          clear hY
          refine hK.out _ _ hS (fun hHeld1 => ?_)
          clear hS
          clear hK K
          have hHeld := hHeld1
          clear hHeld1
          have hdr : W1.drew.heap.size = W1.heap.size := rfl
          exact norm_ (by rfl) (hcont (_, _) _ ⟨hHeld, hz6, hz7, by simp; omega, by simp; omega, by simp; omega⟩)
        · skip
          refine ite_wanted rfl ?_
          go_simp
          obtain ⟨Y5, hY⟩ : ∃ Y, Y = (wof hHeld.1).alloc (.cells (Array.replicate 64 (.int .u32 0)) 73) := ⟨_, rfl⟩
          have lhz7 := blk_lt hz7
          replace hz7 := blk_alloc hz7 (.cells (Array.replicate 64 (.int .u32 0)) 73)
          have khz6 := blk_lt hHeld.2.1
          have hz6 := heap_alloc_new (wof hHeld.1) (.cells (Array.replicate 64 (.int .u32 0)) 73)
          have hS := And.intro (blk_alloc hHeld.1 (.cells (Array.replicate 64 (.int .u32 0)) 73)) (And.intro (blk_alloc hHeld.2.1 (.cells (Array.replicate 64 (.int .u32 0)) 73)) (below_alloc hHeld.2.2 (.cells (Array.replicate 64 (.int .u32 0)) 73)))
          dsimp only [wof] at hY hz6 hS
          rw [← hY] at hz6 hS hz7
          refine at_world (K := K) hY ?_
          clear hY
          refine hK.out _ _ hS (fun hHeld1 => ?_)
          clear hS
          clear hK K
          have hHeld := hHeld1
          clear hHeld1
          refine one_ (i := 1) (N := some 17) #[true, true, true, true, true, true, true, false, false] rfl rfl (by kernel_rfl) (by decide) (fun K hK => ?_)
          skip
          refine goes_ Tryd.func36 (by kernel_rfl) rfl #[.slice (some A) 64 c0] (by rfl) rfl rfl (by (try simp only [List.map_toArray, List.map_cons, List.map_nil]); first | done | rfl) ?_
          refine (HSP.out _ hHeld.2.2).mono ?_
          rintro e w' ⟨rfl, hbs⟩
          refine ⟨_, rfl, ?_⟩
          replace hz7 := blk_below hz7 hbs
          replace hz6 := blk_below hz6 hbs
          refine hK.out _ _ ⟨blk_below hHeld.1 hbs, blk_below hHeld.2.1 hbs, bl hHeld.2.2 hbs⟩ (fun hHeld1 => ?_)
          clear hK K
          have hHeld := hHeld1
          clear hHeld1
          have hdr : W1.drew.heap.size = W1.heap.size := rfl
          exact norm_ (by rfl) (hcont (_, _) _ ⟨hHeld, hz6, hz7, by simp; omega, by simp; omega, by simp; omega⟩)
  · rintro e a' W' ⟨rfl, g6, g7, rfl, ho, ht, h6b, h7b, hne, hl6, hl7, hb⟩
    dsimp only
    have hstep : ∀ t, roundsA [h0, h1, h2, h3, h4, h5, h6, h7] b (t + 1) = roundA (kT.getD t 0) ((wordsA b 64).getD t 0) (roundsA [h0, h1, h2, h3, h4, h5, h6, h7] b t) := fun t => rfl
    have hxl := wordsA_length b 64
    generalize wordsA b 64 = xs at h6b hstep hxl ⊢
    have HST := Aside0.mk hstep
    have HXL := Aside0.mk hxl
    have HO1 := Aside0.mk ho
    have HT1 := Aside0.mk ht
    have H6 := Aside0.mk h6b
    have H7 : Aside0 (W'.heap[g7]? = some (.cells ⟨(roundsA [h0, h1, h2, h3, h4, h5, h6, h7] b 0).map (Value.int .u32)⟩ 53 (0, 0))) := ⟨h7b⟩
    have HB := Aside0.mk hb
    clear hstep hxl ho ht h6b h7b hb HO HT HB1
    go_wp2
    go_loopw [21] (fun i wr => ∃ t : Nat, i = .int .i64 t ∧ t ≤ 64 ∧ Aside0 (wr.heap[w.heap.size]? = some (.cells #[.int .i64 6, .int .i64 11, .int .i64 25, .bool false] 72 (0, 0))) ∧ Aside0 (wr.heap[w.heap.size + 1]? = some (.cells #[.int .i64 2, .int .i64 13, .int .i64 22, .bool false] 72 (0, 0))) ∧ Aside0 (wr.heap[g6]? = some (.cells ⟨xs.map (Value.int .u32)⟩ 73 (0, 0))) ∧ Aside0 (wr.heap[g7]? = some (.cells ⟨(roundsA [h0, h1, h2, h3, h4, h5, h6, h7] b t).map (Value.int .u32)⟩ 53 (0, 0))) ∧ Aside0 (Below w.heap.size w wr)) (fun i _ => 64 - (intOf i).toNat)
    case atStart => exact ⟨0, rfl, by omega, HO1, HT1, H6, H7, HB⟩
    case round =>
      clear HO1 HT1 H6 H7 HB
      obtain ⟨t, rfl, ht, HO1, HT1, H6, H7, HB⟩ := hrel
      by_cases hlt : t < 64
      · have hd1 : decide ((t : Int) < 64) = true := decide_eq_true (by omega)
        have hlt2 : (t : Int) < 64 := by omega
        obtain ⟨s0, s1, s2, s3, s4, s5, s6, s7, hs⟩ := eight (roundsA_length (hs := [h0, h1, h2, h3, h4, h5, h6, h7]) rfl b t)
        have hst := HST.out t
        have h7b := H7.out
        rw [hs] at hst h7b
        have HST1 := Aside0.mk hst
        have H7b := Aside0.mk h7b
        have HKv := Aside0.mk (fun (W : World) (hW : Below w.heap.size w W) => (HK.out.below hW) t hlt)
        have HXv : Aside0 ((⟨xs.map (Value.int .u32)⟩ : Array Value)[t]? = some (.int .u32 (xs.getD t 0))) := ⟨by
          have hl : t < xs.length := by rw [HXL.out]; exact hlt
          simp [List.getD_eq_getElem?_getD, List.getElem?_eq_getElem hl]⟩
        generalize kT.getD t 0 = kv at HKv HST1
        generalize xs.getD t 0 = xv at HXv HST1
        clear hs hst h7b H7
        go_wp2
        refine start_ (n := 28) (S := fun w' => w'.heap[w.heap.size]? = some (.cells #[.int .i64 6, .int .i64 11, .int .i64 25, .bool false] 72 (0, 0)) ∧ w'.heap[w.heap.size + 1]? = some (.cells #[.int .i64 2, .int .i64 13, .int .i64 22, .bool false] 72 (0, 0)) ∧ w'.heap[g6]? = some (.cells ⟨xs.map (Value.int .u32)⟩ 73 (0, 0)) ∧ w'.heap[g7]? = some (.cells ⟨[s0, s1, s2, s3, s4, s5, s6, s7].map (Value.int .u32)⟩ 53 (0, 0)) ∧ Below w.heap.size w w') (ds := []) #[false, false, false, false, false, false, false, false, false, false, false, false, false, false, false, false, false, false, false, false, false, false, false, false, false, false, false, false] (by kernel_rfl) rfl rfl ⟨blk_drew HO1.out, blk_drew HT1.out, blk_drew H6.out, blk_drew H7b.out, below_drew HB.out⟩ (fun hHeld => ?_)
        refine pure_ (i := 0) (N := (some 24)) (v := ?_) (a' := ?_) #[true, false, false, false, false, false, false, false, false, false, false, false, false, false, false, false, false, false, false, false, false, false, false, false, false, false, false, false] rfl rfl (by kernel_rfl) (fun _ _ _ h => h) (Or.inl ⟨by rfl, ?_⟩) ?_ ?_
        rotate_left
        · intro w'
          go_simp
          with_reducible rfl
        rotate_left
        · simp only [Act.put, List.setIfInBounds_toArray, List.set_cons_zero, List.set_cons_succ, i64_w, i32_w]
          rfl
        refine take_ (i := 1) (N := (some 25)) (v := ?_) (a' := ?_) #[true, true, false, false, false, false, false, false, false, false, false, false, false, false, false, false, false, false, false, false, false, false, false, false, false, false, false, false] rfl rfl (by kernel_rfl) (fun _ _ _ h => h) (Or.inl ⟨by rfl, ?_⟩) hHeld ?_ ?_
        rotate_left
        · rintro w' ⟨z0, z1, z2, z3, z4⟩
          obtain ⟨hc0, hc1, hc2, hc3, hc4, hc5, hc6, hc7⟩ := cells8b z3
          go_simp
          with_reducible rfl
        rotate_left
        · simp only [Act.put, List.setIfInBounds_toArray, List.set_cons_zero, List.set_cons_succ, i64_w, i32_w]
          rfl
        refine take_ (i := 2) (N := (some 26)) (v := ?_) (a' := ?_) #[true, true, true, false, false, false, false, false, false, false, false, false, false, false, false, false, false, false, false, false, false, false, false, false, false, false, false, false] rfl rfl (by kernel_rfl) (fun _ _ _ h => h) (Or.inl ⟨by rfl, ?_⟩) hHeld ?_ ?_
        rotate_left
        · rintro w' ⟨z0, z1, z2, z3, z4⟩
          obtain ⟨hc0, hc1, hc2, hc3⟩ := box4 z0
          go_simp
          with_reducible rfl
        rotate_left
        · simp only [Act.put, List.setIfInBounds_toArray, List.set_cons_zero, List.set_cons_succ, i64_w, i32_w]
          rfl
        refine pure_ (i := 3) (N := (some 27)) (v := ?_) (a' := ?_) #[true, true, true, true, false, false, false, false, false, false, false, false, false, false, false, false, false, false, false, false, false, false, false, false, false, false, false, false] rfl rfl (by kernel_rfl) (fun _ _ _ h => h) (Or.inl ⟨by rfl, ?_⟩) ?_ ?_
        rotate_left
        · intro w'
          go_simp
          with_reducible rfl
        rotate_left
        · simp only [Act.put, List.setIfInBounds_toArray, List.set_cons_zero, List.set_cons_succ, i64_w, i32_w]
          rfl
        refine take_ (i := 4) (N := (some 28)) (v := ?_) (a' := ?_) #[true, true, true, true, true, false, false, false, false, false, false, false, false, false, false, false, false, false, false, false, false, false, false, false, false, false, false, false] rfl rfl (by kernel_rfl) (fun _ _ _ h => h) (Or.inl ⟨by rfl, ?_⟩) hHeld ?_ ?_
        rotate_left
        · rintro w' ⟨z0, z1, z2, z3, z4⟩
          obtain ⟨hc0, hc1, hc2, hc3, hc4, hc5, hc6, hc7⟩ := cells8b z3
          go_simp
          with_reducible rfl
        rotate_left
        · simp only [Act.put, List.setIfInBounds_toArray, List.set_cons_zero, List.set_cons_succ, i64_w, i32_w]
          rfl
        refine pure_ (i := 7) (N := (some 31)) (v := ?_) (a' := ?_) #[true, true, true, true, true, false, false, true, false, false, false, false, false, false, false, false, false, false, false, false, false, false, false, false, false, false, false, false] rfl rfl (by kernel_rfl) (fun _ _ _ h => h) (Or.inl ⟨by rfl, ?_⟩) ?_ ?_
        rotate_left
        · intro w'
          go_simp
          with_reducible rfl
        rotate_left
        · simp only [Act.put, List.setIfInBounds_toArray, List.set_cons_zero, List.set_cons_succ, i64_w, i32_w]
          rfl
        refine take_ (i := 8) (N := (some 32)) (v := ?_) (a' := ?_) #[true, true, true, true, true, false, false, true, true, false, false, false, false, false, false, false, false, false, false, false, false, false, false, false, false, false, false, false] rfl rfl (by kernel_rfl) (fun _ _ _ h => h) (Or.inl ⟨by rfl, ?_⟩) hHeld ?_ ?_
        rotate_left
        · rintro w' ⟨z0, z1, z2, z3, z4⟩
          obtain ⟨hc0, hc1, hc2, hc3, hc4, hc5, hc6, hc7⟩ := cells8b z3
          go_simp
          with_reducible rfl
        rotate_left
        · simp only [Act.put, List.setIfInBounds_toArray, List.set_cons_zero, List.set_cons_succ, i64_w, i32_w]
          rfl
        refine pure_ (i := 9) (N := (some 33)) (v := ?_) (a' := ?_) #[true, true, true, true, true, false, false, true, true, true, false, false, false, false, false, false, false, false, false, false, false, false, false, false, false, false, false, false] rfl rfl (by kernel_rfl) (fun _ _ _ h => h) (Or.inl ⟨by rfl, ?_⟩) ?_ ?_
        rotate_left
        · intro w'
          go_simp
          with_reducible rfl
        rotate_left
        · simp only [Act.put, List.setIfInBounds_toArray, List.set_cons_zero, List.set_cons_succ, i64_w, i32_w]
          rfl
        refine take_ (i := 10) (N := (some 34)) (v := ?_) (a' := ?_) #[true, true, true, true, true, false, false, true, true, true, true, false, false, false, false, false, false, false, false, false, false, false, false, false, false, false, false, false] rfl rfl (by kernel_rfl) (fun _ _ _ h => h) (Or.inl ⟨by rfl, ?_⟩) hHeld ?_ ?_
        rotate_left
        · rintro w' ⟨z0, z1, z2, z3, z4⟩
          obtain ⟨hc0, hc1, hc2, hc3, hc4, hc5, hc6, hc7⟩ := cells8b z3
          go_simp
          with_reducible rfl
        rotate_left
        · simp only [Act.put, List.setIfInBounds_toArray, List.set_cons_zero, List.set_cons_succ, i64_w, i32_w]
          rfl
        refine pure_ (i := 11) (N := (some 35)) (v := ?_) (a' := ?_) #[true, true, true, true, true, false, false, true, true, true, true, true, false, false, false, false, false, false, false, false, false, false, false, false, false, false, false, false] rfl rfl (by kernel_rfl) (fun _ _ _ h => h) (Or.inl ⟨by rfl, ?_⟩) ?_ ?_
        rotate_left
        · intro w'
          go_simp
          with_reducible rfl
        rotate_left
        · simp only [Act.put, List.setIfInBounds_toArray, List.set_cons_zero, List.set_cons_succ, i64_w, i32_w]
          rfl
        refine take_ (i := 12) (N := (some 36)) (v := ?_) (a' := ?_) #[true, true, true, true, true, false, false, true, true, true, true, true, true, false, false, false, false, false, false, false, false, false, false, false, false, false, false, false] rfl rfl (by kernel_rfl) (fun _ _ _ h => h) (Or.inl ⟨by rfl, ?_⟩) hHeld ?_ ?_
        rotate_left
        · rintro w' ⟨z0, z1, z2, z3, z4⟩
          obtain ⟨hc0, hc1, hc2, hc3, hc4, hc5, hc6, hc7⟩ := cells8b z3
          go_simp
          with_reducible rfl
        rotate_left
        · simp only [Act.put, List.setIfInBounds_toArray, List.set_cons_zero, List.set_cons_succ, i64_w, i32_w]
          rfl
        refine pure_ (i := 13) (N := (some 37)) (v := ?_) (a' := ?_) #[true, true, true, true, true, false, false, true, true, true, true, true, true, true, false, false, false, false, false, false, false, false, false, false, false, false, false, false] rfl rfl (by kernel_rfl) (fun _ _ _ h => h) (Or.inl ⟨by rfl, ?_⟩) ?_ ?_
        rotate_left
        · intro w'
          go_simp
          with_reducible rfl
        rotate_left
        · simp only [Act.put, List.setIfInBounds_toArray, List.set_cons_zero, List.set_cons_succ, i64_w, i32_w]
          rfl
        refine take_ (i := 14) (N := (some 38)) (v := ?_) (a' := ?_) #[true, true, true, true, true, false, false, true, true, true, true, true, true, true, true, false, false, false, false, false, false, false, false, false, false, false, false, false] rfl rfl (by kernel_rfl) (fun _ _ _ h => h) (Or.inl ⟨by rfl, ?_⟩) hHeld ?_ ?_
        rotate_left
        · rintro w' ⟨z0, z1, z2, z3, z4⟩
          obtain ⟨hc0, hc1, hc2, hc3, hc4, hc5, hc6, hc7⟩ := cells8b z3
          go_simp
          with_reducible rfl
        rotate_left
        · simp only [Act.put, List.setIfInBounds_toArray, List.set_cons_zero, List.set_cons_succ, i64_w, i32_w]
          rfl
        refine pure_ (i := 15) (N := (some 39)) (v := ?_) (a' := ?_) #[true, true, true, true, true, false, false, true, true, true, true, true, true, true, true, true, false, false, false, false, false, false, false, false, false, false, false, false] rfl rfl (by kernel_rfl) (fun _ _ _ h => h) (Or.inl ⟨by rfl, ?_⟩) ?_ ?_
        rotate_left
        · intro w'
          go_simp
          with_reducible rfl
        rotate_left
        · simp only [Act.put, List.setIfInBounds_toArray, List.set_cons_zero, List.set_cons_succ, i64_w, i32_w]
          rfl
        refine pure_ (i := 16) (N := (some 40)) (v := ?_) (a' := ?_) #[true, true, true, true, true, false, false, true, true, true, true, true, true, true, true, true, true, false, false, false, false, false, false, false, false, false, false, false] rfl rfl (by kernel_rfl) (fun _ _ _ h => h) (Or.inl ⟨by rfl, ?_⟩) ?_ ?_
        rotate_left
        · intro w'
          go_simp
          with_reducible rfl
        rotate_left
        · simp only [Act.put, List.setIfInBounds_toArray, List.set_cons_zero, List.set_cons_succ, i64_w, i32_w]
          rfl
        refine pure_ (i := 17) (N := (some 41)) (v := ?_) (a' := ?_) #[true, true, true, true, true, false, false, true, true, true, true, true, true, true, true, true, true, true, false, false, false, false, false, false, false, false, false, false] rfl rfl (by kernel_rfl) (fun _ _ _ h => h) (Or.inl ⟨by rfl, ?_⟩) ?_ ?_
        rotate_left
        · intro w'
          go_simp
          with_reducible rfl
        rotate_left
        · simp only [Act.put, List.setIfInBounds_toArray, List.set_cons_zero, List.set_cons_succ, i64_w, i32_w]
          rfl
        refine pure_ (i := 19) (N := (some 43)) (v := ?_) (a' := ?_) #[true, true, true, true, true, false, false, true, true, true, true, true, true, true, true, true, true, true, false, true, false, false, false, false, false, false, false, false] rfl rfl (by kernel_rfl) (fun _ _ _ h => h) (Or.inl ⟨by rfl, ?_⟩) ?_ ?_
        rotate_left
        · intro w'
          go_simp
          with_reducible rfl
        rotate_left
        · simp only [Act.put, List.setIfInBounds_toArray, List.set_cons_zero, List.set_cons_succ, i64_w, i32_w]
          rfl
        refine pure_ (i := 20) (N := (some 44)) (v := ?_) (a' := ?_) #[true, true, true, true, true, false, false, true, true, true, true, true, true, true, true, true, true, true, false, true, true, false, false, false, false, false, false, false] rfl rfl (by kernel_rfl) (fun _ _ _ h => h) (Or.inl ⟨by rfl, ?_⟩) ?_ ?_
        rotate_left
        · intro w'
          go_simp
          with_reducible rfl
        rotate_left
        · simp only [Act.put, List.setIfInBounds_toArray, List.set_cons_zero, List.set_cons_succ, i64_w, i32_w]
          rfl
        refine take_ (i := 21) (N := (some 45)) (v := ?_) (a' := ?_) #[true, true, true, true, true, false, false, true, true, true, true, true, true, true, true, true, true, true, false, true, true, true, false, false, false, false, false, false] rfl rfl (by kernel_rfl) (fun _ _ _ h => h) (Or.inl ⟨by rfl, ?_⟩) hHeld ?_ ?_
        rotate_left
        · rintro w' ⟨z0, z1, z2, z3, z4⟩
          have hx := HKv.out _ z4
          go_simp
          with_reducible rfl
        rotate_left
        · simp only [Act.put, List.setIfInBounds_toArray, List.set_cons_zero, List.set_cons_succ, i64_w, i32_w]
          rfl
        refine pure_ (i := 23) (N := (some 47)) (v := ?_) (a' := ?_) #[true, true, true, true, true, false, false, true, true, true, true, true, true, true, true, true, true, true, false, true, true, true, false, true, false, false, false, false] rfl rfl (by kernel_rfl) (fun _ _ _ h => h) (Or.inl ⟨by rfl, ?_⟩) ?_ ?_
        rotate_left
        · intro w'
          go_simp
          with_reducible rfl
        rotate_left
        · simp only [Act.put, List.setIfInBounds_toArray, List.set_cons_zero, List.set_cons_succ, i64_w, i32_w]
          rfl
        refine pure_ (i := 24) (N := (some 48)) (v := ?_) (a' := ?_) #[true, true, true, true, true, false, false, true, true, true, true, true, true, true, true, true, true, true, false, true, true, true, false, true, true, false, false, false] rfl rfl (by kernel_rfl) (fun _ _ _ h => h) (Or.inl ⟨by rfl, ?_⟩) ?_ ?_
        rotate_left
        · intro w'
          go_simp
          with_reducible rfl
        rotate_left
        · simp only [Act.put, List.setIfInBounds_toArray, List.set_cons_zero, List.set_cons_succ, i64_w, i32_w]
          rfl
        refine take_ (i := 25) (N := (some 49)) (v := ?_) (a' := ?_) #[true, true, true, true, true, false, false, true, true, true, true, true, true, true, true, true, true, true, false, true, true, true, false, true, true, true, false, false] rfl rfl (by kernel_rfl) (fun _ _ _ h => h) (Or.inl ⟨by rfl, ?_⟩) hHeld ?_ ?_
        rotate_left
        · rintro w' ⟨z0, z1, z2, z3, z4⟩
          have hx := (blk_cell z2 t).trans HXv.out
          go_simp
          with_reducible rfl
        rotate_left
        · simp only [Act.put, List.setIfInBounds_toArray, List.set_cons_zero, List.set_cons_succ, i64_w, i32_w]
          rfl
        refine one_ (i := 5) (N := (some 29)) #[true, true, true, true, true, true, false, true, true, true, true, true, true, true, true, true, true, true, false, true, true, true, false, true, true, true, false, false] rfl rfl (by kernel_rfl) (by decide) (fun K hK => ?_)
        refine goes_ Tryd.func37 (by kernel_rfl) rfl #[.agg #[.int .i64 6, .int .i64 11, .int .i64 25, .bool false], .int .u32 s4] (by rfl) rfl rfl (by (try simp only [List.map_toArray, List.map_cons, List.map_nil]); first | done | rfl) ?_
        with_reducible refine (of_one s4 _).mono ?_
        rintro e w' ⟨rfl, hb⟩
        refine ⟨_, rfl, ?_⟩
        refine hK.out _ _ ⟨blk_below hHeld.1 hb, blk_below hHeld.2.1 hb, blk_below hHeld.2.2.1 hb, blk_below hHeld.2.2.2.1 hb, bl hHeld.2.2.2.2 hb⟩ (fun hHeld => ?_)
        clear hK K
        refine norm_ (a' := ?_) ?_ ?_
        rotate_left
        · show Act.put _ (some 29) _ = _
          simp only [Act.put, List.setIfInBounds_toArray, List.set_cons_zero, List.set_cons_succ, i64_w, i32_w]
          rfl
        refine pure_ (i := 6) (N := (some 30)) (v := ?_) (a' := ?_) #[true, true, true, true, true, true, true, true, true, true, true, true, true, true, true, true, true, true, false, true, true, true, false, true, true, true, false, false] rfl rfl (by kernel_rfl) (fun _ _ _ h => h) (Or.inl ⟨by rfl, ?_⟩) ?_ ?_
        rotate_left
        · intro w'
          go_simp
          with_reducible rfl
        rotate_left
        · simp only [Act.put, List.setIfInBounds_toArray, List.set_cons_zero, List.set_cons_succ, i64_w, i32_w]
          rfl
        refine pure_ (i := 18) (N := (some 42)) (v := ?_) (a' := ?_) #[true, true, true, true, true, true, true, true, true, true, true, true, true, true, true, true, true, true, true, true, true, true, false, true, true, true, false, false] rfl rfl (by kernel_rfl) (fun _ _ _ h => h) (Or.inl ⟨by rfl, ?_⟩) ?_ ?_
        rotate_left
        · intro w'
          go_simp
          with_reducible rfl
        rotate_left
        · simp only [Act.put, List.setIfInBounds_toArray, List.set_cons_zero, List.set_cons_succ, i64_w, i32_w]
          rfl
        refine pure_ (i := 22) (N := (some 46)) (v := ?_) (a' := ?_) #[true, true, true, true, true, true, true, true, true, true, true, true, true, true, true, true, true, true, true, true, true, true, true, true, true, true, false, false] rfl rfl (by kernel_rfl) (fun _ _ _ h => h) (Or.inl ⟨by rfl, ?_⟩) ?_ ?_
        rotate_left
        · intro w'
          go_simp
          with_reducible rfl
        rotate_left
        · simp only [Act.put, List.setIfInBounds_toArray, List.set_cons_zero, List.set_cons_succ, i64_w, i32_w]
          rfl
        refine pure_ (i := 26) (N := (some 50)) (v := ?_) (a' := ?_) #[true, true, true, true, true, true, true, true, true, true, true, true, true, true, true, true, true, true, true, true, true, true, true, true, true, true, true, false] rfl rfl (by kernel_rfl) (fun _ _ _ h => h) (Or.inl ⟨by rfl, ?_⟩) ?_ ?_
        rotate_left
        · intro w'
          go_simp
          with_reducible rfl
        rotate_left
        · simp only [Act.put, List.setIfInBounds_toArray, List.set_cons_zero, List.set_cons_succ, i64_w, i32_w]
          rfl
        refine pure_ (i := 27) (N := (some 9)) (v := ?_) (a' := ?_) #[true, true, true, true, true, true, true, true, true, true, true, true, true, true, true, true, true, true, true, true, true, true, true, true, true, true, true, true] rfl rfl (by kernel_rfl) (fun _ _ _ h => h) (Or.inl ⟨by rfl, ?_⟩) ?_ ?_
        rotate_left
        · intro w'
          go_simp
          with_reducible rfl
        rotate_left
        · simp only [Act.put, List.setIfInBounds_toArray, List.set_cons_zero, List.set_cons_succ, i64_w, i32_w]
          rfl
        refine done_ (by kernel_rfl) ?_
        go_wp2
        refine start_ (n := 20) (S := fun w' => w'.heap[w.heap.size]? = some (.cells #[.int .i64 6, .int .i64 11, .int .i64 25, .bool false] 72 (0, 0)) ∧ w'.heap[w.heap.size + 1]? = some (.cells #[.int .i64 2, .int .i64 13, .int .i64 22, .bool false] 72 (0, 0)) ∧ w'.heap[g6]? = some (.cells ⟨xs.map (Value.int .u32)⟩ 73 (0, 0)) ∧ w'.heap[g7]? = some (.cells ⟨[s0, s1, s2, s3, s4, s5, s6, s7].map (Value.int .u32)⟩ 53 (0, 0)) ∧ Below w.heap.size w w') (ds := []) #[false, false, false, false, false, false, false, false, false, false, false, false, false, false, false, false, false, false, false, false] (by kernel_rfl) rfl rfl ⟨blk_drew hHeld.1, blk_drew hHeld.2.1, blk_drew hHeld.2.2.1, blk_drew hHeld.2.2.2.1, below_drew hHeld.2.2.2.2⟩ (fun hHeld => ?_)
        refine take_ (i := 0) (N := (some 51)) (v := ?_) (a' := ?_) #[true, false, false, false, false, false, false, false, false, false, false, false, false, false, false, false, false, false, false, false] rfl rfl (by kernel_rfl) (fun _ _ _ h => h) (Or.inl ⟨by rfl, ?_⟩) hHeld ?_ ?_
        rotate_left
        · rintro w' ⟨z0, z1, z2, z3, z4⟩
          obtain ⟨hc0, hc1, hc2, hc3⟩ := box4 z1
          go_simp
          with_reducible rfl
        rotate_left
        · simp only [Act.put, List.setIfInBounds_toArray, List.set_cons_zero, List.set_cons_succ, i64_w, i32_w]
          rfl
        refine pure_ (i := 1) (N := (some 52)) (v := ?_) (a' := ?_) #[true, true, false, false, false, false, false, false, false, false, false, false, false, false, false, false, false, false, false, false] rfl rfl (by kernel_rfl) (fun _ _ _ h => h) (Or.inl ⟨by rfl, ?_⟩) ?_ ?_
        rotate_left
        · intro w'
          go_simp
          with_reducible rfl
        rotate_left
        · simp only [Act.put, List.setIfInBounds_toArray, List.set_cons_zero, List.set_cons_succ, i64_w, i32_w]
          rfl
        refine take_ (i := 2) (N := (some 53)) (v := ?_) (a' := ?_) #[true, true, true, false, false, false, false, false, false, false, false, false, false, false, false, false, false, false, false, false] rfl rfl (by kernel_rfl) (fun _ _ _ h => h) (Or.inl ⟨by rfl, ?_⟩) hHeld ?_ ?_
        rotate_left
        · rintro w' ⟨z0, z1, z2, z3, z4⟩
          obtain ⟨hc0, hc1, hc2, hc3, hc4, hc5, hc6, hc7⟩ := cells8b z3
          go_simp
          with_reducible rfl
        rotate_left
        · simp only [Act.put, List.setIfInBounds_toArray, List.set_cons_zero, List.set_cons_succ, i64_w, i32_w]
          rfl
        refine pure_ (i := 4) (N := (some 55)) (v := ?_) (a' := ?_) #[true, true, true, false, true, false, false, false, false, false, false, false, false, false, false, false, false, false, false, false] rfl rfl (by kernel_rfl) (fun _ _ _ h => h) (Or.inl ⟨by rfl, ?_⟩) ?_ ?_
        rotate_left
        · intro w'
          go_simp
          with_reducible rfl
        rotate_left
        · simp only [Act.put, List.setIfInBounds_toArray, List.set_cons_zero, List.set_cons_succ, i64_w, i32_w]
          rfl
        refine take_ (i := 5) (N := (some 56)) (v := ?_) (a' := ?_) #[true, true, true, false, true, true, false, false, false, false, false, false, false, false, false, false, false, false, false, false] rfl rfl (by kernel_rfl) (fun _ _ _ h => h) (Or.inl ⟨by rfl, ?_⟩) hHeld ?_ ?_
        rotate_left
        · rintro w' ⟨z0, z1, z2, z3, z4⟩
          obtain ⟨hc0, hc1, hc2, hc3, hc4, hc5, hc6, hc7⟩ := cells8b z3
          go_simp
          with_reducible rfl
        rotate_left
        · simp only [Act.put, List.setIfInBounds_toArray, List.set_cons_zero, List.set_cons_succ, i64_w, i32_w]
          rfl
        refine pure_ (i := 6) (N := (some 57)) (v := ?_) (a' := ?_) #[true, true, true, false, true, true, true, false, false, false, false, false, false, false, false, false, false, false, false, false] rfl rfl (by kernel_rfl) (fun _ _ _ h => h) (Or.inl ⟨by rfl, ?_⟩) ?_ ?_
        rotate_left
        · intro w'
          go_simp
          with_reducible rfl
        rotate_left
        · simp only [Act.put, List.setIfInBounds_toArray, List.set_cons_zero, List.set_cons_succ, i64_w, i32_w]
          rfl
        refine take_ (i := 7) (N := (some 58)) (v := ?_) (a' := ?_) #[true, true, true, false, true, true, true, true, false, false, false, false, false, false, false, false, false, false, false, false] rfl rfl (by kernel_rfl) (fun _ _ _ h => h) (Or.inl ⟨by rfl, ?_⟩) hHeld ?_ ?_
        rotate_left
        · rintro w' ⟨z0, z1, z2, z3, z4⟩
          obtain ⟨hc0, hc1, hc2, hc3, hc4, hc5, hc6, hc7⟩ := cells8b z3
          go_simp
          with_reducible rfl
        rotate_left
        · simp only [Act.put, List.setIfInBounds_toArray, List.set_cons_zero, List.set_cons_succ, i64_w, i32_w]
          rfl
        refine pure_ (i := 8) (N := (some 59)) (v := ?_) (a' := ?_) #[true, true, true, false, true, true, true, true, true, false, false, false, false, false, false, false, false, false, false, false] rfl rfl (by kernel_rfl) (fun _ _ _ h => h) (Or.inl ⟨by rfl, ?_⟩) ?_ ?_
        rotate_left
        · intro w'
          go_simp
          with_reducible rfl
        rotate_left
        · simp only [Act.put, List.setIfInBounds_toArray, List.set_cons_zero, List.set_cons_succ, i64_w, i32_w]
          rfl
        refine pure_ (i := 9) (N := (some 60)) (v := ?_) (a' := ?_) #[true, true, true, false, true, true, true, true, true, true, false, false, false, false, false, false, false, false, false, false] rfl rfl (by kernel_rfl) (fun _ _ _ h => h) (Or.inl ⟨by rfl, ?_⟩) ?_ ?_
        rotate_left
        · intro w'
          go_simp
          with_reducible rfl
        rotate_left
        · simp only [Act.put, List.setIfInBounds_toArray, List.set_cons_zero, List.set_cons_succ, i64_w, i32_w]
          rfl
        refine take_ (i := 10) (N := (some 61)) (v := ?_) (a' := ?_) #[true, true, true, false, true, true, true, true, true, true, true, false, false, false, false, false, false, false, false, false] rfl rfl (by kernel_rfl) (fun _ _ _ h => h) (Or.inl ⟨by rfl, ?_⟩) hHeld ?_ ?_
        rotate_left
        · rintro w' ⟨z0, z1, z2, z3, z4⟩
          obtain ⟨hc0, hc1, hc2, hc3, hc4, hc5, hc6, hc7⟩ := cells8b z3
          go_simp
          with_reducible rfl
        rotate_left
        · simp only [Act.put, List.setIfInBounds_toArray, List.set_cons_zero, List.set_cons_succ, i64_w, i32_w]
          rfl
        refine pure_ (i := 11) (N := (some 62)) (v := ?_) (a' := ?_) #[true, true, true, false, true, true, true, true, true, true, true, true, false, false, false, false, false, false, false, false] rfl rfl (by kernel_rfl) (fun _ _ _ h => h) (Or.inl ⟨by rfl, ?_⟩) ?_ ?_
        rotate_left
        · intro w'
          go_simp
          with_reducible rfl
        rotate_left
        · simp only [Act.put, List.setIfInBounds_toArray, List.set_cons_zero, List.set_cons_succ, i64_w, i32_w]
          rfl
        refine take_ (i := 12) (N := (some 63)) (v := ?_) (a' := ?_) #[true, true, true, false, true, true, true, true, true, true, true, true, true, false, false, false, false, false, false, false] rfl rfl (by kernel_rfl) (fun _ _ _ h => h) (Or.inl ⟨by rfl, ?_⟩) hHeld ?_ ?_
        rotate_left
        · rintro w' ⟨z0, z1, z2, z3, z4⟩
          obtain ⟨hc0, hc1, hc2, hc3, hc4, hc5, hc6, hc7⟩ := cells8b z3
          go_simp
          with_reducible rfl
        rotate_left
        · simp only [Act.put, List.setIfInBounds_toArray, List.set_cons_zero, List.set_cons_succ, i64_w, i32_w]
          rfl
        refine pure_ (i := 13) (N := (some 64)) (v := ?_) (a' := ?_) #[true, true, true, false, true, true, true, true, true, true, true, true, true, true, false, false, false, false, false, false] rfl rfl (by kernel_rfl) (fun _ _ _ h => h) (Or.inl ⟨by rfl, ?_⟩) ?_ ?_
        rotate_left
        · intro w'
          go_simp
          with_reducible rfl
        rotate_left
        · simp only [Act.put, List.setIfInBounds_toArray, List.set_cons_zero, List.set_cons_succ, i64_w, i32_w]
          rfl
        refine take_ (i := 14) (N := (some 65)) (v := ?_) (a' := ?_) #[true, true, true, false, true, true, true, true, true, true, true, true, true, true, true, false, false, false, false, false] rfl rfl (by kernel_rfl) (fun _ _ _ h => h) (Or.inl ⟨by rfl, ?_⟩) hHeld ?_ ?_
        rotate_left
        · rintro w' ⟨z0, z1, z2, z3, z4⟩
          obtain ⟨hc0, hc1, hc2, hc3, hc4, hc5, hc6, hc7⟩ := cells8b z3
          go_simp
          with_reducible rfl
        rotate_left
        · simp only [Act.put, List.setIfInBounds_toArray, List.set_cons_zero, List.set_cons_succ, i64_w, i32_w]
          rfl
        refine pure_ (i := 15) (N := (some 66)) (v := ?_) (a' := ?_) #[true, true, true, false, true, true, true, true, true, true, true, true, true, true, true, true, false, false, false, false] rfl rfl (by kernel_rfl) (fun _ _ _ h => h) (Or.inl ⟨by rfl, ?_⟩) ?_ ?_
        rotate_left
        · intro w'
          go_simp
          with_reducible rfl
        rotate_left
        · simp only [Act.put, List.setIfInBounds_toArray, List.set_cons_zero, List.set_cons_succ, i64_w, i32_w]
          rfl
        refine pure_ (i := 16) (N := (some 67)) (v := ?_) (a' := ?_) #[true, true, true, false, true, true, true, true, true, true, true, true, true, true, true, true, true, false, false, false] rfl rfl (by kernel_rfl) (fun _ _ _ h => h) (Or.inl ⟨by rfl, ?_⟩) ?_ ?_
        rotate_left
        · intro w'
          go_simp
          with_reducible rfl
        rotate_left
        · simp only [Act.put, List.setIfInBounds_toArray, List.set_cons_zero, List.set_cons_succ, i64_w, i32_w]
          rfl
        refine pure_ (i := 17) (N := (some 68)) (v := ?_) (a' := ?_) #[true, true, true, false, true, true, true, true, true, true, true, true, true, true, true, true, true, true, false, false] rfl rfl (by kernel_rfl) (fun _ _ _ h => h) (Or.inl ⟨by rfl, ?_⟩) ?_ ?_
        rotate_left
        · intro w'
          go_simp
          with_reducible rfl
        rotate_left
        · simp only [Act.put, List.setIfInBounds_toArray, List.set_cons_zero, List.set_cons_succ, i64_w, i32_w]
          rfl
        refine one_ (i := 3) (N := (some 54)) #[true, true, true, true, true, true, true, true, true, true, true, true, true, true, true, true, true, true, false, false] rfl rfl (by kernel_rfl) (by decide) (fun K hK => ?_)
        refine goes_ Tryd.func37 (by kernel_rfl) rfl #[.agg #[.int .i64 2, .int .i64 13, .int .i64 22, .bool false], .int .u32 s0] (by rfl) rfl rfl (by (try simp only [List.map_toArray, List.map_cons, List.map_nil]); first | done | rfl) ?_
        with_reducible refine (of_two s0 _).mono ?_
        rintro e w' ⟨rfl, hb⟩
        refine ⟨_, rfl, ?_⟩
        refine hK.out _ _ ⟨blk_below hHeld.1 hb, blk_below hHeld.2.1 hb, blk_below hHeld.2.2.1 hb, blk_below hHeld.2.2.2.1 hb, bl hHeld.2.2.2.2 hb⟩ (fun hHeld => ?_)
        clear hK K
        refine norm_ (a' := ?_) ?_ ?_
        rotate_left
        · show Act.put _ (some 54) _ = _
          simp only [Act.put, List.setIfInBounds_toArray, List.set_cons_zero, List.set_cons_succ, i64_w, i32_w]
          rfl
        refine pure_ (i := 18) (N := (some 69)) (v := ?_) (a' := ?_) #[true, true, true, true, true, true, true, true, true, true, true, true, true, true, true, true, true, true, true, false] rfl rfl (by kernel_rfl) (fun _ _ _ h => h) (Or.inl ⟨by rfl, ?_⟩) ?_ ?_
        rotate_left
        · intro w'
          go_simp
          with_reducible rfl
        rotate_left
        · simp only [Act.put, List.setIfInBounds_toArray, List.set_cons_zero, List.set_cons_succ, i64_w, i32_w]
          rfl
        refine pure_ (i := 19) (N := (some 10)) (v := ?_) (a' := ?_) #[true, true, true, true, true, true, true, true, true, true, true, true, true, true, true, true, true, true, true, true] rfl rfl (by kernel_rfl) (fun _ _ _ h => h) (Or.inl ⟨by rfl, ?_⟩) ?_ ?_
        rotate_left
        · intro w'
          go_simp
          with_reducible rfl
        rotate_left
        · simp only [Act.put, List.setIfInBounds_toArray, List.set_cons_zero, List.set_cons_succ, i64_w, i32_w]
          rfl
        refine done_ (by kernel_rfl) ?_
        go_wp2
        generalize hp : IntKind.u32.wrap (IntKind.u32.wrap (IntKind.u32.wrap (IntKind.u32.wrap (s7 + oneW s4) + Go.bits .xor .u32 s6 (Go.bits .and .u32 s4 (Go.bits .xor .u32 s5 s6))) + kv) + xv) = p
        generalize hq : IntKind.u32.wrap (twoW s0 + Go.bits .or .u32 (Go.bits .and .u32 s0 s1) (Go.bits .and .u32 s2 (Go.bits .or .u32 s0 s1))) = q
        have HP := Aside0.mk hp
        have HQ := Aside0.mk hq
        clear hp hq
        refine start_ (n := 3) (S := fun w' => w'.heap[w.heap.size]? = some (.cells #[.int .i64 6, .int .i64 11, .int .i64 25, .bool false] 72 (0, 0)) ∧ w'.heap[w.heap.size + 1]? = some (.cells #[.int .i64 2, .int .i64 13, .int .i64 22, .bool false] 72 (0, 0)) ∧ w'.heap[g6]? = some (.cells ⟨xs.map (Value.int .u32)⟩ 73 (0, 0)) ∧ w'.heap[g7]? = some (.cells ⟨[s0, s1, s2, s3, s4, s5, s6, s7].map (Value.int .u32)⟩ 53 (0, 0)) ∧ Below w.heap.size w w') (ds := [2]) #[false, false, false] (by kernel_rfl) rfl rfl ⟨blk_drew hHeld.1, blk_drew hHeld.2.1, blk_drew hHeld.2.2.1, blk_drew hHeld.2.2.2.1, below_drew hHeld.2.2.2.2⟩ (fun hHeld => ?_)
        refine pure_ (i := 0) (N := (some 70)) (v := ?_) (a' := ?_) #[true, false, false] rfl rfl (by kernel_rfl) (fun _ _ _ h => h) (Or.inl ⟨by rfl, ?_⟩) ?_ ?_
        rotate_left
        · intro w'
          go_simp
          with_reducible rfl
        rotate_left
        · simp only [Act.put, List.setIfInBounds_toArray, List.set_cons_zero, List.set_cons_succ, i64_w, i32_w]
          rfl
        refine pure_ (i := 1) (N := (some 71)) (v := ?_) (a' := ?_) #[true, true, false] rfl rfl (by kernel_rfl) (fun _ _ _ h => h) (Or.inl ⟨by rfl, ?_⟩) ?_ ?_
        rotate_left
        · intro w'
          go_simp
          with_reducible rfl
        rotate_left
        · simp only [Act.put, List.setIfInBounds_toArray, List.set_cons_zero, List.set_cons_succ, i64_w, i32_w]
          rfl
        refine last_ (i := 2) (N := (some 72)) #[true, true, true] rfl rfl (by kernel_rfl) (by decide) (fun K hK => ?_)
        refine ite_wanted rfl ?_
        obtain ⟨z0, z1, z2, z3, z4⟩ := hHeld
        obtain ⟨Y7, hY⟩ : ∃ Y, Y = (wof z0).setRow g7 ⟨[s0, s0, s1, s2, s3, s4, s5, s6].map (Value.int .u32)⟩ := ⟨_, rfl⟩
        dsimp only [wof] at hY
        refine op_copy (.tmp 70) (.tmp 71) 76 76 rfl _ _ rfl rfl (run_copy_row _ _ _ _ _ 52 g7 1 7 7 ⟨g7, 0, none⟩ 7 8 _ _ [.int .u32 s0, .int .u32 s1, .int .u32 s2, .int .u32 s3, .int .u32 s4, .int .u32 s5, .int .u32 s6] Tryd.underlying76 rfl z3 rfl (copy_src8 z3) (by simp) (one_u32 [s0, s1, s2, s3, s4, s5, s6])) ?_
        have n7 : Y7.heap[g7]? = some (.cells ⟨[s0, s0, s1, s2, s3, s4, s5, s6].map (Value.int .u32)⟩ 53 (0, 0)) := by rw [hY]; exact setRow_heap _ g7 _ _ _ _ z3
        have n0 := (show Y7.heap[w.heap.size]? = _ by rw [hY]; exact setRow_other _ g7 _ _ (by omega)).trans z0
        have n1 := (show Y7.heap[w.heap.size + 1]? = _ by rw [hY]; exact setRow_other _ g7 _ _ (by omega)).trans z1
        have n6 := (show Y7.heap[g6]? = _ by rw [hY]; exact setRow_other _ g7 _ _ hne).trans z2
        have nb : Below w.heap.size w Y7 := by rw [hY]; exact below_row z4 (by omega) _
        refine at_world (K := K) hY ?_
        clear hY z0 z1 z2 z3 z4
        refine hK.out _ _ ?_
        clear hK K
        refine done_ (by kernel_rfl) ?_
        clear HKv HXv HO1 HT1 H6 H7b HB
        have hc4 : Y7.cell? ⟨g7, 4, none⟩ = some (.int .u32 s3) := blk_cell n7 4
        have hc0 : Y7.cell? ⟨g7, 0, none⟩ = some (.int .u32 s0) := blk_cell n7 0
        have hf0 := blk_frozen n7 0
        have hf4 := blk_frozen n7 4
        have HN0 := Aside0.mk n0
        have HN1 := Aside0.mk n1
        have HN6 := Aside0.mk n6
        have HN7 := Aside0.mk n7
        have HNB := Aside0.mk nb
        clear n0 n1 n6 n7 nb
        go_wp2
        refine ⟨⟨t + 1, rfl, by omega, ⟨?_⟩, ⟨?_⟩, ⟨?_⟩, ⟨?_⟩, ⟨?_⟩⟩, by simp [intOf]; omega⟩
        · exact (Below.heap_setCell _ _ _ _ (by simp; omega)).trans ((Below.heap_setCell _ _ _ _ (by simp; omega)).trans HN0.out)
        · exact (Below.heap_setCell _ _ _ _ (by simp; omega)).trans ((Below.heap_setCell _ _ _ _ (by simp; omega)).trans HN1.out)
        · exact (Below.heap_setCell _ _ _ _ (by simp; omega)).trans ((Below.heap_setCell _ _ _ _ (by simp; omega)).trans HN6.out)
        · rw [HST1.out]
          have hp' := HP.out
          have hq' := HQ.out
          subst hp'
          subst hq'
          exact blk_set (blk_set HN7.out 0 _) 4 _
        · exact (HNB.out.setCell (by simp; omega) _).setCell (by simp; omega) _
      · have hd1 : decide ((t : Int) < 64) = false := decide_eq_false (by omega)
        have ht64 : t = 64 := by omega
        subst ht64
        obtain ⟨s0, s1, s2, s3, s4, s5, s6, s7, hs⟩ := eight (roundsA_length (hs := [h0, h1, h2, h3, h4, h5, h6, h7]) rfl b 64)
        have hturn : Aside0 (turnA [h0, h1, h2, h3, h4, h5, h6, h7] b = midA [h0, h1, h2, h3, h4, h5, h6, h7] [s0, s1, s2, s3, s4, s5, s6, s7] 8) := ⟨by unfold turnA; rw [hs]; rfl⟩
        have h7b := H7.out
        rw [hs] at h7b
        have HS7 := Aside0.mk h7b
        have HGm : Aside0 (wr.heap[g]? = some (.cells ⟨(midA [h0, h1, h2, h3, h4, h5, h6, h7] [s0, s1, s2, s3, s4, s5, s6, s7] 0).map (Value.int .u32) ++ tail⟩ u (0, 0))) := ⟨blk_below HG.out HB.out⟩
        have HKB : Aside0 (KeepBut w wr g none) := ⟨HB.out.size, fun k hk _ _ => HB.out.block k hk⟩
        have HBB : Aside0 (∀ B w0, Below B w0 w → B ≤ g → Below B w0 wr) := ⟨fun B w0 h hle => h.trans (HB.out.mono (by omega))⟩
        clear hs h7b H7 H6 HO1 HT1 HB
        go_wp2
        go_loopw [83] (fun i wr => ∃ k : Nat, i = .int .i64 k ∧ k ≤ 8 ∧ Aside0 (wr.heap[g]? = some (.cells ⟨(midA [h0, h1, h2, h3, h4, h5, h6, h7] [s0, s1, s2, s3, s4, s5, s6, s7] k).map (Value.int .u32) ++ tail⟩ u (0, 0))) ∧ Aside0 (wr.heap[g7]? = some (.cells ⟨[s0, s1, s2, s3, s4, s5, s6, s7].map (Value.int .u32)⟩ 53 (0, 0))) ∧ Aside0 (KeepBut w wr g none) ∧ Aside0 (∀ B w0, Below B w0 w → B ≤ g → Below B w0 wr)) (fun i _ => 8 - (intOf i).toNat)
        case atStart => exact ⟨0, rfl, by omega, HGm, HS7, HKB, HBB⟩
        case round =>
          clear HGm HS7 HKB HBB
          obtain ⟨k, rfl, hk, HGm, HS7, HKB, HBB⟩ := hrel
          by_cases hk8 : k < 8
          · have hd3 : decide ((k : Int) < 8) = true := decide_eq_true (by omega)
            have hk2 : (k : Int) < 8 := by omega
            have hcg := (blk_cell HGm.out k).trans (midA_cell tail hk8)
            have hfg := blk_frozen HGm.out k
            have hcs : wr.cell? ⟨g7, k, none⟩ = some (.int .u32 ([s0, s1, s2, s3, s4, s5, s6, s7].getD k 0)) := (blk_cell HS7.out k).trans (nums_cell (by simpa using hk8))
            have hset := blk_set HGm.out k (.int .u32 (ad ([h0, h1, h2, h3, h4, h5, h6, h7].getD k 0) ([s0, s1, s2, s3, s4, s5, s6, s7].getD k 0)))
            rw [midA_set tail hk8] at hset
            have hn7 := (Below.heap_setCell wr ⟨g, k, none⟩ (.int .u32 (ad ([h0, h1, h2, h3, h4, h5, h6, h7].getD k 0) ([s0, s1, s2, s3, s4, s5, s6, s7].getD k 0))) g7 (by simp; omega)).trans HS7.out
            have hkb : KeepBut w (wr.setCell ⟨g, k, none⟩ (.int .u32 (ad ([h0, h1, h2, h3, h4, h5, h6, h7].getD k 0) ([s0, s1, s2, s3, s4, s5, s6, s7].getD k 0)))) g none := ⟨by have := HKB.out.1; simpa using this, fun i hi hg hn => (Below.heap_setCell wr ⟨g, k, none⟩ _ i (by simpa using hg)).trans (HKB.out.2 i hi hg hn)⟩
            have hbb : ∀ B w0, Below B w0 w → B ≤ g → Below B w0 (wr.setCell ⟨g, k, none⟩ (.int .u32 (ad ([h0, h1, h2, h3, h4, h5, h6, h7].getD k 0) ([s0, s1, s2, s3, s4, s5, s6, s7].getD k 0)))) := fun B w0 h hle => (HBB.out B w0 h hle).setCell hle _
            have HM1 := Aside0.mk hset
            have HM2 := Aside0.mk hn7
            have HM3 := Aside0.mk hkb
            have HM4 := Aside0.mk hbb
            clear hset hn7 hkb hbb
            generalize [h0, h1, h2, h3, h4, h5, h6, h7].getD k 0 = hv at hcg HM1 HM2 HM3 HM4
            generalize [s0, s1, s2, s3, s4, s5, s6, s7].getD k 0 = sv at hcs HM1 HM2 HM3 HM4
            go_wp2
            go_region
            go_wp2
            exact ⟨⟨k + 1, rfl, by omega, ⟨HM1.out⟩, ⟨HM2.out⟩, ⟨HM3.out⟩, ⟨fun B w0 h hle => below_drew (HM4.out B w0 h hle)⟩⟩, by simp [intOf]; omega⟩
          · have hd3 : decide ((k : Int) < 8) = false := decide_eq_false (by omega)
            have hk88 : k = 8 := by omega
            subst hk88
            go_wp2
            refine bodyPost_end (results_list (rs := []) rfl (by simp) .nil) rfl ?_
            exact ⟨rfl, by rw [hturn.out]; exact HGm.out, HKB.out, HBB.out⟩
end Go.Proofs.YtncipbbdboeinaaDoor
