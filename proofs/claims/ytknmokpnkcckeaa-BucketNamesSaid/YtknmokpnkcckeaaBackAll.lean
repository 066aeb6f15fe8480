/-
The chapter's level, digest and bucket (law10.level, digest, one).
-/
import Derived.Test.YtknmokpnkcckeaaRefSl
import Derived.Lib.SlBytesConst
import Derived.Test.YtknmokpnkcckeaaRdLaw
namespace Go.Proofs.Ytknmokpnkcckeaa
open Go.RowKit Go.Proofs.YtknmokpnkcckeaaW.PrintWords Go.Proofs.YtknmokpnkcckeaaW.PrintLast Go.Proofs.YtknmokpnkcckeaaW.PrintMore Go.Proofs.Ytknmokpnkcckeaa.PAll
set_option linter.unusedVariables false
set_option linter.unusedSimpArgs false

set_option maxHeartbeats 4000000 in
set_option maxRecDepth 100000 in
theorem level_calls (w : World) : Calls Try.prog 29 #[] w fun e w' => e = .returned (.agg #[.int .i64 8, .int .i64 4, .int .i64 3, .int .i64 88]) ∧ Below w.heap.size w w' := by
  have HZ := Aside0.mk (heap_alloc_new w (.cells #[.int .i64 0, .int .i64 0, .int .i64 0, .int .i64 0] 23))
  have HB := Aside0.mk (below_alloc (Below.refl w.heap.size w) (.cells #[.int .i64 0, .int .i64 0, .int .i64 0, .int .i64 0] 23))
  go_enter Try.func29, Try.ntmps29
  repeat (first
    | ((with_reducible refine wpList_store 23 (.tmp 0) (.tmp 1) w.heap.size 23 #[.int .i64 0, .int .i64 0, .int .i64 0, .int .i64 0] #[.int .i64 8, .int .i64 4, .int .i64 3, .int .i64 88] rfl rfl ?hx ?hy ?hg rfl ?hi ?h1 ?_); (case hg => exact HZ.out); (case hx => rfl); (case hy => rfl); (case hi => exact infoLB); (case h1 => intro v hv; simp at hv; rcases hv with rfl | rfl | rfl | rfl <;> rfl); intro w7 q1 q2 q3 q4; have HR7 := Aside0.mk q1; have HB7 := Aside0.mk (q3 _ _ HB.out (Nat.le_refl _)); clear q1 q2 q3 q4)
    | go_values | go_guarded | go_step | go_upon | go_back)
  exact bodyPost_ret (results_single rfl (.cell w.heap.size _ _ (0, 0) _ rfl HR7.out Try.underlying23 rfl infoLB .nil)) rfl ⟨rfl, HB7.out⟩

theorem dig1_set (z : Int) (i : Nat) (hi : i < 32) : (⟨List.replicate i (Value.int .u8 z) ++ List.replicate (32 - i) (Value.int .u8 0)⟩ : Array Value).setIfInBounds i (Value.int .u8 z) = ⟨List.replicate (i + 1) (Value.int .u8 z) ++ List.replicate (32 - (i + 1)) (Value.int .u8 0)⟩ := by
  apply Array.ext'
  rw [Array.toList_setIfInBounds]
  show (List.replicate i (Value.int .u8 z) ++ List.replicate (32 - i) (Value.int .u8 0)).set i (Value.int .u8 z) = List.replicate (i + 1) (Value.int .u8 z) ++ List.replicate (32 - (i + 1)) (Value.int .u8 0)
  rw [List.set_append_right _ _ (by simp), List.length_replicate, Nat.sub_self, show 32 - i = (32 - (i + 1)) + 1 by omega, List.replicate_succ, List.set_cons_zero, List.replicate_succ', List.append_assoc]
  rfl
set_option maxHeartbeats 8000000 in
set_option maxRecDepth 100000 in
theorem dig1_calls (z : Int) (w : World) : Calls Try.prog 60 #[.int .u8 z] w fun e w' => e = .returned (.agg ⟨(List.replicate 32 z).map (Value.int .u8)⟩) ∧ Below w.heap.size w w' := by
  go_enter Try.func60, Try.ntmps60
  go_wp2
  generalize hw1 : World.alloc (World.alloc w _) _ = w1
  have HB : Aside0 (Below w.heap.size w w1) := ⟨by rw [← hw1]; exact below_alloc (below_alloc (Below.refl w.heap.size w) _) _⟩
  have HZ : Aside0 (w1.heap[w.heap.size]? = some (.cells ⟨List.replicate 32 (Value.int .u8 0)⟩ 38 (0, 0))) := ⟨by rw [← hw1]; exact blk_alloc (heap_alloc_new w _) _⟩
  have HD : Aside0 (w1.heap[w.heap.size + 1]? = some (.cells ⟨List.replicate 0 (Value.int .u8 z) ++ List.replicate (32 - 0) (Value.int .u8 0)⟩ 38 (0, 0))) := ⟨by
    have h := heap_alloc_new (w.alloc (.cells ⟨List.replicate 32 (Value.int .u8 0)⟩ 38)) (.cells ⟨List.replicate 32 (Value.int .u8 0)⟩ 38)
    rw [World.size_alloc] at h
    rw [← hw1]
    exact h⟩
  clear hw1
  go_loopw [4] (fun v wr => ∃ i : Nat, v = .int .i64 i ∧ i ≤ 32 ∧ Aside0 (wr.heap[w.heap.size + 1]? = some (.cells ⟨List.replicate i (Value.int .u8 z) ++ List.replicate (32 - i) (Value.int .u8 0)⟩ 38 (0, 0))) ∧ Aside0 (wr.heap[w.heap.size]? = some (.cells ⟨List.replicate 32 (Value.int .u8 0)⟩ 38 (0, 0))) ∧ Aside0 (Below w.heap.size w wr)) (fun v _ => 32 - (intOf v).toNat)
  case atStart => exact ⟨0, rfl, by omega, HD, HZ, HB⟩
  case round =>
    clear HB HZ HD
    obtain ⟨i, rfl, hi, HD, HZ, HB⟩ := hrel
    by_cases hlt : i < 32
    · have hlt2 : (i : Int) < 32 := by omega
      have hd1 : decide ((i : Int) < 32) = true := decide_eq_true (by omega)
      have hold : wr.cell? ⟨w.heap.size + 1, i, none⟩ = some (.int .u8 0) := by
        rw [blk_cell HD.out i, List.getElem?_toArray, List.getElem?_append_right (by simp), List.length_replicate, Nat.sub_self, List.getElem?_replicate, if_pos (by omega)]
      have hfr := blk_frozen HD.out i
      have hn := blk_set HD.out i (.int .u8 z)
      rw [dig1_set z i hlt] at hn
      have HN := Aside0.mk hn
      have HZN := Aside0.mk (blk_far (p := ⟨w.heap.size + 1, i, none⟩) HZ.out (by show w.heap.size ≠ w.heap.size + 1; omega) (.int .u8 z))
      have HBN := Aside0.mk (HB.out.setCell (p := ⟨w.heap.size + 1, i, none⟩) (by show w.heap.size ≤ w.heap.size + 1; omega) (.int .u8 z))
      clear hn HD HZ HB
      go_wp2
      exact ⟨⟨i + 1, rfl, by omega, HN, HZN, HBN⟩, by simp [intOf]; omega⟩
    · have hd1 : decide ((i : Int) < 32) = false := decide_eq_false (by omega)
      have h32 : i = 32 := by omega
      subst h32
      have hd := HD.out
      rw [Nat.sub_self, List.replicate_zero, List.append_nil] at hd
      have HDD : Aside0 (wr.heap[w.heap.size + 1]? = some (.cells ⟨(List.replicate 32 z).map (Value.int .u8)⟩ 38 (0, 0))) := ⟨by rw [List.map_replicate]; exact hd⟩
      have HLN : Aside0 (((List.replicate 32 z).map (Value.int .u8)).length = 32) := ⟨by simp⟩
      clear hd HD
      repeat (first
        | ((with_reducible refine wpList_whole_g 38 (.tmp 3) (w.heap.size + 1) 38 ((List.replicate 32 z).map (Value.int .u8)) _ ?hw rfl ?hx ?hg Try.underlying38 ?hd ?hi ?_); (case hg => exact HDD.out); (case hw => rfl); (case hx => rfl); (case hd => rfl); (case hi => rw [HLN.out]; exact info38D))
        | ((with_reducible refine wpList_store 38 (.tmp 2) (.tmp 12) w.heap.size 38 ⟨List.replicate 32 (Value.int .u8 0)⟩ ⟨(List.replicate 32 z).map (Value.int .u8)⟩ rfl rfl ?hx ?hy ?hg ?hs ?hi ?h1 ?_); (case hg => exact HZ.out); (case hx => rfl); (case hy => rfl); (case hs => exact HLN.out.symm); (case hi => show _ = some ((List.replicate 32 z).map (Value.int .u8)).length; rw [HLN.out]; exact info38D); (case h1 => intro v hv; obtain ⟨x, _, rfl⟩ := List.mem_map.1 hv; rfl); intro w7 q1 q2 q3 q4; have HR7 := Aside0.mk q1; have HB7 := Aside0.mk (q3 _ _ HB.out (Nat.le_refl _)); clear q1 q2 q3 q4)
        | go_values | go_guarded | go_step | go_upon | go_back)
      refine bodyPost_ret (results_single rfl (.cell w.heap.size _ _ (0, 0) _ rfl HR7.out Try.underlying38 rfl ?_ .nil)) rfl ?_
      · show _ = some ((List.replicate 32 z).map (Value.int .u8)).length
        rw [HLN.out]
        exact info38D
      · exact ⟨rfl, HB7.out⟩
/-- A block of numbers, marked or not, read as a row. -/
theorem F_lit {W : World} {b t : Nat} {fr : Nat × Nat} (k : IntKind) (zs : List Int) (hz : zs.length ≤ 9223372036854775807) {ok : Nat → Prop} (hok : ok b) (h : W.heap[b]? = some (.cells (zs.map (Value.int k)).toArray t fr)) :
    Kd.F (Kd.int k) W ok (some ⟨b, 0, none⟩) zs.length zs := by
  intro W' hW
  have hlt : b < W.heap.size := (Array.getElem?_eq_some_iff.1 h).1
  have h' : W'.heap[b]? = some (.cells (zs.map (Value.int k)).toArray t fr) := (hW b hok hlt).trans h
  refine ⟨rfl, hz, fun _ => ⟨_, rfl, fun j p hj => ?_⟩⟩
  refine ⟨[.int k p], rfl, rfl, fun i u hu => ?_⟩
  have hi : i = 0 := by
    rcases i with _ | i
    · rfl
    · simp at hu
  subst hi
  simp only [List.getElem?_cons_zero, Option.some.injEq] at hu
  subst hu
  have hc : ∀ k', W'.cell? ⟨b, k', none⟩ = (zs.map (Value.int k)).toArray[k']? := fun k' => cell_of_row W' b k' _ t fr h'
  have he : (⟨b, 0, none⟩ : Addr).add (j * (Kd.int k).sz + 0) = ⟨b, j, none⟩ := by rw [add_at]; simp [Kd.int, Kd.scalar]
  rw [he, hc]
  simp [hj]
set_option maxRecDepth 100000 in
theorem build_bk3 {L R : List Int} (A : Option Addr) (n c : Nat) (hL : L.length = 32) (hR : R.length = 32) : Try.prog.built 40 [(0, .slice A n c), (1, .agg ⟨L.map (Value.int .u8)⟩), (2, .agg ⟨R.map (Value.int .u8)⟩)] = some ⟨bkC A n c L R⟩ := by
  obtain ⟨a0, a1, a2, a3, a4, a5, a6, a7, a8, a9, a10, a11, a12, a13, a14, a15, a16, a17, a18, a19, a20, a21, a22, a23, a24, a25, a26, a27, a28, a29, a30, a31, rfl⟩ := list32 hL
  obtain ⟨b0, b1, b2, b3, b4, b5, b6, b7, b8, b9, b10, b11, b12, b13, b14, b15, b16, b17, b18, b19, b20, b21, b22, b23, b24, b25, b26, b27, b28, b29, b30, b31, rfl⟩ := list32 hR
  kernel_rfl
section
variable {ops : Array Oper} {rest : List Oper} {op : Oper} {a : Act} {w : World} {Q : Exit → Act → World → Prop}
theorem wpList_build3 {x y z : Operand} {A : Option Addr} {n c : Nat} {L R : List Int} (hgd : op.guard = none) (ho : op.op = .build 40 #[(0, x), (1, y), (2, z)]) (hx : a.eval x = .slice A n c) (hy : a.eval y = .agg ⟨L.map (Value.int .u8)⟩) (hz : a.eval z = .agg ⟨R.map (Value.int .u8)⟩) (hL : L.length = 32) (hR : R.length = 32)
    (h : wpList Try.prog ops Q rest (a.put op.dst (.agg ⟨bkC A n c L R⟩)) w) : wpList Try.prog ops Q (op :: rest) a w := by
  refine wpList_plain hgd fun K hK => ?_
  have hb := run_build (P := Try.prog) w 40 #[(0, .slice A n c), (1, .agg ⟨L.map (Value.int .u8)⟩), (2, .agg ⟨R.map (Value.int .u8)⟩)] _ (build_bk3 A n c hL hR)
  have hr : (execOp a.eval op).run Try.prog w = .ok (.value (.agg ⟨bkC A n c L R⟩)) w := by
    unfold execOp
    simp only [ho, List.map_toArray, List.map_cons, List.map_nil, hx, hy, hz, Sem.run_bind, hb, Result.andThen_ok, Sem.run_pure]
  unfold Oper.wp
  rw [hr]
  exact hK _ _ h
end
/-- The chapter's block and digests. -/
def blk1 : S62 := ⟨2, 5, [97, 98, 99, 100]⟩
def rep1 : List Int := List.replicate 32 1
def rep2 : List Int := List.replicate 32 2
theorem rep1_length : rep1.length = 32 := List.length_replicate
theorem rep2_length : rep2.length = 32 := List.length_replicate

set_option maxHeartbeats 8000000 in
set_option maxRecDepth 100000 in
theorem one_calls (w : World) : Calls Try.prog 30 #[] w fun e w' => ∃ g h, e = .returned (.agg ⟨bkC (some ⟨g, 0, none⟩) 1 1 rep1 rep2⟩) ∧ w.heap.size ≤ g ∧ w'.heap[g]? = some (.cells #[.int .i64 2, .int .i64 5, .slice (some ⟨h, 0, none⟩) 4 4] 62 (0, 0)) ∧ Kd.C (Kd.int .u8) w' (some ⟨h, 0, none⟩) 4 [97, 98, 99, 100] ∧ Below w.heap.size w w' := by
  have hconv : ∀ o : Obj, (convert 43 43 (.slice (some ⟨w.heap.size + 1, 0, none⟩) 4 4)).run Try.prog ((w.alloc o).alloc (.cells #[.int .u8 97, .int .u8 98, .int .u8 99, .int .u8 100] 5)) = .ok (.slice (some ⟨w.heap.size + 1, 0, none⟩) 4 4) ((w.alloc o).alloc (.cells #[.int .u8 97, .int .u8 98, .int .u8 99, .int .u8 100] 5 (4, 5))) := fun o => by
    have := Lib.run_convert_bytes_const (P := Try.prog) (w.alloc o) 43 5 #[.int .u8 97, .int .u8 98, .int .u8 99, .int .u8 100] 4 4 Try.underlying43 (by kernel_rfl)
    rw [World.size_alloc] at this
    exact this
  have hZ : ∀ (o1 o2 : Obj), (((w.alloc (.cells Try.zeroCells40 40)).alloc o1).alloc o2).heap[w.heap.size]? = some (.cells Try.zeroCells40 40 (0, 0)) := fun o1 o2 => blk_alloc (blk_alloc (heap_alloc_new w _) o1) o2
  have hC : ∀ (o1 o2 : Obj), (((w.alloc o1).alloc (.cells #[.int .u8 97, .int .u8 98, .int .u8 99, .int .u8 100] 5 (4, 5))).alloc o2).heap[w.heap.size + 1]? = some (.cells (([97, 98, 99, 100] : List Int).map (Value.int .u8)).toArray 5 (4, 5)) := fun o1 o2 => by
    have h := blk_alloc (heap_alloc_new (w.alloc o1) (.cells #[.int .u8 97, .int .u8 98, .int .u8 99, .int .u8 100] 5 (4, 5))) o2
    rw [World.size_alloc] at h
    exact h
  have hG : ∀ (o1 o2 o3 : Obj), (((w.alloc o1).alloc o2).alloc o3).heap[w.heap.size + 1 + 1]? = some o3 := fun o1 o2 o3 => by
    have h := heap_alloc_new ((w.alloc o1).alloc o2) o3
    rw [World.size_alloc, World.size_alloc] at h
    exact h
  have hB : ∀ (o1 o2 o3 : Obj), Below w.heap.size w (((w.alloc o1).alloc o2).alloc o3) := fun o1 o2 o3 => below_alloc (below_alloc (below_alloc (Below.refl w.heap.size w) o1) o2) o3
  go_enter Try.func30, Try.ntmps30
  repeat (first
    | (go_at_call 60; (with_reducible refine (dig1_calls 1 _).mono ?_); rintro e2 w2 ⟨rfl, hb2⟩; have HZ2 := Aside0.mk (blk_below (hZ _ _) hb2); have HC2 := Aside0.mk (blk_below (hC _ _) hb2); have HG2 := Aside0.mk (blk_below (hG _ _ _) hb2); have HB2 := Aside0.mk (bl (hB _ _ _) hb2); clear hb2 hZ hC hG hB; (try dsimp only))
    | (go_at_call 60; (with_reducible refine (dig1_calls 2 _).mono ?_); rintro e3 w3 ⟨rfl, hb3⟩; have HZ3 := Aside0.mk (blk_below HZ2.out hb3); have HC3 := Aside0.mk (blk_below HC2.out hb3); have HG3 := Aside0.mk (blk_below HG2.out hb3); have HB3 := Aside0.mk (bl HB2.out hb3); clear hb3 HZ2 HC2 HG2 HB2; (try dsimp only))
    | ((with_reducible refine wpList_build3 (x := .tmp 4) (y := .tmp 5) (z := .tmp 6) (A := some ⟨w.heap.size + 1 + 1, 0, none⟩) (n := 1) (c := 1) (L := rep1) (R := rep2) rfl rfl ?hx ?hy ?hz rep1_length rep2_length ?_); (case hx => rfl); (case hy => rfl); (case hz => rfl); (try dsimp only))
    | ((with_reducible refine wpList_store 40 (.tmp 0) (.tmp 7) w.heap.size 40 Try.zeroCells40 ⟨bkC (some ⟨w.heap.size + 1 + 1, 0, none⟩) 1 1 rep1 rep2⟩ rfl rfl ?hx ?hy ?hg ?hs ?hi ?h1 ?_); (case hx => rfl); (case hy => rfl); (case hg => exact HZ3.out); (case hs => show _ = (bkC (some ⟨w.heap.size + 1 + 1, 0, none⟩) 1 1 rep1 rep2).length; rw [bkC_length rep1_length rep2_length]; rfl); (case hi => show _ = some (bkC (some ⟨w.heap.size + 1 + 1, 0, none⟩) 1 1 rep1 rep2).length; rw [bkC_length rep1_length rep2_length]; exact info40); (case h1 => exact bk_ones _ _ _ _ _); intro w4 q1 q2 q3 q4; have HZ4 := Aside0.mk q1; have HC4 := Aside0.mk ((q2 _ (by omega)).trans HC3.out); have HG4 := Aside0.mk ((q2 _ (by omega)).trans HG3.out); have HB4 := Aside0.mk (q3 _ _ HB3.out (Nat.le_refl _)); clear q1 q2 q3 q4)
    | go_values | go_guarded | go_step | go_upon | go_back)
  refine bodyPost_ret (results_single rfl (.cell w.heap.size _ _ (0, 0) _ rfl HZ4.out Try.underlying40 rfl (by show _ = some (bkC (some ⟨w.heap.size + 1 + 1, 0, none⟩) 1 1 rep1 rep2).length; rw [bkC_length rep1_length rep2_length]; exact info40) .nil)) rfl ⟨_, _, rfl, ?_, HG4.out, Kd.F_now (F_lit .u8 [97, 98, 99, 100] (by decide) (ok := fun _ => True) trivial HC4.out), HB4.out⟩
  omega
end Go.Proofs.Ytknmokpnkcckeaa

namespace Go.Proofs.Ytknmokpnkcckeaa
open Go.RowKit Go.Proofs.YtknmokpnkcckeaaW.PrintWords Go.Proofs.YtknmokpnkcckeaaW.PrintLast Go.Proofs.YtknmokpnkcckeaaW.PrintMore Go.Proofs.Ytknmokpnkcckeaa.PAll
set_option linter.unusedVariables false
set_option linter.unusedSimpArgs false

set_option maxRecDepth 100000 in
/-- bucket.Read, where the slots are bytes. -/
theorem bkRead_calls2 (l0 l1 l2 l3 : Int) (A : Option Addr) (c : Nat) (t : List Int) (w : World) (hr : Kd.C (Kd.int .u8) w A t.length t) (hc : t.length ≤ c) (hb : ∀ p ∈ slotsB (manyS l0 l1 l2 l3).toNat (8 + l1).toNat t, Bytes p) (w3 : (Lit.int .i64 l3).wf = true) (X : List S62) (L R : List Int) (E : Int) (hX : readAns l0 l1 l2 l3 t = (X, L, R, E)) :
    Calls Try.prog 27 #[.agg #[.int .i64 l0, .int .i64 l1, .int .i64 l2, .int .i64 l3], .slice A t.length c] w fun e w' => ∃ A' c', e = .returned (.tuple #[.agg ⟨bkC A' X.length c' L R⟩, .int .i64 E]) ∧ X.length ≤ c' ∧ Kd.C k62 w' A' X.length X ∧ Below w.heap.size w w' := by
  unfold readAns at hX
  by_cases hl : levelOk l0 l1 l2 l3
  · obtain ⟨many, q, hmn, hdv, h1, h4, hq, hl3, hl1, hl32, hh⟩ := level_facts hl w3
    have hs : slot_Slots.f 20 l0 l1 l2 l3 = some ((many : Int), 0) := by rw [slots_eq20]; unfold slotsS; rw [if_pos hl, hdv]
    rw [if_pos hl] at hX
    rw [hmn, hq, Int.toNat_natCast, Int.toNat_natCast] at hb
    by_cases hlen : (t.length : Int) = l3
    · rw [if_pos hlen, hmn, hq, Int.toNat_natCast, Int.toNat_natCast] at hX
      refine ((callsIn_wide.1 (readBk_good many q (readS l0 l1 l2 l3) l0 l1 l2 l3 A c t w hr hc hs h1 h4 hl1 hl32 hl3 hlen hq (fun i hi => readS_eq _ _ _ _ _ (hb _ (List.mem_map_of_mem (List.mem_range.2 hi)))) (fun i hi => readS_wf _)))).mono fun e w' hp => ?_
      rw [hX] at hp
      obtain ⟨A', c', h1, h2, h3, _, h5⟩ := hp
      exact ⟨A', c', h1, h2, h3, h5⟩
    · rw [if_neg hlen] at hX
      cases hX
      refine (readBk_short many l0 l1 l2 l3 A c t w hr hc hs h1 h4 hl1 hl32 hl3 hlen).mono fun e w' hp => ?_
      obtain ⟨rfl, hbl⟩ := hp
      exact ⟨none, 0, rfl, Nat.le_refl _, Kd.C_nil _ _, hbl⟩
  · rw [if_neg hl] at hX
    cases hX
    refine (readBk_bad l0 l1 l2 l3 A c t w hl).mono fun e w' hp => ?_
    obtain ⟨rfl, hbl⟩ := hp
    exact ⟨none, 0, rfl, Nat.le_refl _, Kd.C_nil _ _, hbl⟩
theorem goR_txt {rd : List Int → RS} {Z : List Int} (hZ : (rd Z).2.2.2.1 = false ∧ (rd Z).2.2.2.2 = 0) : ∀ (bs : List S62) (n : Nat) (ys : List S62), (∀ b ∈ bs, rd (txtS b) = (b.f0, b.f1, b.f2, true, 0)) → ∃ g', goR rd (bs.map txtS ++ List.replicate n Z) (false, ys) = some (g', ys ++ bs)
  | [], n, ys, _ => by
    obtain ⟨g', h⟩ := goR_zeros (rd := rd) (Z := Z) hZ n false ys
    exact ⟨g', by simpa using h⟩
  | b :: bs, n, ys, h => by
    have hb := h b List.mem_cons_self
    obtain ⟨g', hg⟩ := goR_txt hZ bs n (ys ++ [b]) (fun x hx => h x (List.mem_cons_of_mem _ hx))
    refine ⟨g', ?_⟩
    rw [List.map_cons, List.cons_append, goR, hb, if_neg (by simp)]
    simp only [if_true, Bool.not_true]
    rw [show (⟨b.f0, b.f1, b.f2⟩ : S62) = b from rfl, hg, List.append_assoc]
    rfl
/-- The text of a bucket that may be, as its parts. -/
theorem text_facts {l0 l1 l2 l3 : Int} (w3 : (Lit.int .i64 l3).wf = true) {xs : List S62} {L R : List Int} (hL : L.length = 32) (hR : R.length = 32) (hbx : ∀ x ∈ xs, Bytes x.f2) (hE : bckS l0 l1 l2 l3 xs = 0) :
    ∃ many q : Nat, manyS l0 l1 l2 l3 = (many : Int) ∧ 8 + l1 = (q : Int) ∧ ((ofK l1 txtS xs many ++ L ++ R).length : Int) = l3 ∧ slotsB many q (ofK l1 txtS xs many ++ L ++ R) = xs.map txtS ++ List.replicate (many - xs.length) (List.replicate q 0) ∧ readAns l0 l1 l2 l3 (ofK l1 txtS xs many ++ L ++ R) = (xs, L, R, 0) ∧ ∀ p ∈ slotsB many q (ofK l1 txtS xs many ++ L ++ R), Bytes p := by
  have hE' := hE
  unfold bckS at hE'
  split at hE'
  · next hh =>
    obtain ⟨hl, hle, hok⟩ := hh
    obtain ⟨many, q, hmn, hdv, h1, h4, hq, hl3, hl1, hl32, hhi⟩ := level_facts hl w3
    have hqn : (8 + l1).toNat = q := by omega
    have hmay := okB_mem xs [] hok
    have hxm : xs.length ≤ many := by omega
    have hxl : ∀ x ∈ xs, (txtS x).length = q := fun x hx => by
      have := (hmay x hx).2.2.2.2
      unfold txtS ofS
      rw [List.length_append]
      simp
      omega
    have hq1 : ∀ p ∈ xs.map txtS ++ List.replicate (many - xs.length) (List.replicate q (0 : Int)), p.length = q := fun p hp => by
      rcases List.mem_append.1 hp with hp | hp
      · obtain ⟨x, hx, rfl⟩ := List.mem_map.1 hp
        exact hxl x hx
      · rw [List.eq_of_mem_replicate hp, List.length_replicate]
    have hlenf : ∀ (ps : List (List Int)), (∀ p ∈ ps, p.length = q) → ps.flatten.length = ps.length * q := fun ps => by
      induction ps with
      | nil => intro _; simp
      | cons p ps ih =>
        intro h
        rw [List.flatten_cons, List.length_append, h p List.mem_cons_self, ih (fun x hx => h x (List.mem_cons_of_mem _ hx)), List.length_cons, Nat.succ_mul]
        omega
    have hofK : ofK l1 txtS xs many = (xs.map txtS ++ List.replicate (many - xs.length) (List.replicate q 0)).flatten := by rw [ofK_flat hqn, List.take_of_length_le hxm]
    have hofl : (ofK l1 txtS xs many).length = many * q := by
      rw [hofK, hlenf _ hq1]
      congr 1
      simp
      omega
    have hlen : (ofK l1 txtS xs many ++ L ++ R).length = many * q + 64 := by rw [List.length_append, List.length_append, hofl, hL, hR]
    have hlen3 : ((ofK l1 txtS xs many ++ L ++ R).length : Int) = l3 := by rw [hlen, hl3, hq]; push_cast; omega
    have hsl : slotsB many q (ofK l1 txtS xs many ++ L ++ R) = xs.map txtS ++ List.replicate (many - xs.length) (List.replicate q 0) := by
      refine flat_inj (q := q) _ _ (by simp [slotsB]; omega) (fun p hp => slots_mem hp (by omega)) hq1 ?_
      rw [slots_flat, List.append_assoc, List.take_append_of_le_length (by omega), List.take_of_length_le (by omega), hofK]
    have hrd : ∀ b ∈ xs, readS l0 l1 l2 l3 (txtS b) = (b.f0, b.f1, b.f2, true, 0) := fun b hb => (read_of (hbx b hb) hl (hmay b hb)).2
    have hrdZ : readS l0 l1 l2 l3 (List.replicate q 0) = (0, 0, [], false, 0) := by
      unfold readS
      rw [if_pos hl, if_pos (by rw [List.length_replicate]; omega), if_pos (by rw [hqn])]
    obtain ⟨g', hg⟩ := goR_txt (rd := readS l0 l1 l2 l3) (Z := List.replicate q 0) (by rw [hrdZ]; exact ⟨rfl, rfl⟩) xs (many - xs.length) [] hrd
    refine ⟨many, q, hmn, hq, hlen3, hsl, ?_, fun p hp => ?_⟩
    · unfold readAns
      rw [if_pos hl, if_pos hlen3, hmn, hq, Int.toNat_natCast, Int.toNat_natCast]
      unfold readB
      rw [hsl, hg]
      simp only [List.nil_append]
      have e1 : ((ofK l1 txtS xs many ++ L ++ R).drop (many * q)).take 32 = L := by
        rw [List.append_assoc, List.drop_left' hofl, List.take_left' hL]
      have e2 : ((ofK l1 txtS xs many ++ L ++ R).drop (many * q + 32)).take 32 = R := by
        rw [List.drop_left' (by rw [List.length_append, hofl, hL]), List.take_of_length_le (by omega)]
      rw [hE, if_pos rfl, e1, e2]
    · rw [hsl] at hp
      rcases List.mem_append.1 hp with hp | hp
      · obtain ⟨x, hx, rfl⟩ := List.mem_map.1 hp
        exact (read_of (hbx x hx) hl (hmay x hx)).1
      · rw [List.eq_of_mem_replicate hp]
        intro z hz
        rw [List.eq_of_mem_replicate hz]
        decide
  · cases hE'
/-- What is read, written, is the text. -/
theorem read_text {l0 l1 l2 l3 : Int} (w3 : (Lit.int .i64 l3).wf = true) {t : List Int} (hb : Bytes t) {X : List S62} {L R : List Int} (h : readAns l0 l1 l2 l3 t = (X, L, R, 0)) :
    ∃ many : Nat, manyS l0 l1 l2 l3 = (many : Int) ∧ bckS l0 l1 l2 l3 X = 0 ∧ ofK l1 txtS X many ++ L ++ R = t := by
  unfold readAns at h
  by_cases hl : levelOk l0 l1 l2 l3
  · rw [if_pos hl] at h
    by_cases hlen : (t.length : Int) = l3
    · rw [if_pos hlen] at h
      obtain ⟨many, q, hmn, hdv, h1, h4, hq, hl3, hl1, hl32, hh⟩ := level_facts hl w3
      rw [hmn, hq, Int.toNat_natCast, Int.toNat_natCast] at h
      have hlt64 : t.length = many * q + 64 := by
        have : (t.length : Int) = ((many * q + 64 : Nat) : Int) := by rw [hlen, hl3, hq]; push_cast; omega
        exact_mod_cast this
      refine ⟨many, hmn, ?_, ?_⟩
      · unfold readB at h
        cases hR : goR (readS l0 l1 l2 l3) (slotsB many q t) (false, []) with
        | none => rw [hR] at h; cases h
        | some s =>
          rw [hR] at h
          simp only at h
          split at h
          · next hE => cases h; exact hE
          · next hE => injection h with _ h; injection h with _ h; injection h with _ h; exact absurd h hE
      · rw [read_eq l0 l1 l2 l3 many q t hl hdv hq hlt64 hb] at h
        unfold readD at h
        cases hD : goD (readS l0 l1 l2 l3) (slotsB many q t) [] with
        | none => rw [hD] at h; cases h
        | some xs =>
          rw [hD] at h
          simp only at h
          split at h
          · next hE => cases h; exact hE.2
          · cases h
    · rw [if_neg hlen] at h
      cases h
  · rw [if_neg hl] at h
    cases h
/-- Where there is an error, nothing is read. -/
theorem readAns_err {l0 l1 l2 l3 : Int} {t : List Int} {X : List S62} {L R : List Int} {E : Int} (h : readAns l0 l1 l2 l3 t = (X, L, R, E)) (hE : E ≠ 0) : X = [] ∧ L = dig0 ∧ R = dig0 := by
  unfold readAns at h
  split at h
  · split at h
    · unfold readB at h
      split at h
      · cases h; exact ⟨rfl, rfl, rfl⟩
      · split at h
        · cases h; exact absurd rfl hE
        · cases h; exact ⟨rfl, rfl, rfl⟩
    · cases h; exact ⟨rfl, rfl, rfl⟩
  · cases h; exact ⟨rfl, rfl, rfl⟩
end Go.Proofs.Ytknmokpnkcckeaa

namespace Go.Proofs.Ytknmokpnkcckeaa
open Go.RowKit Go.Proofs.YtknmokpnkcckeaaW.PrintWords Go.Proofs.YtknmokpnkcckeaaW.PrintLast Go.Proofs.YtknmokpnkcckeaaW.PrintMore Go.Proofs.Ytknmokpnkcckeaa.PAll
set_option linter.unusedVariables false
set_option linter.unusedSimpArgs false

set_option maxRecDepth 100000 in
/-- bucket.Write, at any level. -/
theorem wrtT_calls (many : Nat) (E : Int) (Z : List Int) (l0 l1 l2 l3 : Int) (A : Option Addr) (c : Nat) (xs : List S62) (L R : List Int) (w : World) (w3 : (Lit.int .i64 l3).wf = true) (hL : L.length = 32) (hR : R.length = 32) (hr : Kd.C k62 w A xs.length xs) (hn : xs.length ≤ 1000) (hwf : ∀ x ∈ xs, (Lit.int .i64 x.f0).wf = true) (hmn : manyS l0 l1 l2 l3 = (many : Int)) (hE : bckS l0 l1 l2 l3 xs = E) (hZ : Z = if E = 0 then ofK l1 txtS xs many ++ L ++ R else []) :
    Calls Try.prog 18 #[.agg #[.int .i64 l0, .int .i64 l1, .int .i64 l2, .int .i64 l3], .agg ⟨bkC A xs.length c L R⟩] w fun e w' => ∃ A' c', e = .returned (.tuple #[.slice A' Z.length c', .int .i64 E]) ∧ Z.length ≤ c' ∧ Kd.C (Kd.int .u8) w' A' Z.length Z ∧ Below w.heap.size w w' := by
  refine wrtZ_calls 20 E Z l0 l1 l2 l3 many A c xs L R txtS w hL hR hr hn hwf hE hZ (fun h0 => ?_)
  rw [h0] at hE
  unfold bckS at hE
  split at hE
  · next hh =>
    obtain ⟨hl, hle, hok⟩ := hh
    have hmay := okB_mem xs [] hok
    obtain ⟨many', q, hmn', hdv, h1, h4, hq, hl3, hl1, hl32, hhi⟩ := level_facts hl w3
    have : many' = many := by omega
    subst this
    refine ⟨by omega, h4, hl1, hl32, hl3, fun x hx => write_eq hl (hmay x hx), fun x hx => ?_, none_eq (Nat.le_refl _) hl⟩
    have := (hmay x hx).2.2.2.2
    unfold txtS ofS
    simp
    omega
  · cases hE
theorem one_C {W : World} {g h t : Nat} (hG : W.heap[g]? = some (.cells #[.int .i64 2, .int .i64 5, .slice (some ⟨h, 0, none⟩) 4 4] t (0, 0))) (hC : Kd.C (Kd.int .u8) W (some ⟨h, 0, none⟩) 4 [97, 98, 99, 100]) : Kd.C k62 W (some ⟨g, 0, none⟩) 1 [blk1] := by
  refine ⟨rfl, by decide, fun _ => ⟨_, rfl, fun j p hj => ?_⟩⟩
  have hj' : j = 0 ∧ blk1 = p := by
    rcases j with _ | j
    · exact ⟨rfl, Option.some.inj hj⟩
    · simp at hj
  obtain ⟨rfl, rfl⟩ := hj'
  refine ⟨[.int .i64 2, .int .i64 5, .slice (some ⟨h, 0, none⟩) 4 4], rfl, k62_mk W blk1 (by decide) hC, fun i u hu => ?_⟩
  have hc := blk_cell hG i
  have he : (⟨g, 0, none⟩ : Addr).add (0 * k62.sz + i) = ⟨g, i, none⟩ := by rw [add_at]; simp
  rw [he, hc]
  simpa using hu
theorem blk1_bytes : Bytes blk1.f2 := by
  intro z hz
  have : z = 97 ∨ z = 98 ∨ z = 99 ∨ z = 100 := by simpa [blk1] using hz
  omega
/-- The text of the chapter's bucket. -/
def Z1 : List Int := ofK 4 txtS [blk1] 2 ++ rep1 ++ rep2
theorem Z1_length : Z1.length = 88 := by decide +kernel
theorem Z1_0 : Z1[0]? = some 3 := by decide +kernel
theorem Z1_12 : Z1[12]? = some 0 := by decide +kernel
theorem Z1_24 : Z1[24]? = some 1 := by decide +kernel
theorem Z1_87 : Z1[87]? = some 2 := by decide +kernel
theorem many1 : manyS 8 4 3 88 = ((2 : Nat) : Int) := by decide +kernel
theorem bck0 : bckS 8 4 3 88 [] = 0 := by decide +kernel
theorem bck1 : bckS 8 4 3 88 [blk1] = 0 := by decide +kernel
theorem zero88 : ofK 4 txtS [] 2 ++ dig0 ++ dig0 = List.replicate 88 0 := by decide +kernel
theorem wr0_calls (w : World) : Calls Try.prog 18 #[.agg #[.int .i64 8, .int .i64 4, .int .i64 3, .int .i64 88], .agg ⟨bkC none 0 0 dig0 dig0⟩] w fun e w' => ∃ A' c', e = .returned (.tuple #[.slice A' 88 c', .int .i64 0]) ∧ 88 ≤ c' ∧ Kd.C (Kd.int .u8) w' A' 88 (List.replicate 88 0) ∧ Below w.heap.size w w' := by
  refine (wrtT_calls 2 0 (List.replicate 88 0) 8 4 3 88 none 0 [] dig0 dig0 w rfl dig0_length dig0_length (Kd.C_nil _ _) (by simp) (fun x hx => by simp at hx) many1 bck0 (by rw [if_pos rfl, zero88])).mono fun e w' hp => ?_
  rw [List.length_replicate] at hp
  exact hp
theorem wr1_calls (A : Option Addr) (c : Nat) (w : World) (hr : Kd.C k62 w A 1 [blk1]) : Calls Try.prog 18 #[.agg #[.int .i64 8, .int .i64 4, .int .i64 3, .int .i64 88], .agg ⟨bkC A 1 c rep1 rep2⟩] w fun e w' => ∃ A' c', e = .returned (.tuple #[.slice A' 88 c', .int .i64 0]) ∧ 88 ≤ c' ∧ Kd.C (Kd.int .u8) w' A' 88 Z1 ∧ Below w.heap.size w w' := by
  refine (wrtT_calls 2 0 Z1 8 4 3 88 A c [blk1] rep1 rep2 w rfl rep1_length rep2_length hr (by simp) (fun x hx => by rw [List.mem_singleton.1 hx]; rfl) many1 bck1 (by rw [if_pos rfl]; rfl)).mono fun e w' hp => ?_
  rw [Z1_length] at hp
  exact hp
theorem rd1_calls (A : Option Addr) (c : Nat) (w : World) (hr : Kd.C (Kd.int .u8) w A 88 Z1) (hc : 88 ≤ c) : Calls Try.prog 27 #[.agg #[.int .i64 8, .int .i64 4, .int .i64 3, .int .i64 88], .slice A 88 c] w fun e w' => ∃ A' c', e = .returned (.tuple #[.agg ⟨bkC A' 1 c' rep1 rep2⟩, .int .i64 0]) ∧ 1 ≤ c' ∧ Kd.C k62 w' A' 1 [blk1] ∧ Below w.heap.size w w' := by
  obtain ⟨many, q, hmn, hq, hl3, hsl, hans, hby⟩ := text_facts (l0 := 8) (l1 := 4) (l2 := 3) (l3 := 88) rfl (xs := [blk1]) rep1_length rep2_length (fun x hx => by rw [List.mem_singleton.1 hx]; exact blk1_bytes) bck1
  rw [many1] at hmn
  have hm2 : many = 2 := by omega
  have hq2 : q = 12 := by omega
  subst hm2
  subst hq2
  have h := bkRead_calls2 8 4 3 88 A c Z1 w (by rw [Z1_length]; exact hr) (by rw [Z1_length]; exact hc) (by rw [many1]; exact hby) rfl [blk1] rep1 rep2 0 hans
  rw [Z1_length] at h
  exact h
theorem same0_calls (A : Option Addr) (c : Nat) (A' : Option Addr) (c' : Nat) (w : World) (h1 : Kd.C (Kd.int .u8) w A 88 (List.replicate 88 0)) (hc1 : 88 ≤ c) (h2 : Kd.C (Kd.int .u8) w A' 88 (List.replicate 88 0)) (hc2 : 88 ≤ c') :
    Calls Try.prog 21 #[.slice A 88 c, .slice A' 88 c'] w fun e w' => e = .returned (.bool true) ∧ Below w.heap.size w w' := by
  have h := same01_calls A c A' c' (List.replicate 88 0) w (by rw [List.length_replicate]; exact h1) (by rw [List.length_replicate]; exact hc1) (by rw [List.length_replicate]; exact h2) (by rw [List.length_replicate]; exact hc2)
  rw [List.length_replicate] at h
  exact h
theorem sameOne_calls (A A' : Option Addr) (c c' : Nat) (w : World) (h1 : Kd.C k62 w A 1 [blk1]) (hc1 : 1 ≤ c) (h2 : Kd.C k62 w A' 1 [blk1]) (hc2 : 1 ≤ c') :
    Calls Try.prog 25 #[.agg ⟨bkC A 1 c rep1 rep2⟩, .agg ⟨bkC A' 1 c' rep1 rep2⟩] w fun e w' => e = .returned (.bool true) ∧ Below w.heap.size w w' := by
  have hb : ∀ x ∈ [blk1], Bytes x.f2 := fun x hx => by rw [List.mem_singleton.1 hx]; exact blk1_bytes
  refine (refSameB_calls 5 A A' c c' [blk1] [blk1] rep1 rep2 rep1 rep2 true w rep1_length rep2_length rep1_length rep2_length h1 hc1 h2 hc2 (by rw [sameAll_eq [blk1] [blk1] (by simp) hb hb (by simp), sameL_self])).mono fun e w' hp => ?_
  obtain ⟨he, hbl⟩ := hp
  exact ⟨by rw [he]; simp, hbl⟩
theorem z88_C {W : World} {b t : Nat} (h : W.heap[b]? = some (.cells (madeCells #[.int .u8 0] 88) t (0, 0))) : Kd.C (Kd.int .u8) W (some ⟨b, 0, none⟩) 88 (List.replicate 88 0) := by
  have h' : W.heap[b]? = some (.cells ((List.replicate 88 (0 : Int)).map (Value.int .u8)).toArray t (0, 0)) := by
    rw [h, show madeCells #[.int .u8 0] 88 = ((List.replicate 88 (0 : Int)).map (Value.int .u8)).toArray from Array.ext' (by rw [toList_madeCells_one, List.map_replicate])]
  have := Kd.F_now (F_lit .u8 (List.replicate 88 0) (by simp) (ok := fun _ => True) trivial h')
  rw [List.length_replicate] at this
  exact this
theorem Z1_cells {W : World} {A : Option Addr} (h : Kd.C (Kd.int .u8) W A 88 Z1) : ∃ ad, A = some ad ∧ ∀ W', Below W.heap.size W W' → ∀ (i : Nat) (z : Int), Z1[i]? = some z → W'.cell? (ad.add i) = some (.int .u8 z) := by
  obtain ⟨ad, rfl, _⟩ := h.2.2 (by decide)
  refine ⟨ad, rfl, fun W' hb i z hz => ?_⟩
  obtain ⟨ad, he, hc⟩ := (Kd.C_below h hb).2.2 (by decide)
  cases he
  obtain ⟨cs, hl, hk, hcell⟩ := hc i z hz
  obtain rfl : cs = [.int .u8 z] := hk
  have := hcell 0 _ rfl
  simpa [Kd.int, Kd.scalar] using this

set_option maxHeartbeats 16000000 in
set_option maxRecDepth 100000 in
theorem alive_calls (w : World) : Calls Try.prog 31 #[] w fun e w' => e = .returned (.bool true) ∧ Below w.heap.size w w' := by
  have hmk : ∀ W : World, (Instr.makeSlice 43 (.int .i64 88) (.int .i64 88)).run Try.prog W = .ok (.slice (some ⟨W.heap.size, 0, none⟩) 88 88) (W.alloc (.cells (madeCells #[.int .u8 0] 88) 5)) := fun W => print_make (P := Try.prog) 43 5 .u8 1 Try.underlying43 info5 (by decide) 88 (by decide) W
  go_enter Try.func31, Try.ntmps31
  repeat (first
    | ((with_reducible refine wpList_store 40 (.tmp 5) (.tmp 23) we.heap.size 40 Try.zeroCells40 ⟨bkC A3 1 c3 rep1 rep2⟩ rfl rfl ?hx ?hy ?hg ?hs ?hi ?h1 ?_); (case hg => exact HZ.out); (case hx => rfl); (case hy => rfl); (case hs => show _ = (bkC A3 1 c3 rep1 rep2).length; rw [bkC_length rep1_length rep2_length]; rfl); (case hi => show _ = some (bkC A3 1 c3 rep1 rep2).length; rw [bkC_length rep1_length rep2_length]; exact info40); (case h1 => exact bk_ones _ _ _ _ _); intro w4 q1 q2 q3 q4; have hb := q3 we.heap.size we (below_alloc (Below.refl _ _) (.cells Try.zeroCells40 40)) (Nat.le_refl _); have HG5 := Aside0.mk q1; have HB := Aside0.mk (bl HB.out hb); have HX0 := Aside0.mk (Kd.C_below HX0.out hb); have HX1 := Aside0.mk (Kd.C_below HX1.out hb); have HX3 := Aside0.mk (Kd.C_below HX3.out hb); clear q1 q2 q3 q4 hb HZ)
    | (go_at_call 27; (with_reducible refine (rd1_calls A1 c1 wd HX1.out HC1.out).mono ?_); rintro e2 we ⟨A3, c3, rfl, hc3, hC3, hb⟩; have HC3 := Aside0.mk hc3; have HX3 := Aside0.mk hC3; have HB := Aside0.mk (bl HB.out hb); have HX0 := Aside0.mk (Kd.C_below HX0.out hb); have HX1 := Aside0.mk (Kd.C_below HX1.out hb); have HZ := Aside0.mk (heap_alloc_new we (.cells Try.zeroCells40 40)); clear hb hc3 hC3; (try dsimp only))
    | (go_at_call 29; with_reducible refine (level_calls wc).mono ?_; rintro e1 wd ⟨rfl, hb⟩; have HB := Aside0.mk (bl HB.out hb); have HX0 := Aside0.mk (Kd.C_below HX0.out hb); have HX1 := Aside0.mk (Kd.C_below HX1.out hb); clear hb; (try dsimp only))
    | (go_at_call 18; (with_reducible refine (wr1_calls (some ⟨g2, 0, none⟩) 1 wb HO.out).mono ?_); rintro e2 wc ⟨A1, c1, rfl, hc1, hC1, hb⟩; have HC1 := Aside0.mk hc1; have HX1 := Aside0.mk hC1; have HB := Aside0.mk (bl HB.out hb); have HX0 := Aside0.mk (Kd.C_below HX0.out hb); clear hb hc1 hC1 HO; (try dsimp only))
    | (go_at_call 30; refine (one_calls wa).mono ?_; rintro e1 wb ⟨g2, h2, rfl, hg2, hG2, hC2, hb⟩; have HO := Aside0.mk (one_C hG2 hC2); have HB := Aside0.mk (bl HB.out hb); have HX0 := Aside0.mk (Kd.C_below HX0.out hb); clear hb hg2 hG2 hC2; (try dsimp only))
    | (go_at_call 29; refine (level_calls w2).mono ?_; rintro e1 wa ⟨rfl, hb⟩; have HB := Aside0.mk (bl HB2.out hb); have HX0 := Aside0.mk (Kd.C_below HX0.out hb); clear hb HB2; (try dsimp only))
    | (go_at_call 18; (refine (wr0_calls w1).mono ?_); rintro e2 w2 ⟨A0, c0, rfl, hc0, hC0, hb⟩; have HC0 := Aside0.mk hc0; have HX0 := Aside0.mk hC0; have HB2 := Aside0.mk (bl HB1.out hb); clear hb hc0 hC0 HB1; (try dsimp only))
    | (go_at_call 29; refine (level_calls w).mono ?_; rintro e1 w1 ⟨rfl, hb⟩; have HB1 := Aside0.mk hb; clear hb; (try dsimp only))
    | go_values | go_guarded | go_step | go_upon | go_back)
  obtain ⟨ad1, hA1, hcel⟩ := Z1_cells HX1.out
  subst hA1
  have HCEL := Aside0.mk hcel
  clear hcel
  refine start_ (n := 50) (S := fun w' => Below w4.heap.size w4 w') (ds := []) #[false, false, false, false, false, false, false, false, false, false, false, false, false, false, false, false, false, false, false, false, false, false, false, false, false, false, false, false, false, false, false, false, false, false, false, false, false, false, false, false, false, false, false, false, false, false, false, false, false, false] (by kernel_rfl) rfl rfl (below_drew (Below.refl _ _)) (fun hHeld => ?_)
  refine pure_ (i := 0) (N := (some 25)) (v := ?_) (a' := ?_) #[true, false, false, false, false, false, false, false, false, false, false, false, false, false, false, false, false, false, false, false, false, false, false, false, false, false, false, false, false, false, false, false, false, false, false, false, false, false, false, false, false, false, false, false, false, false, false, false, false, false] rfl rfl (by kernel_rfl) (fun _ _ _ h => h) (Or.inl ⟨by rfl, ?_⟩) ?_ ?_
  rotate_left
  · intro w'
    go_simp
    with_reducible rfl
  rotate_left
  · simp only [Act.put, List.setIfInBounds_toArray, List.set_cons_zero, List.set_cons_succ, i64_w, i32_w]
    rfl
  refine pure_ (i := 1) (N := (some 26)) (v := ?_) (a' := ?_) #[true, true, false, false, false, false, false, false, false, false, false, false, false, false, false, false, false, false, false, false, false, false, false, false, false, false, false, false, false, false, false, false, false, false, false, false, false, false, false, false, false, false, false, false, false, false, false, false, false, false] rfl rfl (by kernel_rfl) (fun _ _ _ h => h) (Or.inl ⟨by rfl, ?_⟩) ?_ ?_
  rotate_left
  · intro w'
    go_simp
    with_reducible rfl
  rotate_left
  · simp only [Act.put, List.setIfInBounds_toArray, List.set_cons_zero, List.set_cons_succ, i64_w, i32_w]
    rfl
  refine pure_ (i := 2) (N := (some 27)) (v := ?_) (a' := ?_) #[true, true, true, false, false, false, false, false, false, false, false, false, false, false, false, false, false, false, false, false, false, false, false, false, false, false, false, false, false, false, false, false, false, false, false, false, false, false, false, false, false, false, false, false, false, false, false, false, false, false] rfl rfl (by kernel_rfl) (fun _ _ _ h => h) (Or.inl ⟨by rfl, ?_⟩) ?_ ?_
  rotate_left
  · intro w'
    go_simp
    with_reducible rfl
  rotate_left
  · simp only [Act.put, List.setIfInBounds_toArray, List.set_cons_zero, List.set_cons_succ, i64_w, i32_w]
    rfl
  refine pure_ (i := 3) (N := (some 28)) (v := ?_) (a' := ?_) #[true, true, true, true, false, false, false, false, false, false, false, false, false, false, false, false, false, false, false, false, false, false, false, false, false, false, false, false, false, false, false, false, false, false, false, false, false, false, false, false, false, false, false, false, false, false, false, false, false, false] rfl rfl (by kernel_rfl) (fun _ _ _ h => h) (Or.inl ⟨by rfl, ?_⟩) ?_ ?_
  rotate_left
  · intro w'
    go_simp
    with_reducible rfl
  rotate_left
  · simp only [Act.put, List.setIfInBounds_toArray, List.set_cons_zero, List.set_cons_succ, i64_w, i32_w]
    rfl
  refine one_ (i := 4) (N := (some 29)) #[true, true, true, true, true, false, false, false, false, false, false, false, false, false, false, false, false, false, false, false, false, false, false, false, false, false, false, false, false, false, false, false, false, false, false, false, false, false, false, false, false, false, false, false, false, false, false, false, false, false] rfl rfl (by kernel_rfl) (by decide) (fun K hK => ?_)
  refine ite_wanted rfl ?_
  go_simp
  obtain ⟨w5, hw5⟩ : ∃ Y, Y = w4.drew.alloc (.cells (madeCells #[.int .u8 0] 88) 5) := ⟨_, rfl⟩
  have hz : (w4.drew.alloc (.cells (madeCells #[.int .u8 0] 88) 5)).heap[w4.heap.size]? = some (.cells (madeCells #[.int .u8 0] 88) 5 (0, 0)) := heap_alloc_new w4.drew (.cells (madeCells #[.int .u8 0] 88) 5)
  have hS := below_alloc hHeld (.cells (madeCells #[.int .u8 0] 88) 5)
  rw [← hw5] at hz hS
  refine at_world (K := K) hw5 ?_
  clear hw5
  have HK9 := Aside0.mk hz
  refine hK.out _ _ hS (fun hHeld => ?_)
  clear hK K hS hz
  refine one_ (i := 5) (N := (some 30)) #[true, true, true, true, true, true, false, false, false, false, false, false, false, false, false, false, false, false, false, false, false, false, false, false, false, false, false, false, false, false, false, false, false, false, false, false, false, false, false, false, false, false, false, false, false, false, false, false, false, false] rfl rfl (by kernel_rfl) (by decide) (fun K hK => ?_)
  refine goes_ Try.func21 (by kernel_rfl) rfl #[.slice A0 88 c0, .slice (some ⟨w4.heap.size, 0, none⟩) 88 88] (by rfl) rfl rfl (by (try simp only [List.map_toArray, List.map_cons, List.map_nil]); first | done | rfl) ?_
  refine (same0_calls A0 c0 (some ⟨w4.heap.size, 0, none⟩) 88 _ (Kd.C_below HX0.out hHeld) HC0.out (z88_C HK9.out) (Nat.le_refl _)).mono ?_
  rintro e w6 ⟨rfl, hb⟩
  have hS := bl hHeld hb
  clear hb
  refine ⟨_, rfl, ?_⟩
  refine hK.out _ _ hS (fun hHeld => ?_)
  clear hK K
  refine norm_ (a' := ?_) ?_ ?_
  rotate_left
  · show Act.put _ (some 30) _ = _
    simp only [Act.put, List.setIfInBounds_toArray, List.set_cons_zero, List.set_cons_succ, i64_w, i32_w]
    rfl
  refine pure_ (i := 6) (N := (some 31)) (v := ?_) (a' := ?_) #[true, true, true, true, true, true, true, false, false, false, false, false, false, false, false, false, false, false, false, false, false, false, false, false, false, false, false, false, false, false, false, false, false, false, false, false, false, false, false, false, false, false, false, false, false, false, false, false, false, false] rfl rfl (by kernel_rfl) (fun _ _ _ h => h) (Or.inl ⟨by rfl, ?_⟩) ?_ ?_
  rotate_left
  · intro w'
    go_simp
    with_reducible rfl
  rotate_left
  · simp only [Act.put, List.setIfInBounds_toArray, List.set_cons_zero, List.set_cons_succ, i64_w, i32_w]
    rfl
  refine pure_ (i := 7) (N := (some 32)) (v := ?_) (a' := ?_) #[true, true, true, true, true, true, true, true, false, false, false, false, false, false, false, false, false, false, false, false, false, false, false, false, false, false, false, false, false, false, false, false, false, false, false, false, false, false, false, false, false, false, false, false, false, false, false, false, false, false] rfl rfl (by kernel_rfl) (fun _ _ _ h => h) (Or.inl ⟨by rfl, ?_⟩) ?_ ?_
  rotate_left
  · intro w'
    go_simp
    with_reducible rfl
  rotate_left
  · simp only [Act.put, List.setIfInBounds_toArray, List.set_cons_zero, List.set_cons_succ, i64_w, i32_w]
    rfl
  refine pure_ (i := 8) (N := (some 33)) (v := ?_) (a' := ?_) #[true, true, true, true, true, true, true, true, true, false, false, false, false, false, false, false, false, false, false, false, false, false, false, false, false, false, false, false, false, false, false, false, false, false, false, false, false, false, false, false, false, false, false, false, false, false, false, false, false, false] rfl rfl (by kernel_rfl) (fun _ _ _ h => h) (Or.inl ⟨by rfl, ?_⟩) ?_ ?_
  rotate_left
  · intro w'
    go_simp
    with_reducible rfl
  rotate_left
  · simp only [Act.put, List.setIfInBounds_toArray, List.set_cons_zero, List.set_cons_succ, i64_w, i32_w]
    rfl
  refine pure_ (i := 9) (N := (some 34)) (v := ?_) (a' := ?_) #[true, true, true, true, true, true, true, true, true, true, false, false, false, false, false, false, false, false, false, false, false, false, false, false, false, false, false, false, false, false, false, false, false, false, false, false, false, false, false, false, false, false, false, false, false, false, false, false, false, false] rfl rfl (by kernel_rfl) (fun _ _ _ h => h) (Or.inl ⟨by rfl, ?_⟩) ?_ ?_
  rotate_left
  · intro w'
    go_simp
    with_reducible rfl
  rotate_left
  · simp only [Act.put, List.setIfInBounds_toArray, List.set_cons_zero, List.set_cons_succ, i64_w, i32_w]
    rfl
  refine pure_ (i := 10) (N := (some 35)) (v := ?_) (a' := ?_) #[true, true, true, true, true, true, true, true, true, true, true, false, false, false, false, false, false, false, false, false, false, false, false, false, false, false, false, false, false, false, false, false, false, false, false, false, false, false, false, false, false, false, false, false, false, false, false, false, false, false] rfl rfl (by kernel_rfl) (fun _ _ _ h => h) (Or.inl ⟨by rfl, ?_⟩) ?_ ?_
  rotate_left
  · intro w'
    go_simp
    with_reducible rfl
  rotate_left
  · simp only [Act.put, List.setIfInBounds_toArray, List.set_cons_zero, List.set_cons_succ, i64_w, i32_w]
    rfl
  refine pure_ (i := 11) (N := (some 36)) (v := ?_) (a' := ?_) #[true, true, true, true, true, true, true, true, true, true, true, true, false, false, false, false, false, false, false, false, false, false, false, false, false, false, false, false, false, false, false, false, false, false, false, false, false, false, false, false, false, false, false, false, false, false, false, false, false, false] rfl rfl (by kernel_rfl) (fun _ _ _ h => h) (Or.inl ⟨by rfl, ?_⟩) ?_ ?_
  rotate_left
  · intro w'
    go_simp
    with_reducible rfl
  rotate_left
  · simp only [Act.put, List.setIfInBounds_toArray, List.set_cons_zero, List.set_cons_succ, i64_w, i32_w]
    rfl
  refine pure_ (i := 12) (N := (some 37)) (v := ?_) (a' := ?_) #[true, true, true, true, true, true, true, true, true, true, true, true, true, false, false, false, false, false, false, false, false, false, false, false, false, false, false, false, false, false, false, false, false, false, false, false, false, false, false, false, false, false, false, false, false, false, false, false, false, false] rfl rfl (by kernel_rfl) (fun _ _ _ h => h) (Or.inl ⟨by rfl, ?_⟩) ?_ ?_
  rotate_left
  · intro w'
    go_simp
    with_reducible rfl
  rotate_left
  · simp only [Act.put, List.setIfInBounds_toArray, List.set_cons_zero, List.set_cons_succ, i64_w, i32_w]
    rfl
  refine pure_ (i := 13) (N := (some 38)) (v := ?_) (a' := ?_) #[true, true, true, true, true, true, true, true, true, true, true, true, true, true, false, false, false, false, false, false, false, false, false, false, false, false, false, false, false, false, false, false, false, false, false, false, false, false, false, false, false, false, false, false, false, false, false, false, false, false] rfl rfl (by kernel_rfl) (fun _ _ _ h => h) (Or.inl ⟨by rfl, ?_⟩) ?_ ?_
  rotate_left
  · intro w'
    go_simp
    with_reducible rfl
  rotate_left
  · simp only [Act.put, List.setIfInBounds_toArray, List.set_cons_zero, List.set_cons_succ, i64_w, i32_w]
    rfl
  refine pure_ (i := 14) (N := (some 39)) (v := ?_) (a' := ?_) #[true, true, true, true, true, true, true, true, true, true, true, true, true, true, true, false, false, false, false, false, false, false, false, false, false, false, false, false, false, false, false, false, false, false, false, false, false, false, false, false, false, false, false, false, false, false, false, false, false, false] rfl rfl (by kernel_rfl) (fun _ _ _ h => h) (Or.inl ⟨by rfl, ?_⟩) ?_ ?_
  rotate_left
  · intro w'
    go_simp
    with_reducible rfl
  rotate_left
  · simp only [Act.put, List.setIfInBounds_toArray, List.set_cons_zero, List.set_cons_succ, i64_w, i32_w]
    rfl
  refine pure_ (i := 15) (N := (some 40)) (v := ?_) (a' := ?_) #[true, true, true, true, true, true, true, true, true, true, true, true, true, true, true, true, false, false, false, false, false, false, false, false, false, false, false, false, false, false, false, false, false, false, false, false, false, false, false, false, false, false, false, false, false, false, false, false, false, false] rfl rfl (by kernel_rfl) (fun _ _ _ h => h) (Or.inl ⟨by rfl, ?_⟩) ?_ ?_
  rotate_left
  · intro w'
    go_simp
    with_reducible rfl
  rotate_left
  · simp only [Act.put, List.setIfInBounds_toArray, List.set_cons_zero, List.set_cons_succ, i64_w, i32_w]
    rfl
  refine pure_ (i := 16) (N := (some 41)) (v := ?_) (a' := ?_) #[true, true, true, true, true, true, true, true, true, true, true, true, true, true, true, true, true, false, false, false, false, false, false, false, false, false, false, false, false, false, false, false, false, false, false, false, false, false, false, false, false, false, false, false, false, false, false, false, false, false] rfl rfl (by kernel_rfl) (fun _ _ _ h => h) (Or.inl ⟨by rfl, ?_⟩) ?_ ?_
  rotate_left
  · intro w'
    go_simp
    with_reducible rfl
  rotate_left
  · simp only [Act.put, List.setIfInBounds_toArray, List.set_cons_zero, List.set_cons_succ, i64_w, i32_w]
    rfl
  refine pure_ (i := 17) (N := (some 42)) (v := ?_) (a' := ?_) #[true, true, true, true, true, true, true, true, true, true, true, true, true, true, true, true, true, true, false, false, false, false, false, false, false, false, false, false, false, false, false, false, false, false, false, false, false, false, false, false, false, false, false, false, false, false, false, false, false, false] rfl rfl (by kernel_rfl) (fun _ _ _ h => h) (Or.inl ⟨by rfl, ?_⟩) ?_ ?_
  rotate_left
  · intro w'
    go_simp
    with_reducible rfl
  rotate_left
  · simp only [Act.put, List.setIfInBounds_toArray, List.set_cons_zero, List.set_cons_succ, i64_w, i32_w]
    rfl
  refine pure_ (i := 18) (N := (some 43)) (v := ?_) (a' := ?_) #[true, true, true, true, true, true, true, true, true, true, true, true, true, true, true, true, true, true, true, false, false, false, false, false, false, false, false, false, false, false, false, false, false, false, false, false, false, false, false, false, false, false, false, false, false, false, false, false, false, false] rfl rfl (by kernel_rfl) (fun _ _ _ h => h) (Or.inl ⟨by rfl, ?_⟩) ?_ ?_
  rotate_left
  · intro w'
    go_simp
    with_reducible rfl
  rotate_left
  · simp only [Act.put, List.setIfInBounds_toArray, List.set_cons_zero, List.set_cons_succ, i64_w, i32_w]
    rfl
  refine take_ (i := 19) (N := (some 44)) (v := ?_) (a' := ?_) #[true, true, true, true, true, true, true, true, true, true, true, true, true, true, true, true, true, true, true, true, false, false, false, false, false, false, false, false, false, false, false, false, false, false, false, false, false, false, false, false, false, false, false, false, false, false, false, false, false, false] rfl rfl (by kernel_rfl) (fun _ _ _ h => h) (Or.inl ⟨by rfl, ?_⟩) hHeld ?_ ?_
  rotate_left
  · rintro w' z
    have hc : w'.cell? ad1 = some (.int .u8 3) := HCEL.out _ z 0 3 Z1_0
    go_simp
    with_reducible rfl
  rotate_left
  · simp only [Act.put, List.setIfInBounds_toArray, List.set_cons_zero, List.set_cons_succ, i64_w, i32_w]
    rfl
  refine pure_ (i := 20) (N := (some 45)) (v := ?_) (a' := ?_) #[true, true, true, true, true, true, true, true, true, true, true, true, true, true, true, true, true, true, true, true, true, false, false, false, false, false, false, false, false, false, false, false, false, false, false, false, false, false, false, false, false, false, false, false, false, false, false, false, false, false] rfl rfl (by kernel_rfl) (fun _ _ _ h => h) (Or.inl ⟨by rfl, ?_⟩) ?_ ?_
  rotate_left
  · intro w'
    go_simp
    with_reducible rfl
  rotate_left
  · simp only [Act.put, List.setIfInBounds_toArray, List.set_cons_zero, List.set_cons_succ, i64_w, i32_w]
    rfl
  refine pure_ (i := 21) (N := (some 46)) (v := ?_) (a' := ?_) #[true, true, true, true, true, true, true, true, true, true, true, true, true, true, true, true, true, true, true, true, true, true, false, false, false, false, false, false, false, false, false, false, false, false, false, false, false, false, false, false, false, false, false, false, false, false, false, false, false, false] rfl rfl (by kernel_rfl) (fun _ _ _ h => h) (Or.inl ⟨by rfl, ?_⟩) ?_ ?_
  rotate_left
  · intro w'
    go_simp
    with_reducible rfl
  rotate_left
  · simp only [Act.put, List.setIfInBounds_toArray, List.set_cons_zero, List.set_cons_succ, i64_w, i32_w]
    rfl
  refine pure_ (i := 22) (N := (some 47)) (v := ?_) (a' := ?_) #[true, true, true, true, true, true, true, true, true, true, true, true, true, true, true, true, true, true, true, true, true, true, true, false, false, false, false, false, false, false, false, false, false, false, false, false, false, false, false, false, false, false, false, false, false, false, false, false, false, false] rfl rfl (by kernel_rfl) (fun _ _ _ h => h) (Or.inl ⟨by rfl, ?_⟩) ?_ ?_
  rotate_left
  · intro w'
    go_simp
    with_reducible rfl
  rotate_left
  · simp only [Act.put, List.setIfInBounds_toArray, List.set_cons_zero, List.set_cons_succ, i64_w, i32_w]
    rfl
  refine pure_ (i := 23) (N := (some 48)) (v := ?_) (a' := ?_) #[true, true, true, true, true, true, true, true, true, true, true, true, true, true, true, true, true, true, true, true, true, true, true, true, false, false, false, false, false, false, false, false, false, false, false, false, false, false, false, false, false, false, false, false, false, false, false, false, false, false] rfl rfl (by kernel_rfl) (fun _ _ _ h => h) (Or.inl ⟨by rfl, ?_⟩) ?_ ?_
  rotate_left
  · intro w'
    go_simp
    with_reducible rfl
  rotate_left
  · simp only [Act.put, List.setIfInBounds_toArray, List.set_cons_zero, List.set_cons_succ, i64_w, i32_w]
    rfl
  refine pure_ (i := 24) (N := (some 49)) (v := ?_) (a' := ?_) #[true, true, true, true, true, true, true, true, true, true, true, true, true, true, true, true, true, true, true, true, true, true, true, true, true, false, false, false, false, false, false, false, false, false, false, false, false, false, false, false, false, false, false, false, false, false, false, false, false, false] rfl rfl (by kernel_rfl) (fun _ _ _ h => h) (Or.inl ⟨by rfl, ?_⟩) ?_ ?_
  rotate_left
  · intro w'
    go_simp
    with_reducible rfl
  rotate_left
  · simp only [Act.put, List.setIfInBounds_toArray, List.set_cons_zero, List.set_cons_succ, i64_w, i32_w]
    rfl
  refine take_ (i := 25) (N := (some 50)) (v := ?_) (a' := ?_) #[true, true, true, true, true, true, true, true, true, true, true, true, true, true, true, true, true, true, true, true, true, true, true, true, true, true, false, false, false, false, false, false, false, false, false, false, false, false, false, false, false, false, false, false, false, false, false, false, false, false] rfl rfl (by kernel_rfl) (fun _ _ _ h => h) (Or.inl ⟨by rfl, ?_⟩) hHeld ?_ ?_
  rotate_left
  · rintro w' z
    have hc : w'.cell? ⟨ad1.block, ad1.off + 12, none⟩ = some (.int .u8 0) := HCEL.out _ z 12 0 Z1_12
    go_simp
    with_reducible rfl
  rotate_left
  · simp only [Act.put, List.setIfInBounds_toArray, List.set_cons_zero, List.set_cons_succ, i64_w, i32_w]
    rfl
  refine pure_ (i := 26) (N := (some 51)) (v := ?_) (a' := ?_) #[true, true, true, true, true, true, true, true, true, true, true, true, true, true, true, true, true, true, true, true, true, true, true, true, true, true, true, false, false, false, false, false, false, false, false, false, false, false, false, false, false, false, false, false, false, false, false, false, false, false] rfl rfl (by kernel_rfl) (fun _ _ _ h => h) (Or.inl ⟨by rfl, ?_⟩) ?_ ?_
  rotate_left
  · intro w'
    go_simp
    with_reducible rfl
  rotate_left
  · simp only [Act.put, List.setIfInBounds_toArray, List.set_cons_zero, List.set_cons_succ, i64_w, i32_w]
    rfl
  refine pure_ (i := 27) (N := (some 52)) (v := ?_) (a' := ?_) #[true, true, true, true, true, true, true, true, true, true, true, true, true, true, true, true, true, true, true, true, true, true, true, true, true, true, true, true, false, false, false, false, false, false, false, false, false, false, false, false, false, false, false, false, false, false, false, false, false, false] rfl rfl (by kernel_rfl) (fun _ _ _ h => h) (Or.inl ⟨by rfl, ?_⟩) ?_ ?_
  rotate_left
  · intro w'
    go_simp
    with_reducible rfl
  rotate_left
  · simp only [Act.put, List.setIfInBounds_toArray, List.set_cons_zero, List.set_cons_succ, i64_w, i32_w]
    rfl
  refine pure_ (i := 28) (N := (some 53)) (v := ?_) (a' := ?_) #[true, true, true, true, true, true, true, true, true, true, true, true, true, true, true, true, true, true, true, true, true, true, true, true, true, true, true, true, true, false, false, false, false, false, false, false, false, false, false, false, false, false, false, false, false, false, false, false, false, false] rfl rfl (by kernel_rfl) (fun _ _ _ h => h) (Or.inl ⟨by rfl, ?_⟩) ?_ ?_
  rotate_left
  · intro w'
    go_simp
    with_reducible rfl
  rotate_left
  · simp only [Act.put, List.setIfInBounds_toArray, List.set_cons_zero, List.set_cons_succ, i64_w, i32_w]
    rfl
  refine pure_ (i := 29) (N := (some 54)) (v := ?_) (a' := ?_) #[true, true, true, true, true, true, true, true, true, true, true, true, true, true, true, true, true, true, true, true, true, true, true, true, true, true, true, true, true, true, false, false, false, false, false, false, false, false, false, false, false, false, false, false, false, false, false, false, false, false] rfl rfl (by kernel_rfl) (fun _ _ _ h => h) (Or.inl ⟨by rfl, ?_⟩) ?_ ?_
  rotate_left
  · intro w'
    go_simp
    with_reducible rfl
  rotate_left
  · simp only [Act.put, List.setIfInBounds_toArray, List.set_cons_zero, List.set_cons_succ, i64_w, i32_w]
    rfl
  refine pure_ (i := 30) (N := (some 55)) (v := ?_) (a' := ?_) #[true, true, true, true, true, true, true, true, true, true, true, true, true, true, true, true, true, true, true, true, true, true, true, true, true, true, true, true, true, true, true, false, false, false, false, false, false, false, false, false, false, false, false, false, false, false, false, false, false, false] rfl rfl (by kernel_rfl) (fun _ _ _ h => h) (Or.inl ⟨by rfl, ?_⟩) ?_ ?_
  rotate_left
  · intro w'
    go_simp
    with_reducible rfl
  rotate_left
  · simp only [Act.put, List.setIfInBounds_toArray, List.set_cons_zero, List.set_cons_succ, i64_w, i32_w]
    rfl
  refine take_ (i := 31) (N := (some 56)) (v := ?_) (a' := ?_) #[true, true, true, true, true, true, true, true, true, true, true, true, true, true, true, true, true, true, true, true, true, true, true, true, true, true, true, true, true, true, true, true, false, false, false, false, false, false, false, false, false, false, false, false, false, false, false, false, false, false] rfl rfl (by kernel_rfl) (fun _ _ _ h => h) (Or.inl ⟨by rfl, ?_⟩) hHeld ?_ ?_
  rotate_left
  · rintro w' z
    have hc : w'.cell? ⟨ad1.block, ad1.off + 24, none⟩ = some (.int .u8 1) := HCEL.out _ z 24 1 Z1_24
    go_simp
    with_reducible rfl
  rotate_left
  · simp only [Act.put, List.setIfInBounds_toArray, List.set_cons_zero, List.set_cons_succ, i64_w, i32_w]
    rfl
  refine pure_ (i := 32) (N := (some 57)) (v := ?_) (a' := ?_) #[true, true, true, true, true, true, true, true, true, true, true, true, true, true, true, true, true, true, true, true, true, true, true, true, true, true, true, true, true, true, true, true, true, false, false, false, false, false, false, false, false, false, false, false, false, false, false, false, false, false] rfl rfl (by kernel_rfl) (fun _ _ _ h => h) (Or.inl ⟨by rfl, ?_⟩) ?_ ?_
  rotate_left
  · intro w'
    go_simp
    with_reducible rfl
  rotate_left
  · simp only [Act.put, List.setIfInBounds_toArray, List.set_cons_zero, List.set_cons_succ, i64_w, i32_w]
    rfl
  refine pure_ (i := 33) (N := (some 58)) (v := ?_) (a' := ?_) #[true, true, true, true, true, true, true, true, true, true, true, true, true, true, true, true, true, true, true, true, true, true, true, true, true, true, true, true, true, true, true, true, true, true, false, false, false, false, false, false, false, false, false, false, false, false, false, false, false, false] rfl rfl (by kernel_rfl) (fun _ _ _ h => h) (Or.inl ⟨by rfl, ?_⟩) ?_ ?_
  rotate_left
  · intro w'
    go_simp
    with_reducible rfl
  rotate_left
  · simp only [Act.put, List.setIfInBounds_toArray, List.set_cons_zero, List.set_cons_succ, i64_w, i32_w]
    rfl
  refine pure_ (i := 34) (N := (some 59)) (v := ?_) (a' := ?_) #[true, true, true, true, true, true, true, true, true, true, true, true, true, true, true, true, true, true, true, true, true, true, true, true, true, true, true, true, true, true, true, true, true, true, true, false, false, false, false, false, false, false, false, false, false, false, false, false, false, false] rfl rfl (by kernel_rfl) (fun _ _ _ h => h) (Or.inl ⟨by rfl, ?_⟩) ?_ ?_
  rotate_left
  · intro w'
    go_simp
    with_reducible rfl
  rotate_left
  · simp only [Act.put, List.setIfInBounds_toArray, List.set_cons_zero, List.set_cons_succ, i64_w, i32_w]
    rfl
  refine pure_ (i := 35) (N := (some 60)) (v := ?_) (a' := ?_) #[true, true, true, true, true, true, true, true, true, true, true, true, true, true, true, true, true, true, true, true, true, true, true, true, true, true, true, true, true, true, true, true, true, true, true, true, false, false, false, false, false, false, false, false, false, false, false, false, false, false] rfl rfl (by kernel_rfl) (fun _ _ _ h => h) (Or.inl ⟨by rfl, ?_⟩) ?_ ?_
  rotate_left
  · intro w'
    go_simp
    with_reducible rfl
  rotate_left
  · simp only [Act.put, List.setIfInBounds_toArray, List.set_cons_zero, List.set_cons_succ, i64_w, i32_w]
    rfl
  refine pure_ (i := 36) (N := (some 61)) (v := ?_) (a' := ?_) #[true, true, true, true, true, true, true, true, true, true, true, true, true, true, true, true, true, true, true, true, true, true, true, true, true, true, true, true, true, true, true, true, true, true, true, true, true, false, false, false, false, false, false, false, false, false, false, false, false, false] rfl rfl (by kernel_rfl) (fun _ _ _ h => h) (Or.inl ⟨by rfl, ?_⟩) ?_ ?_
  rotate_left
  · intro w'
    go_simp
    with_reducible rfl
  rotate_left
  · simp only [Act.put, List.setIfInBounds_toArray, List.set_cons_zero, List.set_cons_succ, i64_w, i32_w]
    rfl
  refine take_ (i := 37) (N := (some 62)) (v := ?_) (a' := ?_) #[true, true, true, true, true, true, true, true, true, true, true, true, true, true, true, true, true, true, true, true, true, true, true, true, true, true, true, true, true, true, true, true, true, true, true, true, true, true, false, false, false, false, false, false, false, false, false, false, false, false] rfl rfl (by kernel_rfl) (fun _ _ _ h => h) (Or.inl ⟨by rfl, ?_⟩) hHeld ?_ ?_
  rotate_left
  · rintro w' z
    have hc : w'.cell? ⟨ad1.block, ad1.off + 87, none⟩ = some (.int .u8 2) := HCEL.out _ z 87 2 Z1_87
    go_simp
    with_reducible rfl
  rotate_left
  · simp only [Act.put, List.setIfInBounds_toArray, List.set_cons_zero, List.set_cons_succ, i64_w, i32_w]
    rfl
  refine pure_ (i := 38) (N := (some 63)) (v := ?_) (a' := ?_) #[true, true, true, true, true, true, true, true, true, true, true, true, true, true, true, true, true, true, true, true, true, true, true, true, true, true, true, true, true, true, true, true, true, true, true, true, true, true, true, false, false, false, false, false, false, false, false, false, false, false] rfl rfl (by kernel_rfl) (fun _ _ _ h => h) (Or.inl ⟨by rfl, ?_⟩) ?_ ?_
  rotate_left
  · intro w'
    go_simp
    with_reducible rfl
  rotate_left
  · simp only [Act.put, List.setIfInBounds_toArray, List.set_cons_zero, List.set_cons_succ, i64_w, i32_w]
    rfl
  refine pure_ (i := 39) (N := (some 64)) (v := ?_) (a' := ?_) #[true, true, true, true, true, true, true, true, true, true, true, true, true, true, true, true, true, true, true, true, true, true, true, true, true, true, true, true, true, true, true, true, true, true, true, true, true, true, true, true, false, false, false, false, false, false, false, false, false, false] rfl rfl (by kernel_rfl) (fun _ _ _ h => h) (Or.inl ⟨by rfl, ?_⟩) ?_ ?_
  rotate_left
  · intro w'
    go_simp
    with_reducible rfl
  rotate_left
  · simp only [Act.put, List.setIfInBounds_toArray, List.set_cons_zero, List.set_cons_succ, i64_w, i32_w]
    rfl
  refine pure_ (i := 40) (N := (some 65)) (v := ?_) (a' := ?_) #[true, true, true, true, true, true, true, true, true, true, true, true, true, true, true, true, true, true, true, true, true, true, true, true, true, true, true, true, true, true, true, true, true, true, true, true, true, true, true, true, true, false, false, false, false, false, false, false, false, false] rfl rfl (by kernel_rfl) (fun _ _ _ h => h) (Or.inl ⟨by rfl, ?_⟩) ?_ ?_
  rotate_left
  · intro w'
    go_simp
    with_reducible rfl
  rotate_left
  · simp only [Act.put, List.setIfInBounds_toArray, List.set_cons_zero, List.set_cons_succ, i64_w, i32_w]
    rfl
  refine pure_ (i := 41) (N := (some 66)) (v := ?_) (a' := ?_) #[true, true, true, true, true, true, true, true, true, true, true, true, true, true, true, true, true, true, true, true, true, true, true, true, true, true, true, true, true, true, true, true, true, true, true, true, true, true, true, true, true, true, false, false, false, false, false, false, false, false] rfl rfl (by kernel_rfl) (fun _ _ _ h => h) (Or.inl ⟨by rfl, ?_⟩) ?_ ?_
  rotate_left
  · intro w'
    go_simp
    with_reducible rfl
  rotate_left
  · simp only [Act.put, List.setIfInBounds_toArray, List.set_cons_zero, List.set_cons_succ, i64_w, i32_w]
    rfl
  refine pure_ (i := 42) (N := (some 67)) (v := ?_) (a' := ?_) #[true, true, true, true, true, true, true, true, true, true, true, true, true, true, true, true, true, true, true, true, true, true, true, true, true, true, true, true, true, true, true, true, true, true, true, true, true, true, true, true, true, true, true, false, false, false, false, false, false, false] rfl rfl (by kernel_rfl) (fun _ _ _ h => h) (Or.inl ⟨by rfl, ?_⟩) ?_ ?_
  rotate_left
  · intro w'
    go_simp
    with_reducible rfl
  rotate_left
  · simp only [Act.put, List.setIfInBounds_toArray, List.set_cons_zero, List.set_cons_succ, i64_w, i32_w]
    rfl
  refine pure_ (i := 43) (N := (some 68)) (v := ?_) (a' := ?_) #[true, true, true, true, true, true, true, true, true, true, true, true, true, true, true, true, true, true, true, true, true, true, true, true, true, true, true, true, true, true, true, true, true, true, true, true, true, true, true, true, true, true, true, true, false, false, false, false, false, false] rfl rfl (by kernel_rfl) (fun _ _ _ h => h) (Or.inl ⟨by rfl, ?_⟩) ?_ ?_
  rotate_left
  · intro w'
    go_simp
    with_reducible rfl
  rotate_left
  · simp only [Act.put, List.setIfInBounds_toArray, List.set_cons_zero, List.set_cons_succ, i64_w, i32_w]
    rfl
  refine pure_ (i := 44) (N := (some 69)) (v := ?_) (a' := ?_) #[true, true, true, true, true, true, true, true, true, true, true, true, true, true, true, true, true, true, true, true, true, true, true, true, true, true, true, true, true, true, true, true, true, true, true, true, true, true, true, true, true, true, true, true, true, false, false, false, false, false] rfl rfl (by kernel_rfl) (fun _ _ _ h => h) (Or.inl ⟨by rfl, ?_⟩) ?_ ?_
  rotate_left
  · intro w'
    go_simp
    with_reducible rfl
  rotate_left
  · simp only [Act.put, List.setIfInBounds_toArray, List.set_cons_zero, List.set_cons_succ, i64_w, i32_w]
    rfl
  refine take_ (i := 45) (N := (some 70)) (v := ?_) (a' := ?_) #[true, true, true, true, true, true, true, true, true, true, true, true, true, true, true, true, true, true, true, true, true, true, true, true, true, true, true, true, true, true, true, true, true, true, true, true, true, true, true, true, true, true, true, true, true, true, false, false, false, false] rfl rfl (by kernel_rfl) (fun _ _ _ h => h) (Or.inl ⟨by rfl, ?_⟩) hHeld ?_ ?_
  rotate_left
  · rintro w' z
    refine exec_loadB (ty := 40) (x := .tmp 5) ?_ ?_ (blk_below HG5.out z) Try.underlying40 rfl (by show _ = some (bkC A3 1 c3 rep1 rep2).length; rw [bkC_length rep1_length rep2_length]; exact info40)
    · rfl
    · rfl
  rotate_left
  · simp only [Act.put, List.setIfInBounds_toArray, List.set_cons_zero, List.set_cons_succ, i64_w, i32_w]
    rfl
  refine one_ (i := 46) (N := (some 71)) #[true, true, true, true, true, true, true, true, true, true, true, true, true, true, true, true, true, true, true, true, true, true, true, true, true, true, true, true, true, true, true, true, true, true, true, true, true, true, true, true, true, true, true, true, true, true, true, false, false, false] rfl rfl (by kernel_rfl) (by decide) (fun K hK => ?_)
  refine goes_ Try.func30 (by kernel_rfl) rfl #[] (by rfl) rfl rfl (by (try simp only [List.map_toArray, List.map_cons, List.map_nil]); first | done | rfl) ?_
  refine (one_calls _).mono ?_
  rintro e w7 ⟨g2, h2, rfl, hg2, hG2, hC2, hb⟩
  have HO := Aside0.mk (one_C hG2 hC2)
  have hS := bl hHeld hb
  clear hb hG2 hC2 hg2
  refine ⟨_, rfl, ?_⟩
  refine hK.out _ _ hS (fun hHeld => ?_)
  clear hK K
  refine norm_ (a' := ?_) ?_ ?_
  rotate_left
  · show Act.put _ (some 71) _ = _
    simp only [Act.put, List.setIfInBounds_toArray, List.set_cons_zero, List.set_cons_succ, i64_w, i32_w]
    rfl
  refine one_ (i := 47) (N := (some 72)) #[true, true, true, true, true, true, true, true, true, true, true, true, true, true, true, true, true, true, true, true, true, true, true, true, true, true, true, true, true, true, true, true, true, true, true, true, true, true, true, true, true, true, true, true, true, true, true, true, false, false] rfl rfl (by kernel_rfl) (by decide) (fun K hK => ?_)
  refine goes_ Try.func25 (by kernel_rfl) rfl #[.agg ⟨bkC A3 1 c3 rep1 rep2⟩, .agg ⟨bkC (some ⟨g2, 0, none⟩) 1 1 rep1 rep2⟩] (by rfl) rfl rfl (by (try simp only [List.map_toArray, List.map_cons, List.map_nil]); first | done | rfl) ?_
  refine (sameOne_calls A3 (some ⟨g2, 0, none⟩) c3 1 _ (Kd.C_below HX3.out hHeld) HC3.out HO.out (Nat.le_refl _)).mono ?_
  rintro e w8 ⟨rfl, hb⟩
  have hS := bl hHeld hb
  clear hb
  refine ⟨_, rfl, ?_⟩
  refine hK.out _ _ hS (fun hHeld => ?_)
  clear hK K
  refine norm_ (a' := ?_) ?_ ?_
  rotate_left
  · show Act.put _ (some 72) _ = _
    simp only [Act.put, List.setIfInBounds_toArray, List.set_cons_zero, List.set_cons_succ, i64_w, i32_w]
    rfl
  refine pure_ (i := 48) (N := (some 73)) (v := ?_) (a' := ?_) #[true, true, true, true, true, true, true, true, true, true, true, true, true, true, true, true, true, true, true, true, true, true, true, true, true, true, true, true, true, true, true, true, true, true, true, true, true, true, true, true, true, true, true, true, true, true, true, true, true, false] rfl rfl (by kernel_rfl) (fun _ _ _ h => h) (Or.inl ⟨by rfl, ?_⟩) ?_ ?_
  rotate_left
  · intro w'
    go_simp
    with_reducible rfl
  rotate_left
  · simp only [Act.put, List.setIfInBounds_toArray, List.set_cons_zero, List.set_cons_succ, i64_w, i32_w]
    rfl
  refine pure_ (i := 49) (N := (some 0)) (v := ?_) (a' := ?_) #[true, true, true, true, true, true, true, true, true, true, true, true, true, true, true, true, true, true, true, true, true, true, true, true, true, true, true, true, true, true, true, true, true, true, true, true, true, true, true, true, true, true, true, true, true, true, true, true, true, true] rfl rfl (by kernel_rfl) (fun _ _ _ h => h) (Or.inl ⟨by rfl, ?_⟩) ?_ ?_
  rotate_left
  · intro w'
    go_simp
    with_reducible rfl
  rotate_left
  · simp only [Act.put, List.setIfInBounds_toArray, List.set_cons_zero, List.set_cons_succ, i64_w, i32_w]
    rfl
  refine done_ (by kernel_rfl) ?_
  repeat (first | go_values | go_guarded | go_step | go_upon | go_back)
  go_ret
  exact ⟨rfl, bl HB.out hHeld⟩
end Go.Proofs.Ytknmokpnkcckeaa

namespace Go.Proofs.Ytknmokpnkcckeaa
open Go.RowKit Go.Proofs.YtknmokpnkcckeaaW.PrintWords Go.Proofs.YtknmokpnkcckeaaW.PrintLast Go.Proofs.YtknmokpnkcckeaaW.PrintMore Go.Proofs.Ytknmokpnkcckeaa.PAll
set_option linter.unusedVariables false
set_option linter.unusedSimpArgs false

theorem sameNone_calls (A : Option Addr) (c : Nat) (Y : List S62) (L2 R2 : List Int) (w : World) (hY : Y = [] ∧ L2 = dig0 ∧ R2 = dig0) (h1 : Kd.C k62 w A Y.length Y) (hc1 : Y.length ≤ c) :
    Calls Try.prog 25 #[.agg ⟨bkC A Y.length c L2 R2⟩, .agg Try.zeroCells40] w fun e w' => e = .returned (.bool true) ∧ Below w.heap.size w w' := by
  obtain ⟨rfl, rfl, rfl⟩ := hY
  rw [bk_zero]
  refine (refSameB_calls 5 A none c 0 [] [] dig0 dig0 dig0 dig0 true w dig0_length dig0_length dig0_length dig0_length h1 hc1 (Kd.C_nil _ _) (Nat.le_refl _) (by rw [sameAll_eq [] [] (by simp) (fun x hx => by simp at hx) (fun x hx => by simp at hx) (by simp), sameL_self])).mono fun e w' hp => ?_
  obtain ⟨he, hbl⟩ := hp
  exact ⟨by rw [he]; simp, hbl⟩

set_option maxHeartbeats 16000000 in
set_option maxRecDepth 100000 in
theorem back_great (k : Nat) (l0 l1 l2 l3 : Int) (A At : Option Addr) (c ct : Nat) (xs : List S62) (L R t : List Int) (w : World) (hL : L.length = 32) (hR : R.length = 32) (hr : Kd.C k62 w A xs.length xs) (hc : xs.length ≤ c) (hrt : Kd.C (Kd.int .u8) w At t.length t) (hct : t.length ≤ ct) (hgr : ref09_Great.f k xs 10 = some true) :
    Calls Try.prog 7 #[.agg #[.int .i64 l0, .int .i64 l1, .int .i64 l2, .int .i64 l3], .agg ⟨bkC A xs.length c L R⟩, .slice At t.length ct] w fun e w' => e = .returned (.bool true) ∧ Below w.heap.size w w' := by
  have HR := Aside0.mk hr
  have HC := Aside0.mk hc
  have HT := Aside0.mk hrt
  have HCT := Aside0.mk hct
  have HGR := Aside0.mk hgr
  have HBc := Aside0.mk (below_alloc (below_alloc (Below.refl w.heap.size w) (.cells #[.int .i64 l0, .int .i64 l1, .int .i64 l2, .int .i64 l3] 23)) (.cells ⟨bkC A xs.length c L R⟩ 40))
  have HG0 := Aside0.mk (blk_alloc (heap_alloc_new w (.cells #[.int .i64 l0, .int .i64 l1, .int .i64 l2, .int .i64 l3] 23)) (.cells ⟨bkC A xs.length c L R⟩ 40))
  have HG1 : Aside0 (((w.alloc (.cells #[.int .i64 l0, .int .i64 l1, .int .i64 l2, .int .i64 l3] 23)).alloc (.cells ⟨bkC A xs.length c L R⟩ 40)).heap[w.heap.size + 1]? = some (.cells ⟨bkC A xs.length c L R⟩ 40 (0, 0))) := ⟨by
    have h := heap_alloc_new (w.alloc (.cells #[.int .i64 l0, .int .i64 l1, .int .i64 l2, .int .i64 l3] 23)) (.cells ⟨bkC A xs.length c L R⟩ 40)
    rw [World.size_alloc] at h
    exact h⟩
  clear hr hc hrt hct hgr
  go_enter Try.func7, Try.ntmps7
  repeat (first
    | (go_at_call 16; (with_reducible refine (refGreat_calls k A c xs L R true _ HRb.out HC.out HGR.out).mono ?_); rintro e2 w2 ⟨rfl, hb⟩; have HBc := Aside0.mk (bl HBc.out hb); have HG0 := Aside0.mk (blk_below HG0.out hb); have HG1 := Aside0.mk (blk_below HG1.out hb); have HRb := Aside0.mk (Kd.C_below HRb.out hb); have HRt := Aside0.mk (Kd.C_below HRt.out hb); clear hb; (try dsimp only))
    | (go_at_call 31; (with_reducible refine (alive_calls _).mono ?_); rintro e1 w1 ⟨rfl, hb⟩; have HBc := Aside0.mk (bl HBc.out hb); have HG0 := Aside0.mk (blk_below HG0.out hb); have HG1 := Aside0.mk (blk_below HG1.out hb); have HRb := Aside0.mk (Kd.C_below HR.out HBc.out); have HRt := Aside0.mk (Kd.C_below HT.out HBc.out); clear hb; (try dsimp only))
    | ((with_reducible refine wpList_whole_g 40 (.tmp 4) (w.heap.size + 1) 40 (bkC A xs.length c L R) _ ?hw rfl ?hx ?hg Try.underlying40 ?hd ?hi ?_); (case hg => exact HG1.out); (case hw => rfl); (case hx => rfl); (case hd => rfl); (case hi => rw [bkC_length hL hR]; exact info40))
    | ((with_reducible refine wpList_whole_g 23 (.tmp 3) (w.heap.size) 23 ([.int .i64 l0, .int .i64 l1, .int .i64 l2, .int .i64 l3]) _ ?hw rfl ?hx ?hg Try.underlying23 ?hd ?hi ?_); (case hg => exact HG0.out); (case hw => rfl); (case hx => rfl); (case hd => rfl); (case hi => exact infoLB))
    | go_values | go_guarded | go_step | go_upon | go_back)
  go_ret
  exact ⟨rfl, HBc.out⟩

set_option maxHeartbeats 16000000 in
set_option maxRecDepth 100000 in
theorem back_long (k : Nat) (l0 l1 l2 l3 : Int) (A At : Option Addr) (c ct : Nat) (xs : List S62) (L R t : List Int) (w : World) (hL : L.length = 32) (hR : R.length = 32) (hr : Kd.C k62 w A xs.length xs) (hc : xs.length ≤ c) (hrt : Kd.C (Kd.int .u8) w At t.length t) (hct : t.length ≤ ct) (hgr : ref09_Great.f k xs 10 = some false) (hm : 1000 < t.length) :
    Calls Try.prog 7 #[.agg #[.int .i64 l0, .int .i64 l1, .int .i64 l2, .int .i64 l3], .agg ⟨bkC A xs.length c L R⟩, .slice At t.length ct] w fun e w' => e = .returned (.bool true) ∧ Below w.heap.size w w' := by
  have HR := Aside0.mk hr
  have HC := Aside0.mk hc
  have HT := Aside0.mk hrt
  have HCT := Aside0.mk hct
  have HGR := Aside0.mk hgr
  have HBc := Aside0.mk (below_alloc (below_alloc (Below.refl w.heap.size w) (.cells #[.int .i64 l0, .int .i64 l1, .int .i64 l2, .int .i64 l3] 23)) (.cells ⟨bkC A xs.length c L R⟩ 40))
  have HG0 := Aside0.mk (blk_alloc (heap_alloc_new w (.cells #[.int .i64 l0, .int .i64 l1, .int .i64 l2, .int .i64 l3] 23)) (.cells ⟨bkC A xs.length c L R⟩ 40))
  have HG1 : Aside0 (((w.alloc (.cells #[.int .i64 l0, .int .i64 l1, .int .i64 l2, .int .i64 l3] 23)).alloc (.cells ⟨bkC A xs.length c L R⟩ 40)).heap[w.heap.size + 1]? = some (.cells ⟨bkC A xs.length c L R⟩ 40 (0, 0))) := ⟨by
    have h := heap_alloc_new (w.alloc (.cells #[.int .i64 l0, .int .i64 l1, .int .i64 l2, .int .i64 l3] 23)) (.cells ⟨bkC A xs.length c L R⟩ 40)
    rw [World.size_alloc] at h
    exact h⟩
  have hgt : (1000 : Int) < (t.length : Int) := by omega
  have hd : decide ((t.length : Int) > 1000) = true := decide_eq_true (by omega)
  clear hr hc hrt hct hgr hm
  go_enter Try.func7, Try.ntmps7
  repeat (first
    | (go_at_call 16; (with_reducible refine (refGreat_calls k A c xs L R false _ HRb.out HC.out HGR.out).mono ?_); rintro e2 w2 ⟨rfl, hb⟩; have HBc := Aside0.mk (bl HBc.out hb); have HG0 := Aside0.mk (blk_below HG0.out hb); have HG1 := Aside0.mk (blk_below HG1.out hb); have HRb := Aside0.mk (Kd.C_below HRb.out hb); have HRt := Aside0.mk (Kd.C_below HRt.out hb); clear hb; (try dsimp only))
    | (go_at_call 31; (with_reducible refine (alive_calls _).mono ?_); rintro e1 w1 ⟨rfl, hb⟩; have HBc := Aside0.mk (bl HBc.out hb); have HG0 := Aside0.mk (blk_below HG0.out hb); have HG1 := Aside0.mk (blk_below HG1.out hb); have HRb := Aside0.mk (Kd.C_below HR.out HBc.out); have HRt := Aside0.mk (Kd.C_below HT.out HBc.out); clear hb; (try dsimp only))
    | ((with_reducible refine wpList_whole_g 40 (.tmp 4) (w.heap.size + 1) 40 (bkC A xs.length c L R) _ ?hw rfl ?hx ?hg Try.underlying40 ?hd ?hi ?_); (case hg => exact HG1.out); (case hw => rfl); (case hx => rfl); (case hd => rfl); (case hi => rw [bkC_length hL hR]; exact info40))
    | ((with_reducible refine wpList_whole_g 23 (.tmp 3) (w.heap.size) 23 ([.int .i64 l0, .int .i64 l1, .int .i64 l2, .int .i64 l3]) _ ?hw rfl ?hx ?hg Try.underlying23 ?hd ?hi ?_); (case hg => exact HG0.out); (case hw => rfl); (case hx => rfl); (case hd => rfl); (case hi => exact infoLB))
    | go_values | go_guarded | go_step | go_upon | go_back)
  go_ret
  exact ⟨rfl, HBc.out⟩

set_option maxHeartbeats 16000000 in
set_option maxRecDepth 100000 in
theorem back_00 (k : Nat) (l0 l1 l2 l3 : Int) (A At : Option Addr) (c ct : Nat) (xs : List S62) (L R t : List Int) (w : World) (hL : L.length = 32) (hR : R.length = 32) (hr : Kd.C k62 w A xs.length xs) (hc : xs.length ≤ c) (hrt : Kd.C (Kd.int .u8) w At t.length t) (hct : t.length ≤ ct) (hgr : ref09_Great.f k xs 10 = some false) (many : Nat) (Z : List Int) (hm : t.length ≤ 1000) (hbt : Bytes t) (wf3 : (Lit.int .i64 l3).wf = true) (hn : xs.length ≤ 1000) (hwf : ∀ x ∈ xs, (Lit.int .i64 x.f0).wf = true) (hmn : manyS l0 l1 l2 l3 = (many : Int)) (hE : bckS l0 l1 l2 l3 xs = 0) (hZ : Z = if (0 : Int) = 0 then ofK l1 txtS xs many ++ L ++ R else []) (hbz : ∀ p ∈ slotsB (manyS l0 l1 l2 l3).toNat (8 + l1).toNat Z, Bytes p) (hz3 : (Z.length : Int) = l3) (hrx : ref09_SameAll.f k xs xs = some true) (hX1 : readAns l0 l1 l2 l3 Z = (xs, L, R, 0)) (Y : List S62) (L2 R2 : List Int) (hL2 : L2.length = 32) (hR2 : R2.length = 32) (hYn : Y.length ≤ 1000) (hwfY : ∀ x ∈ Y, (Lit.int .i64 x.f0).wf = true) (hEY : bckS l0 l1 l2 l3 Y = 0) (hZt : t = if (0 : Int) = 0 then ofK l1 txtS Y many ++ L2 ++ R2 else []) (hY : readAns l0 l1 l2 l3 t = (Y, L2, R2, 0)) :
    Calls Try.prog 7 #[.agg #[.int .i64 l0, .int .i64 l1, .int .i64 l2, .int .i64 l3], .agg ⟨bkC A xs.length c L R⟩, .slice At t.length ct] w fun e w' => e = .returned (.bool true) ∧ Below w.heap.size w w' := by
  have HR := Aside0.mk hr
  have HC := Aside0.mk hc
  have HT := Aside0.mk hrt
  have HCT := Aside0.mk hct
  have HGR := Aside0.mk hgr
  have HBc := Aside0.mk (below_alloc (below_alloc (Below.refl w.heap.size w) (.cells #[.int .i64 l0, .int .i64 l1, .int .i64 l2, .int .i64 l3] 23)) (.cells ⟨bkC A xs.length c L R⟩ 40))
  have HG0 := Aside0.mk (blk_alloc (heap_alloc_new w (.cells #[.int .i64 l0, .int .i64 l1, .int .i64 l2, .int .i64 l3] 23)) (.cells ⟨bkC A xs.length c L R⟩ 40))
  have HG1 : Aside0 (((w.alloc (.cells #[.int .i64 l0, .int .i64 l1, .int .i64 l2, .int .i64 l3] 23)).alloc (.cells ⟨bkC A xs.length c L R⟩ 40)).heap[w.heap.size + 1]? = some (.cells ⟨bkC A xs.length c L R⟩ 40 (0, 0))) := ⟨by
    have h := heap_alloc_new (w.alloc (.cells #[.int .i64 l0, .int .i64 l1, .int .i64 l2, .int .i64 l3] 23)) (.cells ⟨bkC A xs.length c L R⟩ 40)
    rw [World.size_alloc] at h
    exact h⟩
  have hgt : ¬ (1000 : Int) < (t.length : Int) := by omega
  have hd : decide ((t.length : Int) > 1000) = false := decide_eq_false (by omega)
  have hq1 : ((Z.length : Int) == l3) = true := by rw [hz3]; exact beq_self_eq_true _
  have hq2 : decide ((Z.length : Int) = l3) = true := decide_eq_true hz3
  have Qhn := Aside0.mk hn
  have Qhwf := Aside0.mk hwf
  have Qhmn := Aside0.mk hmn
  have QhE := Aside0.mk hE
  have QhZ := Aside0.mk hZ
  have Qhbz := Aside0.mk hbz
  have QhX1 := Aside0.mk hX1
  have QhY := Aside0.mk hY
  have Qhbt := Aside0.mk hbt
  have Qhrx := Aside0.mk hrx
  have Qhz3 := Aside0.mk hz3
  have QhYn := Aside0.mk hYn
  have QhwfY := Aside0.mk hwfY
  have QhEY := Aside0.mk hEY
  have QhZt := Aside0.mk hZt
  clear hr hc hrt hct hgr hm hn hwf hmn hE hZ hbz hX1 hY hbt hrx hz3 hYn hwfY hEY hZt
  go_enter Try.func7, Try.ntmps7
  repeat (first
    | (go_at_call 21; (with_reducible refine (same01_calls A4 c4 At ct t _ HX4.out HC4.out HRt.out HCT.out).mono ?_); rintro ea wa ⟨rfl, hb⟩; have HBc := Aside0.mk (bl HBc.out hb); have HG0 := Aside0.mk (blk_below HG0.out hb); have HG1 := Aside0.mk (blk_below HG1.out hb); have HRb := Aside0.mk (Kd.C_below HRb.out hb); have HRt := Aside0.mk (Kd.C_below HRt.out hb); have HX1 := Aside0.mk (Kd.C_below HX1.out hb); have HX2 := Aside0.mk (Kd.C_below HX2.out hb); have HG5 := Aside0.mk (blk_below HG5.out hb); have HX3 := Aside0.mk (Kd.C_below HX3.out hb); have HG8 := Aside0.mk (blk_below HG8.out hb); clear hb; (try dsimp only))
    | (go_at_call 18; (with_reducible refine (wrtT_calls many 0 t l0 l1 l2 l3 A3 c3 Y L2 R2 _ wf3 hL2 hR2 HX3.out QhYn.out QhwfY.out Qhmn.out QhEY.out QhZt.out).mono ?_); rintro e9 w9 ⟨A4, c4, rfl, hc4, hC4, hb⟩; have HBc := Aside0.mk (bl HBc.out hb); have HG0 := Aside0.mk (blk_below HG0.out hb); have HG1 := Aside0.mk (blk_below HG1.out hb); have HRb := Aside0.mk (Kd.C_below HRb.out hb); have HRt := Aside0.mk (Kd.C_below HRt.out hb); have HX1 := Aside0.mk (Kd.C_below HX1.out hb); have HX2 := Aside0.mk (Kd.C_below HX2.out hb); have HG5 := Aside0.mk (blk_below HG5.out hb); have HX3 := Aside0.mk (Kd.C_below HX3.out hb); have HG8 := Aside0.mk (blk_below HG8.out hb); have HC4 := Aside0.mk hc4; have HX4 := Aside0.mk hC4; clear hc4 hC4; clear hb; (try dsimp only))
    | ((with_reducible refine wpList_whole_g 40 (.tmp 12) (w7.heap.size) 40 (bkC A3 Y.length c3 L2 R2) _ ?hw rfl ?hx ?hg Try.underlying40 ?hd ?hi ?_); (case hg => exact HG8.out); (case hw => rfl); (case hx => rfl); (case hd => rfl); (case hi => rw [bkC_length hL2 hR2]; exact info40))
    | ((with_reducible refine wpList_store 40 (.tmp 12) (.tmp 73) w7.heap.size 40 Try.zeroCells40 ⟨bkC A3 Y.length c3 L2 R2⟩ rfl rfl ?hx ?hy ?hg ?hs ?hi ?h1 ?_); (case hg => exact HZ7.out); (case hx => rfl); (case hy => rfl); (case hs => show _ = (bkC A3 Y.length c3 L2 R2).length; rw [bkC_length hL2 hR2]; rfl); (case hi => show _ = some (bkC A3 Y.length c3 L2 R2).length; rw [bkC_length hL2 hR2]; exact info40); (case h1 => exact bk_ones _ _ _ _ _); intro w8 q1 q2 q3 q4; have hb := q3 w7.heap.size w7 (below_alloc (Below.refl _ _) (.cells Try.zeroCells40 40)) (Nat.le_refl _); have HBc := Aside0.mk (bl HBc.out hb); have HG0 := Aside0.mk (blk_below HG0.out hb); have HG1 := Aside0.mk (blk_below HG1.out hb); have HRb := Aside0.mk (Kd.C_below HRb.out hb); have HRt := Aside0.mk (Kd.C_below HRt.out hb); have HX1 := Aside0.mk (Kd.C_below HX1.out hb); have HX2 := Aside0.mk (Kd.C_below HX2.out hb); have HG5 := Aside0.mk (blk_below HG5.out hb); have HX3 := Aside0.mk (Kd.C_below HX3.out hb); have HG8 := Aside0.mk q1; clear q1 q2 q3 q4 hb HZ7)
    | (go_at_call 27; (with_reducible refine (bkRead_calls l0 l1 l2 l3 At ct t _ HRt.out HCT.out Qhbt.out wf3 Y L2 R2 0 QhY.out).mono ?_); rintro e7 w7 ⟨A3, c3, rfl, hc3, hC3, hown, hb⟩; have HBc := Aside0.mk (bl HBc.out hb); have HG0 := Aside0.mk (blk_below HG0.out hb); have HG1 := Aside0.mk (blk_below HG1.out hb); have HRb := Aside0.mk (Kd.C_below HRb.out hb); have HRt := Aside0.mk (Kd.C_below HRt.out hb); have HX1 := Aside0.mk (Kd.C_below HX1.out hb); have HX2 := Aside0.mk (Kd.C_below HX2.out hb); have HG5 := Aside0.mk (blk_below HG5.out hb); have HC3 := Aside0.mk hc3; have HX3 := Aside0.mk hC3; have HZ7 := Aside0.mk (heap_alloc_new w7 (.cells Try.zeroCells40 40)); clear hc3 hC3 hown; clear hb; (try dsimp only))
    | (go_at_call 25; (with_reducible refine (refSameB_calls k A2 A c2 c xs xs L R L R true _ hL hR hL hR HX2.out HC2.out HRb.out HC.out Qhrx.out).mono ?_); rintro e6 w6 ⟨he, hb⟩; have HBc := Aside0.mk (bl HBc.out hb); have HG0 := Aside0.mk (blk_below HG0.out hb); have HG1 := Aside0.mk (blk_below HG1.out hb); have HRb := Aside0.mk (Kd.C_below HRb.out hb); have HRt := Aside0.mk (Kd.C_below HRt.out hb); have HX1 := Aside0.mk (Kd.C_below HX1.out hb); have HX2 := Aside0.mk (Kd.C_below HX2.out hb); have HG5 := Aside0.mk (blk_below HG5.out hb); (replace he : e6 = .returned (.bool true) := by rw [he]; simp); subst he; have hl3 := blk_cell HG0.out 3; clear hb; (try dsimp only))
    | ((with_reducible refine wpList_whole_g 40 (.tmp 10) (w4.heap.size) 40 (bkC A2 xs.length c2 L R) _ ?hw rfl ?hx ?hg Try.underlying40 ?hd ?hi ?_); (case hg => exact HG5.out); (case hw => rfl); (case hx => rfl); (case hd => rfl); (case hi => rw [bkC_length hL hR]; exact info40))
    | ((with_reducible refine wpList_store 40 (.tmp 10) (.tmp 39) w4.heap.size 40 Try.zeroCells40 ⟨bkC A2 xs.length c2 L R⟩ rfl rfl ?hx ?hy ?hg ?hs ?hi ?h1 ?_); (case hg => exact HZ4.out); (case hx => rfl); (case hy => rfl); (case hs => show _ = (bkC A2 xs.length c2 L R).length; rw [bkC_length hL hR]; rfl); (case hi => show _ = some (bkC A2 xs.length c2 L R).length; rw [bkC_length hL hR]; exact info40); (case h1 => exact bk_ones _ _ _ _ _); intro w5 q1 q2 q3 q4; have hb := q3 w4.heap.size w4 (below_alloc (Below.refl _ _) (.cells Try.zeroCells40 40)) (Nat.le_refl _); have HBc := Aside0.mk (bl HBc.out hb); have HG0 := Aside0.mk (blk_below HG0.out hb); have HG1 := Aside0.mk (blk_below HG1.out hb); have HRb := Aside0.mk (Kd.C_below HRb.out hb); have HRt := Aside0.mk (Kd.C_below HRt.out hb); have HX1 := Aside0.mk (Kd.C_below HX1.out hb); have HX2 := Aside0.mk (Kd.C_below HX2.out hb); have HG5 := Aside0.mk q1; clear q1 q2 q3 q4 hb HZ4)
    | (go_at_call 27; (with_reducible refine (bkRead_calls2 l0 l1 l2 l3 A1 c1 Z _ HX1.out HC1.out Qhbz.out wf3 xs L R 0 QhX1.out).mono ?_); rintro e4 w4 ⟨A2, c2, rfl, hc2, hC2, hb⟩; have HBc := Aside0.mk (bl HBc.out hb); have HG0 := Aside0.mk (blk_below HG0.out hb); have HG1 := Aside0.mk (blk_below HG1.out hb); have HRb := Aside0.mk (Kd.C_below HRb.out hb); have HRt := Aside0.mk (Kd.C_below HRt.out hb); have HX1 := Aside0.mk (Kd.C_below HX1.out hb); have HC2 := Aside0.mk hc2; have HX2 := Aside0.mk hC2; have HZ4 := Aside0.mk (heap_alloc_new w4 (.cells Try.zeroCells40 40)); clear hc2 hC2; clear hb; (try dsimp only))
    | (go_at_call 18; (with_reducible refine (wrtT_calls many 0 Z l0 l1 l2 l3 A c xs L R _ wf3 hL hR HRb.out Qhn.out Qhwf.out Qhmn.out QhE.out QhZ.out).mono ?_); rintro e3 w3 ⟨A1, c1, rfl, hc1, hC1, hb⟩; have HBc := Aside0.mk (bl HBc.out hb); have HG0 := Aside0.mk (blk_below HG0.out hb); have HG1 := Aside0.mk (blk_below HG1.out hb); have HRb := Aside0.mk (Kd.C_below HRb.out hb); have HRt := Aside0.mk (Kd.C_below HRt.out hb); have HC1 := Aside0.mk hc1; have HX1 := Aside0.mk hC1; clear hc1 hC1; clear hb; (try dsimp only))
    | (go_at_call 16; (with_reducible refine (refGreat_calls k A c xs L R false _ HRb.out HC.out HGR.out).mono ?_); rintro e2 w2 ⟨rfl, hb⟩; have HBc := Aside0.mk (bl HBc.out hb); have HG0 := Aside0.mk (blk_below HG0.out hb); have HG1 := Aside0.mk (blk_below HG1.out hb); have HRb := Aside0.mk (Kd.C_below HRb.out hb); have HRt := Aside0.mk (Kd.C_below HRt.out hb); clear hb; (try dsimp only))
    | (go_at_call 31; (with_reducible refine (alive_calls _).mono ?_); rintro e1 w1 ⟨rfl, hb⟩; have HBc := Aside0.mk (bl HBc.out hb); have HG0 := Aside0.mk (blk_below HG0.out hb); have HG1 := Aside0.mk (blk_below HG1.out hb); have HRb := Aside0.mk (Kd.C_below HR.out HBc.out); have HRt := Aside0.mk (Kd.C_below HT.out HBc.out); clear hb; (try dsimp only))
    | ((with_reducible refine wpList_whole_g 40 (.tmp 4) (w.heap.size + 1) 40 (bkC A xs.length c L R) _ ?hw rfl ?hx ?hg Try.underlying40 ?hd ?hi ?_); (case hg => exact HG1.out); (case hw => rfl); (case hx => rfl); (case hd => rfl); (case hi => rw [bkC_length hL hR]; exact info40))
    | ((with_reducible refine wpList_whole_g 23 (.tmp 3) (w.heap.size) 23 ([.int .i64 l0, .int .i64 l1, .int .i64 l2, .int .i64 l3]) _ ?hw rfl ?hx ?hg Try.underlying23 ?hd ?hi ?_); (case hg => exact HG0.out); (case hw => rfl); (case hx => rfl); (case hd => rfl); (case hi => exact infoLB))
    | go_values | go_guarded | go_step | go_upon | go_back)
  go_ret
  exact ⟨rfl, HBc.out⟩
  all_goals (rename_i h; exact absurd Qhz3.out h)

set_option maxHeartbeats 16000000 in
set_option maxRecDepth 100000 in
theorem back_01 (k : Nat) (l0 l1 l2 l3 : Int) (A At : Option Addr) (c ct : Nat) (xs : List S62) (L R t : List Int) (w : World) (hL : L.length = 32) (hR : R.length = 32) (hr : Kd.C k62 w A xs.length xs) (hc : xs.length ≤ c) (hrt : Kd.C (Kd.int .u8) w At t.length t) (hct : t.length ≤ ct) (hgr : ref09_Great.f k xs 10 = some false) (many : Nat) (Z : List Int) (hm : t.length ≤ 1000) (hbt : Bytes t) (wf3 : (Lit.int .i64 l3).wf = true) (hn : xs.length ≤ 1000) (hwf : ∀ x ∈ xs, (Lit.int .i64 x.f0).wf = true) (hmn : manyS l0 l1 l2 l3 = (many : Int)) (hE : bckS l0 l1 l2 l3 xs = 0) (hZ : Z = if (0 : Int) = 0 then ofK l1 txtS xs many ++ L ++ R else []) (hbz : ∀ p ∈ slotsB (manyS l0 l1 l2 l3).toNat (8 + l1).toNat Z, Bytes p) (hz3 : (Z.length : Int) = l3) (hrx : ref09_SameAll.f k xs xs = some true) (hX1 : readAns l0 l1 l2 l3 Z = (xs, L, R, 0)) (Y : List S62) (L2 R2 : List Int) (hL2 : L2.length = 32) (hR2 : R2.length = 32) (E2 : Int) (hE2 : E2 ≠ 0) (hY0 : Y = [] ∧ L2 = dig0 ∧ R2 = dig0) (hY : readAns l0 l1 l2 l3 t = (Y, L2, R2, E2)) :
    Calls Try.prog 7 #[.agg #[.int .i64 l0, .int .i64 l1, .int .i64 l2, .int .i64 l3], .agg ⟨bkC A xs.length c L R⟩, .slice At t.length ct] w fun e w' => e = .returned (.bool true) ∧ Below w.heap.size w w' := by
  have HR := Aside0.mk hr
  have HC := Aside0.mk hc
  have HT := Aside0.mk hrt
  have HCT := Aside0.mk hct
  have HGR := Aside0.mk hgr
  have HBc := Aside0.mk (below_alloc (below_alloc (Below.refl w.heap.size w) (.cells #[.int .i64 l0, .int .i64 l1, .int .i64 l2, .int .i64 l3] 23)) (.cells ⟨bkC A xs.length c L R⟩ 40))
  have HG0 := Aside0.mk (blk_alloc (heap_alloc_new w (.cells #[.int .i64 l0, .int .i64 l1, .int .i64 l2, .int .i64 l3] 23)) (.cells ⟨bkC A xs.length c L R⟩ 40))
  have HG1 : Aside0 (((w.alloc (.cells #[.int .i64 l0, .int .i64 l1, .int .i64 l2, .int .i64 l3] 23)).alloc (.cells ⟨bkC A xs.length c L R⟩ 40)).heap[w.heap.size + 1]? = some (.cells ⟨bkC A xs.length c L R⟩ 40 (0, 0))) := ⟨by
    have h := heap_alloc_new (w.alloc (.cells #[.int .i64 l0, .int .i64 l1, .int .i64 l2, .int .i64 l3] 23)) (.cells ⟨bkC A xs.length c L R⟩ 40)
    rw [World.size_alloc] at h
    exact h⟩
  have hgt : ¬ (1000 : Int) < (t.length : Int) := by omega
  have hd : decide ((t.length : Int) > 1000) = false := decide_eq_false (by omega)
  have hq1 : ((Z.length : Int) == l3) = true := by rw [hz3]; exact beq_self_eq_true _
  have hq2 : decide ((Z.length : Int) = l3) = true := decide_eq_true hz3
  have hq3 : (E2 == 0) = false := beq_eq_false_iff_ne.2 hE2
  have hq4 : decide (E2 = 0) = false := decide_eq_false hE2
  have Qhn := Aside0.mk hn
  have Qhwf := Aside0.mk hwf
  have Qhmn := Aside0.mk hmn
  have QhE := Aside0.mk hE
  have QhZ := Aside0.mk hZ
  have Qhbz := Aside0.mk hbz
  have QhX1 := Aside0.mk hX1
  have QhY := Aside0.mk hY
  have Qhbt := Aside0.mk hbt
  have Qhrx := Aside0.mk hrx
  have Qhz3 := Aside0.mk hz3
  have QhY0 := Aside0.mk hY0
  clear hr hc hrt hct hgr hm hn hwf hmn hE hZ hbz hX1 hY hbt hrx hz3 hY0
  go_enter Try.func7, Try.ntmps7
  repeat (first
    | (go_at_call 25; (with_reducible refine (sameNone_calls A3 c3 Y L2 R2 _ QhY0.out HX3.out HC3.out).mono ?_); rintro e9 w9 ⟨rfl, hb⟩; have HBc := Aside0.mk (bl HBc.out hb); have HG0 := Aside0.mk (blk_below HG0.out hb); have HG1 := Aside0.mk (blk_below HG1.out hb); have HRb := Aside0.mk (Kd.C_below HRb.out hb); have HRt := Aside0.mk (Kd.C_below HRt.out hb); have HX1 := Aside0.mk (Kd.C_below HX1.out hb); have HX2 := Aside0.mk (Kd.C_below HX2.out hb); have HG5 := Aside0.mk (blk_below HG5.out hb); have HX3 := Aside0.mk (Kd.C_below HX3.out hb); have HG8 := Aside0.mk (blk_below HG8.out hb); clear hb; (try dsimp only))
    | ((with_reducible refine wpList_whole_g 40 (.tmp 12) (w7.heap.size) 40 (bkC A3 Y.length c3 L2 R2) _ ?hw rfl ?hx ?hg Try.underlying40 ?hd ?hi ?_); (case hg => exact HG8.out); (case hw => rfl); (case hx => rfl); (case hd => rfl); (case hi => rw [bkC_length hL2 hR2]; exact info40))
    | ((with_reducible refine wpList_store 40 (.tmp 12) (.tmp 73) w7.heap.size 40 Try.zeroCells40 ⟨bkC A3 Y.length c3 L2 R2⟩ rfl rfl ?hx ?hy ?hg ?hs ?hi ?h1 ?_); (case hg => exact HZ7.out); (case hx => rfl); (case hy => rfl); (case hs => show _ = (bkC A3 Y.length c3 L2 R2).length; rw [bkC_length hL2 hR2]; rfl); (case hi => show _ = some (bkC A3 Y.length c3 L2 R2).length; rw [bkC_length hL2 hR2]; exact info40); (case h1 => exact bk_ones _ _ _ _ _); intro w8 q1 q2 q3 q4; have hb := q3 w7.heap.size w7 (below_alloc (Below.refl _ _) (.cells Try.zeroCells40 40)) (Nat.le_refl _); have HBc := Aside0.mk (bl HBc.out hb); have HG0 := Aside0.mk (blk_below HG0.out hb); have HG1 := Aside0.mk (blk_below HG1.out hb); have HRb := Aside0.mk (Kd.C_below HRb.out hb); have HRt := Aside0.mk (Kd.C_below HRt.out hb); have HX1 := Aside0.mk (Kd.C_below HX1.out hb); have HX2 := Aside0.mk (Kd.C_below HX2.out hb); have HG5 := Aside0.mk (blk_below HG5.out hb); have HX3 := Aside0.mk (Kd.C_below HX3.out hb); have HG8 := Aside0.mk q1; clear q1 q2 q3 q4 hb HZ7)
    | (go_at_call 27; (with_reducible refine (bkRead_calls l0 l1 l2 l3 At ct t _ HRt.out HCT.out Qhbt.out wf3 Y L2 R2 E2 QhY.out).mono ?_); rintro e7 w7 ⟨A3, c3, rfl, hc3, hC3, hown, hb⟩; have HBc := Aside0.mk (bl HBc.out hb); have HG0 := Aside0.mk (blk_below HG0.out hb); have HG1 := Aside0.mk (blk_below HG1.out hb); have HRb := Aside0.mk (Kd.C_below HRb.out hb); have HRt := Aside0.mk (Kd.C_below HRt.out hb); have HX1 := Aside0.mk (Kd.C_below HX1.out hb); have HX2 := Aside0.mk (Kd.C_below HX2.out hb); have HG5 := Aside0.mk (blk_below HG5.out hb); have HC3 := Aside0.mk hc3; have HX3 := Aside0.mk hC3; have HZ7 := Aside0.mk (heap_alloc_new w7 (.cells Try.zeroCells40 40)); clear hc3 hC3 hown; clear hb; (try dsimp only))
    | (go_at_call 25; (with_reducible refine (refSameB_calls k A2 A c2 c xs xs L R L R true _ hL hR hL hR HX2.out HC2.out HRb.out HC.out Qhrx.out).mono ?_); rintro e6 w6 ⟨he, hb⟩; have HBc := Aside0.mk (bl HBc.out hb); have HG0 := Aside0.mk (blk_below HG0.out hb); have HG1 := Aside0.mk (blk_below HG1.out hb); have HRb := Aside0.mk (Kd.C_below HRb.out hb); have HRt := Aside0.mk (Kd.C_below HRt.out hb); have HX1 := Aside0.mk (Kd.C_below HX1.out hb); have HX2 := Aside0.mk (Kd.C_below HX2.out hb); have HG5 := Aside0.mk (blk_below HG5.out hb); (replace he : e6 = .returned (.bool true) := by rw [he]; simp); subst he; have hl3 := blk_cell HG0.out 3; clear hb; (try dsimp only))
    | ((with_reducible refine wpList_whole_g 40 (.tmp 10) (w4.heap.size) 40 (bkC A2 xs.length c2 L R) _ ?hw rfl ?hx ?hg Try.underlying40 ?hd ?hi ?_); (case hg => exact HG5.out); (case hw => rfl); (case hx => rfl); (case hd => rfl); (case hi => rw [bkC_length hL hR]; exact info40))
    | ((with_reducible refine wpList_store 40 (.tmp 10) (.tmp 39) w4.heap.size 40 Try.zeroCells40 ⟨bkC A2 xs.length c2 L R⟩ rfl rfl ?hx ?hy ?hg ?hs ?hi ?h1 ?_); (case hg => exact HZ4.out); (case hx => rfl); (case hy => rfl); (case hs => show _ = (bkC A2 xs.length c2 L R).length; rw [bkC_length hL hR]; rfl); (case hi => show _ = some (bkC A2 xs.length c2 L R).length; rw [bkC_length hL hR]; exact info40); (case h1 => exact bk_ones _ _ _ _ _); intro w5 q1 q2 q3 q4; have hb := q3 w4.heap.size w4 (below_alloc (Below.refl _ _) (.cells Try.zeroCells40 40)) (Nat.le_refl _); have HBc := Aside0.mk (bl HBc.out hb); have HG0 := Aside0.mk (blk_below HG0.out hb); have HG1 := Aside0.mk (blk_below HG1.out hb); have HRb := Aside0.mk (Kd.C_below HRb.out hb); have HRt := Aside0.mk (Kd.C_below HRt.out hb); have HX1 := Aside0.mk (Kd.C_below HX1.out hb); have HX2 := Aside0.mk (Kd.C_below HX2.out hb); have HG5 := Aside0.mk q1; clear q1 q2 q3 q4 hb HZ4)
    | (go_at_call 27; (with_reducible refine (bkRead_calls2 l0 l1 l2 l3 A1 c1 Z _ HX1.out HC1.out Qhbz.out wf3 xs L R 0 QhX1.out).mono ?_); rintro e4 w4 ⟨A2, c2, rfl, hc2, hC2, hb⟩; have HBc := Aside0.mk (bl HBc.out hb); have HG0 := Aside0.mk (blk_below HG0.out hb); have HG1 := Aside0.mk (blk_below HG1.out hb); have HRb := Aside0.mk (Kd.C_below HRb.out hb); have HRt := Aside0.mk (Kd.C_below HRt.out hb); have HX1 := Aside0.mk (Kd.C_below HX1.out hb); have HC2 := Aside0.mk hc2; have HX2 := Aside0.mk hC2; have HZ4 := Aside0.mk (heap_alloc_new w4 (.cells Try.zeroCells40 40)); clear hc2 hC2; clear hb; (try dsimp only))
    | (go_at_call 18; (with_reducible refine (wrtT_calls many 0 Z l0 l1 l2 l3 A c xs L R _ wf3 hL hR HRb.out Qhn.out Qhwf.out Qhmn.out QhE.out QhZ.out).mono ?_); rintro e3 w3 ⟨A1, c1, rfl, hc1, hC1, hb⟩; have HBc := Aside0.mk (bl HBc.out hb); have HG0 := Aside0.mk (blk_below HG0.out hb); have HG1 := Aside0.mk (blk_below HG1.out hb); have HRb := Aside0.mk (Kd.C_below HRb.out hb); have HRt := Aside0.mk (Kd.C_below HRt.out hb); have HC1 := Aside0.mk hc1; have HX1 := Aside0.mk hC1; clear hc1 hC1; clear hb; (try dsimp only))
    | (go_at_call 16; (with_reducible refine (refGreat_calls k A c xs L R false _ HRb.out HC.out HGR.out).mono ?_); rintro e2 w2 ⟨rfl, hb⟩; have HBc := Aside0.mk (bl HBc.out hb); have HG0 := Aside0.mk (blk_below HG0.out hb); have HG1 := Aside0.mk (blk_below HG1.out hb); have HRb := Aside0.mk (Kd.C_below HRb.out hb); have HRt := Aside0.mk (Kd.C_below HRt.out hb); clear hb; (try dsimp only))
    | (go_at_call 31; (with_reducible refine (alive_calls _).mono ?_); rintro e1 w1 ⟨rfl, hb⟩; have HBc := Aside0.mk (bl HBc.out hb); have HG0 := Aside0.mk (blk_below HG0.out hb); have HG1 := Aside0.mk (blk_below HG1.out hb); have HRb := Aside0.mk (Kd.C_below HR.out HBc.out); have HRt := Aside0.mk (Kd.C_below HT.out HBc.out); clear hb; (try dsimp only))
    | ((with_reducible refine wpList_whole_g 40 (.tmp 4) (w.heap.size + 1) 40 (bkC A xs.length c L R) _ ?hw rfl ?hx ?hg Try.underlying40 ?hd ?hi ?_); (case hg => exact HG1.out); (case hw => rfl); (case hx => rfl); (case hd => rfl); (case hi => rw [bkC_length hL hR]; exact info40))
    | ((with_reducible refine wpList_whole_g 23 (.tmp 3) (w.heap.size) 23 ([.int .i64 l0, .int .i64 l1, .int .i64 l2, .int .i64 l3]) _ ?hw rfl ?hx ?hg Try.underlying23 ?hd ?hi ?_); (case hg => exact HG0.out); (case hw => rfl); (case hx => rfl); (case hd => rfl); (case hi => exact infoLB))
    | go_values | go_guarded | go_step | go_upon | go_back)
  go_ret
  exact ⟨rfl, HBc.out⟩
  all_goals (rename_i h; exact absurd Qhz3.out h)

set_option maxHeartbeats 16000000 in
set_option maxRecDepth 100000 in
theorem back_80 (k : Nat) (l0 l1 l2 l3 : Int) (A At : Option Addr) (c ct : Nat) (xs : List S62) (L R t : List Int) (w : World) (hL : L.length = 32) (hR : R.length = 32) (hr : Kd.C k62 w A xs.length xs) (hc : xs.length ≤ c) (hrt : Kd.C (Kd.int .u8) w At t.length t) (hct : t.length ≤ ct) (hgr : ref09_Great.f k xs 10 = some false) (many : Nat) (Z : List Int) (hm : t.length ≤ 1000) (hbt : Bytes t) (wf3 : (Lit.int .i64 l3).wf = true) (hn : xs.length ≤ 1000) (hwf : ∀ x ∈ xs, (Lit.int .i64 x.f0).wf = true) (hmn : manyS l0 l1 l2 l3 = (many : Int)) (hE : bckS l0 l1 l2 l3 xs = 8) (hZ : Z = if (8 : Int) = 0 then ofK l1 txtS xs many ++ L ++ R else []) (hbz : ∀ p ∈ slotsB (manyS l0 l1 l2 l3).toNat (8 + l1).toNat Z, Bytes p) (X1 : List S62) (L1 R1 : List Int) (E1 : Int) (hL1 : L1.length = 32) (hR1 : R1.length = 32) (hz0 : Z.length = 0) (hX1 : readAns l0 l1 l2 l3 Z = (X1, L1, R1, E1)) (Y : List S62) (L2 R2 : List Int) (hL2 : L2.length = 32) (hR2 : R2.length = 32) (hYn : Y.length ≤ 1000) (hwfY : ∀ x ∈ Y, (Lit.int .i64 x.f0).wf = true) (hEY : bckS l0 l1 l2 l3 Y = 0) (hZt : t = if (0 : Int) = 0 then ofK l1 txtS Y many ++ L2 ++ R2 else []) (hY : readAns l0 l1 l2 l3 t = (Y, L2, R2, 0)) :
    Calls Try.prog 7 #[.agg #[.int .i64 l0, .int .i64 l1, .int .i64 l2, .int .i64 l3], .agg ⟨bkC A xs.length c L R⟩, .slice At t.length ct] w fun e w' => e = .returned (.bool true) ∧ Below w.heap.size w w' := by
  have HR := Aside0.mk hr
  have HC := Aside0.mk hc
  have HT := Aside0.mk hrt
  have HCT := Aside0.mk hct
  have HGR := Aside0.mk hgr
  have HBc := Aside0.mk (below_alloc (below_alloc (Below.refl w.heap.size w) (.cells #[.int .i64 l0, .int .i64 l1, .int .i64 l2, .int .i64 l3] 23)) (.cells ⟨bkC A xs.length c L R⟩ 40))
  have HG0 := Aside0.mk (blk_alloc (heap_alloc_new w (.cells #[.int .i64 l0, .int .i64 l1, .int .i64 l2, .int .i64 l3] 23)) (.cells ⟨bkC A xs.length c L R⟩ 40))
  have HG1 : Aside0 (((w.alloc (.cells #[.int .i64 l0, .int .i64 l1, .int .i64 l2, .int .i64 l3] 23)).alloc (.cells ⟨bkC A xs.length c L R⟩ 40)).heap[w.heap.size + 1]? = some (.cells ⟨bkC A xs.length c L R⟩ 40 (0, 0))) := ⟨by
    have h := heap_alloc_new (w.alloc (.cells #[.int .i64 l0, .int .i64 l1, .int .i64 l2, .int .i64 l3] 23)) (.cells ⟨bkC A xs.length c L R⟩ 40)
    rw [World.size_alloc] at h
    exact h⟩
  have hgt : ¬ (1000 : Int) < (t.length : Int) := by omega
  have hd : decide ((t.length : Int) > 1000) = false := decide_eq_false (by omega)
  have hq1 : ¬ (0 : Int) < (Z.length : Int) := by omega
  have hq2 : decide ((Z.length : Int) > 0) = false := decide_eq_false (by omega)
  have Qhn := Aside0.mk hn
  have Qhwf := Aside0.mk hwf
  have Qhmn := Aside0.mk hmn
  have QhE := Aside0.mk hE
  have QhZ := Aside0.mk hZ
  have Qhbz := Aside0.mk hbz
  have QhX1 := Aside0.mk hX1
  have QhY := Aside0.mk hY
  have Qhbt := Aside0.mk hbt
  have QhYn := Aside0.mk hYn
  have QhwfY := Aside0.mk hwfY
  have QhEY := Aside0.mk hEY
  have QhZt := Aside0.mk hZt
  clear hr hc hrt hct hgr hm hn hwf hmn hE hZ hbz hX1 hY hbt hYn hwfY hEY hZt hz0
  go_enter Try.func7, Try.ntmps7
  repeat (first
    | (go_at_call 21; (with_reducible refine (same01_calls A4 c4 At ct t _ HX4.out HC4.out HRt.out HCT.out).mono ?_); rintro ea wa ⟨rfl, hb⟩; have HBc := Aside0.mk (bl HBc.out hb); have HG0 := Aside0.mk (blk_below HG0.out hb); have HG1 := Aside0.mk (blk_below HG1.out hb); have HRb := Aside0.mk (Kd.C_below HRb.out hb); have HRt := Aside0.mk (Kd.C_below HRt.out hb); have HX1 := Aside0.mk (Kd.C_below HX1.out hb); have HX2 := Aside0.mk (Kd.C_below HX2.out hb); have HG5 := Aside0.mk (blk_below HG5.out hb); have HX3 := Aside0.mk (Kd.C_below HX3.out hb); have HG8 := Aside0.mk (blk_below HG8.out hb); clear hb; (try dsimp only))
    | (go_at_call 18; (with_reducible refine (wrtT_calls many 0 t l0 l1 l2 l3 A3 c3 Y L2 R2 _ wf3 hL2 hR2 HX3.out QhYn.out QhwfY.out Qhmn.out QhEY.out QhZt.out).mono ?_); rintro e9 w9 ⟨A4, c4, rfl, hc4, hC4, hb⟩; have HBc := Aside0.mk (bl HBc.out hb); have HG0 := Aside0.mk (blk_below HG0.out hb); have HG1 := Aside0.mk (blk_below HG1.out hb); have HRb := Aside0.mk (Kd.C_below HRb.out hb); have HRt := Aside0.mk (Kd.C_below HRt.out hb); have HX1 := Aside0.mk (Kd.C_below HX1.out hb); have HX2 := Aside0.mk (Kd.C_below HX2.out hb); have HG5 := Aside0.mk (blk_below HG5.out hb); have HX3 := Aside0.mk (Kd.C_below HX3.out hb); have HG8 := Aside0.mk (blk_below HG8.out hb); have HC4 := Aside0.mk hc4; have HX4 := Aside0.mk hC4; clear hc4 hC4; clear hb; (try dsimp only))
    | ((with_reducible refine wpList_whole_g 40 (.tmp 12) (w7.heap.size) 40 (bkC A3 Y.length c3 L2 R2) _ ?hw rfl ?hx ?hg Try.underlying40 ?hd ?hi ?_); (case hg => exact HG8.out); (case hw => rfl); (case hx => rfl); (case hd => rfl); (case hi => rw [bkC_length hL2 hR2]; exact info40))
    | ((with_reducible refine wpList_store 40 (.tmp 12) (.tmp 73) w7.heap.size 40 Try.zeroCells40 ⟨bkC A3 Y.length c3 L2 R2⟩ rfl rfl ?hx ?hy ?hg ?hs ?hi ?h1 ?_); (case hg => exact HZ7.out); (case hx => rfl); (case hy => rfl); (case hs => show _ = (bkC A3 Y.length c3 L2 R2).length; rw [bkC_length hL2 hR2]; rfl); (case hi => show _ = some (bkC A3 Y.length c3 L2 R2).length; rw [bkC_length hL2 hR2]; exact info40); (case h1 => exact bk_ones _ _ _ _ _); intro w8 q1 q2 q3 q4; have hb := q3 w7.heap.size w7 (below_alloc (Below.refl _ _) (.cells Try.zeroCells40 40)) (Nat.le_refl _); have HBc := Aside0.mk (bl HBc.out hb); have HG0 := Aside0.mk (blk_below HG0.out hb); have HG1 := Aside0.mk (blk_below HG1.out hb); have HRb := Aside0.mk (Kd.C_below HRb.out hb); have HRt := Aside0.mk (Kd.C_below HRt.out hb); have HX1 := Aside0.mk (Kd.C_below HX1.out hb); have HX2 := Aside0.mk (Kd.C_below HX2.out hb); have HG5 := Aside0.mk (blk_below HG5.out hb); have HX3 := Aside0.mk (Kd.C_below HX3.out hb); have HG8 := Aside0.mk q1; clear q1 q2 q3 q4 hb HZ7)
    | (go_at_call 27; (with_reducible refine (bkRead_calls l0 l1 l2 l3 At ct t _ HRt.out HCT.out Qhbt.out wf3 Y L2 R2 0 QhY.out).mono ?_); rintro e7 w7 ⟨A3, c3, rfl, hc3, hC3, hown, hb⟩; have HBc := Aside0.mk (bl HBc.out hb); have HG0 := Aside0.mk (blk_below HG0.out hb); have HG1 := Aside0.mk (blk_below HG1.out hb); have HRb := Aside0.mk (Kd.C_below HRb.out hb); have HRt := Aside0.mk (Kd.C_below HRt.out hb); have HX1 := Aside0.mk (Kd.C_below HX1.out hb); have HX2 := Aside0.mk (Kd.C_below HX2.out hb); have HG5 := Aside0.mk (blk_below HG5.out hb); have HC3 := Aside0.mk hc3; have HX3 := Aside0.mk hC3; have HZ7 := Aside0.mk (heap_alloc_new w7 (.cells Try.zeroCells40 40)); clear hc3 hC3 hown; clear hb; (try dsimp only))
    | ((with_reducible refine wpList_store 40 (.tmp 10) (.tmp 39) w4.heap.size 40 Try.zeroCells40 ⟨bkC A2 X1.length c2 L1 R1⟩ rfl rfl ?hx ?hy ?hg ?hs ?hi ?h1 ?_); (case hg => exact HZ4.out); (case hx => rfl); (case hy => rfl); (case hs => show _ = (bkC A2 X1.length c2 L1 R1).length; rw [bkC_length hL1 hR1]; rfl); (case hi => show _ = some (bkC A2 X1.length c2 L1 R1).length; rw [bkC_length hL1 hR1]; exact info40); (case h1 => exact bk_ones _ _ _ _ _); intro w5 q1 q2 q3 q4; have hb := q3 w4.heap.size w4 (below_alloc (Below.refl _ _) (.cells Try.zeroCells40 40)) (Nat.le_refl _); have HBc := Aside0.mk (bl HBc.out hb); have HG0 := Aside0.mk (blk_below HG0.out hb); have HG1 := Aside0.mk (blk_below HG1.out hb); have HRb := Aside0.mk (Kd.C_below HRb.out hb); have HRt := Aside0.mk (Kd.C_below HRt.out hb); have HX1 := Aside0.mk (Kd.C_below HX1.out hb); have HX2 := Aside0.mk (Kd.C_below HX2.out hb); have HG5 := Aside0.mk q1; clear q1 q2 q3 q4 hb HZ4)
    | (go_at_call 27; (with_reducible refine (bkRead_calls2 l0 l1 l2 l3 A1 c1 Z _ HX1.out HC1.out Qhbz.out wf3 X1 L1 R1 E1 QhX1.out).mono ?_); rintro e4 w4 ⟨A2, c2, rfl, hc2, hC2, hb⟩; have HBc := Aside0.mk (bl HBc.out hb); have HG0 := Aside0.mk (blk_below HG0.out hb); have HG1 := Aside0.mk (blk_below HG1.out hb); have HRb := Aside0.mk (Kd.C_below HRb.out hb); have HRt := Aside0.mk (Kd.C_below HRt.out hb); have HX1 := Aside0.mk (Kd.C_below HX1.out hb); have HC2 := Aside0.mk hc2; have HX2 := Aside0.mk hC2; have HZ4 := Aside0.mk (heap_alloc_new w4 (.cells Try.zeroCells40 40)); clear hc2 hC2; clear hb; (try dsimp only))
    | (go_at_call 18; (with_reducible refine (wrtT_calls many 8 Z l0 l1 l2 l3 A c xs L R _ wf3 hL hR HRb.out Qhn.out Qhwf.out Qhmn.out QhE.out QhZ.out).mono ?_); rintro e3 w3 ⟨A1, c1, rfl, hc1, hC1, hb⟩; have HBc := Aside0.mk (bl HBc.out hb); have HG0 := Aside0.mk (blk_below HG0.out hb); have HG1 := Aside0.mk (blk_below HG1.out hb); have HRb := Aside0.mk (Kd.C_below HRb.out hb); have HRt := Aside0.mk (Kd.C_below HRt.out hb); have HC1 := Aside0.mk hc1; have HX1 := Aside0.mk hC1; clear hc1 hC1; clear hb; (try dsimp only))
    | (go_at_call 16; (with_reducible refine (refGreat_calls k A c xs L R false _ HRb.out HC.out HGR.out).mono ?_); rintro e2 w2 ⟨rfl, hb⟩; have HBc := Aside0.mk (bl HBc.out hb); have HG0 := Aside0.mk (blk_below HG0.out hb); have HG1 := Aside0.mk (blk_below HG1.out hb); have HRb := Aside0.mk (Kd.C_below HRb.out hb); have HRt := Aside0.mk (Kd.C_below HRt.out hb); clear hb; (try dsimp only))
    | (go_at_call 31; (with_reducible refine (alive_calls _).mono ?_); rintro e1 w1 ⟨rfl, hb⟩; have HBc := Aside0.mk (bl HBc.out hb); have HG0 := Aside0.mk (blk_below HG0.out hb); have HG1 := Aside0.mk (blk_below HG1.out hb); have HRb := Aside0.mk (Kd.C_below HR.out HBc.out); have HRt := Aside0.mk (Kd.C_below HT.out HBc.out); clear hb; (try dsimp only))
    | ((with_reducible refine wpList_whole_g 40 (.tmp 4) (w.heap.size + 1) 40 (bkC A xs.length c L R) _ ?hw rfl ?hx ?hg Try.underlying40 ?hd ?hi ?_); (case hg => exact HG1.out); (case hw => rfl); (case hx => rfl); (case hd => rfl); (case hi => rw [bkC_length hL hR]; exact info40))
    | ((with_reducible refine wpList_whole_g 23 (.tmp 3) (w.heap.size) 23 ([.int .i64 l0, .int .i64 l1, .int .i64 l2, .int .i64 l3]) _ ?hw rfl ?hx ?hg Try.underlying23 ?hd ?hi ?_); (case hg => exact HG0.out); (case hw => rfl); (case hx => rfl); (case hd => rfl); (case hi => exact infoLB))
    | go_values | go_guarded | go_step | go_upon | go_back)
  go_ret
  exact ⟨rfl, HBc.out⟩

set_option maxHeartbeats 16000000 in
set_option maxRecDepth 100000 in
theorem back_81 (k : Nat) (l0 l1 l2 l3 : Int) (A At : Option Addr) (c ct : Nat) (xs : List S62) (L R t : List Int) (w : World) (hL : L.length = 32) (hR : R.length = 32) (hr : Kd.C k62 w A xs.length xs) (hc : xs.length ≤ c) (hrt : Kd.C (Kd.int .u8) w At t.length t) (hct : t.length ≤ ct) (hgr : ref09_Great.f k xs 10 = some false) (many : Nat) (Z : List Int) (hm : t.length ≤ 1000) (hbt : Bytes t) (wf3 : (Lit.int .i64 l3).wf = true) (hn : xs.length ≤ 1000) (hwf : ∀ x ∈ xs, (Lit.int .i64 x.f0).wf = true) (hmn : manyS l0 l1 l2 l3 = (many : Int)) (hE : bckS l0 l1 l2 l3 xs = 8) (hZ : Z = if (8 : Int) = 0 then ofK l1 txtS xs many ++ L ++ R else []) (hbz : ∀ p ∈ slotsB (manyS l0 l1 l2 l3).toNat (8 + l1).toNat Z, Bytes p) (X1 : List S62) (L1 R1 : List Int) (E1 : Int) (hL1 : L1.length = 32) (hR1 : R1.length = 32) (hz0 : Z.length = 0) (hX1 : readAns l0 l1 l2 l3 Z = (X1, L1, R1, E1)) (Y : List S62) (L2 R2 : List Int) (hL2 : L2.length = 32) (hR2 : R2.length = 32) (E2 : Int) (hE2 : E2 ≠ 0) (hY0 : Y = [] ∧ L2 = dig0 ∧ R2 = dig0) (hY : readAns l0 l1 l2 l3 t = (Y, L2, R2, E2)) :
    Calls Try.prog 7 #[.agg #[.int .i64 l0, .int .i64 l1, .int .i64 l2, .int .i64 l3], .agg ⟨bkC A xs.length c L R⟩, .slice At t.length ct] w fun e w' => e = .returned (.bool true) ∧ Below w.heap.size w w' := by
  have HR := Aside0.mk hr
  have HC := Aside0.mk hc
  have HT := Aside0.mk hrt
  have HCT := Aside0.mk hct
  have HGR := Aside0.mk hgr
  have HBc := Aside0.mk (below_alloc (below_alloc (Below.refl w.heap.size w) (.cells #[.int .i64 l0, .int .i64 l1, .int .i64 l2, .int .i64 l3] 23)) (.cells ⟨bkC A xs.length c L R⟩ 40))
  have HG0 := Aside0.mk (blk_alloc (heap_alloc_new w (.cells #[.int .i64 l0, .int .i64 l1, .int .i64 l2, .int .i64 l3] 23)) (.cells ⟨bkC A xs.length c L R⟩ 40))
  have HG1 : Aside0 (((w.alloc (.cells #[.int .i64 l0, .int .i64 l1, .int .i64 l2, .int .i64 l3] 23)).alloc (.cells ⟨bkC A xs.length c L R⟩ 40)).heap[w.heap.size + 1]? = some (.cells ⟨bkC A xs.length c L R⟩ 40 (0, 0))) := ⟨by
    have h := heap_alloc_new (w.alloc (.cells #[.int .i64 l0, .int .i64 l1, .int .i64 l2, .int .i64 l3] 23)) (.cells ⟨bkC A xs.length c L R⟩ 40)
    rw [World.size_alloc] at h
    exact h⟩
  have hgt : ¬ (1000 : Int) < (t.length : Int) := by omega
  have hd : decide ((t.length : Int) > 1000) = false := decide_eq_false (by omega)
  have hq1 : ¬ (0 : Int) < (Z.length : Int) := by omega
  have hq2 : decide ((Z.length : Int) > 0) = false := decide_eq_false (by omega)
  have hq3 : (E2 == 0) = false := beq_eq_false_iff_ne.2 hE2
  have hq4 : decide (E2 = 0) = false := decide_eq_false hE2
  have Qhn := Aside0.mk hn
  have Qhwf := Aside0.mk hwf
  have Qhmn := Aside0.mk hmn
  have QhE := Aside0.mk hE
  have QhZ := Aside0.mk hZ
  have Qhbz := Aside0.mk hbz
  have QhX1 := Aside0.mk hX1
  have QhY := Aside0.mk hY
  have Qhbt := Aside0.mk hbt
  have QhY0 := Aside0.mk hY0
  clear hr hc hrt hct hgr hm hn hwf hmn hE hZ hbz hX1 hY hbt hY0 hz0
  go_enter Try.func7, Try.ntmps7
  repeat (first
    | (go_at_call 25; (with_reducible refine (sameNone_calls A3 c3 Y L2 R2 _ QhY0.out HX3.out HC3.out).mono ?_); rintro e9 w9 ⟨rfl, hb⟩; have HBc := Aside0.mk (bl HBc.out hb); have HG0 := Aside0.mk (blk_below HG0.out hb); have HG1 := Aside0.mk (blk_below HG1.out hb); have HRb := Aside0.mk (Kd.C_below HRb.out hb); have HRt := Aside0.mk (Kd.C_below HRt.out hb); have HX1 := Aside0.mk (Kd.C_below HX1.out hb); have HX2 := Aside0.mk (Kd.C_below HX2.out hb); have HG5 := Aside0.mk (blk_below HG5.out hb); have HX3 := Aside0.mk (Kd.C_below HX3.out hb); have HG8 := Aside0.mk (blk_below HG8.out hb); clear hb; (try dsimp only))
    | ((with_reducible refine wpList_whole_g 40 (.tmp 12) (w7.heap.size) 40 (bkC A3 Y.length c3 L2 R2) _ ?hw rfl ?hx ?hg Try.underlying40 ?hd ?hi ?_); (case hg => exact HG8.out); (case hw => rfl); (case hx => rfl); (case hd => rfl); (case hi => rw [bkC_length hL2 hR2]; exact info40))
    | ((with_reducible refine wpList_store 40 (.tmp 12) (.tmp 73) w7.heap.size 40 Try.zeroCells40 ⟨bkC A3 Y.length c3 L2 R2⟩ rfl rfl ?hx ?hy ?hg ?hs ?hi ?h1 ?_); (case hg => exact HZ7.out); (case hx => rfl); (case hy => rfl); (case hs => show _ = (bkC A3 Y.length c3 L2 R2).length; rw [bkC_length hL2 hR2]; rfl); (case hi => show _ = some (bkC A3 Y.length c3 L2 R2).length; rw [bkC_length hL2 hR2]; exact info40); (case h1 => exact bk_ones _ _ _ _ _); intro w8 q1 q2 q3 q4; have hb := q3 w7.heap.size w7 (below_alloc (Below.refl _ _) (.cells Try.zeroCells40 40)) (Nat.le_refl _); have HBc := Aside0.mk (bl HBc.out hb); have HG0 := Aside0.mk (blk_below HG0.out hb); have HG1 := Aside0.mk (blk_below HG1.out hb); have HRb := Aside0.mk (Kd.C_below HRb.out hb); have HRt := Aside0.mk (Kd.C_below HRt.out hb); have HX1 := Aside0.mk (Kd.C_below HX1.out hb); have HX2 := Aside0.mk (Kd.C_below HX2.out hb); have HG5 := Aside0.mk (blk_below HG5.out hb); have HX3 := Aside0.mk (Kd.C_below HX3.out hb); have HG8 := Aside0.mk q1; clear q1 q2 q3 q4 hb HZ7)
    | (go_at_call 27; (with_reducible refine (bkRead_calls l0 l1 l2 l3 At ct t _ HRt.out HCT.out Qhbt.out wf3 Y L2 R2 E2 QhY.out).mono ?_); rintro e7 w7 ⟨A3, c3, rfl, hc3, hC3, hown, hb⟩; have HBc := Aside0.mk (bl HBc.out hb); have HG0 := Aside0.mk (blk_below HG0.out hb); have HG1 := Aside0.mk (blk_below HG1.out hb); have HRb := Aside0.mk (Kd.C_below HRb.out hb); have HRt := Aside0.mk (Kd.C_below HRt.out hb); have HX1 := Aside0.mk (Kd.C_below HX1.out hb); have HX2 := Aside0.mk (Kd.C_below HX2.out hb); have HG5 := Aside0.mk (blk_below HG5.out hb); have HC3 := Aside0.mk hc3; have HX3 := Aside0.mk hC3; have HZ7 := Aside0.mk (heap_alloc_new w7 (.cells Try.zeroCells40 40)); clear hc3 hC3 hown; clear hb; (try dsimp only))
    | ((with_reducible refine wpList_store 40 (.tmp 10) (.tmp 39) w4.heap.size 40 Try.zeroCells40 ⟨bkC A2 X1.length c2 L1 R1⟩ rfl rfl ?hx ?hy ?hg ?hs ?hi ?h1 ?_); (case hg => exact HZ4.out); (case hx => rfl); (case hy => rfl); (case hs => show _ = (bkC A2 X1.length c2 L1 R1).length; rw [bkC_length hL1 hR1]; rfl); (case hi => show _ = some (bkC A2 X1.length c2 L1 R1).length; rw [bkC_length hL1 hR1]; exact info40); (case h1 => exact bk_ones _ _ _ _ _); intro w5 q1 q2 q3 q4; have hb := q3 w4.heap.size w4 (below_alloc (Below.refl _ _) (.cells Try.zeroCells40 40)) (Nat.le_refl _); have HBc := Aside0.mk (bl HBc.out hb); have HG0 := Aside0.mk (blk_below HG0.out hb); have HG1 := Aside0.mk (blk_below HG1.out hb); have HRb := Aside0.mk (Kd.C_below HRb.out hb); have HRt := Aside0.mk (Kd.C_below HRt.out hb); have HX1 := Aside0.mk (Kd.C_below HX1.out hb); have HX2 := Aside0.mk (Kd.C_below HX2.out hb); have HG5 := Aside0.mk q1; clear q1 q2 q3 q4 hb HZ4)
    | (go_at_call 27; (with_reducible refine (bkRead_calls2 l0 l1 l2 l3 A1 c1 Z _ HX1.out HC1.out Qhbz.out wf3 X1 L1 R1 E1 QhX1.out).mono ?_); rintro e4 w4 ⟨A2, c2, rfl, hc2, hC2, hb⟩; have HBc := Aside0.mk (bl HBc.out hb); have HG0 := Aside0.mk (blk_below HG0.out hb); have HG1 := Aside0.mk (blk_below HG1.out hb); have HRb := Aside0.mk (Kd.C_below HRb.out hb); have HRt := Aside0.mk (Kd.C_below HRt.out hb); have HX1 := Aside0.mk (Kd.C_below HX1.out hb); have HC2 := Aside0.mk hc2; have HX2 := Aside0.mk hC2; have HZ4 := Aside0.mk (heap_alloc_new w4 (.cells Try.zeroCells40 40)); clear hc2 hC2; clear hb; (try dsimp only))
    | (go_at_call 18; (with_reducible refine (wrtT_calls many 8 Z l0 l1 l2 l3 A c xs L R _ wf3 hL hR HRb.out Qhn.out Qhwf.out Qhmn.out QhE.out QhZ.out).mono ?_); rintro e3 w3 ⟨A1, c1, rfl, hc1, hC1, hb⟩; have HBc := Aside0.mk (bl HBc.out hb); have HG0 := Aside0.mk (blk_below HG0.out hb); have HG1 := Aside0.mk (blk_below HG1.out hb); have HRb := Aside0.mk (Kd.C_below HRb.out hb); have HRt := Aside0.mk (Kd.C_below HRt.out hb); have HC1 := Aside0.mk hc1; have HX1 := Aside0.mk hC1; clear hc1 hC1; clear hb; (try dsimp only))
    | (go_at_call 16; (with_reducible refine (refGreat_calls k A c xs L R false _ HRb.out HC.out HGR.out).mono ?_); rintro e2 w2 ⟨rfl, hb⟩; have HBc := Aside0.mk (bl HBc.out hb); have HG0 := Aside0.mk (blk_below HG0.out hb); have HG1 := Aside0.mk (blk_below HG1.out hb); have HRb := Aside0.mk (Kd.C_below HRb.out hb); have HRt := Aside0.mk (Kd.C_below HRt.out hb); clear hb; (try dsimp only))
    | (go_at_call 31; (with_reducible refine (alive_calls _).mono ?_); rintro e1 w1 ⟨rfl, hb⟩; have HBc := Aside0.mk (bl HBc.out hb); have HG0 := Aside0.mk (blk_below HG0.out hb); have HG1 := Aside0.mk (blk_below HG1.out hb); have HRb := Aside0.mk (Kd.C_below HR.out HBc.out); have HRt := Aside0.mk (Kd.C_below HT.out HBc.out); clear hb; (try dsimp only))
    | ((with_reducible refine wpList_whole_g 40 (.tmp 4) (w.heap.size + 1) 40 (bkC A xs.length c L R) _ ?hw rfl ?hx ?hg Try.underlying40 ?hd ?hi ?_); (case hg => exact HG1.out); (case hw => rfl); (case hx => rfl); (case hd => rfl); (case hi => rw [bkC_length hL hR]; exact info40))
    | ((with_reducible refine wpList_whole_g 23 (.tmp 3) (w.heap.size) 23 ([.int .i64 l0, .int .i64 l1, .int .i64 l2, .int .i64 l3]) _ ?hw rfl ?hx ?hg Try.underlying23 ?hd ?hi ?_); (case hg => exact HG0.out); (case hw => rfl); (case hx => rfl); (case hd => rfl); (case hi => exact infoLB))
    | go_values | go_guarded | go_step | go_upon | go_back)
  go_ret
  exact ⟨rfl, HBc.out⟩
end Go.Proofs.Ytknmokpnkcckeaa

namespace Go.Proofs.Ytknmokpnkcckeaa
open Go.RowKit Go.Proofs.YtknmokpnkcckeaaW.PrintWords Go.Proofs.YtknmokpnkcckeaaW.PrintLast Go.Proofs.YtknmokpnkcckeaaW.PrintMore Go.Proofs.Ytknmokpnkcckeaa.PAll
set_option linter.unusedVariables false
set_option linter.unusedSimpArgs false

theorem bck_cases (l0 l1 l2 l3 : Int) (xs : List S62) : bckS l0 l1 l2 l3 xs = 0 ∨ bckS l0 l1 l2 l3 xs = 8 := by
  unfold bckS
  split
  · exact Or.inl rfl
  · exact Or.inr rfl
theorem bck_wf {l0 l1 l2 l3 : Int} {Y : List S62} (h : bckS l0 l1 l2 l3 Y = 0) : ∀ x ∈ Y, (Lit.int .i64 x.f0).wf = true := by
  unfold bckS at h
  split at h
  · next hh =>
    obtain ⟨hl, _, hok⟩ := hh
    intro x hx
    have hm := okB_mem Y [] hok x hx
    have h1 := hm.1
    have h2 := hm.2.1
    unfold levelOk at hl
    have hlo : l0 ≤ 64 := by omega
    rw [Lit.wf, Bool.and_eq_true, decide_eq_true_eq, decide_eq_true_eq]
    show (-9223372036854775808 : Int) ≤ x.f0 ∧ x.f0 ≤ (9223372036854775807 : Int)
    omega
  · cases h
set_option maxRecDepth 100000 in
theorem bucketBack_all (l0 l1 l2 l3 : Int) (A At : Option Addr) (c ct : Nat) (xs : List S62) (L R t : List Int) (w : World) (hL : L.length = 32) (hR : R.length = 32) (wf3 : (Lit.int .i64 l3).wf = true)
    (hr : Kd.C k62 w A xs.length xs) (hc : xs.length ≤ c) (hrt : Kd.C (Kd.int .u8) w At t.length t) (hct : t.length ≤ ct) (hwf : ∀ x ∈ xs, (Lit.int .i64 x.f0).wf = true) (hbx : ∀ x ∈ xs, Bytes x.f2) (hbt : Bytes t) :
    Calls Try.prog 7 #[.agg #[.int .i64 l0, .int .i64 l1, .int .i64 l2, .int .i64 l3], .agg ⟨bkC A xs.length c L R⟩, .slice At t.length ct] w fun e w' => e = .returned (.bool true) ∧ Below w.heap.size w w' := by
  obtain ⟨ga, hga, hgx⟩ := great_eq xs (k := 500) (by omega)
  cases ga with
  | true => exact back_great 500 l0 l1 l2 l3 A At c ct xs L R t w hL hR hr hc hrt hct hga
  | false =>
    by_cases hm : 1000 < t.length
    · exact back_long 500 l0 l1 l2 l3 A At c ct xs L R t w hL hR hr hc hrt hct hga hm
    · have hn := hgx rfl
      obtain ⟨⟨Y, L2, R2, E2⟩, hY⟩ : ∃ a, readAns l0 l1 l2 l3 t = a := ⟨_, rfl⟩
      obtain ⟨hL2, hR2, hYn, _, _, _⟩ := readAns_facts hbt wf3 hY
      have hrx : ref09_SameAll.f 500 xs xs = some true := by rw [sameAll_eq xs xs (by omega) hbx hbx (by omega), sameL_self]
      rcases bck_cases l0 l1 l2 l3 xs with hE | hE
      · obtain ⟨many, q, hmn, hq, hl3, hsl, hans, hby⟩ := text_facts wf3 hL hR hbx hE
        have hbz : ∀ p ∈ slotsB (manyS l0 l1 l2 l3).toNat (8 + l1).toNat (ofK l1 txtS xs many ++ L ++ R), Bytes p := by rw [hmn, hq, Int.toNat_natCast, Int.toNat_natCast]; exact hby
        by_cases hE2 : E2 = 0
        · subst hE2
          obtain ⟨many2, hmn2, hEY, ht⟩ := read_text wf3 hbt hY
          have hmm : many2 = many := by omega
          subst hmm
          exact back_00 500 l0 l1 l2 l3 A At c ct xs L R t w hL hR hr hc hrt hct hga many2 _ (by omega) hbt wf3 (by omega) hwf hmn hE (by rw [if_pos rfl]) hbz hl3 hrx hans Y L2 R2 hL2 hR2 (by omega) (bck_wf hEY) hEY (by rw [if_pos rfl, ht]) hY
        · exact back_01 500 l0 l1 l2 l3 A At c ct xs L R t w hL hR hr hc hrt hct hga many _ (by omega) hbt wf3 (by omega) hwf hmn hE (by rw [if_pos rfl]) hbz hl3 hrx hans Y L2 R2 hL2 hR2 E2 hE2 (readAns_err hY hE2) hY
      · have hmany : ∃ many : Nat, manyS l0 l1 l2 l3 = (many : Int) := by
          by_cases hl : levelOk l0 l1 l2 l3
          · obtain ⟨many, q, hmn, _⟩ := level_facts hl wf3
            exact ⟨many, hmn⟩
          · exact ⟨0, by unfold manyS; rw [if_neg hl]; rfl⟩
        obtain ⟨many, hmn⟩ := hmany
        have hb0 : Bytes [] := fun z hz => by simp at hz
        have hbz : ∀ p ∈ slotsB (manyS l0 l1 l2 l3).toNat (8 + l1).toNat [], Bytes p := fun p hp => by
          unfold slotsB at hp
          obtain ⟨i, _, rfl⟩ := List.mem_map.1 hp
          intro z hz
          simp at hz
        obtain ⟨⟨X1, L1, R1, E1⟩, hX1⟩ : ∃ a, readAns l0 l1 l2 l3 [] = a := ⟨_, rfl⟩
        obtain ⟨hL1, hR1, _, _, _, _⟩ := readAns_facts hb0 wf3 hX1
        by_cases hE2 : E2 = 0
        · subst hE2
          obtain ⟨many2, hmn2, hEY, ht⟩ := read_text wf3 hbt hY
          have hmm : many2 = many := by omega
          subst hmm
          exact back_80 500 l0 l1 l2 l3 A At c ct xs L R t w hL hR hr hc hrt hct hga many2 [] (by omega) hbt wf3 (by omega) hwf hmn hE (by rw [if_neg (by decide)]) hbz X1 L1 R1 E1 hL1 hR1 rfl hX1 Y L2 R2 hL2 hR2 (by omega) (bck_wf hEY) hEY (by rw [if_pos rfl, ht]) hY
        · exact back_81 500 l0 l1 l2 l3 A At c ct xs L R t w hL hR hr hc hrt hct hga many [] (by omega) hbt wf3 (by omega) hwf hmn hE (by rw [if_neg (by decide)]) hbz X1 L1 R1 E1 hL1 hR1 rfl hX1 Y L2 R2 hL2 hR2 E2 hE2 (readAns_err hY hE2) hY
end Go.Proofs.Ytknmokpnkcckeaa
