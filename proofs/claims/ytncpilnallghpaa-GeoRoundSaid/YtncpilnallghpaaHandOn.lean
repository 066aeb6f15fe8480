/-
geo.On: whether a bucket is on a leaf's path, by the iterator's contract.
-/
import Derived.Test.YtncpilnallghpaaHandPath
namespace Go.Proofs.Ytncpilnallghpaa
open Go.RowKit Go.Shelf Go.Proofs.YtncpilnallghpaaW.PrintWords Go.Proofs.YtncpilnallghpaaW.PrintLast Go.Proofs.YtncpilnallghpaaW.PrintMore Go.Proofs.Ytncpilnallghpaa.PAll
set_option linter.unusedVariables false
set_option linter.unusedSimpArgs false
attribute [local go_sem] Oper.semAt_some

def isBucket (high bucket : Int) : Bool := decide (1 ≤ bucket) && decide (bucket < 2 * two high)
def geo_On.f (high bucket leaf : Int) : Option (Bool × Int) :=
  some (if (isHigh high && isLeaf high leaf && isBucket high bucket) = true then (((wayAll high leaf).map (·.2)).contains bucket, 0) else (false, 2))

theorem wrap_two {high : Int} (h : isHigh high = true) : IntKind.i64.wrap (2 * 2 ^ high.toNat) = 2 * two high := by
  rcases high_cases h with rfl | rfl | rfl | rfl | rfl | rfl <;> decide

/-- The world at the end of a call that is refused. -/
def onWorld (w : World) (bucket leaf : Int) (nd : Nat) : World := (((((((w.alloc (.cells #[.int .i64 bucket] 3)).alloc (.cells #[.bool false] 4)).alloc (.cells #[.int .i64 0] 23)).alloc (.cells #[.int .i64 leaf] 3)).drewN nd).setCell ⟨w.heap.size + 1, 0, none⟩ (.bool false)).setCell ⟨w.heap.size + 1 + 1, 0, none⟩ (.int .i64 2))
theorem on_world (w : World) (bucket leaf : Int) (nd : Nat) :
    (onWorld w bucket leaf nd).cell? ⟨w.heap.size + 1, 0, none⟩ = some (.bool false) ∧ (onWorld w bucket leaf nd).cell? ⟨w.heap.size + 1 + 1, 0, none⟩ = some (.int .i64 2) ∧ Below w.heap.size w (onWorld w bucket leaf nd) := by
  unfold onWorld
  refine ⟨?_, ?_, ?_⟩
  · rw [World.cell?_setCell_other _ _ _ _ (by simp)]
    exact World.cell?_setCell_same' _ _ _ (by go_simp)
  · exact World.cell?_setCell_same' _ _ _ (by go_simp)
  · exact ((pw_below_drewN (((((Below.refl _ _).alloc (Nat.le_refl _) _).alloc (by simp) _).alloc (by simp; omega) _).alloc (by simp; omega) _) nd).setCell (p := ⟨w.heap.size + 1, 0, none⟩) (by simp) _).setCell (p := ⟨w.heap.size + 1 + 1, 0, none⟩) (by simp; omega) _

set_option maxHeartbeats 1000000 in
theorem on_no (high bucket leaf : Int) (w : World) (hn : (isHigh high && isLeaf high leaf) = false) :
    Calls Try.prog 37 #[.int .i64 high, .int .i64 bucket, .int .i64 leaf] w fun e w' => e = .returned (.tuple #[.bool false, .int .i64 2]) ∧ Below w.heap.size w w' := by
  have HA : Aside1 (geo_asked.f 3 high [leaf] = some 2) := ⟨by rw [asked_any, hn]; rfl⟩
  clear hn
  go_enter Try.func37, Try.ntmps37
  go_wp2_with (go_at_call 41; refine (geo_asked.calls 3 _ _ 1 [leaf] 2 _ ?side1 (Nat.le_refl _) HA.out).mono ?_; (case side1 => exact C_one _ _ _ _ _ (by simp)); rintro e w2 ⟨rfl, ⟨nd, rfl⟩⟩)
  obtain ⟨c1, c2, hb⟩ := on_world w bucket leaf nd
  change bodyPost _ _ _ _ _ (onWorld w bucket leaf nd)
  exact bodyPost_ret (v := .tuple #[.bool false, .int .i64 2]) (by simp [results, Try.results37, go_sem, c1, c2]) rfl ⟨rfl, hb⟩

set_option maxHeartbeats 1000000 in
theorem on_out (high bucket leaf : Int) (w : World) (hh : isHigh high = true) (hl : isLeaf high leaf = true) (hb : isBucket high bucket = false) :
    Calls Try.prog 37 #[.int .i64 high, .int .i64 bucket, .int .i64 leaf] w fun e w' => e = .returned (.tuple #[.bool false, .int .i64 2]) ∧ Below w.heap.size w w' := by
  have HA : Aside1 (geo_asked.f 3 high [leaf] = some 0) := ⟨by rw [asked_one 0 hh, hl]; rfl⟩
  have hw := wrap_two hh
  obtain ⟨h1, h6⟩ := (isHigh_iff high).1 hh
  have h0 : 0 ≤ high := by omega
  have hb' : ¬ (1 ≤ bucket ∧ bucket < 2 * two high) := fun x => by simp [isBucket, x.1, x.2] at hb
  clear hh hl hb
  by_cases hb1 : bucket < 1
  · have hd : decide (bucket < 1) = true := decide_eq_true hb1
    go_enter Try.func37, Try.ntmps37
    go_wp2_with (go_at_call 41; refine (geo_asked.calls 3 _ _ 1 [leaf] 0 _ ?side1 (Nat.le_refl _) HA.out).mono ?_; (case side1 => exact C_one _ _ _ _ _ (by simp)); rintro e w2 ⟨rfl, ⟨nd, rfl⟩⟩)
    go_quiet (fail)
    go_wp2
    obtain ⟨c1, c2, hb⟩ := on_world w bucket leaf (nd + nq)
    change bodyPost _ _ _ _ _ (onWorld w bucket leaf (nd + nq))
    exact bodyPost_ret (v := .tuple #[.bool false, .int .i64 2]) (by simp [results, Try.results37, go_sem, c1, c2]) rfl ⟨rfl, hb⟩
  · have hd : decide (bucket < 1) = false := decide_eq_false hb1
    have hd2 : decide (2 * two high ≤ bucket) = true := decide_eq_true (by omega)
    go_enter Try.func37, Try.ntmps37
    go_wp2_with (go_at_call 41; refine (geo_asked.calls 3 _ _ 1 [leaf] 0 _ ?side1 (Nat.le_refl _) HA.out).mono ?_; (case side1 => exact C_one _ _ _ _ _ (by simp)); rintro e w2 ⟨rfl, ⟨nd, rfl⟩⟩)
    go_quiet (fail)
    go_wp2
    obtain ⟨c1, c2, hb⟩ := on_world w bucket leaf (nd + nq)
    change bodyPost _ _ _ _ _ (onWorld w bucket leaf (nd + nq))
    exact bodyPost_ret (v := .tuple #[.bool false, .int .i64 2]) (by simp [results, Try.results37, go_sem, c1, c2]) rfl ⟨rfl, hb⟩

/-- What a path under way has come to: none of its buckets is this one. -/
def noneYet (bucket : Int) (pre : List (Nat × Int)) : Bool := !((pre.map (·.2)).contains bucket)
theorem noneYet_snoc (bucket : Int) (pre : List (Nat × Int)) (x : Nat × Int) : noneYet bucket (pre ++ [x]) = (noneYet bucket pre && !(x.2 == bucket)) := by
  simp only [noneYet, List.map_append, List.map_cons, List.map_nil, List.contains_append]
  by_cases h : bucket = x.2
  · subst h; simp
  · have h2 : ¬ x.2 = bucket := fun e => h e.symm
    simp [h, h2]
theorem none_upto {bucket : Int} {f : Nat → Nat × Int} {k n : Nat} (hk : k ≤ n) (h : noneYet bucket (upto f k) = false) : ((upto f n).map (·.2)).contains bucket = true := by
  simp only [noneYet, Bool.not_eq_false'] at h
  simp only [List.contains_iff_mem, upto, List.map_map, List.mem_map, List.mem_range] at h ⊢
  obtain ⟨a, ha, hb⟩ := h
  exact ⟨a, by omega, hb⟩
theorem none_all {bucket : Int} {l : List (Nat × Int)} (h : noneYet bucket l = true) : (l.map (·.2)).contains bucket = false := by simpa [noneYet] using h

theorem on_start (w : World) (nd : Nat) (high bucket leaf : Int) (W0 : World) (h : ((((((w.alloc (.cells #[.int .i64 bucket] 3)).alloc (.cells #[.bool false] 4)).alloc (.cells #[.int .i64 0] 23)).alloc (.cells #[.int .i64 leaf] 3)).drewN nd).alloc (.cells #[.int .i64 high] 3)).alloc (.cells #[.int .i64 leaf] 3) = W0) :
    W0.heap.size = w.heap.size + 6 ∧ Below w.heap.size w W0 ∧ Boxed W0 w.heap.size 3 (.int .i64 bucket) ∧ Boxed W0 (w.heap.size + 1) 4 (.bool false) ∧ Boxed W0 (w.heap.size + 1 + 1) 23 (.int .i64 0) ∧ W0.cell? ⟨w.heap.size + 1 + 1 + 1 + 1, 0, none⟩ = some (.int .i64 high) ∧ W0.cell? ⟨w.heap.size + 1 + 1 + 1 + 1 + 1, 0, none⟩ = some (.int .i64 leaf) := by
  have b1 := Boxed.new w 3 (.int .i64 bucket)
  have b2 := Boxed.new (w.alloc (.cells #[.int .i64 bucket] 3)) 4 (.bool false)
  have b3 := Boxed.new ((w.alloc (.cells #[.int .i64 bucket] 3)).alloc (.cells #[.bool false] 4)) 23 (.int .i64 0)
  simp only [World.size_alloc] at b2 b3
  have e1 : ∀ {W : World} {B t : Nat} {v : Value}, Boxed W B t v → Boxed (W.drewN nd) B t v := fun h => h
  subst h
  exact ⟨by simp, ((pw_below_drewN (((((Below.refl _ w).alloc (Nat.le_refl _) _).alloc (by simp) _).alloc (by simp; omega) _).alloc (by simp; omega) _) nd).alloc (by simp; omega) _).alloc (by simp; omega) _,
    ((e1 (((b1.alloc _).alloc _).alloc _)).alloc _).alloc _, ((e1 ((b2.alloc _).alloc _)).alloc _).alloc _, ((e1 (b3.alloc _)).alloc _).alloc _, by go_simp, by go_simp⟩

theorem boxed_put {W : World} {b t D : Nat} {v : Value} (h : Boxed W b t v) (hK : W.heap[D]? = some (.deferred (some []))) : (W.putObj D (.deferred none)).cell? ⟨b, 0, none⟩ = some v :=
  cell_kept h.cell (grownBy_putObj' _ D (.deferred none)) (fun r e => by cases e; exact ⟨_, hK, rfl⟩)
theorem boxed_from {A B : World} {row : Option Nat} {n b t : Nat} {v : Value} (h : Boxed A b t v) (hg : A.grownBy B row) (hr : ∀ r, row = some r → n ≤ r ∧ ∃ o : Obj, A.heap[r]? = some o ∧ o.isCells = false) (hb : b < n) : Boxed B b t v :=
  h.kept hg (fun e => by have := (hr b e.symm).1; omega)

set_option maxHeartbeats 4000000 in
set_option maxRecDepth 100000 in
theorem on_yes (high bucket leaf : Int) (w : World) (hh : isHigh high = true) (hl : isLeaf high leaf = true) (hb : isBucket high bucket = true) :
    CallsIn Fence.wide 6 Try.prog 37 #[.int .i64 high, .int .i64 bucket, .int .i64 leaf] w fun e w' => e = .returned (.tuple #[.bool (((wayAll high leaf).map (·.2)).contains bucket), .int .i64 0]) ∧ Below w.heap.size w w' := by
  have HA : Aside1 (geo_asked.f 3 high [leaf] = some 0) := ⟨by rw [asked_one 0 hh, hl]; rfl⟩
  have hw := wrap_two hh
  obtain ⟨h1, h6⟩ := (isHigh_iff high).1 hh
  have h0 : 0 ≤ high := by omega
  obtain ⟨l0, l1⟩ := (isLeaf_iff high leaf).1 hl
  have l2 : leaf < 64 := by have := two_le hh; omega
  have hd : decide (bucket < 1) = false := by
    simp [isBucket] at hb
    exact decide_eq_false (by omega)
  have hd2 : decide (2 * two high ≤ bucket) = false := by
    simp [isBucket] at hb
    exact decide_eq_false (by omega)
  clear hh hl hb
  refine callsIn_of_wp_marks Try.func37 rfl trivial ?_
  simp only [Try.ntmps37, List.size_toArray, List.length_cons, List.length_nil, Nat.reduceAdd, Nat.reduceSub, Array.replicate_succ, Array.replicate_zero, List.push_toArray, List.append_toArray, List.nil_append, List.cons_append]
  gi_wp2_with (refine ⟨trivial, ?_⟩; gi_at_call 41; refine (callsIn_wide.2 (geo_asked.calls 3 _ _ 1 [leaf] 0 _ ?side1 (Nat.le_refl _) HA.out)).mono ?_; (case side1 => exact C_one _ _ _ _ _ (by simp)); rintro e w2 ⟨rfl, ⟨nd, rfl⟩⟩)
  refine wpIn_wide.2 ?_
  go_quiet (fail)
  gi_wp2_with (refine ⟨trivial, ?_⟩; gi_at_call 53; refine (down_in _ _ _ _).mono ?_; rintro e w2 ⟨rfl, rfl⟩)
  clear HA hd hd2 hw
  obtain ⟨W0, hW0⟩ : ∃ W0, ((((((w.alloc (.cells #[.int .i64 bucket] 3)).alloc (.cells #[.bool false] 4)).alloc (.cells #[.int .i64 0] 23)).alloc (.cells #[.int .i64 leaf] 3)).drewN (nd + nq)).alloc (.cells #[.int .i64 high] 3)).alloc (.cells #[.int .i64 leaf] 3) = W0 := ⟨_, rfl⟩
  obtain ⟨hsz, hB0, b1, b2, b3, hc1, hc2⟩ := on_start w (nd + nq) high bucket leaf W0 hW0
  rw [hW0]
  have HD := Aside1.mk (down_stops 5 (by omega) (w.heap.size + 1 + 1 + 1 + 1) (w.heap.size + 1 + 1 + 1 + 1 + 1) high leaf h1 h6 l0 l2 W0 (by omega) (by omega) hc1 hc2)
  clear hc1 hc2 hW0
  refine wpIn_rangeFunc_ownG rfl (by omega) (gf := 60) (lb := #[.pointer (some ⟨w.heap.size + 1 + 1 + 1 + 1, 0, none⟩), .pointer (some ⟨w.heap.size + 1 + 1 + 1 + 1 + 1, 0, none⟩)]) rfl trivial (enters_of Try.func60 (by kernel_rfl) rfl)
    HD.out KeepTwo.trans (KeepTwo.put (by omega) (by omega)) (Below.refl _ _) (fun _ => rfl)
    (fun (pre : List (Nat × Int)) W => Boxed W w.heap.size 3 (.int .i64 bucket) ∧ Boxed W (w.heap.size + 1) 4 (.bool false) ∧ Boxed W (w.heap.size + 1 + 1) 23 (.int .i64 0) ∧ Aside1 (noneYet bucket pre = true) ∧ Below w.heap.size w W)
    (fun c (pre : List (Nat × Int)) W => c = .ret ∧ Boxed W (w.heap.size + 1) 4 (.bool true) ∧ Boxed W (w.heap.size + 1 + 1) 23 (.int .i64 0) ∧ Aside1 (noneYet bucket pre = false) ∧ Below w.heap.size w W)
    (fun s A B row hs hg hr => ⟨boxed_from hs.1 hg hr (by omega), boxed_from hs.2.1 hg hr (by omega), boxed_from hs.2.2.1 hg hr (by omega), hs.2.2.2.1, ownFrom_below (Nat.le_refl _) (by omega) s A B row hs.2.2.2.2 hg hr⟩)
    (fun c s A B row hs hg hr => ⟨hs.1, boxed_from hs.2.1 hg hr (by omega), boxed_from hs.2.2.1 hg hr (by omega), hs.2.2.2.1, ownFrom_below (Nat.le_refl _) (by omega) s A B row hs.2.2.2.2 hg hr⟩)
    ⟨b1, b2, b3, ⟨rfl⟩, hB0⟩
    (fun x => { tmps := #[.int .i64 high, .int .i64 bucket, .int .i64 leaf, undef, .pointer (some ⟨w.heap.size, 0, none⟩), undef, .pointer (some ⟨w.heap.size + 1, 0, none⟩), .pointer (some ⟨w.heap.size + 1 + 1, 0, none⟩), .int .i64 0, undef, .int .i64 x.2, .int .i64 high, .int .i64 leaf, .slice (some ⟨w.heap.size + 1 + 1 + 1, 0, none⟩) 1 1, .int .i64 0, .int .i64 0, .bool false, undef, .int .i64 bucket, .bool false, .bool false, .int .i64 bucket, .int .i64 high, .int .i64 (2 * two high), .bool false, .bool false, .int .i64 high, .int .i64 leaf, .func (.func 60) #[] #[.pointer (some ⟨w.heap.size + 1 + 1 + 1 + 1, 0, none⟩), .pointer (some ⟨w.heap.size + 1 + 1 + 1 + 1 + 1, 0, none⟩)], .int .i64 x.1, .int .i64 x.2, undef, undef, undef], defers := [] }) ?assign ?body ?done ?stop
  case assign =>
    intro l x W K hK
    gi_wp2
    exact hK
  case body =>
    rintro l pre x W ⟨k1, k2, k3, HN, hB⟩ hlt
    have hc1 := k1.cell
    have hc2 := k2.cell
    have hf2 := k2.frozen
    have hc3 := k3.cell
    have hf3 := k3.frozen
    cases hx : (x.2 == bucket) with
    | false =>
      have HN2 : Aside1 (noneYet bucket (pre ++ [x]) = true) := ⟨by rw [noneYet_snoc, HN.out, hx]; rfl⟩
      gi_wp2
      exact ⟨(KeepsOthers.refl _).from _, KeepTwo.refl _ _ _, k1, k2, k3, HN2, hB⟩
    | true =>
      have HN2 : Aside1 (noneYet bucket (pre ++ [x]) = false) := ⟨by rw [noneYet_snoc, hx]; simp⟩
      gi_wp2
      exact ⟨((KeepsOthers.setCell _ _ _).trans (KeepsOthers.setCell _ _ _)).from _, rfl, (k2.set _).other (by omega) _, (k3.other (by omega) _).set _, HN2, (hB.setCell (p := ⟨w.heap.size + 1, 0, none⟩) (by simp) _).setCell (p := ⟨w.heap.size + 1 + 1, 0, none⟩) (by simp; omega) _⟩
  case done =>
    rintro D ys W hD rfl ⟨k1, k2, k3, HN, hB⟩ hK
    have hc2 := k2.cell
    have hf2 := k2.frozen
    have hc3 := k3.cell
    have hf3 := k3.frozen
    gi_wp2
    have hK2 : ((W.setCell ⟨w.heap.size + 1, 0, none⟩ (.bool false)).setCell ⟨w.heap.size + 1 + 1, 0, none⟩ (.int .i64 0)).heap[D]? = some (.deferred (some [])) := ((KeepsOthers.setCell _ _ _).trans (KeepsOthers.setCell _ _ _)).same D _ hK rfl
    have q2 : Boxed ((W.setCell ⟨w.heap.size + 1, 0, none⟩ (.bool false)).setCell ⟨w.heap.size + 1 + 1, 0, none⟩ (.int .i64 0)) (w.heap.size + 1) 4 (.bool false) := (k2.set _).other (by omega) _
    have q3 : Boxed ((W.setCell ⟨w.heap.size + 1, 0, none⟩ (.bool false)).setCell ⟨w.heap.size + 1 + 1, 0, none⟩ (.int .i64 0)) (w.heap.size + 1 + 1) 23 (.int .i64 0) := (k3.other (by omega) _).set _
    have hB2 : Below w.heap.size w ((W.setCell ⟨w.heap.size + 1, 0, none⟩ (.bool false)).setCell ⟨w.heap.size + 1 + 1, 0, none⟩ (.int .i64 0)) := (hB.setCell (p := ⟨w.heap.size + 1, 0, none⟩) (by simp) _).setCell (p := ⟨w.heap.size + 1 + 1, 0, none⟩) (by simp; omega) _
    have c2 := boxed_put q2 hK2
    have c3 := boxed_put q3 hK2
    refine ⟨by simp, .inl ⟨_, _, rfl, run_takeDeferred hK2, ?_⟩⟩
    refine ⟨.tuple #[.bool false, .int .i64 0], by simp [results, Try.results37, go_sem, c2, c3], by rw [none_all HN.out], ?_⟩
    exact hB2.trans (belowK_b (w := w) (Nat.le_refl _) _ D _ _ (by omega) hK2 rfl rfl)
  case stop =>
    rintro D c pre W hD ⟨k, hk, rfl⟩ ⟨rfl, k2, k3, HN, hB⟩ hK
    gi_wp2
    have c2 := boxed_put k2 hK
    have c3 := boxed_put k3 hK
    refine ⟨by simp, .inl ⟨_, _, rfl, run_takeDeferred hK, ?_⟩⟩
    refine ⟨.tuple #[.bool true, .int .i64 0], by simp [results, Try.results37, go_sem, c2, c3], by rw [show ((wayAll high leaf).map (·.2)).contains bucket = true from none_upto hk HN.out], ?_⟩
    exact hB.trans (belowK_b (w := w) (Nat.le_refl _) _ D _ _ (by omega) hK rfl rfl)

theorem geo_On.calls (a0 a1 a2 : Int) (r1 : Bool) (r2 : Int) (w : World) (h : geo_On.f a0 a1 a2 = some (r1, r2)) :
    Calls Try.prog 37 #[.int .i64 a0, .int .i64 a1, .int .i64 a2] w fun e w' => e = .returned (.tuple #[.bool r1, .int .i64 r2]) ∧ Below w.heap.size w w' := by
  cases hn : (isHigh a0 && isLeaf a0 a2) with
  | false =>
    simp only [geo_On.f, hn, Bool.false_and, Option.some.injEq] at h
    injection h with e1 e2
    subst e1 e2
    exact on_no a0 a1 a2 w hn
  | true =>
    have hn' := hn
    simp only [Bool.and_eq_true] at hn'
    cases hb : isBucket a0 a1 with
    | false =>
      simp only [geo_On.f, hn, hb, Bool.and_false, Option.some.injEq] at h
      injection h with e1 e2
      subst e1 e2
      exact on_out a0 a1 a2 w hn'.1 hn'.2 hb
    | true =>
      simp only [geo_On.f, hn, hb, Bool.and_true, if_pos, Option.some.injEq] at h
      injection h with e1 e2
      subst e1 e2
      exact callsIn_wide.1 (on_yes a0 a1 a2 w hn'.1 hn'.2 hb)
end Go.Proofs.Ytncpilnallghpaa
