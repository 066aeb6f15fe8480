/-
geo.Path: a leaf's path, by the iterator's contract.
-/
import Derived.Test.YtncpilnallghpaaHandDown
namespace Go.Proofs.Ytncpilnallghpaa
open Go.RowKit Go.Shelf Go.Proofs.YtncpilnallghpaaW.PrintWords Go.Proofs.YtncpilnallghpaaW.PrintLast Go.Proofs.YtncpilnallghpaaW.PrintMore Go.Proofs.Ytncpilnallghpaa.PAll
set_option linter.unusedVariables false
set_option linter.unusedSimpArgs false
attribute [local go_sem] Oper.semAt_some

set_option maxHeartbeats 1000000 in
theorem down_in (n : Nat) (high leaf : Int) (w : World) :
    CallsIn Fence.wide n Try.prog 53 #[.int .i64 high, .int .i64 leaf] w fun e w' => e = .returned (.func (.func 60) #[] #[.pointer (some ⟨w.heap.size, 0, none⟩), .pointer (some ⟨w.heap.size + 1, 0, none⟩)]) ∧ w' = (w.alloc (.cells #[.int .i64 high] 3)).alloc (.cells #[.int .i64 leaf] 3) := by
  refine callsIn_of_wp Try.func53 rfl trivial ?_
  simp only [Try.ntmps53, List.size_toArray, List.length_cons, List.length_nil, Nat.reduceAdd, Nat.reduceSub, Array.replicate_succ, Array.replicate_zero, List.push_toArray, List.append_toArray, List.nil_append, List.cons_append]
  gi_wp2
  go_ret
  exact ⟨rfl, rfl⟩

theorem abides_drew {β : Type} {B : Nat} {J : β → World → Prop} (h : AbidesFrom B J) (s : β) (W : World) (hs : J s W) : J s W.drew :=
  h s W W.drew none hs ⟨rfl, rfl, rfl, Nat.le_refl _, fun _ _ _ => rfl⟩ (fun r e => by cases e)

/-- The whole path: rows and buckets. -/
def wayAll (high leaf : Int) : List (Nat × Int) := upto (fun j => (j, wayOf high leaf j)) (high.toNat + 1)

theorem down_stops (n : Nat) (hn : 1 ≤ n) (Bh Bl : Nat) (high leaf : Int) (h1 : 1 ≤ high) (h6 : high ≤ 6) (l0 : 0 ≤ leaf) (l1 : leaf < 64) (w : World) (hBh : Bh < w.heap.size) (hBl : Bl < w.heap.size)
    (hc1 : w.cell? ⟨Bh, 0, none⟩ = some (.int .i64 high)) (hc2 : w.cell? ⟨Bl, 0, none⟩ = some (.int .i64 leaf)) :
    SeqStopsK Fence.wide n Try.prog 60 #[.pointer (some ⟨Bh, 0, none⟩), .pointer (some ⟨Bl, 0, none⟩)] (fun x : Nat × Int => #[Value.int .i64 x.1, Value.int .i64 x.2]) (KeepTwo Bh Bl) (fun ys => ys = wayAll high leaf) (fun pre => ∃ k, k ≤ high.toNat + 1 ∧ pre = upto (fun j => (j, wayOf high leaf j)) k) (high.toNat + 1) w := fun l J Jx W hW hJ _ hY h0 =>
  down1_in n hn l Bh Bl high leaf h1 h6 l0 l1 J Jx (fun s W hs => abides_drew hJ s W hs) hY W ((hW.cell (p := ⟨Bh, 0, none⟩) hBh).trans hc1) ((hW.cell (p := ⟨Bl, 0, none⟩) hBl).trans hc2) h0

theorem info3 : (Try.prog.info? 3).map (fun i => (i.zero, i.size, i.bytes)) = some (some (.int .i64 0), 1, 8) := by kernel_rfl
theorem two_le {high : Int} (h : isHigh high = true) : two high ≤ 64 := by
  rcases high_cases h with rfl | rfl | rfl | rfl | rfl | rfl <;> decide

def geo_Path.f (high leaf : Int) : Option (List Int × Int) := some (if (isHigh high && isLeaf high leaf) = true then ((wayAll high leaf).map (·.2), 0) else ([], 2))

theorem C_one (w : World) (t : TypeId) (k : IntKind) (x : Int) (h : Nat) (hh : w.heap.size = h) : Kd.C (Kd.int k) (w.alloc (.cells #[.int k x] t)) (some ⟨h, 0, none⟩) 1 [x] := by
  subst hh
  refine ⟨rfl, by omega, fun _ => ⟨_, rfl, fun j p hj => ?_⟩⟩
  have hj0 : j = 0 := by
    have := (List.getElem?_eq_some_iff.1 hj).1
    simp at this
    omega
  subst hj0
  simp at hj
  subst hj
  refine ⟨[.int k x], rfl, rfl, fun i u hu => ?_⟩
  have hi0 : i = 0 := by
    have := (List.getElem?_eq_some_iff.1 hu).1
    simp at this
    omega
  subst hi0
  simp at hu
  subst hu
  simp [Addr.add]

theorem path_world (w : World) (nd : Nat) (high leaf : Int) (W0 : World) (h : ((((w.alloc (.cells #[.slice none 0 0] 34)).alloc (.cells #[.int .i64 leaf] 3)).drewN nd).alloc (.cells #[.int .i64 high] 3)).alloc (.cells #[.int .i64 leaf] 3) = W0) :
    Boxed W0 w.heap.size 34 (.slice none 0 0) ∧ W0.heap.size = w.heap.size + 4 ∧ Below w.heap.size w W0 ∧ W0.cell? ⟨w.heap.size + 1 + 1, 0, none⟩ = some (.int .i64 high) ∧ W0.cell? ⟨w.heap.size + 1 + 1 + 1, 0, none⟩ = some (.int .i64 leaf) := by
  subst h
  refine ⟨?_, by simp, ((pw_below_drewN (((Below.refl _ w).alloc (Nat.le_refl _) _).alloc (by simp) _) nd).alloc (by simp; omega) _).alloc (by simp; omega) _, by go_simp, by go_simp⟩
  have h1 : Boxed ((w.alloc (.cells #[.slice none 0 0] 34)).alloc (.cells #[.int .i64 leaf] 3)) w.heap.size 34 (.slice none 0 0) := (Boxed.new w 34 (.slice none 0 0)).alloc _
  have h2 : Boxed (((w.alloc (.cells #[.slice none 0 0] 34)).alloc (.cells #[.int .i64 leaf] 3)).drewN nd) w.heap.size 34 (.slice none 0 0) := h1
  exact (h2.alloc _).alloc _

theorem ownFrom_size {β : Type} {n B : Nat} : OwnFrom B (fun (_ : β) (W : World) => n ≤ W.heap.size) := fun _ _ _ _ hs hg _ => Nat.le_trans hs hg.size

/-- One append to the path under way: its box, its row, what else lies as it lay. -/
theorem path_step {W w1 : World} {h n1 t e : Nat} {v v' : Value} {k m : Nat} {xs ys : List Value} {tmp : Obj} (hsz : n1 = h + 4) (hv : Boxed W h t v) (hte : t ≠ e) (hrow : W.ownsRow n1 e 1 v k xs) (hh : h ≤ W.heap.size)
    (hown' : w1.ownsRow n1 e 1 v' m ys) (hgrow : (W.alloc tmp).grownBy w1 v.ownBlock) (hbig : n1 ≤ W.heap.size) :
    Boxed w1 h t v ∧ Boxed (w1.setCell ⟨h, 0, none⟩ v') h t v' ∧ (w1.setCell ⟨h, 0, none⟩ v').ownsRow n1 e 1 v' m ys ∧ KeepsOthers W (w1.setCell ⟨h, 0, none⟩ v') ∧ Below h W (w1.setCell ⟨h, 0, none⟩ v') ∧ KeepTwo (h + 1 + 1) (h + 1 + 1 + 1) W (w1.setCell ⟨h, 0, none⟩ v') ∧ W.heap.size ≤ (w1.setCell ⟨h, 0, none⟩ v').heap.size := by
  obtain ⟨a1, a2, a3, a4, a5⟩ := hv.appended hte (own_weaken hrow (by omega : h ≤ n1)) hh (Nat.le_refl _) (own_weaken hown' (by omega : h ≤ n1)) hgrow
  have keep : ∀ b, b ≠ h → b < n1 → (w1.setCell ⟨h, 0, none⟩ v').heap[b]? = W.heap[b]? := by
    intro b hb hlt
    have h1 : (w1.setCell ⟨h, 0, none⟩ v').heap[b]? = w1.heap[b]? := Below.heap_setCell _ _ _ b hb
    have h2 : w1.heap[b]? = (W.alloc tmp).heap[b]? := hgrow.block b (by simp; omega) (fun e_ => by have := own_base hrow b e_.symm; omega)
    have h3 : (W.alloc tmp).heap[b]? = W.heap[b]? := Below.heap_alloc W tmp b (by omega)
    exact h1.trans (h2.trans h3)
  exact ⟨a1, a2, hown'.kept (grownBy_setCell' w1 h v') (.inr (a1.not_row hte hown').symm), a4, a5, ⟨keep _ (by omega) (by omega), keep _ (by omega) (by omega)⟩, by have := hgrow.size; simp at this ⊢; omega⟩

set_option maxHeartbeats 4000000 in
set_option maxRecDepth 100000 in
theorem path_yes (high leaf : Int) (w : World) (hh : isHigh high = true) (hl : isLeaf high leaf = true) :
    CallsIn Fence.wide 6 Try.prog 33 #[.int .i64 high, .int .i64 leaf] w fun e w' => ∃ v, e = .returned (.tuple #[v, .int .i64 0]) ∧ w'.ownsRow w.heap.size 3 1 v (wayAll high leaf).length (((wayAll high leaf).map (·.2)).map (Value.int .i64)) ∧ Below w.heap.size w w' := by
  have HA : Aside1 (geo_asked.f 3 high [leaf] = some 0) := ⟨by rw [asked_one 0 hh, hl]; rfl⟩
  obtain ⟨h1, h6⟩ := (isHigh_iff high).1 hh
  obtain ⟨l0, l1⟩ := (isLeaf_iff high leaf).1 hl
  have l2 : leaf < 64 := by have := two_le hh; omega
  obtain ⟨i0, hi, hz0, hz1, hz2⟩ := info_parts info3
  clear hh hl
  refine callsIn_of_wp_marks Try.func33 rfl trivial ?_
  simp only [Try.ntmps33, List.size_toArray, List.length_cons, List.length_nil, Nat.reduceAdd, Nat.reduceSub, Array.replicate_succ, Array.replicate_zero, List.push_toArray, List.append_toArray, List.nil_append, List.cons_append]
  gi_wp2_with (first | (refine ⟨trivial, ?_⟩; gi_at_call 41; refine (callsIn_wide.2 (geo_asked.calls 3 _ _ 1 [leaf] 0 _ ?side1 (Nat.le_refl _) HA.out)).mono ?_; (case side1 => exact C_one _ _ _ _ _ (by simp)); rintro e w2 ⟨rfl, ⟨nd, rfl⟩⟩) | (refine ⟨trivial, ?_⟩; gi_at_call 53; refine (down_in _ _ _ _).mono ?_; rintro e w2 ⟨rfl, rfl⟩))
  clear HA
  obtain ⟨W0, hW0⟩ : ∃ W0, ((((w.alloc (.cells #[.slice none 0 0] 34)).alloc (.cells #[.int .i64 leaf] 3)).drewN nd).alloc (.cells #[.int .i64 high] 3)).alloc (.cells #[.int .i64 leaf] 3) = W0 := ⟨_, rfl⟩
  obtain ⟨bO, hsz, hB0, hc1, hc2⟩ := path_world w nd high leaf W0 hW0
  rw [hW0]
  have HD := Aside1.mk (down_stops 5 (by omega) (w.heap.size + 1 + 1) (w.heap.size + 1 + 1 + 1) high leaf h1 h6 l0 l2 W0 (by omega) (by omega) hc1 hc2)
  clear hc1 hc2 hW0
  refine wpIn_rangeFunc_ownG rfl (by omega) (gf := 60) (lb := #[.pointer (some ⟨w.heap.size + 1 + 1, 0, none⟩), .pointer (some ⟨w.heap.size + 1 + 1 + 1, 0, none⟩)]) rfl trivial (enters_of Try.func60 (by kernel_rfl) rfl)
    HD.out KeepTwo.trans (KeepTwo.put (by omega) (by omega)) (Below.refl _ _) (fun _ => rfl)
    (fun (pre : List (Nat × Int)) W => (∃ v, Boxed W w.heap.size 34 v ∧ W.ownsRow W0.heap.size 3 1 v pre.length ((pre.map (·.2)).map (Value.int .i64)) ∧ True) ∧ (Below w.heap.size w W ∧ W0.heap.size ≤ W.heap.size))
    (fun _ _ _ => False)
    (OwnFrom.and (Own.from (holdsRow_own W0.heap.size w.heap.size 34 3 1 (fun pre : List (Nat × Int) => pre.length) (fun pre => (pre.map (·.2)).map (Value.int .i64)) (fun pre v => True)) _) (OwnFrom.and (ownFrom_below (Nat.le_refl _) (by omega)) ownFrom_size))
    (fun _ _ _ _ _ hs _ _ => hs)
    ⟨⟨_, bO, World.ownsRow_nil _ _ _ _, trivial⟩, hB0, Nat.le_refl _⟩
    (fun x => { tmps := #[.int .i64 high, .int .i64 leaf, undef, undef, .pointer (some ⟨w.heap.size, 0, none⟩), .int .i64 0, .int .i64 0, undef, .int .i64 x.2, .int .i64 high, .int .i64 leaf, .slice (some ⟨w.heap.size + 1, 0, none⟩) 1 1, .int .i64 0, .int .i64 0, .bool false, undef, .int .i64 high, .int .i64 leaf, .func (.func 60) #[] #[.pointer (some ⟨w.heap.size + 1 + 1, 0, none⟩), .pointer (some ⟨w.heap.size + 1 + 1 + 1, 0, none⟩)], .int .i64 x.1, .int .i64 x.2, undef, undef, undef, undef, undef], defers := [] }) ?assign ?body ?done ?stop
  case assign =>
    intro l x W K hK
    gi_wp2
    exact hK
  case body =>
    rintro l pre x W ⟨⟨v, hv, hrow, hnil⟩, hB, hbig⟩ hlt
    have hc := hv.cell
    have hl8 : pre.length ≤ 6 := by omega
    gi_wp2_with (gi_at_builtin; refine wpListIn_append_own _ rfl _ _ 34 rfl W0.heap.size 3 i0 (.int .i64 0) 1 8 Try.underlying34 hi hz0 hz1 hz2 rfl (by decide) _ _ _ rfl (hrow.alloc _) ⟨W.heap.size, 0, none⟩ 1 1 [.int .i64 x.2] rfl rfl (cell_one_new _ _ _) (by simp [Value.oneCell']) (by simp only [maxLen]; omega) (by omega) (by simp; omega) ?_; intro v' w1 hown' hgrow _; obtain ⟨g', cap', rfl⟩ := ownsRow_succ hown'; obtain ⟨hv1, hv2, hr2, hk2, hb2, ht2, ht3⟩ := path_step hsz hv (by decide) hrow hB.size hown' hgrow hbig; have hc1 := hv1.cell; have hf1 := hv1.frozen)
    exact ⟨hk2.from _, ht2, ⟨_, hv2, by simpa using hr2, trivial⟩, hB.trans hb2, Nat.le_trans hbig ht3⟩
  case done =>
    rintro D ys W hD rfl ⟨⟨v, hv, hrow, hnil⟩, hB, hbig⟩ hK
    obtain ⟨Av, cv, rfl⟩ := own_slice hrow
    have hc := hv.cell
    have hf := hv.frozen
    gi_wp2
    have hK2 : (W.setCell ⟨w.heap.size, 0, none⟩ (.slice Av (wayAll high leaf).length cv)).heap[D]? = some (.deferred (some [])) := (KeepsOthers.setCell _ _ _).same D _ hK rfl
    have hv2 := hv.set (.slice Av (wayAll high leaf).length cv)
    have hr2 : (W.setCell ⟨w.heap.size, 0, none⟩ (.slice Av (wayAll high leaf).length cv)).ownsRow W0.heap.size 3 1 (.slice Av (wayAll high leaf).length cv) (wayAll high leaf).length (((wayAll high leaf).map (·.2)).map (Value.int .i64)) := hrow.kept (grownBy_setCell' W w.heap.size _) (.inr (hv.not_row (by decide) hrow).symm)
    have hB2 : Below w.heap.size w (W.setCell ⟨w.heap.size, 0, none⟩ (.slice Av (wayAll high leaf).length cv)) := hB.setCell (p := ⟨w.heap.size, 0, none⟩) (Nat.le_refl _) _
    have hc3 : ((W.setCell ⟨w.heap.size, 0, none⟩ (.slice Av (wayAll high leaf).length cv)).putObj D (.deferred none)).cell? ⟨w.heap.size, 0, none⟩ = some (.slice Av (wayAll high leaf).length cv) := cell_kept hv2.cell (grownBy_putObj' _ D (.deferred none)) (fun r e => by cases e; exact ⟨_, hK2, rfl⟩)
    refine ⟨by simp, .inl ⟨_, _, rfl, run_takeDeferred hK2, ?_⟩⟩
    refine ⟨.tuple #[.slice Av (wayAll high leaf).length cv, .int .i64 0], by simp [results, Try.results33, go_sem, hc3], _, rfl, own_weaken (ownsRow_putObj hr2 _ hK2 rfl) (by omega), ?_⟩
    exact hB2.trans (belowK_b (w := w) (Nat.le_refl _) _ D _ _ (by omega) hK2 rfl rfl)
  case stop =>
    rintro D c pre W _ _ h _
    exact h.elim

theorem asked_any (high leaf : Int) : geo_asked.f 3 high [leaf] = some (if (isHigh high && isLeaf high leaf) = true then 0 else 2) := by
  cases hh : isHigh high with
  | false => rw [asked_low 2 hh]; rfl
  | true => rw [asked_one 0 hh]; rfl

set_option maxHeartbeats 1000000 in
theorem path_no (high leaf : Int) (w : World) (hn : (isHigh high && isLeaf high leaf) = false) :
    Calls Try.prog 33 #[.int .i64 high, .int .i64 leaf] w fun e w' => e = .returned (.tuple #[.slice none 0 0, .int .i64 2]) ∧ Below w.heap.size w w' := by
  have HA : Aside1 (geo_asked.f 3 high [leaf] = some 2) := ⟨by rw [asked_any, hn]; rfl⟩
  clear hn
  go_enter Try.func33, Try.ntmps33
  go_wp2_with (go_at_call 41; refine (geo_asked.calls 3 _ _ 1 [leaf] 2 _ ?side1 (Nat.le_refl _) HA.out).mono ?_; (case side1 => exact C_one _ _ _ _ _ (by simp)); rintro e w2 ⟨rfl, ⟨nd, rfl⟩⟩)
  exact bodyPost_ret (v := .tuple #[.slice none 0 0, .int .i64 2]) (by simp [results, Try.results33, go_sem]) rfl ⟨rfl, (pw_below_drewN (((Below.refl _ _).alloc (Nat.le_refl _) _).alloc (by simp) _) _).setCell (p := ⟨w.heap.size, 0, none⟩) (Nat.le_refl _) _⟩

theorem geo_Path.calls (a0 a1 : Int) (r1 : List Int) (r2 : Int) (w : World) (h : geo_Path.f a0 a1 = some (r1, r2)) :
    Calls Try.prog 33 #[.int .i64 a0, .int .i64 a1] w fun e w' => ∃ v0_ : Value, e = .returned (.tuple #[v0_, .int .i64 r2]) ∧ Kd.R (Kd.int .i64) 3 w' w.heap.size (fun _ => True) v0_ r1 ∧ Below w.heap.size w w' := by
  cases hn : (isHigh a0 && isLeaf a0 a1) with
  | false =>
    simp only [geo_Path.f, hn, Option.some.injEq] at h
    injection h with e1 e2
    subst e1 e2
    refine (path_no a0 a1 w hn).mono ?_
    rintro e w' ⟨rfl, hb⟩
    exact ⟨_, rfl, Kd.R_nil _ _ _ _ _, hb⟩
  | true =>
    simp only [geo_Path.f, hn, if_pos, Option.some.injEq] at h
    injection h with e1 e2
    subst e1 e2
    simp only [Bool.and_eq_true] at hn
    refine (callsIn_wide.1 (path_yes a0 a1 w hn.1 hn.2)).mono ?_
    rintro e w' ⟨v, rfl, hown, hb⟩
    exact ⟨_, rfl, Kd.R_of_own (by rw [List.length_map]; exact hown) (fun _ _ => trivial), hb⟩
end Go.Proofs.Ytncpilnallghpaa
