/-
slot.Write, slot.part, slot.Read: what the calls compute, as plain Lean, and that the calls do so.
-/
import Derived.Test.YtnnknbbgkjgbcaaHandCut
import Derived.Test.YtnnknbbgkjgbcaaGeoPure
import Derived.Test.YtnnknbbgkjgbcaaPAll15
import Derived.Test.YtnnknbbgkjgbcaaPAll14
import Derived.Test.YtnnknbbgkjgbcaaPAll1
import Derived.Test.YtnnknbbgkjgbcaaPAll2
import Derived.Deep.RegionWith
namespace Go.Proofs.Ytnnknbbgkjgbcaa
open Go.RowKit Go.Proofs.YtnnknbbgkjgbcaaW.PrintWords Go.Proofs.YtnnknbbgkjgbcaaW.PrintLast Go.Proofs.YtnnknbbgkjgbcaaW.PrintMore Go.Proofs.Ytnnknbbgkjgbcaa.PAll
set_option linter.unusedVariables false
set_option linter.unusedSimpArgs false

/-! ### whether a slot's parts tell that it has none -/
def posByte (c : Int) : Bool := decide (0 < c)
def noneR (id leaf : Int) (d : List Int) : Bool := decide (id = 0) && decide (leaf = 0) && !d.any posByte

set_option maxHeartbeats 1000000 in
theorem none1_any (c : Int) (w : World) :
    Calls Try.prog 65 #[.int .u8 c] w fun e w' => e = .returned (.bool (posByte c)) ∧ w = w' := by
  have hr : posByte c = decide (0 < c) := rfl
  have HR := Aside0.mk hr
  clear hr
  go_enter Try.func65, Try.ntmps65
  go_wp2
  go_ret
  exact ⟨by rw [HR.out]; rfl, rfl⟩

set_option maxHeartbeats 2000000 in
theorem indexFuncB (A0 : Option Addr) (c0 : Nat) (l0 : List Int) (w : World) (hr0 : Kd.C (Kd.int .u8) w A0 l0.length l0) :
    Calls Try.prog 72 #[.slice A0 l0.length c0, .func (.func 65) #[] #[]] w fun e w' => ∃ r : Int, e = .returned (.int .i64 r) ∧ Aside0 (decide (0 ≤ r) = l0.any posByte) ∧ w = w' := by
  have HR0 := Aside0.mk hr0
  have HM : l0.length ≤ 9223372036854775807 := hr0.2.1
  clear hr0
  go_enter Try.func72, Try.ntmps72
  go_wp2
  go_loopg [8] l0.length (fun kq v w' => ∃ (k : Nat), v = .int .i64 k ∧ Aside0 (kq + k = l0.length) ∧ Aside0 ((l0.drop k).any posByte = l0.any posByte) ∧ w = w')
  case atStart => exact ⟨0, rfl, ⟨rfl⟩, ⟨by simp⟩, rfl⟩
  case round =>
    obtain ⟨k, rfl, HK, HS, rfl⟩ := hrel
    by_cases hk : k < l0.length
    · have hk1 : decide ((k : Int) < (l0.length : Int)) = true := decide_eq_true (by omega)
      obtain ⟨ad, e1, hx0⟩ := Kd.at_int HR0.out (k : Int) (by omega) (by omega)
      cases e1
      have hx : w.cell? (ad.add k) = some (.int .u8 (rd l0 k)) := by simpa using hx0
      clear hx0
      have p1 : 0 ≤ (k : Int) := by omega
      have q1 : (k : Int) < (l0.length : Int) := by omega
      have hstep := find_step hk posByte
      cases hb : posByte (rd l0 k) with
      | true =>
        have HN : Aside0 (decide (0 ≤ (k : Int)) = l0.any posByte) := ⟨by rw [← HS.out, hstep, hb]; simp⟩
        clear hstep
        go_wp2_with (go_at_call 65; refine (none1_any _ _).mono ?_; rintro e w2 ⟨rfl, rfl⟩)
        go_ret
        exact ⟨_, rfl, HN, rfl⟩
      | false =>
        have HN : Aside0 ((l0.drop (k + 1)).any posByte = l0.any posByte) := ⟨by rw [← HS.out, hstep, hb]; simp⟩
        clear hstep
        go_wp2_with (go_at_call 65; refine (none1_any _ _).mono ?_; rintro e w2 ⟨rfl, rfl⟩)
        go_roundg (gk - 1)
        case measure => have := HK.out; omega
        case rel => exact ⟨k + 1, by go_num, ⟨by have := HK.out; omega⟩, HN, rfl⟩
    · have hk1 : ¬ (k : Int) < (l0.length : Int) := by omega
      have HN : Aside0 (decide ((0 : Int) ≤ -1) = l0.any posByte) := ⟨by rw [← HS.out, List.drop_of_length_le (by omega)]; rfl⟩
      go_wp2
      go_ret
      exact ⟨_, rfl, HN, rfl⟩

set_option maxHeartbeats 1000000 in
theorem containsFuncB (A0 : Option Addr) (c0 : Nat) (l0 : List Int) (w : World) (hr0 : Kd.C (Kd.int .u8) w A0 l0.length l0) :
    Calls Try.prog 64 #[.slice A0 l0.length c0, .func (.func 65) #[] #[]] w fun e w' => e = .returned (.bool (l0.any posByte)) ∧ w = w' := by
  have HR0 := Aside0.mk hr0
  clear hr0
  go_enter Try.func64, Try.ntmps64
  go_wp2_with (go_at_call 72; refine (indexFuncB _ _ _ _ HR0.out).mono ?_; rintro e w2 ⟨r, rfl, HN, rfl⟩)
  go_ret
  exact ⟨by rw [← HN.out]; rfl, rfl⟩

set_option maxHeartbeats 2000000 in
theorem slot_none_calls (id leaf : Int) (A0 : Option Addr) (c0 : Nat) (l0 : List Int) (w : World) (hr0 : Kd.C (Kd.int .u8) w A0 l0.length l0) :
    Calls Try.prog 53 #[.agg #[.int .u64 id, .int .u64 leaf, .slice A0 l0.length c0]] w fun e w' => e = .returned (.bool (noneR id leaf l0)) ∧ Below w.heap.size w w' := by
  have HR0 := Aside0.mk hr0
  clear hr0
  by_cases h0 : id = 0
  · by_cases h1 : leaf = 0
    · have hr : noneR id leaf l0 = !l0.any posByte := by simp [noneR, h0, h1]
      have HR := Aside0.mk hr
      subst h0 h1
      clear hr
      go_enter Try.func53, Try.ntmps53
      go_wp2_with (go_at_call 64; refine (containsFuncB _ _ _ _ (Kd.C_alloc HR0.out _)).mono ?_; rintro e w2 ⟨rfl, rfl⟩)
      go_ret
      exact ⟨by rw [HR.out]; rfl, (Below.refl _ _).alloc (Nat.le_refl _) _⟩
    · have hr : noneR id leaf l0 = false := by simp [noneR, h1]
      have HR := Aside0.mk hr
      have hq : (leaf == 0) = false := by simpa using h1
      subst h0
      clear hr h1
      go_enter Try.func53, Try.ntmps53
      go_wp2
      go_ret
      exact ⟨by rw [HR.out]; rfl, (Below.refl _ _).alloc (Nat.le_refl _) _⟩
  · have hr : noneR id leaf l0 = false := by simp [noneR, h0]
    have HR := Aside0.mk hr
    have hq : (id == 0) = false := by simpa using h0
    clear hr h0
    go_enter Try.func53, Try.ntmps53
    go_wp2
    go_ret
    exact ⟨by rw [HR.out]; rfl, (Below.refl _ _).alloc (Nat.le_refl _) _⟩

/-! ### slot.part -/
/-- Blocks from base on that nothing froze. -/
def Young (base : Nat) (W : World) (k : Nat) : Prop := base ≤ k ∧ ∃ cells q, W.heap[k]? = some (.cells cells q (0, 0))
theorem Young.below {base base' : Nat} {W W1 : World} {k : Nat} (h : Young base W k) (hb : Below W.heap.size W W1) (hl : base' ≤ base) : Young base' W1 k := by
  obtain ⟨h0, cells, q, e⟩ := h
  refine ⟨by omega, cells, q, ?_⟩
  rw [← e]
  exact hb.block k (Array.getElem?_eq_some_iff.1 e).1
theorem F_young {base base' n : Nat} {W W1 : World} {A : Option Addr} {l : List Int} (h : Kd.F (Kd.int .u8) W (Young base W) A n l) (hb : Below W.heap.size W W1) (hl : base' ≤ base) : Kd.F (Kd.int .u8) W1 (Young base' W1) A n l :=
  Kd.F_mono (Kd.F_below h hb) (fun k hk => hk.below hb hl)

theorem F_young_set {base n : Nat} {W : World} {A : Option Addr} {l : List Int} {p : Addr} (h : Kd.F (Kd.int .u8) W (Young base W) A n l) (hp : p.block < base) (u : Value) : Kd.F (Kd.int .u8) (W.setCell p u) (Young base (W.setCell p u)) A n l := by
  have hne : ∀ k, Young base W k → k ≠ p.block := fun k hk => by have := hk.1; omega
  refine Kd.F_mono (Kd.F_far h hne u) (fun k hk => ⟨hk.1, ?_⟩)
  obtain ⟨cells, q, e⟩ := hk.2
  exact ⟨cells, q, blk_far e (hne k hk) u⟩
theorem lit_row {W : World} {fr : Nat × Nat} {t : TypeId} (k : IntKind) (zs : List Int) (hz : zs.length ≤ 9223372036854775807) : Kd.C (Kd.int k) (W.alloc (.cells (zs.map (Value.int k)).toArray t fr)) (some ⟨W.heap.size, 0, none⟩) zs.length zs := by
  refine ⟨rfl, hz, fun _ => ⟨_, rfl, fun j p hj => ?_⟩⟩
  refine ⟨[.int k p], rfl, rfl, fun i u hu => ?_⟩
  have hi : i = 0 := by
    rcases i with _ | i
    · rfl
    · simp at hu
  subst hi
  simp only [List.getElem?_cons_zero, Option.some.injEq] at hu
  subst hu
  have hc : ∀ k', (W.alloc (.cells (zs.map (Value.int k)).toArray t fr)).cell? ⟨W.heap.size, k', none⟩ = (zs.map (Value.int k)).toArray[k']? := World.cell?_alloc_mark W _ t fr
  have he : (⟨W.heap.size, 0, none⟩ : Addr).add (j * (Kd.int k).sz + 0) = ⟨W.heap.size, j, none⟩ := by rw [add_at]; simp [Kd.int, Kd.scalar]
  rw [he, hc]
  simp [hj]

theorem lit_at {W : World} {fr : Nat × Nat} {t : TypeId} (k : IntKind) (zs : List Int) (hz : zs.length ≤ 9223372036854775807) {b : Nat} (hb : b = W.heap.size) : Kd.C (Kd.int k) (W.alloc (.cells (zs.map (Value.int k)).toArray t fr)) (some ⟨b, 0, none⟩) zs.length zs := by
  subst hb
  exact lit_row k zs hz

/-- What slot.part answers: the numbers, the bytes, the error. -/
def partR (size : Int) (s : List Int) : Option (Int × Int × List Int × Int) :=
  if (s.length : Int) = 8 + size then
    (num_Take.f 60 (s.take 8) [4, 4]).bind fun t => if t.1.length = 2 then some (rd t.1 0, rd t.1 1, (s.drop 8).take size.toNat, t.2) else none
  else some (0, 0, [], 10)

theorem cutR_two {size : Int} (h1 : 1 ≤ size) (h2 : size ≤ 32) (s : List Int) :
    num_Cut.f s [8, size] = some (if (s.length : Int) = 8 + size then ([s.take 8, (s.drop 8).take size.toNat], 0) else ([], 10)) := by
  have hs : sizeR [8, size] = (8 + size, 0) := by
    have : numSum 0 [8, size] = some (8 + size) := by
      rw [numSum, if_neg (by omega), numSum, if_neg (by omega), numSum]
      simp
    rw [sizeR, if_neg (by simp), this]
  rw [num_Cut.f, cutR, hs]
  simp only [ne_eq, not_true_eq_false, if_false]
  by_cases h : (s.length : Int) = 8 + size
  · rw [if_neg (by omega), if_pos h]; simp [cutGo]
  · rw [if_pos (by omega), if_neg h]

theorem put3 {W : World} {b t : Nat} {x y z : Value} (h : W.heap[b]? = some (.cells #[x, y, z] t (0, 0))) (u v r : Value) :
    (((W.setCell ⟨b, 0, none⟩ u).setCell ⟨b, 1, none⟩ v).setCell ⟨b, 2, none⟩ r).heap[b]? = some (.cells #[u, v, r] t (0, 0)) := by
  have := blk_set (blk_set (blk_set h 0 u) 1 v) 2 r
  simpa using this
theorem heap_mid (w : World) (a b c : Obj) : (((w.alloc a).alloc b).alloc c).heap[w.heap.size + 1]? = some b := by
  have h1 := heap_alloc_new (w.alloc a) b
  rw [World.size_alloc] at h1
  have hl : w.heap.size + 1 < ((w.alloc a).alloc b).heap.size := by simp
  exact ((Below.refl _ _).alloc (Nat.le_refl _) c).block _ hl |>.trans h1
set_option maxHeartbeats 4000000 in
set_option maxRecDepth 100000 in
theorem part_short (a0 size a2 a3 : Int) (h1 : 1 ≤ size) (h2 : size ≤ 32) (A1 : Option Addr) (c1 : Nat) (l1 : List Int) (w : World) (hr1 : Kd.C (Kd.int .u8) w A1 l1.length l1) (hc1 : l1.length ≤ c1) (h : ¬ (l1.length : Int) = 8 + size) :
    Calls Try.prog 52 #[.agg #[.int .i64 a0, .int .i64 size, .int .i64 a2, .int .i64 a3], .slice A1 l1.length c1] w fun e w' => e = .returned (.tuple #[.agg #[.int .u64 0, .int .u64 0, .slice none 0 0], .int .i64 10]) ∧ Below w.heap.size w w' := by
  have HR1 := Aside0.mk hr1
  have HC1 := Aside0.mk hc1
  have HCut : Aside0 (num_Cut.f l1 [8, size] = some ([], 10)) := ⟨by rw [cutR_two h1 h2, if_neg h]⟩
  clear hr1 hc1 h h1 h2
  go_enter Try.func52, Try.ntmps52
  go_wp2_with (go_at_call 63; go_loud (refine calls_of_args (show _ = #[.slice A1 l1.length c1, .slice _ [(8 : Int), size].length 2] from by rfl) ?_; refine (num_Cut.calls _ _ _ _ _ _ _ _ _ ?s1 HC1.out ?s2 (Nat.le_refl _) HCut.out).mono ?_; (case s1 => exact Kd.C_below HR1.out (below_alloc (below_alloc (below_alloc (Below.refl _ _) _) _) _)); (case s2 => exact lit_at .i64 [8, size] (by simp) (by simp)); rintro e w2 ⟨v2, rfl, hv2, hb2⟩; have hk := hb2.block (w.heap.size + 1) (by simp); rw [heap_mid] at hk; have HK := Aside0.mk hk; have c0 := blk_cell hk 0; have c1 := blk_cell hk 1; have c2 := blk_cell hk 2; have f0 := blk_frozen hk 0; have f1 := blk_frozen hk 1; have f2 := blk_frozen hk 2; have HB2 := Aside0.mk hb2; clear hk hv2 hb2))
  have hk3 := put3 HK.out (.int .u64 0) (.int .u64 0) (.slice none 0 0)
  have hb3 := below_set (below_set (below_set (below_step (below_alloc (below_alloc (below_alloc (Below.refl w.heap.size w) _) _) _) HB2.out) (g := w.heap.size + 1) (j := 0) (v := .int .u64 0) (by omega)) (g := w.heap.size + 1) (j := 1) (v := .int .u64 0) (by omega)) (g := w.heap.size + 1) (j := 2) (v := .slice none 0 0) (by omega)
  generalize hW3 : ((w2.setCell ⟨w.heap.size + 1, 0, none⟩ (.int .u64 0)).setCell ⟨w.heap.size + 1, 1, none⟩ (.int .u64 0)).setCell ⟨w.heap.size + 1, 2, none⟩ (.slice none 0 0) = W3 at hk3 hb3 ⊢
  have c0 := blk_cell hk3 0
  have c1 := blk_cell hk3 1
  have c2 := blk_cell hk3 2
  refine bodyPost_ret (v := .tuple #[.agg #[.int .u64 0, .int .u64 0, .slice none 0 0], .int .i64 10]) ?_ rfl ⟨rfl, hb3⟩
  simp [results, Try.results52, go_sem, c0, c1, c2]

theorem add_nil' (a : Addr) : a.add 0 = a := by
  cases a
  unfold Addr.add
  simp
theorem add_one' (a : Addr) : a.add 1 = ⟨a.block, a.off + 1, none⟩ := by
  unfold Addr.add
  simp
theorem row2 {e t : TypeId} {W : World} {base n cv : Nat} {ok : Nat → Prop} {Av : Option Addr} {p q : List Int} (h : Kd.V (Kd.slice e (Kd.int .u8)) t W base ok (.slice Av n cv) [p, q]) :
    ∃ ad Ap cp Aq cq, Av = some ad ∧ W.cell? ad = some (.slice Ap p.length cp) ∧ W.cell? ⟨ad.block, ad.off + 1, none⟩ = some (.slice Aq q.length cq) ∧ p.length ≤ cp ∧ q.length ≤ cq ∧ Kd.F (Kd.int .u8) W ok Ap p.length p ∧ Kd.F (Kd.int .u8) W ok Aq q.length q := by
  obtain ⟨hn, _, _⟩ := Kd.V_at h
  have hn2 : n = 2 := hn
  subst hn2
  obtain ⟨ad, cs, he, hcl, hK, hcc, _⟩ := Kd.F_get (Kd.V_F h) [] 0 (by omega) (by omega)
  obtain ⟨ad', cs', he', hcl', hK', hcc', _⟩ := Kd.F_get (Kd.V_F h) [] 1 (by omega) (by omega)
  rw [he] at he'
  injection he' with he'
  subst he'
  obtain ⟨Ap, cp, rfl, hp, hFp⟩ := Kd.FK_slice_open hK
  obtain ⟨Aq, cq, rfl, hq, hFq⟩ := Kd.FK_slice_open hK'
  have c0 := hcc 0 _ rfl
  rw [show (0 : Int).toNat * (Kd.slice e (Kd.int .u8)).sz + 0 = 0 from rfl, add_nil'] at c0
  have c1 := hcc' 0 _ rfl
  rw [show (1 : Int).toNat * (Kd.slice e (Kd.int .u8)).sz + 0 = 1 from rfl, add_one'] at c1
  exact ⟨ad, Ap, cp, Aq, cq, he, c0, c1, hp, hq, hFp, hFq⟩

theorem row2i {t : TypeId} {k : IntKind} {W : World} {base n c : Nat} {ok : Nat → Prop} {A : Option Addr} {l : List Int} (h : (Kd.int k).R t W base ok (.slice A n c) l) (hl : l.length = 2) :
    ∃ ad, A = some ad ∧ W.cell? ad = some (.int k (rd l 0)) ∧ W.cell? ⟨ad.block, ad.off + 1, none⟩ = some (.int k (rd l 1)) := by
  obtain ⟨hn, _, hC⟩ := Kd.R_reads' h
  obtain ⟨ad, he, h0⟩ := Kd.at_int hC 0 (by omega) (by omega)
  subst he
  have h1 := Kd.foot_int hC 1 (by omega) (by omega)
  rw [show (0 : Int).toNat = 0 from rfl, add_nil'] at h0
  rw [show (1 : Int).toNat = 1 from rfl, add_one'] at h1
  exact ⟨ad, rfl, h0, h1⟩

theorem partR_facts {size : Int} {s : List Int} {x y : Int} {d : List Int} {e : Int} (hl : (s.length : Int) = 8 + size) (h : partR size s = some (x, y, d, e)) :
    ∃ t, num_Take.f 60 (s.take 8) [4, 4] = some t ∧ t.1.length = 2 ∧ x = rd t.1 0 ∧ y = rd t.1 1 ∧ d = (s.drop 8).take size.toNat ∧ e = t.2 := by
  rw [partR, if_pos hl] at h
  obtain ⟨t, ht, h⟩ := Option.bind_eq_some_iff.1 h
  by_cases h2 : t.1.length = 2
  · rw [if_pos h2] at h
    simp only [Option.some.injEq, Prod.mk.injEq] at h
    exact ⟨t, ht, h2, h.1.symm, h.2.1.symm, h.2.2.1.symm, h.2.2.2.symm⟩
  · rw [if_neg h2] at h; cases h

set_option maxHeartbeats 4000000 in
set_option maxRecDepth 100000 in
theorem part_long (a0 size a2 a3 : Int) (h1 : 1 ≤ size) (h2 : size ≤ 32) (A1 : Option Addr) (c1 : Nat) (l1 : List Int) (x y : Int) (d : List Int) (e0 : Int) (w : World) (hr1 : Kd.C (Kd.int .u8) w A1 l1.length l1) (hc1 : l1.length ≤ c1) (hl : (l1.length : Int) = 8 + size) (h : partR size l1 = some (x, y, d, e0)) :
    Calls Try.prog 52 #[.agg #[.int .i64 a0, .int .i64 size, .int .i64 a2, .int .i64 a3], .slice A1 l1.length c1] w fun e w' => ∃ A c, e = .returned (.tuple #[.agg #[.int .u64 x, .int .u64 y, .slice A d.length c], .int .i64 e0]) ∧ d.length ≤ c ∧ Kd.F (Kd.int .u8) w' (Young w.heap.size w') A d.length d ∧ Below w.heap.size w w' := by
  obtain ⟨⟨t1, t2⟩, ht, ht2, rfl, rfl, hd, rfl⟩ := partR_facts hl h
  simp only at ht ht2
  obtain ⟨p, hp⟩ : ∃ p, l1.take 8 = p := ⟨_, rfl⟩
  have HCut : Aside0 (num_Cut.f l1 [8, size] = some ([p, d], 0)) := ⟨by rw [cutR_two h1 h2, if_pos hl, hp, hd]⟩
  rw [hp] at ht
  have HR1 := Aside0.mk hr1
  have HC1 := Aside0.mk hc1
  have HT := Aside0.mk ht
  have HT2 := Aside0.mk ht2
  clear hr1 hc1 h h1 h2 hd ht ht2 hl hp
  go_enter Try.func52, Try.ntmps52
  go_wp2_with (first | (go_at_call 63; go_loud (refine calls_of_args (show _ = #[.slice A1 l1.length c1, .slice _ [(8 : Int), size].length 2] from by rfl) ?_; refine (num_Cut.calls2 _ _ _ _ _ _ _ _ _ ?s1 HC1.out ?s2 (Nat.le_refl _) HCut.out).mono ?_; (case s1 => exact Kd.C_below HR1.out (below_alloc (below_alloc (below_alloc (Below.refl _ _) _) _) _)); (case s2 => exact lit_at .i64 [8, size] (by simp) (by simp)); rintro e w2 ⟨v2, rfl, hv2, hb2⟩; have hk := hb2.block (w.heap.size + 1) (by simp); rw [heap_mid] at hk; have HK := Aside0.mk hk; have c0 := blk_cell hk 0; have c1 := blk_cell hk 1; have c2 := blk_cell hk 2; have f0 := blk_frozen hk 0; have f1 := blk_frozen hk 1; have f2 := blk_frozen hk 2; have HB2 := Aside0.mk hb2; obtain ⟨Av, cv, rfl⟩ := Kd.V_slice hv2; obtain ⟨ad, Ap, cp, Aq, cq, rfl, hx0, hx1, hp, hq, hFp, hFq⟩ := row2 hv2; have HP := Aside0.mk hp; have HQ := Aside0.mk hq; have HFP := Aside0.mk hFp; have HFQ := Aside0.mk hFq; clear hk hv2 hb2 hp hq hFp hFq)) | (go_at_call 56; go_loud (refine calls_of_args (show _ = #[.slice Ap p.length cp, .slice _ [(4 : Int), 4].length 2] from by rfl) ?_; refine (num_Take.calls 60 _ _ _ _ _ _ _ _ _ ?t1 HP.out ?t2 (Nat.le_refl _) HT.out).mono ?_; (case t1 => exact Kd.C_below (Kd.F_now HFP.out) (below_alloc (Below.refl _ _) _)); (case t2 => exact lit_at .i64 [4, 4] (by simp) (by simp)); rintro e w3 ⟨v3, rfl, hv3, hb3⟩; have hb23 := below_step (below_alloc (Below.refl _ w2) _) hb3; obtain ⟨A3, c3, rfl⟩ := Kd.R_slice hv3; have hk := blk_below HK.out hb23; have HK3 := Aside0.mk hk; have g0 := blk_cell hk 0; have g1 := blk_cell hk 1; have g2 := blk_cell hk 2; have q0 := blk_frozen hk 0; have q1 := blk_frozen hk 1; have q2 := blk_frozen hk 2; have hy1 := pw_cell_below hb23 hx1; obtain ⟨at3, E3, hz0, hz1⟩ := row2i hv3 HT2.out; subst E3; have HB23 := Aside0.mk hb23; clear hk hv3 hb3 hb23 c0 c1 c2 f0 f1 f2 hx0 hx1)))
  have hn0 : 0 < t1.length := by have := HT2.out; omega
  have hn1 : 1 < t1.length := by have := HT2.out; omega
  have hm0 : (0 : Int) < (t1.length : Int) := by omega
  have hm1 : (1 : Int) < (t1.length : Int) := by omega
  go_region
  go_wp2
  have hk3 := put3 HK3.out (.int .u64 (rd t1 0)) (.int .u64 (rd t1 1)) (.slice Aq d.length cq)
  have hbw := below_step (below_step (below_alloc (below_alloc (below_alloc (Below.refl w.heap.size w) _) _) _) HB2.out) HB23.out
  have hb3 := below_set (below_set (below_set hbw (g := w.heap.size + 1) (j := 0) (v := .int .u64 (rd t1 0)) (by omega)) (g := w.heap.size + 1) (j := 1) (v := .int .u64 (rd t1 1)) (by omega)) (g := w.heap.size + 1) (j := 2) (v := .slice Aq d.length cq) (by omega)
  have hf0 : Kd.F (Kd.int .u8) w3 (Young (w.heap.size + 3) w3) Aq d.length d := F_young HFQ.out HB23.out (by simp)
  have hf3 := F_young_set (F_young_set (F_young_set hf0 (p := ⟨w.heap.size + 1, 0, none⟩) (by simp) (.int .u64 (rd t1 0))) (p := ⟨w.heap.size + 1, 1, none⟩) (by simp) (.int .u64 (rd t1 1))) (p := ⟨w.heap.size + 1, 2, none⟩) (by simp) (.slice Aq d.length cq)
  generalize hW3 : ((w3.setCell ⟨w.heap.size + 1, 0, none⟩ (.int .u64 (rd t1 0))).setCell ⟨w.heap.size + 1, 1, none⟩ (.int .u64 (rd t1 1))).setCell ⟨w.heap.size + 1, 2, none⟩ (.slice Aq d.length cq) = W3 at hk3 hb3 hf3 ⊢
  have c0 := blk_cell hk3 0
  have c1 := blk_cell hk3 1
  have c2 := blk_cell hk3 2
  refine bodyPost_ret (v := .tuple #[.agg #[.int .u64 (rd t1 0), .int .u64 (rd t1 1), .slice Aq d.length cq], .int .i64 e0]) ?_ rfl ⟨Aq, cq, rfl, HQ.out, F_young hf3 (below_drew (Below.refl _ _)) (by omega), below_drew hb3⟩
  simp [results, Try.results52, go_sem, c0, c1, c2]

theorem part_any (a0 size a2 a3 : Int) (h1 : 1 ≤ size) (h2 : size ≤ 32) (A1 : Option Addr) (c1 : Nat) (l1 : List Int) (x y : Int) (d : List Int) (e0 : Int) (w : World) (hr1 : Kd.C (Kd.int .u8) w A1 l1.length l1) (hc1 : l1.length ≤ c1) (h : partR size l1 = some (x, y, d, e0)) :
    Calls Try.prog 52 #[.agg #[.int .i64 a0, .int .i64 size, .int .i64 a2, .int .i64 a3], .slice A1 l1.length c1] w fun e w' => ∃ A c, e = .returned (.tuple #[.agg #[.int .u64 x, .int .u64 y, .slice A d.length c], .int .i64 e0]) ∧ d.length ≤ c ∧ Kd.F (Kd.int .u8) w' (Young w.heap.size w') A d.length d ∧ Below w.heap.size w w' := by
  by_cases hl : (l1.length : Int) = 8 + size
  · exact part_long a0 size a2 a3 h1 h2 A1 c1 l1 x y d e0 w hr1 hc1 hl h
  · rw [partR, if_neg hl] at h
    simp only [Option.some.injEq, Prod.mk.injEq] at h
    obtain ⟨rfl, rfl, rfl, rfl⟩ := h
    exact (part_short a0 size a2 a3 h1 h2 A1 c1 l1 w hr1 hc1 hl).mono fun e w' ⟨he, hb⟩ => ⟨none, 0, he, Nat.le_refl _, Kd.F_nil _ _ _, hb⟩

/-! ### slot.Read -/
def slot_Read.f (a0_0 a0_1 a0_2 a0_3 : Int) (l1 : List Int) : Option (Int × Int × List Int × Bool × Int) :=
  (slot_Slots.f 20 a0_0 a0_1 a0_2 a0_3).bind fun s => if s.2 = 0 then
    (if 1 ≤ a0_1 ∧ a0_1 ≤ 32 then
      (partR a0_1 l1).bind fun p => if p.2.2.2 = 0 then
        (if noneR p.1 p.2.1 p.2.2.1 = true then some (0, 0, [], false, 0) else
          (slot_Check.f 20 a0_0 a0_1 a0_2 a0_3 (wrap64 (wrap64 p.1 - 1)) (wrap64 p.2.1) p.2.2.1).bind fun e => if e = 0 then some (wrap64 (wrap64 p.1 - 1), wrap64 p.2.1, p.2.2.1, true, 0) else some (0, 0, [], false, e))
        else some (0, 0, [], false, p.2.2.2)
    else none)
  else some (0, 0, [], false, s.2)

theorem box4 {W : World} {b t : Nat} {x y z u : Value} (h : W.heap[b]? = some (.cells #[x, y, z, u] t (0, 0))) :
    W.cell? ⟨b, 0, none⟩ = some x ∧ W.cell? ⟨b, 1, none⟩ = some y ∧ W.cell? ⟨b, 2, none⟩ = some z ∧ W.cell? ⟨b, 3, none⟩ = some u := ⟨blk_cell h 0, blk_cell h 1, blk_cell h 2, blk_cell h 3⟩
theorem box3 {W : World} {b t : Nat} {x y z : Value} (h : W.heap[b]? = some (.cells #[x, y, z] t (0, 0))) :
    (W.cell? ⟨b, 0, none⟩ = some x ∧ W.cell? ⟨b, 1, none⟩ = some y ∧ W.cell? ⟨b, 2, none⟩ = some z) ∧ W.frozen? ⟨b, 0, none⟩ = false ∧ W.frozen? ⟨b, 1, none⟩ = false ∧ W.frozen? ⟨b, 2, none⟩ = false :=
  ⟨⟨blk_cell h 0, blk_cell h 1, blk_cell h 2⟩, blk_frozen h 0, blk_frozen h 1, blk_frozen h 2⟩
theorem heap_two (w : World) (a b : Obj) : ((w.alloc a).alloc b).heap[w.heap.size]? = some a ∧ ((w.alloc a).alloc b).heap[w.heap.size + 1]? = some b := by
  have h0 := heap_alloc_new w a
  have h1 := heap_alloc_new (w.alloc a) b
  rw [World.size_alloc] at h1
  exact ⟨blk_alloc h0 b, h1⟩
/-- Three cells of an own block written over: what is told of old memory stays. -/
theorem put3_all {w W : World} {b t : Nat} {x y z : Value} (h : W.heap[b]? = some (.cells #[x, y, z] t (0, 0))) (hb : Below w.heap.size w W) (hle : w.heap.size ≤ b) (u v r : Value) (W3 : World) (hW3 : ((W.setCell ⟨b, 0, none⟩ u).setCell ⟨b, 1, none⟩ v).setCell ⟨b, 2, none⟩ r = W3) :
    W3.heap[b]? = some (.cells #[u, v, r] t (0, 0)) ∧ Below w.heap.size w W3 ∧ (∀ k, k ≠ b → W3.heap[k]? = W.heap[k]?) ∧ W3.heap.size = W.heap.size := by
  subst hW3
  refine ⟨put3 h u v r, below_set (below_set (below_set hb hle) hle) hle, fun k hk => ?_, by simp⟩
  rw [Below.heap_setCell _ _ _ k (by exact hk), Below.heap_setCell _ _ _ k (by exact hk), Below.heap_setCell _ _ _ k (by exact hk)]

set_option maxHeartbeats 4000000 in
set_option maxRecDepth 100000 in
theorem read_bad (a0 size a2 a3 : Int) (A1 : Option Addr) (c1 : Nat) (l1 : List Int) (s e0 : Int) (w : World) (h : slot_Slots.f 20 a0 size a2 a3 = some (s, e0)) (he : ¬ e0 = 0) :
    Calls Try.prog 31 #[.agg #[.int .i64 a0, .int .i64 size, .int .i64 a2, .int .i64 a3], .slice A1 l1.length c1] w fun e w' => e = .returned (.tuple #[.agg #[.int .i64 0, .int .i64 0, .slice none 0 0], .bool false, .int .i64 e0]) ∧ Below w.heap.size w w' := by
  have H := Aside0.mk h
  have hq : (e0 != 0) = true := by simpa using he
  clear h he
  go_enter Try.func31, Try.ntmps31
  go_wp2_with (go_at_call 20; go_loud (refine (slot_Slots.calls 20 _ _ _ _ _ _ _ H.out).mono ?_; rintro e w2 ⟨rfl, hb2⟩; have hk := blk_below (heap_two w _ _).2 hb2; obtain ⟨⟨c0, c1, c2⟩, f0, f1, f2⟩ := box3 hk; have HK := Aside0.mk hk; have HB2 := Aside0.mk (below_step (below_alloc (below_alloc (Below.refl w.heap.size w) _) _) hb2); clear hk hb2))
  generalize hW3 : ((w2.setCell ⟨w.heap.size + 1, 0, none⟩ (.int .i64 0)).setCell ⟨w.heap.size + 1, 1, none⟩ (.int .i64 0)).setCell ⟨w.heap.size + 1, 2, none⟩ (.slice none 0 0) = W3
  obtain ⟨hk3, hb3, _, _⟩ := put3_all HK.out HB2.out (by omega) _ _ _ _ hW3
  obtain ⟨⟨c0, c1, c2⟩, _⟩ := box3 hk3
  refine bodyPost_ret (v := .tuple #[.agg #[.int .i64 0, .int .i64 0, .slice none 0 0], .bool false, .int .i64 e0]) ?_ rfl ⟨rfl, hb3⟩
  simp [results, Try.results31, go_sem, c0, c1, c2]

set_option maxHeartbeats 4000000 in
set_option maxRecDepth 100000 in
theorem read_err (a0 size a2 a3 : Int) (A1 : Option Addr) (c1 : Nat) (l1 : List Int) (s x y : Int) (d : List Int) (e0 : Int) (w : World) (hr1 : Kd.C (Kd.int .u8) w A1 l1.length l1) (hc1 : l1.length ≤ c1) (hs : slot_Slots.f 20 a0 size a2 a3 = some (s, 0)) (h1 : 1 ≤ size) (h2 : size ≤ 32) (hp : partR size l1 = some (x, y, d, e0)) (he : ¬ e0 = 0) :
    Calls Try.prog 31 #[.agg #[.int .i64 a0, .int .i64 size, .int .i64 a2, .int .i64 a3], .slice A1 l1.length c1] w fun e w' => e = .returned (.tuple #[.agg #[.int .i64 0, .int .i64 0, .slice none 0 0], .bool false, .int .i64 e0]) ∧ Below w.heap.size w w' := by
  have HR1 := Aside0.mk hr1
  have HC1 := Aside0.mk hc1
  have HS := Aside0.mk hs
  have H1 := Aside0.mk h1
  have H2 := Aside0.mk h2
  have HPt := Aside0.mk hp
  have hq : (e0 != 0) = true := by simpa using he
  clear hr1 hc1 hs h1 h2 hp he
  go_enter Try.func31, Try.ntmps31
  go_wp2_with (first | (go_at_call 20; go_loud (refine (slot_Slots.calls 20 _ _ _ _ _ _ _ HS.out).mono ?_; rintro e w2 ⟨rfl, hb2⟩; have hk := blk_below (heap_two w _ _).2 hb2; have hj := blk_below (heap_two w _ _).1 hb2; obtain ⟨⟨c0, c1, c2⟩, f0, f1, f2⟩ := box3 hk; obtain ⟨j0, j1, j2, j3⟩ := box4 hj; have HK := Aside0.mk hk; have HJ := Aside0.mk hj; have HB2 := Aside0.mk (below_step (below_alloc (below_alloc (Below.refl w.heap.size w) _) _) hb2); have HZ2 := Aside0.mk (show w.heap.size + 2 ≤ w2.heap.size from by have := hb2.size; simp only [World.size_alloc] at this; omega); clear hk hj hb2)) | (go_at_call 52; go_loud (refine (part_any _ _ _ _ H1.out H2.out _ _ _ _ _ _ _ _ ?s1 HC1.out HPt.out).mono ?_; (case s1 => exact Kd.C_below HR1.out HB2.out); rintro e w3 ⟨A, c, rfl, hdc, hF, hb3⟩; have hk := blk_below HK.out hb3; have hj := blk_below HJ.out hb3; clear c0 c1 c2 f0 f1 f2 j0 j1 j2 j3; obtain ⟨⟨c0, c1, c2⟩, f0, f1, f2⟩ := box3 hk; obtain ⟨j0, j1, j2, j3⟩ := box4 hj; have HK3 := Aside0.mk hk; have HJ3 := Aside0.mk hj; have HDC := Aside0.mk hdc; have HF3 := Aside0.mk hF; have HB3 := Aside0.mk (below_step HB2.out hb3); have hz3 : w.heap.size + 1 < w3.heap.size := (by have := hb3.size; have := HZ2.out; omega); clear hk hj hdc hF hb3)))
  generalize hW3 : ((w3.setCell ⟨w.heap.size + 1, 0, none⟩ (.int .i64 0)).setCell ⟨w.heap.size + 1, 1, none⟩ (.int .i64 0)).setCell ⟨w.heap.size + 1, 2, none⟩ (.slice none 0 0) = W3
  obtain ⟨hk3, hb3, _, _⟩ := put3_all HK3.out HB3.out (by omega) _ _ _ _ hW3
  obtain ⟨⟨c0, c1, c2⟩, _⟩ := box3 (blk_alloc hk3 (.cells #[.int .u64 x, .int .u64 y, .slice A d.length c] 83))
  refine bodyPost_ret (v := .tuple #[.agg #[.int .i64 0, .int .i64 0, .slice none 0 0], .bool false, .int .i64 e0]) ?_ rfl ⟨rfl, below_alloc hb3 _⟩
  simp [results, Try.results31, go_sem, c0, c1, c2]

set_option maxHeartbeats 4000000 in
set_option maxRecDepth 100000 in
theorem read_none (a0 size a2 a3 : Int) (A1 : Option Addr) (c1 : Nat) (l1 : List Int) (s x y : Int) (d : List Int) (w : World) (hr1 : Kd.C (Kd.int .u8) w A1 l1.length l1) (hc1 : l1.length ≤ c1) (hs : slot_Slots.f 20 a0 size a2 a3 = some (s, 0)) (h1 : 1 ≤ size) (h2 : size ≤ 32) (hp : partR size l1 = some (x, y, d, 0)) (hn : noneR x y d = true) :
    Calls Try.prog 31 #[.agg #[.int .i64 a0, .int .i64 size, .int .i64 a2, .int .i64 a3], .slice A1 l1.length c1] w fun e w' => e = .returned (.tuple #[.agg #[.int .i64 0, .int .i64 0, .slice none 0 0], .bool false, .int .i64 0]) ∧ Below w.heap.size w w' := by
  have HR1 := Aside0.mk hr1
  have HC1 := Aside0.mk hc1
  have HS := Aside0.mk hs
  have H1 := Aside0.mk h1
  have H2 := Aside0.mk h2
  have HPt := Aside0.mk hp
  have HN := Aside0.mk hn
  clear hr1 hc1 hs h1 h2 hp hn
  have hmf : ∀ (fn : Fn) (first cap : Array Value) (w : World), (Instr.makeFunc fn first cap).run Try.prog w = .ok (.func fn first cap) w := fun _ _ _ _ => rfl
  go_enter Try.func31, Try.ntmps31
  go_wp2_with (first | (go_at_call 20; go_loud (refine (slot_Slots.calls 20 _ _ _ _ _ _ _ HS.out).mono ?_; rintro e w2 ⟨rfl, hb2⟩; have hk := blk_below (heap_two w _ _).2 hb2; have hj := blk_below (heap_two w _ _).1 hb2; obtain ⟨⟨c0, c1, c2⟩, f0, f1, f2⟩ := box3 hk; obtain ⟨j0, j1, j2, j3⟩ := box4 hj; have HK := Aside0.mk hk; have HJ := Aside0.mk hj; have HB2 := Aside0.mk (below_step (below_alloc (below_alloc (Below.refl w.heap.size w) _) _) hb2); have HZ2 := Aside0.mk (show w.heap.size + 2 ≤ w2.heap.size from by have := hb2.size; simp only [World.size_alloc] at this; omega); clear hk hj hb2)) | (go_at_call 52; go_loud (refine (part_any _ _ _ _ H1.out H2.out _ _ _ _ _ _ _ _ ?s1 HC1.out HPt.out).mono ?_; (case s1 => exact Kd.C_below HR1.out HB2.out); rintro e w3 ⟨A, c, rfl, hdc, hF, hb3⟩; have hk := blk_below HK.out hb3; have hj := blk_below HJ.out hb3; clear c0 c1 c2 f0 f1 f2 j0 j1 j2 j3; obtain ⟨⟨c0, c1, c2⟩, f0, f1, f2⟩ := box3 hk; obtain ⟨j0, j1, j2, j3⟩ := box4 hj; have HK3 := Aside0.mk hk; have HJ3 := Aside0.mk hj; have HDC := Aside0.mk hdc; have HF3 := Aside0.mk hF; have HB3 := Aside0.mk (below_step HB2.out hb3); have hz3 : w.heap.size + 1 < w3.heap.size := (by have := hb3.size; have := HZ2.out; omega); clear hk hj hdc hF hb3)) | (go_at_call 53; go_loud (refine (slot_none_calls _ _ _ _ _ _ ?n1).mono ?_; (case n1 => exact Kd.C_alloc (Kd.F_now HF3.out) _); rintro e w4 ⟨rfl, hb4⟩; rw [HN.out]; have hk := blk_below (blk_alloc HK3.out _) hb4; have hj := blk_below (blk_alloc HJ3.out _) hb4; have hs := blk_below (blk_new w3 _) hb4; clear c0 c1 c2 f0 f1 f2 j0 j1 j2 j3; obtain ⟨⟨c0, c1, c2⟩, f0, f1, f2⟩ := box3 hk; obtain ⟨j0, j1, j2, j3⟩ := box4 hj; obtain ⟨⟨s0, s1, s2⟩, _⟩ := box3 hs; have HK4 := Aside0.mk hk; have HJ4 := Aside0.mk hj; have HF4 := Aside0.mk (F_young (base' := w.heap.size + 2) HF3.out (below_step (below_alloc (Below.refl _ w3) _) hb4) HZ2.out); have HB4 := Aside0.mk (below_step (below_alloc HB3.out _) hb4); clear hk hj hs hb4)))
  generalize hW3 : ((w4.setCell ⟨w.heap.size + 1, 0, none⟩ (.int .i64 0)).setCell ⟨w.heap.size + 1, 1, none⟩ (.int .i64 0)).setCell ⟨w.heap.size + 1, 2, none⟩ (.slice none 0 0) = W3
  obtain ⟨hk3, hb3, _, _⟩ := put3_all HK4.out HB4.out (by omega) _ _ _ _ hW3
  obtain ⟨⟨c0, c1, c2⟩, _⟩ := box3 hk3
  refine bodyPost_ret (v := .tuple #[.agg #[.int .i64 0, .int .i64 0, .slice none 0 0], .bool false, .int .i64 0]) ?_ rfl ⟨rfl, hb3⟩
  simp [results, Try.results31, go_sem, c0, c1, c2]

set_option maxHeartbeats 4000000 in
set_option maxRecDepth 100000 in
theorem read_yes (a0 size a2 a3 : Int) (A1 : Option Addr) (c1 : Nat) (l1 : List Int) (s x y : Int) (d : List Int) (w : World) (hr1 : Kd.C (Kd.int .u8) w A1 l1.length l1) (hc1 : l1.length ≤ c1) (hs : slot_Slots.f 20 a0 size a2 a3 = some (s, 0)) (h1 : 1 ≤ size) (h2 : size ≤ 32) (hp : partR size l1 = some (x, y, d, 0)) (hn : noneR x y d = false) (hc : slot_Check.f 20 a0 size a2 a3 (wrap64 (wrap64 x - 1)) (wrap64 y) d = some 0) :
    Calls Try.prog 31 #[.agg #[.int .i64 a0, .int .i64 size, .int .i64 a2, .int .i64 a3], .slice A1 l1.length c1] w fun e w' => ∃ A c, e = .returned (.tuple #[.agg #[.int .i64 (wrap64 (wrap64 x - 1)), .int .i64 (wrap64 y), .slice A d.length c], .bool true, .int .i64 0]) ∧ d.length ≤ c ∧ Kd.F (Kd.int .u8) w' (Young w.heap.size w') A d.length d ∧ Below w.heap.size w w' := by
  have HR1 := Aside0.mk hr1
  have HC1 := Aside0.mk hc1
  have HS := Aside0.mk hs
  have H1 := Aside0.mk h1
  have H2 := Aside0.mk h2
  have HPt := Aside0.mk hp
  have HN := Aside0.mk hn
  have HChk := Aside0.mk hc
  clear hr1 hc1 hs h1 h2 hp hn hc
  have hmf : ∀ (fn : Fn) (first cap : Array Value) (w : World), (Instr.makeFunc fn first cap).run Try.prog w = .ok (.func fn first cap) w := fun _ _ _ _ => rfl
  go_enter Try.func31, Try.ntmps31
  go_wp2_with (first | (go_at_call 20; go_loud (refine (slot_Slots.calls 20 _ _ _ _ _ _ _ HS.out).mono ?_; rintro e w2 ⟨rfl, hb2⟩; have hk := blk_below (heap_two w _ _).2 hb2; have hj := blk_below (heap_two w _ _).1 hb2; obtain ⟨⟨c0, c1, c2⟩, f0, f1, f2⟩ := box3 hk; obtain ⟨j0, j1, j2, j3⟩ := box4 hj; have HK := Aside0.mk hk; have HJ := Aside0.mk hj; have HB2 := Aside0.mk (below_step (below_alloc (below_alloc (Below.refl w.heap.size w) _) _) hb2); have HZ2 := Aside0.mk (show w.heap.size + 2 ≤ w2.heap.size from by have := hb2.size; simp only [World.size_alloc] at this; omega); clear hk hj hb2)) | (go_at_call 52; go_loud (refine (part_any _ _ _ _ H1.out H2.out _ _ _ _ _ _ _ _ ?s1 HC1.out HPt.out).mono ?_; (case s1 => exact Kd.C_below HR1.out HB2.out); rintro e w3 ⟨A, c, rfl, hdc, hF, hb3⟩; have hk := blk_below HK.out hb3; have hj := blk_below HJ.out hb3; clear c0 c1 c2 f0 f1 f2 j0 j1 j2 j3; obtain ⟨⟨c0, c1, c2⟩, f0, f1, f2⟩ := box3 hk; obtain ⟨j0, j1, j2, j3⟩ := box4 hj; have HK3 := Aside0.mk hk; have HJ3 := Aside0.mk hj; have HDC := Aside0.mk hdc; have HF3 := Aside0.mk hF; have HB3 := Aside0.mk (below_step HB2.out hb3); have hz3 : w.heap.size + 1 < w3.heap.size := (by have := hb3.size; have := HZ2.out; omega); clear hk hj hdc hF hb3)) | (go_at_call 53; go_loud (refine (slot_none_calls _ _ _ _ _ _ ?n1).mono ?_; (case n1 => exact Kd.C_alloc (Kd.F_now HF3.out) _); rintro e w4 ⟨rfl, hb4⟩; rw [HN.out]; have hk := blk_below (blk_alloc HK3.out _) hb4; have hj := blk_below (blk_alloc HJ3.out _) hb4; have hs := blk_below (blk_new w3 _) hb4; clear c0 c1 c2 f0 f1 f2 j0 j1 j2 j3; obtain ⟨⟨c0, c1, c2⟩, f0, f1, f2⟩ := box3 hk; obtain ⟨j0, j1, j2, j3⟩ := box4 hj; obtain ⟨⟨s0, s1, s2⟩, _⟩ := box3 hs; have HK4 := Aside0.mk hk; have HJ4 := Aside0.mk hj; have HF4 := Aside0.mk (F_young (base' := w.heap.size + 2) HF3.out (below_step (below_alloc (Below.refl _ w3) _) hb4) HZ2.out); have HB4 := Aside0.mk (below_step (below_alloc HB3.out _) hb4); clear hk hj hs hb4)) | (go_at_call 27; go_loud (refine (slot_Check.calls 20 _ _ _ _ _ _ _ _ _ _ _ ?k1 HDC.out HChk.out).mono ?_; (case k1 => exact Kd.F_now (F_young_set (F_young_set (F_young_set HF4.out (by simp) _) (by simp) _) (by simp) _)); rintro e w5 ⟨rfl, hb5⟩; have hk := blk_below (put3 HK4.out _ _ _) hb5; clear c0 c1 c2 f0 f1 f2 j0 j1 j2 j3 s0 s1 s2; obtain ⟨⟨c0, c1, c2⟩, f0, f1, f2⟩ := box3 hk; have HK5 := Aside0.mk hk; have HF5 := Aside0.mk (F_young (base' := w.heap.size + 2) (F_young_set (F_young_set (F_young_set HF4.out (p := ⟨w.heap.size + 1, 0, none⟩) (by simp) _) (p := ⟨w.heap.size + 1, 1, none⟩) (by simp) _) (p := ⟨w.heap.size + 1, 2, none⟩) (by simp) _) hb5 (Nat.le_refl _)); have HB5 := Aside0.mk (below_step (below_set (below_set (below_set HB4.out (g := w.heap.size + 1) (j := 0) (by omega)) (g := w.heap.size + 1) (j := 1) (by omega)) (g := w.heap.size + 1) (j := 2) (by omega)) hb5); clear hk hb5)))
  generalize hW3 : ((w5.setCell ⟨w.heap.size + 1, 0, none⟩ (.int .i64 (wrap64 (wrap64 x - 1)))).setCell ⟨w.heap.size + 1, 1, none⟩ (.int .i64 (wrap64 y))).setCell ⟨w.heap.size + 1, 2, none⟩ (.slice A d.length c) = W3
  obtain ⟨hk3, hb3, _, _⟩ := put3_all HK5.out HB5.out (by omega) _ _ _ _ hW3
  have hf3 := F_young_set (F_young_set (F_young_set HF5.out (p := ⟨w.heap.size + 1, 0, none⟩) (by simp) (.int .i64 (wrap64 (wrap64 x - 1)))) (p := ⟨w.heap.size + 1, 1, none⟩) (by simp) (.int .i64 (wrap64 y))) (p := ⟨w.heap.size + 1, 2, none⟩) (by simp) (.slice A d.length c)
  rw [hW3] at hf3
  obtain ⟨⟨c0, c1, c2⟩, _⟩ := box3 hk3
  refine bodyPost_ret (v := .tuple #[.agg #[.int .i64 (wrap64 (wrap64 x - 1)), .int .i64 (wrap64 y), .slice A d.length c], .bool true, .int .i64 0]) ?_ rfl ⟨A, c, rfl, HDC.out, F_young hf3 (Below.refl _ _) (by omega), hb3⟩
  simp [results, Try.results31, go_sem, c0, c1, c2]

set_option maxHeartbeats 4000000 in
set_option maxRecDepth 100000 in
theorem read_no (a0 size a2 a3 : Int) (A1 : Option Addr) (c1 : Nat) (l1 : List Int) (s x y : Int) (d : List Int) (e5 : Int) (w : World) (hr1 : Kd.C (Kd.int .u8) w A1 l1.length l1) (hc1 : l1.length ≤ c1) (hs : slot_Slots.f 20 a0 size a2 a3 = some (s, 0)) (h1 : 1 ≤ size) (h2 : size ≤ 32) (hp : partR size l1 = some (x, y, d, 0)) (hn : noneR x y d = false) (hc : slot_Check.f 20 a0 size a2 a3 (wrap64 (wrap64 x - 1)) (wrap64 y) d = some e5) (he : ¬ e5 = 0) :
    Calls Try.prog 31 #[.agg #[.int .i64 a0, .int .i64 size, .int .i64 a2, .int .i64 a3], .slice A1 l1.length c1] w fun e w' => e = .returned (.tuple #[.agg #[.int .i64 0, .int .i64 0, .slice none 0 0], .bool false, .int .i64 e5]) ∧ Below w.heap.size w w' := by
  have HR1 := Aside0.mk hr1
  have HC1 := Aside0.mk hc1
  have HS := Aside0.mk hs
  have H1 := Aside0.mk h1
  have H2 := Aside0.mk h2
  have HPt := Aside0.mk hp
  have HN := Aside0.mk hn
  have HChk := Aside0.mk hc
  have hq : (e5 != 0) = true := by simpa using he
  clear he
  clear hr1 hc1 hs h1 h2 hp hn hc
  have hmf : ∀ (fn : Fn) (first cap : Array Value) (w : World), (Instr.makeFunc fn first cap).run Try.prog w = .ok (.func fn first cap) w := fun _ _ _ _ => rfl
  go_enter Try.func31, Try.ntmps31
  go_wp2_with (first | (go_at_call 20; go_loud (refine (slot_Slots.calls 20 _ _ _ _ _ _ _ HS.out).mono ?_; rintro e w2 ⟨rfl, hb2⟩; have hk := blk_below (heap_two w _ _).2 hb2; have hj := blk_below (heap_two w _ _).1 hb2; obtain ⟨⟨c0, c1, c2⟩, f0, f1, f2⟩ := box3 hk; obtain ⟨j0, j1, j2, j3⟩ := box4 hj; have HK := Aside0.mk hk; have HJ := Aside0.mk hj; have HB2 := Aside0.mk (below_step (below_alloc (below_alloc (Below.refl w.heap.size w) _) _) hb2); have HZ2 := Aside0.mk (show w.heap.size + 2 ≤ w2.heap.size from by have := hb2.size; simp only [World.size_alloc] at this; omega); clear hk hj hb2)) | (go_at_call 52; go_loud (refine (part_any _ _ _ _ H1.out H2.out _ _ _ _ _ _ _ _ ?s1 HC1.out HPt.out).mono ?_; (case s1 => exact Kd.C_below HR1.out HB2.out); rintro e w3 ⟨A, c, rfl, hdc, hF, hb3⟩; have hk := blk_below HK.out hb3; have hj := blk_below HJ.out hb3; clear c0 c1 c2 f0 f1 f2 j0 j1 j2 j3; obtain ⟨⟨c0, c1, c2⟩, f0, f1, f2⟩ := box3 hk; obtain ⟨j0, j1, j2, j3⟩ := box4 hj; have HK3 := Aside0.mk hk; have HJ3 := Aside0.mk hj; have HDC := Aside0.mk hdc; have HF3 := Aside0.mk hF; have HB3 := Aside0.mk (below_step HB2.out hb3); have hz3 : w.heap.size + 1 < w3.heap.size := (by have := hb3.size; have := HZ2.out; omega); clear hk hj hdc hF hb3)) | (go_at_call 53; go_loud (refine (slot_none_calls _ _ _ _ _ _ ?n1).mono ?_; (case n1 => exact Kd.C_alloc (Kd.F_now HF3.out) _); rintro e w4 ⟨rfl, hb4⟩; rw [HN.out]; have hk := blk_below (blk_alloc HK3.out _) hb4; have hj := blk_below (blk_alloc HJ3.out _) hb4; have hs := blk_below (blk_new w3 _) hb4; clear c0 c1 c2 f0 f1 f2 j0 j1 j2 j3; obtain ⟨⟨c0, c1, c2⟩, f0, f1, f2⟩ := box3 hk; obtain ⟨j0, j1, j2, j3⟩ := box4 hj; obtain ⟨⟨s0, s1, s2⟩, _⟩ := box3 hs; have HK4 := Aside0.mk hk; have HJ4 := Aside0.mk hj; have HF4 := Aside0.mk (F_young (base' := w.heap.size + 2) HF3.out (below_step (below_alloc (Below.refl _ w3) _) hb4) HZ2.out); have HB4 := Aside0.mk (below_step (below_alloc HB3.out _) hb4); clear hk hj hs hb4)) | (go_at_call 27; go_loud (refine (slot_Check.calls 20 _ _ _ _ _ _ _ _ _ _ _ ?k1 HDC.out HChk.out).mono ?_; (case k1 => exact Kd.F_now (F_young_set (F_young_set (F_young_set HF4.out (by simp) _) (by simp) _) (by simp) _)); rintro e w5 ⟨rfl, hb5⟩; have hk := blk_below (put3 HK4.out _ _ _) hb5; clear c0 c1 c2 f0 f1 f2 j0 j1 j2 j3 s0 s1 s2; obtain ⟨⟨c0, c1, c2⟩, f0, f1, f2⟩ := box3 hk; have HK5 := Aside0.mk hk; have HF5 := Aside0.mk (F_young (base' := w.heap.size + 2) (F_young_set (F_young_set (F_young_set HF4.out (p := ⟨w.heap.size + 1, 0, none⟩) (by simp) _) (p := ⟨w.heap.size + 1, 1, none⟩) (by simp) _) (p := ⟨w.heap.size + 1, 2, none⟩) (by simp) _) hb5 (Nat.le_refl _)); have HB5 := Aside0.mk (below_step (below_set (below_set (below_set HB4.out (g := w.heap.size + 1) (j := 0) (by omega)) (g := w.heap.size + 1) (j := 1) (by omega)) (g := w.heap.size + 1) (j := 2) (by omega)) hb5); clear hk hb5)))
  generalize hW3 : ((w5.setCell ⟨w.heap.size + 1, 0, none⟩ (.int .i64 0)).setCell ⟨w.heap.size + 1, 1, none⟩ (.int .i64 0)).setCell ⟨w.heap.size + 1, 2, none⟩ (.slice none 0 0) = W3
  obtain ⟨hk3, hb3, _, _⟩ := put3_all HK5.out HB5.out (by omega) _ _ _ _ hW3
  obtain ⟨⟨c0, c1, c2⟩, _⟩ := box3 hk3
  refine bodyPost_ret (v := .tuple #[.agg #[.int .i64 0, .int .i64 0, .slice none 0 0], .bool false, .int .i64 e5]) ?_ rfl ⟨rfl, hb3⟩
  simp [results, Try.results31, go_sem, c0, c1, c2]

/-- slot.Read: what it answers; the bytes lie in memory of the call's own that nothing froze. -/
theorem slot_Read.calls2 (a0_0 a0_1 a0_2 a0_3 : Int) (A1 : Option Addr) (c1 : Nat) (l1 : List Int) (r1 r2 : Int) (r3 : List Int) (r4 : Bool) (r5 : Int) (w : World) (hr1 : Kd.C (Kd.int .u8) w A1 l1.length l1) (hc1 : l1.length ≤ c1) (h : slot_Read.f a0_0 a0_1 a0_2 a0_3 l1 = some (r1, r2, r3, r4, r5)) :
    Calls Try.prog 31 #[.agg #[.int .i64 a0_0, .int .i64 a0_1, .int .i64 a0_2, .int .i64 a0_3], .slice A1 l1.length c1] w fun e w' => ∃ v2_ : Value, e = .returned (.tuple #[.agg #[.int .i64 r1, .int .i64 r2, v2_], .bool r4, .int .i64 r5]) ∧ Kd.V (Kd.int .u8) 5 w' w.heap.size (Young w.heap.size w') v2_ r3 ∧ Below w.heap.size w w' := by
  unfold slot_Read.f at h
  obtain ⟨⟨s, e0⟩, hs, h⟩ := Option.bind_eq_some_iff.1 h
  simp only at h
  by_cases he : e0 = 0
  · subst he
    rw [if_pos rfl] at h
    by_cases hsz : 1 ≤ a0_1 ∧ a0_1 ≤ 32
    · rw [if_pos hsz] at h
      obtain ⟨⟨x, y, d, e1⟩, hp, h⟩ := Option.bind_eq_some_iff.1 h
      simp only at h
      by_cases he1 : e1 = 0
      · subst he1
        rw [if_pos rfl] at h
        cases hn : noneR x y d with
        | true =>
          rw [hn, if_pos rfl] at h
          simp only [Option.some.injEq, Prod.mk.injEq] at h
          obtain ⟨rfl, rfl, rfl, rfl, rfl⟩ := h
          exact (read_none a0_0 a0_1 a0_2 a0_3 A1 c1 l1 s x y d w hr1 hc1 hs hsz.1 hsz.2 hp hn).mono fun e w' ⟨he, hb⟩ => ⟨_, he, Kd.V_nil _ _ _ _ _, hb⟩
        | false =>
          rw [hn, if_neg (by decide)] at h
          obtain ⟨e5, hc, h⟩ := Option.bind_eq_some_iff.1 h
          by_cases he5 : e5 = 0
          · subst he5
            rw [if_pos rfl] at h
            simp only [Option.some.injEq, Prod.mk.injEq] at h
            obtain ⟨rfl, rfl, rfl, rfl, rfl⟩ := h
            exact (read_yes a0_0 a0_1 a0_2 a0_3 A1 c1 l1 s x y d w hr1 hc1 hs hsz.1 hsz.2 hp hn hc).mono fun e w' ⟨A, c, he, hl, hf, hb⟩ => ⟨_, he, Kd.V_mk hl hf, hb⟩
          · rw [if_neg he5] at h
            simp only [Option.some.injEq, Prod.mk.injEq] at h
            obtain ⟨rfl, rfl, rfl, rfl, rfl⟩ := h
            exact (read_no a0_0 a0_1 a0_2 a0_3 A1 c1 l1 s x y d _ w hr1 hc1 hs hsz.1 hsz.2 hp hn hc he5).mono fun e w' ⟨he, hb⟩ => ⟨_, he, Kd.V_nil _ _ _ _ _, hb⟩
      · rw [if_neg he1] at h
        simp only [Option.some.injEq, Prod.mk.injEq] at h
        obtain ⟨rfl, rfl, rfl, rfl, rfl⟩ := h
        exact (read_err a0_0 a0_1 a0_2 a0_3 A1 c1 l1 s x y d _ w hr1 hc1 hs hsz.1 hsz.2 hp he1).mono fun e w' ⟨he, hb⟩ => ⟨_, he, Kd.V_nil _ _ _ _ _, hb⟩
    · rw [if_neg hsz] at h; cases h
  · rw [if_neg he] at h
    simp only [Option.some.injEq, Prod.mk.injEq] at h
    obtain ⟨rfl, rfl, rfl, rfl, rfl⟩ := h
    exact (read_bad a0_0 a0_1 a0_2 a0_3 A1 c1 l1 s _ w hs he).mono fun e w' ⟨he, hb⟩ => ⟨_, he, Kd.V_nil _ _ _ _ _, hb⟩

theorem slot_Read.calls (a0_0 a0_1 a0_2 a0_3 : Int) (A1 : Option Addr) (c1 : Nat) (l1 : List Int) (r1 r2 : Int) (r3 : List Int) (r4 : Bool) (r5 : Int) (w : World) (hr1 : Kd.C (Kd.int .u8) w A1 l1.length l1) (hc1 : l1.length ≤ c1) (h : slot_Read.f a0_0 a0_1 a0_2 a0_3 l1 = some (r1, r2, r3, r4, r5)) :
    Calls Try.prog 31 #[.agg #[.int .i64 a0_0, .int .i64 a0_1, .int .i64 a0_2, .int .i64 a0_3], .slice A1 l1.length c1] w fun e w' => ∃ v2_ : Value, e = .returned (.tuple #[.agg #[.int .i64 r1, .int .i64 r2, v2_], .bool r4, .int .i64 r5]) ∧ Kd.V (Kd.int .u8) 5 w' w.heap.size (fun k_ => w.heap.size ≤ k_) v2_ r3 ∧ Below w.heap.size w w' :=
  (slot_Read.calls2 a0_0 a0_1 a0_2 a0_3 A1 c1 l1 r1 r2 r3 r4 r5 w hr1 hc1 h).mono fun e w' ⟨v, he, hv, hb⟩ => ⟨v, he, Kd.V_mono hv (fun _ hk => hk.1), hb⟩

/-! ### slot.Write -/
def slot_Write.f (a0_0 a0_1 a0_2 a0_3 a1_0 a1_1 : Int) (l1_2 : List Int) : Option (List Int × Int) :=
  (slot_Check.f 20 a0_0 a0_1 a0_2 a0_3 a1_0 a1_1 l1_2).bind fun e => if e = 0 then
    (num_Put.f 60 [IntKind.u64.wrap (IntKind.u64.wrap a1_0 + 1), IntKind.u64.wrap a1_1] [4, 4]).bind fun t => if t.1.length + l1_2.length < 140737488355328 then some (t.1 ++ l1_2, t.2) else none
  else some ([], e)

set_option maxHeartbeats 4000000 in
set_option maxRecDepth 100000 in
theorem write_no (a0 a1 a2 a3 b0 b1 : Int) (A1 : Option Addr) (c1 : Nat) (l1 : List Int) (e0 : Int) (w : World) (hr1 : Kd.C (Kd.int .u8) w A1 l1.length l1) (hc1 : l1.length ≤ c1) (h : slot_Check.f 20 a0 a1 a2 a3 b0 b1 l1 = some e0) (he : ¬ e0 = 0) :
    Calls Try.prog 22 #[.agg #[.int .i64 a0, .int .i64 a1, .int .i64 a2, .int .i64 a3], .agg #[.int .i64 b0, .int .i64 b1, .slice A1 l1.length c1]] w fun e w' => e = .returned (.tuple #[.slice none 0 0, .int .i64 e0]) ∧ Below w.heap.size w w' := by
  have HR1 := Aside0.mk hr1
  have HC1 := Aside0.mk hc1
  have H := Aside0.mk h
  have hq : (e0 != 0) = true := by simpa using he
  clear hr1 hc1 h he
  go_enter Try.func22, Try.ntmps22
  go_wp2_with (go_at_call 27; go_loud (refine (slot_Check.calls 20 _ _ _ _ _ _ _ _ _ _ _ ?s1 HC1.out H.out).mono ?_; (case s1 => exact Kd.C_alloc (Kd.C_alloc HR1.out _) _); rintro e w2 ⟨rfl, hb2⟩; have HB2 := Aside0.mk (below_step (below_alloc (below_alloc (Below.refl w.heap.size w) _) _) hb2); clear hb2))
  go_ret2
  exact ⟨rfl, HB2.out⟩

set_option maxHeartbeats 4000000 in
set_option maxRecDepth 100000 in
theorem write_yes (a0 a1 a2 a3 b0 b1 : Int) (A1 : Option Addr) (c1 : Nat) (l1 : List Int) (t1 : List Int) (e0 : Int) (w : World) (hr1 : Kd.C (Kd.int .u8) w A1 l1.length l1) (hc1 : l1.length ≤ c1) (h : slot_Check.f 20 a0 a1 a2 a3 b0 b1 l1 = some 0)
    (hp : num_Put.f 60 [IntKind.u64.wrap (IntKind.u64.wrap b0 + 1), IntKind.u64.wrap b1] [4, 4] = some (t1, e0)) (hl : t1.length + l1.length < 140737488355328) :
    Calls Try.prog 22 #[.agg #[.int .i64 a0, .int .i64 a1, .int .i64 a2, .int .i64 a3], .agg #[.int .i64 b0, .int .i64 b1, .slice A1 l1.length c1]] w fun e w' => ∃ v, e = .returned (.tuple #[v, .int .i64 e0]) ∧ Kd.R (Kd.int .u8) 5 w' w.heap.size (fun _ => True) v (t1 ++ l1) ∧ Below w.heap.size w w' := by
  have HR1 := Aside0.mk hr1
  have HC1 := Aside0.mk hc1
  have H := Aside0.mk h
  have HP := Aside0.mk hp
  have HL := Aside0.mk hl
  clear hr1 hc1 h hp hl
  go_enter Try.func22, Try.ntmps22
  go_wp2_with (go_at_call 27; go_loud (refine (slot_Check.calls 20 _ _ _ _ _ _ _ _ _ _ _ ?s1 HC1.out H.out).mono ?_; (case s1 => exact Kd.C_alloc (Kd.C_alloc HR1.out _) _); rintro e w2 ⟨rfl, hb2⟩; have hk := blk_below (heap_two w _ _).2 hb2; obtain ⟨⟨c0, c1, c2⟩, _⟩ := box3 hk; have HK := Aside0.mk hk; have hz2 : w.heap.size + 1 < w2.heap.size := (by have := hb2.size; simp only [World.size_alloc] at this; omega); have HB2 := Aside0.mk (below_step (below_alloc (below_alloc (Below.refl w.heap.size w) _) _) hb2); clear hb2 hk))
  go_region_with (go_at_call 44; go_loud (refine calls_of_args (show _ = #[.slice _ [IntKind.u64.wrap (IntKind.u64.wrap b0 + 1), IntKind.u64.wrap b1].length 2, .slice _ [(4 : Int), 4].length 2] from by rfl) ?_; refine (num_Put.calls 60 _ _ _ _ _ _ _ _ _ ?p1 (Nat.le_refl _) ?p2 (Nat.le_refl _) HP.out).mono ?_; (case p1 => exact lit_at .u64 _ (by simp) (by simp)); (case p2 => exact Kd.C_alloc (Kd.C_drew (lit_at .i64 [4, 4] (by simp) (by simp))) _); rintro e w3 ⟨v3, rfl, hv3, hb3⟩; obtain ⟨A3, c3, rfl⟩ := Kd.R_slice hv3; have HV3 := Aside0.mk hv3; have hb23 := below_step (below_alloc (below_drew (below_alloc (Below.refl _ w2) _)) _) hb3; have hk := blk_below HK.out hb23; clear c0 c1 c2; obtain ⟨⟨c0, c1, c2⟩, _⟩ := box3 hk; have HB3 := Aside0.mk hb23; clear hv3 hb3 hk hb23))
  all_goals
    go_wp2_with (at_builtin; go_loud (refine Kd.R_append_rows (Kd.int .u8) (w0 := w) w.heap.size rfl (.tmp 30) (.tmp 32) 28 5 (.int .u8 0) 1 rfl Try.underlying28 info5 rfl (by decide) (by omega) (.slice A3 t1.length c3) t1 l1 _ _ _ (fun _ => True) (fun _ => False) rfl rfl ?aO ?aR (fun _ _ h => h) (fun _ h => h.elim) ?aF ?aB ?aS ?aL ?_; (case aO => exact Kd.R_lower HV3.out (Nat.le_trans (below_size HB2.out) (by simp; omega))); (case aR => exact Kd.C_below HR1.out (below_step HB2.out HB3.out)); (case aF => exact fun _ _ => trivial); (case aB => exact below_step HB2.out HB3.out); (case aS => exact below_size (below_step HB2.out HB3.out)); (case aL => have := HL.out; simp; omega); intro v1 w1 hown hb hg hat; have HO := Aside0.mk hown; have HB := Aside0.mk hb; clear hown hb hg hat))
    go_ret2
    exact ⟨_, rfl, HO.out, HB.out⟩

theorem slot_Write.calls (a0_0 a0_1 a0_2 a0_3 a1_0 a1_1 : Int) (A1_2 : Option Addr) (c1_2 : Nat) (l1_2 : List Int) (r1 : List Int) (r2 : Int) (w : World) (hr1_2 : Kd.C (Kd.int .u8) w A1_2 l1_2.length l1_2) (hc1_2 : l1_2.length ≤ c1_2) (h : slot_Write.f a0_0 a0_1 a0_2 a0_3 a1_0 a1_1 l1_2 = some (r1, r2)) :
    Calls Try.prog 22 #[.agg #[.int .i64 a0_0, .int .i64 a0_1, .int .i64 a0_2, .int .i64 a0_3], .agg #[.int .i64 a1_0, .int .i64 a1_1, .slice A1_2 l1_2.length c1_2]] w fun e w' => ∃ v0_ : Value, e = .returned (.tuple #[v0_, .int .i64 r2]) ∧ Kd.R (Kd.int .u8) 5 w' w.heap.size (fun _ => True) v0_ r1 ∧ Below w.heap.size w w' := by
  unfold slot_Write.f at h
  obtain ⟨e, hc, h⟩ := Option.bind_eq_some_iff.1 h
  by_cases he : e = 0
  · subst he
    rw [if_pos rfl] at h
    obtain ⟨⟨t1, t2⟩, hp, h⟩ := Option.bind_eq_some_iff.1 h
    simp only at h
    by_cases hl : t1.length + l1_2.length < 140737488355328
    · rw [if_pos hl] at h
      simp only [Option.some.injEq, Prod.mk.injEq] at h
      obtain ⟨rfl, rfl⟩ := h
      exact write_yes _ _ _ _ _ _ _ _ _ _ _ _ hr1_2 hc1_2 hc hp hl
    · rw [if_neg hl] at h; cases h
  · rw [if_neg he] at h
    simp only [Option.some.injEq, Prod.mk.injEq] at h
    obtain ⟨rfl, rfl⟩ := h
    exact (write_no _ _ _ _ _ _ _ _ _ _ _ hr1_2 hc1_2 hc he).mono fun e w' ⟨he, hb⟩ => ⟨_, he, Kd.R_nil _ _ _ _ _, hb⟩
end Go.Proofs.Ytnnknbbgkjgbcaa
