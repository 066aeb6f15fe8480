/-
law10.spoil: a bucket's blocks written over.
-/
import Derived.Test.YtknmokpnkcckeaaBkCheck
import Derived.Test.YtknmokpnkcckeaaSpoilB
import Derived.Test.YtknmokpnkcckeaaBkTwinP
import Derived.Test.YtknmokpnkcckeaaBkWriteP
import Derived.Test.YtknmokpnkcckeaaBkWrt
import Derived.Test.YtknmokpnkcckeaaBkSame
namespace Go.Proofs.Ytknmokpnkcckeaa
open Go.RowKit Go.Proofs.YtknmokpnkcckeaaW.PrintWords Go.Proofs.YtknmokpnkcckeaaW.PrintLast Go.Proofs.YtknmokpnkcckeaaW.PrintMore Go.Proofs.Ytknmokpnkcckeaa.PAll
set_option linter.unusedVariables false
set_option linter.unusedSimpArgs false

theorem keep_set {W : World} {k : Nat} {o : Obj} (h : W.heap[k]? = some o) {p : Addr} (hp : p.block ≠ k) (v : Value) : (W.setCell p v).heap[k]? = some o := by
  simp only [World.setCell, Array.getElem?_modify]
  simp [hp, h]
theorem SoftB.belowK {W W' : World} {ok : Nat → Prop} {A : Option Addr} {ns : List Nat} (h : SoftB W ok A ns) (hb : Below W.heap.size W W') : SoftB W' ok A ns := by
  intro i m hi
  obtain ⟨a, ha, hok, ⟨z, hz⟩, B, c, h1, h2⟩ := h i m hi
  refine ⟨a, ha, hok, ⟨z, cell_belowK hb hz⟩, B, c, cell_belowK hb h1, fun k hk => ?_⟩
  obtain ⟨b, hb2, hokb, y, hy⟩ := h2 k hk
  exact ⟨b, hb2, hokb, y, cell_belowK hb hy⟩
theorem Soft.below {W W' : World} {ok : Nat → Prop} (h : Soft W ok) (hb : Below W.heap.size W W') : Soft W' ok := by
  intro k hk
  obtain ⟨cs, q, hc⟩ := h k hk
  exact ⟨cs, q, blk_below hc hb⟩
theorem Soft.lt {W : World} {ok : Nat → Prop} (h : Soft W ok) {k : Nat} (hk : ok k) : k < W.heap.size := by
  obtain ⟨cs, q, hc⟩ := h k hk
  exact (Array.getElem?_eq_some_iff.1 hc).1

set_option maxHeartbeats 8000000 in
set_option maxRecDepth 100000 in
theorem spoilBk_calls (ok : Nat → Prop) (base : Nat) (A : Option Addr) (n c : Nat) (L R : List Int) (ns : List Nat) (w : World) (hn : ns.length = n) (hn2 : n ≤ 1000000) (hms : ∀ m ∈ ns, m ≤ 140737488355328) (hS : SoftB w ok A ns) (hF : Soft w ok) (hlow : ∀ k, ok k → base ≤ k) (hbw : base ≤ w.heap.size) :
    Calls Try.prog 26 #[.agg ⟨bkC A n c L R⟩] w fun e w' => e = .returned (.tuple #[]) ∧ (∀ B w0, Below B w0 w → B ≤ base → Below B w0 w') := by
  have HLT : Aside0 (∀ k, ok k → k ≠ w.heap.size) := ⟨fun k hk => Nat.ne_of_lt (hF.lt hk)⟩
  have hba := below_alloc (Below.refl w.heap.size w) (.cells ⟨bkC A n c L R⟩ 40)
  have HN := Aside0.mk hn
  have HMS := Aside0.mk hms
  have HLOW := Aside0.mk hlow
  have HI := Aside0.mk (hS.belowK hba)
  have HF := Aside0.mk (hF.below hba)
  have HB : Aside0 (∀ B w0, Below B w0 w → B ≤ base → Below B w0 (w.alloc (.cells ⟨bkC A n c L R⟩ 40))) := ⟨fun _ _ h hle => h.trans (hba.mono (Nat.le_trans hle hbw))⟩
  have HK := Aside0.mk (heap_alloc_new w (.cells ⟨bkC A n c L R⟩ 40))
  have hn3 : (n : Int) ≤ 1000000 := by omega
  clear hS hn hms hF hlow hba
  go_enter Try.func26, Try.ntmps26
  go_wp2
  generalize w.alloc (.cells ⟨bkC A n c L R⟩ 40) = w1 at HI HF HB HK ⊢
  go_loopw [2] (fun v wr => ∃ i : Nat, v = .int .i64 i ∧ i ≤ n ∧ Aside0 (SoftB wr ok A ns) ∧ Aside0 (Soft wr ok) ∧ Aside0 (∀ B w0, Below B w0 w → B ≤ base → Below B w0 wr) ∧ Aside0 (wr.heap[w.heap.size]? = some (.cells ⟨bkC A n c L R⟩ 40 (0, 0)))) (fun v _ => n - (intOf v).toNat)
  case atStart => exact ⟨0, rfl, by omega, HI, HF, HB, HK⟩
  case round =>
    clear HI HF HB HK
    obtain ⟨i, rfl, hi, HI, HF, HB, HK⟩ := hrel
    have hk0 := bk_cell0 HK.out
    by_cases hlt : i < n
    · have hd1 : decide ((i : Int) < (n : Int)) = true := decide_eq_true (by omega)
      have hlt2 : (i : Int) < (n : Int) := by omega
      have hil : i < ns.length := by rw [HN.out]; exact hlt
      obtain ⟨a, rfl, hoka, ⟨z, hz⟩, B, cc, hcell, hin⟩ := HI.out i ns[i] (List.getElem?_eq_getElem hil)
      have hf := HF.out.frozen (p := a.add (i * 3)) (by rw [add_blockB]; exact hoka)
      have hml : (ns[i] : Int) ≤ 140737488355328 := by have := HMS.out ns[i] (List.getElem_mem hil); omega
      have HI1 := Aside0.mk (HI.out.set hz (-7))
      have HF1 := Aside0.mk (HF.out.set (a.add (i * 3)) (.int .i64 (-7)))
      have HB1 : Aside0 (∀ B w0, Below B w0 w → B ≤ base → Below B w0 (wr.setCell (a.add (i * 3)) (.int .i64 (-7)))) := ⟨fun B w0 h hb => (HB.out B w0 h hb).setCell (by rw [add_blockB]; exact Nat.le_trans hb (HLOW.out _ hoka)) _⟩
      have HK1 := Aside0.mk (keep_set HK.out (p := a.add (i * 3)) (by rw [add_blockB]; exact HLT.out _ hoka) (.int .i64 (-7)))
      generalize hm : ns[i] = m at hml hcell hin
      have HM := Aside0.mk hm
      clear hcell hin HI HF HB hm HK
      go_wp2
      generalize wr.setCell (a.add (i * 3)) (.int .i64 (-7)) = wn at HI1 HF1 HB1 HK1 ⊢
      clear hk0
      go_loopw [3] (fun v wr => ∃ k : Nat, v = .int .i64 k ∧ k ≤ m ∧ Aside0 (SoftB wr ok (some a) ns) ∧ Aside0 (Soft wr ok) ∧ Aside0 (∀ B w0, Below B w0 w → B ≤ base → Below B w0 wr) ∧ Aside0 (wr.heap[w.heap.size]? = some (.cells ⟨bkC (some a) n c L R⟩ 40 (0, 0)))) (fun v _ => m - (intOf v).toNat)
      case atStart => exact ⟨0, rfl, by omega, HI1, HF1, HB1, HK1⟩
      case round =>
        clear HI1 HF1 HB1 HK1
        obtain ⟨k, rfl, hk, HI, HF, HB, HK⟩ := hrel
        have hk0 := bk_cell0 HK.out
        obtain ⟨_, ea, hoka, _, B, cc, hcell, hin⟩ := HI.out i m (by rw [List.getElem?_eq_getElem hil, HM.out])
        injection ea with ea
        subst ea
        by_cases hkm : k < m
        · have hd2 : decide ((k : Int) < (m : Int)) = true := decide_eq_true (by omega)
          have hkm2 : (k : Int) < (m : Int) := by omega
          have hneg : ¬ (k : Int) < 0 := by omega
          obtain ⟨b, rfl, hokb, z, hz⟩ := hin k hkm
          have hf := HF.out.frozen (p := b.add k) (by rw [add_blockB]; exact hokb)
          have HI2 := Aside0.mk (HI.out.set hz ((z + 1) % 256))
          have HF2 := Aside0.mk (HF.out.set (b.add k) (.int .u8 ((z + 1) % 256)))
          have HB2 : Aside0 (∀ B w0, Below B w0 w → B ≤ base → Below B w0 (wr.setCell (b.add k) (.int .u8 ((z + 1) % 256)))) := ⟨fun B w0 h hb => (HB.out B w0 h hb).setCell (by rw [add_blockB]; exact Nat.le_trans hb (HLOW.out _ hokb)) _⟩
          have HK2 := Aside0.mk (keep_set HK.out (p := b.add k) (by rw [add_blockB]; exact HLT.out _ hokb) (.int .u8 ((z + 1) % 256)))
          clear HI HF HB HK
          go_wp2
          go_region
          generalize wr.setCell (b.add k) (.int .u8 ((z + 1) % 256)) = wq at HI2 HF2 HB2 HK2 ⊢
          clear hf hcell hz hk0
          go_wp2
          exact ⟨⟨k + 1, rfl, by omega, ⟨HI2.out.drew⟩, ⟨soft_drew HF2.out⟩, ⟨fun B w0 h hb => below_drew (HB2.out B w0 h hb)⟩, ⟨HK2.out⟩⟩, by simp [intOf]; omega⟩
        · have hd2 : decide ((k : Int) < (m : Int)) = false := decide_eq_false (by omega)
          go_wp2
          exact ⟨⟨i + 1, rfl, by omega, HI, HF, HB, HK⟩, by simp [intOf]; omega⟩
    · have hd1 : decide ((i : Int) < (n : Int)) = false := decide_eq_false (by omega)
      go_wp2
      refine bodyPost_end (results_list (rs := []) rfl (by simp) .nil) rfl ?_
      exact ⟨rfl, HB.out⟩
end Go.Proofs.Ytknmokpnkcckeaa

namespace Go.Proofs.Ytknmokpnkcckeaa
open Go.RowKit Go.Proofs.YtknmokpnkcckeaaW.PrintWords Go.Proofs.YtknmokpnkcckeaaW.PrintLast Go.Proofs.YtknmokpnkcckeaaW.PrintMore Go.Proofs.Ytknmokpnkcckeaa.PAll
set_option linter.unusedVariables false
set_option linter.unusedSimpArgs false

theorem heap_ltB {W : World} {k : Nat} {o : Obj} (h : W.heap[k]? = some o) : k < W.heap.size := (Array.getElem?_eq_some_iff.1 h).1
theorem flat_get : ∀ (D : List BD) (i j : Nat) (d : BD), D[i]? = some d → j < 3 → ((D.map cell3).flatten)[i * 3 + j]? = (cell3 d)[j]?
  | [], i, j, d, h, _ => by simp at h
  | e :: D, 0, j, d, h, hj => by
    simp only [List.getElem?_cons_zero, Option.some.injEq] at h
    subst h
    rw [List.map_cons, List.flatten_cons, List.getElem?_append_left (by rw [cell3_length]; omega), Nat.zero_mul, Nat.zero_add]
  | e :: D, i + 1, j, d, h, hj => by
    simp only [List.getElem?_cons_succ] at h
    rw [List.map_cons, List.flatten_cons, List.getElem?_append_right (by rw [cell3_length]; omega), cell3_length, show (i + 1) * 3 + j - 3 = i * 3 + j by omega]
    exact flat_get D i j d h hj
theorem flat_get' {D : List BD} {i j : Nat} {d : BD} {tail : List Value} (h : D[i]? = some d) (hj : j < 3) : ((D.map cell3).flatten ++ tail)[i * 3 + j]? = (cell3 d)[j]? := by
  have hi := (List.getElem?_eq_some_iff.1 h).1
  rw [List.getElem?_append_left (by rw [cells3_length]; omega)]
  exact flat_get D i j d h hj
/-- The rest of a stash, in a block of its own. -/
def RestB (base : Nat) (W : World) (v : Value) (D : List BD) : Prop :=
  ∃ A c, v = .slice A D.length c ∧ D.length ≤ c ∧ (D.length ≠ 0 → ∃ b tail, A = some ⟨b, 0, none⟩ ∧ base ≤ b ∧ W.heap[b]? = some (.cells ⟨(D.map cell3).flatten ++ tail⟩ 62 (0, 0)))
theorem RestB.own {base : Nat} {W : World} {v : Value} {D : List BD} (h : RestB base W v D) (hn : D.length ≠ 0) : ∃ k, v.ownBlock = some k ∧ k < W.heap.size := by
  obtain ⟨A, c, rfl, h2, h3⟩ := h
  obtain ⟨b, tail, rfl, e2, e3⟩ := h3 hn
  exact ⟨b, rfl, heap_ltB e3⟩
theorem RestB.step {base : Nat} {W W' : World} {v : Value} {D : List BD} (h : RestB base W v D) (hs : ∀ k, v.ownBlock = some k → k < W.heap.size → W'.heap[k]? = W.heap[k]?) : RestB base W' v D := by
  obtain ⟨A, c, rfl, h2, h3⟩ := h
  refine ⟨A, c, rfl, h2, fun hn => ?_⟩
  obtain ⟨b, tail, rfl, e2, e3⟩ := h3 hn
  exact ⟨b, tail, rfl, e2, (hs b rfl (heap_ltB e3)).trans e3⟩
theorem RestB.cells {base : Nat} {W : World} {v : Value} {D : List BD} (h : RestB base W v D) {i : Nat} {d : BD} (hd : D[i]? = some d) : ∃ b c, v = .slice (some ⟨b, 0, none⟩) D.length c ∧ base ≤ b ∧ b < W.heap.size ∧ W.cell? ⟨b, i * 3, none⟩ = some (.int .i64 d.1.f0) ∧ W.cell? ⟨b, i * 3 + 1, none⟩ = some (.int .i64 d.1.f1) ∧ W.cell? ⟨b, i * 3 + 2, none⟩ = some (.slice d.2.1 d.1.f2.length d.2.2) := by
  obtain ⟨A, c, rfl, _, h3⟩ := h
  have hi := (List.getElem?_eq_some_iff.1 hd).1
  obtain ⟨b, tail, rfl, h1, h2⟩ := h3 (by omega)
  refine ⟨b, c, rfl, h1, heap_ltB h2, ?_, ?_, ?_⟩
  · rw [blk_cell h2]
    have := flat_get' (tail := tail) hd (j := 0) (by omega)
    simpa [cell3] using this
  · rw [blk_cell h2]
    have := flat_get' (tail := tail) hd (j := 1) (by omega)
    simpa [cell3] using this
  · rw [blk_cell h2]
    have := flat_get' (tail := tail) hd (j := 2) (by omega)
    simpa [cell3] using this
/-- .. as it is read. -/
theorem RestB.raw {base : Nat} {W : World} {v : Value} {D : List BD} (h : RestB base W v D) (hm : D.length ≤ 1000) : ∃ A c, v = .slice A D.length c ∧ D.length ≤ c ∧ Kd.C (Kd.raw 3) W A D.length (D.map cell3) := by
  obtain ⟨A, c, rfl, hc, h3⟩ := h
  refine ⟨A, c, rfl, hc, by rw [List.length_map], by omega, fun h0 => ?_⟩
  obtain ⟨b, tail, rfl, h1, h2⟩ := h3 (by omega)
  refine ⟨_, rfl, fun j p hj => ?_⟩
  rw [List.getElem?_map, Option.map_eq_some_iff] at hj
  obtain ⟨d, hd, rfl⟩ := hj
  refine ⟨cell3 d, cell3_length d, ⟨rfl, cell3_length d, cell3_one d⟩, fun i u hu => ?_⟩
  have hi : i < 3 := (List.getElem?_eq_some_iff.1 hu).1
  rw [add_at, blk_cell h2]
  have := flat_get' (tail := tail) hd hi
  show (List.toArray _)[0 + (j * 3 + i)]? = _
  rw [Nat.zero_add]
  rw [hu] at this
  simpa using this

end Go.Proofs.Ytknmokpnkcckeaa
