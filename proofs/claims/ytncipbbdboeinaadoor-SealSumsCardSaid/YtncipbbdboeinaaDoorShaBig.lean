/-
ShaWhole: the law's walk.
-/
import Derived.Test.YtncipbbdboeinaaDoorShaNames
import Derived.Test.YtncipbbdboeinaaDoorRowWords
import Derived.Deep.RegionWith
import Derived.IntWalk
namespace Go.Proofs.YtncipbbdboeinaaDoor
open Go.RowKit Go.Proofs.YtncipbbdboeinaaDoorW.PrintWords Go.Proofs.YtncipbbdboeinaaDoorW.PrintLast Go.Proofs.YtncipbbdboeinaaDoorW.PrintMore Go.Proofs.YtncipbbdboeinaaDoor.PAll
set_option linter.unusedVariables false
set_option linter.unusedSimpArgs false

section
variable {P : Program} {a : Act} {w : World} {o : Oper}
theorem exec_load {ty : TypeId} {x : Operand} {b u : Nat} {cs : Array Value} {d : TypeDesc} (ho : o.op = .load ty x) (hx : a.eval x = .pointer (some ⟨b, 0, none⟩)) (hg : w.heap[b]? = some (.cells cs u (0, 0))) (hu : P.underlying ty = some d) (hd : d.isRow = true) (hi : (P.info? ty).map (·.size) = some cs.size) :
    (execOp a.eval o).run P w = .ok (.value (.agg cs)) w := by
  have hl := load_whole hg hu hd hi
  unfold execOp
  simp only [ho, hx, Sem.run_bind, hl, Result.andThen_ok, Sem.run_pure]
end
theorem sum_cell9 {hs : List Int} (R : Option Addr) (n c : Nat) (m : Int) (h : hs.length = 8) : (sumC hs R n c m)[9]? = some (.int .u64 m) := by
  obtain ⟨a, b, c', d, e, f, g, i, rfl⟩ := eight h
  rfl
theorem sum_cell8 {hs : List Int} (R : Option Addr) (n c : Nat) (m : Int) (h : hs.length = 8) : (sumC hs R n c m)[8]? = some (.slice R n c) := by
  obtain ⟨a, b, c', d, e, f, g, i, rfl⟩ := eight h
  rfl
theorem eq_digest {vs : List Value} {l : List Int} (hl : l.length = 32) (h : l.map (Value.int .u8) = vs) (W : World) : (Op.equalIn 10000 29 (.agg ⟨vs⟩) (.agg ⟨vs⟩)).run Tryd.prog W = .ok true W := by
  subst h
  obtain ⟨i, hi⟩ : ∃ i, Tryd.prog.info? 5 = some i := by
    obtain ⟨i0, hi0, _⟩ := info_parts info5
    exact ⟨i0, hi0⟩
  rw [run_equalIn_array W 9999 _ _ Tryd.underlying29 hi, show Tryd.prog.cellsOf 5 = 1 from by kernel_rfl, show (⟨l.map (Value.int .u8)⟩ : Array Value) = numCells .u8 l from rfl, run_eqItems_num W 9998 Tryd.underlying5 l l rfl _ (by simp; omega)]
  simp
theorem check_zero {r l : List Int} {m : Int} (h : r.length = l.length % 64) (hm : m = (l.length : Int)) (hl : l.length ≤ 100000) : checkA r.length m = 0 := by
  subst hm
  unfold checkA
  rw [if_neg (by omega), if_neg (by rw [h]; simp)]

def law02_ShaWhole.f (k : Nat) (l0 l1 : List Int) : Option Bool := some true

end Go.Proofs.YtncipbbdboeinaaDoor

namespace Go.Proofs.YtncipbbdboeinaaDoor
open Go.RowKit Go.Proofs.YtncipbbdboeinaaDoorW.PrintWords Go.Proofs.YtncipbbdboeinaaDoorW.PrintLast Go.Proofs.YtncipbbdboeinaaDoorW.PrintMore Go.Proofs.YtncipbbdboeinaaDoor.PAll
set_option linter.unusedVariables false
set_option linter.unusedSimpArgs false

/-- More's error: n the rest's length, m how many came, k how many come. -/
def moreE (n : Nat) (m : Int) (k : Nat) : Int := if checkA n m ≠ 0 then checkA n m else if (k : Int) ≥ 72057594037927936 - m then 4 else 0
def moreS (hs r : List Int) (m : Int) (l : List Int) : List Int × List Int × Int :=
  if moreE r.length m l.length = 0 then ((comeA hs (r ++ l)).1, (comeA hs (r ++ l)).2, (m + l.length) % 18446744073709551616) else (List.replicate 8 0, [], 0)
def endD (hs r : List Int) (m : Int) : List Int := if checkA r.length m = 0 then endA hs r m else List.replicate 32 0
theorem checkA_cases (n : Nat) (m : Int) : checkA n m = 0 ∨ checkA n m = 8 := by
  unfold checkA
  split
  · exact .inr rfl
  · split
    · exact .inr rfl
    · exact .inl rfl
theorem moreS_length {hs : List Int} (h : hs.length = 8) (r : List Int) (m : Int) (l : List Int) : (moreS hs r m l).1.length = 8 := by
  unfold moreS
  split
  · exact comeA_length h _
  · rfl
theorem endD_length (hs r : List Int) (m : Int) : (endD hs r m).length = 32 := by
  unfold endD
  split
  · exact digestA_length _
  · rfl
theorem end_any (cs : Array Value) (hs : List Int) (R : Option Addr) (rc : Nat) (r : List Int) (m : Int) (hcs : cs = sumC hs R r.length rc m) (hh : hs.length = 8) (w : World) (h1 : Kd.C (Kd.int .u8) w R r.length r) (hc1 : r.length ≤ rc) (hr : r.length ≤ 1000000) (hk : Ktab w) (hm : 0 ≤ m) :
    Calls Tryd.prog 20 #[.agg cs] w fun e w' => e = .returned (.tuple #[.agg ⟨(endD hs r m).map (Value.int .u8)⟩, .int .i64 (checkA r.length m)]) ∧ Below w.heap.size w w' := by
  unfold endD
  by_cases hb : checkA r.length m = 0
  · rw [if_pos hb, hb]
    exact end_cs cs hs R rc r m hcs hh w h1 hc1 hk hm hb
  · rw [if_neg hb]
    exact end_bad_cs cs hs R r.length rc m hcs hh (by omega) hm hb w

theorem checkA_ok {n : Nat} {m : Int} (h : checkA n m = 0) : m < 72057594037927936 ∧ (n : Int) = m % 64 := by
  unfold checkA at h
  by_cases h1 : m ≥ 72057594037927936
  · rw [if_pos h1] at h; cases h
  · rw [if_neg h1] at h
    by_cases h2 : (n : Int) ≠ m % 64
    · rw [if_pos h2] at h; cases h
    · exact ⟨by omega, by omega⟩
theorem checkA_ok' {n : Nat} {m : Int} (h1 : m < 72057594037927936) (h2 : (n : Int) = m % 64) : checkA n m = 0 := by
  unfold checkA
  rw [if_neg (by omega), if_neg (by omega)]
theorem moreE_zero {n : Nat} {m : Int} {k : Nat} (h : moreE n m k = 0) : m + k < 72057594037927936 ∧ (n : Int) = m % 64 := by
  unfold moreE at h
  by_cases h1 : checkA n m = 0
  · rw [if_neg (by simpa using h1)] at h
    have := checkA_ok h1
    by_cases h2 : (k : Int) ≥ 72057594037927936 - m
    · rw [if_pos h2] at h; cases h
    · exact ⟨by omega, this.2⟩
  · rw [if_pos h1] at h
    exact absurd h h1
theorem moreE_zero' {n : Nat} {m : Int} {k : Nat} (h1 : m + k < 72057594037927936) (h2 : (n : Int) = m % 64) : moreE n m k = 0 := by
  unfold moreE
  rw [if_neg (by simpa using checkA_ok' (m := m) (by omega) h2), if_neg (by omega)]
theorem moreE_cases (n : Nat) (m : Int) (k : Nat) : moreE n m k = 0 ∨ moreE n m k = checkA n m ∨ moreE n m k = 4 := by
  unfold moreE
  split
  · exact .inr (.inl rfl)
  · split
    · exact .inr (.inr rfl)
    · exact .inl rfl
/-- What came is there. -/
theorem moreS_ok {hs r l : List Int} {m : Int} (h : moreE r.length m l.length = 0) (hm : 0 ≤ m) : moreS hs r m l = ((comeA hs (r ++ l)).1, (comeA hs (r ++ l)).2, m + l.length) := by
  have := moreE_zero h
  unfold moreS
  rw [if_pos h, Int.emod_eq_of_lt (by omega) (by omega)]
theorem moreS_check {hs r l : List Int} {m : Int} (h : moreE r.length m l.length = 0) (hm : 0 ≤ m) : checkA (moreS hs r m l).2.1.length (moreS hs r m l).2.2 = 0 := by
  have := moreE_zero h
  rw [moreS_ok h hm]
  refine checkA_ok' this.1 ?_
  simp only [comeA_rest, List.length_append]
  omega
/-- Two parts, one behind the other: the same as both at once. -/
theorem parts_same {hs r a b : List Int} {m : Int} (hm : 0 ≤ m) (h1 : moreE r.length m a.length = 0) (h2 : moreE (moreS hs r m a).2.1.length (moreS hs r m a).2.2 b.length = 0) :
    moreE r.length m (a ++ b).length = 0 ∧ moreS hs r m (a ++ b) = moreS (moreS hs r m a).1 (moreS hs r m a).2.1 (moreS hs r m a).2.2 b := by
  have e1 := moreE_zero h1
  have e2 := moreE_zero h2
  rw [moreS_ok h1 hm] at e2 h2 ⊢
  have h3 : moreE r.length m (a ++ b).length = 0 := moreE_zero' (by rw [List.length_append]; simp only at e2; omega) e1.2
  refine ⟨h3, ?_⟩
  rw [moreS_ok h3 hm, moreS_ok h2 (by simp only; omega)]
  simp only [comeA_append, List.append_assoc, List.length_append]
  have : m + ((a.length + b.length : Nat) : Int) = m + (a.length : Int) + (b.length : Int) := by omega
  rw [this]
theorem parts_bad {hs r a b : List Int} {m : Int} (hm : 0 ≤ m) (h : moreE r.length m a.length ≠ 0 ∨ moreE (moreS hs r m a).2.1.length (moreS hs r m a).2.2 b.length ≠ 0) (hb : b.length ≤ 1000) :
    moreE r.length m (a ++ b).length ≠ 0 := by
  intro h3
  have e3 := moreE_zero h3
  rw [List.length_append] at e3
  have h1 : moreE r.length m a.length = 0 := moreE_zero' (by omega) e3.2
  rcases h with h | h
  · exact h h1
  · refine h ?_
    rw [moreS_ok h1 hm]
    refine moreE_zero' (by simp only; omega) ?_
    simp only [comeA_rest, List.length_append]
    omega
theorem moreS_rest {hs r l : List Int} {m : Int} : (moreS hs r m l).2.1.length < 64 ∨ (moreS hs r m l).2.1 = [] := by
  unfold moreS
  split
  · refine .inl ?_
    simp only [comeA_rest]
    omega
  · exact .inr rfl
theorem moreS_m {hs r l : List Int} {m : Int} (hm : 0 ≤ m) : 0 ≤ (moreS hs r m l).2.2 := by
  unfold moreS
  split
  · simp only; omega
  · exact Int.le_refl _
end Go.Proofs.YtncipbbdboeinaaDoor

namespace Go.Proofs.YtncipbbdboeinaaDoor
open Go.RowKit Go.Proofs.YtncipbbdboeinaaDoorW.PrintWords Go.Proofs.YtncipbbdboeinaaDoorW.PrintLast Go.Proofs.YtncipbbdboeinaaDoorW.PrintMore Go.Proofs.YtncipbbdboeinaaDoor.PAll
set_option linter.unusedVariables false
set_option linter.unusedSimpArgs false

section
variable {P : Program} {ops : Array Oper} {rest : List Oper} {op : Oper} {a : Act} {w : World} {Q : Exit → Act → World → Prop}
/-- The same for a guarded load that comes to be done. -/
theorem wpList_load_g (ty : TypeId) (x : Operand) (b u : Nat) (cs : Array Value) (d : TypeDesc) (hw : Region.wanted op (yielded ops a.tmps) = true) (ho : op.op = .load ty x) (hx : a.eval x = .pointer (some ⟨b, 0, none⟩)) (hg : w.heap[b]? = some (.cells cs u (0, 0)))
    (hu : P.underlying ty = some d) (hd : d.isRow = true) (hi : (P.info? ty).map (·.size) = some cs.size) (h : wpList P ops Q rest (a.put op.dst (.agg cs)) w) : wpList P ops Q (op :: rest) a w := by
  refine wpList_step fun K hK => ?_
  rw [if_pos hw]
  have hl := load_whole hg hu hd hi
  have hr : (execOp a.eval op).run P w = .ok (.value (.agg cs)) w := by
    unfold execOp
    simp only [ho, hx, Sem.run_bind, hl, Result.andThen_ok, Sem.run_pure]
  unfold Oper.wp
  rw [hr]
  exact hK _ _ h
/-- A part of a block, from its beginning on. -/
theorem wpList_part_g (ty : TypeId) (x : Operand) (b u : Nat) (vs tail : List Value) (d : TypeDesc) (hw : Region.wanted op (yielded ops a.tmps) = true) (ho : op.op = .load ty x) (hx : a.eval x = .pointer (some ⟨b, 0, none⟩)) (hg : w.heap[b]? = some (.cells ⟨vs ++ tail⟩ u (0, 0)))
    (hu : P.underlying ty = some d) (hd : d.isRow = true) (hi : (P.info? ty).map (·.size) = some vs.length) (h : wpList P ops Q rest (a.put op.dst (.agg ⟨vs⟩)) w) : wpList P ops Q (op :: rest) a w := by
  refine wpList_step fun K hK => ?_
  rw [if_pos hw]
  have hl := run_loadAt_mid w b 0 ty vs d (fun j v hv => by
    rw [Nat.zero_add, blk_cell hg j, List.getElem?_toArray, List.getElem?_append_left (List.getElem?_eq_some_iff.1 hv).1]
    exact hv) hu hd hi
  have hr : (execOp a.eval op).run P w = .ok (.value (.agg ⟨vs⟩)) w := by
    unfold execOp
    simp only [ho, hx, Sem.run_bind, hl, Result.andThen_ok, Sem.run_pure]
  unfold Oper.wp
  rw [hr]
  exact hK _ _ h
end
theorem eq_words {l : List Int} (hl : l.length = 8) (W : World) : (Op.equalIn 10000 53 (.agg ⟨l.map (Value.int .u32)⟩) (.agg ⟨l.map (Value.int .u32)⟩)).run Tryd.prog W = .ok true W := by
  obtain ⟨i, hi, _⟩ := info_parts (show (Tryd.prog.info? 52).map (fun i => (i.zero, i.size, i.bytes)) = some (some (.int .u32 0), 1, 4) by kernel_rfl)
  rw [run_equalIn_array W 9999 _ _ Tryd.underlying53 hi, show Tryd.prog.cellsOf 52 = 1 from by kernel_rfl, show (⟨l.map (Value.int .u32)⟩ : Array Value) = numCells .u32 l from rfl, run_eqItems_num W 9998 Tryd.underlying52 l l rfl _ (by simp; omega)]
  simp
def law02_ShaParts.f (k : Nat) (hs r : List Int) (m : Int) (l0 l1 : List Int) : Option Bool := some true

end Go.Proofs.YtncipbbdboeinaaDoor
