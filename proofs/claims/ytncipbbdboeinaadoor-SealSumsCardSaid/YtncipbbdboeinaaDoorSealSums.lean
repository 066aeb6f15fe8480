/-
bytes.Join of two parts, the first of five bytes; what is hashed of a bucket.
-/
import Derived.Test.YtncipbbdboeinaaDoorShaTurn
import Derived.Laws.Externs
import Derived.Lib.MakeNoZero
import Derived.Test.YtncipbbdboeinaaDoorShaNames
import Derived.Test.YtncipbbdboeinaaDoorShaBig
import Derived.Test.YtncipbbdboeinaaDoorRefEnd
import Derived.Test.YtncipbbdboeinaaDoorPAll3
import Derived.Test.YtncipbbdboeinaaDoorPAll12
import Derived.Test.YtncipbbdboeinaaDoorPAll5
namespace Go.Proofs.YtncipbbdboeinaaDoor
open Go.RowKit Go.Proofs.YtncipbbdboeinaaDoorW.PrintWords Go.Proofs.YtncipbbdboeinaaDoorW.PrintLast Go.Proofs.YtncipbbdboeinaaDoorW.PrintMore Go.Proofs.YtncipbbdboeinaaDoor.PAll
set_option linter.unusedVariables false
set_option linter.unusedSimpArgs false

section
variable {P : Program} {ops : Array Oper} {rest : List Oper} {op : Oper} {a : Act} {w : World} {Q : Exit → Act → World → Prop}
theorem wpList_copy (hgd : op.guard = none) (d s : Operand) (t t' : TypeId) (ho : op.op = .call { callee := .builtin .copy, args := #[d, s], argTypes := #[t, t'] }) (v u : Value) (hd : a.eval d = v) (hs : a.eval s = u) {v' : Value} {w' : World}
    (hr : (Builtin.copy_ #[t, t'] op.type #[v, u]).run P w = .ok v' w') (h : wpList P ops Q rest (a.put op.dst v') w') : wpList P ops Q (op :: rest) a w := by
  refine wpList_plain hgd fun K hK => ?_
  exact op_copy d s t t' ho v u hd hs hr (hK _ _ h)
theorem copy_empty (w : World) (dT sT ty elem : TypeId) (a : Addr) (dLen dCap : Nat) (S : Option Addr) (sCap : Nat) (hu : P.underlying dT = some (.slice elem)) (hs : (P.info? elem).map (·.size) = some 1) :
    (Builtin.copy_ #[dT, sT] ty #[.slice (some a) dLen dCap, .slice S 0 sCap]).run P w = .ok (goInt 0) w := by
  cases hq : P.info? elem with
  | none => simp [hq] at hs
  | some i =>
    rcases S with _ | S
    · simp [Builtin.copy_, run_underlying hu, Builtin.lenOf, Builtin.firstCells, sizeOf, typeInfo, hq, storeCells]
    · simp [Builtin.copy_, run_underlying hu, Builtin.lenOf, Builtin.firstCells, sizeOf, typeInfo, hq, storeCells, loadCells, loadCellsFrom]
end
theorem one_u8' (l : List Int) : ∀ v ∈ l.map (Value.int .u8), v.oneCell' = true := by
  intro v hv
  simp only [List.mem_map] at hv
  obtain ⟨x, _, rfl⟩ := hv
  rfl
def accJ (n2 : Nat) : Nat → Int
  | 0 => 0
  | 1 => 5
  | _ => 5 + n2
theorem run_cut_from5 (W : World) (g T : Nat) (h : 5 ≤ T) : (Instr.slice 22 (.slice (some ⟨g, 0, none⟩) T T) (some (.int .i64 5)) none none).run Tryd.prog W = .ok (.slice (if T = 5 then some ⟨g, 0, none⟩ else some ⟨g, 5, none⟩) (T - 5) (T - 5)) W := by
  obtain ⟨i0, hi0, _, hsz0, _⟩ := info_parts info5
  have hel : Tryd.prog.elem 22 = 5 := by simp [Program.elem, Tryd.underlying22]
  have hu : Tryd.prog.underlying 22 = some (.slice (Tryd.prog.elem 22)) := by rw [hel]; exact Tryd.underlying22
  rw [run_slice_l W 22 (some ⟨g, 0, none⟩) T T hu .i64 5 (by decide) (by omega), hel]
  have hc : (Int.toNat 5 = T) ↔ T = 5 := ⟨fun h => h.symm, fun h => h.symm⟩
  simp [sizeOf, typeInfo, hi0, hsz0, sliced, Result.andThen, Addr.add, eq_comm]
theorem C_src {w : World} {a : Addr} {n : Nat} {l : List Int} (h : Kd.C (Kd.int .u8) w (some a) n l) : ∀ j v, (l.map (Value.int .u8))[j]? = some v → w.cell? (a.add j) = some v := by
  intro j v hj
  have hjl : j < l.length := by
    have := (List.getElem?_eq_some_iff.1 hj).1
    simpa using this
  have hn : 0 < n := by have := h.1; omega
  obtain ⟨ad, e, hc⟩ := h.2.2 hn
  cases e
  obtain ⟨cs, hl, hK, hcell⟩ := hc j _ (List.getElem?_eq_getElem hjl)
  have hcs : cs = [.int .u8 l[j]] := hK
  subst hcs
  have h0 := hcell 0 _ rfl
  rw [List.getElem?_map, List.getElem?_eq_getElem hjl] at hj
  simp only [Option.map_some, Option.some.injEq] at hj
  rw [← hj]
  simpa [Kd.int, Kd.scalar] using h0

set_option maxHeartbeats 8000000 in
set_option maxRecDepth 100000 in
theorem bytesJoin_calls (w : World) (gb : Nat) (fr : Nat × Nat) (t : Nat) (A1 : Option Addr) (c1 : Nat) (l1 : List Int) (A2 : Option Addr) (c2 : Nat) (l2 : List Int) (hg : w.heap[gb]? = some (.cells #[.slice A1 5 c1, .slice A2 l2.length c2] t fr)) (h1 : Kd.C (Kd.int .u8) w A1 5 l1) (h2 : Kd.C (Kd.int .u8) w A2 l2.length l2) (ht : l2.length ≤ 100000) :
    Calls Tryd.prog 16 #[.slice (some ⟨gb, 0, none⟩) 2 2, .slice none 0 0] w fun e w' => ∃ g rest, e = .returned (.slice (some ⟨g, 0, none⟩) (5 + l2.length) (5 + l2.length)) ∧ w.heap.size ≤ g ∧ w'.heap[g]? = some (.cells ⟨(l1 ++ l2).map (Value.int .u8) ++ rest⟩ 5 (0, 0)) ∧ Below w.heap.size w w' := by
  have hl5 : l1.length = 5 := h1.1
  obtain ⟨a1, rfl, _⟩ := h1.2.2 (by omega)
  have hc : ∀ k', w.cell? ⟨gb, k', none⟩ = (#[.slice (some a1) 5 c1, .slice A2 l2.length c2] : Array Value)[k']? := fun k' => cell_of_row w gb k' _ t fr hg
  have hc0 : w.cell? ⟨gb, 0, none⟩ = some (.slice (some a1) 5 c1) := hc 0
  have hc1 : w.cell? ⟨gb, 1, none⟩ = some (.slice A2 l2.length c2) := hc 1
  have hs5 : (Tryd.prog.info? 5).map (·.size) = some 1 := by
    obtain ⟨i0, hi0, _, hsz0, _⟩ := info_parts info5
    rw [hi0]
    simp [hsz0]
  have H1 := Aside0.mk h1
  have H2 := Aside0.mk h2
  have HT := Aside0.mk ht
  have HL5 := Aside0.mk hl5
  have HS5 := Aside0.mk hs5
  have hi63 : (l2.length : Int) ≤ 100000 := by omega
  clear h1 h2 hg hc hl5 hs5
  go_enter Tryd.func16, Tryd.ntmps16
  go_wp2
  go_loopw [5, 44] (fun v5 v44 wr => w = wr ∧ ∃ i : Nat, i ≤ 2 ∧ v44 = .int .i64 i ∧ v5 = .int .i64 (accJ l2.length i)) (fun _ v44 _ => 2 - (intOf v44).toNat)
  case atStart => exact ⟨rfl, 0, by omega, rfl, rfl⟩
  case round =>
    obtain ⟨rfl, i, hi, rfl, rfl⟩ := hrel
    have hi3 : i = 0 ∨ i = 1 ∨ i = 2 := by omega
    rcases hi3 with rfl | rfl | rfl
    · simp only [accJ]
      go_wp2
      exact ⟨⟨trivial, 1, by omega, rfl, rfl⟩, by simp [intOf]⟩
    · simp only [accJ]
      have hb : ¬ ((9223372036854775802 : Int) < (l2.length : Int)) := by omega
      have hw : wrap64 (5 + (l2.length : Int)) = 5 + (l2.length : Int) := by unfold wrap64; omega
      go_wp2
      exact ⟨⟨trivial, 2, by omega, rfl, rfl⟩, by simp [intOf]⟩
    · simp only [accJ]
      obtain ⟨T, hT⟩ : ∃ T : Nat, T = 5 + l2.length := ⟨_, rfl⟩
      have hTi : (5 + (l2.length : Int)) = (T : Int) := by omega
      rw [hTi]
      have hT100 : T ≤ 100005 := by omega
      obtain ⟨cs, hrunM, hle, _⟩ := Lib.run_makeNoZero (P := Tryd.prog) w #[3] 22 5 Tryd.underlying22 T (by omega)
      have hcall : (callFunc 25 #[.int .i64 (T : Int)]).run Tryd.prog w = .ok (.value (.slice (some ⟨w.heap.size, 0, none⟩) T cs.size)) ((w.alloc (.cells cs 5)).drewN 2) := by
        rw [run_callFunc_extern Tryd.func25 (by kernel_rfl) (by kernel_rfl) (by kernel_rfl) (e := Extern.BytealgMakeNoZero.makeNoZero #[3] #[22]) (by kernel_rfl), hrunM]
        rfl
      clear hrunM
      have i0 : (0 : Int) ≤ (T : Int) := by omega
      have i1 : (T : Int) ≤ (cs.size : Int) := by omega
      have HB1 : Aside0 (Below w.heap.size w ((w.alloc (.cells cs 5)).drewN 2)) := ⟨pw_below_drewN (below_alloc (Below.refl _ _) _) 2⟩
      have hgn : ((w.alloc (.cells cs 5)).drewN 2).heap[w.heap.size]? = some (.cells cs 5 (0, 0)) := blk_drewN (heap_alloc_new w (.cells cs 5)) 2
      generalize hW1 : (w.alloc (.cells cs 5)).drewN 2 = W1 at hcall HB1 hgn
      have hd0 : W1.cell? ⟨gb, 0, none⟩ = some (.slice (some a1) 5 c1) := pw_cell_below HB1.out hc0
      have hr1 := run_copy_row (P := Tryd.prog) W1 22 22 3 5 w.heap.size 0 T T a1 5 c1 cs 5 (l1.map (Value.int .u8)) Tryd.underlying22 HS5.out hgn (by rw [List.length_map, HL5.out]; simp only [Nat.min_def]; split <;> omega) (C_src (Kd.C_below H1.out HB1.out)) (by rw [List.length_map, HL5.out]; omega) (one_u8' l1)
      have hgo : goInt (l1.map (Value.int .u8)).length = .int .i64 5 := by rw [List.length_map, HL5.out]; rfl
      rw [hgo] at hr1
      obtain ⟨cur2, hcur2⟩ : ∃ cur2 : Array Value, cur2 = (cs.toList.take 0 ++ l1.map (Value.int .u8) ++ cs.toList.drop (0 + (l1.map (Value.int .u8)).length)).toArray := ⟨_, rfl⟩
      rw [← hcur2] at hr1
      have hg2 := setRow_heap W1 w.heap.size cs cur2 5 (0, 0) hgn
      have hcs2 : cur2.toList = l1.map (Value.int .u8) ++ cs.toList.drop 5 := by rw [hcur2, List.length_map, HL5.out]; rfl
      have hsz2 : cur2.size = cs.size := by
        rw [← Array.length_toList, hcs2, List.length_append, List.length_map, HL5.out, List.length_drop, Array.length_toList]
        omega
      have HB2 := Aside0.mk (below_row HB1.out (Nat.le_refl _) cur2)
      generalize hW2 : W1.setRow w.heap.size cur2 = W2 at hr1 hg2 HB2
      have hd1 : W2.cell? ⟨gb, 1, none⟩ = some (.slice A2 l2.length c2) := pw_cell_below HB2.out hc1
      have HG2 := Aside0.mk hg2
      have HCS2 := Aside0.mk hcs2
      have HSZ2 := Aside0.mk hsz2
      have HLE := Aside0.mk hle
      have HTT := Aside0.mk hT
      clear hg2 hcs2 hsz2 hcur2 hgo hgn hc0 hc1 hW1 hW2 hle hT hTi
      go_wp2
      clear hr1 hcall hd0
      go_loopw [9, 72] (fun v9 v72 wv => (v72 = .int .i64 0 ∧ v9 = .int .i64 5 ∧ wv = W2) ∨ (v72 = .int .i64 1 ∧ v9 = .int .i64 (T : Int) ∧ ∃ rest, Aside0 (wv.heap[w.heap.size]? = some (.cells ⟨(l1 ++ l2).map (Value.int .u8) ++ rest⟩ 5 (0, 0))) ∧ Aside0 (Below w.heap.size w wv))) (fun _ v72 _ => 1 - (intOf v72).toNat)
      case atStart => exact .inl ⟨rfl, rfl, rfl⟩
      case round =>
        rcases hrel with ⟨rfl, rfl, rfl⟩ | ⟨rfl, rfl, rest, HG, HB⟩
        · by_cases hn : l2.length = 0
          · have hT5 : T = 5 := by have := HTT.out; omega
            subst hT5
            have hnil : l2 = [] := List.length_eq_zero_iff.1 hn
            subst hnil
            have hsl : ∀ W, (Instr.slice 22 (.slice (some ⟨w.heap.size, 0, none⟩) 5 5) (some (.int .i64 5)) none none).run Tryd.prog W = .ok (.slice (some ⟨w.heap.size, 0, none⟩) 0 0) W := fun W => run_cut_from5 W w.heap.size 5 (by omega)
            have hr2 := copy_empty (P := Tryd.prog) wr 22 22 3 5 ⟨w.heap.size, 0, none⟩ 0 0 none 0 Tryd.underlying22 HS5.out
            have hr3 := copy_empty (P := Tryd.prog) wr 22 22 3 5 ⟨w.heap.size, 0, none⟩ 0 0 A2 c2 Tryd.underlying22 HS5.out
            have hfin : Aside0 (wr.heap[w.heap.size]? = some (.cells ⟨(l1 ++ []).map (Value.int .u8) ++ cs.toList.drop 5⟩ 5 (0, 0))) := ⟨by rw [List.append_nil, ← HCS2.out]; exact HG2.out⟩
            go_wp2
            exact ⟨.inr ⟨rfl, rfl, _, hfin, HB2⟩, by simp [intOf]⟩
          · obtain ⟨a2, rfl, _⟩ := H2.out.2.2 (by omega)
            have hsl : ∀ W, (Instr.slice 22 (.slice (some ⟨w.heap.size, 0, none⟩) T T) (some (.int .i64 5)) none none).run Tryd.prog W = .ok (.slice (some ⟨w.heap.size, 5, none⟩) l2.length l2.length) W := fun W => by
              have := run_cut_from5 W w.heap.size T (by have := HTT.out; omega)
              rw [if_neg (by have := HTT.out; omega), show T - 5 = l2.length by have := HTT.out; omega] at this
              exact this
            have hr2 := copy_empty (P := Tryd.prog) wr 22 22 3 5 ⟨w.heap.size, 5, none⟩ l2.length l2.length none 0 Tryd.underlying22 HS5.out
            have hr3 := run_copy_row (P := Tryd.prog) wr 22 22 3 5 w.heap.size 5 l2.length l2.length a2 l2.length c2 cur2 5 (l2.map (Value.int .u8)) Tryd.underlying22 HS5.out HG2.out (by rw [List.length_map]; simp only [Nat.min_def]; split <;> rfl) (C_src (Kd.C_below H2.out HB2.out)) (by rw [List.length_map, HSZ2.out]; have := HLE.out; have := HTT.out; omega) (one_u8' l2)
            have hgo : goInt (l2.map (Value.int .u8)).length = .int .i64 (l2.length : Int) := by rw [List.length_map]; rfl
            rw [hgo] at hr3
            have hcur3 : (cur2.toList.take 5 ++ l2.map (Value.int .u8) ++ cur2.toList.drop (5 + (l2.map (Value.int .u8)).length)).toArray = ⟨(l1 ++ l2).map (Value.int .u8) ++ cur2.toList.drop (5 + l2.length)⟩ := by
              rw [List.length_map, List.map_append, HCS2.out, List.take_append_of_le_length (by rw [List.length_map, HL5.out]; exact Nat.le_refl _), List.take_of_length_le (by rw [List.length_map, HL5.out]; exact Nat.le_refl _)]
            generalize (cur2.toList.take 5 ++ l2.map (Value.int .u8) ++ cur2.toList.drop (5 + (l2.map (Value.int .u8)).length)).toArray = cur3 at hr3 hcur3
            have hfin : Aside0 ((wr.setRow w.heap.size cur3).heap[w.heap.size]? = some (.cells ⟨(l1 ++ l2).map (Value.int .u8) ++ cur2.toList.drop (5 + l2.length)⟩ 5 (0, 0))) := ⟨by rw [← hcur3]; exact setRow_heap wr w.heap.size cur2 cur3 5 (0, 0) HG2.out⟩
            have hfb := Aside0.mk (below_row HB2.out (Nat.le_refl _) cur3)
            have hw : wrap64 (5 + (l2.length : Int)) = 5 + (l2.length : Int) := by unfold wrap64; omega
            clear hcur3 hgo
            go_wp2
            exact ⟨.inr ⟨rfl, by rw [HTT.out]; push_cast; rfl, _, hfin, hfb⟩, by simp [intOf]⟩
        · go_wp2
          go_ret
          exact ⟨w.heap.size, rest, by rw [HTT.out]; rfl, Nat.le_refl _, HG.out, HB.out⟩
end Go.Proofs.YtncipbbdboeinaaDoor

namespace Go.Proofs.YtncipbbdboeinaaDoor
open Go.RowKit Go.Proofs.YtncipbbdboeinaaDoorW.PrintWords Go.Proofs.YtncipbbdboeinaaDoorW.PrintLast Go.Proofs.YtncipbbdboeinaaDoorW.PrintMore Go.Proofs.YtncipbbdboeinaaDoor.PAll
set_option linter.unusedVariables false
set_option linter.unusedSimpArgs false

def headL (level bucket : Int) : List Int := [level, bucket, 0, 0, 0]
theorem put_all : ∀ i : Fin 4, ∀ j : Fin 128, num_Put.f 20 [(i.val : Int), (j.val : Int)] [1, 4] = some ([(i.val : Int), (j.val : Int), 0, 0, 0], 0) := by decide +kernel
theorem digits_all : ∀ j : Fin 128, ref01_Digits.f 6 (IntKind.u64.wrap (j.val : Int)) 4 = some ([(j.val : Int), 0, 0, 0], true) := by decide +kernel
theorem put_ok {level bucket : Int} (h0 : 0 ≤ level) (h1 : level < 4) (h2 : 0 ≤ bucket) (h3 : bucket < 128) : num_Put.f 20 [level, bucket] [1, 4] = some (headL level bucket, 0) := by
  have := put_all ⟨level.toNat, by omega⟩ ⟨bucket.toNat, by omega⟩
  simpa [Int.toNat_of_nonneg h0, Int.toNat_of_nonneg h2, headL] using this
theorem text_ok {level bucket : Int} (h0 : 0 ≤ level) (h1 : level < 4) (h2 : 0 ≤ bucket) (h3 : bucket < 128) (l : List Int) (hl : l.length ≤ 100000) : ref11_Text.f 6 level bucket l = some (headL level bucket ++ l) := by
  have hd := digits_all ⟨bucket.toNat, by omega⟩
  simp only [Int.toNat_of_nonneg h2] at hd
  unfold ref11_Text.f
  rw [hd]
  have hm : level % 256 = level := by omega
  simp only [Option.bind_some, hm]
  rw [if_pos (by simp), if_pos (by simp; omega)]
  rfl
theorem may_yes {level bucket : Int} (h0 : 0 ≤ level) (h1 : level < 4) (h2 : 1 ≤ bucket) (h3 : bucket < 128) : ref11_may.f level bucket = some true := by
  unfold ref11_may.f
  rw [if_pos h0, if_pos h1, if_pos h2, decide_eq_true h3]
theorem may_no {level bucket : Int} (h : ¬ (0 ≤ level ∧ level < 4 ∧ 1 ≤ bucket ∧ bucket < 128)) : ref11_may.f level bucket = some false := by
  unfold ref11_may.f
  by_cases h0 : level ≥ 0
  · rw [if_pos h0]
    by_cases h1 : level < 4
    · rw [if_pos h1]
      by_cases h2 : bucket ≥ 1
      · rw [if_pos h2, decide_eq_false (by omega)]
      · rw [if_neg h2]
    · rw [if_neg h1]
  · rw [if_neg h0]
theorem C_part {W : World} {b t : Nat} {fr : Nat × Nat} {l : List Int} {rest : List Value} (hl : l.length ≤ 9223372036854775807) (h : W.heap[b]? = some (.cells ⟨l.map (Value.int .u8) ++ rest⟩ t fr)) : Kd.C (Kd.int .u8) W (some ⟨b, 0, none⟩) l.length l := by
  have hc : ∀ k', W.cell? ⟨b, k', none⟩ = (⟨l.map (Value.int .u8) ++ rest⟩ : Array Value)[k']? := fun k' => cell_of_row W b k' _ t fr h
  refine ⟨rfl, hl, fun _ => ⟨_, rfl, fun j p hj => ⟨[.int .u8 p], rfl, rfl, fun i u hu => ?_⟩⟩⟩
  have hi : i = 0 := by
    rcases i with _ | i
    · rfl
    · simp at hu
  subst hi
  simp only [List.getElem?_cons_zero, Option.some.injEq] at hu
  subst hu
  have hlt : j < l.length := (List.getElem?_eq_some_iff.1 hj).1
  have e : (⟨b, 0, none⟩ : Addr).add (j * 1 + 0) = ⟨b, j, none⟩ := by unfold Addr.add; split <;> simp_all
  have := hc j
  rw [List.getElem?_toArray, List.getElem?_append_left (by simpa using hlt), List.getElem?_map, hj] at this
  show W.cell? ((⟨b, 0, none⟩ : Addr).add (j * 1 + 0)) = _
  rw [e]
  exact this

set_option maxHeartbeats 4000000 in
theorem sealJoin_calls (w : World) (gb : Nat) (fr : Nat × Nat) (t : Nat) (A1 : Option Addr) (c1 : Nat) (l1 : List Int) (A2 : Option Addr) (c2 : Nat) (l2 : List Int) (hg : w.heap[gb]? = some (.cells #[.slice A1 5 c1, .slice A2 l2.length c2] t fr)) (h1 : Kd.C (Kd.int .u8) w A1 5 l1) (h2 : Kd.C (Kd.int .u8) w A2 l2.length l2) (ht : l2.length ≤ 100000) :
    Calls Tryd.prog 10 #[.slice (some ⟨gb, 0, none⟩) 2 2] w fun e w' => ∃ g rest, e = .returned (.slice (some ⟨g, 0, none⟩) (5 + l2.length) (5 + l2.length)) ∧ w.heap.size ≤ g ∧ w'.heap[g]? = some (.cells ⟨(l1 ++ l2).map (Value.int .u8) ++ rest⟩ 5 (0, 0)) ∧ Below w.heap.size w w' := by
  have HJ := Aside0.mk (bytesJoin_calls w gb fr t A1 c1 l1 A2 c2 l2 hg h1 h2 ht)
  clear hg h1 h2 ht
  go_enter Tryd.func10, Tryd.ntmps10
  repeat (first
    | (go_at_call 16; (with_reducible refine HJ.out.mono ?_); rintro e1 w1 ⟨g, rest, rfl, hgl, hgg, hb⟩; have HG := Aside0.mk hgg; have HB := Aside0.mk hb; clear hgg hb; (try dsimp only))
    | go_values | go_guarded | go_step | go_upon | go_back)
  go_ret
  exact ⟨g, rest, rfl, hgl, HG.out, HB.out⟩

set_option maxHeartbeats 8000000 in
set_option maxRecDepth 100000 in
theorem hashed_ok (level bucket : Int) (h0 : 0 ≤ level) (h1 : level < 4) (h2 : 1 ≤ bucket) (h3 : bucket < 128) (A : Option Addr) (c : Nat) (l : List Int) (w : World) (hA : Kd.C (Kd.int .u8) w A l.length l) (hl : l.length ≤ 100000) :
    Calls Tryd.prog 4 #[.int .i64 level, .int .i64 bucket, .slice A l.length c] w fun e w' => ∃ g rest, e = .returned (.tuple #[.slice (some ⟨g, 0, none⟩) (5 + l.length) (5 + l.length), .int .i64 0]) ∧ w.heap.size ≤ g ∧ w'.heap[g]? = some (.cells ⟨(headL level bucket ++ l).map (Value.int .u8) ++ rest⟩ 5 (0, 0)) ∧ Below w.heap.size w w' := by
  have d0 : decide (level < 0) = false := decide_eq_false (by omega)
  have d1 : decide (4 ≤ level) = false := decide_eq_false (by omega)
  have d2 : decide (bucket < 1) = false := decide_eq_false (by omega)
  have d3 : decide (128 ≤ bucket) = false := decide_eq_false (by omega)
  have hwl : IntKind.u64.wrap level = level := by
    rw [show ∀ z, IntKind.u64.wrap z = z % 18446744073709551616 from fun _ => rfl]
    omega
  have hwb : IntKind.u64.wrap bucket = bucket := by
    rw [show ∀ z, IntKind.u64.wrap z = z % 18446744073709551616 from fun _ => rfl]
    omega
  have HPUT := Aside0.mk (put_ok h0 h1 (by omega : 0 ≤ bucket) h3)
  have HA := Aside0.mk hA
  have HL := Aside0.mk hl
  obtain ⟨hk0, hk1⟩ := alloc2 w (.cells #[.int .u64 level, .int .u64 bucket] 37) (.cells #[.int .i64 1, .int .i64 4] 3)
  have HB0 := Aside0.mk (below_alloc (below_alloc (Below.refl w.heap.size w) (.cells #[.int .u64 level, .int .u64 bucket] 37)) (.cells #[.int .i64 1, .int .i64 4] 3))
  have HK0 := Aside0.mk (Kd.F_now (F_row .u64 [level, bucket] (ok := fun _ => True) (by simp) trivial hk0))
  have HK1 := Aside0.mk (Kd.F_now (F_row .i64 [1, 4] (ok := fun _ => True) (by simp) trivial hk1))
  clear hA hl hk0 hk1 h0 h1 h2 h3
  go_enter Tryd.func4, Tryd.ntmps4
  repeat (first
    | (go_at_call 9; (refine (num_Put.calls 20 (some ⟨w.heap.size, 0, none⟩) 2 [level, bucket] (some ⟨w.heap.size + 1, 0, none⟩) 2 [1, 4] _ _ _ HK0.out (Nat.le_refl _) HK1.out (Nat.le_refl _) HPUT.out).mono ?_); rintro e1 w1 ⟨v, rfl, hR, hb⟩; obtain ⟨AH, cH, hv⟩ := Kd.R_slice hR; subst hv; have HH := Aside0.mk (Kd.C_alloc (Kd.R_reads' hR).2.2 (.cells #[.slice AH 5 cH, .slice A l.length c] 22)); have HB1 := Aside0.mk (bl HB0.out hb); clear hR hb HK0 HK1; (try dsimp only))
    | (go_at_call 10; (refine (sealJoin_calls _ w1.heap.size (0, 0) 22 AH cH (headL level bucket) A c l (heap_alloc_new w1 _) HH.out (Kd.C_alloc (Kd.C_below HA.out HB1.out) _) HL.out).mono ?_); rintro e2 w2 ⟨g, rest, rfl, hgl, hgg, hb⟩; have HG := Aside0.mk hgg; have HB2 := Aside0.mk (bl (below_alloc HB1.out (.cells #[.slice AH 5 cH, .slice A l.length c] 22)) hb); have HGL := Aside0.mk hgl; clear hgg hb hgl; (try dsimp only))
    | go_values | go_guarded | go_step | go_upon | go_back)
  refine bodyPost_ret (results_list (rs := [.tmp 6, .tmp 7]) rfl (by simp) (.tmp (.tmp .nil))) rfl ?_
  exact ⟨g, rest, rfl, Nat.le_trans (below_alloc HB1.out (.cells #[.slice AH 5 cH, .slice A l.length c] 22)).size HGL.out, HG.out, HB2.out⟩

set_option maxHeartbeats 4000000 in
theorem hashed_bad (level bucket : Int) (h : ¬ (0 ≤ level ∧ level < 4 ∧ 1 ≤ bucket ∧ bucket < 128)) (A : Option Addr) (c n : Nat) (w : World) :
    Calls Tryd.prog 4 #[.int .i64 level, .int .i64 bucket, .slice A n c] w fun e w' => e = .returned (.tuple #[.slice none 0 0, .int .i64 2]) ∧ Below w.heap.size w w' := by
  obtain ⟨D, hD⟩ : ∃ D : Bool × Bool × Bool × Bool, decide (level < 0) = D.1 ∧ decide (4 ≤ level) = D.2.1 ∧ decide (bucket < 1) = D.2.2.1 ∧ decide (128 ≤ bucket) = D.2.2.2 := ⟨(_, _, _, _), rfl, rfl, rfl, rfl⟩
  have hD2 : D.1 = true ∨ D.2.1 = true ∨ D.2.2.1 = true ∨ D.2.2.2 = true := by
    obtain ⟨a1, a2, a3, a4⟩ := hD
    rw [← a1, ← a2, ← a3, ← a4]
    simp only [decide_eq_true_eq]
    omega
  obtain ⟨d0, d1, d2, d3⟩ := D
  obtain ⟨e0, e1, e2, e3⟩ := hD
  dsimp only at e0 e1 e2 e3 hD2
  clear h
  rcases d0 with _ | _ <;> rcases d1 with _ | _ <;> rcases d2 with _ | _ <;> rcases d3 with _ | _ <;> first
    | (simp at hD2; done)
    | (clear hD2
       go_enter Tryd.func4, Tryd.ntmps4
       repeat (first | go_values | go_guarded | go_step | go_upon | go_back)
       refine bodyPost_ret (results_list (rs := [.tmp 6, .tmp 7]) rfl (by simp) (.tmp (.tmp .nil))) rfl ?_
       exact ⟨rfl, Below.refl _ _⟩)

set_option maxHeartbeats 8000000 in
set_option maxRecDepth 100000 in
theorem sum_ok (level bucket : Int) (h0 : 0 ≤ level) (h1 : level < 4) (h2 : 1 ≤ bucket) (h3 : bucket < 128) (A : Option Addr) (c : Nat) (l : List Int) (w : World) (hA : Kd.C (Kd.int .u8) w A l.length l) (hl : l.length ≤ 1000) (hk : Ktab w) :
    Calls Tryd.prog 6 #[.int .i64 level, .int .i64 bucket, .slice A l.length c] w fun e w' => e = .returned (.tuple #[.agg ⟨(ofA (headL level bucket ++ l)).map (Value.int .u8)⟩, .int .i64 0]) ∧ Below w.heap.size w w' := by
  have HZ0 := Aside0.mk (heap_alloc_new w (.cells zeroD 29))
  have HB0 := Aside0.mk (below_alloc (Below.refl w.heap.size w) (.cells zeroD 29))
  have hel : (ofA (headL level bucket ++ l)).length = 32 := digestA_length _
  generalize hvs : (ofA (headL level bucket ++ l)).map (Value.int .u8) = vs
  have hone : ∀ v ∈ vs, v.oneCell' = true := by rw [← hvs]; exact one_u8 _
  have hsz2 : vs.length = 32 := by rw [← hvs, List.length_map]; exact hel
  have hi : (Tryd.prog.info? 29).map (·.size) = some (⟨vs⟩ : Array Value).size := by
    rw [show (⟨vs⟩ : Array Value).size = 32 from hsz2]
    rfl
  have hzs : zeroD.size = (⟨vs⟩ : Array Value).size := by rw [show (⟨vs⟩ : Array Value).size = 32 from hsz2]; rfl
  have HVS := Aside0.mk hvs
  have HON := Aside0.mk hone
  clear hel hvs hone hsz2
  have HH := Aside0.mk (fun W (hW : Below w.heap.size w W) => hashed_ok level bucket h0 h1 h2 h3 A c l W (Kd.C_below hA hW) (by omega))
  have HL := Aside0.mk hl
  have HK := Aside0.mk hk
  clear hA hl hk h0 h1 h2 h3
  go_enter Tryd.func6, Tryd.ntmps6
  repeat (first
    | (go_at_call 4; (with_reducible refine (HH.out _ HB0.out).mono ?_); rintro e1 w1 ⟨g, rest, rfl, hgl, hgg, hb⟩; have HCG := Aside0.mk (Kd.C_alloc (C_part (by have := HL.out; simp [headL]; omega) hgg) (.cells #[.slice (some ⟨g, 0, none⟩) (5 + l.length) (5 + l.length)] 22)); have HB1 := Aside0.mk (below_alloc (bl HB0.out hb) (.cells #[.slice (some ⟨g, 0, none⟩) (5 + l.length) (5 + l.length)] 22)); have HZ1 := Aside0.mk (blk_alloc (blk_below HZ0.out hb) (.cells #[.slice (some ⟨g, 0, none⟩) (5 + l.length) (5 + l.length)] 22)); clear hgg hb hgl; (try dsimp only))
    | (go_at_call 13; (refine (of_parts1 _ w1.heap.size (0, 0) 22 (some ⟨g, 0, none⟩) (5 + l.length) (headL level bucket ++ l) ?hg ?k0 ?k1 ?kl ?kk).mono ?_); (case hg => rw [show (headL level bucket ++ l).length = 5 + l.length by simp [headL]; omega]; exact heap_alloc_new w1 _); (case k0 => exact HCG.out); (case k1 => simp [headL]; omega); (case kl => have := HL.out; simp [headL]; omega); (case kk => exact HK.out.below HB1.out); rintro e2 w2 ⟨he, hb⟩; rw [HVS.out] at he; subst he; have HB2 := Aside0.mk (bl HB1.out hb); have HZ2 := Aside0.mk (blk_below HZ1.out hb); clear hb; (try dsimp only))
    | ((with_reducible refine wpList_store 29 (.tmp 6) (.tmp 23) w.heap.size _ _ ⟨vs⟩ rfl rfl ?hx ?hy HZ2.out ?hs ?hi ?h1 ?_); (case h1 => exact HON.out); (case hs => exact hzs); (case hx => rfl); (case hy => rfl); (case hi => exact hi); intro w3 g1 g2 g3 g4; have HG1 := Aside0.mk g1; have HG3 := Aside0.mk (g3 w.heap.size w HB2.out (Nat.le_refl _)); clear g1 g2 g3 g4)
    | go_values | go_guarded | go_step | go_upon | go_back)
  refine bodyPost_ret (results_list (rs := [.cell 6 29, .tmp 7]) rfl (by simp) (.cell w.heap.size _ _ (0, 0) _ rfl HG1.out Tryd.underlying29 rfl hi (.tmp .nil))) rfl ?_
  exact ⟨rfl, HG3.out⟩

set_option maxHeartbeats 4000000 in
set_option maxRecDepth 100000 in
theorem sum_bad (level bucket : Int) (h : ¬ (0 ≤ level ∧ level < 4 ∧ 1 ≤ bucket ∧ bucket < 128)) (A : Option Addr) (c n : Nat) (w : World) :
    Calls Tryd.prog 6 #[.int .i64 level, .int .i64 bucket, .slice A n c] w fun e w' => e = .returned (.tuple #[.agg zeroD, .int .i64 2]) ∧ Below w.heap.size w w' := by
  have HZ0 := Aside0.mk (heap_alloc_new w (.cells zeroD 29))
  have HB0 := Aside0.mk (below_alloc (Below.refl w.heap.size w) (.cells zeroD 29))
  have HH := Aside0.mk (fun W => hashed_bad level bucket h A c n W)
  clear h
  go_enter Tryd.func6, Tryd.ntmps6
  repeat (first
    | (go_at_call 4; (with_reducible refine (HH.out _).mono ?_); rintro e1 w1 ⟨rfl, hb⟩; have HB1 := Aside0.mk (bl HB0.out hb); have HZ1 := Aside0.mk (blk_below HZ0.out hb); clear hb; (try dsimp only))
    | ((with_reducible refine wpList_store 29 (.tmp 6) (.tmp 19) w.heap.size _ _ zeroD rfl rfl ?hx ?hy HZ1.out ?hs ?hi ?h1 ?_); (case h1 => exact one_u8 (List.replicate 32 0)); (case hs => rfl); (case hx => rfl); (case hy => rfl); (case hi => rfl); intro w3 g1 g2 g3 g4; have HG1 := Aside0.mk g1; have HG3 := Aside0.mk (g3 w.heap.size w HB1.out (Nat.le_refl _)); clear g1 g2 g3 g4)
    | go_values | go_guarded | go_step | go_upon | go_back)
  refine bodyPost_ret (results_list (rs := [.cell 6 29, .tmp 7]) rfl (by simp) (.cell w.heap.size _ _ (0, 0) _ rfl HG1.out Tryd.underlying29 rfl rfl (.tmp .nil))) rfl ?_
  exact ⟨rfl, HG3.out⟩

set_option maxHeartbeats 8000000 in
set_option maxRecDepth 100000 in
theorem refDigest_calls (level bucket : Int) (h0 : 0 ≤ level) (h1 : level < 4) (h2 : 1 ≤ bucket) (h3 : bucket < 128) (A : Option Addr) (c : Nat) (l : List Int) (w : World) (hA : Kd.C (Kd.int .u8) w A l.length l) (hc : l.length ≤ c) (hl : l.length ≤ 1000) :
    Calls Tryd.prog 14 #[.int .i64 level, .int .i64 bucket, .slice A l.length c] w fun e w' => e = .returned (.agg ⟨(ofA (headL level bucket ++ l)).map (Value.int .u8)⟩) ∧ Below w.heap.size w w' := by
  have HZ0 := Aside0.mk (heap_alloc_new w (.cells zeroD 29))
  have HB0 := Aside0.mk (below_alloc (Below.refl w.heap.size w) (.cells zeroD 29))
  have hel : (ofA (headL level bucket ++ l)).length = 32 := digestA_length _
  generalize hvs : (ofA (headL level bucket ++ l)).map (Value.int .u8) = vs
  have hone : ∀ v ∈ vs, v.oneCell' = true := by rw [← hvs]; exact one_u8 _
  have hsz2 : vs.length = 32 := by rw [← hvs, List.length_map]; exact hel
  have hi : (Tryd.prog.info? 29).map (·.size) = some (⟨vs⟩ : Array Value).size := by
    rw [show (⟨vs⟩ : Array Value).size = 32 from hsz2]
    rfl
  have hzs : zeroD.size = (⟨vs⟩ : Array Value).size := by rw [show (⟨vs⟩ : Array Value).size = 32 from hsz2]; rfl
  have HVS := Aside0.mk hvs
  have HON := Aside0.mk hone
  clear hel hvs hone hsz2
  have HTX := Aside0.mk (text_ok h0 h1 (by omega : 0 ≤ bucket) h3 l (by omega))
  have HA := Aside0.mk hA
  have HC := Aside0.mk hc
  have HL := Aside0.mk hl
  clear hA hc hl h0 h1 h2 h3
  go_enter Tryd.func14, Tryd.ntmps14
  repeat (first
    | (go_at_call 12; (with_reducible refine (ref11_Text.calls 6 level bucket A c l _ _ (Kd.C_below HA.out HB0.out) HC.out HTX.out).mono ?_); rintro e1 w1 ⟨v, rfl, hR, hb⟩; obtain ⟨AT, cT, hv⟩ := Kd.R_slice hR; subst hv; have HCT := Aside0.mk (Kd.R_reads' hR); have HB1 := Aside0.mk (bl HB0.out hb); have HZ1 := Aside0.mk (blk_below HZ0.out hb); clear hR hb; (try dsimp only))
    | (go_at_call 21; rw [← List.length_append]; (refine (refOf_calls AT cT (headL level bucket ++ l) _ HCT.out.2.2 HCT.out.2.1 (by have := HL.out; simp [headL]; omega)).mono ?_); rintro e2 w2 ⟨he, hb⟩; rw [HVS.out] at he; subst he; have HB2 := Aside0.mk (bl HB1.out hb); have HZ2 := Aside0.mk (blk_below HZ1.out hb); clear hb; (try dsimp only))
    | ((with_reducible refine wpList_store 29 (.tmp 6) (.tmp 11) w.heap.size _ _ ⟨vs⟩ rfl rfl ?hx ?hy HZ2.out ?hs ?hi ?h1 ?_); (case h1 => exact HON.out); (case hs => exact hzs); (case hx => rfl); (case hy => rfl); (case hi => exact hi); intro w3 g1 g2 g3 g4; have HG1 := Aside0.mk g1; have HG3 := Aside0.mk (g3 w.heap.size w HB2.out (Nat.le_refl _)); clear g1 g2 g3 g4)
    | go_values | go_guarded | go_step | go_upon | go_back)
  refine bodyPost_ret (results_single rfl (.cell w.heap.size _ _ (0, 0) _ rfl HG1.out Tryd.underlying29 rfl hi .nil)) rfl ?_
  exact ⟨rfl, HG3.out⟩

set_option maxHeartbeats 8000000 in
set_option maxRecDepth 100000 in
theorem refSum_ok (level bucket : Int) (h0 : 0 ≤ level) (h1 : level < 4) (h2 : 1 ≤ bucket) (h3 : bucket < 128) (A : Option Addr) (c : Nat) (l : List Int) (w : World) (hA : Kd.C (Kd.int .u8) w A l.length l) (hc : l.length ≤ c) (hl : l.length ≤ 1000) :
    Calls Tryd.prog 7 #[.int .i64 level, .int .i64 bucket, .slice A l.length c] w fun e w' => e = .returned (.tuple #[.agg ⟨(ofA (headL level bucket ++ l)).map (Value.int .u8)⟩, .int .i64 0]) ∧ Below w.heap.size w w' := by
  have HZ0 := Aside0.mk (heap_alloc_new w (.cells zeroD 29))
  have HB0 := Aside0.mk (below_alloc (Below.refl w.heap.size w) (.cells zeroD 29))
  have HDG := Aside0.mk (fun W (hW : Below w.heap.size w W) => refDigest_calls level bucket h0 h1 h2 h3 A c l W (Kd.C_below hA hW) hc hl)
  have HMY := Aside0.mk (may_yes h0 h1 h2 h3)
  have hel : (ofA (headL level bucket ++ l)).length = 32 := digestA_length _
  generalize hvs : (ofA (headL level bucket ++ l)).map (Value.int .u8) = vs
  have hone : ∀ v ∈ vs, v.oneCell' = true := by rw [← hvs]; exact one_u8 _
  have hsz2 : vs.length = 32 := by rw [← hvs, List.length_map]; exact hel
  have hi : (Tryd.prog.info? 29).map (·.size) = some (⟨vs⟩ : Array Value).size := by
    rw [show (⟨vs⟩ : Array Value).size = 32 from hsz2]
    rfl
  have hzs : zeroD.size = (⟨vs⟩ : Array Value).size := by rw [show (⟨vs⟩ : Array Value).size = 32 from hsz2]; rfl
  have HVS := Aside0.mk hvs
  have HON := Aside0.mk hone
  clear hel hvs hone hsz2
  clear hA hc hl h0 h1 h2 h3
  go_enter Tryd.func7, Tryd.ntmps7
  repeat (first
    | (go_at_call 11; (with_reducible refine (ref11_may.calls level bucket true _ HMY.out).mono ?_); rintro e1 w1 ⟨rfl, ⟨nd, rfl⟩⟩; have HB1 := Aside0.mk (pw_below_drewN HB0.out nd); have HZ1 := Aside0.mk (blk_drewN HZ0.out nd); (try dsimp only))
    | (go_at_call 14; (with_reducible refine (HDG.out _ HB1.out).mono ?_); rintro e2 w2 ⟨he, hb⟩; rw [HVS.out] at he; subst he; have HB2 := Aside0.mk (bl HB1.out hb); have HZ2 := Aside0.mk (blk_below HZ1.out hb); clear hb; (try dsimp only))
    | ((with_reducible refine wpList_store 29 (.tmp 6) (.tmp 16) w.heap.size _ _ ⟨vs⟩ rfl rfl ?hx ?hy HZ2.out ?hs ?hi ?h1 ?_); (case h1 => exact HON.out); (case hs => exact hzs); (case hx => rfl); (case hy => rfl); (case hi => exact hi); intro w3 g1 g2 g3 g4; have HG1 := Aside0.mk g1; have HG3 := Aside0.mk (g3 w.heap.size w HB2.out (Nat.le_refl _)); clear g1 g2 g3 g4)
    | go_values | go_guarded | go_step | go_upon | go_back)
  refine bodyPost_ret (results_list (rs := [.cell 6 29, .tmp 7]) rfl (by simp) (.cell w.heap.size _ _ (0, 0) _ rfl HG1.out Tryd.underlying29 rfl hi (.tmp .nil))) rfl ?_
  exact ⟨rfl, HG3.out⟩

set_option maxHeartbeats 4000000 in
set_option maxRecDepth 100000 in
theorem refSum_bad (level bucket : Int) (h : ¬ (0 ≤ level ∧ level < 4 ∧ 1 ≤ bucket ∧ bucket < 128)) (A : Option Addr) (c n : Nat) (w : World) :
    Calls Tryd.prog 7 #[.int .i64 level, .int .i64 bucket, .slice A n c] w fun e w' => e = .returned (.tuple #[.agg zeroD, .int .i64 2]) ∧ Below w.heap.size w w' := by
  have HZ0 := Aside0.mk (heap_alloc_new w (.cells zeroD 29))
  have HB0 := Aside0.mk (below_alloc (Below.refl w.heap.size w) (.cells zeroD 29))
  have HMY := Aside0.mk (may_no h)
  clear h
  go_enter Tryd.func7, Tryd.ntmps7
  repeat (first
    | (go_at_call 11; (with_reducible refine (ref11_may.calls level bucket false _ HMY.out).mono ?_); rintro e1 w1 ⟨rfl, ⟨nd, rfl⟩⟩; have HB1 := Aside0.mk (pw_below_drewN HB0.out nd); have HZ1 := Aside0.mk (blk_drewN HZ0.out nd); (try dsimp only))
    | ((with_reducible refine wpList_store 29 (.tmp 6) (.tmp 12) w.heap.size _ _ zeroD rfl rfl ?hx ?hy HZ1.out ?hs ?hi ?h1 ?_); (case h1 => exact one_u8 (List.replicate 32 0)); (case hs => rfl); (case hx => rfl); (case hy => rfl); (case hi => rfl); intro w3 g1 g2 g3 g4; have HG1 := Aside0.mk g1; have HG3 := Aside0.mk (g3 w.heap.size w HB1.out (Nat.le_refl _)); clear g1 g2 g3 g4)
    | go_values | go_guarded | go_step | go_upon | go_back)
  refine bodyPost_ret (results_list (rs := [.cell 6 29, .tmp 7]) rfl (by simp) (.cell w.heap.size _ _ (0, 0) _ rfl HG1.out Tryd.underlying29 rfl rfl (.tmp .nil))) rfl ?_
  exact ⟨rfl, HG3.out⟩
end Go.Proofs.YtncipbbdboeinaaDoor

namespace Go.Proofs.YtncipbbdboeinaaDoor
open Go.RowKit Go.Proofs.YtncipbbdboeinaaDoorW.PrintWords Go.Proofs.YtncipbbdboeinaaDoorW.PrintLast Go.Proofs.YtncipbbdboeinaaDoorW.PrintMore Go.Proofs.YtncipbbdboeinaaDoor.PAll
set_option linter.unusedVariables false
set_option linter.unusedSimpArgs false

theorem same_any (A1 : Option Addr) (n1 c1 : Nat) (A2 : Option Addr) (n2 c2 : Nat) (l : List Int) (w : World) (h1 : Kd.C (Kd.int .u8) w A1 n1 l) (hc1 : n1 ≤ c1) (h2 : Kd.C (Kd.int .u8) w A2 n2 l) (hc2 : n2 ≤ c2) :
    Calls Tryd.prog 8 #[.slice A1 n1 c1, .slice A2 n2 c2] w fun e w' => e = .returned (.bool true) ∧ Below w.heap.size w w' := by
  obtain rfl : l.length = n1 := h1.1
  obtain rfl : l.length = n2 := h2.1
  refine (ref01_Same.calls A1 c1 l A2 c2 l true w h1 hc1 h2 hc2 (by simp [ref01_Same.f])).mono ?_
  rintro e w' ⟨rfl, ⟨nd, rfl⟩⟩
  exact ⟨rfl, pw_below_drewN (Below.refl _ _) nd⟩
theorem set_part {xs : List Int} {rest : List Value} {i : Nat} (h : i < xs.length) (z : Int) : (⟨xs.map (Value.int .u8) ++ rest⟩ : Array Value).setIfInBounds i (.int .u8 z) = ⟨(xs.set i z).map (Value.int .u8) ++ rest⟩ := by
  simp only [List.setIfInBounds_toArray]
  congr 1
  rw [List.set_append_left _ _ (by simpa using h), List.map_set]
def law11_SealSums.f (k : Nat) (a0 a1 : Int) (l : List Int) : Option Bool := some true

set_option maxHeartbeats 4000000 in
theorem sums_big (level bucket : Int) (B : Option Addr) (cb : Nat) (lb : List Int) (w : World) (hbig : 1000 < lb.length) :
    Calls Tryd.prog 3 #[.int .i64 level, .int .i64 bucket, .slice B lb.length cb] w fun e w' => e = .returned (.bool true) ∧ Below w.heap.size w w' := by
  have d0 : decide ((1000 : Int) < (lb.length : Int)) = true := decide_eq_true (by omega)
  clear hbig
  go_enter Tryd.func3, Tryd.ntmps3
  repeat (first | go_values | go_guarded | go_step | go_upon | go_back)
  go_ret
  exact ⟨rfl, Below.refl _ _⟩

set_option maxHeartbeats 16000000 in
set_option maxRecDepth 100000 in
theorem sums_walk (level bucket : Int) (B : Option Addr) (cb : Nat) (lb : List Int) (lx : List Int) (N : Nat) (er : Int) (dg : List Int) (hN2 : N ≤ 2000) (hdg : dg.length = 32) (w : World)
    (hH : ∀ (A : Option Addr) (c : Nat) (W : World), Kd.C (Kd.int .u8) W A lb.length lb → Calls Tryd.prog 4 #[.int .i64 level, .int .i64 bucket, .slice A lb.length c] W fun e w' => ∃ X, e = .returned (.tuple #[.slice X N N, .int .i64 er]) ∧ Kd.C (Kd.int .u8) w' X N lx ∧ (N ≠ 0 → ∃ g rest, X = some ⟨g, 0, none⟩ ∧ W.heap.size ≤ g ∧ w'.heap[g]? = some (.cells ⟨lx.map (Value.int .u8) ++ rest⟩ 5 (0, 0))) ∧ Below W.heap.size W w')
    (hR : ∀ (A : Option Addr) (c : Nat) (W : World), Kd.C (Kd.int .u8) W A lb.length lb → lb.length ≤ c → Calls Tryd.prog 5 #[.int .i64 level, .int .i64 bucket, .slice A lb.length c] W fun e w' => ∃ Y cY, e = .returned (.tuple #[.slice Y N cY, .int .i64 er]) ∧ N ≤ cY ∧ Kd.C (Kd.int .u8) w' Y N lx ∧ Below W.heap.size W w')
    (hS : ∀ (A : Option Addr) (c : Nat) (W : World), Kd.C (Kd.int .u8) W A lb.length lb → Ktab W → Calls Tryd.prog 6 #[.int .i64 level, .int .i64 bucket, .slice A lb.length c] W fun e w' => e = .returned (.tuple #[.agg ⟨dg.map (Value.int .u8)⟩, .int .i64 er]) ∧ Below W.heap.size W w')
    (hT : ∀ (A : Option Addr) (c : Nat) (W : World), Kd.C (Kd.int .u8) W A lb.length lb → lb.length ≤ c → Calls Tryd.prog 7 #[.int .i64 level, .int .i64 bucket, .slice A lb.length c] W fun e w' => e = .returned (.tuple #[.agg ⟨dg.map (Value.int .u8)⟩, .int .i64 er]) ∧ Below W.heap.size W w')
    (hB : Kd.C (Kd.int .u8) w B lb.length lb) (hcb : lb.length ≤ cb) (hlb : lb.length ≤ 1000) (hk : Ktab w) :
    Calls Tryd.prog 3 #[.int .i64 level, .int .i64 bucket, .slice B lb.length cb] w fun e w' => e = .returned (.bool true) ∧ Below w.heap.size w w' := by
  have d0 : decide ((1000 : Int) < (lb.length : Int)) = false := decide_eq_false (by omega)
  generalize hvs : dg.map (Value.int .u8) = vs at hS hT
  have heq := eq_digest hdg hvs
  have hone : ∀ v ∈ vs, v.oneCell' = true := by rw [← hvs]; exact one_u8 _
  have hsz2 : vs.length = 32 := by rw [← hvs, List.length_map]; exact hdg
  have hi : (Tryd.prog.info? 29).map (·.size) = some (⟨vs⟩ : Array Value).size := by
    rw [show (⟨vs⟩ : Array Value).size = 32 from hsz2]
    rfl
  have hzs : zeroD.size = (⟨vs⟩ : Array Value).size := by rw [show (⟨vs⟩ : Array Value).size = 32 from hsz2]; rfl
  have HON := Aside0.mk hone
  have HEQ := Aside0.mk heq
  have HH := Aside0.mk hH
  have HR := Aside0.mk hR
  have HS := Aside0.mk hS
  have HT := Aside0.mk hT
  have HBb := Aside0.mk hB
  have HCB := Aside0.mk hcb
  have HLB := Aside0.mk hlb
  have HK := Aside0.mk hk
  have HN2 := Aside0.mk hN2
  clear hvs heq hone hH hR hS hT hB hcb hlb hk hdg hsz2 hN2
  go_enter Tryd.func3, Tryd.ntmps3
  repeat (first
    | ((with_reducible refine gate_dst (N := 21) rfl ?_); refine Kd.R_lit (Kd.int .u8) _ 5 ?hg (N := 21) ?hd (xs := ([] : List Int)) (inner := []) (ok := fun _ => True) (okp := fun _ => True) ?hr ?hp (fun _ hk => hk) trivial (Below.refl _ _) (Nat.le_refl _) (by simp) ?_; (case hd => rfl); (case hg => rfl); (case hr => first | (go_simp; done) | (go_simp; rfl)); (case hp => exact (Reps.none _ _)); intro v1 w1 ho hb hg_ hnew_; have HB1 := Aside0.mk hb; have HO1 := Aside0.mk ho; clear hg_ hnew_ ho hb)
    | ((with_reducible refine gate_builtin (b := .append) (xs := #[.tmp 21, .tmp 22]) rfl ?_); at_builtin; refine Kd.R_append_rows (Kd.int .u8) (w0 := w) w.heap.size rfl (.tmp 21) (.tmp 22) 22 5 (.int .u8 0) 1 rfl Tryd.underlying22 info5 rfl (by decide) (by omega) v1 [] lb _ _ _ (fun _ => True) (fun _ => False) rfl rfl ?aO ?aR (fun _ _ h => h) (fun _ h => h.elim) ?aF ?aB ?aS ?aL ?_; (case aR => exact Kd.C_below HBb.out HB1.out); (case aB => exact HB1.out); (case aF => exact (fun _ _ => trivial)); (case aO => exact HO1.out); (case aS => exact HB1.out.size); (case aL => have := HLB.out; simp; omega); intro v2 wM ho hb hg hat; rw [List.nil_append] at ho; obtain ⟨AM, cM, rfl⟩ := Kd.R_slice ho; have HMM := Aside0.mk (Kd.R_reads' ho).2.2; have HCM := Aside0.mk (Kd.R_reads' ho).2.1; have HBM := Aside0.mk hb; clear ho hb hg hat HO1 HB1)
    | (go_at_call 4; (with_reducible refine (HH.out AM cM wM HMM.out).mono ?_); rintro e3 w3 ⟨X, rfl, hcx, hblk, hb⟩; have HCX := Aside0.mk hcx; have HBX := Aside0.mk hblk; have HBL := Aside0.mk hb; clear hcx hblk hb; (try dsimp only))
    | (go_at_call 5; (with_reducible refine (HR.out B cb w3 (Kd.C_below HBb.out (bl HBM.out HBL.out)) HCB.out).mono ?_); rintro e4 w4 ⟨Y, cY, rfl, hcy, hCY, hb⟩; have HcY := Aside0.mk hcy; have HCY := Aside0.mk hCY; have HCX := Aside0.mk (Kd.C_below HCX.out hb); have HBX := Aside0.mk (fun h => by obtain ⟨g, rest, hx, hg, hc⟩ := HBX.out h; exact ⟨g, rest, hx, hg, blk_below hc hb⟩ : N ≠ 0 → ∃ g rest, X = some ⟨g, 0, none⟩ ∧ wM.heap.size ≤ g ∧ w4.heap[g]? = some (.cells ⟨lx.map (Value.int .u8) ++ rest⟩ 5 (0, 0))); have HBL := Aside0.mk (bl HBL.out hb); clear hcy hCY hb; (try dsimp only))
    | (go_at_call 6; (with_reducible refine (HS.out AM cM w4 (Kd.C_below HMM.out HBL.out) (HK.out.below (bl HBM.out HBL.out))).mono ?_); rintro e5 w5 ⟨rfl, hb⟩; have HBc := Aside0.mk hb; have HNN := Aside0.mk (heap_alloc_new w5 (.cells zeroD 29)); clear hb; (try dsimp only))
    | ((with_reducible refine wpList_store 29 (.tmp 12) (.tmp 43) w5.heap.size _ _ ⟨vs⟩ rfl rfl ?hx ?hy HNN.out hzs hi HON.out ?_); (case hx => rfl); (case hy => rfl); intro w6 q1 q2 q3 q4; have G12 := Aside0.mk q1; have hb := q3 w4.heap.size w4 (below_alloc HBc.out (.cells zeroD 29)) HBc.out.size; have HCX := Aside0.mk (Kd.C_below HCX.out hb); have HCY := Aside0.mk (Kd.C_below HCY.out hb); have HBX := Aside0.mk (fun h => by obtain ⟨g, rest, hx, hg, hc⟩ := HBX.out h; exact ⟨g, rest, hx, hg, blk_below hc hb⟩ : N ≠ 0 → ∃ g rest, X = some ⟨g, 0, none⟩ ∧ wM.heap.size ≤ g ∧ w6.heap[g]? = some (.cells ⟨lx.map (Value.int .u8) ++ rest⟩ 5 (0, 0))); have HBL := Aside0.mk (bl HBL.out hb); clear q1 q2 q3 q4 hb HNN HBc; generalize w5.heap.size = g12 at *)
    | (go_at_call 7; (with_reducible refine (HT.out B cb w6 (Kd.C_below HBb.out (bl HBM.out HBL.out)) HCB.out).mono ?_); rintro e7 w7 ⟨rfl, hb⟩; have HBc := Aside0.mk hb; have HNN := Aside0.mk (heap_alloc_new w7 (.cells zeroD 29)); clear hb; (try dsimp only))
    | ((with_reducible refine wpList_store 29 (.tmp 14) (.tmp 50) w7.heap.size _ _ ⟨vs⟩ rfl rfl ?hx ?hy HNN.out hzs hi HON.out ?_); (case hx => rfl); (case hy => rfl); intro w8 q1 q2 q3 q4; have G14 := Aside0.mk q1; have hb := q3 w6.heap.size w6 (below_alloc HBc.out (.cells zeroD 29)) HBc.out.size; have HCX := Aside0.mk (Kd.C_below HCX.out hb); have HCY := Aside0.mk (Kd.C_below HCY.out hb); have HBX := Aside0.mk (fun h => by obtain ⟨g, rest, hx, hg, hc⟩ := HBX.out h; exact ⟨g, rest, hx, hg, blk_below hc hb⟩ : N ≠ 0 → ∃ g rest, X = some ⟨g, 0, none⟩ ∧ wM.heap.size ≤ g ∧ w8.heap[g]? = some (.cells ⟨lx.map (Value.int .u8) ++ rest⟩ 5 (0, 0))); have HBL := Aside0.mk (bl HBL.out hb); have G12 := Aside0.mk (blk_below G12.out hb); clear q1 q2 q3 q4 hb HNN HBc; generalize w7.heap.size = g14 at *)
    | (go_at_call 8; (with_reducible refine (same_any X N N Y N cY lx w8 HCX.out (Nat.le_refl _) HCY.out HcY.out).mono ?_); rintro e9 w9 ⟨rfl, hb⟩; have HCX := Aside0.mk (Kd.C_below HCX.out hb); have HCY := Aside0.mk (Kd.C_below HCY.out hb); have HBX := Aside0.mk (fun h => by obtain ⟨g, rest, hx, hg, hc⟩ := HBX.out h; exact ⟨g, rest, hx, hg, blk_below hc hb⟩ : N ≠ 0 → ∃ g rest, X = some ⟨g, 0, none⟩ ∧ wM.heap.size ≤ g ∧ w9.heap[g]? = some (.cells ⟨lx.map (Value.int .u8) ++ rest⟩ 5 (0, 0))); have HBL := Aside0.mk (bl HBL.out hb); have G12 := Aside0.mk (blk_below G12.out hb); have G14 := Aside0.mk (blk_below G14.out hb); have hq := HEQ.out w9; clear hb; (try dsimp only))
    | ((with_reducible refine wpList_load_g 29 (.tmp 12) g12 _ _ _ ?hw rfl ?hx G12.out Tryd.underlying29 ?hd hi ?_); (case hw => rfl); (case hx => rfl); (case hd => rfl))
    | ((with_reducible refine wpList_load_g 29 (.tmp 14) g14 _ _ _ ?hw rfl ?hx G14.out Tryd.underlying29 ?hd hi ?_); (case hw => rfl); (case hx => rfl); (case hd => rfl))
    | go_values | go_guarded | go_step | go_upon | go_back)
  have hstart : Aside0 (N ≠ 0 → ∃ g xs rest, X = some ⟨g, 0, none⟩ ∧ wM.heap.size ≤ g ∧ xs.length = N ∧ w9.heap[g]? = some (.cells ⟨(xs : List Int).map (Value.int .u8) ++ rest⟩ 5 (0, 0))) := ⟨fun h => by
    obtain ⟨g, rest, hx, hg, hc⟩ := HBX.out h
    exact ⟨g, lx, rest, hx, hg, HCX.out.1, hc⟩⟩
  clear hq HCX HBX HCY G12 G14
  go_loopw [17] (fun v17 wr => ∃ i : Nat, v17 = .int .i64 i ∧ i ≤ N ∧ Aside0 (N ≠ 0 → ∃ g xs rest, X = some ⟨g, 0, none⟩ ∧ wM.heap.size ≤ g ∧ xs.length = N ∧ wr.heap[g]? = some (.cells ⟨(xs : List Int).map (Value.int .u8) ++ rest⟩ 5 (0, 0))) ∧ Aside0 (Below wM.heap.size wM wr)) (fun v17 _ => N - (intOf v17).toNat)
  case atStart => exact ⟨0, rfl, by omega, hstart, HBL⟩
  case round =>
    clear hstart HBL
    obtain ⟨i, rfl, hiN, HX, HBL⟩ := hrel
    have hN63 : (N : Int) ≤ 2000 := by have := HN2.out; omega
    by_cases hlt : i < N
    · have hd1 : decide ((i : Int) < (N : Int)) = true := decide_eq_true (by omega)
      have hk2 : (i : Int) < (N : Int) := by omega
      obtain ⟨g, xs, rest, hxg, hgb, hxl, hgc⟩ := HX.out (by omega)
      have hcell : wr.cell? ⟨g, i, none⟩ = some (.int .u8 (xs.getD i 0)) := by
        rw [blk_cell hgc i, List.getElem?_toArray, List.getElem?_append_left (by simp; omega), List.getElem?_map, List.getElem?_eq_getElem (by omega)]
        simp [List.getD_eq_getElem?_getD, List.getElem?_eq_getElem (show i < xs.length by omega)]
      have hfz := blk_frozen hgc i
      have hset := blk_set hgc i (.int .u8 ((xs.getD i 0 + 1) % 256))
      rw [set_part (by omega)] at hset
      have hbb := HBL.out.setCell (p := ⟨g, i, none⟩) hgb (.int .u8 ((xs.getD i 0 + 1) % 256))
      have HSET := Aside0.mk hset
      have HBB := Aside0.mk hbb
      have HXG := Aside0.mk hxg
      have hxl2 : (xs.set i ((xs.getD i 0 + 1) % 256)).length = N := by rw [List.length_set]; exact hxl
      have HXL := Aside0.mk hxl2
      generalize xs.set i ((xs.getD i 0 + 1) % 256) = xs2 at HSET HXL
      generalize xs.getD i 0 = z at hcell HSET HBB
      have hgbA := Aside0.mk hgb
      clear hset hbb hgc hxl2 hxl HX HBL
      subst hxg
      go_wp2
      exact ⟨⟨i + 1, rfl, by omega, ⟨fun _ => ⟨g, xs2, rest, rfl, hgbA.out, HXL.out, HSET.out⟩⟩, HBB⟩, by simp [intOf]; omega⟩
    · have hd1 : decide ((i : Int) < (N : Int)) = false := decide_eq_false (by omega)
      repeat (first
        | (go_at_call 8; (with_reducible refine (same_any AM lb.length cM B lb.length cb lb wr (Kd.C_below HMM.out HBL.out) HCM.out (Kd.C_below HBb.out (bl HBM.out HBL.out)) HCB.out).mono ?_); rintro e15 w15 ⟨rfl, hb⟩; have HBE := Aside0.mk (bl HBL.out hb); clear hb; (try dsimp only))
        | go_values | go_guarded | go_step | go_upon | go_back)
      go_ret
      exact ⟨rfl, bl HBM.out HBE.out⟩

theorem law11_SealSums.calls (k : Nat) (level bucket : Int) (B : Option Addr) (cb : Nat) (lb : List Int) (r : Bool) (w : World) (hB : Kd.C (Kd.int .u8) w B lb.length lb) (hcb : lb.length ≤ cb) (h : law11_SealSums.f k level bucket lb = some r) (hk : Ktab w) :
    Calls Tryd.prog 3 #[.int .i64 level, .int .i64 bucket, .slice B lb.length cb] w fun e w' => e = .returned (.bool r) ∧ Below w.heap.size w w' := by
  obtain rfl : true = r := by simpa [law11_SealSums.f] using h
  by_cases hbig : 1000 < lb.length
  · exact sums_big level bucket B cb lb w hbig
  · by_cases hmay : 0 ≤ level ∧ level < 4 ∧ 1 ≤ bucket ∧ bucket < 128
    · obtain ⟨h0, h1, h2, h3⟩ := hmay
      have hlx : (headL level bucket ++ lb).length = 5 + lb.length := by simp [headL]; omega
      refine sums_walk level bucket B cb lb (headL level bucket ++ lb) (5 + lb.length) 0 (ofA (headL level bucket ++ lb)) (by omega) (digestA_length _) w ?_ ?_ ?_ ?_ hB hcb (by omega) hk
      · intro A c W hA
        refine (hashed_ok level bucket h0 h1 h2 h3 A c lb W hA (by omega)).mono ?_
        rintro e w' ⟨g, rest, rfl, hgl, hgg, hb⟩
        refine ⟨_, rfl, ?_, fun _ => ⟨g, rest, rfl, hgl, hgg⟩, hb⟩
        have := C_part (by omega) hgg
        rw [hlx] at this
        exact this
      · intro A c W hA hc
        refine (ref11_Hashed.calls 6 level bucket A c lb (headL level bucket ++ lb) 0 W hA hc (by unfold ref11_Hashed.f; rw [may_yes h0 h1 h2 h3]; simp only [Option.bind_some, if_pos]; rw [text_ok h0 h1 (by omega) h3 lb (by omega)]; rfl)).mono ?_
        rintro e w' ⟨v, rfl, hR, hb⟩
        obtain ⟨AY, cY, rfl⟩ := Kd.R_slice hR
        rw [hlx] at hR
        have hC := (Kd.R_reads' hR).2.2
        rw [hlx] at hC
        exact ⟨AY, cY, by rw [hlx], (Kd.R_reads' hR).2.1, hC, hb⟩
      · intro A c W hA hK
        exact sum_ok level bucket h0 h1 h2 h3 A c lb W hA (by omega) hK
      · intro A c W hA hc
        exact refSum_ok level bucket h0 h1 h2 h3 A c lb W hA hc (by omega)
    · refine sums_walk level bucket B cb lb [] 0 2 (List.replicate 32 0) (by omega) rfl w ?_ ?_ ?_ ?_ hB hcb (by omega) hk
      · intro A c W hA
        refine (hashed_bad level bucket hmay A c lb.length W).mono ?_
        rintro e w' ⟨rfl, hb⟩
        exact ⟨none, rfl, Kd.C_nil _ _, fun h => absurd rfl h, hb⟩
      · intro A c W hA hc
        refine (ref11_Hashed.calls 6 level bucket A c lb [] 2 W hA hc (by unfold ref11_Hashed.f; rw [may_no hmay]; rfl)).mono ?_
        rintro e w' ⟨v, rfl, hR, hb⟩
        obtain ⟨AY, cY, rfl⟩ := Kd.R_slice hR
        exact ⟨AY, cY, rfl, (Kd.R_reads' hR).2.1, (Kd.R_reads' hR).2.2, hb⟩
      · intro A c W hA hK
        exact sum_bad level bucket hmay A c lb.length W
      · intro A c W hA hc
        exact refSum_bad level bucket hmay A c lb.length W
end Go.Proofs.YtncipbbdboeinaaDoor
