/-
stream.blocks: the iterator over a stream's blocks: what it yields, without end.
-/
import Derived.Test.YteichdiioidlcaaEndless
import Derived.Test.YteichdiioidlcaaSxNonce
import Derived.Deep.MidRow
namespace Go.Proofs.Yteichdiioidlcaa
open Go.RowKit Go.Shelf Go.Proofs.YteichdiioidlcaaW.PrintWords Go.Proofs.YteichdiioidlcaaW.PrintLast Go.Proofs.YteichdiioidlcaaW.PrintMore
open Go.Proofs.Yteichdiioidlcaa.SxCha (ten wordsL blockL nonceL block_calls)
set_option linter.unusedVariables false
set_option linter.unusedSimpArgs false
attribute [local go_sem] Oper.semAt_some

/-- A stream's block, by its count. -/
def streamB (k n : List Int) (c : Nat) : List Int := blockL (ten (wordsL k (c : Int) n)) (wordsL k (c : Int) n)
def B8 (x : Int) : Prop := IntKind.u8.min ≤ x ∧ x ≤ IntKind.u8.max

set_option maxHeartbeats 1000000 in
theorem blocks_in (m : Nat) (k n : Array Value) (w : World) :
    CallsIn Fence.wide m Try.prog 35 #[.agg k, .agg n] w fun e w' => e = .returned (.func (.func 38) #[] #[.pointer (some ⟨w.heap.size, 0, none⟩), .pointer (some ⟨w.heap.size + 1, 0, none⟩)]) ∧ w' = (w.alloc (.cells k 38)).alloc (.cells n 42) := by
  refine callsIn_of_wp Try.func35 rfl trivial ?_
  simp only [Try.ntmps35, List.size_toArray, List.length_cons, List.length_nil, Nat.reduceAdd, Nat.reduceSub, Array.replicate_succ, Array.replicate_zero, List.push_toArray, List.append_toArray, List.nil_append, List.cons_append]
  gi_wp2
  go_ret
  exact ⟨rfl, rfl⟩

theorem load_row {W : World} {b t u : Nat} {l : List Int} {d : TypeDesc} {m : Nat} (hl : l.length = m) (h : W.heap[b]? = some (.cells ⟨l.map (Value.int .u8)⟩ u (0, 0)))
    (hu : Try.prog.underlying t = some d) (hd : d.isRow = true) (hi : (Try.prog.info? t).map (·.size) = some m) :
    (Instr.loadAt t (.pointer (some ⟨b, 0, none⟩))).run Try.prog W = .ok (.agg ⟨l.map (Value.int .u8)⟩) W :=
  run_loadAt_mid W b 0 t (l.map (Value.int .u8)) d (fun j v hv => by rw [Nat.zero_add, blk_cell h j]; simpa using hv) hu hd (by rw [hi, List.length_map, hl])

theorem gate_in {F : Fence} {n : Nat} {P : Program} {o : Oper} {a : Act} {w w' : World} {K : Act → World → Prop} {Q : Exit → Act → World → Prop} {v : Value} (hd : ∀ c, o.op ≠ .defer c) (hc : ∀ c, o.op ≠ .call c)
    (hr : (execOp a.eval o).run P w = .ok (.value v) w') (h : K (a.put o.dst v) w') : o.wpIn F n P a w K Q := by
  refine ⟨fun f hf => ?_, ?_⟩
  · unfold Oper.about at hf
    split at hf
    · rename_i c hcc
      exact absurd hcc (hc c)
    · cases hf
  · rw [Oper.semAt_eq _ _ _ hd, hr]
    exact h
theorem gate_load_in {F : Fence} {n : Nat} {P : Program} {o : Oper} {a : Act} {w : World} {K : Act → World → Prop} {Q : Exit → Act → World → Prop} {t : TypeId} {x : Operand} {p v : Value}
    (ho : o.op = .load t x) (hx : a.eval x = p) (hl : (Instr.loadAt t p).run P w = .ok v w) (h : K (a.put o.dst v) w) : o.wpIn F n P a w K Q := by
  refine gate_in (fun c e => by rw [ho] at e; cases e) (fun c e => by rw [ho] at e; cases e) ?_ h
  obtain ⟨dst, op, type, pos, after, guard⟩ := o
  simp only at ho
  subst ho
  simp only [execOp, hx, Sem.run_bind, hl, Result.andThen_ok, Sem.run_pure]

set_option maxHeartbeats 4000000 in
set_option maxRecDepth 100000 in
theorem blocks1_seq (m : Nat) (hm : 1 ≤ m) (N B1 B2 : Nat) (k n : List Int) (hN : N ≤ 4294967295) (hkl : k.length = 32) (hnl : n.length = 12)
    (hk : ∀ x ∈ k, B8 x) (hn : ∀ x ∈ n, B8 x) :
    SeqEndless Fence.wide m Try.prog 38 #[.pointer (some ⟨B1, 0, none⟩), .pointer (some ⟨B2, 0, none⟩)] (fun c => #[.agg ⟨(streamB k n c).map (Value.int .u8)⟩]) N
      (fun V => V.heap[B1]? = some (.cells ⟨k.map (Value.int .u8)⟩ 38 (0, 0)) ∧ V.heap[B2]? = some (.cells ⟨n.map (Value.int .u8)⟩ 42 (0, 0))) := by
  intro l J Jx W hJb hJN hY h0
  have HY := Aside1.mk hY
  have HJb := Aside1.mk hJb
  have HJN := Aside1.mk hJN
  have HK := Aside1.mk hk
  have HN := Aside1.mk hn
  have H0 := Aside1.mk h0
  have HNN := Aside1.mk hN
  have HKL := Aside1.mk hkl
  have HNL := Aside1.mk hnl
  clear hY hJb hJN hk hn h0 hN hkl hnl
  refine callsIn_of_wp Try.func38 rfl trivial ?_
  simp only [Try.ntmps38, List.size_toArray, List.length_cons, List.length_nil, Nat.reduceAdd, Nat.reduceSub, Array.replicate_succ, Array.replicate_zero, List.push_toArray, List.append_toArray, List.nil_append, List.cons_append]
  gi_wp2
  gi_loopw [4] (fun i wr => ∃ c : Nat, i = .int .u32 c ∧ Aside1 (J c wr)) (fun i _ => N - (intOf i).toNat)
  case atStart => exact ⟨0, rfl, H0⟩
  case round =>
    obtain ⟨c, rfl, HJ⟩ := hrel
    clear H0
    obtain ⟨hcN, hb1, hb2⟩ := HJN.out c wr HJ.out
    have hl1 := load_row (t := 38) HKL.out hb1 rfl rfl rfl
    have hl2 := load_row (t := 42) HNL.out hb2 rfl rfl rfl
    have HC := Aside1.mk hcN
    clear hb1 hb2 hcN
    repeat (first | ((with_reducible refine gate_load_in (x := .tmp 1) ?_ ?_ hl1 ?_); rfl; rfl; go_simp) | ((with_reducible refine gate_load_in (x := .tmp 2) ?_ ?_ hl2 ?_); rfl; rfl; go_simp) | (refine ⟨trivial, ?_⟩; gi_at_call 21; refine (callsIn_wide.2 (block_calls k n c HKL.out HNL.out HK.out HN.out (by have := HC.out; have := HNN.out; unfold U32; omega) _)).mono ?_; rintro e w2 ⟨rfl, hw2⟩; obtain ⟨fn, tmps, assign, body, hy, hR⟩ := HY.out c w2 (HJb.out _ _ _ HJ.out hw2); have HR := Aside1.mk hR; dsimp only [streamB] at hy; clear hw2 hR; dsimp only) | go_values | gi_guarded | gi_step | gi_upon | gi_back)
    refine HR.out.mono ?_
    clear HR hy
    rintro e W3 hq
    obtain ⟨b, rfl, HJ3⟩ := yielded_bool hq
    clear hq
    rcases HJ3.out with ⟨hb, hJ3⟩ | ⟨hb, hJ3⟩
    · subst hb
      clear HJ3
      have HJ3 := Aside1.mk hJ3
      obtain ⟨hc1, -⟩ := HJN.out _ _ hJ3
      have HC1 := Aside1.mk hc1
      have hwr : IntKind.u32.wrap ((c : Int) + 1) = ((c + 1 : Nat) : Int) := by
        simp [IntKind.wrap, IntKind.signed, IntKind.bits]
        have := HNN.out
        omega
      have hwm : ((c : Int) + 1) % 4294967296 = ((c + 1 : Nat) : Int) := by
        have := HNN.out
        omega
      clear hJ3 hl1 hl2 hc1
      gi_wp2
      go_roundw
      case rel => exact ⟨c + 1, rfl, HJ3⟩
      case measure => simp [intOf]; have := HC.out; omega
    · subst hb
      clear HJ3
      gi_wp2
      go_end0
      exact ⟨⟨_, rfl⟩, hJ3⟩
end Go.Proofs.Yteichdiioidlcaa
