/-
chacha.rolls: the iterator over how far words are rolled: what it yields, whatever the loop's body does that keeps all cells but one block's.
-/
import Derived.RangeFuncNested
import Derived.RangeFuncBound
import Derived.RangeFuncCalls
import Derived.RangeFuncLeaves
import Derived.RangeFuncBox
import Derived.Shelf.Abstract
import Derived.Shelf.RegionOpen
import Derived.WalkKit
import Derived.OwnWalkIn
import Derived.TacticsInMore
import Derived.LoopNIn
import Derived.LoopIn
import Derived.Deep.QuietTactic
import Derived.BigQuiet
import Derived.Maps.AppendAt
import Derived.Test.YteichdiioidlcaaProg
import Derived.Test.YteichdiioidlcaaHandWords
namespace Go.Proofs.Yteichdiioidlcaa
open Go.RowKit Go.Shelf Go.Proofs.YteichdiioidlcaaW.PrintWords Go.Proofs.YteichdiioidlcaaW.PrintLast Go.Proofs.YteichdiioidlcaaW.PrintMore
set_option linter.unusedVariables false
set_option linter.unusedSimpArgs false
attribute [local go_sem] Oper.semAt_some

/-- What has come when k rounds are over. -/
def upto {α : Type} (f : Nat → α) (k : Nat) : List α := (List.range k).map f
theorem upto_succ {α : Type} (f : Nat → α) (k : Nat) : upto f (k + 1) = upto f k ++ [f k] := by simp [upto, List.range_succ]
theorem upto_length {α : Type} (f : Nat → α) (k : Nat) : (upto f k).length = k := by simp [upto]

/-- All cells lie as they lay, but block q's. -/
def KeepC (q : Nat) (W W' : World) : Prop := ∀ b cs t fr, b ≠ q → W.heap[b]? = some (.cells cs t fr) → W'.heap[b]? = some (.cells cs t fr)
theorem KeepC.refl (q : Nat) (W : World) : KeepC q W W := fun _ _ _ _ _ h => h
theorem KeepC.trans {q : Nat} {A B C : World} (h : KeepC q A B) (k : KeepC q B C) : KeepC q A C := fun b cs t fr hb e => k b cs t fr hb (h b cs t fr hb e)
theorem KeepC.of_drew {q : Nat} {A B : World} (h : KeepC q A.drew B) : KeepC q A B := h
theorem KeepC.put {q n : Nat} (W : World) (l : Nat) (o o' : Obj) (hl : n ≤ l) (h : W.heap[l]? = some o) (h1 : o.isCells = false) (h2 : o.isWalk = false) : KeepC q W (W.putObj l o') := fun b cs t fr hb e => by
  by_cases hbl : b = l
  · subst hbl
    rw [h] at e
    injection e with e
    subst e
    cases h1
  · rw [← e]
    exact (grownBy_putObj' W l o').block b (Array.getElem?_eq_some_iff.1 e).1 (by simpa using hbl)
theorem KeepC.set {q : Nat} (W : World) (i : Nat) (v : Value) : KeepC q W (W.setCell ⟨q, i, none⟩ v) := fun b cs t fr hb e => by
  rw [← e]; exact Below.heap_setCell W _ v b hb
theorem KeepC.alloc {q : Nat} (W : World) (o : Obj) : KeepC q W (W.alloc o) := fun b cs t fr hb e => blk_alloc e o

structure Aside1 (p : Prop) : Prop where mk :: (out : p)
/-- What a round has said, as one Bool. -/
theorem yielded_bool {e : Ending} {p q : Prop} (h : (e = .returned (.bool true) ∧ p) ∨ (e = .returned (.bool false) ∧ q)) : ∃ b, e = .returned (.bool b) ∧ Aside1 ((b = true ∧ p) ∨ (b = false ∧ q)) := by
  rcases h with ⟨rfl, h⟩ | ⟨rfl, h⟩
  · exact ⟨true, rfl, ⟨.inl ⟨rfl, h⟩⟩⟩
  · exact ⟨false, rfl, ⟨.inr ⟨rfl, h⟩⟩⟩
theorem abides_alloc {β : Type} {B : Nat} {J : β → World → Prop} (h : AbidesFrom B J) (s : β) (W : World) (o : Obj) (hs : J s W) : J s (W.alloc o) :=
  h s W (W.alloc o) none hs (World.grownBy_alloc W o none) (fun r e => by cases e)
theorem abides_drew {β : Type} {B : Nat} {J : β → World → Prop} (h : AbidesFrom B J) (s : β) (W : World) (hs : J s W) : J s W.drew :=
  h s W W.drew none hs ⟨rfl, rfl, rfl, Nat.le_refl _, fun _ _ _ => rfl⟩ (fun r e => by cases e)

/-- How far a word is rolled, and which. -/
abbrev Roll := { x : Int × Bool // x.1 = 16 ∨ x.1 = 12 ∨ x.1 = 8 ∨ x.1 = 7 }
/-- How far, and whether that is one of the words a and d: the k-th. -/
def rollOf (back : Bool) (k : Nat) : Roll := match back, k with
  | false, 0 => ⟨(16, true), .inl rfl⟩ | false, 1 => ⟨(12, false), .inr (.inl rfl)⟩ | false, 2 => ⟨(8, true), .inr (.inr (.inl rfl))⟩ | false, _ => ⟨(7, false), .inr (.inr (.inr rfl))⟩
  | true, 0 => ⟨(7, false), .inr (.inr (.inr rfl))⟩ | true, 1 => ⟨(8, true), .inr (.inr (.inl rfl))⟩ | true, 2 => ⟨(12, false), .inr (.inl rfl)⟩ | true, _ => ⟨(16, true), .inl rfl⟩

set_option maxHeartbeats 4000000 in
set_option maxRecDepth 100000 in
theorem rolls1_in (n : Nat) (hn : 1 ≤ n) (l Bb q : Nat) (back : Bool) (J Jx : List Roll → World → Prop)
    (hJ : ∀ s W, J s W → J s W.drew) (hJa : ∀ s W o, J s W → J s (W.alloc o))
    (hY : ∀ pre x W, J pre W → pre.length < 4 → YieldAt Fence.wide (n - 1) Try.prog l #[.int .i64 x.1.1, .bool x.1.2] W fun e W' =>
      (e = .returned (.bool true) ∧ J (pre ++ [x]) W' ∧ KeepC q W W') ∨ (e = .returned (.bool false) ∧ Jx (pre ++ [x]) W'))
    (W : World) (hb : W.heap[Bb]? = some (.cells #[.bool back] 4 (0, 0))) (hbq : Bb ≠ q) (hq : q < W.heap.size) (h0 : J [] W) :
    CallsIn Fence.wide n Try.prog 37 #[.func (.yield l) #[] #[], .pointer (some ⟨Bb, 0, none⟩)] W fun e W' => (∃ v, e = .returned v) ∧
      ((∃ ys, ys = upto (rollOf back) 4 ∧ J ys W') ∨ (∃ pre, (∃ k, k ≤ 4 ∧ pre = upto (rollOf back) k) ∧ Jx pre W')) := by
  have HN := Aside1.mk (blk_new W (.cells #[.int .i64 16, .int .i64 12, .int .i64 8, .int .i64 7] 61))
  have HNq := Aside1.mk (show W.heap.size ≠ q by omega)
  have HB := Aside1.mk (blk_alloc hb (.cells #[.int .i64 16, .int .i64 12, .int .i64 8, .int .i64 7] 61))
  have HBq := Aside1.mk hbq
  have H0 := Aside1.mk (hJa _ _ (.cells #[.int .i64 16, .int .i64 12, .int .i64 8, .int .i64 7] 61) h0)
  clear hb hbq hq h0
  refine callsIn_of_wp Try.func37 rfl trivial ?_
  simp only [Try.ntmps37, List.size_toArray, List.length_cons, List.length_nil, Nat.reduceAdd, Nat.reduceSub, Array.replicate_succ, Array.replicate_zero, List.push_toArray, List.append_toArray, List.nil_append, List.cons_append]
  gi_wp2
  gi_loopw [6] (fun i wr => ∃ k : Nat, k ≤ 4 ∧ i = .int .i64 k ∧ Aside1 (J (upto (rollOf back) k) wr) ∧ Aside1 (wr.heap[W.heap.size]? = some (.cells #[.int .i64 16, .int .i64 12, .int .i64 8, .int .i64 7] 61 (0, 0))) ∧ Aside1 (wr.heap[Bb]? = some (.cells #[.bool back] 4 (0, 0))))
    (fun i _ => 4 - (intOf i).toNat)
  case atStart => exact ⟨0, by omega, rfl, H0, HN, HB⟩
  case round =>
    clear HN HB H0
    obtain ⟨k, hk, rfl, HJs, HN, HB⟩ := hrel
    have hc := blk_cell HB.out 0
    have hl0 := blk_cell HN.out 0
    have hl1 := blk_cell HN.out 1
    have hl2 := blk_cell HN.out 2
    have hl3 := blk_cell HN.out 3
    by_cases hlt : k < 4
    · obtain ⟨fn, tmps, assign, body, hy, hR⟩ := hY _ (rollOf back k) wr HJs.out (by rw [upto_length]; omega)
      have HR := Aside1.mk hR
      clear hR
      have hk4 : k = 0 ∨ k = 1 ∨ k = 2 ∨ k = 3 := by omega
      clear hk hlt
      cases back <;> rcases hk4 with rfl | rfl | rfl | rfl
      all_goals
        dsimp only [rollOf] at hy
        gi_wp2
        refine HR.out.mono ?_
        clear HR hy
        rintro e W3 hq
        obtain ⟨b, rfl, HJ⟩ := yielded_bool hq
        clear hq
        rcases HJ.out with hG | hX
        · obtain ⟨hb, hJ3, hk3⟩ := hG
          subst hb
          clear HJ
          have HJ3 := Aside1.mk hJ3
          have HN3 := Aside1.mk (hk3 _ _ _ _ HNq.out HN.out)
          have HB3 := Aside1.mk (hk3 _ _ _ _ HBq.out HB.out)
          clear hJ3 hk3 hc hl0 hl1 hl2 hl3
          gi_wp2
          go_roundw
          case rel => first | exact ⟨1, by omega, rfl, ⟨by rw [show (1 : Nat) = 0 + 1 from rfl, upto_succ]; exact HJ3.out⟩, HN3, HB3⟩ | exact ⟨2, by omega, rfl, ⟨by rw [show (2 : Nat) = 1 + 1 from rfl, upto_succ]; exact HJ3.out⟩, HN3, HB3⟩ | exact ⟨3, by omega, rfl, ⟨by rw [show (3 : Nat) = 2 + 1 from rfl, upto_succ]; exact HJ3.out⟩, HN3, HB3⟩ | exact ⟨4, by omega, rfl, ⟨by rw [show (4 : Nat) = 3 + 1 from rfl, upto_succ]; exact HJ3.out⟩, HN3, HB3⟩
          case measure => simp [intOf]
        · obtain ⟨hb, hJx3⟩ := hX
          subst hb
          clear HJ
          gi_wp2
          refine bodyPost_ret (results_none rfl _ _ _) rfl ?_
          first | exact ⟨⟨_, rfl⟩, .inr ⟨_, ⟨1, by omega, (upto_succ _ 0).symm⟩, hJx3⟩⟩ | exact ⟨⟨_, rfl⟩, .inr ⟨_, ⟨2, by omega, (upto_succ _ 1).symm⟩, hJx3⟩⟩ | exact ⟨⟨_, rfl⟩, .inr ⟨_, ⟨3, by omega, (upto_succ _ 2).symm⟩, hJx3⟩⟩ | exact ⟨⟨_, rfl⟩, .inr ⟨_, ⟨4, by omega, (upto_succ _ 3).symm⟩, hJx3⟩⟩
    · have hkk : k = 4 := by omega
      subst hkk
      gi_wp2
      go_end0
      exact ⟨⟨_, rfl⟩, .inl ⟨_, rfl, HJs.out⟩⟩

set_option maxHeartbeats 1000000 in
theorem rolls_in (n : Nat) (back : Bool) (w : World) :
    CallsIn Fence.wide n Try.prog 28 #[.bool back] w fun e w' => e = .returned (.func (.func 37) #[] #[.pointer (some ⟨w.heap.size, 0, none⟩)]) ∧ w' = w.alloc (.cells #[.bool back] 4) := by
  refine callsIn_of_wp Try.func28 rfl trivial ?_
  simp only [Try.ntmps28, List.size_toArray, List.length_cons, List.length_nil, Nat.reduceAdd, Nat.reduceSub, Array.replicate_succ, Array.replicate_zero, List.push_toArray, List.append_toArray, List.nil_append, List.cons_append]
  gi_wp2
  go_ret
  exact ⟨rfl, rfl⟩

theorem rolls_stops (n : Nat) (hn : 1 ≤ n) (Bb q : Nat) (back : Bool) (w : World) (hb : w.heap[Bb]? = some (.cells #[.bool back] 4 (0, 0))) (hbq : Bb ≠ q) (hq : q < w.heap.size) :
    SeqStopsK Fence.wide n Try.prog 37 #[.pointer (some ⟨Bb, 0, none⟩)] (fun x : Roll => #[Value.int .i64 x.1.1, Value.bool x.1.2]) (KeepC q) (fun ys => ys = upto (rollOf back) 4) (fun pre => ∃ k, k ≤ 4 ∧ pre = upto (rollOf back) k) 4 w := fun l J Jx W hW hJ _ hY h0 =>
  rolls1_in n hn l Bb q back J Jx (fun s W hs => abides_drew hJ s W hs) (fun s W o hs => abides_alloc hJ s W o hs) hY W (blk_below hb hW) hbq (Nat.lt_of_lt_of_le hq hW.size) h0
end Go.Proofs.Yteichdiioidlcaa
