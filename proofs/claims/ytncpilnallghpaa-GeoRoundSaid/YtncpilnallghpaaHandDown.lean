/-
geo.down: the iterator over a path's buckets: what it yields, whatever the loop's body does that keeps old memory.
-/
import Derived.RangeFuncNested
import Derived.RangeFuncBound
import Derived.RangeFuncCalls
import Derived.RangeFuncLeaves
import Derived.RangeFuncBox
import Derived.Shelf.Abstract
import Derived.Shelf.RegionOpen
import Derived.WalkKit
import Derived.OwnWalkIn
import Derived.TacticsInMore
import Derived.LoopNIn
import Derived.LoopIn
import Derived.Deep.QuietTactic
import Derived.BigQuiet
import Derived.Maps.AppendAt
import Derived.Test.YtncpilnallghpaaHandGeo
namespace Go.Proofs.Ytncpilnallghpaa
open Go.RowKit Go.Shelf
set_option linter.unusedVariables false
set_option linter.unusedSimpArgs false
attribute [local go_sem] Oper.semAt_some

/-- What has come when k rounds are over. -/
def upto {α : Type} (f : Nat → α) (k : Nat) : List α := (List.range k).map f
theorem upto_succ {α : Type} (f : Nat → α) (k : Nat) : upto f (k + 1) = upto f k ++ [f k] := by simp [upto, List.range_succ]
theorem upto_length {α : Type} (f : Nat → α) (k : Nat) : (upto f k).length = k := by simp [upto]

theorem drewN_of {β : Type} {J : β → World → Prop} (hJ : ∀ s W, J s W → J s W.drew) {s : β} {W : World} (n : Nat) (h : J s W) : J s (W.drewN n) := by
  induction n with
  | zero => exact h
  | succ n ih => rw [← World.drew_drewN]; exact hJ _ _ ih
/-- Two blocks lie as they lay. -/
def KeepTwo (a b : Nat) (W W' : World) : Prop := W'.heap[a]? = W.heap[a]? ∧ W'.heap[b]? = W.heap[b]?
theorem KeepTwo.refl (a b : Nat) (W : World) : KeepTwo a b W W := ⟨rfl, rfl⟩
theorem KeepTwo.trans {a b : Nat} {A B C : World} (h : KeepTwo a b A B) (k : KeepTwo a b B C) : KeepTwo a b A C := ⟨k.1.trans h.1, k.2.trans h.2⟩
theorem KeepTwo.of_drew {a b : Nat} {A B : World} (h : KeepTwo a b A.drew B) : KeepTwo a b A B := h
theorem KeepTwo.cell1 {a b : Nat} {A B : World} (h : KeepTwo a b A B) : B.cell? ⟨a, 0, none⟩ = A.cell? ⟨a, 0, none⟩ := by simp [World.cell?, h.1]
theorem KeepTwo.cell2 {a b : Nat} {A B : World} (h : KeepTwo a b A B) : B.cell? ⟨b, 0, none⟩ = A.cell? ⟨b, 0, none⟩ := by simp [World.cell?, h.2]
theorem KeepTwo.of_below {a b n : Nat} {A B : World} (h : Below n A B) (ha : a < n) (hb : b < n) : KeepTwo a b A B := ⟨h.block a ha, h.block b hb⟩
theorem KeepTwo.put {a b : Nat} {w : World} (ha : a < w.heap.size) (hb : b < w.heap.size) (W : World) (l : Nat) (o o' : Obj) (hl : w.heap.size ≤ l) (h : W.heap[l]? = some o) (h1 : o.isCells = false) (h2 : o.isWalk = false) : KeepTwo a b W (W.putObj l o') :=
  KeepTwo.of_below (belowK_b (Nat.le_refl _) W l o o' hl h h1 h2) ha hb
theorem below_drew1 {B : Nat} {w W : World} (h : Below B w W) : Below B w W.drew := ⟨h.os, h.tape, h.output, h.size, h.block⟩
structure Aside1 (p : Prop) : Prop where mk :: (out : p)
/-- What a round has said, as one Bool. -/
theorem yielded_bool {e : Ending} {p q : Prop} (h : (e = .returned (.bool true) ∧ p) ∨ (e = .returned (.bool false) ∧ q)) : ∃ b, e = .returned (.bool b) ∧ Aside1 ((b = true ∧ p) ∨ (b = false ∧ q)) := by
  rcases h with ⟨rfl, h⟩ | ⟨rfl, h⟩
  · exact ⟨true, rfl, ⟨.inl ⟨rfl, h⟩⟩⟩
  · exact ⟨false, rfl, ⟨.inr ⟨rfl, h⟩⟩⟩

/-- A row's bucket, of a leaf's path. -/
def wayOf (high leaf : Int) (k : Nat) : Int := Go.bits .or .i64 (IntKind.i64.wrap (2 ^ high.toNat)) leaf / 2 ^ (high.toNat - k)

set_option maxHeartbeats 2000000 in
set_option maxRecDepth 100000 in
theorem down1_in (n : Nat) (hn : 1 ≤ n) (l Bh Bl : Nat) (high leaf : Int) (h1 : 1 ≤ high) (h6 : high ≤ 6) (l0 : 0 ≤ leaf) (l1 : leaf < 64) (J Jx : List (Nat × Int) → World → Prop)
    (hJ : ∀ s W, J s W → J s W.drew)
    (hY : ∀ pre x W, J pre W → pre.length < high.toNat + 1 → YieldAt Fence.wide (n - 1) Try.prog l #[.int .i64 (x.1 : Int), .int .i64 x.2] W fun e W' =>
      (e = .returned (.bool true) ∧ J (pre ++ [x]) W' ∧ KeepTwo Bh Bl W W') ∨ (e = .returned (.bool false) ∧ Jx (pre ++ [x]) W'))
    (W : World) (hBh : W.cell? ⟨Bh, 0, none⟩ = some (.int .i64 high)) (hBl : W.cell? ⟨Bl, 0, none⟩ = some (.int .i64 leaf)) (h0 : J [] W) :
    CallsIn Fence.wide n Try.prog 60 #[.func (.yield l) #[] #[], .pointer (some ⟨Bh, 0, none⟩), .pointer (some ⟨Bl, 0, none⟩)] W fun e W' => (∃ v, e = .returned v) ∧
      ((∃ ys, ys = upto (fun j => (j, wayOf high leaf j)) (high.toNat + 1) ∧ J ys W') ∨ (∃ pre, (∃ k, k ≤ high.toNat + 1 ∧ pre = upto (fun j => (j, wayOf high leaf j)) k) ∧ Jx pre W')) := by
  refine callsIn_of_wp Try.func60 rfl trivial ?_
  simp only [Try.ntmps60, List.size_toArray, List.length_cons, List.length_nil, Nat.reduceAdd, Nat.reduceSub, Array.replicate_succ, Array.replicate_zero, List.push_toArray, List.append_toArray, List.nil_append, List.cons_append]
  gi_wp2
  gi_loopw [4] (fun i wr => ∃ k : Nat, k ≤ high.toNat + 1 ∧ i = .int .i64 k ∧ J (upto (fun j => (j, wayOf high leaf j)) k) wr ∧ KeepTwo Bh Bl W wr)
    (fun i _ => high.toNat + 1 - (intOf i).toNat)
  case atStart => exact ⟨0, Nat.zero_le _, rfl, h0, KeepTwo.refl _ _ _⟩
  case round =>
    obtain ⟨k, hk, rfl, hJs, hnx⟩ := hrel
    have hc1 : wr.cell? ⟨Bh, 0, none⟩ = some (.int .i64 high) := hnx.cell1.trans hBh
    have hc2 : wr.cell? ⟨Bl, 0, none⟩ = some (.int .i64 leaf) := hnx.cell2.trans hBl
    by_cases hlt : (k : Int) ≤ high
    · obtain ⟨fn, tmps, assign, body, hy, hR⟩ := hY _ (k, wayOf high leaf k) wr.drew (hJ _ _ hJs) (by rw [upto_length]; omega)
      dsimp only [wayOf] at hy
      have hd : decide ((k : Int) ≤ high) = true := decide_eq_true hlt
      have hw1 : IntKind.i64.wrap (high - (k : Int)) = high - k := IntWalk.i64_in _ (by omega)
      have hw2 : (0 : Int) ≤ high - k := by omega
      have hw3 : (0 : Int) ≤ high := by omega
      gi_wp2
      gi_region_with ((refine hR.mono ?_; rintro e W3 hq; obtain ⟨b, rfl, HJ⟩ := yielded_bool hq; clear hq))
      all_goals
        clear hR hy
        rcases HJ.out with hG | hX
        · obtain ⟨hb, hJ3, hk3⟩ := hG
          subst hb
          clear HJ
          gi_wp2
          go_roundw
          case rel => exact ⟨k + 1, by omega, by simp, by rw [upto_succ]; exact hJ3, hnx.trans (KeepTwo.of_drew hk3)⟩
          case measure => simp [intOf]; omega
        · obtain ⟨hb, hJx3⟩ := hX
          subst hb
          clear HJ
          gi_wp2
          go_end0
          exact ⟨⟨_, rfl⟩, .inr ⟨_, ⟨k + 1, by omega, (upto_succ _ _).symm⟩, hJx3⟩⟩
    · have hd : decide ((k : Int) ≤ high) = false := decide_eq_false hlt
      gi_wp2
      refine wpIn_wide.2 ?_
      go_quiet (fail)
      gi_wp2
      go_end0
      exact ⟨⟨_, rfl⟩, .inl ⟨_, rfl, by
        have hkk : k = high.toNat + 1 := by omega
        subst hkk
        exact drewN_of hJ _ hJs⟩⟩
end Go.Proofs.Ytncpilnallghpaa
