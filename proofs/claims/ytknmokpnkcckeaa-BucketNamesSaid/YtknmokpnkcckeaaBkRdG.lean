/-
A region of a round (range over a function), walked as if it were in no round.
-/
import Derived.RangeFuncNested
import Derived.RangeFuncBound
import Derived.RangeFuncCalls
import Derived.RangeFuncLeaves
import Derived.RangeFuncBox
import Derived.Shelf.Abstract
import Derived.Shelf.RegionOpen
import Derived.WalkKit
import Derived.OwnWalkIn
import Derived.TacticsInMore
import Derived.LoopNIn
import Derived.LoopIn
import Derived.Deep.QuietTactic
import Derived.BigQuiet
import Derived.Maps.AppendAt
import Derived.Test.YtknmokpnkcckeaaBkPure
import Derived.WalkMore
import Derived.Test.YtknmokpnkcckeaaBkRdBad
namespace Go.Proofs.Ytknmokpnkcckeaa
open Go.RowKit Go.Proofs.YtknmokpnkcckeaaW.PrintWords Go.Proofs.YtknmokpnkcckeaaW.PrintLast
set_option linter.unusedVariables false
set_option linter.unusedSimpArgs false

section
variable {P : Program} {ops : Array Oper} {Q : Exit → Act → World → Prop} {md : Region.Mode} {S : World → Prop} {ds : List Nat} {l n : Nat} {a : Act} {w : World} {o : Oper}
theorem callsIn_round {f : FuncId} {args : Array Value} {R : Ending → World → Prop} (h : Calls P f args w R) : CallsIn (Fence.wide.inRound l) n P f args w R := callsIn_wide.2 h
theorem rowsIn_round {row : String} {args : Array Value} {R : Value → World → Prop} (h : Rows P row args w R) : RowsIn (Fence.wide.inRound l) n P row args w R := fun c cs _ => by
  obtain ⟨v, w', h1, h2⟩ := h c cs
  exact ⟨v, w', h1, stepsIn_wide.2 h2⟩
theorem uponIn_of {K : Act → World → Prop} : ∀ {r : Result Next}, o.upon P a K Q r → o.uponIn (Fence.wide.inRound l) n P a K Q r := by
  intro r h
  cases r with
  | ok x w' =>
    cases x <;> simp only [Oper.upon, Oper.uponIn] at h ⊢ <;>
      first
        | exact h
        | exact ⟨fun hd => (by have h2 : false = true := hd; cases h2), CallsIn.mono (callsIn_round h) (fun e w'' he => by cases e <;> exact he)⟩
        | exact ⟨fun hd => (by have h2 : false = true := hd; cases h2), rowsIn_round h⟩
  | halt x w' => cases x <;> simp only [Oper.upon, Oper.uponIn] at h ⊢ <;> exact h
def noDefer (ops : Array Oper) : Bool := ops.toList.all fun o => match o.op with | .defer _ => false | _ => true
theorem noDefer_at (h : noDefer ops = true) {i : Nat} (hi : ops[i]? = some o) : ∀ c, o.op ≠ .defer c := by
  intro c hc
  have hm : o ∈ ops.toList := by
    have := Array.mem_of_getElem? hi
    simpa using this
  have := (List.all_eq_true.1 h) o hm
  rw [hc] at this
  cases this
theorem operIn_of {K : Act → World → Prop} (hd : ∀ c, o.op ≠ .defer c) (h : o.wp P a w K Q) : o.wpIn (Fence.wide.inRound l) n P a w K Q := by
  refine ⟨fun _ _ => trivial, ?_⟩
  rw [show (Fence.wide.inRound l).round = some l from rfl, Oper.semAt_some l _ _ hd]
  exact uponIn_of h
theorem listIn_of (hno : ¬ LetsOut Q) : ∀ (rest : List Oper) (hd : noDefer rest.toArray = true) (a : Act) (w : World), wpList P ops Q rest a w → wpListIn (Fence.wide.inRound l) n P ops Q rest a w
  | [], _, a, w, h => h
  | o :: rest, hd, a, w, h => by
    have hd2 : noDefer rest.toArray = true := by
      simp only [noDefer, List.all_cons, Bool.and_eq_true] at hd ⊢
      exact hd.2
    unfold wpList at h
    unfold wpListIn
    split at h
    · rename_i hw
      rcases h with h | h
      · simp only [hw, if_true]
        exact Oper.wpIn_mono (fun a w h => listIn_of hno rest hd2 _ _ h) (operIn_of (noDefer_at hd (i := 0) rfl) h)
      · exact absurd h.2 hno
    · rename_i hw
      simp only [hw]
      exact ⟨fun _ _ => trivial, listIn_of hno rest hd2 _ _ h⟩
/-- A plain region in a round. -/
theorem plain_in {id : Nat} {L : List Oper} (hd : noDefer L.toArray = true) (hno : ¬ LetsOut Q) (h : wpList P L.toArray Q L a w) : (Code.region id L.toArray false).wpIn (Fence.wide.inRound l) n P Q a w :=
  wpIn_region_lit (listIn_of hno L hd a w h)
end
section
variable {F : Fence} {n : Nat} {P : Program} {Q : Exit → Act → World → Prop} {a : Act} {w : World}
/-- A scope through which the run goes with no goto. -/
theorem wpIn_scope_straight {c : Code} (h : c.wpIn F n P (Exit.noGoto Q) a w) : (Code.scope c).wpIn F n P Q a w := by
  intro b k cs hro hb hr
  have h0 : (lone (b.atR a (.code (.scope c) :: k)) cs w).fenced P F := fenced_calm hb hr rfl
  have hs : step P (lone (b.atR a (.code (.scope c) :: k)) cs w) = .next (lone (b.atR a (.code c :: .inScope c :: k)) cs w) := step_lone_go (by simp [stepG, stepG.exec, Frame.atR])
  have hs2 : ∀ a w, step P (lone (b.atR a (.inScope c :: k)) cs w) = .next (lone (b.atR a k) cs w) := fun a w => step_lone_go (by simp [stepG, stepG.exec, Frame.atR])
  obtain ⟨e, a₁, w₁, hq, harr⟩ := h b (.inScope c :: k) cs hro hb hr
  cases e with
  | normal => exact ⟨.normal, a₁, w₁, hq, .head h0 hs (StepsIn.trans harr (.one (fenced_calm hb hr rfl) (hs2 _ _)))⟩
  | exit id =>
    have hx : exitTo id (.inScope c :: k) = exitTo id k := by simp [exitTo]
    exact ⟨.exit id, a₁, w₁, hq, fun k' hk => .head h0 hs (harr.1 k' (by rw [hx]; exact hk)), fun hr' hk => let ⟨k₁, h1, h2⟩ := harr.2 hr' (by rw [hx]; exact hk); ⟨k₁, h1, .head h0 hs h2⟩⟩
  | goto l => exact hq.elim
  | ret => exact ⟨_, a₁, w₁, hq, .of_steps (.one h0 hs) harr⟩
  | panic ch => exact ⟨_, a₁, w₁, hq, .of_steps (.one h0 hs) harr⟩
  | outgrown => exact ⟨_, a₁, w₁, hq, .of_steps (.one h0 hs) harr⟩
end
end Go.Proofs.Ytknmokpnkcckeaa

namespace Go.Proofs.Ytknmokpnkcckeaa
open Go.RowKit Go.Shelf Go.Proofs.YtknmokpnkcckeaaW.PrintWords
set_option linter.unusedVariables false
set_option linter.unusedSimpArgs false
attribute [local go_sem] Oper.semAt_some

/-- A fact kept out of the way. -/
structure Aside1 (p : Prop) : Prop where mk :: (out : p)
/-- What a round has said, as one Bool. -/
theorem yielded_bool {e : Ending} {p q : Prop} (h : (e = .returned (.bool true) ∧ p) ∨ (e = .returned (.bool false) ∧ q)) : ∃ b, e = .returned (.bool b) ∧ Aside1 ((b = true ∧ p) ∨ (b = false ∧ q)) := by
  rcases h with ⟨rfl, h⟩ | ⟨rfl, h⟩
  · exact ⟨true, rfl, ⟨.inl ⟨rfl, h⟩⟩⟩
  · exact ⟨false, rfl, ⟨.inr ⟨rfl, h⟩⟩⟩

/-- Two blocks lie as they lay. -/
def KeepTwo (a b : Nat) (W W' : World) : Prop := W'.heap[a]? = W.heap[a]? ∧ W'.heap[b]? = W.heap[b]?
theorem KeepTwo.refl (a b : Nat) (W : World) : KeepTwo a b W W := ⟨rfl, rfl⟩
theorem KeepTwo.trans {a b : Nat} {A B C : World} (h : KeepTwo a b A B) (k : KeepTwo a b B C) : KeepTwo a b A C := ⟨k.1.trans h.1, k.2.trans h.2⟩
theorem KeepTwo.cell {a b : Nat} {A B : World} (h : KeepTwo a b A B) {p : Addr} (hp : p.block = a ∨ p.block = b) : B.cell? p = A.cell? p := by
  have : B.heap[p.block]? = A.heap[p.block]? := by
    rcases hp with hp | hp <;> rw [hp]
    · exact h.1
    · exact h.2
  simp [World.cell?, this]

set_option maxHeartbeats 2000000 in
set_option maxRecDepth 100000 in
theorem slots1_in (n : Nat) (hn : 1 ≤ n) (l Bh m cp N : Nat) (pa : Addr) (vs : List Value) (hm : m ≤ 1000) (hN : (N : Int) - 2 = (m : Int)) (hvs : vs.length = N) (J Jx : List Nat → World → Prop)
    (hY : ∀ (pre : List Nat) (x : Nat) (v : Value) (W : World), x < m → vs[x]? = some v → J pre W → pre.length < m → YieldAt Fence.wide (n - 1) Try.prog l #[v] W fun e W' =>
      (e = .returned (.bool true) ∧ J (pre ++ [x]) W' ∧ KeepTwo Bh pa.block W W') ∨ (e = .returned (.bool false) ∧ Jx (pre ++ [x]) W'))
    (W : World) (hBh : W.cell? ⟨Bh, 0, none⟩ = some (.slice (some pa) N cp)) (hP : ∀ (j : Nat) v, vs[j]? = some v → W.cell? (pa.add j) = some v) (h0 : J [] W) :
    CallsIn Fence.wide n Try.prog 76 #[.func (.yield l) #[] #[], .pointer (some ⟨Bh, 0, none⟩)] W fun e W' => (∃ v, e = .returned v) ∧
      ((∃ ys, ys = List.range m ∧ J ys W') ∨ (∃ pre, (∃ k, k ≤ m ∧ pre = List.range k) ∧ Jx pre W')) := by
  have hm3 : (m : Int) ≤ 1000 := by omega
  have HP := Aside0.mk hP
  clear hP
  refine callsIn_of_wp Try.func76 rfl trivial ?_
  simp only [Try.ntmps76, List.size_toArray, List.length_cons, List.length_nil, Nat.reduceAdd, Nat.reduceSub, Array.replicate_succ, Array.replicate_zero, List.push_toArray, List.append_toArray, List.nil_append, List.cons_append]
  gi_wp2_with (first | (apply wpIn_scope_straight) | (apply wpIn_label))
  gi_loopw [7] (fun i wr => ∃ k : Nat, k ≤ m ∧ i = .int .i64 (k : Int) ∧ J (List.range k) wr ∧ KeepTwo Bh pa.block W wr) (fun i _ => m - (intOf i).toNat)
  case atStart => exact ⟨0, Nat.zero_le _, rfl, h0, KeepTwo.refl _ _ _⟩
  case round =>
    obtain ⟨k, hk, rfl, hJs, hkeep⟩ := hrel
    have hbox := (hkeep.cell (p := ⟨Bh, 0, none⟩) (.inl rfl)).trans hBh
    by_cases hlt : k < m
    · have hkN : k < vs.length := by omega
      have hv : vs[k]? = some vs[k] := List.getElem?_eq_getElem hkN
      have hcell := (hkeep.cell (p := pa.add k) (.inr (add_blockB _ _))).trans (HP.out k _ hv)
      generalize vs[k] = v at hv hcell
      have hlN : (k : Int) < (N : Int) := by omega
      have hd : decide ((k : Int) < (m : Int)) = true := decide_eq_true (by omega)
      obtain ⟨fn, tmps, assign, body, hy, hR⟩ := hY _ k v wr hlt hv hJs (by rw [List.length_range]; exact hlt)
      gi_wp2_with ((refine hR.mono ?_; rintro e W3 hq; obtain ⟨b, rfl, HJ⟩ := yielded_bool hq; clear hq))
      all_goals
        rename_i hb
        rcases HJ.out with ⟨h1, hJ3, hk3⟩ | ⟨h1, hJx3⟩
        · subst h1
          first
            | cases hb; done
            | exact ⟨⟨k + 1, by omega, by simp, by rw [List.range_succ]; exact hJ3, hkeep.trans hk3⟩, by simp [intOf]; omega⟩
        · subst h1
          first
            | cases hb; done
            | (simp only [Exit.noGoto]; go_end0; exact ⟨⟨_, rfl⟩, .inr ⟨_, ⟨k + 1, by omega, (List.range_succ).symm⟩, hJx3⟩⟩)
    · have hd : decide ((k : Int) < (m : Int)) = false := decide_eq_false (by omega)
      gi_wp2
      simp only [Exit.noGoto]
      go_end0
      exact ⟨⟨_, rfl⟩, .inl ⟨_, rfl, by
        have hkk : k = m := by omega
        subst hkk
        exact hJs⟩⟩

theorem KeepTwo.put {a b : Nat} {w : World} (ha : a < w.heap.size) (hb : b < w.heap.size) (W : World) (l : Nat) (o o' : Obj) (hl : w.heap.size ≤ l) (h : W.heap[l]? = some o) (h1 : o.isCells = false) (h2 : o.isWalk = false) : KeepTwo a b W (W.putObj l o') :=
  ⟨World.putObj_heap_other (by omega), World.putObj_heap_other (by omega)⟩
theorem slots_in (n : Nat) (A : Option Addr) (m c : Nat) (w : World) :
    CallsIn Fence.wide n Try.prog 56 #[.slice A m c] w fun e w' => e = .returned (.func (.func 76) #[] #[.pointer (some ⟨w.heap.size, 0, none⟩)]) ∧ w' = w.alloc (.cells #[.slice A m c] 90) := by
  refine callsIn_of_wp Try.func56 rfl trivial ?_
  simp only [Try.ntmps56, List.size_toArray, List.length_cons, List.length_nil, Nat.reduceAdd, Nat.reduceSub, Array.replicate_succ, Array.replicate_zero, List.push_toArray, List.append_toArray, List.nil_append, List.cons_append]
  gi_wp2
  go_ret
  exact ⟨rfl, rfl⟩
theorem slots_stops (n : Nat) (hn : 1 ≤ n) (Bh m cp N : Nat) (pa : Addr) (vs : List Value) (hm : m ≤ 1000) (hN : (N : Int) - 2 = (m : Int)) (hvs : vs.length = N) (w : World) (hBh : Bh < w.heap.size) (hpb : pa.block < w.heap.size)
    (hc1 : w.cell? ⟨Bh, 0, none⟩ = some (.slice (some pa) N cp)) (hP : ∀ (j : Nat) v, vs[j]? = some v → w.cell? (pa.add j) = some v) :
    SeqStopsK Fence.wide n Try.prog 76 #[.pointer (some ⟨Bh, 0, none⟩)] (fun x : {t : Nat // t < m} => #[vs.getD x.1 undef]) (KeepTwo Bh pa.block) (fun ys => ys.map (·.1) = List.range m) (fun pre => ∃ k, k ≤ m ∧ pre.map (·.1) = List.range k) m w := by
  intro l J Jx W hW hJ _ hY h0
  have hcell : ∀ j v, vs[j]? = some v → W.cell? (pa.add j) = some v := fun j v hv => (hW.cell (p := pa.add j) (by rw [add_blockB]; exact hpb)).trans (hP j v hv)
  refine (slots1_in n hn l Bh m cp N pa vs hm hN hvs (fun pre W => ∃ pre', pre'.map (·.1) = pre ∧ J pre' W) (fun pre W => ∃ pre', pre'.map (·.1) = pre ∧ Jx pre' W) ?_ W ((hW.cell (p := ⟨Bh, 0, none⟩) hBh).trans hc1) hcell ⟨[], rfl, h0⟩).mono ?_
  · rintro _ x v W1 hx hv ⟨pre', rfl, hJ1⟩ hl
    obtain ⟨fn, tmps, assign, body, hy, hR⟩ := hY pre' ⟨x, hx⟩ W1 hJ1 (by simpa using hl)
    have hg : vs.getD x undef = v := by rw [List.getD_eq_getElem?_getD, hv]; rfl
    rw [show (fun x : {t : Nat // t < m} => #[vs.getD x.1 undef]) ⟨x, hx⟩ = #[v] from congrArg (fun u => #[u]) hg] at hy
    refine ⟨fn, tmps, assign, body, hy, hR.mono ?_⟩
    rintro e W' (⟨h1, h2, h3⟩ | ⟨h1, h2⟩)
    · exact .inl ⟨h1, ⟨pre' ++ [⟨x, hx⟩], by simp, h2⟩, h3⟩
    · exact .inr ⟨h1, ⟨pre' ++ [⟨x, hx⟩], by simp, h2⟩⟩
  · rintro e W' ⟨hv, ⟨ys, rfl, ys', h1, h2⟩ | ⟨pre, ⟨k, hk, hpk⟩, pre', h1, h2⟩⟩
    · exact ⟨hv, .inl ⟨ys', h1, h2⟩⟩
    · exact ⟨hv, .inr ⟨pre', ⟨k, hk, h1.trans hpk⟩, h2⟩⟩
end Go.Proofs.Ytknmokpnkcckeaa

namespace Go.Proofs.Ytknmokpnkcckeaa
open Go.RowKit Go.Proofs.YtknmokpnkcckeaaW.PrintWords Go.Proofs.YtknmokpnkcckeaaW.PrintLast Go.Proofs.YtknmokpnkcckeaaW.PrintMore Go.Proofs.Ytknmokpnkcckeaa.PAll
set_option linter.unusedVariables false
set_option linter.unusedSimpArgs false

/-- A text's slots. -/
def slotsB (many q : Nat) (t : List Int) : List (List Int) := (List.range many).map (fun i => (t.drop (i * q)).take q)
theorem info1U : (Try.prog.info? 5).map (·.size) = some 1 := by kernel_rfl
theorem info62B : (Try.prog.info? 62).map (fun i => (i.zero, i.size, i.bytes)) = some (some (.agg #[.int .i64 0, .int .i64 0, .slice none 0 0]), 3, 40) := by kernel_rfl
theorem info62S : (Try.prog.info? 62).map (·.size) = some 3 := by kernel_rfl
/-- What a slot tells: number, leaf, bytes, whether there is a block, the error. -/
abbrev RS := Int × Int × List Int × Bool × Int
/-- Slots read one behind the other: whether the last has none, and the blocks. -/
def goR (rd : List Int → RS) : List (List Int) → Bool × List S62 → Option (Bool × List S62)
  | [], s => some s
  | p :: ps, s => if (rd p).2.2.2.2 ≠ 0 ∨ ((rd p).2.2.2.1 = true ∧ s.1 = true) then none else goR rd ps (!(rd p).2.2.2.1, if (rd p).2.2.2.1 = true then s.2 ++ [⟨(rd p).1, (rd p).2.1, (rd p).2.2.1⟩] else s.2)
theorem goR_append (rd : List Int → RS) : ∀ (ps qs : List (List Int)) (s : Bool × List S62), goR rd (ps ++ qs) s = (goR rd ps s).bind (goR rd qs)
  | [], qs, s => rfl
  | p :: ps, qs, s => by
    rw [List.cons_append, goR, goR]
    split
    · rfl
    · exact goR_append rd ps qs _
/-- Which blocks a read block's bytes may lie in. -/
def okR (base : Nat) (v : Value) (W : World) (k : Nat) : Prop := base ≤ k ∧ k < W.heap.size ∧ (∃ cells q, W.heap[k]? = some (.cells cells q (0, 0))) ∧ some k ≠ v.ownBlock
def GoodR (base : Nat) (v : Value) (W : World) (d : BD) : Prop := d.1.f2.length ≤ d.2.2 ∧ Kd.F (Kd.int .u8) W (okR base v W) d.2.1 d.1.f2.length d.1.f2
theorem GoodR.step {base : Nat} {v v' : Value} {W W' : World} {d : BD} (h : GoodR base v W d) (hs : ∀ k, base ≤ k → k < W.heap.size → (∃ cells q, W.heap[k]? = some (.cells cells q (0, 0))) → some k ≠ v.ownBlock → W'.heap[k]? = W.heap[k]?) (hsz : W.heap.size ≤ W'.heap.size) (hv : v'.ownBlock = v.ownBlock ∨ ∃ b, v'.ownBlock = some b ∧ W.heap.size ≤ b) : GoodR base v' W' d := by
  refine ⟨h.1, Kd.F_mono (Kd.F_step h.2 (fun k hk _ => hs k hk.1 hk.2.1 hk.2.2.1 hk.2.2.2)) (fun k hk => ?_)⟩
  obtain ⟨h1, h2, ⟨cs, q, h3⟩, h4⟩ := hk
  refine ⟨h1, by omega, ⟨cs, q, (hs k h1 h2 ⟨cs, q, h3⟩ h4).trans h3⟩, ?_⟩
  rcases hv with hv | ⟨b, hv, hb⟩
  · rw [hv]
    exact h4
  · rw [hv]
    intro e
    injection e with e
    omega
/-- A row of blocks of the call's own. -/
def OwnB (B : Nat) (W : World) (v : Value) (D : List BD) : Prop := Kd.R (Kd.raw 3) 62 W B (fun k => some k = v.ownBlock) v (D.map cell3)
theorem OwnB.nil (B : Nat) (W : World) : OwnB B W (.slice none 0 0) [] := Kd.R_tight rfl (Kd.R_nil (Kd.raw 3) _ _ _ (fun _ => True))
theorem OwnB.base {B : Nat} {W : World} {v : Value} {D : List BD} (h : OwnB B W v D) : ∀ k, v.ownBlock = some k → B ≤ k := Kd.R_base h
theorem OwnB.lt {B : Nat} {W : World} {v : Value} {D : List BD} (h : OwnB B W v D) : ∀ k, v.ownBlock = some k → k < W.heap.size := Kd.R_lt h
theorem OwnB.step {B : Nat} {W W' : World} {v : Value} {D : List BD} (h : OwnB B W v D) (hs : ∀ k, some k = v.ownBlock → W'.heap[k]? = W.heap[k]?) : OwnB B W' v D := Kd.R_step h (fun k hk _ => hs k hk)
theorem OwnB.cells {B : Nat} {W : World} {v : Value} {D : List BD} (h : OwnB B W v D) : ∀ k, v.ownBlock = some k → ∃ cs u s, W.heap[k]? = some (.cells cs u s) := by
  obtain ⟨_, inner, ho, hr⟩ := h
  intro k hk
  rcases ho.2 with ⟨hv, _⟩ | ⟨g, cap, cur, hv, hb, hg, _⟩
  · subst hv
    simp [Value.ownBlock] at hk
  · subst hv
    have : k = g := by simpa [Value.ownBlock] using hk.symm
    subst this
    exact ⟨_, _, _, hg⟩
/-- Between two rounds, whatever slots have come. -/
structure RInv (base h G : Nat) (W0 : World) (rd : List Int → RS) (ps : List (List Int)) (W : World) : Prop where
  os : W.os = W0.os
  tape : W.tape = W0.tape
  output : W.output = W0.output
  size : W0.heap.size ≤ W.heap.size
  lt : base ≤ W.heap.size
  block : ∀ k, k < base → k ≠ h + 1 → k ≠ G → W.heap[k]? = W0.heap[k]?
  st : ∃ (gap : Bool) (A : Option Addr) (c : Nat) (D : List BD), goR rd ps (false, []) = some (gap, D.map (·.1)) ∧ D.length ≤ ps.length ∧ W.heap[G]? = some (.cells #[.bool gap] 4 (0, 0)) ∧ W.heap[h + 1]? = some (.cells ⟨bkC A D.length c dig0 dig0⟩ 40 (0, 0)) ∧ OwnB base W (.slice A D.length c) D ∧ ∀ d ∈ D, GoodR base (.slice A D.length c) W d
def CellsStayB (W W' : World) : Prop := ∀ (k : Nat) (cs : Array Value) (u : TypeId) (s : Nat × Nat), W.heap[k]? = some (Obj.cells cs u s) → W'.heap[k]? = some (Obj.cells cs u s)
theorem RInv.own {base h G : Nat} {W0 : World} {rd : List Int → RS} {β : Type} (f : β → List (List Int)) : OwnFrom base (fun (pre : β) W => RInv base h G W0 rd (f pre) W) := by
  intro s W W' row hs hg hr
  have hc : CellsStayB W W' := fun k cs u s hk => by
    refine (hg.block k (heap_ltB hk) (fun e => ?_)).trans hk
    obtain ⟨_, o, ho, hcell⟩ := hr k e.symm
    rw [hk] at ho
    cases ho
    cases hcell
  obtain ⟨gap, A, c, D, h1, h2, h3, h4, h5, h6⟩ := hs.st
  refine ⟨hg.os.trans hs.os, hg.tape.trans hs.tape, hg.output.trans hs.output, Nat.le_trans hs.size hg.size, Nat.le_trans hs.lt hg.size, fun k hk k1 k2 => (hg.block k (Nat.lt_of_lt_of_le hk hs.lt) (fun e => by have := (hr k e.symm).1; omega)).trans (hs.block k hk k1 k2), gap, A, c, D, h1, h2, hc _ _ _ _ h3, hc _ _ _ _ h4, h5.step (fun k hk => ?_), fun d hd => (h6 d hd).step (fun k _ _ hcs _ => ?_) hg.size (.inl rfl)⟩
  · obtain ⟨cs, t, s, hcc⟩ := h5.cells k hk.symm
    rw [hc _ _ _ _ hcc, hcc]
  · obtain ⟨cs, q, hcc⟩ := hcs
    rw [hc _ _ _ _ hcc, hcc]
theorem RInv.start {h G : Nat} {W0 : World} {rd : List Int → RS} (hG : W0.heap[G]? = some (.cells #[.bool false] 4 (0, 0))) (hr : W0.heap[h + 1]? = some (.cells Try.zeroCells40 40 (0, 0))) : RInv W0.heap.size h G W0 rd [] W0 :=
  ⟨rfl, rfl, rfl, Nat.le_refl _, Nat.le_refl _, fun _ _ _ _ => rfl, false, none, 0, [], rfl, Nat.le_refl _, hG, by rw [bk_zero] at hr; exact hr, OwnB.nil _ _, fun d hd => by cases hd⟩
/-- A round has found that the text tells no bucket. -/
structure RStop (base h G : Nat) (W0 : World) (W : World) : Prop where
  os : W.os = W0.os
  tape : W.tape = W0.tape
  output : W.output = W0.output
  size : W0.heap.size ≤ W.heap.size
  lt : base ≤ W.heap.size
  block : ∀ k, k < base → k ≠ h + 1 → k ≠ h + 1 + 1 → k ≠ G → W.heap[k]? = W0.heap[k]?
  res : W.heap[h + 1]? = some (.cells Try.zeroCells40 40 (0, 0))
  err : W.heap[h + 1 + 1]? = some (.cells #[.int .i64 8] 28 (0, 0))
theorem RStop.own {base h G : Nat} {W0 : World} {β : Type} (P : β → Prop) : OwnFrom base (fun (pre : β) W => P pre ∧ RStop base h G W0 W) := by
  intro s W W' row hs hg hr
  obtain ⟨hp, hs⟩ := hs
  have hc : CellsStayB W W' := fun k cs u s hk => by
    refine (hg.block k (heap_ltB hk) (fun e => ?_)).trans hk
    obtain ⟨_, o, ho, hcell⟩ := hr k e.symm
    rw [hk] at ho
    cases ho
    cases hcell
  exact ⟨hp, hg.os.trans hs.os, hg.tape.trans hs.tape, hg.output.trans hs.output, Nat.le_trans hs.size hg.size, Nat.le_trans hs.lt hg.size, fun k hk k1 k2 k3 => (hg.block k (Nat.lt_of_lt_of_le hk hs.lt) (fun e => by have := (hr k e.symm).1; omega)).trans (hs.block k hk k1 k2 k3), hc _ _ _ _ hs.res, hc _ _ _ _ hs.err⟩
/-- A shared row's elements, where they lie. -/
theorem parts_of {W : World} {base N c : Nat} {ok : Nat → Prop} {A : Option Addr} {ps : List (List Int)} (h : Kd.V (Kd.slice 5 (Kd.int .u8)) 43 W base ok (.slice A N c) ps) (h0 : 0 < N) :
    ∃ (ad : Addr) (vs : List Value), A = some ad ∧ ok ad.block ∧ vs.length = N ∧ ps.length = N ∧ (∀ (j : Nat) (v : Value), vs[j]? = some v → W.cell? (ad.add j) = some v) ∧
      ∀ (j : Nat) (p : List Int), ps[j]? = some p → ∃ Ap cp, vs[j]? = some (.slice Ap p.length cp) ∧ p.length ≤ cp ∧ Kd.F (Kd.int .u8) W ok Ap p.length p := by
  obtain ⟨hn, _, _⟩ := Kd.V_at h
  have hF := Kd.V_F h
  have key : ∀ j : Nat, ∃ (v : Value), j < N → (∃ ad, A = some ad ∧ ok ad.block ∧ W.cell? (ad.add j) = some v) ∧ ∃ Ap cp, v = .slice Ap (ps.getD j []).length cp ∧ (ps.getD j []).length ≤ cp ∧ Kd.F (Kd.int .u8) W ok Ap (ps.getD j []).length (ps.getD j []) := by
    intro j
    by_cases hj : j < N
    · obtain ⟨ad, cs, he, hcl, hK, hcc, hok⟩ := Kd.F_get hF [] (j : Int) (by omega) (by omega)
      rw [Int.toNat_natCast] at hK
      obtain ⟨Ap, cp, rfl, hp, hFp⟩ := Kd.FK_slice_open hK
      have c0 := hcc 0 _ rfl
      rw [Int.toNat_natCast, show j * (Kd.slice 5 (Kd.int .u8)).sz + 0 = j by show j * 1 + 0 = j; omega] at c0
      exact ⟨_, fun _ => ⟨⟨ad, he, hok (by decide), c0⟩, Ap, cp, rfl, hp, hFp⟩⟩
    · exact ⟨undef, fun h => absurd h hj⟩
  obtain ⟨f, hf⟩ : ∃ f : Nat → Value, ∀ j, j < N → (∃ ad, A = some ad ∧ ok ad.block ∧ W.cell? (ad.add j) = some (f j)) ∧ ∃ Ap cp, f j = .slice Ap (ps.getD j []).length cp ∧ (ps.getD j []).length ≤ cp ∧ Kd.F (Kd.int .u8) W ok Ap (ps.getD j []).length (ps.getD j []) :=
    ⟨fun j => Classical.choose (key j), fun j => Classical.choose_spec (key j)⟩
  obtain ⟨⟨ad, he, hok, _⟩, _⟩ := hf 0 h0
  refine ⟨ad, (List.range N).map f, he, hok, by simp, hn.symm, fun j v hv => ?_, fun j p hp => ?_⟩
  · have hj : j < N := by have := (List.getElem?_eq_some_iff.1 hv).1; simpa using this
    obtain ⟨⟨ad', he', _, hc⟩, _⟩ := hf j hj
    rw [he] at he'
    injection he' with he'
    subst he'
    simp [hj] at hv
    rw [← hv]
    exact hc
  · have hj : j < N := by have := (List.getElem?_eq_some_iff.1 hp).1; omega
    obtain ⟨_, Ap, cp, h1, h2, h3⟩ := hf j hj
    have e : ps.getD j [] = p := by rw [List.getD_eq_getElem?_getD, hp]; rfl
    rw [e] at h1 h2 h3
    exact ⟨Ap, cp, by simp [hj, h1], h2, h3⟩
/-- The round's end where the slot has none: the mark is written. -/
theorem RInv.empty {base h G : Nat} {W0 W W1 W2 : World} {rd : List Int → RS} {ps : List (List Int)} {p : List Int} (hI : RInv base h G W0 rd ps W) (hb : Below W.heap.size W W1) (h2 : W2 = W1.setCell ⟨G, 0, none⟩ (.bool true)) (hG : G < base) (hhG : h + 1 ≠ G) (he : (rd p).2.2.2.2 = 0) (hi : (rd p).2.2.2.1 = false) :
    KeepsFrom base W W2 ∧ (∀ b, b < base → b ≠ h + 1 → b ≠ G → W2.heap[b]? = W.heap[b]?) ∧ RInv base h G W0 rd (ps ++ [p]) W2 := by
  obtain ⟨gap, A, c, D, h1, h3, h4, h5, h6, h7⟩ := hI.st
  have hsz : W2.heap.size = W1.heap.size := by rw [h2]; simp [World.setCell]
  have hfar : ∀ k, k ≠ G → W2.heap[k]? = W1.heap[k]? := fun k hk => by rw [h2]; exact Below.heap_setCell W1 ⟨G, 0, none⟩ _ k hk
  have hall : ∀ k, k < W.heap.size → k ≠ G → W2.heap[k]? = W.heap[k]? := fun k hk h => (hfar k h).trans (hb.block k hk)
  have hlt := hI.lt
  refine ⟨⟨by have := hb.size; omega, fun k o hk ho _ => (hall k (heap_ltB ho) (by omega)).trans ho⟩, fun b hb1 _ hb3 => hall b (by omega) hb3, ?_⟩
  refine ⟨by rw [h2]; exact hb.os.trans hI.os, by rw [h2]; exact hb.tape.trans hI.tape, by rw [h2]; exact hb.output.trans hI.output, by have := hI.size; have := hb.size; omega, by have := hb.size; omega, fun k hk k1 k2 => (hall k (by omega) k2).trans (hI.block k hk k1 k2), true, A, c, D, ?_, ?_, ?_, ?_, ?_, ?_⟩
  · rw [goR_append, h1]
    simp [goR, he, hi]
  · rw [List.length_append]; omega
  · rw [h2]
    simpa using blk_set (blk_below h4 hb) 0 (.bool true)
  · exact (hall _ (heap_ltB h5) hhG).trans h5
  · exact h6.step (fun k hk => hall k (h6.lt k hk.symm) (by have := h6.base k hk.symm; omega))
  · exact fun d hd => (h7 d hd).step (fun k hk1 hk2 _ _ => hall k hk2 (by omega)) (by have := hb.size; omega) (.inl rfl)
/-- The round's end where a block has been read. -/
theorem RInv.block1 {base h G : Nat} {W0 W W1 Wg Wa W2 : World} {rd : List Int → RS} {ps : List (List Int)} {p : List Int} {ok : Nat → Prop} {gap : Bool} {A A1 A3 : Option Addr} {c c1 c3 : Nat} {D : List BD} (hI : RInv base h G W0 rd ps W)
    (h1 : goR rd ps (false, []) = some (gap, D.map (·.1))) (hD : D.length ≤ ps.length) (h4 : W.heap[G]? = some (.cells #[.bool gap] 4 (0, 0))) (h5 : W.heap[h + 1]? = some (.cells ⟨bkC A D.length c dig0 dig0⟩ 40 (0, 0))) (h6 : OwnB base W (.slice A D.length c) D) (h7 : ∀ d ∈ D, GoodR base (.slice A D.length c) W d)
    (hgap : gap = false) (he : (rd p).2.2.2.2 = 0) (hi : (rd p).2.2.2.1 = true)
    (hb : Below W.heap.size W W1) (hV : Kd.F (Kd.int .u8) W1 (Young W.heap.size W1) A3 (rd p).2.2.1.length (rd p).2.2.1) (hc3 : (rd p).2.2.1.length ≤ c3)
    (hg : Wg = W1.setCell ⟨G, 0, none⟩ (.bool false)) (hR : Kd.R (Kd.raw 3) 62 Wa base ok (.slice A1 (D.length + 1) c1) (D.map cell3 ++ [cell3 (⟨(rd p).1, (rd p).2.1, (rd p).2.2.1⟩, A3, c3)])) (hgr : Wg.grownBy Wa (Value.slice A D.length c).ownBlock) (hat : (Value.slice A1 (D.length + 1) c1).ownBlock = (Value.slice A D.length c).ownBlock ∨ ∃ b, (Value.slice A1 (D.length + 1) c1).ownBlock = some b ∧ Wg.heap.size ≤ b)
    (h2 : W2 = Wa.setCell ⟨h + 1, 0, none⟩ (.slice A1 (D.length + 1) c1)) (hG : G < base) (hh : h + 1 < base) (hhG : h + 1 ≠ G) :
    KeepsFrom base W W2 ∧ (∀ b, b < base → b ≠ h + 1 → b ≠ G → W2.heap[b]? = W.heap[b]?) ∧ RInv base h G W0 rd (ps ++ [p]) W2 := by
  have hsg : Wg.heap.size = W1.heap.size := by rw [hg]; simp [World.setCell]
  have hs2 : W2.heap.size = Wa.heap.size := by rw [h2]; simp [World.setCell]
  have hfg : ∀ k, k ≠ G → Wg.heap[k]? = W1.heap[k]? := fun k hk => by rw [hg]; exact Below.heap_setCell W1 ⟨G, 0, none⟩ _ k hk
  have hf2 : ∀ k, k ≠ h + 1 → W2.heap[k]? = Wa.heap[k]? := fun k hk => by rw [h2]; exact Below.heap_setCell Wa ⟨h + 1, 0, none⟩ _ k hk
  have hlt := hI.lt
  have hbs := hb.size
  have hgs := hgr.size
  have hob : ∀ k, (Value.slice A D.length c).ownBlock = some k → base ≤ k := h6.base
  have hol : ∀ k, (Value.slice A D.length c).ownBlock = some k → k < W.heap.size := h6.lt
  have hall : ∀ k, k < W.heap.size → k ≠ G → k ≠ h + 1 → some k ≠ (Value.slice A D.length c).ownBlock → W2.heap[k]? = W.heap[k]? := fun k hk k1 k2 k3 => (hf2 k k2).trans ((hgr.block k (by omega) k3).trans ((hfg k k1).trans (hb.block k hk)))
  refine ⟨⟨by omega, fun k o hk ho hco => ?_⟩, fun b hb1 hb2 hb3 => hall b (by omega) hb3 hb2 (fun e => by have := hob b e.symm; omega), ?_⟩
  · refine (hall k (heap_ltB ho) (by omega) (by omega) (fun e => ?_)).trans ho
    obtain ⟨cs, t, s, hcc⟩ := h6.cells k e.symm
    rw [ho] at hcc
    cases hcc
    cases hco
  refine ⟨by rw [h2]; exact hgr.os.trans (by rw [hg]; exact hb.os.trans hI.os), by rw [h2]; exact hgr.tape.trans (by rw [hg]; exact hb.tape.trans hI.tape), by rw [h2]; exact hgr.output.trans (by rw [hg]; exact hb.output.trans hI.output), by have := hI.size; omega, by omega, fun k hk k1 k2 => (hall k (by omega) k2 k1 (fun e => by have := hob k e.symm; omega)).trans (hI.block k hk k1 k2), false, A1, c1, D ++ [(⟨(rd p).1, (rd p).2.1, (rd p).2.2.1⟩, A3, c3)], ?_, ?_, ?_, ?_, ?_, ?_⟩
  · rw [goR_append, h1]
    simp [goR, he, hi, hgap]
  · simp only [List.length_append, List.length_singleton]; omega
  · have e1 : Wg.heap[G]? = some (.cells ((#[Value.bool gap]).setIfInBounds 0 (.bool false)) 4 (0, 0)) := by rw [hg]; exact blk_set (blk_below h4 hb) 0 (.bool false)
    refine (hf2 G (Ne.symm hhG)).trans ((hgr.block G (by omega) (fun e => by have := hob G e.symm; omega)).trans (e1.trans ?_))
    simp
  · have e1 : Wa.heap[h + 1]? = some (.cells ⟨bkC A D.length c dig0 dig0⟩ 40 (0, 0)) := (hgr.block (h + 1) (by omega) (fun e => by have := hob _ e.symm; omega)).trans ((hfg _ hhG).trans (blk_below h5 hb))
    have e2 := bk_set0 (A' := A1) (n' := D.length + 1) (c' := c1) e1
    rw [h2, List.length_append, List.length_singleton]
    exact e2
  · have hR1 : OwnB base Wa (.slice A1 (D.length + 1) c1) (D ++ [(⟨(rd p).1, (rd p).2.1, (rd p).2.2.1⟩, A3, c3)]) := by
      have := Kd.R_tight rfl hR
      unfold OwnB
      rw [List.map_append]
      exact this
    rw [List.length_append, List.length_singleton]
    exact hR1.step (fun k hk => hf2 k (by have := hR1.base k hk.symm; omega))
  · intro d hd
    rw [List.length_append, List.length_singleton]
    rcases List.mem_append.1 hd with hd | hd
    · exact (h7 d hd).step (fun k hk1 hk2 _ hk4 => hall k hk2 (by omega) (by omega) hk4) (by omega) (by
        rcases hat with hat | ⟨b, hat, hle⟩
        · exact .inl hat
        · exact .inr ⟨b, hat, by omega⟩)
    · cases List.mem_singleton.1 hd
      have hk9 : ∀ k, W.heap.size ≤ k → k < W1.heap.size → W2.heap[k]? = W1.heap[k]? := fun k hk1 hk2 => (hf2 k (by omega)).trans ((hgr.block k (by omega) (fun e => by have := hol k e.symm; omega)).trans (hfg k (by omega)))
      refine ⟨hc3, Kd.F_mono (Kd.F_step (Kd.F_bound hV) (fun k hk hlt => hk9 k hk.1.1 hlt)) (fun k hk => ?_)⟩
      obtain ⟨⟨h8, cs, q, h9⟩, h10⟩ := hk
      refine ⟨by omega, by omega, ⟨cs, q, (hk9 k h8 h10).trans h9⟩, fun e => ?_⟩
      rcases hat with hat | ⟨b, hat, hle⟩
      · rw [hat] at e
        have := hol k e.symm
        omega
      · rw [hat] at e
        injection e with e
        omega
/-- The round's end where the text tells no bucket. -/
theorem RStop.make {base h G : Nat} {W0 W W1 W2 W3 : World} {rd : List Int → RS} {ps : List (List Int)} (hI : RInv base h G W0 rd ps W) (hb : Below W.heap.size W W1) (q1 : W2.heap[h + 1]? = some (.cells Try.zeroCells40 40 (0, 0))) (q2 : ∀ k, k ≠ h + 1 → W2.heap[k]? = W1.heap[k]?) (q3 : Below 0 W1 W2) (q4 : W2.heap.size = W1.heap.size)
    (he : W.heap[h + 1 + 1]? = some (.cells #[.int .i64 0] 28 (0, 0))) (h3 : W3 = W2.setCell ⟨h + 1 + 1, 0, none⟩ (.int .i64 8)) (hh : h + 1 + 1 < base) : KeepsFrom base W W3 ∧ RStop base h G W0 W3 := by
  have hsz : W3.heap.size = W2.heap.size := by rw [h3]; simp [World.setCell]
  have hfar : ∀ k, k ≠ h + 1 + 1 → W3.heap[k]? = W2.heap[k]? := fun k hk => by rw [h3]; exact Below.heap_setCell W2 ⟨h + 1 + 1, 0, none⟩ _ k hk
  have hlt := hI.lt
  have hbs := hb.size
  have hall : ∀ k, k < W.heap.size → k ≠ h + 1 → k ≠ h + 1 + 1 → W3.heap[k]? = W.heap[k]? := fun k hk k1 k2 => (hfar k k2).trans ((q2 k k1).trans (hb.block k hk))
  refine ⟨⟨by omega, fun k o hk ho _ => (hall k (heap_ltB ho) (by omega) (by omega)).trans ho⟩, ?_⟩
  refine ⟨by rw [h3]; exact q3.os.trans (hb.os.trans hI.os), by rw [h3]; exact q3.tape.trans (hb.tape.trans hI.tape), by rw [h3]; exact q3.output.trans (hb.output.trans hI.output), by have := hI.size; omega, by omega, fun k hk k1 k2 k3 => (hall k (by omega) k1 k2).trans (hI.block k hk k1 k3), (hfar _ (by omega)).trans q1, ?_⟩
  have e1 : W2.heap[h + 1 + 1]? = some (.cells #[.int .i64 0] 28 (0, 0)) := (q2 _ (by omega)).trans (blk_below he hb)
  have e2 := blk_set e1 0 (.int .i64 8)
  rw [h3]
  simpa using e2
theorem OwnB.gapped {base G : Nat} {W W1 W2 : World} {v : Value} {D : List BD} (h : OwnB base W v D) (hb : Below W.heap.size W W1) (h2 : W2 = W1.setCell ⟨G, 0, none⟩ (.bool false)) (hG : G < base) : Kd.R (Kd.raw 3) 62 W2 base (fun _ => True) v (D.map cell3) := by
  refine Kd.R_mono (h.step (W' := W2) (fun k hk => ?_)) (fun _ _ => trivial)
  have h1 := h.base k hk.symm
  rw [h2]
  exact (Below.heap_setCell W1 ⟨G, 0, none⟩ _ k (by show k ≠ G; omega)).trans (hb.block k (h.lt k hk.symm))
theorem OwnB.cells0 {B : Nat} {W : World} {v : Value} {D : List BD} (h : OwnB B W v D) : ∀ k, v.ownBlock = some k → ∃ cs u, W.heap[k]? = some (.cells cs u (0, 0)) := by
  obtain ⟨_, inner, ho, hr⟩ := h
  intro k hk
  rcases ho.2 with ⟨hv, _⟩ | ⟨g, cap, cur, hv, hb, hg, _⟩
  · subst hv
    simp [Value.ownBlock] at hk
  · subst hv
    have : k = g := by simpa [Value.ownBlock] using hk.symm
    subst this
    exact ⟨_, _, hg⟩
theorem OwnB.rest {base : Nat} {W : World} {A : Option Addr} {c : Nat} {D : List BD} (h : OwnB base W (.slice A D.length c) D) : RestB base W (.slice A D.length c) D := by
  refine ⟨A, c, rfl, (Kd.R_reads' h).2.1, fun hn => ?_⟩
  obtain ⟨g', rest, e1, e2, e3, e4⟩ := raw_block h hn
  exact ⟨g', rest, e1, e2, e4⟩
theorem softB_own {base : Nat} {W : World} {A : Option Addr} {c : Nat} {v : Value} {D : List BD} (h : OwnB base W (.slice A D.length c) D) (hg : ∀ d ∈ D, GoodR base v W d) : SoftB W (fun k => base ≤ k ∧ ∃ cs q, W.heap[k]? = some (.cells cs q (0, 0))) A ((D.map (·.1)).map (·.f2.length)) := by
  intro i m hi
  rw [List.map_map, List.getElem?_map, Option.map_eq_some_iff] at hi
  obtain ⟨d, hd, rfl⟩ := hi
  have hn : D.length ≠ 0 := by
    have := (List.getElem?_eq_some_iff.1 hd).1
    omega
  obtain ⟨A', c', e, _, h3⟩ := h.rest
  injection e with e1 e2 e3
  subst e1
  obtain ⟨b, tail, rfl, hb, hcells⟩ := h3 hn
  have hrb : RestB base W (.slice (some ⟨b, 0, none⟩) D.length c') D := ⟨_, _, rfl, by omega, fun _ => ⟨b, tail, rfl, hb, hcells⟩⟩
  obtain ⟨b', c2, e', hb1, hb2, hx0, hx1, hx2⟩ := hrb.cells hd
  injection e' with e4 e5 e6
  injection e4 with e4
  injection e4 with e4
  subst e4
  refine ⟨_, rfl, ?_, ⟨d.1.f0, ?_⟩, d.2.1, d.2.2, ?_, fun k hk => ?_⟩
  · exact ⟨hb, _, _, hcells⟩
  · rw [add_at, Nat.zero_add]
    exact hx0
  · rw [add_at, Nat.zero_add]
    exact hx2
  · have hk2 : k < d.1.f2.length := hk
    obtain ⟨ad, cs, hA, hcl, hK, hcc, hok⟩ := Kd.F_get (hg d (List.mem_of_getElem? hd)).2 (0 : Int) (k : Int) (by omega) (by omega)
    rw [Int.toNat_natCast] at hK hcc
    have hK' : cs = [.int .u8 (d.1.f2.getD k 0)] := Kd.FK_now hK
    subst hK'
    have hc := hcc 0 _ rfl
    rw [show k * (Kd.int .u8).sz + 0 = k by show k * 1 + 0 = k; omega] at hc
    obtain ⟨o1, o2, o3, o4⟩ := hok (by decide)
    exact ⟨ad, hA, ⟨o1, o3⟩, _, hc⟩
theorem read_fin {base B : Nat} {W Wf : World} {A : Option Addr} {c : Nat} {D : List BD} (h : OwnB base W (.slice A D.length c) D) (hg : ∀ d ∈ D, GoodR base (.slice A D.length c) W d) (hs : ∀ k, base ≤ k → k < W.heap.size → (∃ cells q, W.heap[k]? = some (.cells cells q (0, 0))) → Wf.heap[k]? = W.heap[k]?) (hsz : W.heap.size ≤ Wf.heap.size) (hb : B ≤ base) :
    D.length ≤ c ∧ Kd.C k62 Wf A D.length (D.map (·.1)) ∧ ∃ ok, SoftB Wf ok A ((D.map (·.1)).map (·.f2.length)) ∧ Soft Wf ok ∧ ∀ k, ok k → B ≤ k := by
  have h2 : OwnB base Wf (.slice A D.length c) D := h.step (fun k hk => by
    obtain ⟨cs, u, hc⟩ := h.cells0 k hk.symm
    exact hs k (h.base k hk.symm) (h.lt k hk.symm) ⟨cs, u, hc⟩)
  have hg2 : ∀ d ∈ D, GoodR base (.slice A D.length c) Wf d := fun d hd => (hg d hd).step (fun k h1 h2 h3 _ => hs k h1 h2 h3) hsz (.inl rfl)
  have hr := Kd.R_reads' h2
  rw [List.length_map] at hr
  refine ⟨hr.2.1, ?_, _, softB_own h2 hg2, fun k hk => hk.2, fun k hk => Nat.le_trans hb hk.1⟩
  exact raw_to_C hr.2.2 (fun d hd => ⟨(hg2 d hd).1, Kd.F_now (hg2 d hd).2⟩)
/-- A digest is copied into a bucket's box. -/
theorem copy_left {A : Option Addr} {n c : Nat} {L R L' : List Int} (hL : L.length = 32) (hL' : L'.length = 32) : ((⟨bkC A n c L R⟩ : Array Value).toList.take 1 ++ L'.map (Value.int .u8) ++ (⟨bkC A n c L R⟩ : Array Value).toList.drop (1 + (L'.map (Value.int .u8)).length)).toArray = ⟨bkC A n c L' R⟩ := by
  apply Array.ext'
  show (bkC A n c L R).take 1 ++ L'.map (Value.int .u8) ++ (bkC A n c L R).drop (1 + (L'.map (Value.int .u8)).length) = bkC A n c L' R
  rw [List.length_map, hL', show 1 + 32 = 32 + 1 from rfl]
  unfold bkC
  rw [List.drop_succ_cons, List.drop_left' (by simp [hL])]
  simp
theorem copy_right {A : Option Addr} {n c : Nat} {L R R' : List Int} (hL : L.length = 32) (hR : R.length = 32) (hR' : R'.length = 32) : ((⟨bkC A n c L R⟩ : Array Value).toList.take 33 ++ R'.map (Value.int .u8) ++ (⟨bkC A n c L R⟩ : Array Value).toList.drop (33 + (R'.map (Value.int .u8)).length)).toArray = ⟨bkC A n c L R'⟩ := by
  apply Array.ext'
  show (bkC A n c L R).take 33 ++ R'.map (Value.int .u8) ++ (bkC A n c L R).drop (33 + (R'.map (Value.int .u8)).length) = bkC A n c L R'
  rw [List.length_map, hR', List.drop_of_length_le (by rw [bkC_length hL hR]; omega)]
  unfold bkC
  rw [List.take_succ_cons, List.take_left' (by simp [hL])]
  simp
theorem C_srcB {W : World} {ad : Addr} {n : Nat} {l : List Int} (h : Kd.C (Kd.int .u8) W (some ad) n l) (j : Nat) (v : Value) (hv : (l.map (Value.int .u8))[j]? = some v) : W.cell? (ad.add j) = some v := by
  obtain ⟨hn, _, hr⟩ := h
  rw [List.getElem?_map, Option.map_eq_some_iff] at hv
  obtain ⟨x, hx, rfl⟩ := hv
  have hj := (List.getElem?_eq_some_iff.1 hx).1
  obtain ⟨ad', he, hcc⟩ := hr (by omega)
  injection he with he
  subst he
  obtain ⟨cs, hl, hK, hcell⟩ := hcc j x hx
  have hK' : cs = [.int .u8 x] := hK
  subst hK'
  have := hcell 0 (.int .u8 x) rfl
  rw [show j * (Kd.int .u8).sz + 0 = j by show j * 1 + 0 = j; omega] at this
  exact this
theorem goR_mem (rd : List Int → RS) : ∀ (ps : List (List Int)) (s s' : Bool × List S62), goR rd ps s = some s' → ∀ x ∈ s'.2, x ∈ s.2 ∨ ∃ p ∈ ps, x = ⟨(rd p).1, (rd p).2.1, (rd p).2.2.1⟩
  | [], s, s', h, x, hx => by
    cases h
    exact .inl hx
  | p :: ps, s, s', h, x, hx => by
    rw [goR] at h
    split at h
    · cases h
    · rcases goR_mem rd ps _ s' h x hx with h1 | ⟨p', hp', h1⟩
      · simp only at h1
        split at h1
        · rcases List.mem_append.1 h1 with h1 | h1
          · exact .inl h1
          · exact .inr ⟨p, List.mem_cons_self, List.mem_singleton.1 h1⟩
        · exact .inl h1
      · exact .inr ⟨p', List.mem_cons_of_mem _ hp', h1⟩
end Go.Proofs.Ytknmokpnkcckeaa
