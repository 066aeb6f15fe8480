/-
A region of a round (range over a function), walked as if it were in no round.
-/
import Derived.Test.YtknmokpnkcckeaaHandPath
import Derived.WalkMore
import Derived.Test.YtknmokpnkcckeaaStillG
import Derived.Test.YtknmokpnkcckeaaPAll29
import Derived.Test.YtknmokpnkcckeaaPAll7
import Derived.Test.YtknmokpnkcckeaaPAll4
namespace Go.Proofs.Ytknmokpnkcckeaa
open Go.RowKit Go.Proofs.YtknmokpnkcckeaaW.PrintWords Go.Proofs.YtknmokpnkcckeaaW.PrintLast
set_option linter.unusedVariables false
set_option linter.unusedSimpArgs false

section
variable {P : Program} {ops : Array Oper} {Q : Exit → Act → World → Prop} {md : Region.Mode} {S : World → Prop} {ds : List Nat} {l n : Nat} {a : Act} {w : World} {o : Oper}
theorem callsIn_round {f : FuncId} {args : Array Value} {R : Ending → World → Prop} (h : Calls P f args w R) : CallsIn (Fence.wide.inRound l) n P f args w R := callsIn_wide.2 h
theorem rowsIn_round {row : String} {args : Array Value} {R : Value → World → Prop} (h : Rows P row args w R) : RowsIn (Fence.wide.inRound l) n P row args w R := fun c cs _ => by
  obtain ⟨v, w', h1, h2⟩ := h c cs
  exact ⟨v, w', h1, stepsIn_wide.2 h2⟩
theorem uponIn_of {K : Act → World → Prop} : ∀ {r : Result Next}, o.upon P a K Q r → o.uponIn (Fence.wide.inRound l) n P a K Q r := by
  intro r h
  cases r with
  | ok x w' =>
    cases x <;> simp only [Oper.upon, Oper.uponIn] at h ⊢ <;>
      first
        | exact h
        | exact ⟨fun hd => (by have h2 : false = true := hd; cases h2), CallsIn.mono (callsIn_round h) (fun e w'' he => by cases e <;> exact he)⟩
        | exact ⟨fun hd => (by have h2 : false = true := hd; cases h2), rowsIn_round h⟩
  | halt x w' => cases x <;> simp only [Oper.upon, Oper.uponIn] at h ⊢ <;> exact h
def noDefer (ops : Array Oper) : Bool := ops.toList.all fun o => match o.op with | .defer _ => false | _ => true
theorem noDefer_at (h : noDefer ops = true) {i : Nat} (hi : ops[i]? = some o) : ∀ c, o.op ≠ .defer c := by
  intro c hc
  have hm : o ∈ ops.toList := by
    have := Array.mem_of_getElem? hi
    simpa using this
  have := (List.all_eq_true.1 h) o hm
  rw [hc] at this
  cases this
theorem operIn_of {K : Act → World → Prop} (hd : ∀ c, o.op ≠ .defer c) (h : o.wp P a w K Q) : o.wpIn (Fence.wide.inRound l) n P a w K Q := by
  refine ⟨fun _ _ => trivial, ?_⟩
  rw [show (Fence.wide.inRound l).round = some l from rfl, Oper.semAt_some l _ _ hd]
  exact uponIn_of h
theorem wpAnyIn_of (hd : noDefer ops = true) (hno : ¬ LetsOut Q) : ∀ (fuel : Nat) (listed : Array Bool) (a : Act) (w : World), wpAny P md ops Q fuel listed a w → wpAnyIn (Fence.wide.inRound l) n P md ops Q fuel listed a w
  | 0, listed, a, w, h => h
  | fuel + 1, listed, a, w, h => by
    refine ⟨h.1, fun i hi => ?_⟩
    have h2 := h.2 i hi
    unfold wpOp at h2
    unfold wpOpIn
    cases ho : ops[i]? with
    | none =>
      simp only [ho] at h2 ⊢
      exact wpAnyIn_of hd hno _ _ _ _ h2
    | some o =>
      simp only [ho] at h2 ⊢
      split at h2
      · rcases h2 with h2 | h2
        · rename_i hw
          simp only [hw, if_true]
          exact Oper.wpIn_mono (fun a w h => wpAnyIn_of hd hno _ _ _ _ h) (operIn_of (noDefer_at hd ho) h2)
        · exact absurd h2.2 hno
      · rename_i hw
        simp only [hw]
        exact ⟨fun _ _ => trivial, wpAnyIn_of hd hno _ _ _ _ h2⟩
/-- The start of a region that draws its order, in a round. -/
theorem start_in {id m : Nat} (l0 : Array Bool) (hd : noDefer ops = true) (hno : ¬ LetsOut Q) (hm : P.follows .mixedOrders = true) (hn : ops.size = m) (hl : Array.replicate m false = l0) (hS : S w.drew)
    (h : S w.drew → wpAnyLast P .any ops Q S ds m l0 a w.drew) : (Code.region id ops true).wpIn (Fence.wide.inRound l) n P Q a w := by
  subst hn
  subst hl
  exact wpIn_region_any hm (wpAnyIn_of hd hno _ _ _ _ (wpAny_of_last _ _ _ _ (h hS)))
theorem listIn_of (hno : ¬ LetsOut Q) : ∀ (rest : List Oper) (hd : noDefer rest.toArray = true) (a : Act) (w : World), wpList P ops Q rest a w → wpListIn (Fence.wide.inRound l) n P ops Q rest a w
  | [], _, a, w, h => h
  | o :: rest, hd, a, w, h => by
    have hd2 : noDefer rest.toArray = true := by
      simp only [noDefer, List.all_cons, Bool.and_eq_true] at hd ⊢
      exact hd.2
    unfold wpList at h
    unfold wpListIn
    split at h
    · rename_i hw
      rcases h with h | h
      · simp only [hw, if_true]
        exact Oper.wpIn_mono (fun a w h => listIn_of hno rest hd2 _ _ h) (operIn_of (noDefer_at hd (i := 0) rfl) h)
      · exact absurd h.2 hno
    · rename_i hw
      simp only [hw]
      exact ⟨fun _ _ => trivial, listIn_of hno rest hd2 _ _ h⟩
/-- A plain region in a round. -/
theorem plain_in {id : Nat} {L : List Oper} (hd : noDefer L.toArray = true) (hno : ¬ LetsOut Q) (h : wpList P L.toArray Q L a w) : (Code.region id L.toArray false).wpIn (Fence.wide.inRound l) n P Q a w :=
  wpIn_region_lit (listIn_of hno L hd a w h)
end
section
variable {F : Fence} {n : Nat} {P : Program} {Q : Exit → Act → World → Prop} {a : Act} {w : World}
/-- A scope through which the run goes with no goto. -/
theorem wpIn_scope_straight {c : Code} (h : c.wpIn F n P (Exit.noGoto Q) a w) : (Code.scope c).wpIn F n P Q a w := by
  intro b k cs hro hb hr
  have h0 : (lone (b.atR a (.code (.scope c) :: k)) cs w).fenced P F := fenced_calm hb hr rfl
  have hs : step P (lone (b.atR a (.code (.scope c) :: k)) cs w) = .next (lone (b.atR a (.code c :: .inScope c :: k)) cs w) := step_lone_go (by simp [stepG, stepG.exec, Frame.atR])
  have hs2 : ∀ a w, step P (lone (b.atR a (.inScope c :: k)) cs w) = .next (lone (b.atR a k) cs w) := fun a w => step_lone_go (by simp [stepG, stepG.exec, Frame.atR])
  obtain ⟨e, a₁, w₁, hq, harr⟩ := h b (.inScope c :: k) cs hro hb hr
  cases e with
  | normal => exact ⟨.normal, a₁, w₁, hq, .head h0 hs (StepsIn.trans harr (.one (fenced_calm hb hr rfl) (hs2 _ _)))⟩
  | exit id =>
    have hx : exitTo id (.inScope c :: k) = exitTo id k := by simp [exitTo]
    exact ⟨.exit id, a₁, w₁, hq, fun k' hk => .head h0 hs (harr.1 k' (by rw [hx]; exact hk)), fun hr' hk => let ⟨k₁, h1, h2⟩ := harr.2 hr' (by rw [hx]; exact hk); ⟨k₁, h1, .head h0 hs h2⟩⟩
  | goto l => exact hq.elim
  | ret => exact ⟨_, a₁, w₁, hq, .of_steps (.one h0 hs) harr⟩
  | panic ch => exact ⟨_, a₁, w₁, hq, .of_steps (.one h0 hs) harr⟩
  | outgrown => exact ⟨_, a₁, w₁, hq, .of_steps (.one h0 hs) harr⟩
end
end Go.Proofs.Ytknmokpnkcckeaa

namespace Go.Proofs.Ytknmokpnkcckeaa
open Go.RowKit Go.Shelf
set_option linter.unusedVariables false
set_option linter.unusedSimpArgs false
attribute [local go_sem] Oper.semAt_some

/-- One block lies as it lay. -/
def KeepOne (a : Nat) (W W' : World) : Prop := W'.heap[a]? = W.heap[a]?
theorem KeepOne.trans {a : Nat} {A B C : World} (h : KeepOne a A B) (k : KeepOne a B C) : KeepOne a A C := Eq.trans k h
theorem KeepOne.cell {a : Nat} {A B : World} (h : KeepOne a A B) : B.cell? ⟨a, 0, none⟩ = A.cell? ⟨a, 0, none⟩ := by
  unfold KeepOne at h
  simp [World.cell?, h]
theorem KeepOne.put {a : Nat} {w : World} (ha : a < w.heap.size) (W : World) (l : Nat) (o o' : Obj) (hl : w.heap.size ≤ l) (h : W.heap[l]? = some o) (h1 : o.isCells = false) (h2 : o.isWalk = false) : KeepOne a W (W.putObj l o') :=
  (belowK_b (Nat.le_refl _) W l o o' hl h h1 h2).block a ha

set_option maxHeartbeats 2000000 in
set_option maxRecDepth 100000 in
theorem up1_in (n : Nat) (hn : 1 ≤ n) (l Bh hi : Nat) (hh : (hi : Int) ≤ 6) (J Jx : List Nat → World → Prop)
    (hY : ∀ (pre : List Nat) (x : Nat) (W : World), x ≤ hi → J pre W → pre.length < hi + 1 → YieldAt Fence.wide (n - 1) Try.prog l #[.int .i64 (x : Int)] W fun e W' =>
      (e = .returned (.bool true) ∧ J (pre ++ [x]) W' ∧ KeepOne Bh W W') ∨ (e = .returned (.bool false) ∧ Jx (pre ++ [x]) W'))
    (W : World) (hBh : W.cell? ⟨Bh, 0, none⟩ = some (.int .i64 (hi : Int))) (h0 : J [] W) :
    CallsIn Fence.wide n Try.prog 65 #[.func (.yield l) #[] #[], .pointer (some ⟨Bh, 0, none⟩)] W fun e W' => (∃ v, e = .returned v) ∧
      ((∃ ys, ys = upto (fun j => hi - j) (hi + 1) ∧ J ys W') ∨ (∃ pre, (∃ k, k ≤ hi + 1 ∧ pre = upto (fun j => hi - j) k) ∧ Jx pre W')) := by
  refine callsIn_of_wp Try.func65 rfl trivial ?_
  simp only [Try.ntmps65, List.size_toArray, List.length_cons, List.length_nil, Nat.reduceAdd, Nat.reduceSub, Array.replicate_succ, Array.replicate_zero, List.push_toArray, List.append_toArray, List.nil_append, List.cons_append]
  gi_wp2
  gi_loopw [3] (fun i wr => ∃ k : Nat, k ≤ hi + 1 ∧ i = .int .i64 ((hi : Int) - k) ∧ J (upto (fun j => hi - j) k) wr)
    (fun i _ => (intOf i + 1).toNat)
  case atStart => exact ⟨0, Nat.zero_le _, by simp, h0⟩
  case round =>
    obtain ⟨k, hk, rfl, hJs⟩ := hrel
    by_cases hlt : k ≤ hi
    · obtain ⟨fn, tmps, assign, body, hy, hR⟩ := hY _ (hi - k) wr (Nat.sub_le _ _) hJs (by rw [upto_length]; omega)
      have hd : decide ((hi : Int) - (k : Int) ≥ 0) = true := decide_eq_true (by omega)
      have hcast : ((hi - k : Nat) : Int) = (hi : Int) - k := by omega
      rw [hcast] at hy
      gi_wp2_with ((refine hR.mono ?_; rintro e W3 hq; obtain ⟨b, rfl, HJ⟩ := yielded_bool hq; clear hq))
      all_goals
        rename_i hb
        rcases HJ.out with ⟨h1, hJ3, hk3⟩ | ⟨h1, hJx3⟩
        · subst h1
          first
            | cases hb; done
            | exact ⟨⟨k + 1, by omega, by congr 1; omega, by rw [upto_succ]; exact hJ3⟩, by simp [intOf]; omega⟩
        · subst h1
          first
            | cases hb; done
            | exact bodyPost_ret (results_none rfl _ _ _) rfl ⟨⟨_, rfl⟩, .inr ⟨_, ⟨k + 1, by omega, (upto_succ _ _).symm⟩, hJx3⟩⟩
    · have hd : decide ((hi : Int) - (k : Int) ≥ 0) = false := decide_eq_false (by omega)
      gi_wp2
      go_end0
      exact ⟨⟨_, rfl⟩, .inl ⟨_, rfl, by
        have hkk : k = hi + 1 := by omega
        subst hkk
        exact hJs⟩⟩

theorem up_in (n : Nat) (high : Int) (w : World) :
    CallsIn Fence.wide n Try.prog 39 #[.int .i64 high] w fun e w' => e = .returned (.func (.func 65) #[] #[.pointer (some ⟨w.heap.size, 0, none⟩)]) ∧ w' = w.alloc (.cells #[.int .i64 high] 3) := by
  refine callsIn_of_wp Try.func39 rfl trivial ?_
  simp only [Try.ntmps39, List.size_toArray, List.length_cons, List.length_nil, Nat.reduceAdd, Nat.reduceSub, Array.replicate_succ, Array.replicate_zero, List.push_toArray, List.append_toArray, List.nil_append, List.cons_append]
  gi_wp2
  go_ret
  exact ⟨rfl, rfl⟩
theorem up_stops (n : Nat) (hn : 1 ≤ n) (Bh hi : Nat) (hh : (hi : Int) ≤ 6) (w : World) (hBh : Bh < w.heap.size) (hc1 : w.cell? ⟨Bh, 0, none⟩ = some (.int .i64 (hi : Int))) :
    SeqStopsK Fence.wide n Try.prog 65 #[.pointer (some ⟨Bh, 0, none⟩)] (fun x : {t : Nat // t ≤ hi} => #[Value.int .i64 (x.1 : Int)]) (KeepOne Bh) (fun ys => ys.map (·.1) = upto (fun j => hi - j) (hi + 1)) (fun _ => True) (hi + 1) w := by
  intro l J Jx W hW hJ _ hY h0
  refine (up1_in n hn l Bh hi hh (fun pre W => ∃ pre', pre'.map (·.1) = pre ∧ J pre' W) (fun pre W => ∃ pre', pre'.map (·.1) = pre ∧ Jx pre' W) ?_ W ((hW.cell (p := ⟨Bh, 0, none⟩) hBh).trans hc1) ⟨[], rfl, h0⟩).mono ?_
  · rintro _ x W1 hx ⟨pre', rfl, hJ1⟩ hl
    obtain ⟨fn, tmps, assign, body, hy, hR⟩ := hY pre' ⟨x, hx⟩ W1 hJ1 (by simpa using hl)
    refine ⟨fn, tmps, assign, body, hy, hR.mono ?_⟩
    rintro e W' (⟨h1, h2, h3⟩ | ⟨h1, h2⟩)
    · exact .inl ⟨h1, ⟨pre' ++ [⟨x, hx⟩], by simp, h2⟩, h3⟩
    · exact .inr ⟨h1, ⟨pre' ++ [⟨x, hx⟩], by simp, h2⟩⟩
  · rintro e W' ⟨hv, ⟨ys, rfl, ys', h1, h2⟩ | ⟨pre, _, pre', h1, h2⟩⟩
    · exact ⟨hv, .inl ⟨ys', h1, h2⟩⟩
    · exact ⟨hv, .inr ⟨pre', trivial, h2⟩⟩
end Go.Proofs.Ytknmokpnkcckeaa

namespace Go.Proofs.Ytknmokpnkcckeaa
open Go.RowKit Go.Proofs.YtknmokpnkcckeaaW.PrintWords Go.Proofs.YtknmokpnkcckeaaW.PrintLast Go.Proofs.YtknmokpnkcckeaaW.PrintMore Go.Proofs.Ytknmokpnkcckeaa.PAll
set_option linter.unusedVariables false
set_option linter.unusedSimpArgs false

def CellsStay (W W' : World) : Prop := ∀ (k : Nat) (cs : Array Value) (u : TypeId) (s : Nat × Nat), W.heap[k]? = some (Obj.cells cs u s) → W'.heap[k]? = some (Obj.cells cs u s)
theorem OwnR.cells {B : Nat} {W : World} {v : Value} {D : List BD} (h : OwnR B W v D) : ∀ k, v.ownBlock = some k → ∃ cs u s, W.heap[k]? = some (.cells cs u s) := by
  obtain ⟨_, inner, ho, hr⟩ := h
  intro k hk
  rcases ho.2 with ⟨hv, _⟩ | ⟨g, cap, cur, hv, hb, hg, _⟩
  · subst hv
    simp [Value.ownBlock] at hk
  · subst hv
    have : k = g := by simpa [Value.ownBlock] using hk.symm
    subst this
    exact ⟨_, _, _, hg⟩
theorem OutG.cells_step {g B0 base n many N : Nat} {vs : List Value} {v : Value} {S : List (List BD) × List BD} {W W' : World} (h : OutG g B0 base n many N vs v S W) (hs : CellsStay W W') (hsz : W.heap.size ≤ W'.heap.size) : OutG g B0 base n many N vs v S W' :=
  ⟨hs _ _ _ _ h.blk, h.len, fun j D' hj => by
    obtain ⟨hm, u, hu, hR⟩ := h.row j D' hj
    refine ⟨hm, u, hu, hR.step (fun k hk => ?_)⟩
    obtain ⟨cs, t, s, hc⟩ := hR.cells k hk.symm
    rw [hs _ _ _ _ hc, hc], h.ap, by
    obtain ⟨A, c, h1, h2, h3⟩ := h.rest
    refine ⟨A, c, h1, h2, fun hn => ?_⟩
    obtain ⟨b, tail, e1, e2, e3⟩ := h3 hn
    exact ⟨b, tail, e1, e2, hs _ _ _ _ e3⟩, h.rap, h.le, Nat.le_trans h.lt hsz, h.gB, h.bB⟩
/-- All that lay lies, but the rows' block and the rest's cell. -/
structure StayG (B0 g rc : Nat) (W0 W : World) : Prop where
  os : W.os = W0.os
  tape : W.tape = W0.tape
  output : W.output = W0.output
  size : W0.heap.size ≤ W.heap.size
  block : ∀ k, k < B0 → k ≠ g → k ≠ rc → W.heap[k]? = W0.heap[k]?
theorem StayG.refl (B0 g rc : Nat) (W : World) : StayG B0 g rc W W := ⟨rfl, rfl, rfl, Nat.le_refl _, fun _ _ _ _ => rfl⟩
theorem StayG.below {B0 g rc n : Nat} {w W0 W : World} (h : StayG B0 g rc W0 W) (hb : Below n w W0) (h1 : n ≤ g) (h2 : n ≤ rc) (h3 : n ≤ B0) : Below n w W :=
  ⟨h.os.trans hb.os, h.tape.trans hb.tape, h.output.trans hb.output, Nat.le_trans hb.size h.size, fun k hk => (h.block k (by omega) (by omega) (by omega)).trans (hb.block k hk)⟩
theorem StayG.grown {B0 g rc : Nat} {W0 W W' : World} {row : Option Nat} (h : StayG B0 g rc W0 W) (hB : B0 ≤ W.heap.size) (hg : W.grownBy W' row) (hr : ∀ r, row = some r → B0 ≤ r) : StayG B0 g rc W0 W' :=
  ⟨hg.os.trans h.os, hg.tape.trans h.tape, hg.output.trans h.output, Nat.le_trans h.size hg.size, fun k hk h1 h2 => (hg.block k (by omega) (fun e => by have := hr k e.symm; omega)).trans (h.block k hk h1 h2)⟩
/-- Between two rounds, whatever rows have come. -/
structure FInv (B0 g rc base n many N : Nat) (fits : Nat → BD → Bool) (D0 : List BD) (W0 : World) (ts : List Nat) (W : World) : Prop where
  stay : StayG B0 g rc W0 W
  out : ∃ vs v, W.heap[rc]? = some (.cells #[v] 24 (0, 0)) ∧ OutG g B0 base n many N vs v (ts.foldl (stepP many fits) (List.replicate n [], D0)) W
theorem FInv.own {B0 g rc base n many N : Nat} {fits : Nat → BD → Bool} {D0 : List BD} {W0 : World} {β : Type} (f : β → List Nat) : OwnFrom B0 (fun (pre : β) W => FInv B0 g rc base n many N fits D0 W0 (f pre) W) := by
  intro s W W' row hs hg hr
  obtain ⟨h1, vs, v, h2, h3⟩ := hs
  have hc : CellsStay W W' := fun k cs u s hk => by
    refine (hg.block k (heap_lt hk) (fun e => ?_)).trans hk
    obtain ⟨_, o, ho, hcell⟩ := hr k e.symm
    rw [hk] at ho
    cases ho
    cases hcell
  exact ⟨h1.grown h3.lt hg (fun r e => (hr r e).1), vs, v, hc _ _ _ _ h2, h3.cells_step hc hg.size⟩
theorem InG.stay {g B0 base n many N : Nat} {fit : BD → Bool} {t : Nat} {vs : List Value} {v v0 : Value} {S : List (List BD) × List BD} {w1 W : World} {i : Nat} {vr vl : Value} {Dr Dl : List BD} {R0 D : List BD} (hO : OutG g B0 base n many N vs v S w1) (ht : t < n) (h0 : vs[t]? = some v0) (h : InG g B0 N many fit t vs v0 R0 D w1 i vr vl Dr Dl W) :
    ∀ k, k < B0 → k ≠ g → W.heap[k]? = w1.heap[k]? := by
  intro k hk h1
  obtain ⟨_, u, hu, hR⟩ := hO.row t _ (List.getElem?_eq_getElem (by rw [hO.len]; exact ht))
  rw [h0] at hu
  cases hu
  exact h.still k (by have := hO.lt; omega) h1 (fun e => by have := hR.base k e; omega)
/-- The round's end: the rest's cell is written. -/
theorem FInv.next {B0 g rc base n many N : Nat} {fits : Nat → BD → Bool} {D0 : List BD} {W0 w1 W : World} {t : Nat} {vs : List Value} {v v0 : Value} {ts : List Nat} {vr vl : Value} {Dr Dl : List BD} (hs : StayG B0 g rc W0 w1) (hbox : w1.heap[rc]? = some (.cells #[v] 24 (0, 0))) (hO : OutG g B0 base n many N vs v (ts.foldl (stepP many fits) (List.replicate n [], D0)) w1) (ht : t < n) (h0 : vs[t]? = some v0) (hrc : rc < g)
    (h2 : InG g B0 N many (fits t) t vs v0 ((ts.foldl (stepP many fits) (List.replicate n [], D0)).1.getD t []) (ts.foldl (stepP many fits) (List.replicate n [], D0)).2 w1 (ts.foldl (stepP many fits) (List.replicate n [], D0)).2.length vr vl Dr Dl W) :
    KeepsFrom B0 w1 (W.setCell ⟨rc, 0, none⟩ vl) ∧ (∀ b, b < B0 → b ≠ g → b ≠ rc → KeepOne b w1 (W.setCell ⟨rc, 0, none⟩ vl)) ∧ FInv B0 g rc base n many N fits D0 W0 (ts ++ [t]) (W.setCell ⟨rc, 0, none⟩ vl) := by
  have hst := InG.stay hO ht h0 h2
  have hsz := h2.os.2.2.2
  have hB := hO.lt
  have hgB := hO.gB
  have hszc : (W.setCell ⟨rc, 0, none⟩ vl).heap.size = W.heap.size := by simp [World.setCell]
  have hfar : ∀ k, k ≠ rc → (W.setCell ⟨rc, 0, none⟩ vl).heap[k]? = W.heap[k]? := fun k hk => Below.heap_setCell W ⟨rc, 0, none⟩ vl k hk
  have hboxW : W.heap[rc]? = some (.cells #[v] 24 (0, 0)) := (hst rc (by omega) (by omega)).trans hbox
  refine ⟨⟨by omega, fun k o hk ho hco => ?_⟩, fun b hb h1 h2' => (hfar b h2').trans (hst b hb h1), ⟨⟨?_, ?_, ?_, ?_, ?_⟩, vs.set t vr, vl, ?_, ?_⟩⟩
  · rw [hfar k (by omega)]
    have hne : k ≠ g := by omega
    refine (h2.still k (heap_lt ho) hne (fun e => ?_)).trans ho
    obtain ⟨_, u, hu, hR⟩ := hO.row t _ (List.getElem?_eq_getElem (by rw [hO.len]; exact ht))
    rw [h0] at hu
    cases hu
    obtain ⟨cs, ty, s, hc⟩ := hR.cells k e
    rw [ho] at hc
    cases hc
    cases hco
  · exact h2.os.1.trans hs.os
  · exact h2.os.2.1.trans hs.tape
  · exact h2.os.2.2.1.trans hs.output
  · rw [hszc]
    exact Nat.le_trans hs.size hsz
  · exact fun k hk h1 h3 => (hfar k h3).trans ((hst k hk h1).trans (hs.block k hk h1 h3))
  · simpa using blk_set hboxW 0 vl
  · rw [List.foldl_append]
    refine OutG.step (OutG.next hO ht h0 h2) (fun k hk _ _ => hfar k (by omega)) (by omega) (fun k hk => ?_)
    have := h2.l.base k hk
    omega
theorem goodB_stay {base : Nat} {W W' : World} {d : BD} (h : GoodB W d ∧ YoungD base W d) (hk : ∀ k, base ≤ k → k < W.heap.size → W'.heap[k]? = W.heap[k]?) : GoodB W' d ∧ YoungD base W' d := by
  obtain ⟨⟨hl, hn, hm, hr⟩, hy⟩ := h
  by_cases h0 : d.1.f2.length = 0
  · exact ⟨⟨hl, hn, hm, fun hp => absurd h0 (by omega)⟩, fun hp => absurd h0 hp⟩
  · obtain ⟨gd, cells, hA, hb, hc⟩ := hy h0
    have hs := hk gd hb (heap_lt hc)
    refine ⟨⟨hl, hn, hm, fun hp => ?_⟩, fun _ => ⟨gd, cells, hA, hb, hs.trans hc⟩⟩
    obtain ⟨ad, ha, hcell⟩ := hr hp
    rw [hA] at ha
    cases ha
    refine ⟨_, hA, fun j p hj => ?_⟩
    obtain ⟨c, hcl, hK, hcc⟩ := hcell j p hj
    refine ⟨c, hcl, hK, fun i u hu => ?_⟩
    have := hcc i u hu
    rw [add_at] at this ⊢
    rw [cell_same hs]
    exact this
end Go.Proofs.Ytknmokpnkcckeaa

namespace Go.Proofs.Ytknmokpnkcckeaa
open Go.RowKit Go.Proofs.YtknmokpnkcckeaaW.PrintWords Go.Proofs.YtknmokpnkcckeaaW.PrintLast Go.Proofs.YtknmokpnkcckeaaW.PrintMore Go.Proofs.Ytknmokpnkcckeaa.PAll
set_option linter.unusedVariables false
set_option linter.unusedSimpArgs false

theorem two_set {W : World} {a b t t' : Nat} {u v : Value} (x y : Value) (ha : W.heap[a]? = some (.cells #[u] t (0, 0))) (hb : W.heap[b]? = some (.cells #[v] t' (0, 0))) (hne : a ≠ b) :
    ((W.setCell ⟨a, 0, none⟩ x).setCell ⟨b, 0, none⟩ y).cell? ⟨a, 0, none⟩ = some x ∧ ((W.setCell ⟨a, 0, none⟩ x).setCell ⟨b, 0, none⟩ y).cell? ⟨b, 0, none⟩ = some y := by
  have h1 := blk_set ha 0 x
  have h2 : (W.setCell ⟨a, 0, none⟩ x).heap[b]? = _ := (Below.heap_setCell W ⟨a, 0, none⟩ x b (Ne.symm hne)).trans hb
  have h3 := blk_set h2 0 y
  have h4 : ((W.setCell ⟨a, 0, none⟩ x).setCell ⟨b, 0, none⟩ y).heap[a]? = _ := (Below.heap_setCell (W.setCell ⟨a, 0, none⟩ x) ⟨b, 0, none⟩ y a hne).trans h1
  exact ⟨(blk_cell h4 0).trans (by simp), (blk_cell h3 0).trans (by simp)⟩
/-- The four boxes of the call. -/
def fillW (l0 l1 l2 l3 leaf : Int) (w : World) : World :=
  (((w.alloc (.cells #[.int .i64 l0, .int .i64 l1, .int .i64 l2, .int .i64 l3] 23)).alloc (.cells #[.int .i64 leaf] 3)).alloc (.cells #[.slice none 0 0] 27)).alloc (.cells #[.slice none 0 0] 24)
structure BoxF (h : Nat) (l0 l1 l2 l3 leaf : Int) (u v : Value) (W : World) : Prop where
  lev : W.heap[h]? = some (.cells #[.int .i64 l0, .int .i64 l1, .int .i64 l2, .int .i64 l3] 23 (0, 0))
  leaf : W.heap[h + 1]? = some (.cells #[.int .i64 leaf] 3 (0, 0))
  rows : W.heap[h + 1 + 1]? = some (.cells #[u] 27 (0, 0))
  rest : W.heap[h + 1 + 1 + 1]? = some (.cells #[v] 24 (0, 0))
theorem BoxF.new (l0 l1 l2 l3 leaf : Int) (w : World) : BoxF w.heap.size l0 l1 l2 l3 leaf (.slice none 0 0) (.slice none 0 0) (fillW l0 l1 l2 l3 leaf w) := by
  refine ⟨blk_alloc (blk_alloc (blk_alloc (heap_alloc_new _ _) _) _) _, blk_alloc (blk_alloc ?_ _) _, blk_alloc ?_ _, ?_⟩
  · have := heap_alloc_new (w.alloc (.cells #[.int .i64 l0, .int .i64 l1, .int .i64 l2, .int .i64 l3] 23)) (.cells #[.int .i64 leaf] 3)
    rwa [World.size_alloc] at this
  · have := heap_alloc_new ((w.alloc (.cells #[.int .i64 l0, .int .i64 l1, .int .i64 l2, .int .i64 l3] 23)).alloc (.cells #[.int .i64 leaf] 3)) (.cells #[.slice none 0 0] 27)
    rwa [World.size_alloc, World.size_alloc] at this
  · have := heap_alloc_new (((w.alloc (.cells #[.int .i64 l0, .int .i64 l1, .int .i64 l2, .int .i64 l3] 23)).alloc (.cells #[.int .i64 leaf] 3)).alloc (.cells #[.slice none 0 0] 27)) (.cells #[.slice none 0 0] 24)
    rwa [World.size_alloc, World.size_alloc, World.size_alloc] at this
theorem BoxF.below {h : Nat} {l0 l1 l2 l3 leaf : Int} {u v : Value} {W W' : World} (b : BoxF h l0 l1 l2 l3 leaf u v W) (hb : Below W.heap.size W W') : BoxF h l0 l1 l2 l3 leaf u v W' :=
  ⟨blk_below b.lev hb, blk_below b.leaf hb, blk_below b.rows hb, blk_below b.rest hb⟩
theorem BoxF.setRows {h : Nat} {l0 l1 l2 l3 leaf : Int} {u v : Value} {W : World} (b : BoxF h l0 l1 l2 l3 leaf u v W) (u' : Value) : BoxF h l0 l1 l2 l3 leaf u' v (W.setCell ⟨h + 1 + 1, 0, none⟩ u') :=
  ⟨(Below.heap_setCell W ⟨h + 1 + 1, 0, none⟩ u' h (by show h ≠ h + 1 + 1; omega)).trans b.lev, (Below.heap_setCell W ⟨h + 1 + 1, 0, none⟩ u' (h + 1) (by show h + 1 ≠ h + 1 + 1; omega)).trans b.leaf, by simpa using blk_set b.rows 0 u', (Below.heap_setCell W ⟨h + 1 + 1, 0, none⟩ u' (h + 1 + 1 + 1) (by show h + 1 + 1 + 1 ≠ h + 1 + 1; omega)).trans b.rest⟩
theorem BoxF.setRest {h : Nat} {l0 l1 l2 l3 leaf : Int} {u v : Value} {W : World} (b : BoxF h l0 l1 l2 l3 leaf u v W) (v' : Value) : BoxF h l0 l1 l2 l3 leaf u v' (W.setCell ⟨h + 1 + 1 + 1, 0, none⟩ v') :=
  ⟨(Below.heap_setCell W ⟨h + 1 + 1 + 1, 0, none⟩ v' h (by show h ≠ h + 1 + 1 + 1; omega)).trans b.lev, (Below.heap_setCell W ⟨h + 1 + 1 + 1, 0, none⟩ v' (h + 1) (by show h + 1 ≠ h + 1 + 1 + 1; omega)).trans b.leaf, (Below.heap_setCell W ⟨h + 1 + 1 + 1, 0, none⟩ v' (h + 1 + 1) (by show h + 1 + 1 ≠ h + 1 + 1 + 1; omega)).trans b.rows, by simpa using blk_set b.rest 0 v'⟩
theorem fillW_below (l0 l1 l2 l3 leaf : Int) (w : World) : Below w.heap.size w (fillW l0 l1 l2 l3 leaf w) :=
  below_alloc (below_alloc (below_alloc (below_alloc (Below.refl _ _) _) _) _) _
theorem fillW_size (l0 l1 l2 l3 leaf : Int) (w : World) : (fillW l0 l1 l2 l3 leaf w).heap.size = w.heap.size + 4 := by simp [fillW]

set_option maxHeartbeats 4000000 in
set_option maxRecDepth 100000 in
theorem fillB_bad (kc : Nat) (l0 l1 l2 l3 leaf e0 : Int) (A : Option Addr) (c : Nat) (xs : List S62) (w : World) (hr : Kd.C k62 w A xs.length xs) (hc : xs.length ≤ c) (h : stash_Check.f kc l0 l1 l2 l3 xs = some e0) (he : e0 ≠ 0) :
    Calls Try.prog 11 #[.agg #[.int .i64 l0, .int .i64 l1, .int .i64 l2, .int .i64 l3], .slice A xs.length c, .int .i64 leaf] w fun e w' => e = .returned (.tuple #[.slice none 0 0, .slice none 0 0, .int .i64 e0]) ∧ Below w.heap.size w w' := by
  have HR := Aside0.mk hr
  have HC := Aside0.mk hc
  have H := Aside0.mk h
  have hu23 := Try.underlying23
  have HF := Aside0.mk (BoxF.new l0 l1 l2 l3 leaf w)
  have HB := Aside0.mk (fillW_below l0 l1 l2 l3 leaf w)
  unfold fillW at HF HB
  clear hr hc h
  have hne : decide (e0 = 0) = false := decide_eq_false he
  go_enter Try.func11, Try.ntmps11
  repeat (first
    | (go_at_call 36; (with_reducible refine (stash_Check.calls kc l0 l1 l2 l3 A c xs e0 _ (Kd.C_below HR.out HB.out) HC.out H.out).mono ?_); rintro e2 w2 ⟨rfl, hb2⟩; have HF2 := Aside0.mk (HF.out.below hb2); have HB2 := Aside0.mk (bl HB.out hb2); have hc6 := blk_cell HF2.out.rows 0; have hf6 := blk_frozen HF2.out.rows 0; have hc7 := blk_cell HF2.out.rest 0; have hf7 := blk_frozen HF2.out.rest 0; clear hb2; (try dsimp only))
    | go_values | go_guarded | go_step | go_upon | go_back)
  clear hc6 hf6 hc7 hf7
  obtain ⟨hc6, hc7⟩ := two_set (.slice none 0 0) (.slice none 0 0) HF2.out.rows HF2.out.rest (by omega)
  refine bodyPost_ret (v := .tuple #[.slice none 0 0, .slice none 0 0, .int .i64 e0]) (by simp [results, Try.results11, go_sem, hc6, hc7]) rfl ?_
  exact ⟨rfl, (HB2.out.setCell (p := ⟨w.heap.size + 1 + 1, 0, none⟩) (by show w.heap.size ≤ w.heap.size + 1 + 1; omega) _).setCell (p := ⟨w.heap.size + 1 + 1 + 1, 0, none⟩) (by show w.heap.size ≤ w.heap.size + 1 + 1 + 1; omega) _⟩

set_option maxHeartbeats 4000000 in
set_option maxRecDepth 100000 in
theorem fillB_leaf (kc : Nat) (l0 l1 l2 l3 leaf : Int) (r1 : List Int) (e0 : Int) (A : Option Addr) (c : Nat) (xs : List S62) (w : World) (hr : Kd.C k62 w A xs.length xs) (hc : xs.length ≤ c) (h : stash_Check.f kc l0 l1 l2 l3 xs = some 0) (hp : geo_Path.f l2 leaf = some (r1, e0)) (he : e0 ≠ 0) :
    Calls Try.prog 11 #[.agg #[.int .i64 l0, .int .i64 l1, .int .i64 l2, .int .i64 l3], .slice A xs.length c, .int .i64 leaf] w fun e w' => e = .returned (.tuple #[.slice none 0 0, .slice none 0 0, .int .i64 e0]) ∧ Below w.heap.size w w' := by
  have HR := Aside0.mk hr
  have HC := Aside0.mk hc
  have H := Aside0.mk h
  have HP := Aside0.mk hp
  have hu23 := Try.underlying23
  have HF := Aside0.mk (BoxF.new l0 l1 l2 l3 leaf w)
  have HB := Aside0.mk (fillW_below l0 l1 l2 l3 leaf w)
  unfold fillW at HF HB
  clear hr hc h hp
  have hne : decide (e0 = 0) = false := decide_eq_false he
  go_enter Try.func11, Try.ntmps11
  repeat (first
    | (go_at_call 36; (with_reducible refine (stash_Check.calls kc l0 l1 l2 l3 A c xs 0 _ (Kd.C_below HR.out HB.out) HC.out H.out).mono ?_); rintro e2 w2 ⟨rfl, hb2⟩; have HF2 := Aside0.mk (HF.out.below hb2); have HB2 := Aside0.mk (bl HB.out hb2); have hl2 := blk_cell HF2.out.lev 2; have hl5 := blk_cell HF2.out.leaf 0; clear hb2; (try dsimp only))
    | (go_at_call 37; (with_reducible refine (geo_Path.calls l2 leaf r1 e0 _ HP.out).mono ?_); rintro e3 w3 ⟨v3, rfl, hR3, hb3⟩; have HF3 := Aside0.mk (HF2.out.below hb3); have HB3 := Aside0.mk (bl HB2.out hb3); have hc6 := blk_cell HF3.out.rows 0; have hf6 := blk_frozen HF3.out.rows 0; have hc7 := blk_cell HF3.out.rest 0; have hf7 := blk_frozen HF3.out.rest 0; clear hl2 hl5 hb3 hR3; (try dsimp only))
    | go_values | go_guarded | go_step | go_upon | go_back)
  clear hc6 hf6 hc7 hf7
  obtain ⟨hc6, hc7⟩ := two_set (.slice none 0 0) (.slice none 0 0) HF3.out.rows HF3.out.rest (by omega)
  refine bodyPost_ret (v := .tuple #[.slice none 0 0, .slice none 0 0, .int .i64 e0]) (by simp [results, Try.results11, go_sem, hc6, hc7]) rfl ?_
  exact ⟨rfl, (HB3.out.setCell (p := ⟨w.heap.size + 1 + 1, 0, none⟩) (by show w.heap.size ≤ w.heap.size + 1 + 1; omega) _).setCell (p := ⟨w.heap.size + 1 + 1 + 1, 0, none⟩) (by show w.heap.size ≤ w.heap.size + 1 + 1 + 1; omega) _⟩
end Go.Proofs.Ytknmokpnkcckeaa

namespace Go.Proofs.Ytknmokpnkcckeaa
open Go.RowKit Go.Proofs.YtknmokpnkcckeaaW.PrintWords Go.Proofs.YtknmokpnkcckeaaW.PrintLast Go.Proofs.YtknmokpnkcckeaaW.PrintMore Go.Proofs.Ytknmokpnkcckeaa.PAll
set_option linter.unusedVariables false
set_option linter.unusedSimpArgs false
attribute [local go_sem] Oper.semAt_some

theorem fold_mem {α : Type} (many : Nat) (fits : Nat → α → Bool) (P : α → Prop) : ∀ (ts : List Nat) (s : List (List α) × List α), (∀ x, (x ∈ s.2 ∨ ∃ r ∈ s.1, x ∈ r) → P x) → ∀ x, (x ∈ (ts.foldl (stepP many fits) s).2 ∨ ∃ r ∈ (ts.foldl (stepP many fits) s).1, x ∈ r) → P x
  | [], s, h, x, hx => h x hx
  | t :: ts, s, h, x, hx => by
    rw [List.foldl_cons] at hx
    refine fold_mem many fits P ts (stepP many fits s t) (fun y hy => ?_) x hx
    have hrow : ∀ y, y ∈ s.1.getD t [] → P y := fun y hy => by
      by_cases ht : t < s.1.length
      · refine h y (.inr ⟨s.1[t], List.getElem_mem ht, ?_⟩)
        rw [List.getD_eq_getElem?_getD, List.getElem?_eq_getElem ht] at hy
        exact hy
      · rw [List.getD_eq_getElem?_getD, List.getElem?_eq_none (by omega)] at hy
        cases hy
    have hgo : ∀ y, (y ∈ (goP many (fits t) (s.1.getD t []) [] s.2).1 ∨ y ∈ (goP many (fits t) (s.1.getD t []) [] s.2).2) → P y := fun y hy => by
      rcases goP_mem many (fits t) s.2 (s.1.getD t []) [] y hy with h1 | h1 | h1
      · exact hrow y h1
      · cases h1
      · exact h y (.inl h1)
    rcases hy with hy | ⟨r, hr, hy⟩
    · exact hgo y (.inr hy)
    · simp only [stepP] at hr
      rcases List.mem_or_eq_of_mem_set hr with hr | rfl
      · exact h y (.inr ⟨r, hr, hy⟩)
      · exact hgo y (.inl hy)
theorem grown_trans {a b c : World} {row : Option Nat} (h : a.grownBy b row) (k : b.grownBy c row) : a.grownBy c row :=
  ⟨k.os.trans h.os, k.tape.trans h.tape, k.output.trans h.output, Nat.le_trans h.size k.size, fun i hi hr => (k.block i (by have := h.size; omega) hr).trans (h.block i hi hr)⟩
theorem grown_drew (w : World) (row : Option Nat) : w.grownBy w.drew row := ⟨rfl, rfl, rfl, Nat.le_refl _, fun _ _ _ => rfl⟩
theorem grown_of_drew {a b : World} {row : Option Nat} (h : a.drew.grownBy b row) : a.grownBy b row := ⟨h.os, h.tape, h.output, h.size, h.block⟩
theorem set_self {W : World} {b : Nat} {v : Value} {t : TypeId} (h : W.heap[b]? = some (.cells #[v] t (0, 0))) : W.setCell ⟨b, 0, none⟩ v = W := by
  have : (W.setCell ⟨b, 0, none⟩ v).heap = W.heap := by
    apply Array.ext_getElem?
    intro j
    simp only [World.setCell, Array.getElem?_modify]
    by_cases hj : b = j
    · subst hj
      rw [if_pos rfl, h]
      simp
    · rw [if_neg hj]
  unfold World.setCell at this ⊢
  cases W
  simp_all
def onlyN (K : Act → World → Prop) : Exit → Act → World → Prop
  | .normal, a, w => K a w
  | _, _, _ => False
theorem wp_onlyN {P : Program} {K : Act → World → Prop} {Q : Exit → Act → World → Prop} {c : Code} {a : Act} {w : World} (h : c.wp P (onlyN K) a w) (hq : ∀ a w, K a w → Q .normal a w) : c.wp P Q a w :=
  wp_mono h (fun e a w h => by
    cases e with
    | normal => exact hq _ _ h
    | _ => exact h.elim)
theorem below_drawn {n : Nat} {a b c : World} (h : Below n a b) (hd : Drawn0 b c) : Below n a c := by
  obtain ⟨nd, rfl⟩ := hd
  exact pw_below_drewN h nd

set_option maxHeartbeats 8000000 in
set_option maxRecDepth 100000 in
theorem fillB_good (kc ks kd : Nat) (l0 l1 l3 leaf z : Int) (hi many : Nat) (r1 : List Int) (A : Option Addr) (c : Nat) (xs : List S62) (dp : S62 → Int) (w : World) (hr : Kd.C k62 w A xs.length xs) (hc : xs.length ≤ c) (h : stash_Check.f kc l0 l1 hi l3 xs = some 0) (hp : geo_Path.f hi leaf = some (r1, 0)) (hm : slot_Slots.f ks l0 l1 hi l3 = some ((many : Int), z))
    (hn : xs.length ≤ 1000) (hx : ∀ x ∈ xs, x.f2.length ≤ 100000) (hh : hi ≤ 6) (hmm : many ≤ 1000000) (hd : ∀ x ∈ xs, ∃ z, geo_Deep.f kd hi x.f1 leaf = some (dp x, z)) :
    CallsIn Fence.wide 6 Try.prog 11 #[.agg #[.int .i64 l0, .int .i64 l1, .int .i64 hi, .int .i64 l3], .slice A xs.length c, .int .i64 leaf] w fun e w' => ∃ g B0 base c1 A2 c2 vs ds, e = .returned (.tuple #[.slice (some ⟨g, 0, none⟩) (hi + 1) c1, .slice A2 (partS many (fun t (d : BD) => decide ((t : Int) ≤ dp d.1)) (hi + 1) ds).2.length c2, .int .i64 0]) ∧ hi + 1 ≤ c1 ∧ w.heap.size ≤ g ∧ g < base ∧ base ≤ B0 ∧ ds.map (·.1) = xs ∧ OutG g B0 base (hi + 1) many 1000 vs (.slice A2 (partS many (fun t (d : BD) => decide ((t : Int) ≤ dp d.1)) (hi + 1) ds).2.length c2) (partS many (fun t (d : BD) => decide ((t : Int) ≤ dp d.1)) (hi + 1) ds) w' ∧ (∀ d ∈ ds, GoodB w' d ∧ YoungD base w' d) ∧ Below w.heap.size w w' := by
  have HR := Aside0.mk hr
  have HC := Aside0.mk hc
  have H := Aside0.mk h
  have HP := Aside0.mk hp
  have HM := Aside0.mk hm
  have HN := Aside0.mk hn
  have HX := Aside0.mk hx
  have HD := Aside0.mk hd
  have hh2 : (hi : Int) ≤ 6 := by omega
  have hmm2 : (many : Int) ≤ 1000000 := by omega
  have hu23 := Try.underlying23
  have hu62 := Try.underlying62
  have HF := Aside0.mk (BoxF.new l0 l1 hi l3 leaf w)
  have HB := Aside0.mk (fillW_below l0 l1 hi l3 leaf w)
  unfold fillW at HF HB
  clear hr hc h hp hm hn hx hd
  refine callsIn_of_wp_marks Try.func11 rfl trivial ?_
  simp only [Try.ntmps11, List.size_toArray, List.length_cons, List.length_nil, Nat.reduceAdd, Nat.reduceSub, Array.replicate_succ, Array.replicate_zero, List.push_toArray, List.append_toArray, List.nil_append, List.cons_append]
  refine wpIn_wide.2 ?_
  repeat (first
    | (go_at_call 36; (with_reducible refine (stash_Check.calls kc l0 l1 hi l3 A c xs 0 _ (Kd.C_below HR.out HB.out) HC.out H.out).mono ?_); rintro e2 w2 ⟨rfl, hb2⟩; have HF2 := Aside0.mk (HF.out.below hb2); have HB2 := Aside0.mk (bl HB.out hb2); have hl2 := blk_cell HF2.out.lev 2; have hl5 := blk_cell HF2.out.leaf 0; clear hb2; (try dsimp only))
    | (go_at_call 37; (with_reducible refine (geo_Path.calls hi leaf r1 0 _ HP.out).mono ?_); rintro e3 w3 ⟨v3, rfl, hR3, hb3⟩; have HF3 := Aside0.mk (HF2.out.below hb3); have HB3 := Aside0.mk (bl HB2.out hb3); clear hl2 hl5 hb3 hR3; have hl0 := blk_cell HF3.out.lev 0; have hl1 := blk_cell HF3.out.lev 1; have hl2 := blk_cell HF3.out.lev 2; have hl3 := blk_cell HF3.out.lev 3; (try dsimp only))
    | (go_at_call 32; (with_reducible refine (slot_Slots.calls ks l0 l1 hi l3 many z _ HM.out).mono ?_); rintro e4 w4 ⟨rfl, hb4⟩; have HF4 := Aside0.mk (HF3.out.below hb4); have HB4 := Aside0.mk (bl HB3.out hb4); clear hl0 hl1 hl2 hl3 hb4; have hl2 := blk_cell (blk_alloc HF4.out.lev (.cells #[.int .i64 (many : Int)] 3)) 2; (try dsimp only))
    | ((with_reducible refine gate_dst (N := 44) rfl ?_); refine Kd.R_make (Kd.raw 1) (w0 := w4.alloc (.cells #[.int .i64 (many : Int)] 3)) (w4.heap.size + 1) 24 rfl (N := 44) rfl 27 (.tmp 43) (.tmp 43) rfl ((hi : Int) + 1) rfl rfl Try.underlying27 (.slice none 0 0) 24 info24 rfl (by decide) (by decide) [.slice none 0 0] (ok := fun _ => True) (okp := fun _ => True) ⟨rfl, rfl, by simp [Value.cells, Value.oneCell']⟩ (fun _ h => h) trivial (by omega) (by omega) (Below.refl _ _) (by simp) ?_; intro v6 w6 ho hb hg hat; rw [show ((hi : Int) + 1).toNat = hi + 1 by omega] at ho; obtain ⟨g, c1, tail, rfl, hgb, hgc, hblk⟩ := made_block ho; have HBLK := Aside0.mk hblk; have HGB := Aside0.mk hgb; have HGC := Aside0.mk hgc; replace hb := hb.mono (show w4.heap.size + 1 ≤ _ by simp); have HB6 := Aside0.mk ((below_alloc HB4.out (.cells #[.int .i64 (many : Int)] 3)).trans (hb.mono (by have := HB4.out.size; omega))); have HF6 := Aside0.mk ((HF4.out.below (below_alloc (Below.refl _ _) (.cells #[.int .i64 (many : Int)] 3))).below (hb.mono (by simp))); have HM6 := Aside0.mk ((hb.block w4.heap.size (by omega)).trans (heap_alloc_new w4 (.cells #[.int .i64 (many : Int)] 3))); have hc6 := blk_cell HF6.out.rows 0; have hf6 := blk_frozen HF6.out.rows 0; clear ho hb hg hat hblk hgb hgc hl2)
    | go_values | go_guarded | go_step | go_upon | go_back)
  clear hc6 hf6
  have hgb : w4.heap.size + 1 ≤ g := HGB.out
  have hbs4 : w.heap.size + 4 ≤ w4.heap.size := by have := heap_lt HF4.out.rest; omega
  obtain ⟨w7, hw7⟩ : ∃ W, w6.setCell ⟨w.heap.size + 1 + 1, 0, none⟩ (Value.slice (some ⟨g, 0, none⟩) (hi + 1) c1) = W := ⟨_, rfl⟩
  rw [hw7]
  have HF7 : Aside0 (BoxF w.heap.size l0 l1 hi l3 leaf (Value.slice (some ⟨g, 0, none⟩) (hi + 1) c1) (.slice none 0 0) w7) := ⟨hw7 ▸ HF6.out.setRows _⟩
  have HB7 : Aside0 (Below w.heap.size w w7) := ⟨hw7 ▸ HB6.out.setCell (p := ⟨w.heap.size + 1 + 1, 0, none⟩) (by show w.heap.size ≤ w.heap.size + 1 + 1; omega) _⟩
  have hfar : ∀ k, k ≠ w.heap.size + 1 + 1 → w7.heap[k]? = w6.heap[k]? := fun k hk => hw7 ▸ Below.heap_setCell w6 ⟨w.heap.size + 1 + 1, 0, none⟩ _ k hk
  have HBLK7 := Aside0.mk ((hfar g (by omega)).trans HBLK.out)
  have HM7 := Aside0.mk ((hfar w4.heap.size (by omega)).trans HM6.out)
  clear hfar hw7 HBLK HM6 HF6 HB6 HF2 HF3 HB2 HB3 HF HB
  repeat (first
    | (go_at_call 38; (with_reducible refine (twinB_calls A xs.length c xs _ (Kd.C_below HR.out HB7.out) HN.out HX.out).mono ?_); rintro e8 w8 ⟨A8, c8, ds, rfl, hds, hgd, hrow, hb8⟩; have HF8 := Aside0.mk ((HF7.out.below hb8).setRest (.slice A8 xs.length c8)); have HB8 := Aside0.mk (bl HB7.out hb8); have HDS := Aside0.mk hds; have HGD := Aside0.mk hgd; have HROW := Aside0.mk hrow; have HBLK8 := Aside0.mk (blk_below HBLK7.out hb8); have HM8 := Aside0.mk (blk_below HM7.out hb8); have HS8 := Aside0.mk hb8.size; have hc6 := blk_cell (blk_below HF7.out.rest hb8) 0; have hf6 := blk_frozen (blk_below HF7.out.rest hb8) 0; have hl2 := blk_cell HF8.out.lev 2; clear hds hgd hrow hb8; (try dsimp only))
    | (go_at_call 39; (with_reducible refine (callsIn_wide.1 (up_in 5 hi _)).mono ?_); rintro e9 w9 ⟨rfl, hw9⟩; (try dsimp only))
    | go_values | go_guarded | go_step | go_upon | go_back)
  clear hc6 hf6 hl2
  have hsz8 : (w8.setCell ⟨w.heap.size + 1 + 1 + 1, 0, none⟩ (.slice A8 xs.length c8)).heap.size = w8.heap.size := by simp [World.setCell]
  rw [hsz8]
  have hsz9 : w9.heap.size = w8.heap.size + 1 := by rw [hw9, World.size_alloc, hsz8]
  have hfar : ∀ k, k < w8.heap.size → k ≠ w.heap.size + 1 + 1 + 1 → w9.heap[k]? = w8.heap[k]? := fun k hk h1 => by
    rw [hw9, Below.heap_alloc _ _ _ (by rw [hsz8]; exact hk)]
    exact Below.heap_setCell w8 ⟨w.heap.size + 1 + 1 + 1, 0, none⟩ _ k h1
  have hw78 := HS8.out
  have hg7 : g < w7.heap.size := heap_lt HBLK7.out
  have HF9 : Aside0 (BoxF w.heap.size l0 l1 hi l3 leaf (Value.slice (some ⟨g, 0, none⟩) (hi + 1) c1) (Value.slice A8 xs.length c8) w9) := ⟨by
    rw [hw9]
    exact HF8.out.below (below_alloc (Below.refl _ _) _)⟩
  have HM9 : Aside0 (w9.heap[w4.heap.size]? = some (.cells #[.int .i64 (many : Int)] 3 (0, 0))) := ⟨(hfar _ (heap_lt HM8.out) (by omega)).trans HM8.out⟩
  have HBLK9 : Aside0 (w9.heap[g]? = some (.cells ⟨List.replicate (hi + 1) (.slice none 0 0) ++ tail⟩ 24 (0, 0))) := ⟨(hfar _ (heap_lt HBLK8.out) (by omega)).trans HBLK8.out⟩
  have hBh : w9.cell? ⟨w8.heap.size, 0, none⟩ = some (.int .i64 (hi : Int)) := by
    have h1 := heap_alloc_new (w8.setCell ⟨w.heap.size + 1 + 1 + 1, 0, none⟩ (.slice A8 xs.length c8)) (.cells #[.int .i64 (hi : Int)] 3)
    rw [← hw9, hsz8] at h1
    exact (blk_cell h1 0).trans (by simp)
  have HB9 : Aside0 (Below w.heap.size w w9) := ⟨by
    rw [hw9]
    exact below_alloc (HB8.out.setCell (p := ⟨w.heap.size + 1 + 1 + 1, 0, none⟩) (by show w.heap.size ≤ w.heap.size + 1 + 1 + 1; omega) _) _⟩
  have HGD9 : Aside0 (∀ d ∈ ds, GoodB w9 d ∧ YoungD w7.heap.size w9 d) := ⟨fun d hd => goodB_stay (HGD.out d hd) (fun k h1 h2 => hfar k h2 (by omega))⟩
  have hdl : ds.length = xs.length := by rw [← HDS.out, List.length_map]
  have HR9 : Aside0 (RestB w7.heap.size w9 (.slice A8 xs.length c8) ds) := ⟨by
    by_cases h0 : xs.length = 0
    · rw [h0] at hdl ⊢
      exact ⟨A8, c8, by rw [hdl], by omega, fun hne => absurd hdl hne⟩
    · obtain ⟨b, tl, rfl, e1, e2, e3⟩ := HROW.out h0
      exact ⟨_, c8, by rw [hdl], by omega, fun _ => ⟨b, tl, rfl, e1, (hfar b (heap_lt e3) (by omega)).trans e3⟩⟩⟩
  have HO9 : Aside0 (OutG g w9.heap.size w7.heap.size (hi + 1) many 1000 (List.replicate (hi + 1) (.slice none 0 0) ++ tail) (.slice A8 xs.length c8) (List.replicate (hi + 1) [], ds) w9) := ⟨OutG.start HBLK9.out HR9.out (by have := HN.out; omega) rfl (by omega)⟩
  have HDL := Aside0.mk hdl
  clear hdl hfar HR9 HROW HGD HBLK8 HBLK9 HM8 HF8 HS8 HB8 HB7 HM7 HBLK7 HF7 hw9 hsz8
  have HS := Aside1.mk (up_stops 5 (by omega) w8.heap.size hi hh2 w9 (by omega) hBh)
  clear hBh
  refine (wpIn_wide (n := 6)).1 ?_
  refine wpIn_rangeFunc_ownG rfl (by omega) (gf := 65) (lb := #[.pointer (some ⟨w8.heap.size, 0, none⟩)]) ?hg trivial (enters_of Try.func65 (by kernel_rfl) rfl)
    HS.out KeepOne.trans (KeepOne.put (by omega)) (Below.refl _ _) (fun _ => rfl)
    (fun (pre : List {t : Nat // t ≤ hi}) W => FInv w9.heap.size g (w.heap.size + 1 + 1 + 1) w7.heap.size (hi + 1) many 1000 (fun t (d : BD) => decide ((t : Int) ≤ dp d.1)) ds w9 (pre.map (·.1)) W)
    (fun _ _ _ => False)
    (FInv.own (fun (pre : List {t : Nat // t ≤ hi}) => pre.map (·.1)))
    (fun _ _ _ _ _ hs _ _ => hs)
    ⟨StayG.refl _ _ _ _, _, _, HF9.out.rest, HO9.out⟩
    (fun x => { tmps := #[.agg #[.int .i64 l0, .int .i64 l1, .int .i64 hi, .int .i64 l3], .slice A xs.length c, .int .i64 leaf, .pointer (some ⟨w.heap.size, 0, none⟩), undef, .pointer (some ⟨w.heap.size + 1, 0, none⟩), .pointer (some ⟨w.heap.size + 1 + 1, 0, none⟩), .pointer (some ⟨w.heap.size + 1 + 1 + 1, 0, none⟩), .int .i64 0, .int .i64 0, v3, .int .i64 0, .pointer (some ⟨w4.heap.size, 0, none⟩), .int .i64 z, .int .i64 (x.1 : Int), undef, undef, undef, undef, undef, .agg #[.int .i64 l0, .int .i64 l1, .int .i64 hi, .int .i64 l3], .slice A xs.length c, .int .i64 0, .int .i64 0, .bool false, undef, .tuple #[v3, .int .i64 0], .pointer (some ⟨w.heap.size, 2, none⟩), .int .i64 hi, .int .i64 leaf, .tuple #[v3, .int .i64 0], v3, .int .i64 0, .int .i64 0, .bool false, undef, .tuple #[.int .i64 many, .int .i64 z], .agg #[.int .i64 l0, .int .i64 l1, .int .i64 hi, .int .i64 l3], .tuple #[.int .i64 many, .int .i64 z], .int .i64 many, .int .i64 z, .pointer (some ⟨w.heap.size, 2, none⟩), .int .i64 hi, .int .i64 ((hi : Int) + 1), .slice (some ⟨g, 0, none⟩) (hi + 1) c1, .slice A xs.length c, .slice A8 xs.length c8, .pointer (some ⟨w.heap.size, 2, none⟩), .int .i64 hi, .func (.func 65) #[] #[.pointer (some ⟨w8.heap.size, 0, none⟩)], .int .i64 (x.1 : Int), undef, undef, undef, undef, undef, undef, undef, undef, undef, undef, undef, undef, undef, undef, undef, undef, undef, undef, undef, undef, undef, undef, undef, undef, undef, undef, undef, undef, undef, undef, undef, undef, undef, undef, undef, undef, undef, undef, undef, undef, undef, undef, undef, undef], defers := [] }) ?assign ?body ?done ?stop
  case hg => rfl
  case assign =>
    intro l x W K hK
    gi_wp2
    exact hK
  case stop =>
    rintro D c pre W _ _ h _
    exact h.elim
  case body =>
    rintro l pre ⟨t, ht⟩ W ⟨hst, vs, v, hbox, hO⟩ hlt
    clear HR HC H HP HM hlt
    obtain ⟨S, hS⟩ : ∃ S, S = (pre.map (·.1)).foldl (stepP many (fun t (d : BD) => decide ((t : Int) ≤ dp d.1))) (List.replicate (hi + 1) [], ds) := ⟨_, rfl⟩
    have HST := Aside0.mk hst
    have HBOX := Aside0.mk hbox
    have HO := Aside0.mk (hS ▸ hO)
    have HSE := Aside0.mk hS
    obtain ⟨A0, c0, rfl, hc0, _⟩ := HO.out.rest
    have hc7 := blk_cell hbox 0
    have ht1 : t < hi + 1 := by omega
    obtain ⟨v0, hv0⟩ : ∃ v0, vs[t]? = some v0 := by
      obtain ⟨_, u, hu, _⟩ := HO.out.row t _ (List.getElem?_eq_getElem (by rw [HO.out.len]; exact ht1))
      exact ⟨u, hu⟩
    have HV0 := Aside0.mk hv0
    have HI := Aside0.mk (InG.start (fit := fun d => decide ((t : Int) ≤ dp d.1)) HO.out ht1 hv0)
    have hlen := HO.out.le
    clear hst hbox hO hS hv0
    gi_wp2_with (first | (apply wpIn_scope_straight) | (apply wpIn_label))
    clear hc7
    gi_loopw [15, 53] (fun v15 v53 wr => ∃ (i : Nat) (vr : Value) (Dr Dl : List BD), v53 = .int .i64 i ∧ Aside0 (InG g w9.heap.size 1000 many (fun d => decide ((t : Int) ≤ dp d.1)) t vs v0 (S.1.getD t []) S.2 W i vr v15 Dr Dl wr)) (fun _ v53 _ => S.2.length - (intOf v53).toNat)
    case atStart => exact ⟨0, v0, _, [], rfl, HI⟩
    case round =>
      clear HI
      obtain ⟨i, vr, Dr, Dl, rfl, HI⟩ := hrel
      obtain ⟨Al, cl, rfl⟩ : ∃ A c, u15 = .slice A Dl.length c := by
        obtain ⟨A, c, e⟩ := Kd.R_slice HI.out.l
        exact ⟨A, c, by rw [e, List.length_map]⟩
      by_cases hlt : i < S.2.length
      · have hd2 : decide ((i : Int) < (S.2.length : Int)) = true := decide_eq_true (by omega)
        have hlt2 : (i : Int) < (S.2.length : Int) := by omega
        have htH : (t : Int) < (hi : Int) + 1 := by omega
        have hN3 : (S.2.length : Int) ≤ 1000 := by omega
        have hget : S.2[i]? = some S.2[i] := List.getElem?_eq_getElem hlt
        obtain ⟨b, cb, he, hbb, hbl, hx0, hx1, hx2⟩ := HO.out.rest.cells hget
        injection he with e1 e2 e3
        subst e1 e3
        have hsame := HI.out.still b hbl (by omega) (fun e => HO.out.rap t v0 ht1 HV0.out b e rfl)
        rw [← cell_same hsame] at hx0 hx1 hx2
        have hmem : S.2[i] ∈ ds := by
          refine fold_mem many _ (fun d => d ∈ ds) (pre.map (·.1)) (List.replicate (hi + 1) [], ds) (fun d hd => ?_) S.2[i] (.inl (by rw [← HSE.out]; exact List.getElem_mem hlt))
          rcases hd with hd | ⟨r, hr, hd⟩
          · exact hd
          · rw [List.eq_of_mem_replicate hr] at hd
            cases hd
        obtain ⟨zz, hdp⟩ := HD.out S.2[i].1 (by rw [← HDS.out]; exact List.mem_map_of_mem hmem)
        have hroom := HI.out.room
        have hroom3 : (Dr.length : Int) ≤ (many : Int) := by omega
        have hst2 := InG.stay HO.out ht1 HV0.out HI.out
        have hkeep : ∀ k, k < w9.heap.size → k ≠ g → k ≠ w.heap.size + 1 + 1 + 1 → wr.heap[k]? = w9.heap[k]? := fun k h1 h2 h3 => (hst2 k h1 h2).trans (HST.out.block k h1 h2 h3)
        obtain ⟨Ar, cr, rfl⟩ : ∃ A c, vr = .slice A Dr.length c := by
          obtain ⟨A, c, e⟩ := Kd.R_slice HI.out.r
          exact ⟨A, c, by rw [e, List.length_map]⟩
        have hvlen : t < vs.length := (List.getElem?_eq_some_iff.1 HV0.out).1
        have HGT := Aside0.mk hget
        have HDP := Aside0.mk hdp
        have HKP := Aside0.mk hkeep
        clear hget hdp hkeep hst2 hsame hmem
        generalize S.2[i] = d at hx0 hx1 hx2 HGT HDP
        obtain ⟨⟨x0, x1, x2⟩, Ad, cd⟩ := d
        dsimp only at hx0 hx1 hx2 HDP
        obtain ⟨NEW, hNEW⟩ : ∃ N, N = Obj.cells #[.int .i64 x0, .int .i64 x1, .slice Ad x2.length cd] 62 := ⟨_, rfl⟩
        have hnew := heap_alloc_new wr (.cells #[.int .i64 x0, .int .i64 x1, .slice Ad x2.length cd] 62)
        have HNEW := Aside0.mk hnew
        obtain ⟨hy0, hy1, hy2⟩ := box3B hnew
        have hl2 := blk_cell (blk_alloc ((HKP.out w.heap.size (by omega) (by omega) (by omega)).trans HF9.out.lev) (.cells #[.int .i64 x0, .int .i64 x1, .slice Ad x2.length cd] 62)) 2
        have hl5 := blk_cell (blk_alloc ((HKP.out (w.heap.size + 1) (by omega) (by omega) (by omega)).trans HF9.out.leaf) (.cells #[.int .i64 x0, .int .i64 x1, .slice Ad x2.length cd] 62)) 0
        clear hnew
        obtain ⟨dpx, hdpx⟩ : ∃ y, y = dp ⟨x0, x1, x2⟩ := ⟨_, rfl⟩
        rw [← hdpx] at HDP
        have HDX := Aside0.mk hdpx
        clear hdpx
        gi_wp2_with (refine ⟨trivial, ?_⟩; gi_at_call 40; refine (callsIn_round (geo_Deep.calls kd hi x1 leaf dpx zz _ HDP.out)).mono ?_; rintro e6 w6d ⟨rfl, hb6⟩; have HB6 := Aside0.mk hb6; clear hb6)
        have hbw : Below wr.heap.size wr w6d := bl (below_alloc (Below.refl _ _) _) HB6.out
        have hszr := HI.out.os.2.2.2
        have hOl := HO.out.lt
        have hszd := hbw.size
        have HK6 : Aside0 (∀ w', Below w6d.heap.size w6d w' → ∀ k, k < w9.heap.size → k ≠ g → k ≠ w.heap.size + 1 + 1 + 1 → w'.heap[k]? = w9.heap[k]?) := ⟨fun w' hb k h1 h2 h3 => (hb.block k (by omega)).trans ((hbw.block k (by omega)).trans (HKP.out k h1 h2 h3))⟩
        have HMC : Aside0 (∀ w', Below w6d.heap.size w6d w' → w'.cell? ⟨w4.heap.size, 0, none⟩ = some (.int .i64 (many : Int))) := ⟨fun w' hb => (blk_cell ((HK6.out w' hb w4.heap.size (by omega) (by omega) (by omega)).trans HM9.out) 0).trans (by simp)⟩
        have HRC : Aside0 (∀ w', Below w6d.heap.size w6d w' → w'.cell? ⟨w.heap.size + 1 + 1, 0, none⟩ = some (.slice (some ⟨g, 0, none⟩) (hi + 1) c1)) := ⟨fun w' hb => (blk_cell ((HK6.out w' hb (w.heap.size + 1 + 1) (by omega) (by omega) (by omega)).trans HF9.out.rows) 0).trans (by simp)⟩
        have HI6 := Aside0.mk (HI.out.below hbw)
        have HRW : Aside0 (∀ w', Below w6d.heap.size w6d w' → w'.cell? ⟨g, t, none⟩ = some (.slice Ar Dr.length cr)) := ⟨fun w' hb => by
          rw [blk_cell ((hb.block g (heap_lt HI6.out.blk)).trans HI6.out.blk) t]
          simp [hvlen]⟩
        have HNEW6 := Aside0.mk (blk_below HNEW.out HB6.out)
        have HBX : Aside0 (∀ w', Below w6d.heap.size w6d w' → w'.cell? ⟨wr.heap.size, 0, none⟩ = some (.int .i64 x0) ∧ w'.cell? ⟨wr.heap.size, 1, none⟩ = some (.int .i64 x1) ∧ w'.cell? ⟨wr.heap.size, 2, none⟩ = some (.slice Ad x2.length cd)) := ⟨fun w' hb => box3B (blk_below HNEW6.out hb)⟩
        have hsz6 : W.heap.size ≤ w6d.heap.size := by omega
        have HRL : Aside0 (∀ k, (Value.slice Ar Dr.length cr).ownBlock = some k → k < wr.heap.size) := ⟨HI.out.r.lt⟩
        clear hy0 hy1 hy2 hl2 hl5 hx0 hx1 hx2 hbw HI HB6 HNEW
        have hwd0 : IntKind.i64.wrap ((many : Int) - (Dr.length : Int)) = (many : Int) - (Dr.length : Int) := IntWalk.i64_in _ (by omega)
        have hwd1 : wrap64 ((many : Int) - (Dr.length : Int)) = (many : Int) - (Dr.length : Int) := (i64_w _).symm.trans hwd0
        by_cases hfit : Dr.length < many ∧ (t : Int) ≤ dpx
        · have HWH : Aside0 (evict_where.f (t : Int) ((many : Int) - (Dr.length : Int)) dpx = some 0) := ⟨by
            unfold evict_where.f
            rw [if_neg (by omega), if_neg (by omega)]⟩
          refine start_in (m := 11) (S := fun w' => Below w6d.heap.size w6d w') (ds := []) #[false, false, false, false, false, false, false, false, false, false, false] rfl (by rintro ⟨_, _, h⟩; exact h) (by kernel_rfl) rfl rfl (below_drew (Below.refl _ _)) (fun hHeld => ?_)
          refine pure_ (i := 0) (N := (some 66)) (v := ?_) (a' := ?_) #[true, false, false, false, false, false, false, false, false, false, false] rfl rfl (by kernel_rfl) (fun _ _ _ h => h) (Or.inl ⟨by rfl, ?_⟩) ?_ ?_
          rotate_left
          · intro w'
            go_simp
            with_reducible rfl
          rotate_left
          · simp only [Act.put, List.setIfInBounds_toArray, List.set_cons_zero, List.set_cons_succ, i64_w, i32_w]
            rfl
          refine take_ (i := 1) (N := (some 67)) (v := ?_) (a' := ?_) #[true, true, false, false, false, false, false, false, false, false, false] rfl rfl (by kernel_rfl) (fun _ _ _ h => h) (Or.inl ⟨by rfl, ?_⟩) hHeld ?_ ?_
          rotate_left
          · rintro w' z0
            have hc := HMC.out _ z0
            go_simp
            with_reducible rfl
          rotate_left
          · simp only [Act.put, List.setIfInBounds_toArray, List.set_cons_zero, List.set_cons_succ, i64_w, i32_w]
            rfl
          refine take_ (i := 2) (N := (some 68)) (v := ?_) (a' := ?_) #[true, true, true, false, false, false, false, false, false, false, false] rfl rfl (by kernel_rfl) (fun _ _ _ h => h) (Or.inl ⟨by rfl, ?_⟩) hHeld ?_ ?_
          rotate_left
          · rintro w' z0
            have hc := HRC.out _ z0
            go_simp
            with_reducible rfl
          rotate_left
          · simp only [Act.put, List.setIfInBounds_toArray, List.set_cons_zero, List.set_cons_succ, i64_w, i32_w]
            rfl
          refine pure_ (i := 3) (N := (some 69)) (v := ?_) (a' := ?_) #[true, true, true, true, false, false, false, false, false, false, false] rfl rfl (by kernel_rfl) (fun _ _ _ h => h) (Or.inl ⟨by rfl, ?_⟩) ?_ ?_
          rotate_left
          · intro w'
            go_simp
            with_reducible rfl
          rotate_left
          · simp only [Act.put, List.setIfInBounds_toArray, List.set_cons_zero, List.set_cons_succ, i64_w, i32_w]
            rfl
          refine pure_ (i := 4) (N := (some 70)) (v := ?_) (a' := ?_) #[true, true, true, true, true, false, false, false, false, false, false] rfl rfl (by kernel_rfl) (fun _ _ _ h => h) (Or.inl ⟨by rfl, ?_⟩) ?_ ?_
          rotate_left
          · intro w'
            go_simp
            with_reducible rfl
          rotate_left
          · simp only [Act.put, List.setIfInBounds_toArray, List.set_cons_zero, List.set_cons_succ, i64_w, i32_w]
            rfl
          refine take_ (i := 5) (N := (some 71)) (v := ?_) (a' := ?_) #[true, true, true, true, true, true, false, false, false, false, false] rfl rfl (by kernel_rfl) (fun _ _ _ h => h) (Or.inl ⟨by rfl, ?_⟩) hHeld ?_ ?_
          rotate_left
          · rintro w' z0
            have hc := HRW.out _ z0
            go_simp
            with_reducible rfl
          rotate_left
          · simp only [Act.put, List.setIfInBounds_toArray, List.set_cons_zero, List.set_cons_succ, i64_w, i32_w]
            rfl
          refine pure_ (i := 6) (N := (some 72)) (v := ?_) (a' := ?_) #[true, true, true, true, true, true, true, false, false, false, false] rfl rfl (by kernel_rfl) (fun _ _ _ h => h) (Or.inl ⟨by rfl, ?_⟩) ?_ ?_
          rotate_left
          · intro w'
            go_simp
            with_reducible rfl
          rotate_left
          · simp only [Act.put, List.setIfInBounds_toArray, List.set_cons_zero, List.set_cons_succ, i64_w, i32_w]
            rfl
          refine pure_ (i := 7) (N := (some 73)) (v := ?_) (a' := ?_) #[true, true, true, true, true, true, true, true, false, false, false] rfl rfl (by kernel_rfl) (fun _ _ _ h => h) (Or.inl ⟨by rfl, ?_⟩) ?_ ?_
          rotate_left
          · intro w'
            go_simp
            with_reducible rfl
          rotate_left
          · simp only [Act.put, List.setIfInBounds_toArray, List.set_cons_zero, List.set_cons_succ, i64_w, i32_w]
            rfl
          refine pure_ (i := 8) (N := (some 74)) (v := ?_) (a' := ?_) #[true, true, true, true, true, true, true, true, true, false, false] rfl rfl (by kernel_rfl) (fun _ _ _ h => h) (Or.inl ⟨by rfl, ?_⟩) ?_ ?_
          rotate_left
          · intro w'
            go_simp
            with_reducible rfl
          rotate_left
          · simp only [Act.put, List.setIfInBounds_toArray, List.set_cons_zero, List.set_cons_succ, i64_w, i32_w]
            rfl
          refine one_ (i := 9) (N := (some 75)) #[true, true, true, true, true, true, true, true, true, true, false] rfl rfl (by kernel_rfl) (by decide) (fun K hK => ?_)
          refine goes_ Try.func41 (by kernel_rfl) rfl #[.int .i64 (t : Int), .int .i64 ((many : Int) - (Dr.length : Int)), .int .i64 dpx] (by rfl) rfl rfl (by (try simp only [List.map_toArray, List.map_cons, List.map_nil]); first | done | rfl) ?_
          refine (evict_where.calls (t : Int) ((many : Int) - (Dr.length : Int)) dpx 0 _ HWH.out).mono ?_
          rintro e w7d ⟨rfl, hdr⟩
          have hS := below_drawn hHeld hdr
          clear hdr
          refine ⟨_, rfl, ?_⟩
          refine hK.out _ _ hS (fun hHeld => ?_)
          clear hK K
          refine norm_ (a' := ?_) ?_ ?_
          rotate_left
          · show Act.put _ (some 75) _ = _
            simp only [Act.put, List.setIfInBounds_toArray, List.set_cons_zero, List.set_cons_succ, i64_w, i32_w]
            rfl
          refine pure_ (i := 10) (N := (some 76)) (v := ?_) (a' := ?_) #[true, true, true, true, true, true, true, true, true, true, true] rfl rfl (by kernel_rfl) (fun _ _ _ h => h) (Or.inl ⟨by rfl, ?_⟩) ?_ ?_
          rotate_left
          · intro w'
            go_simp
            with_reducible rfl
          rotate_left
          · simp only [Act.put, List.setIfInBounds_toArray, List.set_cons_zero, List.set_cons_succ, i64_w, i32_w]
            rfl
          refine done_ (by kernel_rfl) ?_
          have HW7 := Aside0.mk hHeld
          have HI7 := Aside0.mk (HI6.out.below hHeld)
          have HI7d := Aside0.mk ((HI6.out.below hHeld).below (below_drew (Below.refl _ _)))
          have HS9 : w9.heap.size ≤ w7d.heap.size := by have := hHeld.size; omega
          have HS7 : W.heap.size ≤ w7d.heap.size := by have := hHeld.size; omega
          clear hHeld
          have HG19 : Aside0 (∀ w', w7d.grownBy w' (Value.slice Ar Dr.length cr).ownBlock → w'.cell? ⟨w.heap.size + 1 + 1, 0, none⟩ = some (.slice (some ⟨g, 0, none⟩) (hi + 1) c1) ∧ w'.cell? ⟨g, t, none⟩ = some (.slice Ar Dr.length cr) ∧ w'.cell? ⟨wr.heap.size, 0, none⟩ = some (.int .i64 x0) ∧ w'.cell? ⟨wr.heap.size, 1, none⟩ = some (.int .i64 x1) ∧ w'.cell? ⟨wr.heap.size, 2, none⟩ = some (.slice Ad x2.length cd)) := ⟨fun w' hg => by
            have hob : ∀ k, (Value.slice Ar Dr.length cr).ownBlock = some k → w9.heap.size ≤ k := HI7.out.r.base
            have hst : ∀ k, k < w7d.heap.size → (k < w9.heap.size ∨ k = wr.heap.size) → w'.heap[k]? = w7d.heap[k]? := fun k hk hor => by
              refine hg.block k hk (fun e => ?_)
              have h1 := hob k e.symm
              have h2 := HRL.out k e.symm
              omega
            have h7 := HW7.out.size
            have h8 := heap_lt HNEW6.out
            rw [cell_same (hst (w.heap.size + 1 + 1) (by omega) (.inl (by omega))), cell_same (hst g (by omega) (.inl (by omega))), cell_same (hst wr.heap.size (by omega) (.inr rfl)), cell_same (hst wr.heap.size (by omega) (.inr rfl)), cell_same (hst wr.heap.size (by omega) (.inr rfl))]
            exact ⟨HRC.out _ HW7.out, HRW.out _ HW7.out, HBX.out _ HW7.out⟩⟩
          gi_wp2
          refine start_in (m := 11) (S := fun w' => w7d.grownBy w' (Value.slice Ar Dr.length cr).ownBlock) (ds := [10]) #[false, false, false, false, false, false, false, false, false, false, false] rfl (by rintro ⟨_, _, h⟩; exact h) (by kernel_rfl) rfl rfl (grown_drew _ _) (fun hHeld => ?_)
          refine take_ (i := 0) (N := (some 81)) (v := ?_) (a' := ?_) #[true, false, false, false, false, false, false, false, false, false, false] rfl rfl (by kernel_rfl) (fun _ _ _ h => h) (Or.inl ⟨by rfl, ?_⟩) hHeld ?_ ?_
          rotate_left
          · rintro w' z0
            obtain ⟨hc, _⟩ := HG19.out _ z0
            go_simp
            with_reducible rfl
          rotate_left
          · simp only [Act.put, List.setIfInBounds_toArray, List.set_cons_zero, List.set_cons_succ, i64_w, i32_w]
            rfl
          refine pure_ (i := 1) (N := (some 82)) (v := ?_) (a' := ?_) #[true, true, false, false, false, false, false, false, false, false, false] rfl rfl (by kernel_rfl) (fun _ _ _ h => h) (Or.inl ⟨by rfl, ?_⟩) ?_ ?_
          rotate_left
          · intro w'
            go_simp
            with_reducible rfl
          rotate_left
          · simp only [Act.put, List.setIfInBounds_toArray, List.set_cons_zero, List.set_cons_succ, i64_w, i32_w]
            rfl
          refine take_ (i := 2) (N := (some 83)) (v := ?_) (a' := ?_) #[true, true, true, false, false, false, false, false, false, false, false] rfl rfl (by kernel_rfl) (fun _ _ _ h => h) (Or.inl ⟨by rfl, ?_⟩) hHeld ?_ ?_
          rotate_left
          · rintro w' z0
            obtain ⟨hc, _⟩ := HG19.out _ z0
            go_simp
            with_reducible rfl
          rotate_left
          · simp only [Act.put, List.setIfInBounds_toArray, List.set_cons_zero, List.set_cons_succ, i64_w, i32_w]
            rfl
          refine pure_ (i := 3) (N := (some 84)) (v := ?_) (a' := ?_) #[true, true, true, true, false, false, false, false, false, false, false] rfl rfl (by kernel_rfl) (fun _ _ _ h => h) (Or.inl ⟨by rfl, ?_⟩) ?_ ?_
          rotate_left
          · intro w'
            go_simp
            with_reducible rfl
          rotate_left
          · simp only [Act.put, List.setIfInBounds_toArray, List.set_cons_zero, List.set_cons_succ, i64_w, i32_w]
            rfl
          refine pure_ (i := 4) (N := (some 85)) (v := ?_) (a' := ?_) #[true, true, true, true, true, false, false, false, false, false, false] rfl rfl (by kernel_rfl) (fun _ _ _ h => h) (Or.inl ⟨by rfl, ?_⟩) ?_ ?_
          rotate_left
          · intro w'
            go_simp
            with_reducible rfl
          rotate_left
          · simp only [Act.put, List.setIfInBounds_toArray, List.set_cons_zero, List.set_cons_succ, i64_w, i32_w]
            rfl
          refine take_ (i := 5) (N := (some 86)) (v := ?_) (a' := ?_) #[true, true, true, true, true, true, false, false, false, false, false] rfl rfl (by kernel_rfl) (fun _ _ _ h => h) (Or.inl ⟨by rfl, ?_⟩) hHeld ?_ ?_
          rotate_left
          · rintro w' z0
            obtain ⟨_, hc, _⟩ := HG19.out _ z0
            go_simp
            with_reducible rfl
          rotate_left
          · simp only [Act.put, List.setIfInBounds_toArray, List.set_cons_zero, List.set_cons_succ, i64_w, i32_w]
            rfl
          refine take_ (i := 6) (N := (some 87)) (v := ?_) (a' := ?_) #[true, true, true, true, true, true, true, false, false, false, false] rfl rfl (by kernel_rfl) (fun _ _ _ h => h) (Or.inl ⟨by rfl, ?_⟩) hHeld ?_ ?_
          rotate_left
          · rintro w' z0
            obtain ⟨_, _, hc0, hc1, hc2⟩ := HG19.out _ z0
            go_simp
            with_reducible rfl
          rotate_left
          · simp only [Act.put, List.setIfInBounds_toArray, List.set_cons_zero, List.set_cons_succ, i64_w, i32_w]
            rfl
          refine one_ (i := 7) (N := (some 88)) #[true, true, true, true, true, true, true, true, false, false, false] rfl rfl (by kernel_rfl) (by decide) (fun K hK => ?_)
          refine ite_wanted rfl ?_
          have hS := grown_trans hHeld (World.grownBy_alloc _ (.cells #[.int .i64 x0, .int .i64 x1, .slice Ad x2.length cd] 62) _)
          go_simp
          refine hK.out _ _ hS (fun hHeld => ?_)
          clear hS hK K
          refine one_ (i := 8) (N := (some 89)) #[true, true, true, true, true, true, true, true, true, false, false] rfl rfl (by kernel_rfl) (by decide) (fun K hK => ?_)
          refine Kd.R_append_step (Kd.raw 3) (w0 := w7d.drew) w9.heap.size rfl (.tmp 86) (.tmp 88) 24 62 _ 40 rfl Try.underlying24 info62 rfl (by decide) (by decide) (.slice Ar Dr.length cr) (Dr.map cell3) (cell3 (⟨x0, x1, x2⟩, Ad, cd)) (cell3 (⟨x0, x1, x2⟩, Ad, cd)) (fun _ => True) (fun _ => False) rfl rfl ⟨rfl, rfl, cell3_one _⟩ (fun _ h => h.elim) (fun _ _ => trivial) (Kd.R_mono HI7d.out.r (fun _ _ => trivial)) (Below.refl _ _) HS9 ?aL ?_
          (case aL => rw [List.length_map]; omega)
          intro v8 w8d hR hb hg hat
          obtain ⟨A8d, c8d, rfl⟩ := Kd.R_slice hR
          refine hK.out _ _ (grown_of_drew hg) (fun hHeld => ?_)
          clear hK K
          refine norm_ (a' := ?_) ?_ ?_
          rotate_left
          · show Act.put _ (some 89) _ = _
            simp only [Act.put, List.setIfInBounds_toArray, List.set_cons_zero, List.set_cons_succ, i64_w, i32_w]
            rfl
          refine pure_ (i := 9) (N := (some 90)) (v := ?_) (a' := ?_) #[true, true, true, true, true, true, true, true, true, true, false] rfl rfl (by kernel_rfl) (fun _ _ _ h => h) (Or.inl ⟨by rfl, ?_⟩) ?_ ?_
          rotate_left
          · intro w'
            go_simp
            with_reducible rfl
          rotate_left
          · simp only [Act.put, List.setIfInBounds_toArray, List.set_cons_zero, List.set_cons_succ, i64_w, i32_w]
            rfl
          refine last_ (i := 10) (N := none) #[true, true, true, true, true, true, true, true, true, true, true] rfl rfl (by kernel_rfl) (by decide) (fun K hK => ?_)
          refine ite_wanted rfl ?_
          have hb8 := (hb.block g (by omega)).trans HI7.out.blk
          have htv : t < (vs.set t (.slice Ar Dr.length cr)).length := by rw [List.length_set]; exact hvlen
          have hcw := (blk_cell hb8 t).trans ((List.getElem?_toArray ..).trans (List.getElem?_eq_getElem htv))
          have hfw := blk_frozen hb8 t
          go_simp
          refine hK.out _ _ ?_
          clear hK K hcw hfw
          refine done_ (by kernel_rfl) ?_
          gi_wp2
          exact ⟨⟨i + 1, _, Dr ++ [(⟨x0, x1, x2⟩, Ad, cd)], Dl, rfl, ⟨HI7d.out.take HGT.out hfit.1 (decide_eq_true (by rw [← HDX.out]; exact hfit.2)) (by omega) (by omega) hR hb hg hat (by simp)⟩⟩, by simp [intOf]; omega⟩
        · have HWH : Aside0 (evict_where.f (t : Int) ((many : Int) - (Dr.length : Int)) dpx = some 1) := ⟨by
            unfold evict_where.f
            by_cases h1 : dpx < (t : Int)
            · rw [if_pos h1]
            · rw [if_neg h1, if_pos (by omega)]⟩
          have hnf : ¬ (Dr.length < many ∧ (decide ((t : Int) ≤ dp ⟨x0, x1, x2⟩)) = true) := fun h => hfit ⟨h.1, by rw [HDX.out]; exact of_decide_eq_true h.2⟩
          refine start_in (m := 11) (S := fun w' => Below w6d.heap.size w6d w') (ds := []) #[false, false, false, false, false, false, false, false, false, false, false] rfl (by rintro ⟨_, _, h⟩; exact h) (by kernel_rfl) rfl rfl (below_drew (Below.refl _ _)) (fun hHeld => ?_)
          refine pure_ (i := 0) (N := (some 66)) (v := ?_) (a' := ?_) #[true, false, false, false, false, false, false, false, false, false, false] rfl rfl (by kernel_rfl) (fun _ _ _ h => h) (Or.inl ⟨by rfl, ?_⟩) ?_ ?_
          rotate_left
          · intro w'
            go_simp
            with_reducible rfl
          rotate_left
          · simp only [Act.put, List.setIfInBounds_toArray, List.set_cons_zero, List.set_cons_succ, i64_w, i32_w]
            rfl
          refine take_ (i := 1) (N := (some 67)) (v := ?_) (a' := ?_) #[true, true, false, false, false, false, false, false, false, false, false] rfl rfl (by kernel_rfl) (fun _ _ _ h => h) (Or.inl ⟨by rfl, ?_⟩) hHeld ?_ ?_
          rotate_left
          · rintro w' z0
            have hc := HMC.out _ z0
            go_simp
            with_reducible rfl
          rotate_left
          · simp only [Act.put, List.setIfInBounds_toArray, List.set_cons_zero, List.set_cons_succ, i64_w, i32_w]
            rfl
          refine take_ (i := 2) (N := (some 68)) (v := ?_) (a' := ?_) #[true, true, true, false, false, false, false, false, false, false, false] rfl rfl (by kernel_rfl) (fun _ _ _ h => h) (Or.inl ⟨by rfl, ?_⟩) hHeld ?_ ?_
          rotate_left
          · rintro w' z0
            have hc := HRC.out _ z0
            go_simp
            with_reducible rfl
          rotate_left
          · simp only [Act.put, List.setIfInBounds_toArray, List.set_cons_zero, List.set_cons_succ, i64_w, i32_w]
            rfl
          refine pure_ (i := 3) (N := (some 69)) (v := ?_) (a' := ?_) #[true, true, true, true, false, false, false, false, false, false, false] rfl rfl (by kernel_rfl) (fun _ _ _ h => h) (Or.inl ⟨by rfl, ?_⟩) ?_ ?_
          rotate_left
          · intro w'
            go_simp
            with_reducible rfl
          rotate_left
          · simp only [Act.put, List.setIfInBounds_toArray, List.set_cons_zero, List.set_cons_succ, i64_w, i32_w]
            rfl
          refine pure_ (i := 4) (N := (some 70)) (v := ?_) (a' := ?_) #[true, true, true, true, true, false, false, false, false, false, false] rfl rfl (by kernel_rfl) (fun _ _ _ h => h) (Or.inl ⟨by rfl, ?_⟩) ?_ ?_
          rotate_left
          · intro w'
            go_simp
            with_reducible rfl
          rotate_left
          · simp only [Act.put, List.setIfInBounds_toArray, List.set_cons_zero, List.set_cons_succ, i64_w, i32_w]
            rfl
          refine take_ (i := 5) (N := (some 71)) (v := ?_) (a' := ?_) #[true, true, true, true, true, true, false, false, false, false, false] rfl rfl (by kernel_rfl) (fun _ _ _ h => h) (Or.inl ⟨by rfl, ?_⟩) hHeld ?_ ?_
          rotate_left
          · rintro w' z0
            have hc := HRW.out _ z0
            go_simp
            with_reducible rfl
          rotate_left
          · simp only [Act.put, List.setIfInBounds_toArray, List.set_cons_zero, List.set_cons_succ, i64_w, i32_w]
            rfl
          refine pure_ (i := 6) (N := (some 72)) (v := ?_) (a' := ?_) #[true, true, true, true, true, true, true, false, false, false, false] rfl rfl (by kernel_rfl) (fun _ _ _ h => h) (Or.inl ⟨by rfl, ?_⟩) ?_ ?_
          rotate_left
          · intro w'
            go_simp
            with_reducible rfl
          rotate_left
          · simp only [Act.put, List.setIfInBounds_toArray, List.set_cons_zero, List.set_cons_succ, i64_w, i32_w]
            rfl
          refine pure_ (i := 7) (N := (some 73)) (v := ?_) (a' := ?_) #[true, true, true, true, true, true, true, true, false, false, false] rfl rfl (by kernel_rfl) (fun _ _ _ h => h) (Or.inl ⟨by rfl, ?_⟩) ?_ ?_
          rotate_left
          · intro w'
            go_simp
            with_reducible rfl
          rotate_left
          · simp only [Act.put, List.setIfInBounds_toArray, List.set_cons_zero, List.set_cons_succ, i64_w, i32_w]
            rfl
          refine pure_ (i := 8) (N := (some 74)) (v := ?_) (a' := ?_) #[true, true, true, true, true, true, true, true, true, false, false] rfl rfl (by kernel_rfl) (fun _ _ _ h => h) (Or.inl ⟨by rfl, ?_⟩) ?_ ?_
          rotate_left
          · intro w'
            go_simp
            with_reducible rfl
          rotate_left
          · simp only [Act.put, List.setIfInBounds_toArray, List.set_cons_zero, List.set_cons_succ, i64_w, i32_w]
            rfl
          refine one_ (i := 9) (N := (some 75)) #[true, true, true, true, true, true, true, true, true, true, false] rfl rfl (by kernel_rfl) (by decide) (fun K hK => ?_)
          refine goes_ Try.func41 (by kernel_rfl) rfl #[.int .i64 (t : Int), .int .i64 ((many : Int) - (Dr.length : Int)), .int .i64 dpx] (by rfl) rfl rfl (by (try simp only [List.map_toArray, List.map_cons, List.map_nil]); first | done | rfl) ?_
          refine (evict_where.calls (t : Int) ((many : Int) - (Dr.length : Int)) dpx 1 _ HWH.out).mono ?_
          rintro e w7d ⟨rfl, hdr⟩
          have hS := below_drawn hHeld hdr
          clear hdr
          refine ⟨_, rfl, ?_⟩
          refine hK.out _ _ hS (fun hHeld => ?_)
          clear hK K
          refine norm_ (a' := ?_) ?_ ?_
          rotate_left
          · show Act.put _ (some 75) _ = _
            simp only [Act.put, List.setIfInBounds_toArray, List.set_cons_zero, List.set_cons_succ, i64_w, i32_w]
            rfl
          refine pure_ (i := 10) (N := (some 76)) (v := ?_) (a' := ?_) #[true, true, true, true, true, true, true, true, true, true, true] rfl rfl (by kernel_rfl) (fun _ _ _ h => h) (Or.inl ⟨by rfl, ?_⟩) ?_ ?_
          rotate_left
          · intro w'
            go_simp
            with_reducible rfl
          rotate_left
          · simp only [Act.put, List.setIfInBounds_toArray, List.set_cons_zero, List.set_cons_succ, i64_w, i32_w]
            rfl
          refine done_ (by kernel_rfl) ?_
          have HW7 := Aside0.mk hHeld
          have HI7 := Aside0.mk (HI6.out.below hHeld)
          have HS7 : W.heap.size ≤ w7d.heap.size := by have := hHeld.size; omega
          clear hHeld
          obtain ⟨hc0, hc1, hc2⟩ := box3B (blk_below HNEW6.out HW7.out)
          iterate 4 gi_step
          refine plain_in (id := 18) rfl (by rintro ⟨_, _, h⟩; exact h) ?_
          repeat (first | ((with_reducible refine gate_builtin (b := .append) (xs := #[.tmp 77, .tmp 79]) rfl ?_); at_builtin; refine Kd.R_append (Kd.raw 3) (w0 := w7d) W.heap.size rfl (.tmp 77) (.tmp 79) 24 62 _ 40 rfl Try.underlying24 info62 rfl (by decide) (by decide) (.slice Al Dl.length cl) (Dl.map cell3) (cell3 (⟨x0, x1, x2⟩, Ad, cd)) (cell3 (⟨x0, x1, x2⟩, Ad, cd)) (fun _ => True) (fun _ => False) rfl rfl ⟨rfl, rfl, cell3_one _⟩ (fun _ h => h.elim) (fun _ _ => trivial) (Kd.R_mono HI7.out.l (fun _ _ => trivial)) (Below.refl _ _) HS7 ?aL ?_; (case aL => have := HI7.out.dl; have := HI7.out.le; rw [List.length_map]; omega); intro v8 w8d hR hb hg hat; clear hc0 hc1 hc2) | go_values | go_guarded | go_step | go_upon)
          gi_wp2
          exact ⟨⟨i + 1, _, Dr, Dl ++ [(⟨x0, x1, x2⟩, Ad, cd)], rfl, ⟨HI7.out.leave HGT.out hnf (by omega) hR hb hg hat⟩⟩, by simp [intOf]; omega⟩
      · have hd2 : decide ((i : Int) < (S.2.length : Int)) = false := decide_eq_false (by omega)
        have hiD : i = S.2.length := by have := HI.out.le; omega
        subst hiD
        have hc7 := blk_cell (((InG.stay HO.out ht1 HV0.out HI.out) (w.heap.size + 1 + 1 + 1) (by omega) (by omega)).trans HBOX.out) 0
        have hf7 := blk_frozen (((InG.stay HO.out ht1 HV0.out HI.out) (w.heap.size + 1 + 1 + 1) (by omega) (by omega)).trans HBOX.out) 0
        gi_wp2
        have hSS := HSE.out
        subst hSS
        obtain ⟨n1, n2, n3⟩ := FInv.next HST.out HBOX.out HO.out ht1 HV0.out (by omega) HI.out
        have hfin := And.intro n1 (And.intro (n2 w8.heap.size (by omega) (by omega) (by omega)) (List.map_append (f := Subtype.val) (l₁ := pre) (l₂ := [⟨t, ht⟩]) ▸ n3))
        exact hfin
  case done =>
    rintro D ys W hD hys ⟨hst, vs, v, hbox, hO⟩ hKD
    have hfold : (ys.map (·.1)).foldl (stepP many (fun t (d : BD) => decide ((t : Int) ≤ dp d.1))) (List.replicate (hi + 1) [], ds) = partS many (fun t (d : BD) => decide ((t : Int) ≤ dp d.1)) (hi + 1) ds := by
      rw [hys]
      exact seq_all many (fun t (d : BD) => decide ((t : Int) ≤ dp d.1)) (hi + 1) ds
    rw [hfold] at hO
    obtain ⟨A0, c0, rfl, hc0, _⟩ := hO.rest
    have hr2 : W.heap[w.heap.size + 1 + 1]? = some (.cells #[.slice (some ⟨g, 0, none⟩) (hi + 1) c1] 27 (0, 0)) := (hst.block _ (by omega) (by omega) (by omega)).trans HF9.out.rows
    have hc6 : W.drew.cell? ⟨w.heap.size + 1 + 1, 0, none⟩ = some (.slice (some ⟨g, 0, none⟩) (hi + 1) c1) := (blk_cell (w := W.drew) hr2 0).trans (by simp)
    have hf6 := blk_frozen (w := W.drew) hr2 0
    have hc7 : W.drew.cell? ⟨w.heap.size + 1 + 1 + 1, 0, none⟩ = some (.slice A0 (partS many (fun t (d : BD) => decide ((t : Int) ≤ dp d.1)) (hi + 1) ds).2.length c0) := (blk_cell (w := W.drew) hbox 0).trans (by simp)
    have hf7 := blk_frozen (w := W.drew) hbox 0
    have hs6 : W.drew.setCell ⟨w.heap.size + 1 + 1, 0, none⟩ (.slice (some ⟨g, 0, none⟩) (hi + 1) c1) = W.drew := set_self hr2
    have hs7 : W.drew.setCell ⟨w.heap.size + 1 + 1 + 1, 0, none⟩ (.slice A0 (partS many (fun t (d : BD) => decide ((t : Int) ≤ dp d.1)) (hi + 1) ds).2.length c0) = W.drew := set_self hbox
    clear hys
    generalize hP : partS many (fun t (d : BD) => decide ((t : Int) ≤ dp d.1)) (hi + 1) ds = PP at *
    repeat go_step
    refine wp_onlyN ?_ (fun _ _ h => h)
    refine start_ (n := 5) (S := fun w' => w' = W.drew) (ds := [3]) #[false, false, false, false, false] (by kernel_rfl) rfl rfl rfl (fun hHeld => ?_)
    refine take_ (i := 0) (N := (some 93)) (v := ?_) (a' := ?_) #[true, false, false, false, false] rfl rfl (by kernel_rfl) (fun _ _ _ h => h) (Or.inl ⟨by rfl, ?_⟩) hHeld ?_ ?_
    rotate_left
    · rintro w' rfl
      have hc := hc6
      go_simp
      with_reducible rfl
    rotate_left
    · simp only [Act.put, List.setIfInBounds_toArray, List.set_cons_zero, List.set_cons_succ, i64_w, i32_w]
      rfl
    refine take_ (i := 1) (N := (some 94)) (v := ?_) (a' := ?_) #[true, true, false, false, false] rfl rfl (by kernel_rfl) (fun _ _ _ h => h) (Or.inl ⟨by rfl, ?_⟩) hHeld ?_ ?_
    rotate_left
    · rintro w' rfl
      have hc := hc7
      go_simp
      with_reducible rfl
    rotate_left
    · simp only [Act.put, List.setIfInBounds_toArray, List.set_cons_zero, List.set_cons_succ, i64_w, i32_w]
      rfl
    refine one_ (i := 2) (N := none) #[true, true, true, false, false] rfl rfl (by kernel_rfl) (by decide) (fun K hK => ?_)
    refine ite_wanted rfl ?_
    go_simp
    (try rw [hs6])
    refine hK.out _ _ rfl (fun hHeld => ?_)
    clear hK K
    refine last_ (i := 3) (N := none) #[true, true, true, true, false] rfl rfl (by kernel_rfl) (by decide) (fun K hK => ?_)
    refine ite_wanted rfl ?_
    go_simp
    (try rw [hs7])
    refine hK.out _ _ ?_
    clear hK K
    refine pure_ (i := 4) (N := (some 8)) (v := ?_) (a' := ?_) #[true, true, true, true, true] rfl rfl (by kernel_rfl) (fun _ _ _ h => h) (Or.inl ⟨by rfl, ?_⟩) ?_ ?_
    rotate_left
    · intro w'
      go_simp
      with_reducible rfl
    rotate_left
    · simp only [Act.put, List.setIfInBounds_toArray, List.set_cons_zero, List.set_cons_succ, i64_w, i32_w]
      rfl
    refine done_ (by kernel_rfl) ?_
    simp only [onlyN]
    repeat go_step
    have hK2 : W.drew.heap[D]? = some (.deferred (some [])) := hKD
    have hfarD : ∀ k, k ≠ D → (W.drew.putObj D (.deferred none)).heap[k]? = W.heap[k]? := fun k hk => World.putObj_heap_other hk
    have hne : ∀ k cs u s, W.heap[k]? = some (Obj.cells cs u s) → k ≠ D := fun k cs u s h e => by
      subst e
      rw [hKD] at h
      cases h
    have hc6' : (W.drew.putObj D (.deferred none)).cell? ⟨w.heap.size + 1 + 1, 0, none⟩ = some (.slice (some ⟨g, 0, none⟩) (hi + 1) c1) := (cell_same (hfarD _ (hne _ _ _ _ hr2)) 0).trans hc6
    have hc7' : (W.drew.putObj D (.deferred none)).cell? ⟨w.heap.size + 1 + 1 + 1, 0, none⟩ = some (.slice A0 PP.2.length c0) := (cell_same (hfarD _ (hne _ _ _ _ hbox)) 0).trans hc7
    have hO2 : OutG g w9.heap.size w7.heap.size (hi + 1) many 1000 vs (.slice A0 PP.2.length c0) PP (W.drew.putObj D (.deferred none)) := hO.cells_step (fun k cs u s h => (hfarD k (hne k cs u s h)).trans h) (by simp)
    have hB2 : Below w.heap.size w (W.drew.putObj D (.deferred none)) := (below_drew (hst.below HB9.out (by omega) (by omega) (by omega))).trans (belowK_b (w := w) (Nat.le_refl _) W.drew D _ _ (by have := HB9.out.size; omega) hK2 rfl rfl)
    have hG2 : ∀ d ∈ ds, GoodB (W.drew.putObj D (.deferred none)) d ∧ YoungD w7.heap.size (W.drew.putObj D (.deferred none)) d := fun d hd => goodB_stay (HGD9.out d hd) (fun k h1 h2 => (hfarD k (by omega)).trans (hst.block k h2 (by omega) (by omega)))
    have hbg : w.heap.size ≤ g := by omega
    subst hP
    refine ⟨by simp, .inl ⟨_, _, rfl, run_takeDeferred hK2, ?_⟩⟩
    refine ⟨.tuple #[.slice (some ⟨g, 0, none⟩) (hi + 1) c1, .slice A0 (partS many (fun t (d : BD) => decide ((t : Int) ≤ dp d.1)) (hi + 1) ds).2.length c0, .int .i64 0], by simp [results, Try.results11, go_sem, hc6', hc7'], ?_⟩
    exact ⟨g, w9.heap.size, w7.heap.size, c1, A0, c0, vs, ds, rfl, HGC.out, hbg, hg7, by omega, HDS.out, hO2, hG2, hB2⟩
end Go.Proofs.Ytknmokpnkcckeaa
