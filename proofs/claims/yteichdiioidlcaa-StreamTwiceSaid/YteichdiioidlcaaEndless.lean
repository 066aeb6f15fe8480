/-
A range over a function that yields without end: the loop's body leaves it, at the latest in round N; the body's variable may be made anew for each round.
-/
import Derived.RangeFuncNested
import Derived.RangeFuncBound
import Derived.RangeFuncCalls
import Derived.RangeFuncLeaves
import Derived.Test.YteichdiioidlcaaProg
namespace Go.Proofs.Yteichdiioidlcaa
open Go.RowKit
variable {F : Fence} {n : Nat} {P : Program}

/-- How a round's body may be left: it goes on (I one further), or leaves the loop by an exit. -/
def endPost (B : Nat) (I' : World → Prop) (Ix : Nat → World → Prop) (W : World) : Exit → Act → World → Prop
  | .normal, _, W' => KeepsFrom B W W' ∧ I' W'
  | .exit id, _, W' => KeepsFrom B W W' ∧ Ix id W'
  | _, _, _ => False

/-- What a state abides: turns of blocks from B on that hold no cells. -/
def AbidesP (B : Nat) (I : World → Prop) : Prop := ∀ W l o o', I W → B ≤ l → W.heap[l]? = some o → o.isCells = false → I (W.putObj l o')

/-- The iterator's contract, at any states of its caller's. -/
def SeqEndless (F : Fence) (n : Nat) (P : Program) (g : Nat) (lb : Array Value) (x : Nat → Array Value) (N : Nat) (Kp : World → Prop) : Prop :=
  ∀ (l : Nat) (J : Nat → World → Prop) (Jx : World → Prop) (W : World), (∀ k V V', J k V → Below V.heap.size V V' → J k V') → (∀ k V, J k V → k < N ∧ Kp V) →
    (∀ k V, J k V → YieldAt F (n - 1) P l (x k) V fun e V' => (e = .returned (.bool true) ∧ J (k + 1) V') ∨ (e = .returned (.bool false) ∧ Jx V')) → J 0 W →
    CallsIn F n P g (#[.func (.yield l) #[] #[]] ++ lb) W fun e V' => (∃ v, e = .returned v) ∧ Jx V'

theorem wpIn_endless {g : Operand} {ps : Array Tmp} {assign body : Code} {Q : Exit → Act → World → Prop} {a : Act} {w : World}
    (hro : F.round = none) (h1 : 1 ≤ n) {gf : Nat} {lb : Array Value} (hg : a.eval g = .func (.func gf) #[] lb) (hFg : F.fn gf) (eg : ∀ args w, (callFunc gf args).run P w = .ok (.enter gf args) w)
    {x : Nat → Array Value} {N : Nat} {Kp : World → Prop} (hseq : SeqEndless F (n - 1) P gf lb x N Kp) (hps : ∀ k, (x k).size = ps.size)
    (I : Nat → World → Prop) (I1 : Nat → Act → World → Prop) (Ix : Nat → World → Prop)
    (hIg : ∀ k W W', I k W → Below W.heap.size W W' → I k W') (hI : ∀ k, AbidesP w.heap.size (I k)) (hI1 : ∀ k a, AbidesP w.heap.size (I1 k a)) (hIx : ∀ id, AbidesP w.heap.size (Ix id)) (hIN : ∀ k V, I k V → k < N ∧ Kp V) (h0 : I 0 w)
    (hassign : ∀ l k W, I k W → assign.wpIn (F.inRound l) (n - 1 - 1) P (Exit.then (fun a1 W1 => KeepsFrom w.heap.size W W1 ∧ I1 k a1 W1) (fun _ _ _ => False)) { tmps := (ps.zip (x k)).foldl (fun t (p, v) => t.setIfInBounds p v) a.tmps, defers := [] } W)
    (hbody : ∀ l k a1 W, I1 k a1 W → body.wpIn (F.inRound l) (n - 1 - 1) P (endPost w.heap.size (I (k + 1)) Ix W) a1 W)
    (hstop : ∀ (D id : Nat) (W : World), w.heap.size ≤ D → Ix id W → W.heap[D]? = some (.deferred (some [])) → (Code.exit id).wpIn F n P Q { a with defers := { target := .collected D, args := #[] } :: a.defers } W) :
    (Code.rangeFunc g ps assign body).wpIn F n P Q a w := by
  refine wpIn_rangeFunc fun fn hfn => ?_
  rw [hro]
  obtain ⟨rec, hrec⟩ : ∃ rec : LoopState → Option Code → Loop, rec = fun st pe => { state := st, pending := pe, fn, tmps := a.tmps, params := ps, assign, body, defers := w.heap.size } := ⟨_, rfl⟩
  obtain ⟨V0, hV0⟩ : ∃ V0, (w.alloc (.deferred (some []))).alloc (.loop (rec .ready none)) = V0 := ⟨_, rfl⟩
  have hloop : V0.heap[w.heap.size + 1]? = some (.loop (rec .ready none)) := by
    have := World.alloc_heap_new (w.alloc (.deferred (some []))) (.loop (rec .ready none))
    rw [World.size_alloc, hV0] at this
    exact this
  have hdef : V0.heap[w.heap.size]? = some (.deferred (some [])) := by
    rw [← hV0]
    exact (Below.heap_alloc _ _ _ (by simp)).trans (World.alloc_heap_new w _)
  have hgr : Below w.heap.size w V0 := by
    rw [← hV0]
    exact ((Below.refl _ w).alloc (Nat.le_refl _) _).alloc (by simp) _
  refine ⟨w.heap.size + 1, [{ target := .collected w.heap.size, args := #[] }], V0, { target := .fn (.func gf) lb, args := #[.func (.yield (w.heap.size + 1)) #[] #[]] }, V0, gf, #[.func (.yield (w.heap.size + 1)) #[] #[]] ++ lb, V0, ?_, ?_, ?_, ?_, fun _ => h1, ?_⟩
  · rw [← hV0, hrec]
    exact run_enterLoop_outer _ _ _ _ _
  · simp only [resolve, hg]
    simp [go_sem]
  · intro f' hf'
    simp [Target.leads] at hf'
    subst hf'
    exact hFg
  · simp [invoke, go_sem, eg]
  -- the caller's states, with the two blocks of the loop's own
  have hput : ∀ (W : World) (o o' : Loop), W.heap[w.heap.size + 1]? = some (.loop o) → W.heap[w.heap.size]? = some (.deferred (some [])) →
      (W.putObj (w.heap.size + 1) (.loop o')).heap[w.heap.size + 1]? = some (.loop o') ∧ (W.putObj (w.heap.size + 1) (.loop o')).heap[w.heap.size]? = some (.deferred (some [])) := fun W o o' hl hd =>
    ⟨World.putObj_heap_same (Array.getElem?_eq_some_iff.1 hl).1, (World.putObj_heap_other (by omega)).trans hd⟩
  refine (hseq (w.heap.size + 1)
    (fun k V => I k V ∧ V.heap[w.heap.size + 1]? = some (.loop (rec .ready none)) ∧ V.heap[w.heap.size]? = some (.deferred (some [])))
    (fun V => ∃ id, Ix id V ∧ V.heap[w.heap.size + 1]? = some (.loop (rec .done (some (.exit id)))) ∧ V.heap[w.heap.size]? = some (.deferred (some [])))
    V0 ?_ ?_ ?_ ⟨hIg _ _ _ h0 hgr, hloop, hdef⟩).mono ?_
  · rintro k V V' ⟨hi, hl, hd⟩ hb
    exact ⟨hIg _ _ _ hi hb, (hb.block _ (Array.getElem?_eq_some_iff.1 hl).1).trans hl, (hb.block _ (Array.getElem?_eq_some_iff.1 hd).1).trans hd⟩
  · rintro k V ⟨hi, -, -⟩
    exact hIN k V hi
  · -- one round
    rintro k V ⟨hi, hl, hd⟩
    have hy := run_yield (P := P) (args := x k) hl (by rw [hrec]; exact hps k)
    rw [hrec] at hy
    refine ⟨fn, _, assign, body, hy, roundIn_of_wpIn hfn (wpIn_mono (hassign _ k V hi) ?_)⟩
    rintro e a1 V1 hp
    cases e with
    | normal =>
      obtain ⟨hk1, hi1⟩ := hp
      have hl1 := hk1.same _ _ (by omega) hl rfl
      have hd1 := hk1.same _ _ (Nat.le_refl _) hd rfl
      refine ⟨_, run_beginRound hl1 (by rw [hrec]), ?_⟩
      obtain ⟨hl2, hd2⟩ := hput V1 _ { rec .ready none with state := .busy } hl1 hd1
      refine wpIn_mono (hbody _ k a1 _ (hI1 k a1 _ _ _ _ hi1 (by omega) hl1 rfl)) ?_
      rintro e a2 V3 hp
      cases e with
      | normal =>
        obtain ⟨hk3, hi3⟩ := hp
        have hl3 := hk3.same _ _ (by omega) hl2 rfl
        have hd3 := hk3.same _ _ (Nat.le_refl _) hd2 rfl
        have hr := run_endRound (P := P) none hl3
        have hq : { rec .ready none with state := LoopState.ready, pending := none } = rec .ready none := by rw [hrec]
        obtain ⟨hl4, hd4⟩ := hput V3 _ (rec .ready none) hl3 hd3
        refine ⟨_, _, hr, .inl ⟨rfl, ?_⟩⟩
        have e1 : ({ { rec .ready none with state := LoopState.busy } with state := if (none : Option Code).isNone then LoopState.ready else LoopState.done, pending := none } : Loop) = rec .ready none := by rw [hrec]; rfl
        rw [e1]
        exact ⟨hI _ _ _ _ _ hi3 (by omega) hl3 rfl, hl4, hd4⟩
      | exit id =>
        obtain ⟨hk3, hi3⟩ := hp
        have hl3 := hk3.same _ _ (by omega) hl2 rfl
        have hd3 := hk3.same _ _ (Nat.le_refl _) hd2 rfl
        have hr := run_endRound (P := P) (some (.exit id)) hl3
        obtain ⟨hl4, hd4⟩ := hput V3 _ (rec .done (some (.exit id))) hl3 hd3
        refine ⟨_, _, hr, .inr ⟨rfl, id, ?_⟩⟩
        have e1 : ({ { rec .ready none with state := LoopState.busy } with state := if (some (Code.exit id)).isNone then LoopState.ready else LoopState.done, pending := some (.exit id) } : Loop) = rec .done (some (.exit id)) := by rw [hrec]; rfl
        rw [e1]
        exact ⟨hIx _ _ _ _ _ hi3 (by omega) hl3 rfl, hl4, hd4⟩
      | ret => exact hp.elim
      | goto t => exact hp.elim
      | panic ch => exact hp.elim
      | outgrown => exact hp.elim
    | ret => exact hp.elim
    | exit id => exact hp.elim
    | goto t => exact hp.elim
    | panic ch => exact hp.elim
    | outgrown => exact hp.elim
  · -- behind the iterator
    rintro e V2 ⟨⟨v, rfl⟩, id, hi, hl, hd⟩
    refine ⟨some (.exit id), _, ?_, hstop _ id _ (Nat.le_refl _) (hIx id _ _ _ _ hi (by omega) hl rfl) (hput V2 _ { rec .done (some (.exit id)) with state := .exhausted } hl hd).2⟩
    have := run_endLoop (P := P) hl (by rw [hrec]; simp)
    rw [hrec] at this ⊢
    exact this
end Go.Proofs.Yteichdiioidlcaa
