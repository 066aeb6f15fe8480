/-
Shadow runs of ChaCha: double rounds, the words from which a block begins, and blocks, as contracts.
-/
import Derived.Test.YteichdiioidlcaaSxTurns
namespace Go.Proofs.Yteichdiioidlcaa.SxCha
open Go Go.Sx Go.Proofs.Yteichdiioidlcaa
set_option linter.unusedVariables false
set_option linter.unusedSimpArgs false

/-- Word i behind a double round. -/
def dbl (l : List Int) (i : Nat) : Int := (doubleL l).getD i 0
def step16 (l : List Int) : List Int := [dbl l 0, dbl l 1, dbl l 2, dbl l 3, dbl l 4, dbl l 5, dbl l 6, dbl l 7, dbl l 8, dbl l 9, dbl l 10, dbl l 11, dbl l 12, dbl l 13, dbl l 14, dbl l 15]
def ten (l : List Int) : List Int := step16 (step16 (step16 (step16 (step16 (step16 (step16 (step16 (step16 (step16 l)))))))))

def numsOf (k : IntKind) : List Value → Option (List Int)
  | [] => some []
  | .int k' n :: vs => match decide (k' = k) with
    | true => match numsOf k vs with
      | some l => some (n :: l)
      | none => none
    | false => none
  | _ => none
theorem numsOf_eq {k : IntKind} : ∀ {vs : List Value} {l : List Int}, numsOf k vs = some l → vs = l.map (Value.int k)
  | [], l, h => by simp [numsOf] at h; subst h; rfl
  | v :: vs, l, h => by
    cases v <;> (try (simp [numsOf] at h; done))
    simp only [numsOf] at h
    split at h
    · rename_i hk
      simp at hk
      subst hk
      split at h
      · rename_i l' hl
        cases h
        rw [numsOf_eq hl]
        rfl
      · cases h
    · cases h

noncomputable def dblCon : Con := fun f args hp =>
  match con f args hp with
  | some E => some E
  | none => match decide (f = 19) with
    | true => match args with
      | [.agg ⟨vs⟩] => match numsOf .u32 vs with
        | some l => match decide (l.length = 16) with
          | true => some ⟨.agg ⟨(step16 l).map (Value.int .u32)⟩, [], []⟩
          | false => none
        | none => none
      | _ => none
    | false => none

theorem nums_ok {k : IntKind} {D : Nat → Prop} {l : List Int} (h : Vok D (.agg ⟨l.map (Value.int k)⟩)) : ∀ n ∈ l, k.min ≤ n ∧ n ≤ k.max := by
  cases h
  rename_i hc
  intro n hn
  have := hc (.int k n) (by simp; exact hn)
  cases this
  assumption
theorem nums_flat {k : IntKind} {l : List Int} (h : ∀ n ∈ l, k.min ≤ n ∧ n ≤ k.max) : Flat (.agg ⟨l.map (Value.int k)⟩) := by
  refine .agg fun v hv => ?_
  simp at hv
  obtain ⟨n, hn, rfl⟩ := hv
  exact .int (h n hn)

theorem turnAt_all {x : List Int} (h : ∀ n ∈ x, U32 n) (i j k l : Nat) : ∀ n ∈ turnAt x i j k l, U32 n := AllU.turn h i j k l
theorem doubleL_all {x : List Int} (h : ∀ n ∈ x, U32 n) : ∀ n ∈ doubleL x, U32 n :=
  turnAt_all (turnAt_all (turnAt_all (turnAt_all (turnAt_all (turnAt_all (turnAt_all (turnAt_all h _ _ _ _) _ _ _ _) _ _ _ _) _ _ _ _) _ _ _ _) _ _ _ _) _ _ _ _) _ _ _ _
theorem dbl_u {x : List Int} (h : ∀ n ∈ x, U32 n) (i : Nat) : U32 (dbl x i) := by
  unfold dbl
  exact AllU.get (doubleL_all h) i
theorem step16_eq (x : List Int) : step16 x = (List.range 16).map (dbl x) := rfl
theorem step16_all {x : List Int} (h : ∀ n ∈ x, U32 n) : ∀ n ∈ step16 x, U32 n := by
  intro n hn
  rw [step16_eq, List.mem_map] at hn
  obtain ⟨i, _, rfl⟩ := hn
  exact dbl_u h i

theorem double_run (x0 x1 x2 x3 x4 x5 x6 x7 x8 x9 x10 x11 x12 x13 x14 x15 : Int) :
    (callFn cx (exec cx 1000) 19 [.agg ⟨[.int .u32 x0, .int .u32 x1, .int .u32 x2, .int .u32 x3, .int .u32 x4, .int .u32 x5, .int .u32 x6, .int .u32 x7, .int .u32 x8, .int .u32 x9, .int .u32 x10, .int .u32 x11, .int .u32 x12, .int .u32 x13, .int .u32 x14, .int .u32 x15]⟩] []).map (fun p => (p.1.val, p.2)) =
      some (.agg ⟨(step16 [x0, x1, x2, x3, x4, x5, x6, x7, x8, x9, x10, x11, x12, x13, x14, x15]).map (Value.int .u32)⟩, []) := by
  kernel_rfl

theorem double_calls (l : List Int) (hl : l.length = 16) (hu : ∀ n ∈ l, U32 n) (w : World) :
    Calls Try.prog 19 #[.agg ⟨l.map (Value.int .u32)⟩] w fun e w' => e = .returned (.agg ⟨(step16 l).map (Value.int .u32)⟩) ∧ RowKit.Below w.heap.size w w' := by
  match l, hl, hu with
  | [x0, x1, x2, x3, x4, x5, x6, x7, x8, x9, x10, x11, x12, x13, x14, x15], _, hu =>
    refine below_of_run (cx := cx) rfl cx_ok 1000 (double_run x0 x1 x2 x3 x4 x5 x6 x7 x8 x9 x10 x11 x12 x13 x14 x15) (fun p hp => by cases hp) (fun v hv => ?_) (nums_flat fun n hn => u32_in (step16_all hu n hn)) w
    rw [List.mem_singleton] at hv
    subst hv
    exact nums_flat (l := [x0, x1, x2, x3, x4, x5, x6, x7, x8, x9, x10, x11, x12, x13, x14, x15]) fun n hn => u32_in (hu n hn)

theorem dblCon_sound : ∀ f args hp E, dblCon f args hp = some E → CallSound Try.prog f args hp E := by
  intro f args hp E h
  unfold dblCon at h
  split at h
  · rename_i E' hE
    cases h
    exact con_sound f args hp E hE
  · split at h
    · rename_i hf
      simp only [decide_eq_true_eq] at hf
      subst hf
      split at h
      · rename_i vs
        split at h
        · rename_i l hl
          split at h
          · rename_i hlen
            simp only [decide_eq_true_eq] at hlen
            cases h
            have hvs := numsOf_eq hl
            subst hvs
            have hu : ∀ {D : Nat → Prop}, (∀ v ∈ [Value.agg ⟨l.map (Value.int .u32)⟩], Vok D v) → ∀ n ∈ l, U32 n := fun hD n hn => in_u32 (nums_ok (hD _ (List.mem_singleton.2 rfl)) n hn)
            refine sound_of_below (enter_of Try.func19 (by decide +kernel) (by decide +kernel)) (fun hfl => nums_flat fun n hn => u32_in (step16_all (hu hfl) n hn)) (fun D hD v hv => ?_) (fun hfl w => double_calls l hlen (hu hfl) w) hp
            rw [List.mem_singleton] at hv
            subst hv
            exact nums_flat fun n hn => u32_in (hu hD n hn)
          · cases h
        · cases h
      · cases h
    · cases h

noncomputable def cxD : Ctx := ⟨Try.prog, fns, dblCon, []⟩
theorem cxD_ok : CtxOk cxD := by
  refine ⟨by decide +kernel, fun f fn h => ?_, dblCon_sound⟩
  obtain ⟨h1, h2, h3⟩ := fns_ok _ (findFn_mem h)
  exact fn_ok h1 h2 h3
end Go.Proofs.Yteichdiioidlcaa.SxCha
