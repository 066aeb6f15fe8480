/-
Shadow runs: a run of the program over small names of blocks, in the order of its text, computed by the kernel, and the theorem that what it says holds of the model whatever order is drawn, whatever numbers the blocks have, whatever room append leaves (second part: the runs).
-/
import Derived.Test.YteichdiioidlcaaSy
import Derived.LoopN
import Derived.Scope
import Derived.Below

/-
Shadow runs: the run of a function's text over names, in the text's order.
-/
namespace Go.Sx
open Go
set_option linter.unusedVariables false
set_option linter.unusedSimpArgs false
set_option linter.unusedSectionVars false
variable [Globs]

abbrev Obl := List (Value × Value)

structure St where
  tmps : List Value
  heap : Hp
  dirty : List Nat
  obl : Obl

def St.gs (s : St) : GS
  | .tm t => s.tmps[t]?
  | .bk b => s.heap.get b

def St.upd (s : St) : Upd → Option St
  | .tm t v => match decide (t < s.tmps.length) with
    | true => some { s with tmps := s.tmps.set t v }
    | false => none
  | .bk b o => match decide (b < s.heap.length) with
    | true => match s.heap.get b with
      | some _ => some { s with heap := s.heap.set b o, dirty := b :: s.dirty }
      | none => none
    | false => match decide (b = s.heap.length) with
      | true => some { s with heap := s.heap ++ [o] }
      | false => none

def St.upds (s : St) : List Upd → Option St
  | [] => some s
  | u :: us => match s.upd u with
    | none => none
    | some s' => s'.upds us

theorem St.upd_gs {s s' : St} {u : Upd} (h : s.upd u = some s') : s'.gs = u.app s.gs := by
  unfold St.upd at h
  split at h
  · rename_i t v
    split at h
    · rename_i hl
      simp at hl
      cases h
      funext l
      cases l with
      | tm k =>
        simp only [St.gs, Upd.app, List.getElem?_set]
        by_cases hk : t = k
        · subst hk; simp [hl]
        · simp [hk, Ne.symm hk]
      | bk b => rfl
    · cases h
  · rename_i b o
    split at h
    · rename_i hl
      simp at hl
      split at h
      · cases h
        funext l
        cases l with
        | tm k => rfl
        | bk c =>
          simp only [St.gs, Upd.app, Hp.get, List.getD_eq_getElem?_getD, List.getElem?_set]
          by_cases hc : b = c
          · subst hc; simp [hl]
          · simp [hc, Ne.symm hc]
      · cases h
    · split at h
      · rename_i hl hb
        simp at hb
        cases h
        funext l
        cases l with
        | tm k => rfl
        | bk c =>
          simp only [St.gs, Upd.app, Hp.get, List.getD_eq_getElem?_getD]
          by_cases hc : c = b
          · subst hc; subst hb; simp
          · rw [if_neg hc]
            rcases Nat.lt_or_ge c s.heap.length with h' | h'
            · simp [List.getElem?_append, h']
            · have h1 : s.heap[c]? = none := List.getElem?_eq_none h'
              have h2 : (s.heap ++ [o])[c]? = none := by
                apply List.getElem?_eq_none
                rw [List.length_append, List.length_singleton]
                omega
              rw [h1, h2]
      · cases h

theorem St.upds_gs : ∀ {us : List Upd} {s s' : St}, s.upds us = some s' → s'.gs = apps us s.gs
  | [], s, s', h => by simp [St.upds] at h; subst h; rfl
  | u :: us, s, s', h => by
    simp only [St.upds] at h
    split at h
    · cases h
    · rename_i s1 h1
      rw [St.upds_gs h, St.upd_gs h1]
      rfl

/-- A contract: what a function does with arguments, over blocks that are known. -/
abbrev Con := Nat → List Value → Hp → Option Eff
abbrev CallFn := Nat → List Value → Hp → Option (Eff × Obl)

structure Ctx where
  P : Program
  T : List (Nat × Func)
  C : Con
  H : List (Nat × Nat × Value)

def hintOf : List (Nat × Nat × Value) → Nat → Nat → Option Value
  | [], _, _ => none
  | (f, d, v) :: rest, g, e => match Nat.beq f g && Nat.beq d e with
    | true => some v
    | false => hintOf rest g e

def evalOp (cx : Ctx) (tmps : List Value) : Operand → Option Value
  | .tmp t => tmps[t]?
  | .const v => match constOk v with
    | true => some v
    | false => none
  | .global g => match look Globs.G g with
    | some b => some (.pointer (some ⟨b, 0, none⟩))
    | none => none
  | .func f => some (.func (.func f) #[] #[])

def callArgs (ev : Operand → Option Value) (c : Call) : Option (Nat × List Value) :=
  match c.callee with
  | .value f => match ev f with
    | some (.func (.func fid) first captured) => match evs ev c.args.toList with
      | some args => some (fid, first.toList ++ (args ++ captured.toList))
      | none => none
    | _ => none
  | _ => none

def callOp (call : CallFn) (ev : Operand → Option Value) (hp : Hp) : Op → Option (Eff × Obl)
  | .call c => match callArgs ev c with
    | some (f, args) => call f args hp
    | none => none
  | _ => none

def effOf (cx : Ctx) (call : CallFn) (ev : Operand → Option Value) (hp : Hp) (op : Op) : Option (Eff × Obl) :=
  match valOp cx.P ev op with
  | some v => some (⟨v, [], []⟩, [])
  | none => match memOp cx.P ev hp op with
    | some E => some (E, [])
    | none => callOp call ev hp op

def guardTmp (ops : List Oper) (o : Oper) : Option (Nat × Bool) :=
  match o.guard with
  | none => none
  | some (j, want) => match ops[j]? with
    | some oj => match oj.dst with
      | some t => some (t, want)
      | none => none
    | none => none

/-- Is the operation carried out? -/
def wantedB (ops : List Oper) (tmps : List Value) (o : Oper) : Option Bool :=
  match o.guard with
  | none => some true
  | some (j, want) => match ops[j]? with
    | some oj => match oj.dst with
      | some t => match tmps[t]? with
        | some (.bool b) => some (match b, want with | true, true => true | false, false => true | _, _ => false)
        | some _ => some false
        | none => none
      | none => none
    | none => none

def tmpsOf : List Operand → List Loc
  | [] => []
  | .tmp t :: xs => .tm t :: tmpsOf xs
  | _ :: xs => tmpsOf xs

def dstUpd (dst : Option Nat) (v : Value) : List Upd :=
  match dst with
  | some d => [.tm d v]
  | none => []
def dstLoc (dst : Option Nat) : List Loc :=
  match dst with
  | some d => [.tm d]
  | none => []
def guardLoc (ops : List Oper) (o : Oper) : List Loc :=
  match guardTmp ops o with
  | some (t, _) => [.tm t]
  | none => []

def hinted (cx : Ctx) (f : Nat) (dst : Option Nat) (v : Value) : Value × Obl :=
  match dst with
  | some d => match hintOf cx.H f d with
    | some v' => (v', [(v, v')])
    | none => (v, [])
  | none => (v, [])

def readsOk (hp : Hp) : List Nat → Bool
  | [] => true
  | b :: bs => match hp.get b with
    | some _ => readsOk hp bs
    | none => false

def stepOp (cx : Ctx) (f : Nat) (call : CallFn) (ops : List Oper) (s : St) (o : Oper) : Option (Rec × St) :=
  match wantedB ops s.tmps o with
  | none => none
  | some false => match s.upds (dstUpd o.dst undef) with
    | some s' => some (⟨guardLoc ops o ++ dstLoc o.dst, dstUpd o.dst undef, s.heap.length, s.heap.length⟩, s')
    | none => none
  | some true => match effOf cx call (evalOp cx s.tmps) s.heap o.op with
    | none => none
    | some (E, ob) => match hinted cx f o.dst E.val with
      | (v, ob') => match s.upds (E.us ++ dstUpd o.dst v) with
        | none => none
        | some s' => match decide (s'.heap.length = E.hi s.heap.length) && readsOk s.heap E.reads with
          | true => some (⟨guardLoc ops o ++ (dstLoc o.dst ++ (tmpsOf o.op.operands.toList ++ E.reads.map .bk)), E.us ++ dstUpd o.dst v, s.heap.length, s'.heap.length⟩, { s' with obl := ob' ++ (ob ++ s'.obl) })
          | false => none

def runOps (cx : Ctx) (f : Nat) (call : CallFn) (ops : List Oper) : List Oper → St → Option (List Rec × St)
  | [], s => some ([], s)
  | o :: os, s => match stepOp cx f call ops s o with
    | none => none
    | some (R, s') => match runOps cx f call ops os s' with
      | none => none
      | some (Rs, s'') => some (R :: Rs, s'')

/-! which operations stand ahead of which -/
def edgeMask (masks : List Nat) : List Edge → Nat
  | [] => 0
  | e :: es => match Region.binds .any e with
    | true => (2 ^ e.on ||| masks.getD e.on 0) ||| edgeMask masks es
    | false => edgeMask masks es
def maskAll : List Oper → List Nat → List Nat
  | [], acc => acc
  | o :: os, acc => maskAll os (acc ++ [edgeMask acc o.after.toList])
def backB : List Oper → Nat → Bool
  | [], _ => true
  | o :: os, i => (o.after.toList.all fun e => !Region.binds .any e || Nat.blt e.on i) && backB os (i + 1)

def Loc.eqB : Loc → Loc → Bool
  | .tm a, .tm b => Nat.beq a b
  | .bk a, .bk b => Nat.beq a b
  | _, _ => false
def noneIn (us : List Upd) (ls : List Loc) : Bool := us.all fun u => ls.all fun l => !Loc.eqB u.loc l
def apartB (R S : Rec) : Bool := noneIn R.upds S.reads && noneIn R.upds (S.upds.map Upd.loc) && noneIn S.upds R.reads

def apartOne (S : Rec) (mask : Nat) : List Rec → Nat → Bool
  | [], _ => true
  | R :: Rs, i => (Nat.testBit mask i || apartB R S) && apartOne S mask Rs (i + 1)
def apartAll (masks : List Nat) : List Rec → List Rec → Bool
  | _, [] => true
  | before, S :: rest => apartOne S (masks.getD before.length 0) before 0 && apartAll masks (before ++ [S]) rest

def runRegion (cx : Ctx) (f : Nat) (call : CallFn) (ops : Array Oper) (draw : Bool) (s : St) : Option St :=
  match runOps cx f call ops.toList ops.toList s with
  | none => none
  | some (Rs, s') => match draw with
    | false => some s'
    | true => match backB ops.toList 0 && apartAll (maskAll ops.toList []) [] Rs with
      | true => some s'
      | false => none

inductive Ex where
  | normal
  | exit (id : Nat)
  | ret

/-! blocks that arguments reach -/
def addrsOf : Value → List Nat
  | .pointer (some a) => [a.block]
  | .slice (some a) _ _ => [a.block]
  | .agg cs => cs.toList.flatMap fun | .pointer (some a) => [a.block] | .slice (some a) _ _ => [a.block] | _ => []
  | .func _ a b => (a.toList ++ b.toList).flatMap fun | .pointer (some a) => [a.block] | .slice (some a) _ _ => [a.block] | _ => []
  | _ => []
def memB : List Nat → Nat → Bool
  | [], _ => false
  | a :: l, b => match Nat.beq a b with | true => true | false => memB l b
def reachFrom (hp : Hp) : Nat → List Nat → List Nat → List Nat
  | 0, _, acc => acc
  | _, [], acc => acc
  | n + 1, b :: bs, acc => match memB acc b with
    | true => reachFrom hp n bs acc
    | false => match hp.get b with
      | none => reachFrom hp n bs acc
      | some ob => reachFrom hp n (ob.cells.flatMap addrsOf ++ bs) (b :: acc)
def restrict (keep : List Nat) : Hp → Nat → Hp
  | [], _ => []
  | o :: os, i => (match memB keep i with | true => o | false => none) :: restrict keep os (i + 1)

def resVals (cx : Ctx) (s : St) : List ResultVar → Option (List Value)
  | [] => some []
  | .tmp t :: rs => match s.tmps[t]? with
    | none => none
    | some v => match resVals cx s rs with
      | none => none
      | some vs => some (v :: vs)
  | .cell a t :: rs => match s.tmps[a]? with
    | some (.pointer (some ad)) => match cx.P.underlying t with
      | none => none
      | some d => match (match aggD d with
          | true => (rowAt s.heap ad.block ad.off (cx.P.cellsOf t)).map fun cs => Value.agg ⟨cs⟩
          | false => match rowAt s.heap ad.block ad.off 1 with | some [v] => some v | _ => none) with
        | none => none
        | some v => match resVals cx s rs with
          | none => none
          | some vs => some (v :: vs)
    | _ => none
def resVal (vs : List Value) : Value := match vs with | [v] => v | vs => .tuple ⟨vs⟩

/-- The blocks that a call changed, made or forgot. -/
def changed (dirty : List Nat) (n : Nat) : Hp → Nat → List (Nat × Option SObj)
  | [], _ => []
  | o :: os, i => match decide (i < n) with
    | true => match memB dirty i with
      | true => (i, o) :: changed dirty n os (i + 1)
      | false => changed dirty n os (i + 1)
    | false => (i, o) :: changed dirty n os (i + 1)
def known : Hp → Nat → List Nat
  | [], _ => []
  | o :: os, i => match o with
    | some _ => i :: known os (i + 1)
    | none => known os (i + 1)

def findFn : List (Nat × Func) → Nat → Option Func
  | [], _ => none
  | (g, fn) :: rest, f => match Nat.beq g f with
    | true => some fn
    | false => findFn rest f

def callFn (cx : Ctx) (ex : Nat → Code → St → Option (Ex × St)) : CallFn := fun f args hp =>
  match cx.C f args hp with
  | some E => some (E, [])
  | none => match findFn cx.T f with
    | none => none
    | some fn => match fn.body with
      | none => none
      | some c => match restrict (Globs.G.map (·.2) ++ reachFrom hp 10000 (args.flatMap addrsOf) []) hp 0 with
        | hp0 => match ex f c ⟨args ++ List.replicate (fn.ntmps - args.length) undef, hp0, [], []⟩ with
          | some (.exit _, _) => none
          | none => none
          | some (_, s) => match resVals cx s fn.results.toList with
            | none => none
            | some vs => some (⟨resVal vs, known hp0 0, changed s.dirty hp.length s.heap 0⟩, s.obl)

def exec (cx : Ctx) : Nat → Nat → Code → St → Option (Ex × St)
  | 0, _, _, _ => none
  | n + 1, f, c, s => match c with
    | .skip => some (.normal, s)
    | .region _ ops draw => match runRegion cx f (callFn cx (exec cx n)) ops draw s with
      | some s' => some (.normal, s')
      | none => none
    | .seq a b => match exec cx n f a s with
      | some (.normal, s') => exec cx n f b s'
      | r => r
    | .cond c a b => match evalOp cx s.tmps c with
      | some (.bool true) => exec cx n f a s
      | some (.bool false) => exec cx n f b s
      | _ => none
    | .block id c => match exec cx n f c s with
      | some (.exit id', s') => match Nat.beq id' id with
        | true => some (.normal, s')
        | false => some (.exit id', s')
      | r => r
    | .loop c => match exec cx n f c s with
      | some (.normal, s') => exec cx n f (.loop c) s'
      | r => r
    | .exit id => some (.exit id, s)
    | .label _ => some (.normal, s)
    | .scope c => exec cx n f c s
    | .ret => some (.ret, s)
    | _ => none
end Go.Sx

/-
Shadow runs: one operation, and a region, hold of the real world.
-/
namespace Go.Sx
open Go
set_option linter.unusedVariables false
set_option linter.unusedSimpArgs false
set_option linter.unusedSectionVars false
variable [Globs]

theorem effApp_tm (E : Eff) (g : GS) (t : Nat) : apps E.us g (.tm t) = g (.tm t) :=
  apps_other (fun u hu => by
    simp only [Eff.us, List.mem_map] at hu
    obtain ⟨p, _, rfl⟩ := hu
    simp [Upd.loc]) g

theorem apps_append (us vs : List Upd) (g : GS) : apps (us ++ vs) g = apps vs (apps us g) := by
  simp [apps, List.foldl_append]

/-- What a call of a function does, from every world that has the blocks that the effect reads. -/
def CallSound (P : Program) (f : Nat) (args : List Value) (hp : Hp) (E : Eff) : Prop :=
  (∀ (vs : Array Value) (w : World), (callFunc f vs).run P w = .ok (.enter f vs) w) ∧
  ∀ (D : Nat → Prop) (r : Ren) (g : GS) (w : World), (∀ b ∈ E.reads, g (.bk b) = hp.get b) → (∀ b, hp.length ≤ b → b < E.hi hp.length → ¬ D b) → CRel P D r g w → (∀ v ∈ args, Vok D v) →
    Calls P f (args.map (ren r)).toArray w fun e w' => ∃ r', e = .returned (ren r' E.val) ∧ CRel P (In hp.length (E.hi hp.length) D) r' (apps E.us g) w' ∧ Ext D r g w r' (apps E.us g) w' ∧ Vok (In hp.length (E.hi hp.length) D) E.val

def GlobOk (r : Ren) (D : Nat → Prop) : Prop := ∀ g b, look Globs.G g = some b → (r.blk b = g ∧ r.sh b = 0) ∧ D b

section
variable {cx : Ctx}

theorem callArgs_sound {D : Nat → Prop} {r : Ren} {ev : Operand → Option Value} {ea : Operand → Value} {c : Call} {f : Nat} {args : List Value} (h : callArgs ev c = some (f, args)) (he : EvOk D r ev ea (Op.call c).operands.toList) {P : Program} {w : World} {type : TypeId}
    (hcall : ∀ (vs : Array Value) (w : World), (callFunc f vs).run P w = .ok (.enter f vs) w) :
    (do let d ← resolve ea c type; invoke d.target d.args : Sem Next).run P w = .ok (.enter f (args.map (ren r)).toArray) w ∧ ∀ v ∈ args, Vok D v := by
  obtain ⟨callee, as, ats⟩ := c
  unfold callArgs at h
  split at h
  · rename_i fo hcal
    simp only at hcal
    subst hcal
    split at h
    · rename_i fid first captured hf
      split at h
      · rename_i vs hvs
        cases h
        obtain ⟨k1, k2⟩ := he fo (by simp [Op.operands, Call.operands]) _ hf
        obtain ⟨k3, k4⟩ := evs_sound (D := D) (r := r) (ea := ea) (fun y hy => he y (by simp [Op.operands, Call.operands] at hy ⊢; exact .inr hy)) hvs
        cases k2
        rename_i q1 q2
        have has : (as.map ea) = (vs.map (ren r)).toArray := by apply Array.ext'; simpa using k3
        refine ⟨?_, fun v hv => ?_⟩
        · simp only [resolve, k1, ren_func, Deferred.ofValue, Sem.run_bind, Sem.run_pure, Result.andThen_ok, invoke, has, hcall]
          congr 2
          apply Array.ext'
          simp
        · rcases List.mem_append.1 hv with hv | hv
          · exact q1 v (by simpa using hv)
          · rcases List.mem_append.1 hv with hv | hv
            · exact k4 v hv
            · exact q2 v (by simpa using hv)
      · cases h
    · cases h
  · cases h

theorem effOf_sound {call : CallFn} {ev : Operand → Option Value} {hp : Hp} {o : Oper} {E : Eff} {ob : Obl} (hcalls : ∀ f args E ob, call f args hp = some (E, ob) → (∀ p ∈ ob, p.1 = p.2) → CallSound cx.P f args hp E)
    (h : effOf cx call ev hp o.op = some (E, ob)) (hob : ∀ p ∈ ob, p.1 = p.2) : OpSound cx.P o ev hp (E.hi hp.length) E := by
  unfold effOf at h
  split at h
  · rename_i v hv
    cases h
    rw [hi_none]
    exact valOp_op hv
  · split at h
    · rename_i E' hE
      cases h
      exact memOp_op hE
    · generalize hop : o.op = op at h
      unfold callOp at h
      split at h
      · rename_i c
        split at h
        · rename_i f args hargs
          obtain ⟨h1, h2⟩ := hcalls f args E ob h hob
          intro D r g a w K Q hrd hfr hc he hk
          rw [hop] at he
          obtain ⟨k1, k2⟩ := callArgs_sound (P := cx.P) (w := w) (type := o.type) hargs he h1
          have hrun : (execOp a.eval o).run cx.P w = .ok (.enter f (args.map (ren r)).toArray) w := by
            obtain ⟨dst, op', type, pos, after, guard⟩ := o
            simp only at hop
            subst hop
            exact k1
          simp only [Oper.wp, hrun, Oper.upon]
          refine (h2 D r g w hrd hfr hc k2).mono fun e w' he' => ?_
          obtain ⟨r', rfl, c1, c2, c3⟩ := he'
          exact hk r' w' c1 c2 c3
        · cases h
      · cases h

theorem wanted_sound {ops : Array Oper} {o : Oper} {s : St} {D : Nat → Prop} {r : Ren} {g : GS} {a : Act} {t : Bool} (h : wantedB ops.toList s.tmps o = some t) (hg : ∀ l ∈ guardLoc ops.toList o, g l = s.gs l) (ht : TRel D r g a) :
    Region.wanted o (yielded ops a.tmps) = t := by
  unfold wantedB at h
  unfold Region.wanted
  split at h
  · rename_i hgd
    cases h
    rw [hgd]
  · rename_i j want hgd
    rw [hgd]
    split at h
    · rename_i oj hoj
      split at h
      · rename_i d hd
        have hloc : g (.tm d) = s.gs (.tm d) := by
          refine hg _ ?_
          simp [guardLoc, guardTmp, hgd, hoj, hd]
        have hoj' : ops[j]? = some oj := by simpa using hoj
        split at h
        · rename_i b hb
          cases h
          have h1 : g (.tm d) = some (.bool b) := by rw [hloc]; exact hb
          have h2 := ht.tmp d _ h1
          have hy : yielded ops a.tmps j = some b := by
            unfold yielded
            simp [hoj', hd, h2]
          simp only [hy]
          cases b <;> cases want <;> rfl
        · rename_i v hnb hv
          cases h
          have h1 : g (.tm d) = some v := by rw [hloc]; exact hv
          have h2 := ht.tmp d _ h1
          have h3 := ht.ok d _ h1
          have hy : yielded ops a.tmps j = none := by
            unfold yielded
            simp only [hoj', hd, h2, Option.bind_some]
            cases h3 with
            | bool b => exact absurd rfl (hnb b)
            | _ => simp
          simp [hy]
        · cases h
      · cases h
    · cases h

theorem evalOp_sound {xs : List Operand} {s : St} {D : Nat → Prop} {r : Ren} {g : GS} {a : Act} (hg : ∀ l ∈ tmpsOf xs, g l = s.gs l) (ht : TRel D r g a) (hgl : GlobOk r D) : EvOk D r (evalOp cx s.tmps) a.eval xs := by
  intro x hx v hv
  unfold evalOp at hv
  split at hv
  · rename_i t
    have hmem : ∀ (xs : List Operand), Operand.tmp t ∈ xs → Loc.tm t ∈ tmpsOf xs := by
      intro xs
      induction xs with
      | nil => intro h; cases h
      | cons y ys ih =>
        intro hm
        rcases List.mem_cons.1 hm with hm | hm
        · subst hm; simp [tmpsOf]
        · have := ih hm
          cases y <;> simp [tmpsOf, this]
    have h1 : g (.tm t) = some v := by rw [hg _ (hmem xs hx)]; exact hv
    have h2 := ht.tmp t v h1
    exact ⟨by simp [Act.eval, h2], ht.ok t v h1⟩
  · split at hv
    · rename_i hc
      cases hv
      obtain ⟨k1, k2⟩ := const_ok (D := D) hc
      exact ⟨(k2 r).symm, k1⟩
    · cases hv
  · split at hv
    · rename_i gl b hb
      cases hv
      obtain ⟨⟨q1, q0⟩, q2⟩ := hgl _ _ hb
      exact ⟨by simp [Act.eval, q1, q0], .ptr q2⟩
    · cases hv
  · cases hv
    exact ⟨by simp [Act.eval], .func (by simp) (by simp)⟩

theorem trel_put {D D' : Nat → Prop} {r r' : Ren} {g : GS} {a : Act} {E : Eff} {dst : Option Nat} {v : Value} (ht : TRel D r g a) (hag : ∀ b, D b → Agree r r' b) (hd : ∀ b, D b → D' b) (hv : Vok D' v)
    (hdst : ∀ d, dst = some d → ∃ u, g (.tm d) = some u) : TRel D' r' (apps (E.us ++ dstUpd dst v) g) (a.put dst (ren r' v)) := by
  have htm : ∀ t, apps (E.us ++ dstUpd dst v) g (.tm t) = if dst = some t then some v else g (.tm t) := by
    intro t
    rw [apps_append]
    cases dst with
    | none => simp [dstUpd, apps]; exact effApp_tm E g t
    | some d =>
      simp only [dstUpd, apps, List.foldl_cons, List.foldl_nil, app_tm]
      by_cases htd : t = d
      · subst htd; simp
      · rw [if_neg htd, if_neg (by simp; exact fun e => htd e.symm)]
        exact effApp_tm E g t
  have hput : ∀ t, (a.put dst (ren r' v)).tmps[t]? = if dst = some t then (if t < a.tmps.size then some (ren r' v) else none) else a.tmps[t]? := by
    intro t
    cases dst with
    | none => simp [Act.put]
    | some d =>
      simp only [Act.put, Array.getElem?_setIfInBounds, Option.some.injEq]
      by_cases htd : d = t
      · subst htd
        simp
      · simp [htd]
  refine ⟨?_, fun t u hu => ?_, fun t hu => ?_, fun t u hu => ?_⟩
  · cases dst <;> simp [Act.put, ht.defers]
  · rw [htm] at hu
    rw [hput]
    split at hu
    · rename_i hdt
      cases hu
      obtain ⟨u', hu'⟩ := hdst t hdt
      have := ht.tmp t u' hu'
      have hlt := (Array.getElem?_eq_some_iff.1 this).1
      simp [hdt, hlt]
    · rename_i hdt
      rw [if_neg hdt, ren_congr hag (ht.ok t u hu)]
      exact ht.tmp t u hu
  · rw [htm] at hu
    rw [hput]
    split at hu
    · cases hu
    · rename_i hdt
      rw [if_neg hdt]
      exact ht.none t hu
  · rw [htm] at hu
    split at hu
    · cases hu; exact hv
    · exact (ht.ok t u hu).mono hd

theorem crel_tm {P : Program} {D : Nat → Prop} {r : Ren} {g g' : GS} {w : World} (h : CRel P D r g w) (he : ∀ b, g' (.bk b) = g (.bk b)) : CRel P D r g' w :=
  ⟨fun b ob hb => h.blk b ob (by rw [← he]; exact hb), fun b ob hb => h.dom b ob (by rw [← he]; exact hb), fun b ob hb => h.ok b ob (by rw [← he]; exact hb), fun b b' ob ob' hb hb' => h.inj b b' ob ob' (by rw [← he]; exact hb) (by rw [← he]; exact hb'), h.glob⟩
theorem ext_tm {D : Nat → Prop} {r r' : Ren} {g g1 g2 : GS} {w w' : World} (h : Ext D r g w r' g1 w') (he : ∀ b, g2 (.bk b) = g1 (.bk b)) : Ext D r g w r' g2 w' :=
  ⟨h.agree, fun b ob hb => h.new b ob (by rw [← he]; exact hb), h.frame, h.size, h.os, h.tape, h.output⟩
theorem apps_dst_bk (E : Eff) (dst : Option Nat) (v : Value) (g : GS) (b : Nat) : apps (E.us ++ dstUpd dst v) g (.bk b) = apps E.us g (.bk b) := by
  rw [apps_append]
  cases dst <;> simp [dstUpd, apps, app_tm_bk]

theorem stepOp_sound {f : Nat} {call : CallFn} {ops : Array Oper} {s s' : St} {o : Oper} {R : Rec} {i : Nat} {Q : Exit → Act → World → Prop} (hi : ops[i]? = some o)
    (hcalls : ∀ f args E ob, call f args s.heap = some (E, ob) → (∀ p ∈ ob, p.1 = p.2) → CallSound cx.P f args s.heap E)
    (h : stepOp cx f call ops.toList s o = some (R, s')) (hob : ∀ p ∈ s'.obl, p.1 = p.2) {h' : GS} (hg : ∀ l ∈ R.reads, h' l = s.gs l) : Sound1 cx.P ops Q i R h' := by
  unfold stepOp at h
  split at h
  · cases h
  · -- not carried out
    rename_i hw
    split at h
    · rename_i s1 h1
      cases h
      intro D r a w K hfr hrel hk
      have hwant := wanted_sound hw (fun l hl => hg l (List.mem_append_left _ hl)) hrel.t
      unfold wpOp
      rw [hi]
      simp only [hwant, Bool.false_eq_true, if_false]
      have hdst : ∀ d, o.dst = some d → ∃ u, h' (.tm d) = some u := by
        intro d hd
        have h2 := hg (.tm d) (List.mem_append_right _ (by simp [dstLoc, hd]))
        rw [h2]
        simp only [hd, dstUpd, St.upds, St.upd] at h1
        split at h1
        · cases h1
        · rename_i s2 hs2
          split at hs2
          · rename_i hlt
            simp at hlt
            exact ⟨s.tmps[d], by simp [St.gs, hlt]⟩
          · cases hs2
      have hE : (dstUpd o.dst undef) = (Eff.us ⟨undef, [], []⟩) ++ dstUpd o.dst undef := rfl
      have := trel_put (E := ⟨undef, [], []⟩) (v := undef) (D' := fun b => D b ∨ (s.heap.length ≤ b ∧ b < s.heap.length)) (r' := r) hrel.t (fun _ _ => Agree.refl _ _) (fun b hb => .inl hb) (.tuple (by simp)) hdst
      have e : ren r undef = undef := by simp [undef]
      rw [e] at this
      refine hk r _ w ⟨crel_tm (hrel.c.weaken fun b hb => .inl hb) (fun b => ?_), this⟩ (ext_tm (Ext.refl (P := cx.P)) (fun b => ?_))
      · exact apps_dst_bk ⟨undef, [], []⟩ o.dst undef h' b
      · exact apps_dst_bk ⟨undef, [], []⟩ o.dst undef h' b
    · cases h
  · rename_i hw
    split at h
    · cases h
    · rename_i E ob hE
      split at h
      · rename_i v ob' hv
        split at h
        · cases h
        · rename_i s1 h1
          split at h
          · rename_i hhi
            simp at hhi
            obtain ⟨hhi, hrok⟩ := hhi
            cases h
            simp only at hob hg
            have hob1 : ∀ p ∈ ob, p.1 = p.2 := fun p hp => hob p (by simp [hp])
            have hob2 : ∀ p ∈ ob', p.1 = p.2 := fun p hp => hob p (by simp [hp])
            have hval : E.val = v := by
              unfold hinted at hv
              split at hv
              · split at hv
                · cases hv; exact hob2 _ (List.mem_singleton.2 rfl)
                · cases hv; rfl
              · cases hv; rfl
            intro D r a w K hfr hrel hk
            have hwant := wanted_sound hw (fun l hl => hg l (List.mem_append_left _ hl)) hrel.t
            unfold wpOp
            rw [hi]
            simp only [hwant, if_true]
            left
            have hsound := effOf_sound (cx := cx) hcalls hE hob1
            have hglob' : GlobOk r D := hrel.c.glob
            have hdst : ∀ d, o.dst = some d → ∃ u, h' (.tm d) = some u := by
              intro d hd
              have h2 := hg (.tm d) (List.mem_append_right _ (List.mem_append_left _ (by simp [dstLoc, hd])))
              rw [h2]
              have hlen : ∀ (us : List Upd) (s s' : St), s.upds us = some s' → s'.tmps.length = s.tmps.length := by
                intro us
                induction us with
                | nil => intro s s' h; simp [St.upds] at h; rw [h]
                | cons u us ih =>
                  intro s s' h
                  simp only [St.upds] at h
                  split at h
                  · cases h
                  · rename_i s2 hs2
                    rw [ih s2 s' h]
                    unfold St.upd at hs2
                    split at hs2
                    · split at hs2
                      · cases hs2; simp
                      · cases hs2
                    · split at hs2
                      · split at hs2
                        · cases hs2; rfl
                        · cases hs2
                      · split at hs2
                        · cases hs2; rfl
                        · cases hs2
              have hupd : ∀ (us : List Upd) (s s' : St), s.upds (us ++ [.tm d v]) = some s' → d < s.tmps.length := by
                intro us
                induction us with
                | nil =>
                  intro s s' h
                  simp only [List.nil_append, St.upds, St.upd] at h
                  split at h
                  · cases h
                  · rename_i s2 hs2
                    split at hs2
                    · rename_i hlt; simpa using hlt
                    · cases hs2
                | cons u us ih =>
                  intro s s' h
                  simp only [List.cons_append, St.upds] at h
                  split at h
                  · cases h
                  · rename_i s2 hs2
                    have h3 := ih s2 s' h
                    have h4 := hlen [u] s s2 (by simp [St.upds, hs2])
                    exact h4 ▸ h3
              have hlt := hupd E.us s s1 (by simpa [hd, dstUpd] using h1)
              exact ⟨s.tmps[d], by simp [St.gs, hlt]⟩
            refine hsound D r h' a w K Q (fun b hb => ?_) (fun b hb1 hb2 => hfr b hb1 (by rw [hhi]; exact hb2)) hrel.c ?_ ?_
            · exact hg (.bk b) (List.mem_append_right _ (List.mem_append_right _ (List.mem_append_right _ (List.mem_map.2 ⟨b, hb, rfl⟩))))
            · exact evalOp_sound (fun l hl => hg l (List.mem_append_right _ (List.mem_append_right _ (List.mem_append_left _ hl)))) hrel.t hglob'
            · intro r' w' c1 c2 c3
              subst hval
              rw [hhi] at hk
              refine hk r' _ w' ⟨crel_tm c1 (fun b => apps_dst_bk E o.dst E.val h' b), trel_put hrel.t c2.agree (fun b hb => .inl hb) c3 hdst⟩ (ext_tm c2 (fun b => apps_dst_bk E o.dst E.val h' b))
          · cases h
end
end Go.Sx

/-
Shadow runs: a region, whatever order is drawn.
-/
namespace Go.Sx
open Go
set_option linter.unusedVariables false
set_option linter.unusedSimpArgs false
set_option linter.unusedSectionVars false
variable [Globs]

def Kn (s : St) (b : Nat) : Prop := ∃ ob, s.heap.get b = some ob

theorem Kn.lt {s : St} {b : Nat} (h : Kn s b) : b < s.heap.length := by
  obtain ⟨ob, h⟩ := h
  exact get_lt h

/-- How states follow upon each other. -/
structure Step (s s' : St) : Prop where
  len : s.heap.length ≤ s'.heap.length
  dead : ∀ b, b < s.heap.length → s.heap.get b = none → s'.heap.get b = none
  same : ∀ b, b < s.heap.length → b ∉ s'.dirty → s'.heap.get b = s.heap.get b
  dmono : ∀ b, b ∈ s.dirty → b ∈ s'.dirty
  dkn : ∀ b, b ∈ s'.dirty → b ∈ s.dirty ∨ s.heap.length ≤ b ∨ Kn s b
  omono : ∀ p, p ∈ s.obl → p ∈ s'.obl

theorem Step.refl (s : St) : Step s s := ⟨Nat.le_refl _, fun _ _ h => h, fun _ _ _ => rfl, fun _ h => h, fun _ h => .inl h, fun _ h => h⟩

theorem Step.trans {s s1 s2 : St} (h : Step s s1) (k : Step s1 s2) : Step s s2 where
  len := Nat.le_trans h.len k.len
  dead b hb hn := k.dead b (Nat.lt_of_lt_of_le hb h.len) (h.dead b hb hn)
  same b hb hd := by
    have hd1 : b ∉ s1.dirty := fun hm => hd (k.dmono b hm)
    rw [k.same b (Nat.lt_of_lt_of_le hb h.len) hd, h.same b hb hd1]
  dmono b hb := k.dmono b (h.dmono b hb)
  dkn b hb := by
    rcases k.dkn b hb with h1 | h1 | h1
    · exact h.dkn b h1
    · exact .inr (.inl (Nat.le_trans h.len h1))
    · rcases Nat.lt_or_ge b s.heap.length with hl | hl
      · right; right
        cases hg : s.heap.get b with
        | none =>
          obtain ⟨ob, hob⟩ := h1
          rw [h.dead b hl hg] at hob
          cases hob
        | some ob => exact ⟨ob, hg⟩
      · exact .inr (.inl hl)
  omono p hp := k.omono p (h.omono p hp)

structure Sub (s : St) (g : GS) : Prop where
  tm : ∀ t, g (.tm t) = s.gs (.tm t)
  kn : ∀ b ob, s.heap.get b = some ob → g (.bk b) = some ob

structure Post (s s' : St) (g g' : GS) : Prop where
  tm : ∀ t, g' (.tm t) = s'.gs (.tm t)
  kn : ∀ b, (Kn s b ∨ (s.heap.length ≤ b ∧ b < s'.heap.length)) → g' (.bk b) = s'.heap.get b
  other : ∀ b, ¬ (Kn s b ∨ (s.heap.length ≤ b ∧ b < s'.heap.length)) → g' (.bk b) = g (.bk b)

theorem Post.refl {s : St} {g : GS} (h : Sub s g) : Post s s g g :=
  ⟨h.tm, fun b hb => by
    rcases hb with ⟨ob, hob⟩ | hb
    · rw [h.kn b ob hob, hob]
    · omega, fun _ _ => rfl⟩

theorem Post.sub {s s' : St} {g g' : GS} (h : Post s s' g g') (k : Step s s') : Sub s' g' := by
  refine ⟨h.tm, fun b ob hb => ?_⟩
  rw [← hb]
  refine h.kn b ?_
  have hlt := get_lt hb
  rcases Nat.lt_or_ge b s.heap.length with hl | hl
  · left
    cases hg : s.heap.get b with
    | none => rw [k.dead b hl hg] at hb; cases hb
    | some o => exact ⟨o, hg⟩
  · exact .inr ⟨hl, hlt⟩

theorem Post.trans {s s1 s2 : St} {g g1 g2 : GS} (h : Post s s1 g g1) (k : Post s1 s2 g1 g2) (hs : Step s s1) (ks : Step s1 s2) : Post s s2 g g2 := by
  have hl1 := hs.len
  have hl2 := ks.len
  refine ⟨k.tm, fun b hb => ?_, fun b hb => ?_⟩
  · by_cases hk1 : Kn s1 b ∨ (s1.heap.length ≤ b ∧ b < s2.heap.length)
    · exact k.kn b hk1
    · rw [k.other b hk1]
      have hlt : b < s1.heap.length := by
        rcases hb with hb | hb
        · have := hb.lt; omega
        · rcases Nat.lt_or_ge b s1.heap.length with h' | h'
          · exact h'
          · exact absurd (.inr ⟨h', hb.2⟩) hk1
      have hnone : s1.heap.get b = none := by
        cases hg : s1.heap.get b with
        | none => rfl
        | some o => exact absurd (.inl ⟨o, hg⟩) hk1
      have h1 : g1 (.bk b) = s1.heap.get b := by
        refine h.kn b ?_
        rcases hb with hb | hb
        · exact .inl hb
        · exact .inr ⟨hb.1, hlt⟩
      rw [h1, hnone, ks.dead b hlt hnone]
  · have hk1 : ¬ (Kn s1 b ∨ (s1.heap.length ≤ b ∧ b < s2.heap.length)) := by
      intro hc
      rcases hc with ⟨o, ho⟩ | hc
      · rcases Nat.lt_or_ge b s.heap.length with hl | hl
        · cases hg : s.heap.get b with
          | none => rw [hs.dead b hl hg] at ho; cases ho
          | some o' => exact hb (.inl ⟨o', hg⟩)
        · have := get_lt ho
          exact hb (.inr ⟨hl, by omega⟩)
      · exact hb (.inr ⟨by omega, hc.2⟩)
    rw [k.other b hk1]
    refine h.other b fun hc => hb ?_
    rcases hc with hc | hc
    · exact .inl hc
    · exact .inr ⟨hc.1, by omega⟩

theorem get_set {hp : Hp} {b c : Nat} {o : Option SObj} (hb : b < hp.length) : Hp.get (List.set hp b o) c = if c = b then o else hp.get c := by
  simp only [Hp.get, List.getD_eq_getElem?_getD, List.getElem?_set]
  by_cases h : b = c
  · subst h; simp [hb]
  · simp [h, Ne.symm h]
theorem get_push {hp : Hp} {c : Nat} {o : Option SObj} : Hp.get (hp ++ [o]) c = if c = hp.length then o else hp.get c := by
  simp only [Hp.get, List.getD_eq_getElem?_getD]
  by_cases h : c = hp.length
  · subst h; simp
  · rw [if_neg h]
    rcases Nat.lt_or_ge c hp.length with h' | h'
    · rw [List.getElem?_append_left h']
    · have h1 : hp[c]? = none := List.getElem?_eq_none h'
      have h2 : (hp ++ [o])[c]? = none := by
        apply List.getElem?_eq_none
        rw [List.length_append, List.length_singleton]
        omega
      rw [h1, h2]

theorem upd_step {s s' : St} {u : Upd} (h : s.upd u = some s') : Step s s' ∧ ∀ g, Sub s g → Post s s' g (u.app g) := by
  have hgs := St.upd_gs h
  unfold St.upd at h
  split at h
  · rename_i t v
    split at h
    · cases h
      refine ⟨⟨Nat.le_refl _, fun _ _ h => h, fun _ _ _ => rfl, fun _ h => h, fun _ h => .inl h, fun _ h => h⟩, fun g hg => ⟨fun k => ?_, fun b hb => ?_, fun b hb => rfl⟩⟩
      · rw [hgs]
        simp only [Upd.app]
        rw [hg.tm k]
      · rcases hb with ⟨ob, hob⟩ | hb
        · rw [app_tm_bk, hg.kn b ob hob]; exact hob.symm
        · simp only at hb; omega
    · cases h
  · rename_i b o
    split at h
    · rename_i hl
      simp at hl
      split at h
      · rename_i ob hob
        cases h
        refine ⟨⟨by simp, fun c hc hn => ?_, fun c hc hd => ?_, fun c hc => List.mem_cons_of_mem _ hc, fun c hc => ?_, fun _ h => h⟩, fun g hg => ⟨fun k => ?_, fun c hc => ?_, fun c hc => ?_⟩⟩
        · rw [get_set hl]
          split
          · rename_i hcb; subst hcb; rw [hob] at hn; cases hn
          · exact hn
        · rw [get_set hl, if_neg]
          rintro rfl
          exact hd List.mem_cons_self
        · rcases List.mem_cons.1 hc with rfl | hc
          · exact .inr (.inr ⟨ob, hob⟩)
          · exact .inl hc
        · rw [hgs]
          simp only [Upd.app]
          rw [hg.tm k]
        · rw [app_bk, get_set hl]
          split
          · rfl
          · rcases hc with ⟨oc, hoc⟩ | hc
            · rw [hg.kn c oc hoc, hoc]
            · simp at hc; omega
        · rw [app_bk, if_neg]
          rintro rfl
          exact hc (.inl ⟨ob, hob⟩)
      · cases h
    · split at h
      · rename_i hl hb
        simp at hb
        cases h
        subst hb
        refine ⟨⟨by simp, fun c hc hn => ?_, fun c hc hd => ?_, fun c hc => hc, fun c hc => .inl hc, fun _ h => h⟩, fun g hg => ⟨fun k => ?_, fun c hc => ?_, fun c hc => ?_⟩⟩
        · rw [get_push, if_neg (by omega)]; exact hn
        · rw [get_push, if_neg (by omega)]
        · rw [hgs]
          simp only [Upd.app]
          rw [hg.tm k]
        · rw [app_bk, get_push]
          split
          · rfl
          · rename_i hne
            rcases hc with ⟨oc, hoc⟩ | hc
            · rw [hg.kn c oc hoc, hoc]
            · simp at hc; omega
        · rw [app_bk, if_neg]
          rintro rfl
          exact hc (.inr ⟨Nat.le_refl _, by simp⟩)
      · cases h

theorem upds_step : ∀ {us : List Upd} {s s' : St}, s.upds us = some s' → Step s s' ∧ ∀ g, Sub s g → Post s s' g (apps us g)
  | [], s, s', h => by simp [St.upds] at h; subst h; exact ⟨Step.refl s, fun g hg => Post.refl hg⟩
  | u :: us, s, s', h => by
    simp only [St.upds] at h
    split at h
    · cases h
    · rename_i s1 h1
      obtain ⟨a1, a2⟩ := upd_step h1
      obtain ⟨b1, b2⟩ := upds_step h
      exact ⟨a1.trans b1, fun g hg => (a2 g hg).trans (b2 _ ((a2 g hg).sub a1)) a1 b1⟩

theorem Step.obl {s s' : St} (h : Step s s') (ob : Obl) : Step s { s' with obl := ob ++ s'.obl } :=
  ⟨h.len, h.dead, h.same, h.dmono, h.dkn, fun p hp => List.mem_append_right _ (h.omono p hp)⟩

section
variable {cx : Ctx}

theorem stepOp_step {f : Nat} {call : CallFn} {ops : List Oper} {s s' : St} {o : Oper} {R : Rec} (h : stepOp cx f call ops s o = some (R, s')) :
    Step s s' ∧ (∀ g, Sub s g → Post s s' g (R.app g)) ∧ R.lo = s.heap.length ∧ R.hi = s'.heap.length ∧ (∀ b, Loc.bk b ∈ R.reads → Kn s b) := by
  unfold stepOp at h
  have hnobk : ∀ b, Loc.bk b ∉ guardLoc ops o ∧ Loc.bk b ∉ dstLoc o.dst ∧ ∀ xs, Loc.bk b ∉ tmpsOf xs := by
    intro b
    refine ⟨?_, ?_, ?_⟩
    · unfold guardLoc; split <;> simp
    · cases o.dst <;> simp [dstLoc]
    · intro xs
      induction xs with
      | nil => simp [tmpsOf]
      | cons x xs ih => cases x <;> simp [tmpsOf, ih]
  split at h
  · cases h
  · split at h
    · rename_i s1 h1
      cases h
      obtain ⟨a1, a2⟩ := upds_step h1
      refine ⟨a1, a2, rfl, ?_, fun b hb => ?_⟩
      · cases hd : o.dst with
        | none => simp [hd, dstUpd, St.upds] at h1; rw [h1]
        | some d =>
          simp only [hd, dstUpd, St.upds, St.upd] at h1
          split at h1
          · cases h1
          · rename_i s2 hs2
            split at hs2
            · cases hs2; cases h1; rfl
            · cases hs2
      · rcases List.mem_append.1 hb with hb | hb
        · exact absurd hb (hnobk b).1
        · exact absurd hb (hnobk b).2.1
    · cases h
  · split at h
    · cases h
    · rename_i E ob hE
      split at h
      rename_i v ob' hv
      split at h
      · cases h
      · rename_i s1 h1
        split at h
        · rename_i hhi
          simp at hhi
          obtain ⟨_, hrok⟩ := hhi
          cases h
          obtain ⟨a1, a2⟩ := upds_step h1
          refine ⟨?_, fun g hg => ⟨(a2 g hg).tm, (a2 g hg).kn, (a2 g hg).other⟩, rfl, rfl, fun b hb => ?_⟩
          · have := a1.obl (ob' ++ ob)
            rwa [List.append_assoc] at this
          · have key : ∀ (bs : List Nat), readsOk s.heap bs = true → b ∈ bs → Kn s b := by
              intro bs
              induction bs with
              | nil => intro _ h; cases h
              | cons c cs ih =>
                intro h hm
                simp only [readsOk] at h
                split at h
                · rename_i oc hoc
                  rcases List.mem_cons.1 hm with rfl | hm
                  · exact ⟨oc, hoc⟩
                  · exact ih h hm
                · cases h
            rcases List.mem_append.1 hb with hb | hb
            · exact absurd hb (hnobk b).1
            · rcases List.mem_append.1 hb with hb | hb
              · exact absurd hb (hnobk b).2.1
              · rcases List.mem_append.1 hb with hb | hb
                · exact absurd hb ((hnobk b).2.2 _)
                · simp only [List.mem_map] at hb
                  obtain ⟨c, hc, e⟩ := hb
                  cases e
                  exact key _ hrok hc
        · cases h

theorem runOps_sts {f : Nat} {call : CallFn} {ops : List Oper} : ∀ {os : List Oper} {s s' : St} {Rs : List Rec}, runOps cx f call ops os s = some (Rs, s') →
    Rs.length = os.length ∧ ∃ sts : Nat → St, sts 0 = s ∧ sts os.length = s' ∧ ∀ i o, os[i]? = some o → stepOp cx f call ops (sts i) o = some (Rs.getD i ⟨[], [], 0, 0⟩, sts (i + 1))
  | [], s, s', Rs, h => by
    simp [runOps] at h
    obtain ⟨rfl, rfl⟩ := h
    exact ⟨rfl, fun _ => s, rfl, rfl, fun i o hi => by simp at hi⟩
  | o :: os, s, s', Rs, h => by
    simp only [runOps] at h
    split at h
    · cases h
    · rename_i R s1 h1
      split at h
      · cases h
      · rename_i Rs' s2 h2
        cases h
        obtain ⟨hl, sts, e0, en, hst⟩ := runOps_sts h2
        refine ⟨by simp [hl], fun i => match i with | 0 => s | i + 1 => sts i, rfl, en, fun i o' hi => ?_⟩
        cases i with
        | zero =>
          simp at hi
          subst hi
          simp only [List.getD_cons_zero]
          rw [e0]
          exact h1
        | succ i =>
          simp at hi
          simpa using hst i o' hi

/-! masks -/
theorem edgeMask_bit (masks : List Nat) (i : Nat) : ∀ (es : List Edge), (edgeMask masks es).testBit i = true ↔ ∃ e ∈ es, Region.binds .any e = true ∧ (e.on = i ∨ (masks.getD e.on 0).testBit i = true)
  | [] => by simp [edgeMask]
  | e :: es => by
    simp only [edgeMask]
    split
    · rename_i hb
      rw [Nat.testBit_or, Nat.testBit_or, Bool.or_eq_true, Bool.or_eq_true, edgeMask_bit masks i es, Nat.testBit_two_pow]
      simp only [decide_eq_true_eq, List.mem_cons, exists_eq_or_imp, hb, true_and]
    · rename_i hb
      rw [edgeMask_bit masks i es]
      simp only [List.mem_cons, exists_eq_or_imp, hb, Bool.false_eq_true, false_and, false_or]

theorem maskAll_spec : ∀ (os : List Oper) (acc : List Nat), (∃ tl, maskAll os acc = acc ++ tl ∧ tl.length = os.length) ∧
    ∀ k o, os[k]? = some o → ∃ pre, (∃ tl, maskAll os acc = pre ++ tl) ∧ pre.length = acc.length + k ∧ (maskAll os acc).getD (acc.length + k) 0 = edgeMask pre o.after.toList
  | [], acc => ⟨⟨[], by simp [maskAll], rfl⟩, fun k o h => by simp at h⟩
  | o :: os, acc => by
    obtain ⟨⟨tl, h1, h2⟩, h3⟩ := maskAll_spec os (acc ++ [edgeMask acc o.after.toList])
    refine ⟨⟨edgeMask acc o.after.toList :: tl, by simp [maskAll, h1], by simp [h2]⟩, fun k o' hk => ?_⟩
    cases k with
    | zero =>
      simp at hk
      subst hk
      refine ⟨acc, ⟨edgeMask acc o.after.toList :: tl, by simp [maskAll, h1]⟩, by simp, ?_⟩
      simp only [maskAll, h1]
      simp
    | succ k =>
      simp at hk
      obtain ⟨pre, ⟨tl', e1⟩, e2, e3⟩ := h3 k o' hk
      refine ⟨pre, ⟨tl', by simp only [maskAll]; exact e1⟩, by simp at e2; omega, ?_⟩
      simp only [maskAll]
      rw [← e3]
      congr 1
      simp
      omega

theorem backB_spec : ∀ (os : List Oper) (i : Nat), backB os i = true → ∀ k o, os[k]? = some o → ∀ e ∈ o.after, Region.binds .any e = true → e.on < i + k
  | [], _, _, k, o, h => by simp at h
  | o :: os, i, h, k, o', hk => by
    simp only [backB, Bool.and_eq_true] at h
    cases k with
    | zero =>
      simp at hk
      subst hk
      intro e he hb
      have := List.all_eq_true.1 h.1 e (by simpa using he)
      simp [hb] at this
      simpa using this
    | succ k =>
      simp at hk
      intro e he hb
      have := backB_spec os (i + 1) h.2 k o' hk e he hb
      omega

theorem eqB_iff {a b : Loc} : Loc.eqB a b = true ↔ a = b := by
  cases a <;> cases b <;> simp [Loc.eqB]
theorem noneIn_spec {us : List Upd} {ls : List Loc} (h : noneIn us ls = true) {l : Loc} (hl : l ∈ ls) : ¬ ∃ u ∈ us, u.loc = l := by
  rintro ⟨u, hu, rfl⟩
  unfold noneIn at h
  have := List.all_eq_true.1 (List.all_eq_true.1 h u hu) _ hl
  simp only [Bool.not_eq_true'] at this
  rw [eqB_iff.2 rfl] at this
  cases this
theorem apartB_spec {R S : Rec} (h : apartB R S = true) : Apart R S := by
  unfold apartB at h
  simp only [Bool.and_eq_true] at h
  obtain ⟨⟨h1, h2⟩, h3⟩ := h
  intro l
  refine ⟨fun hw => ⟨fun hr => noneIn_spec h1 hr hw, fun hs => ?_⟩, fun hw hr => noneIn_spec h3 hr hw⟩
  obtain ⟨v, hv, rfl⟩ := hs
  exact noneIn_spec h2 (List.mem_map.2 ⟨v, hv, rfl⟩) hw

theorem apartOne_spec {S : Rec} {mask : Nat} : ∀ {Rs : List Rec} {i : Nat}, apartOne S mask Rs i = true → ∀ k R, Rs[k]? = some R → mask.testBit (i + k) = false → Apart R S
  | [], _, _, k, R, h, _ => by simp at h
  | R' :: Rs, i, h, k, R, hk, hm => by
    simp only [apartOne, Bool.and_eq_true, Bool.or_eq_true] at h
    cases k with
    | zero =>
      simp at hk
      subst hk
      rcases h.1 with h1 | h1
      · rw [Nat.add_zero] at hm; rw [hm] at h1; cases h1
      · exact apartB_spec h1
    | succ k =>
      simp at hk
      exact apartOne_spec h.2 k R hk (by rw [← hm]; congr 1; omega)
theorem apartAll_spec {masks : List Nat} : ∀ {rest before : List Rec}, apartAll masks before rest = true → ∀ j S, rest[j]? = some S → ∀ i R, (before ++ rest)[i]? = some R → i < before.length + j →
    (masks.getD (before.length + j) 0).testBit i = false → Apart R S
  | [], _, _, j, S, h, _, _, _, _, _ => by simp at h
  | S' :: rest, before, h, j, S, hj, i, R, hi, hlt, hm => by
    simp only [apartAll, Bool.and_eq_true] at h
    cases j with
    | zero =>
      simp at hj
      subst hj
      refine apartOne_spec h.1 i R ?_ (by simpa using hm)
      rw [List.getElem?_append_left (by omega)] at hi
      exact hi
    | succ j =>
      simp at hj
      refine apartAll_spec h.2 j S hj i R (by simpa using hi) (by simp; omega) ?_
      have : (before ++ [S']).length + j = before.length + (j + 1) := by simp; omega
      rw [this]
      exact hm
end
end Go.Sx

/-
Shadow runs: a function's text.
-/
namespace Go.Sx
open Go
set_option linter.unusedVariables false
set_option linter.unusedSimpArgs false
set_option linter.unusedSectionVars false
variable [Globs]

structure CtxOk (cx : Ctx) : Prop where
  mixed : cx.P.follows .mixedOrders = true
  fns : ∀ f fn, findFn cx.T f = some fn → cx.P.funcs[f]? = some fn ∧ ∀ (vs : Array Value) (w : World), (callFunc f vs).run cx.P w = .ok (.enter f vs) w
  con : ∀ f args hp E, cx.C f args hp = some E → CallSound cx.P f args hp E

def CallsOk (cx : Ctx) (call : CallFn) : Prop := ∀ f args hp E ob, call f args hp = some (E, ob) → (∀ p ∈ ob, p.1 = p.2) → CallSound cx.P f args hp E

theorem rel_eq {P : Program} {D D' : Nat → Prop} {r : Ren} {g : GS} {a : Act} {w : World} (h : Rel P D r g a w) (hd : ∀ b, D b ↔ D' b) : Rel P D' r g a w := by
  have : D = D' := by funext b; exact propext (hd b)
  rwa [← this]

theorem rep_getD (n k : Nat) : (Array.replicate n false).getD k false = false := by
  by_cases h : k < n
  · simp [Array.getElem?_replicate, h]
  · simp [Array.getElem?_replicate, h]

theorem region_sound {cx : Ctx} (hcx : CtxOk cx) {f : Nat} {call : CallFn} (hcall : CallsOk cx call) {ops : Array Oper} {draw : Bool} {s s' : St} (h : runRegion cx f call ops draw s = some s') (id : Nat) :
    Step s s' ∧ ((∀ p ∈ s'.obl, p.1 = p.2) → ∀ (g : GS) (D : Nat → Prop) (r : Ren) (a : Act) (w : World) (Q : Exit → Act → World → Prop), Sub s g → (∀ b, s.heap.length ≤ b → b < s'.heap.length → ¬ D b) → Rel cx.P D r g a w →
      (∀ r' g' a' w', Post s s' g g' → Rel cx.P (In s.heap.length s'.heap.length D) r' g' a' w' → Ext D r g w r' g' w' → Q .normal a' w') → (Code.region id ops draw).wp cx.P Q a w) := by
  unfold runRegion at h
  split at h
  · cases h
  · rename_i Rs s1 hrun
    have hs1 : s1 = s' := by
      split at h
      · cases h; rfl
      · split at h
        · cases h; rfl
        · cases h
    obtain ⟨hlen, sts, e0, en, hst⟩ := runOps_sts hrun
    have hn : ops.toList.length = ops.size := by simp
    rw [hn] at hlen en
    have hops : ∀ i, i < ops.size → ops.toList[i]? = some (ops.toList.getD i default) := by
      intro i hi
      rw [List.getD_eq_getElem?_getD, List.getElem?_eq_getElem (by simpa using hi)]
      rfl
    let R : Nat → Rec := fun i => Rs.getD i ⟨[], [], 0, 0⟩
    have hstep : ∀ i, i < ops.size → Step (sts i) (sts (i + 1)) ∧ (∀ g, Sub (sts i) g → Post (sts i) (sts (i + 1)) g ((R i).app g)) ∧ (R i).lo = (sts i).heap.length ∧ (R i).hi = (sts (i + 1)).heap.length ∧ (∀ b, Loc.bk b ∈ (R i).reads → Kn (sts i) b) :=
      fun i hi => stepOp_step (hst i _ (hops i hi))
    have hchain : ∀ k, k ≤ ops.size → Step s (sts k) ∧ ∀ g, Sub s g → Post s (sts k) g (accum R (fun _ => true) g k) := by
      intro k
      induction k with
      | zero => intro _; rw [e0]; exact ⟨Step.refl s, fun g hg => Post.refl hg⟩
      | succ k ih =>
        intro hk
        obtain ⟨a1, a2⟩ := ih (by omega)
        obtain ⟨b1, b2, _⟩ := hstep k (by omega)
        refine ⟨a1.trans b1, fun g hg => ?_⟩
        have := (a2 g hg).trans (b2 _ ((a2 g hg).sub a1)) a1 b1
        simpa [accum] using this
    have hafter : ∀ i k, i ≤ k → k ≤ ops.size → Step (sts i) (sts k) := by
      intro i k hik hk
      induction k with
      | zero => have : i = 0 := by omega
                subst this; exact Step.refl _
      | succ k ih =>
        by_cases h' : i = k + 1
        · subst h'; exact Step.refl _
        · exact (ih (by omega) (by omega)).trans (hstep k (by omega)).1
    have hend : sts ops.size = s' := by rw [en, hs1]
    have htot := hchain ops.size (Nat.le_refl _)
    rw [hend] at htot
    refine ⟨htot.1, fun hob g D r a w Q hsub hfr hrel hk0 => ?_⟩
    -- what each operation does
    have hlt : ∀ (i : Nat) (l : Loc), accum R (fun k => decide (k < i)) g ops.size l = accum R (fun k => decide (k < i)) g ops.size l := fun _ _ => rfl
    have hpre : ∀ i n, i ≤ n → accum R (fun k => decide (k < i)) g n = accum R (fun _ => true) g i := by
      intro i n
      induction n with
      | zero => intro h0; have : i = 0 := by omega
                subst this; rfl
      | succ n ih =>
        intro hin
        by_cases h' : i = n + 1
        · subst h'
          funext l
          exact accum_same _ fun k hk hne => by simp [hk] at hne
        · simp only [accum]
          rw [if_neg (by simp; omega)]
          exact ih (by omega)
    have hsound : ∀ i, i < ops.size → ∀ h' : GS, (∀ l ∈ (R i).reads, h' l = accum R (fun k => decide (k < i)) g ops.size l) → Sound1 cx.P ops Q i (R i) h' := by
      intro i hi h' hh
      have ho : ops[i]? = some (ops.toList.getD i default) := by have := hops i hi; simpa using this
      refine stepOp_sound (f := f) (call := call) ho (fun f args E ob hc hob => hcall f args _ E ob hc hob) (hst i _ (hops i hi)) (fun p hp => hob p ?_) fun l hl => ?_
      · rw [← hend]; exact (hafter (i + 1) ops.size (by omega) (Nat.le_refl _)).omono p hp
      · rw [hh l hl, hpre i ops.size (by omega)]
        obtain ⟨c1, c2⟩ := hchain i (by omega)
        have hsub_i := (c2 g hsub).sub c1
        cases l with
        | tm t => exact hsub_i.tm t
        | bk b =>
          obtain ⟨ob, hob'⟩ := (hstep i hi).2.2.2.2 b hl
          rw [hsub_i.kn b ob hob']
          exact hob'.symm
    have hcover : ∀ b, (∃ i, i < ops.size ∧ (R i).lo ≤ b ∧ b < (R i).hi) ↔ (s.heap.length ≤ b ∧ b < s'.heap.length) := by
      intro b
      constructor
      · rintro ⟨i, hi, h1, h2⟩
        obtain ⟨_, _, q1, q2, _⟩ := hstep i hi
        have l1 := (hchain i (by omega)).1.len
        have l2 := (hafter (i + 1) ops.size (by omega) (Nat.le_refl _)).len
        rw [hend] at l2
        omega
      · rintro ⟨h1, h2⟩
        have key : ∀ k, k ≤ ops.size → b < (sts k).heap.length → ∃ i, i < k ∧ (R i).lo ≤ b ∧ b < (R i).hi := by
          intro k
          induction k with
          | zero => intro _ hb; rw [e0] at hb; omega
          | succ k ih =>
            intro hk hb
            obtain ⟨_, _, q1, q2, _⟩ := hstep k (by omega)
            by_cases hlt : b < (sts k).heap.length
            · obtain ⟨i, hi, h⟩ := ih (by omega) hlt
              exact ⟨i, by omega, h⟩
            · exact ⟨k, by omega, by omega, by omega⟩
        obtain ⟨i, hi, h⟩ := key ops.size (Nat.le_refl _) (by rw [hend]; exact h2)
        exact ⟨i, hi, h⟩
    have hfresh : ∀ i, i < ops.size → ∀ b, (R i).lo ≤ b → b < (R i).hi → ¬ D b := by
      intro i hi b h1 h2
      have := (hcover b).1 ⟨i, hi, h1, h2⟩
      exact hfr b this.1 this.2
    have hpost := htot.2 g hsub
    split at h
    · -- in the text's order
      refine wp_region ?_
      have key : ∀ m k, k + m = ops.size → ∀ r' a' w', Rel cx.P (In s.heap.length (sts k).heap.length D) r' (accum R (fun _ => true) g k) a' w' → Ext D r g w r' (accum R (fun _ => true) g k) w' →
          wpOps cx.P ops Q (List.range' k m) a' w' := by
        intro m
        induction m with
        | zero =>
          intro k hk r' a' w' hr he
          have hk' : k = ops.size := by omega
          subst hk'
          rw [hend] at hr
          exact hk0 r' _ a' w' hpost hr he
        | succ m ih =>
          intro k hkm r' a' w' hr he
          obtain ⟨q0, _, q1, q2, _⟩ := hstep k (by omega)
          rw [List.range'_succ, wpOps_cons]
          have hS := hsound k (by omega) (accum R (fun _ => true) g k) (fun l _ => by rw [hpre k ops.size (by omega)])
          refine hS _ r' a' w' _ (fun b h1 h2 hD => ?_) hr fun r2 a2 w2 hr2 he2 => ?_
          · rcases hD with hD | hD
            · exact hfresh k (by omega) b h1 h2 hD
            · omega
          · have hacc : accum R (fun _ => true) g (k + 1) = (R k).app (accum R (fun _ => true) g k) := by simp [accum]
            refine ih (k + 1) (by omega) r2 a2 w2 ?_ ?_
            · rw [hacc]
              refine rel_eq hr2 fun b => ?_
              have l1 := (hchain k (by omega)).1.len
              have l2 := q0.len
              unfold In
              rw [q1, q2]
              constructor
              · rintro ((h | h) | h)
                · exact .inl h
                · exact .inr ⟨h.1, by omega⟩
                · exact .inr ⟨by omega, h.2⟩
              · rintro (h | h)
                · exact .inl (.inl h)
                · by_cases hb : b < (sts k).heap.length
                  · exact .inl (.inr ⟨h.1, hb⟩)
                  · exact .inr ⟨by omega, h.2⟩
            · rw [hacc]
              exact he.trans he2 (fun b hb => .inl hb)
      have := key ops.size 0 (by omega) r a w (rel_eq hrel fun b => by
        rw [e0]; unfold In
        constructor
        · exact .inl
        · rintro (h | h)
          · exact h
          · omega) (Ext.refl (P := cx.P))
      simpa [List.range_eq_range'] using this
    · split at h
      · rename_i hcheck
        simp only [Bool.and_eq_true] at hcheck
        obtain ⟨hback, hapart⟩ := hcheck
        refine wp_region_any hcx.mixed ?_
        have hmask : ∀ j, j < ops.size → ∃ pre, (∃ tl, maskAll ops.toList [] = pre ++ tl) ∧ pre.length = j ∧ (maskAll ops.toList []).getD j 0 = edgeMask pre (ops.toList.getD j default).after.toList := by
          intro j hj
          obtain ⟨_, h3⟩ := maskAll_spec ops.toList []
          have := h3 j _ (hops j hj)
          simpa using this
        refine region_any (D0 := D) (r0 := r) (w0 := w) (g := g) (R := R) (fun k o hk e he hb => ?_) (fun i j => ((maskAll ops.toList []).getD j 0).testBit i) ?_ ?_ ?_ hfresh hsound ?_ ops.size _ r a _ (by simp) (by simp [unl]) ?_ ?_ ?_
        · have := backB_spec ops.toList 0 hback k o (by simpa using hk) e he hb
          omega
        · -- masks hold all that stand ahead
          intro j hj A hA hAj i hij
          have key : ∀ n j, j < n → j < ops.size → (∀ i, Ahead ops i j → A i = true) → ∀ i, ((maskAll ops.toList []).getD j 0).testBit i = true → A i = true := by
            intro n
            induction n with
            | zero => intro j h; omega
            | succ n ih =>
              intro j hjn hj hAj i hij
              obtain ⟨pre, ⟨tl, hpt⟩, hpl, he⟩ := hmask j hj
              rw [he, edgeMask_bit] at hij
              obtain ⟨e, hemem, hbind, hor⟩ := hij
              have hoj : ops[j]? = some (ops.toList.getD j default) := by have := hops j hj; simpa using this
              have hahead : Ahead ops e.on j := ⟨_, hoj, e, by simpa using hemem, hbind, rfl⟩
              have hlt : e.on < j := by
                have := backB_spec ops.toList 0 hback j _ (hops j hj) e (by simpa using hemem) hbind
                omega
              rcases hor with rfl | hor
              · exact hAj _ hahead
              · have hgd : pre.getD e.on 0 = (maskAll ops.toList []).getD e.on 0 := by
                  rw [hpt]
                  simp only [List.getD_eq_getElem?_getD]
                  rw [List.getElem?_append_left (by omega)]
                rw [hgd] at hor
                exact ih e.on (by omega) (by omega) (fun i hi => hA e.on (by omega) (hAj _ hahead) i hi) i hor
          exact key (j + 1) j (by omega) hj hAj i hij
        · intro i j hij hj hp
          have hRi : Rs[i]? = some (R i) := by
            show Rs[i]? = some (Rs.getD i _)
            rw [List.getD_eq_getElem?_getD, List.getElem?_eq_getElem (by omega)]
            rfl
          have hRj : Rs[j]? = some (R j) := by
            show Rs[j]? = some (Rs.getD j _)
            rw [List.getD_eq_getElem?_getD, List.getElem?_eq_getElem (by omega)]
            rfl
          exact apartAll_spec hapart j (R j) hRj i (R i) (by simpa using hRi) (by simpa using hij) (by simpa using hp)
        · intro i j hi hj hne b h1 h2 h3
          obtain ⟨_, _, q1, q2, _⟩ := hstep i hi
          obtain ⟨_, _, p1, p2, _⟩ := hstep j hj
          rcases Nat.lt_or_gt_of_ne hne with hlt | hlt
          · have := (hafter (i + 1) j (by omega) (by omega)).len
            omega
          · have := (hafter (j + 1) i (by omega) (by omega)).len
            omega
        · intro r' a' w' hr he
          have hd : ∀ b, (D b ∨ ∃ i, i < ops.size ∧ (R i).lo ≤ b ∧ b < (R i).hi) ↔ In s.heap.length s'.heap.length D b := by
            intro b; unfold In; rw [hcover b]
          exact hk0 r' _ a' w' hpost (rel_eq hr hd) he
        · intro k hk hlk
          rw [rep_getD] at hlk
          cases hlk
        · have hacc0 : accum R (fun k => (Array.replicate ops.size false).getD k false) g ops.size = g := by
            have h1 : accum R (fun k => (Array.replicate ops.size false).getD k false) g ops.size = accum R (fun k => decide (k < 0)) g ops.size := by
              funext l
              exact accum_same _ fun k hk hne => absurd (rep_getD _ _) (by simpa using hne)
            rw [h1, hpre 0 ops.size (by omega)]
            rfl
          rw [hacc0]
          have hrel' : Rel cx.P D r g a { w with drawn := w.drawn + 1 } := ⟨hrel.c.drew, hrel.t⟩
          refine rel_eq hrel' fun b => ?_
          constructor
          · exact .inl
          · rintro (h | ⟨i, _, hi, _⟩)
            · exact h
            · rw [rep_getD] at hi; cases hi
        · have hacc0 : accum R (fun k => (Array.replicate ops.size false).getD k false) g ops.size = g := by
            have h1 : accum R (fun k => (Array.replicate ops.size false).getD k false) g ops.size = accum R (fun k => decide (k < 0)) g ops.size := by
              funext l
              exact accum_same _ fun k hk hne => absurd (rep_getD _ _) (by simpa using hne)
            rw [h1, hpre 0 ops.size (by omega)]
            rfl
          rw [hacc0]
          exact ⟨fun _ _ => Agree.refl _ _, fun b ob h => .inl ⟨b, ob, h, rfl⟩, fun _ _ _ => rfl, Nat.le_refl _, rfl, rfl, rfl⟩
      · cases h
end Go.Sx

/-
Shadow runs: functions called within, and the theorem by which a run is used.
-/
namespace Go.Sx
open Go
set_option linter.unusedVariables false
set_option linter.unusedSimpArgs false
set_option linter.unusedSectionVars false
variable [Globs]

def exOf : Ex → Exit
  | .normal => .normal
  | .exit id => .exit id
  | .ret => .ret

theorem post_eqv {s s' : St} {g g' : GS} (h : Post s s' g g') : ∀ b, In s.heap.length s'.heap.length (fun _ => False) b → True := fun _ _ => trivial

def Sound (cx : Ctx) (n f : Nat) (c : Code) (s : St) (e : Ex) (s' : St) : Prop :=
  Step s s' ∧ ((∀ p ∈ s'.obl, p.1 = p.2) → ∀ (g : GS) (D : Nat → Prop) (r : Ren) (a : Act) (w : World) (Q : Exit → Act → World → Prop), Sub s g → (∀ b, s.heap.length ≤ b → b < s'.heap.length → ¬ D b) → Rel cx.P D r g a w →
    (∀ r' g' a' w', Post s s' g g' → Rel cx.P (In s.heap.length s'.heap.length D) r' g' a' w' → Ext D r g w r' g' w' → Q (exOf e) a' w') → c.wp cx.P Q a w ∧ ∀ c', c = .loop c' → Code.rounds cx.P c' Q n a w)

theorem in_in {a b c : Nat} {D : Nat → Prop} (h1 : a ≤ b) (h2 : b ≤ c) : ∀ x, In b c (In a b D) x ↔ In a c D x := by
  intro x
  unfold In
  constructor
  · rintro ((h | h) | h)
    · exact .inl h
    · exact .inr ⟨h.1, by omega⟩
    · exact .inr ⟨by omega, h.2⟩
  · rintro (h | h)
    · exact .inl (.inl h)
    · by_cases hb : x < b
      · exact .inl (.inr ⟨h.1, hb⟩)
      · exact .inr ⟨by omega, h.2⟩
theorem in_same {a : Nat} {D : Nat → Prop} : ∀ x, D x ↔ In a a D x := by
  intro x
  unfold In
  constructor
  · exact .inl
  · rintro (h | h)
    · exact h
    · omega

theorem fresh_in {a b c : Nat} {D : Nat → Prop} (h : ∀ x, a ≤ x → x < c → ¬ D x) (h1 : a ≤ b) : ∀ x, b ≤ x → x < c → ¬ In a b D x := by
  rintro x hx hc (hD | hD)
  · exact h x (by omega) hc hD
  · omega

/-- A state follows: from what one code leaves on to the next. -/
theorem sound_same_state {cx : Ctx} {s : St} {g : GS} {D : Nat → Prop} {r : Ren} {a : Act} {w : World} {Q : Act → World → Prop} (hsub : Sub s g) (hrel : Rel cx.P D r g a w)
    (hk : ∀ r' g' a' w', Post s s g g' → Rel cx.P (In s.heap.length s.heap.length D) r' g' a' w' → Ext D r g w r' g' w' → Q a' w') : Q a w :=
  hk r g a w (Post.refl hsub) (rel_eq hrel in_same) (Ext.refl (P := cx.P))

theorem follow {cx : Ctx} {s s1 s2 : St} {g : GS} {D : Nat → Prop} {r : Ren} {w : World} {Q : Act → World → Prop} (h1 : Step s s1) (h2 : Step s1 s2)
    (hk : ∀ r' g' a' w', Post s s2 g g' → Rel cx.P (In s.heap.length s2.heap.length D) r' g' a' w' → Ext D r g w r' g' w' → Q a' w')
    {r1 : Ren} {g1 : GS} {w1 : World} (hp : Post s s1 g g1) (he : Ext D r g w r1 g1 w1) :
    ∀ r' g' a' w', Post s1 s2 g1 g' → Rel cx.P (In s1.heap.length s2.heap.length (In s.heap.length s1.heap.length D)) r' g' a' w' → Ext (In s.heap.length s1.heap.length D) r1 g1 w1 r' g' w' → Q a' w' :=
  fun r' g' a' w' hp' hr' he' => hk r' g' a' w' (hp.trans hp' h1 h2) (rel_eq hr' (in_in h1.len h2.len)) (he.trans he' (fun b hb => .inl hb))

theorem exec_sound {cx : Ctx} (hcx : CtxOk cx) (hcall : ∀ n, (∀ f c s e s', exec cx n f c s = some (e, s') → Sound cx n f c s e s') → CallsOk cx (callFn cx (exec cx n))) :
    ∀ n f c s e s', exec cx n f c s = some (e, s') → Sound cx n f c s e s' := by
  intro n
  induction n with
  | zero => intro f c s e s' h; simp [exec] at h
  | succ n ih =>
    intro f c s e s' h
    cases c <;> simp only [exec] at h <;> (try (cases h; done))
    case skip =>
      cases h
      refine ⟨Step.refl s, fun _ g D r a w Q hsub _ hrel hk => ⟨?_, fun c' hc' => by cases hc'⟩⟩
      exact wp_skip (sound_same_state (Q := fun a w => Q .normal a w) hsub hrel hk)
    case region id ops draw =>
      split at h
      · rename_i s1 h1
        cases h
        obtain ⟨a1, a2⟩ := region_sound hcx (hcall n ih) h1 id
        exact ⟨a1, fun hob g D r a w Q hsub hfr hrel hk => ⟨a2 hob g D r a w Q hsub hfr hrel hk, fun c' hc' => by cases hc'⟩⟩
      · cases h
    case seq x y =>
      split at h
      · rename_i s1 h1
        obtain ⟨a1, a2⟩ := ih _ _ _ _ _ h1
        obtain ⟨b1, b2⟩ := ih _ _ _ _ _ h
        refine ⟨a1.trans b1, fun hob g D r a w Q hsub hfr hrel hk => ⟨wp_seq ?_, fun c' hc' => by cases hc'⟩⟩
        have hob1 : ∀ p ∈ s1.obl, p.1 = p.2 := fun p hp => hob p (b1.omono p hp)
        refine (a2 hob1 g D r a w _ hsub (fun b hb1 hb2 => hfr b hb1 (by have := b1.len; omega)) hrel fun r1 g1 a1' w1 hp hr he => ?_).1
        show y.wp cx.P Q a1' w1
        exact (b2 hob g1 _ r1 a1' w1 Q (hp.sub a1) (fresh_in hfr a1.len) hr (follow (Q := fun a w => Q (exOf e) a w) a1 b1 hk hp he)).1
      · rename_i hn
        obtain ⟨a1, a2⟩ := ih _ _ _ _ _ h
        refine ⟨a1, fun hob g D r a w Q hsub hfr hrel hk => ⟨wp_seq ?_, fun c' hc' => by cases hc'⟩⟩
        refine (a2 hob g D r a w _ hsub hfr hrel fun r1 g1 a1' w1 hp hr he => ?_).1
        have := hk r1 g1 a1' w1 hp hr he
        cases e with
        | normal => exact absurd h (hn _)
        | exit id => exact this
        | ret => exact this
    case cond c x y =>
      split at h
      · rename_i hc
        obtain ⟨a1, a2⟩ := ih _ _ _ _ _ h
        refine ⟨a1, fun hob g D r a w Q hsub hfr hrel hk => ⟨?_, fun c' hc' => by cases hc'⟩⟩
        have hev := evalOp_sound (xs := [c]) (s := s) (fun l hl => by
          cases c with
          | tmp t => simp [tmpsOf] at hl; subst hl; exact hsub.tm t
          | _ => simp [tmpsOf] at hl) hrel.t hrel.c.glob c (by simp) _ hc
        refine wp_cond_true (by simpa using hev.1) (a2 hob g D r a w Q hsub hfr hrel hk).1
      · rename_i hc
        obtain ⟨a1, a2⟩ := ih _ _ _ _ _ h
        refine ⟨a1, fun hob g D r a w Q hsub hfr hrel hk => ⟨?_, fun c' hc' => by cases hc'⟩⟩
        have hev := evalOp_sound (xs := [c]) (s := s) (fun l hl => by
          cases c with
          | tmp t => simp [tmpsOf] at hl; subst hl; exact hsub.tm t
          | _ => simp [tmpsOf] at hl) hrel.t hrel.c.glob c (by simp) _ hc
        refine wp_cond_false (by simpa using hev.1) (a2 hob g D r a w Q hsub hfr hrel hk).1
      · cases h
    case block id c =>
      split at h
      · rename_i id' s1 h1
        obtain ⟨a1, a2⟩ := ih _ _ _ _ _ h1
        split at h
        · rename_i hid
          cases h
          simp at hid
          refine ⟨a1, fun hob g D r a w Q hsub hfr hrel hk => ⟨wp_block ?_, fun c' hc' => by cases hc'⟩⟩
          refine (a2 hob g D r a w _ hsub hfr hrel fun r1 g1 a1' w1 hp hr he => ?_).1
          have := hk r1 g1 a1' w1 hp hr he
          simpa [exOf, Exit.inBlock, hid] using this
        · rename_i hid
          cases h
          refine ⟨a1, fun hob g D r a w Q hsub hfr hrel hk => ⟨wp_block ?_, fun c' hc' => by cases hc'⟩⟩
          refine (a2 hob g D r a w _ hsub hfr hrel fun r1 g1 a1' w1 hp hr he => ?_).1
          have := hk r1 g1 a1' w1 hp hr he
          have hne : id' ≠ id := by
            intro e
            subst e
            simp at hid
          simpa [exOf, Exit.inBlock, hne] using this
      · rename_i hn
        obtain ⟨a1, a2⟩ := ih _ _ _ _ _ h
        refine ⟨a1, fun hob g D r a w Q hsub hfr hrel hk => ⟨wp_block ?_, fun c' hc' => by cases hc'⟩⟩
        refine (a2 hob g D r a w _ hsub hfr hrel fun r1 g1 a1' w1 hp hr he => ?_).1
        have := hk r1 g1 a1' w1 hp hr he
        cases e with
        | normal => exact this
        | exit id => exact absurd h (hn _ _)
        | ret => exact this
    case loop c =>
      have key : ∀ g D r a w Q, Step s s' → (∀ p ∈ s'.obl, p.1 = p.2) → Sub s g → (∀ b, s.heap.length ≤ b → b < s'.heap.length → ¬ D b) → Rel cx.P D r g a w →
          (∀ r' g' a' w', Post s s' g g' → Rel cx.P (In s.heap.length s'.heap.length D) r' g' a' w' → Ext D r g w r' g' w' → Q (exOf e) a' w') → Code.rounds cx.P c Q (n + 1) a w := by
        intro g D r a w Q hstep hob hsub hfr hrel hk
        rw [rounds_succ]
        split at h
        · rename_i s1 h1
          obtain ⟨a1, a2⟩ := ih _ _ _ _ _ h1
          obtain ⟨b1, b2⟩ := ih _ _ _ _ _ h
          have hob1 : ∀ p ∈ s1.obl, p.1 = p.2 := fun p hp => hob p (b1.omono p hp)
          refine (a2 hob1 g D r a w _ hsub (fun b hb1 hb2 => hfr b hb1 (by have := b1.len; omega)) hrel fun r1 g1 a1' w1 hp hr he => ?_).1
          show Code.rounds cx.P c Q n a1' w1
          exact (b2 hob g1 _ r1 a1' w1 Q (hp.sub a1) (fresh_in hfr a1.len) hr (follow (Q := fun a w => Q (exOf e) a w) a1 b1 hk hp he)).2 c rfl
        · rename_i hn
          obtain ⟨a1, a2⟩ := ih _ _ _ _ _ h
          refine (a2 hob g D r a w _ hsub hfr hrel fun r1 g1 a1' w1 hp hr he => ?_).1
          have := hk r1 g1 a1' w1 hp hr he
          cases e with
          | normal => exact absurd h (hn _)
          | exit id => exact this
          | ret => exact this
      have hstep : Step s s' := by
        split at h
        · rename_i s1 h1
          exact (ih _ _ _ _ _ h1).1.trans (ih _ _ _ _ _ h).1
        · exact (ih _ _ _ _ _ h).1
      refine ⟨hstep, fun hob g D r a w Q hsub hfr hrel hk => ?_⟩
      have := key g D r a w Q hstep hob hsub hfr hrel hk
      exact ⟨wp_loop_rounds _ this, fun c' hc' => by cases hc'; exact this⟩
    case exit id =>
      cases h
      refine ⟨Step.refl s, fun _ g D r a w Q hsub _ hrel hk => ⟨?_, fun c' hc' => by cases hc'⟩⟩
      exact wp_exit (sound_same_state (Q := fun a w => Q (.exit id) a w) hsub hrel hk)
    case label l =>
      cases h
      refine ⟨Step.refl s, fun _ g D r a w Q hsub _ hrel hk => ⟨?_, fun c' hc' => by cases hc'⟩⟩
      exact wp_label (sound_same_state (Q := fun a w => Q .normal a w) hsub hrel hk)
    case scope c =>
      obtain ⟨a1, a2⟩ := ih _ _ _ _ _ h
      refine ⟨a1, fun hob g D r a w Q hsub hfr hrel hk => ⟨wp_scope_straight ?_, fun c' hc' => by cases hc'⟩⟩
      refine (a2 hob g D r a w _ hsub hfr hrel fun r1 g1 a1' w1 hp hr he => ?_).1
      have := hk r1 g1 a1' w1 hp hr he
      cases e <;> exact this
    case ret =>
      cases h
      refine ⟨Step.refl s, fun _ g D r a w Q hsub _ hrel hk => ⟨?_, fun c' hc' => by cases hc'⟩⟩
      exact wp_ret (sound_same_state (Q := fun a w => Q .ret a w) hsub hrel hk)
end Go.Sx

/-
Shadow runs: a call that is run within a run; the theorem for whole functions.
-/
namespace Go.Sx
open Go
set_option linter.unusedVariables false
set_option linter.unusedSimpArgs false
set_option linter.unusedSectionVars false
variable [Globs]

theorem memB_iff {l : List Nat} {b : Nat} : memB l b = true ↔ b ∈ l := by
  induction l with
  | nil => simp [memB]
  | cons a l ih =>
    simp only [memB]
    split
    · rename_i h
      simp at h
      simp [h]
    · rename_i h
      have hne : a ≠ b := by
        intro e
        subst e
        simp at h
      rw [ih]
      simp [Ne.symm hne]

theorem restrict_length (keep : List Nat) : ∀ (os : Hp) (i : Nat), List.length (restrict keep os i) = os.length
  | [], _ => rfl
  | o :: os, i => by simp [restrict, restrict_length keep os (i + 1)]

theorem restrict_get (keep : List Nat) : ∀ (os : Hp) (i k : Nat) (ob : SObj), Hp.get (restrict keep os i) k = some ob → Hp.get os k = some ob
  | [], _, k, ob, h => by simp [restrict, Hp.get] at h
  | o :: os, i, k, ob, h => by
    cases k with
    | zero =>
      simp only [restrict, Hp.get, List.getD_cons_zero] at h ⊢
      split at h
      · exact h
      · cases h
    | succ k =>
      have := restrict_get keep os (i + 1) k ob (by simpa [restrict, Hp.get] using h)
      simpa [Hp.get] using this

theorem known_mem : ∀ (os : Hp) (i k : Nat) (ob : SObj), Hp.get os k = some ob → (i + k) ∈ known os i
  | [], _, k, ob, h => by simp [Hp.get] at h
  | o :: os, i, k, ob, h => by
    cases k with
    | zero =>
      simp only [Hp.get, List.getD_cons_zero] at h
      subst h
      simp [known]
    | succ k =>
      have := known_mem os (i + 1) k ob (by simpa [Hp.get] using h)
      have e : i + 1 + k = i + (k + 1) := by omega
      rw [e] at this
      unfold known
      split
      · exact List.mem_cons_of_mem _ this
      · exact this

theorem changed_apps (dirty : List Nat) (n : Nat) : ∀ (os : Hp) (i : Nat) (g : GS) (b : Nat),
    apps ((changed dirty n os i).map fun p => Upd.bk p.1 p.2) g (.bk b) = if i ≤ b ∧ b < i + os.length ∧ (n ≤ b ∨ b ∈ dirty) then Hp.get os (b - i) else g (.bk b)
  | [], i, g, b => by
    rw [if_neg (by simp; omega)]
    rfl
  | o :: os, i, g, b => by
    have ih := changed_apps dirty n os (i + 1)
    have step : ∀ (g : GS), (if i + 1 ≤ b ∧ b < i + 1 + os.length ∧ (n ≤ b ∨ b ∈ dirty) then Hp.get os (b - (i + 1)) else g (.bk b)) =
        if b = i then g (.bk b) else (if i ≤ b ∧ b < i + (o :: os).length ∧ (n ≤ b ∨ b ∈ dirty) then Hp.get (o :: os) (b - i) else g (.bk b)) := by
      intro g
      by_cases hbi : b = i
      · subst hbi
        rw [if_neg (by omega), if_pos rfl]
      · rw [if_neg hbi]
        by_cases hc : i + 1 ≤ b ∧ b < i + 1 + os.length ∧ (n ≤ b ∨ b ∈ dirty)
        · rw [if_pos hc, if_pos ⟨by omega, by simp; omega, hc.2.2⟩]
          obtain ⟨k, hk⟩ : ∃ k, b - i = k + 1 := ⟨b - i - 1, by omega⟩
          rw [hk, show b - (i + 1) = k by omega]
          simp [Hp.get]
        · rw [if_neg hc, if_neg]
          rintro ⟨h1, h2, h3⟩
          exact hc ⟨by omega, by simp at h2; omega, h3⟩
    have hput : ∀ (g : GS), (n ≤ i ∨ i ∈ dirty) → apps ((changed dirty n os (i + 1)).map fun p => Upd.bk p.1 p.2) ((Upd.bk i o).app g) (.bk b) = if i ≤ b ∧ b < i + (o :: os).length ∧ (n ≤ b ∨ b ∈ dirty) then Hp.get (o :: os) (b - i) else g (.bk b) := by
      intro g hin
      rw [ih, step, app_bk]
      by_cases hbi : b = i
      · subst hbi
        rw [if_pos rfl, if_pos rfl, if_pos ⟨Nat.le_refl _, by simp, hin⟩]
        simp [Hp.get]
      · rw [if_neg hbi, if_neg hbi]
    have hskip : ∀ (g : GS), ¬ (n ≤ i ∨ i ∈ dirty) → apps ((changed dirty n os (i + 1)).map fun p => Upd.bk p.1 p.2) g (.bk b) = if i ≤ b ∧ b < i + (o :: os).length ∧ (n ≤ b ∨ b ∈ dirty) then Hp.get (o :: os) (b - i) else g (.bk b) := by
      intro g hin
      rw [ih, step]
      by_cases hbi : b = i
      · subst hbi
        rw [if_pos rfl, if_neg (fun h => hin h.2.2)]
      · rw [if_neg hbi]
    unfold changed
    split
    · rename_i hlt
      simp at hlt
      split
      · rename_i hd
        exact hput g (.inr (memB_iff.1 hd))
      · rename_i hd
        refine hskip g ?_
        rintro (h | h)
        · omega
        · rw [memB_iff.2 h] at hd; cases hd
    · rename_i hlt
      simp at hlt
      exact hput g (.inl hlt)

theorem changed_count (dirty : List Nat) (n : Nat) : ∀ (os : Hp) (i : Nat), ((changed dirty n os i).filter fun p => decide (n ≤ p.1)).length = (i + os.length) - max i n
  | [], i => by simp [changed]; omega
  | o :: os, i => by
    have ih := changed_count dirty n os (i + 1)
    unfold changed
    split
    · rename_i hlt
      simp at hlt
      have hno : ¬ n ≤ i := by omega
      split
      · simp only [List.filter_cons, hno, decide_false, Bool.false_eq_true, if_false, ih, List.length_cons]
        omega
      · rw [ih, List.length_cons]
        omega
    · rename_i hlt
      simp at hlt
      simp only [List.filter_cons, hlt, decide_true, if_true, List.length_cons, ih]
      omega

section
variable {cx : Ctx}

def resOne (tmps : Array Value) : ResultVar → Sem Value
  | .tmp t => pure (tmps.getD t undef)
  | .cell b t => do loadVar t (← asAddr (tmps.getD b undef))

theorem resVals_sound {s : St} {D : Nat → Prop} {r : Ren} {g : GS} {a : Act} {w : World} (hsub : Sub s g) (hrel : Rel cx.P D r g a w) : ∀ {rs : List ResultVar} {vs : List Value}, resVals cx s rs = some vs →
    (rs.mapM (resOne a.tmps)).run cx.P w = .ok (vs.map (ren r)) w ∧ ∀ v ∈ vs, Vok D v
  | [], vs, h => by simp [resVals] at h; subst h; simp
  | .tmp t :: rs, vs, h => by
    simp only [resVals] at h
    split at h
    · cases h
    · rename_i v hv
      split at h
      · cases h
      · rename_i us hus
        cases h
        obtain ⟨h1, h2⟩ := resVals_sound hsub hrel hus
        have hg : g (.tm t) = some v := by rw [hsub.tm t]; exact hv
        have ht := hrel.t.tmp t v hg
        refine ⟨?_, fun u hu => ?_⟩
        · simp only [List.mapM_cons, resOne, Sem.run_bind, Sem.run_pure, Result.andThen_ok, h1]
          simp [ht]
        · rcases List.mem_cons.1 hu with rfl | hu
          · exact hrel.t.ok t _ hg
          · exact h2 u hu
  | .cell b t :: rs, vs, h => by
    simp only [resVals] at h
    split at h
    · rename_i ad had
      split at h
      · cases h
      · rename_i d hd
        split at h
        · cases h
        · rename_i v hv
          split at h
          · cases h
          · rename_i us hus
            cases h
            obtain ⟨h1, h2⟩ := resVals_sound hsub hrel hus
            have hg : g (.tm b) = some (.pointer (some ad)) := by rw [hsub.tm b]; exact had
            have ht := hrel.t.tmp b _ hg
            have hok := hrel.t.ok b _ hg
            cases hok
            rename_i bb off hDb
            have hrow : ∀ n cs, rowAt s.heap bb off n = some cs → (loadCells ⟨r.blk bb, off + r.sh bb, none⟩ n).run cx.P w = .ok (cs.map (ren r)).toArray w ∧ (∀ j v, (cs.map (ren r))[j]? = some v → w.cell? ((⟨r.blk bb, off + r.sh bb, none⟩ : Addr).add j) = some v) ∧ ∀ v ∈ cs, Vok D v := by
              intro n cs hr
              have hgb : g (.bk bb) = s.heap.get bb := by
                unfold rowAt at hr
                split at hr
                · rename_i ob hob; rw [hsub.kn bb ob hob, hob]
                · cases hr
              obtain ⟨q1, _, q3, _⟩ := rowAt_sound hr hgb hrel.c
              exact ⟨run_rowAt hr hgb hrel.c, q1, q3⟩
            have hag := run_isAgg (w := w) hd
            obtain ⟨i, hi⟩ := info_of_underlying hd
            have hload : (loadVar t ⟨r.blk bb, off + r.sh bb, none⟩).run cx.P w = .ok (ren r v) w ∧ Vok D v := by
              split at hv
              · rename_i hda
                rw [hda] at hag
                cases hr : rowAt s.heap bb off (cx.P.cellsOf t) with
                | none => rw [hr] at hv; cases hv
                | some cs =>
                  rw [hr] at hv
                  cases hv
                  obtain ⟨q1, _, q3⟩ := hrow _ _ hr
                  refine ⟨?_, .agg fun u hu => q3 u (by simpa using hu)⟩
                  simp only [loadVar, Sem.run_bind, hag, Result.andThen_ok, if_true, run_sizeOf w hi, q1, Sem.run_pure, ren_agg]
                  simp
              · rename_i hda
                rw [hda] at hag
                split at hv
                · rename_i u hr
                  cases hv
                  obtain ⟨_, q2, q3⟩ := hrow _ _ hr
                  refine ⟨?_, q3 _ (by simp)⟩
                  have hc := q2 0 (ren r v) (by simp)
                  rw [add_none, Nat.add_zero] at hc
                  simp only [loadVar, Sem.run_bind, hag, Result.andThen_ok, Bool.false_eq_true, if_false, run_load, hc]
                · cases hv
            refine ⟨?_, fun u hu => ?_⟩
            · simp only [List.mapM_cons, resOne, Sem.run_bind, Sem.run_pure, Result.andThen_ok, h1]
              have hgd : a.tmps.getD b undef = .pointer (some ⟨r.blk bb, off + r.sh bb, none⟩) := by simp [ht]
              rw [hgd]
              simp [asAddr, hload.1, h1]
            · rcases List.mem_cons.1 hu with rfl | hu
              · exact hload.2
              · exact h2 u hu
    · cases h

theorem results_sound {s : St} {D : Nat → Prop} {r : Ren} {g : GS} {a : Act} {w : World} (hsub : Sub s g) (hrel : Rel cx.P D r g a w) {fn : Func} {vs : List Value} (h : resVals cx s fn.results.toList = some vs) :
    (results fn a.tmps).run cx.P w = .ok (ren r (resVal vs)) w ∧ Vok D (resVal vs) := by
  obtain ⟨h1, h2⟩ := resVals_sound hsub hrel h
  have hm : (fn.results.mapM (resOne a.tmps)).run cx.P w = .ok (vs.map (ren r)).toArray w := by
    rw [Array.mapM_eq_mapM_toList]
    simp only [Sem.run_map]
    rw [h1]
    rfl
  have hres : (results fn a.tmps).run cx.P w = ((fn.results.mapM (resOne a.tmps)).run cx.P w).andThen fun vs w' => .ok (if h : vs.size = 1 then vs[0] else .tuple vs) w' := by
    unfold results
    simp only [Sem.run_bind]
    rfl
  rw [hres, hm]
  simp only [Result.andThen_ok]
  match vs, h2 with
  | [], _ => exact ⟨by simp [resVal], by simp only [resVal]; exact .tuple (by simp)⟩
  | [v], h2 => exact ⟨by simp [resVal], h2 v (by simp)⟩
  | u :: v :: vs, h2 => exact ⟨by simp [resVal], by simp only [resVal]; exact .tuple (fun x hx => h2 x (by simpa using hx))⟩

theorem callFn_sound (hcx : CtxOk cx) {n : Nat} (ih : ∀ f c s e s', exec cx n f c s = some (e, s') → Sound cx n f c s e s') : CallsOk cx (callFn cx (exec cx n)) := by
  intro f args hp E ob h hob
  unfold callFn at h
  split at h
  · rename_i E' hE
    cases h
    exact hcx.con f args hp E hE
  · split at h
    · cases h
    · rename_i fn hfn
      split at h
      · cases h
      · rename_i c hbody
        generalize hhp0 : restrict (Globs.G.map (·.2) ++ reachFrom hp 10000 (args.flatMap addrsOf) []) hp 0 = hp0 at h
        dsimp only at h
        split at h
        · cases h
        · cases h
        · rename_i e s hne hrun
          split at h
          · cases h
          · rename_i vs hvs
            cases h
            obtain ⟨f1, f2⟩ := hcx.fns f fn hfn
            refine ⟨f2, fun D r g w hrd hfr hc hargs => ?_⟩
            obtain ⟨hstep, hsnd⟩ := ih _ _ _ _ _ hrun
            have hlen0 : hp0.length = hp.length := by rw [← hhp0]; exact restrict_length _ _ _
            have hslen : hp.length ≤ s.heap.length := by have := hstep.len; simp only at this; omega
            have hhi : (Eff.mk (resVal vs) (known hp0 0) (changed s.dirty hp.length s.heap 0)).hi hp.length = s.heap.length := by
              show hp.length + _ = _
              rw [changed_count]
              simp
              omega
            rw [hhi] at hfr ⊢
            let s0 : St := ⟨args ++ List.replicate (fn.ntmps - args.length) undef, hp0, [], []⟩
            let g0 : GS := fun | .tm t => s0.gs (.tm t) | .bk b => g (.bk b)
            have hsub : Sub s0 g0 := ⟨fun _ => rfl, fun b ob hb => by
              have h1 : hp.get b = some ob := by
                have hb' : hp0.get b = some ob := hb
                rw [← hhp0] at hb'
                exact restrict_get _ _ _ _ _ hb'
              have h2 := hrd b (by have := known_mem hp0 0 b ob hb; simpa using this)
              show g (.bk b) = some ob
              rw [h2, h1]⟩
            have hc0 : CRel cx.P D r g0 w := crel_tm hc (fun _ => rfl)
            let a0 : Act := { tmps := (args.map (ren r)).toArray ++ Array.replicate (fn.ntmps - (args.map (ren r)).toArray.size) undef, defers := [] }
            have hund : ren r undef = undef := by simp [undef]
            have htm : ∀ t : Nat, a0.tmps[t]? = (s0.tmps[t]?).map (ren r) := by
              intro t
              have e1 : a0.tmps = (s0.tmps.map (ren r)).toArray := by
                apply Array.ext'
                simp [a0, s0, hund]
              rw [e1]
              simp
            have ht0 : TRel D r g0 a0 := by
              refine ⟨rfl, fun t v hv => ?_, fun t hv => ?_, fun t v hv => ?_⟩
              · rw [htm]; show (s0.tmps[t]?).map (ren r) = _
                have : s0.tmps[t]? = some v := hv
                rw [this]; rfl
              · rw [htm]
                have : s0.tmps[t]? = none := hv
                rw [this]; rfl
              · have hv' : s0.tmps[t]? = some v := hv
                have hm := List.mem_of_getElem? hv'
                rcases List.mem_append.1 hm with hm | hm
                · exact hargs v hm
                · rw [List.mem_replicate] at hm
                  rw [hm.2]
                  exact .tuple (by simp)
            refine calls_of_wp f1 hbody ?_
            have hmain := hsnd hob g0 D r a0 w (bodyPost cx.P fn fun e w' => ∃ r', e = .returned (ren r' (resVal vs)) ∧ CRel cx.P (In hp.length s.heap.length D) r' (apps (Eff.us ⟨resVal vs, known hp0 0, changed s.dirty hp.length s.heap 0⟩) g) w' ∧ Ext D r g w r' (apps (Eff.us ⟨resVal vs, known hp0 0, changed s.dirty hp.length s.heap 0⟩) g) w' ∧ Vok (In hp.length s.heap.length D) (resVal vs)) hsub (fun b h1 h2 => hfr b (by rw [← hlen0]; exact h1) h2) ⟨hc0, ht0⟩ ?_
            · exact hmain.1
            · intro r' g' a' w' hpost hrel hext
              simp only [hlen0] at hrel
              obtain ⟨q1, q2⟩ := results_sound (hpost.sub hstep) hrel hvs
              have hg' : ∀ b, apps (Eff.us ⟨resVal vs, known hp0 0, changed s.dirty hp.length s.heap 0⟩) g (.bk b) = g' (.bk b) := by
                intro b
                show apps ((changed s.dirty hp.length s.heap 0).map fun p => Upd.bk p.1 p.2) g (.bk b) = _
                rw [changed_apps]
                simp only [Nat.zero_le, Nat.zero_add, Nat.sub_zero, true_and]
                by_cases hkn : Kn s0 b ∨ (s0.heap.length ≤ b ∧ b < s.heap.length)
                · rw [hpost.kn b hkn]
                  split
                  · rfl
                  · rename_i hcond
                    have hlt : b < hp.length := by
                      rcases hkn with hk | hk
                      · have := hk.lt; simp only [s0] at this; omega
                      · exfalso; apply hcond; simp only [s0] at hk; exact ⟨hk.2, .inl (by omega)⟩
                    have hnd : b ∉ s.dirty := fun hd => hcond ⟨by omega, .inr hd⟩
                    have hsame := hstep.same b (by show b < hp0.length; omega) hnd
                    rcases hkn with ⟨ob, hob⟩ | hk
                    · rw [hsame, hob]
                      exact hsub.kn b ob hob
                    · exfalso; simp only [s0] at hk; omega
                · rw [hpost.other b hkn]
                  rw [if_neg]
                  rintro ⟨h1, h2⟩
                  rcases h2 with h2 | h2
                  · exact hkn (.inr ⟨by simp only [s0]; omega, h1⟩)
                  · rcases hstep.dkn b h2 with h3 | h3 | h3
                    · simp at h3
                    · exact hkn (.inr ⟨h3, h1⟩)
                    · exact hkn (.inl h3)
              have hres : a'.defers = [] ∧ ∃ v, (results fn a'.tmps).run cx.P w' = .ok v w' ∧ ∃ r', Ending.returned v = .returned (ren r' (resVal vs)) ∧ CRel cx.P (In hp.length s.heap.length D) r' (apps (Eff.us ⟨resVal vs, known hp0 0, changed s.dirty hp.length s.heap 0⟩) g) w' ∧ Ext D r g w r' (apps (Eff.us ⟨resVal vs, known hp0 0, changed s.dirty hp.length s.heap 0⟩) g) w' ∧ Vok (In hp.length s.heap.length D) (resVal vs) := by
                refine ⟨hrel.t.defers, _, q1, r', rfl, crel_tm hrel.c hg', ?_, q2⟩
                exact ⟨hext.agree, fun b ob hb => hext.new b ob (by rw [← hg']; exact hb), hext.frame, hext.size, hext.os, hext.tape, hext.output⟩
              cases e with
              | normal => exact hres
              | ret => exact hres
              | exit id => exact (hne id rfl).elim

theorem sound_all (hcx : CtxOk cx) : ∀ n f c s e s', exec cx n f c s = some (e, s') → Sound cx n f c s e s' :=
  exec_sound hcx (fun n ih => callFn_sound hcx ih)

/-- WHAT A SHADOW RUN SAYS of the real call. -/
theorem call_sound (hcx : CtxOk cx) (n : Nat) {f : Nat} {args : List Value} {hp : Hp} {E : Eff} {ob : Obl} (h : callFn cx (exec cx n) f args hp = some (E, ob)) (hob : ∀ p ∈ ob, p.1 = p.2) : CallSound cx.P f args hp E :=
  callFn_sound hcx (sound_all hcx n) f args hp E ob h hob
end
end Go.Sx

/-
Shadow runs: contracts of functions that touch no memory of their callers.
-/
namespace Go.Sx
open Go
set_option linter.unusedVariables false
set_option linter.unusedSimpArgs false
set_option linter.unusedSectionVars false
variable [Globs]
open Go.RowKit

theorem enter_of {P : Program} {f : Nat} {fn : Func} (h : P.funcs[f]? = some fn) (hn : (fn.name == "runtime.NumGoroutine") = false) (hb : fn.body.isSome = true) :
    ∀ (vs : Array Value) (w : World), (callFunc f vs).run P w = .ok (.enter f vs) w := by
  intro vs w
  obtain ⟨c, hc⟩ := Option.isSome_iff_exists.1 hb
  have hn' : fn.name ≠ "runtime.NumGoroutine" := by simpa using hn
  simp [callFunc, program, Sem.run, h, hn', hc]

/-- One that bears no address. -/
def Flat (v : Value) : Prop := Vok (fun _ => False) v
theorem Flat.ren {v : Value} (h : Flat v) (r r' : Ren) : ren r v = ren r' v := ren_congr (D := fun _ => False) (fun _ h => h.elim) h
theorem Flat.ok {v : Value} (h : Flat v) (D : Nat → Prop) : Vok D v := h.mono fun _ h => h.elim

def Ren.id : Ren := ⟨fun b => b, fun _ => 0, fun _ => 0⟩
theorem map_same {f : Value → Value} {cs : Array Value} (h : ∀ v ∈ cs, f v = v) : cs.map f = cs := by
  have : cs.map f = cs.map id := Array.map_congr_left h
  rw [this, Array.map_id]
theorem ren_id {v : Value} (h : Flat v) : Sx.ren Ren.id v = v := by
  induction h with
  | bool b => simp
  | int h => simp
  | string s => simp
  | ptr h => exact h.elim
  | ptrNil => simp
  | slc h => exact h.elim
  | slcNil l c => simp
  | func _ _ i1 i2 => rw [ren_func, map_same i1, map_same i2]
  | nilFunc => simp
  | nilIface => simp
  | agg _ ih => rw [ren_agg, map_same ih]
  | tuple _ ih => rw [ren_tuple, map_same ih]
theorem Flat.same {v : Value} (h : Flat v) (r : Ren) : Sx.ren r v = v := (h.ren r Ren.id).trans (ren_id h)

theorem flat_args {args : List Value} (h : ∀ v ∈ args, Flat v) (r : Ren) : args.map (Sx.ren r) = args := by
  conv => rhs; rw [← List.map_id args]
  exact List.map_congr_left fun v hv => (h v hv).same r

/-- A function that leaves all memory as it was, and hands no address back. -/
theorem sound_of_below {P : Program} {f : Nat} {args : List Value} {v : Value} (hf : ∀ (vs : Array Value) (w : World), (callFunc f vs).run P w = .ok (.enter f vs) w) (ha : (∀ v ∈ args, Flat v) → Flat v)
    (hflat : ∀ D, (∀ v ∈ args, Vok D v) → ∀ v ∈ args, Flat v)
    (h : (∀ v ∈ args, Flat v) → ∀ w, Calls P f args.toArray w fun e w' => e = .returned v ∧ Below w.heap.size w w') (hp : Hp) : CallSound P f args hp ⟨v, [], []⟩ := by
  refine ⟨hf, fun D r g w hrd hfr hc hargs => ?_⟩
  have hfa := hflat D hargs
  rw [flat_args hfa r]
  refine (h hfa w).mono fun e w' ⟨he, hb⟩ => ?_
  rw [hi_none]
  refine ⟨r, ?_, ?_, ?_, (ha hfa).ok _⟩
  · rw [(ha hfa).same r]; exact he
  · refine CRel.weaken (D := D) ⟨fun b ob hbb => ?_, hc.dom, hc.ok, hc.inj, hc.glob⟩ In.of
    obtain ⟨arr, fz, h1, rest⟩ := hc.blk b ob hbb
    exact ⟨arr, fz, by rw [hb.block _ (hc.lt hbb)]; exact h1, rest⟩
  · exact ⟨fun _ _ => Agree.refl _ _, fun b ob hbb => .inl ⟨b, ob, hbb, rfl⟩, fun k hk _ => hb.block k hk, hb.size, hb.os, hb.tape, hb.output⟩

/-- The same, told by a shadow run from no memory at all. -/
theorem below_of_run {cx : Ctx} (hg : Globs.G = []) (hcx : CtxOk cx) (n : Nat) {f : Nat} {args : List Value} {v : Value} {ob : Obl} (h : (callFn cx (exec cx n) f args []).map (fun p => (p.1.val, p.2)) = some (v, ob)) (hob : ∀ p ∈ ob, p.1 = p.2)
    (ha : ∀ v ∈ args, Flat v) (hv : Flat v) (w : World) : Calls cx.P f args.toArray w fun e w' => e = .returned v ∧ Below w.heap.size w w' := by
  cases hc : callFn cx (exec cx n) f args [] with
  | none => rw [hc] at h; cases h
  | some p =>
    obtain ⟨E, ob'⟩ := p
    rw [hc] at h
    simp only [Option.map_some, Option.some.injEq, Prod.mk.injEq] at h
    obtain ⟨h1, rfl⟩ := h
    have hs := (call_sound hcx n hc hob).2 (fun _ => False) Ren.id (fun l => match l with | .tm _ => none | .bk _ => none) w (fun b hb => by simp [Hp.get]) (fun _ _ _ h => h)
      ⟨fun b ob h => by simp at h, fun b ob h => by simp at h, fun b ob h => by simp at h, fun b b' ob ob' h => by simp at h, fun gl b h => by rw [hg] at h; simp [look] at h⟩ (fun v hv => ha v hv)
    rw [flat_args ha] at hs
    refine hs.mono fun e w' ⟨r', he, _, hext, _⟩ => ⟨?_, ?_⟩
    · rw [he, h1, hv.same]
    · exact ⟨hext.os, hext.tape, hext.output, hext.size, fun k hk => hext.frame k hk fun b ob hb => by simp at hb⟩

theorem findFn_mem : ∀ {T : List (Nat × Func)} {f : Nat} {fn : Func}, findFn T f = some fn → (f, fn) ∈ T
  | [], f, fn, h => by simp [findFn] at h
  | (g, fn') :: T, f, fn, h => by
    simp only [findFn] at h
    split at h
    · rename_i hg
      simp at hg
      cases h
      subst hg
      exact List.mem_cons_self
    · exact List.mem_cons_of_mem _ (findFn_mem h)

def FnOk (P : Program) (p : Nat × Func) : Prop := P.funcs[p.1]? = some p.2 ∧ (p.2.name == "runtime.NumGoroutine") = false ∧ p.2.body.isSome = true

theorem ctx_ok {cx : Ctx} (hm : cx.P.follows .mixedOrders = true) (hT : ∀ p ∈ cx.T, FnOk cx.P p) (hC : ∀ f args hp E, cx.C f args hp = some E → CallSound cx.P f args hp E) : CtxOk cx :=
  ⟨hm, fun f fn h => by
    obtain ⟨h1, h2, h3⟩ := hT _ (findFn_mem h)
    exact ⟨h1, enter_of h1 h2 h3⟩, hC⟩

def noCon : Con := fun _ _ _ => none
theorem noCon_sound {P : Program} : ∀ f args hp E, noCon f args hp = some E → CallSound P f args hp E := fun _ _ _ _ h => by cases h

theorem fnsAll_nil {P : Program} : ∀ p ∈ ([] : List (Nat × Func)), FnOk P p := fun _ h => by cases h
theorem fnsAll_cons {P : Program} {f : Nat} {fn : Func} {T : List (Nat × Func)} (h : P.funcs[f]? = some fn) (hn : (fn.name == "runtime.NumGoroutine") = false) (hb : fn.body.isSome = true) (ht : ∀ p ∈ T, FnOk P p) : ∀ p ∈ (f, fn) :: T, FnOk P p := by
  intro p hp
  rcases List.mem_cons.1 hp with rfl | hp
  · exact ⟨h, hn, hb⟩
  · exact ht p hp

/-- A law without arguments that a shadow run answers. -/
theorem law_of_run {cx : Ctx} (hg : Globs.G = []) (hcx : CtxOk cx) (n : Nat) {f : Nat} (h : (callFn cx (exec cx n) f [] []).map (fun p => (p.1.val, p.2)) = some (.bool true, [])) (w : World) :
    Calls cx.P f #[] w fun e w' => e = .returned (.bool true) ∧ Below w.heap.size w w' :=
  below_of_run hg hcx n h (fun p hp => by cases hp) (fun v hv => by cases hv) (.bool true) w

/-! ### answers that are known -/
def eqS : Value → Value → Bool
  | .int k n, .int k' m => decide (k = k') && decide (n = m)
  | .bool a, .bool b => match a, b with | true, true => true | false, false => true | _, _ => false
  | _, _ => false
def eqSs : List Value → List Value → Bool
  | [], [] => true
  | a :: l, b :: m => match eqS a b with | true => eqSs l m | false => false
  | _, _ => false
def eqA : Value → Value → Bool
  | .agg ⟨l⟩, .agg ⟨m⟩ => eqSs l m
  | a, b => eqS a b
def eqAs : List Value → List Value → Bool
  | [], [] => true
  | a :: l, b :: m => match eqA a b with | true => eqAs l m | false => false
  | _, _ => false
theorem eqS_eq {a b : Value} (h : eqS a b = true) : a = b := by
  unfold eqS at h
  split at h
  · simp only [Bool.and_eq_true, decide_eq_true_eq] at h; rw [h.1, h.2]
  · split at h <;> first | rfl | cases h
  · cases h
theorem eqSs_eq : ∀ {l m : List Value}, eqSs l m = true → l = m
  | [], [], _ => rfl
  | [], _ :: _, h => by cases h
  | _ :: _, [], h => by cases h
  | a :: l, b :: m, h => by
    simp only [eqSs] at h
    split at h
    · rename_i hab
      rw [eqS_eq hab, eqSs_eq h]
    · cases h
theorem eqA_eq {a b : Value} (h : eqA a b = true) : a = b := by
  unfold eqA at h
  split at h
  · rw [eqSs_eq h]
  · exact eqS_eq h
theorem eqAs_eq : ∀ {l m : List Value}, eqAs l m = true → l = m
  | [], [], _ => rfl
  | [], _ :: _, h => by cases h
  | _ :: _, [], h => by cases h
  | a :: l, b :: m, h => by
    simp only [eqAs] at h
    split at h
    · rename_i hab
      rw [eqA_eq hab, eqAs_eq h]
    · cases h

/-- A function at given arguments, and its answer. -/
structure Memo where
  f : Nat
  args : List Value
  val : Value
def memoCon (base : Con) : List Memo → Con
  | [] => base
  | m :: ms => fun f args hp => match decide (f = m.f) && eqAs args m.args with
    | true => some ⟨m.val, [], []⟩
    | false => memoCon base ms f args hp
structure MemoOk (P : Program) (m : Memo) : Prop where
  enter : ∀ (vs : Array Value) (w : World), (callFunc m.f vs).run P w = .ok (.enter m.f vs) w
  args : ∀ v ∈ m.args, Flat v
  val : Flat m.val
  calls : ∀ w, Calls P m.f m.args.toArray w fun e w' => e = .returned m.val ∧ Below w.heap.size w w'
theorem memo_sound {P : Program} {base : Con} (hb : ∀ f args hp E, base f args hp = some E → CallSound P f args hp E) : ∀ {M : List Memo}, (∀ m ∈ M, MemoOk P m) → ∀ f args hp E, memoCon base M f args hp = some E → CallSound P f args hp E
  | [], _, f, args, hp, E, h => hb f args hp E h
  | m :: ms, hM, f, args, hp, E, h => by
    simp only [memoCon] at h
    split at h
    · rename_i hc
      simp only [Bool.and_eq_true, decide_eq_true_eq] at hc
      obtain ⟨rfl, ha⟩ := hc
      have := eqAs_eq ha
      subst this
      cases h
      obtain ⟨h1, h2, h3, h4⟩ := hM m (by simp)
      exact sound_of_below h1 (fun _ => h3) (fun _ _ => h2) (fun _ => h4) hp
    · exact memo_sound hb (fun m' hm' => hM m' (List.mem_cons_of_mem _ hm')) f args hp E h
def flatB (v : Value) : Bool := constOk v
theorem flat_of {v : Value} (h : constOk v = true) : Flat v := (const_ok h).1
theorem memoOk_of_run {cx : Ctx} (hg : Globs.G = []) (hcx : CtxOk cx) (n : Nat) {m : Memo} (he : ∀ (vs : Array Value) (w : World), (callFunc m.f vs).run cx.P w = .ok (.enter m.f vs) w)
    (h : (callFn cx (exec cx n) m.f m.args []).map (fun p => (p.1.val, p.2)) = some (m.val, [])) (ha : (m.args.all constOk) = true) (hv : constOk m.val = true) : MemoOk cx.P m :=
  ⟨he, fun v hv => flat_of (List.all_eq_true.1 ha v hv), flat_of hv, fun w => below_of_run hg hcx n h (fun p hp => by cases hp) (fun v hv => flat_of (List.all_eq_true.1 ha v hv)) (flat_of hv) w⟩
end Go.Sx
