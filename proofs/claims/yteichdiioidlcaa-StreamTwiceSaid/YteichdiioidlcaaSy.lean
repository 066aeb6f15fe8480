/-
Shadow runs: a run of the program over small names of blocks, in the order of its text, computed by the kernel, and the theorem that what it says holds of the model whatever order is drawn, whatever numbers the blocks have, whatever room append leaves (first part: the operations).
-/
import Derived.Orders
import Derived.Laws.IdiomCopy
import Derived.Laws.AppendOwn
import Derived.KernelRfl
import Derived.Laws.CopyRow
import Derived.Below
import Derived.Laws.Entries
import Derived.ChangeKeysEq
import Derived.Laws.Tables
import Derived.ArgAppend
import Derived.Laws.BytesString

/-
Shadow runs: what a run does is computed over small names of blocks, in the text's order, and holds of the real world whatever the order, the numbers of blocks and the room of appended slices. Names, states, and regions whose order is drawn.
-/
namespace Go.Sx
open Go
set_option linter.unusedVariables false
set_option linter.unusedSimpArgs false
set_option linter.unusedSectionVars false

/-- Names of blocks, renamed: where a block lies, how many elements more there is room for, and at which cell it begins. -/
structure Ren where
  blk : Nat → Nat
  xtra : Nat → Nat
  sh : Nat → Nat

def Ren.addr (r : Ren) (a : Addr) : Addr := ⟨r.blk a.block, a.off + r.sh a.block, none⟩

/-- The room that isn't known: none where a slice bears a mark. -/
def Ren.xt (r : Ren) (a : Addr) : Nat :=
  match a.spot with
  | none => r.xtra a.block
  | some _ => 0

def ren (r : Ren) : Value → Value
  | .pointer (some a) => .pointer (some (r.addr a))
  | .slice (some a) l c => .slice (some (r.addr a)) l (c + r.xt a)
  | .func fn first captured => .func fn (first.map (ren r)) (captured.map (ren r))
  | .iface t v => .iface t (ren r v)
  | .agg cs => .agg (cs.map (ren r))
  | .tuple vs => .tuple (vs.map (ren r))
  | v => v

/-- Values whose numbers are of their kinds and whose blocks have names in D. -/
inductive Vok (D : Nat → Prop) : Value → Prop
  | bool (b : Bool) : Vok D (.bool b)
  | int {k : IntKind} {n : Int} (h : k.min ≤ n ∧ n ≤ k.max) : Vok D (.int k n)
  | string (s : ByteArray) : Vok D (.string s)
  | ptr {b o : Nat} (h : D b) : Vok D (.pointer (some ⟨b, o, none⟩))
  | ptrNil : Vok D (.pointer none)
  | slc {b o l c : Nat} {sp : Option Nat} (h : D b) : Vok D (.slice (some ⟨b, o, sp⟩) l c)
  | slcNil (l c : Nat) : Vok D (.slice none l c)
  | func {fn : Fn} {first captured : Array Value} (h1 : ∀ v ∈ first, Vok D v) (h2 : ∀ v ∈ captured, Vok D v) : Vok D (.func fn first captured)
  | nilFunc : Vok D .nilFunc
  | nilIface : Vok D .nilIface
  | agg {cs : Array Value} (h : ∀ v ∈ cs, Vok D v) : Vok D (.agg cs)
  | tuple {cs : Array Value} (h : ∀ v ∈ cs, Vok D v) : Vok D (.tuple cs)

theorem Vok.mono {D D' : Nat → Prop} (hd : ∀ b, D b → D' b) {v : Value} (h : Vok D v) : Vok D' v := by
  induction h with
  | bool b => exact .bool b
  | int h => exact .int h
  | string s => exact .string s
  | ptr h => exact .ptr (hd _ h)
  | ptrNil => exact .ptrNil
  | slc h => exact .slc (hd _ h)
  | slcNil l c => exact .slcNil l c
  | func _ _ i1 i2 => exact .func i1 i2
  | nilFunc => exact .nilFunc
  | nilIface => exact .nilIface
  | agg _ ih => exact .agg ih
  | tuple _ ih => exact .tuple ih

/-- Two renamings that do the same with a name. -/
structure Agree (r r' : Ren) (b : Nat) : Prop where
  blk : r'.blk b = r.blk b
  xtra : r'.xtra b = r.xtra b
  sh : r'.sh b = r.sh b
theorem Agree.refl (r : Ren) (b : Nat) : Agree r r b := ⟨rfl, rfl, rfl⟩
theorem Agree.trans {r r1 r2 : Ren} {b : Nat} (h : Agree r r1 b) (k : Agree r1 r2 b) : Agree r r2 b := ⟨k.blk.trans h.blk, k.xtra.trans h.xtra, k.sh.trans h.sh⟩

theorem ren_congr {D : Nat → Prop} {r r' : Ren} (hd : ∀ b, D b → Agree r r' b) {v : Value} (h : Vok D v) : ren r' v = ren r v := by
  induction h with
  | bool b => simp [ren]
  | int h => simp [ren]
  | string s => simp [ren]
  | ptr h => simp [ren, Ren.addr, (hd _ h).blk, (hd _ h).sh]
  | ptrNil => simp [ren]
  | slc h => simp [ren, Ren.addr, Ren.xt, (hd _ h).blk, (hd _ h).sh, (hd _ h).xtra]
  | slcNil l c => simp [ren]
  | func _ _ i1 i2 =>
    simp only [ren]
    congr 1
    · exact Array.map_congr_left i1
    · exact Array.map_congr_left i2
  | nilFunc => simp [ren]
  | nilIface => simp [ren]
  | agg _ ih => simp only [ren]; congr 1; exact Array.map_congr_left ih
  | tuple _ ih => simp only [ren]; congr 1; exact Array.map_congr_left ih

/-- Places: temporaries and blocks. -/
inductive Loc where
  | tm (t : Nat)
  | bk (b : Nat)


/-- How a block is known: ex: whole; op: whole, but for room behind it; rw: a part, that may be written; ro: a part. -/
inductive Knd where
  | ex | op | rw | ro

/-- A block as it is known: its elements' type, its cells. -/
structure SObj where
  elem : TypeId
  cells : List Value
  knd : Knd

abbrev Loc.Val : Loc → Type
  | .tm _ => Option Value
  | .bk _ => Option SObj

abbrev GS := (l : Loc) → l.Val

inductive Upd where
  | tm (t : Nat) (v : Value)
  | bk (b : Nat) (o : Option SObj)

def Upd.loc : Upd → Loc
  | .tm t _ => .tm t
  | .bk b _ => .bk b

def Upd.app : Upd → GS → GS
  | .tm t v, g => fun
    | .tm s => if s = t then some v else g (.tm s)
    | .bk b => g (.bk b)
  | .bk b o, g => fun
    | .tm s => g (.tm s)
    | .bk c => if c = b then o else g (.bk c)

def apps (us : List Upd) (g : GS) : GS := us.foldl (fun g u => u.app g) g

theorem Upd.app_other {u : Upd} {l : Loc} (h : u.loc ≠ l) (g : GS) : u.app g l = g l := by
  cases u <;> cases l <;> simp_all [Upd.app, Upd.loc] <;> (intro h'; simp_all)

theorem Upd.app_own (u : Upd) (g g' : GS) : u.app g u.loc = u.app g' u.loc := by
  cases u <;> simp [Upd.app, Upd.loc]

theorem apps_other {us : List Upd} {l : Loc} (h : ∀ u ∈ us, u.loc ≠ l) (g : GS) : apps us g l = g l := by
  induction us generalizing g with
  | nil => rfl
  | cons u us ih =>
    show apps us (u.app g) l = g l
    rw [ih (fun v hv => h v (by simp [hv])), Upd.app_other (h u (by simp))]

theorem apps_agree (us : List Upd) {g g' : GS} {l : Loc} (h : g l = g' l) : apps us g l = apps us g' l := by
  induction us generalizing g g' with
  | nil => exact h
  | cons u us ih =>
    show apps us (u.app g) l = apps us (u.app g') l
    refine ih ?_
    by_cases hl : u.loc = l
    · subst hl; exact u.app_own g g'
    · rw [Upd.app_other hl, Upd.app_other hl, h]

theorem apps_const {us : List Upd} {l : Loc} (h : ∃ u ∈ us, u.loc = l) (g g' : GS) : apps us g l = apps us g' l := by
  induction us generalizing g g' with
  | nil => obtain ⟨u, hu, _⟩ := h; cases hu
  | cons u us ih =>
    by_cases hl : u.loc = l
    · subst hl
      exact apps_agree us (u.app_own g g')
    · obtain ⟨v, hv, hvl⟩ := h
      rcases List.mem_cons.1 hv with rfl | hv
      · exact absurd hvl hl
      · exact ih ⟨v, hv, hvl⟩ _ _

/-- What one operation did: the places that it looked at, what it wrote, and which names it gave. -/
structure Rec where
  reads : List Loc
  upds : List Upd
  lo : Nat
  hi : Nat

def Rec.app (R : Rec) (g : GS) : GS := apps R.upds g
def Rec.wr (R : Rec) (l : Loc) : Prop := ∃ u ∈ R.upds, u.loc = l

theorem Rec.app_const {R : Rec} {l : Loc} (h : R.wr l) (g g' : GS) : R.app g l = R.app g' l := apps_const h g g'
theorem Rec.app_other {R : Rec} {l : Loc} (h : ¬ R.wr l) (g : GS) : R.app g l = g l := apps_other (fun u hu e => h ⟨u, hu, e⟩) g
theorem Rec.app_agree (R : Rec) {g g' : GS} {l : Loc} (h : g l = g' l) : R.app g l = R.app g' l := apps_agree _ h

/-- The state behind those operations that A lists, in the text's order. -/
def accum (R : Nat → Rec) (A : Nat → Bool) (g : GS) : Nat → GS
  | 0 => g
  | k + 1 => if A k then (R k).app (accum R A g k) else accum R A g k

theorem accum_same {R : Nat → Rec} {A B : Nat → Bool} {g : GS} {l : Loc} : ∀ n, (∀ k, k < n → A k ≠ B k → ¬ (R k).wr l) → accum R A g n l = accum R B g n l
  | 0, _ => rfl
  | n + 1, h => by
    have ih := accum_same (R := R) (A := A) (B := B) (g := g) (l := l) n (fun k hk => h k (by omega))
    have hn := h n (by omega)
    simp only [accum]
    cases hA : A n <;> cases hB : B n <;> simp only [hA, hB, if_true, if_false, Bool.false_eq_true] at hn ⊢
    · exact ih
    · rw [Rec.app_other (hn (by simp))]; exact ih
    · rw [Rec.app_other (hn (by simp))]; exact ih
    · exact Rec.app_agree _ ih

def Apart (R S : Rec) : Prop := ∀ l, (R.wr l → l ∉ S.reads ∧ ¬ S.wr l) ∧ (S.wr l → l ∉ R.reads)

theorem accum_put {R : Nat → Rec} {A : Nat → Bool} {g : GS} {j n : Nat} (hj : j < n) (hA : A j = false) (hap : ∀ k, k < n → j < k → A k = true → Apart (R j) (R k)) :
    accum R (fun k => A k || k == j) g n = (R j).app (accum R A g n) := by
  funext l
  by_cases hw : (R j).wr l
  · have key : ∀ m, j < m → m ≤ n → accum R (fun k => A k || k == j) g m l = (R j).app g l := by
      intro m
      induction m with
      | zero => intro h; omega
      | succ m ih =>
        intro hjm hmn
        simp only [accum]
        by_cases hmj : m = j
        · subst hmj
          simp
          exact Rec.app_const hw _ _
        · have hlt : j < m := by omega
          have := ih hlt (by omega)
          by_cases hAm : A m = true
          · rw [if_pos (by simp [hAm]), Rec.app_other (((hap m (by omega) hlt hAm) l).1 hw).2, this]
          · rw [if_neg (by simp [hAm, hmj]), this]
    rw [key n hj (Nat.le_refl _)]
    exact Rec.app_const hw _ _
  · rw [Rec.app_other hw]
    refine accum_same n fun k hk hne => ?_
    have : k = j := by
      by_cases h : k = j
      · exact h
      · simp [h] at hne
    subst this
    exact hw

/-- Variables of packages that are known, and their names. -/
class Globs where
  G : List (Nat × Nat)

def look : List (Nat × Nat) → Nat → Option Nat
  | [], _ => none
  | (a, b) :: rest, g => match Nat.beq a g with
    | true => some b
    | false => look rest g

variable [Globs]

/-- How much is known of a block beside its cells. -/
def Fits (P : Program) (r : Ren) (b : Nat) (ob : SObj) (size : Nat) (fz : Nat × Nat) : Prop :=
  match ob.knd with
  | .ex => r.sh b = 0 ∧ r.xtra b = 0 ∧ size = ob.cells.length ∧ (fz.1 = fz.2 ∨ size ≤ fz.1)
  | .op => r.sh b = 0 ∧ size = ob.cells.length + r.xtra b * P.cellsOf ob.elem ∧ (fz.1 = fz.2 ∨ size ≤ fz.1)
  | .rw => ∀ o, o < ob.cells.length → ¬ (fz.1 ≤ r.sh b + o ∧ r.sh b + o < fz.2)
  | .ro => True

/-- The world has the blocks that are known, under the names' numbers. -/
structure CRel (P : Program) (D : Nat → Prop) (r : Ren) (g : GS) (w : World) : Prop where
  blk : ∀ b ob, g (.bk b) = some ob → ∃ arr fz, w.heap[r.blk b]? = some (.cells arr ob.elem fz) ∧ (arr.toList.drop (r.sh b)).take ob.cells.length = ob.cells.map (ren r) ∧ Fits P r b ob arr.size fz
  dom : ∀ b ob, g (.bk b) = some ob → D b
  ok : ∀ b ob, g (.bk b) = some ob → ∀ v ∈ ob.cells, Vok D v
  inj : ∀ b b' ob ob', g (.bk b) = some ob → g (.bk b') = some ob' → r.blk b = r.blk b' → b = b'
  glob : ∀ gl b, look Globs.G gl = some b → (r.blk b = gl ∧ r.sh b = 0) ∧ D b

structure TRel (D : Nat → Prop) (r : Ren) (g : GS) (a : Act) : Prop where
  defers : a.defers = []
  tmp : ∀ t v, g (.tm t) = some v → a.tmps[t]? = some (ren r v)
  none : ∀ t, g (.tm t) = none → a.tmps[t]? = none
  ok : ∀ t v, g (.tm t) = some v → Vok D v

structure Ext (D : Nat → Prop) (r : Ren) (g : GS) (w : World) (r' : Ren) (g' : GS) (w' : World) : Prop where
  agree : ∀ b, D b → Agree r r' b
  new : ∀ b ob, g' (.bk b) = some ob → (∃ b0 o0, g (.bk b0) = some o0 ∧ r'.blk b = r.blk b0) ∨ w.heap.size ≤ r'.blk b
  frame : ∀ k, k < w.heap.size → (∀ b ob, g (.bk b) = some ob → r.blk b ≠ k) → w'.heap[k]? = w.heap[k]?
  size : w.heap.size ≤ w'.heap.size
  os : w'.os = w.os
  tape : w'.tape = w.tape
  output : w'.output = w.output

theorem CRel.lt {P : Program} {D : Nat → Prop} {r : Ren} {g : GS} {w : World} (h : CRel P D r g w) {b : Nat} {ob : SObj} (hb : g (.bk b) = some ob) : r.blk b < w.heap.size := by
  obtain ⟨arr, fz, ha, _⟩ := h.blk b ob hb
  exact (Array.getElem?_eq_some_iff.1 ha).1

theorem Ext.refl {P : Program} {D : Nat → Prop} {r : Ren} {g : GS} {w : World} : Ext D r g w r g w :=
  ⟨fun _ _ => Agree.refl _ _, fun b ob h => .inl ⟨b, ob, h, rfl⟩, fun _ _ _ => rfl, Nat.le_refl _, rfl, rfl, rfl⟩

theorem Ext.trans {D D1 : Nat → Prop} {r r1 r2 : Ren} {g g1 g2 : GS} {w w1 w2 : World} (h : Ext D r g w r1 g1 w1) (k : Ext D1 r1 g1 w1 r2 g2 w2) (hd : ∀ b, D b → D1 b) : Ext D r g w r2 g2 w2 where
  agree b hb := (h.agree b hb).trans (k.agree b (hd b hb))
  new b ob hb := by
    rcases k.new b ob hb with ⟨b0, o0, h0, e0⟩ | hge
    · rcases h.new b0 o0 h0 with ⟨b1, o1, h1, e1⟩ | hge
      · exact .inl ⟨b1, o1, h1, e0.trans e1⟩
      · exact .inr (by omega)
    · have := h.size; exact .inr (by omega)
  frame n hn hown := by
    have hs := h.size
    rw [k.frame n (by omega) (fun b ob hb => ?_), h.frame n hn hown]
    rcases h.new b ob hb with ⟨b0, o0, h0, e0⟩ | hge
    · rw [e0]; exact hown b0 o0 h0
    · omega
  size := Nat.le_trans h.size k.size
  os := k.os.trans h.os
  tape := k.tape.trans h.tape
  output := k.output.trans h.output

structure Rel (P : Program) (D : Nat → Prop) (r : Ren) (g : GS) (a : Act) (w : World) : Prop where
  c : CRel P D r g w
  t : TRel D r g a

def Sound1 (P : Program) (ops : Array Oper) (Q : Exit → Act → World → Prop) (i : Nat) (R : Rec) (g : GS) : Prop :=
  ∀ (D : Nat → Prop) (r : Ren) (a : Act) (w : World) (K : Act → World → Prop), (∀ b, R.lo ≤ b → b < R.hi → ¬ D b) → Rel P D r g a w →
    (∀ r' a' w', Rel P (fun b => D b ∨ (R.lo ≤ b ∧ b < R.hi)) r' (R.app g) a' w' → Ext D r g w r' (R.app g) w' → K a' w') → wpOp P ops Q i K a w

/-- Which operations stand ahead of one by the edges that bind in every mode. -/
def Ahead (ops : Array Oper) (i : Nat) (k : Nat) : Prop := ∃ o, ops[k]? = some o ∧ ∃ e ∈ o.after, Region.binds .any e = true ∧ e.on = i

theorem drew_heap (w : World) : ({ w with drawn := w.drawn + 1 } : World).heap = w.heap := rfl

def unl (listed : Array Bool) : Nat := listed.toList.count false

theorem unl_set {listed : Array Bool} {i : Nat} (hi : i < listed.size) (h : listed.getD i true = false) : unl (listed.setIfInBounds i true) + 1 = unl listed := by
  have hget : listed[i] = false := by simpa [hi] using h
  unfold unl
  rw [Array.toList_setIfInBounds, List.count_set (by simpa using hi)]
  have hpos : 0 < listed.toList.count false := by
    rw [List.count_pos_iff]
    rw [← hget]
    simp
  have e : (listed.toList[i]'(by simpa using hi)) = false := by simpa using hget
  simp [e]
  have hpos' : 0 < Array.count false listed := by simpa using hpos
  omega

/-- The least of those that are so. -/
theorem least {p : Nat → Prop} : ∀ n, p n → ∃ m, p m ∧ ∀ i, i < m → ¬ p i := by
  intro n
  induction n using Nat.strongRecOn with
  | _ n ih =>
    intro hn
    by_cases h : ∃ i, i < n ∧ p i
    · obtain ⟨i, hi, hp⟩ := h
      exact ih i hi hp
    · exact ⟨n, hn, fun i hi hp => h ⟨i, hi, hp⟩⟩

theorem region_any {P : Program} {ops : Array Oper} {Q : Exit → Act → World → Prop} {R : Nat → Rec} {g : GS} {D0 : Nat → Prop} {r0 : Ren} {w0 : World}
    (hback : ∀ k o, ops[k]? = some o → ∀ e ∈ o.after, Region.binds .any e = true → e.on < k)
    (pre : Nat → Nat → Bool)
    (hpre : ∀ j, j < ops.size → ∀ A : Nat → Bool, (∀ k, k < ops.size → A k = true → ∀ i, Ahead ops i k → A i = true) → (∀ i, Ahead ops i j → A i = true) → ∀ i, pre i j = true → A i = true)
    (hap : ∀ i j, i < j → j < ops.size → pre i j = false → Apart (R i) (R j))
    (hnew : ∀ i j, i < ops.size → j < ops.size → i ≠ j → ∀ b, (R i).lo ≤ b → b < (R i).hi → ¬ ((R j).lo ≤ b ∧ b < (R j).hi))
    (hD0 : ∀ i, i < ops.size → ∀ b, (R i).lo ≤ b → b < (R i).hi → ¬ D0 b)
    (hs : ∀ i, i < ops.size → ∀ h : GS, (∀ l ∈ (R i).reads, h l = accum R (fun k => decide (k < i)) g ops.size l) → Sound1 P ops Q i (R i) h)
    (hQ : ∀ r' a' w', Rel P (fun b => D0 b ∨ ∃ i, i < ops.size ∧ (R i).lo ≤ b ∧ b < (R i).hi) r' (accum R (fun _ => true) g ops.size) a' w' → Ext D0 r0 g w0 r' (accum R (fun _ => true) g ops.size) w' → Q .normal a' w') :
    ∀ (fuel : Nat) (listed : Array Bool) (r : Ren) (a : Act) (w : World), listed.size = ops.size → unl listed ≤ fuel →
      (∀ k, k < ops.size → listed.getD k false = true → ∀ i, Ahead ops i k → listed.getD i false = true) →
      Rel P (fun b => D0 b ∨ ∃ i, i < ops.size ∧ listed.getD i false = true ∧ (R i).lo ≤ b ∧ b < (R i).hi) r (accum R (fun k => listed.getD k false) g ops.size) a w →
      Ext D0 r0 g w0 r (accum R (fun k => listed.getD k false) g ops.size) w →
      wpAny P .any ops Q fuel listed a w := by
  -- at the end all are listed
  have hend : ∀ (listed : Array Bool) (r : Ren) (a : Act) (w : World), listed.size = ops.size → unl listed = 0 →
      Rel P (fun b => D0 b ∨ ∃ i, i < ops.size ∧ listed.getD i false = true ∧ (R i).lo ≤ b ∧ b < (R i).hi) r (accum R (fun k => listed.getD k false) g ops.size) a w →
      Ext D0 r0 g w0 r (accum R (fun k => listed.getD k false) g ops.size) w → Q .normal a w := by
    intro listed r a w hsz h0 hrel hext
    have hall : ∀ k, k < ops.size → listed.getD k false = true := by
      intro k hk
      have hk' : k < listed.size := by omega
      have hn : false ∉ listed.toList := List.count_eq_zero.1 h0
      cases hv : listed[k] with
      | true => simp [hk', hv]
      | false => exact absurd (by rw [← hv]; simp) hn
    have heq : accum R (fun k => listed.getD k false) g ops.size = accum R (fun _ => true) g ops.size := by
      funext l
      refine accum_same _ fun k hk hne => ?_
      exact absurd (hall k hk) hne
    have hdq : (fun b => D0 b ∨ ∃ i, i < ops.size ∧ listed.getD i false = true ∧ (R i).lo ≤ b ∧ b < (R i).hi) = (fun b => D0 b ∨ ∃ i, i < ops.size ∧ (R i).lo ≤ b ∧ b < (R i).hi) := by
      funext b
      apply propext
      constructor
      · rintro (h | ⟨i, hi, _, h⟩)
        · exact .inl h
        · exact .inr ⟨i, hi, h⟩
      · rintro (h | ⟨i, hi, h⟩)
        · exact .inl h
        · exact .inr ⟨i, hi, hall i hi, h⟩
    rw [heq, hdq] at hrel
    rw [heq] at hext
    exact hQ r a w hrel hext
  intro fuel
  induction fuel with
  | zero =>
    intro listed r a w hsz hfu hcl hrel hext
    refine ⟨?_, hend listed r a w hsz (by omega) hrel hext⟩
    apply List.eq_nil_iff_forall_not_mem.2
    intro j hj
    have hju := (mem_ready.1 hj).1
    have hlt : j < listed.size := by
      rcases Nat.lt_or_ge j listed.size with h | h
      · exact h
      · simp [Array.getElem?_eq_none h] at hju
    have := unl_set hlt hju
    omega
  | succ fuel ih =>
    intro listed r a w hsz hfu hcl hrel hext
    refine ⟨fun hnil => ?_, fun j hj => ?_⟩
    · -- nothing is ready: all are listed
      refine hend listed r a w hsz ?_ hrel hext
      apply Nat.eq_zero_of_not_pos
      intro hpos
      have hmem : false ∈ listed.toList := List.count_pos_iff.1 hpos
      obtain ⟨k, hk, hkv⟩ := List.getElem_of_mem hmem
      -- the least that is not listed
      have hex : ∃ k, k < ops.size ∧ listed.getD k false = false := ⟨k, by simp at hk; omega, by simp at hk hkv; simp [hk, hkv]⟩
      obtain ⟨m, ⟨hm, hmv⟩, hleast⟩ : ∃ m, (m < ops.size ∧ listed.getD m false = false) ∧ ∀ i, i < m → ¬ (i < ops.size ∧ listed.getD i false = false) := by
        obtain ⟨k, hk⟩ := hex
        exact least (p := fun k => k < ops.size ∧ listed.getD k false = false) k hk
      have hm' : m < listed.size := by omega
      have : m ∈ Region.ready .any ops listed := by
        rw [mem_ready]
        refine ⟨by simpa [hm'] using hmv, ops[m], by simp [hm], fun e he hb => ?_⟩
        have hlt := hback m ops[m] (by simp [hm]) e he hb
        have := hleast e.on hlt
        cases hv : listed.getD e.on false with
        | true => rfl
        | false => exact absurd ⟨by omega, hv⟩ this
      rw [hnil] at this
      cases this
    · obtain ⟨hju, oj, hoj, hall⟩ := mem_ready.1 hj
      have hjlt : j < ops.size := (Array.getElem?_eq_some_iff.1 hoj).1
      have hjl : j < listed.size := by omega
      have hjf : listed.getD j false = false := by simpa [hjl] using hju
      have haj : ∀ i, Ahead ops i j → listed.getD i false = true := by
        rintro i ⟨o, ho, e, he, hb, rfl⟩
        rw [hoj] at ho
        cases ho
        exact hall e he hb
      -- what j reads is what it read in the text's order
      have hreads : ∀ l ∈ (R j).reads, accum R (fun k => listed.getD k false) g ops.size l = accum R (fun k => decide (k < j)) g ops.size l := by
        intro l hl
        refine accum_same _ fun k hk hne => ?_
        by_cases hkj : k < j
        · have hkf : listed.getD k false = false := by
            cases hv : listed.getD k false with
            | false => rfl
            | true => simp only [hv, hkj, decide_true] at hne; exact absurd rfl hne
          have hp : pre k j = false := by
            cases hp : pre k j with
            | false => rfl
            | true => exact absurd (hpre j hjlt (fun k => listed.getD k false) hcl haj k hp) (by simp [hkf])
          intro hw
          exact ((hap k j hkj hjlt hp l).1 hw).1 hl
        · have hkt : listed.getD k false = true := by
            cases hv : listed.getD k false with
            | true => rfl
            | false => simp [hv, hkj] at hne
          have hkne : k ≠ j := fun e => by subst e; rw [hkt] at hjf; cases hjf
          have hp : pre j k = false := by
            cases hp : pre j k with
            | false => rfl
            | true =>
              have := hpre k hk (fun k => listed.getD k false) hcl (fun i hi => hcl k hk hkt i hi) j hp
              simp only [hjf] at this
              cases this
          intro hw
          exact (hap j k (by omega) hk hp l).2 hw hl
      have hsound := hs j hjlt _ hreads
      refine hsound _ r a w _ ?_ hrel ?_
      · intro b hb1 hb2 hD
        rcases hD with hD | ⟨i, hi, hli, h⟩
        · exact hD0 j hjlt b hb1 hb2 hD
        · exact hnew j i hjlt hi (fun e => by subst e; rw [hli] at hjf; cases hjf) b hb1 hb2 h
      · intro r' a' w' hrel' hext'
        have hset : (fun k => (listed.setIfInBounds j true).getD k false) = (fun k => listed.getD k false || k == j) := by
          funext k
          by_cases hkj : k = j
          · subst hkj; simp [hjl]
          · simp [hkj, Array.getElem?_setIfInBounds_ne (Ne.symm hkj)]
        have hacc : accum R (fun k => (listed.setIfInBounds j true).getD k false) g ops.size = (R j).app (accum R (fun k => listed.getD k false) g ops.size) := by
          rw [hset]
          refine accum_put hjlt hjf fun k hk hjk hkt => ?_
          refine hap j k hjk hk ?_
          cases hp : pre j k with
          | false => rfl
          | true =>
            have := hpre k hk (fun k => listed.getD k false) hcl (fun i hi => hcl k hk hkt i hi) j hp
            simp only [hjf] at this
            cases this
        have hD' : (fun b => (D0 b ∨ ∃ i, i < ops.size ∧ listed.getD i false = true ∧ (R i).lo ≤ b ∧ b < (R i).hi) ∨ ((R j).lo ≤ b ∧ b < (R j).hi)) =
            (fun b => D0 b ∨ ∃ i, i < ops.size ∧ (listed.setIfInBounds j true).getD i false = true ∧ (R i).lo ≤ b ∧ b < (R i).hi) := by
          funext b
          apply propext
          have hs' : ∀ i, (listed.setIfInBounds j true).getD i false = (listed.getD i false || i == j) := fun i => congrFun hset i
          constructor
          · rintro ((h | ⟨i, hi, hli, h⟩) | h)
            · exact .inl h
            · exact .inr ⟨i, hi, by rw [hs', hli]; rfl, h⟩
            · exact .inr ⟨j, hjlt, by rw [hs']; simp, h⟩
          · rintro (h | ⟨i, hi, hli, h⟩)
            · exact .inl (.inl h)
            · rw [hs'] at hli
              by_cases hij : i = j
              · subst hij; exact .inr h
              · simp only [hij, beq_iff_eq, Bool.or_eq_true, or_false] at hli
                exact .inl (.inr ⟨i, hi, hli, h⟩)
        rw [hD'] at hrel'
        refine ih (listed.setIfInBounds j true) r' a' w' (by simpa using hsz) (by have := unl_set hjl hju; omega) ?_ (by rw [hacc]; exact hrel') (by rw [hacc]; exact hext.trans hext' (fun b hb => .inl hb))
        intro k hk hkt i hi
        by_cases hkj : k = j
        · subst hkj; exact getD_set_true (haj i hi)
        · rw [getD_set_ne false (Ne.symm hkj)] at hkt
          exact getD_set_true (hcl k hk hkt i hi)

end Go.Sx

/-
Shadow runs: blocks that are written and made.
-/
namespace Go.Sx
open Go
set_option linter.unusedVariables false
set_option linter.unusedSimpArgs false
set_option linter.unusedSectionVars false
variable [Globs]

@[simp] theorem ren_bool (r : Ren) (b : Bool) : ren r (.bool b) = .bool b := by simp [ren]
@[simp] theorem ren_int (r : Ren) (k : IntKind) (n : Int) : ren r (.int k n) = .int k n := by simp [ren]
@[simp] theorem ren_string (r : Ren) (s : ByteArray) : ren r (.string s) = .string s := by simp [ren]
@[simp] theorem ren_ptr (r : Ren) (b o : Nat) : ren r (.pointer (some ⟨b, o, none⟩)) = .pointer (some ⟨r.blk b, o + r.sh b, none⟩) := by simp [ren, Ren.addr]
@[simp] theorem ren_ptrNil (r : Ren) : ren r (.pointer none) = .pointer none := by simp [ren]
@[simp] theorem ren_slc (r : Ren) (b o l c : Nat) (sp : Option Nat) : ren r (.slice (some ⟨b, o, sp⟩) l c) = .slice (some ⟨r.blk b, o + r.sh b, none⟩) l (c + r.xt ⟨b, o, sp⟩) := by simp [ren, Ren.addr]
@[simp] theorem ren_slcNil (r : Ren) (l c : Nat) : ren r (.slice none l c) = .slice none l c := by simp [ren]
@[simp] theorem ren_func (r : Ren) (fn : Fn) (a b : Array Value) : ren r (.func fn a b) = .func fn (a.map (ren r)) (b.map (ren r)) := by simp [ren]
@[simp] theorem ren_nilFunc (r : Ren) : ren r .nilFunc = .nilFunc := by simp [ren]
@[simp] theorem ren_nilIface (r : Ren) : ren r .nilIface = .nilIface := by simp [ren]
@[simp] theorem ren_agg (r : Ren) (cs : Array Value) : ren r (.agg cs) = .agg (cs.map (ren r)) := by simp [ren]
@[simp] theorem ren_tuple (r : Ren) (cs : Array Value) : ren r (.tuple cs) = .tuple (cs.map (ren r)) := by simp [ren]

theorem xt_some (r : Ren) (b o k : Nat) : r.xt ⟨b, o, some k⟩ = 0 := rfl
theorem xt_none (r : Ren) (b o : Nat) : r.xt ⟨b, o, none⟩ = r.xtra b := rfl
theorem add_none (b o n : Nat) : (⟨b, o, none⟩ : Addr).add n = ⟨b, o + n, none⟩ := by unfold Addr.add; split <;> simp_all

def oneB : Value → Bool
  | .agg _ | .tuple _ => false
  | _ => true

theorem cells_ren {D : Nat → Prop} {v : Value} (h : Vok D v) (r : Ren) : (ren r v).cells = v.cells.map (ren r) := by
  cases h <;> simp [Value.cells]
theorem cells_ok {D : Nat → Prop} {v : Value} (h : Vok D v) : ∀ u ∈ v.cells.toList, Vok D u := by
  cases h with
  | agg h => intro u hu; exact h u (by simpa [Value.cells] using hu)
  | _ => intro u hu; simp [Value.cells] at hu; subst hu; constructor <;> assumption

/-- Cells o, o + 1, .. of a row written over. -/
def splice (cs : List Value) (o : Nat) (vs : List Value) : List Value := cs.take o ++ (vs ++ cs.drop (o + vs.length))

theorem splice_nil (cs : List Value) (o : Nat) : splice cs o [] = cs := by simp [splice]
theorem splice_cons (cs : List Value) (o : Nat) (v : Value) (vs : List Value) (h : o < cs.length) : splice cs o (v :: vs) = splice (cs.set o v) (o + 1) vs := by
  obtain ⟨A, x, B, hcs, hA⟩ : ∃ A x B, cs = A ++ x :: B ∧ A.length = o := ⟨cs.take o, cs[o], cs.drop (o + 1), by simp, by simp; omega⟩
  subst hcs
  subst hA
  have e1 : (A ++ x :: B).set A.length v = (A ++ [v]) ++ B := by simp
  rw [e1]
  have e2 : (A ++ [v]).length = A.length + 1 := by simp
  unfold splice
  rw [← e2, List.take_left', List.take_left']
  · rw [show A.length + (v :: vs).length = A.length + (vs.length + 1) by simp, List.drop_append, List.drop_append]
    simp [Nat.add_sub_cancel_left, List.drop_of_length_le]
  · rfl
  · rfl
theorem splice_length {cs : List Value} {o : Nat} {vs : List Value} (h : o + vs.length ≤ cs.length) : (splice cs o vs).length = cs.length := by
  simp [splice]; omega
theorem splice_append {A B : List Value} {o : Nat} {vs : List Value} (h : o + vs.length ≤ A.length) : splice (A ++ B) o vs = splice A o vs ++ B := by
  unfold splice
  rw [List.take_append_of_le_length (by omega), List.drop_append_of_le_length (by omega)]
  simp
theorem splice_map (f : Value → Value) (cs : List Value) (o : Nat) (vs : List Value) : (splice cs o vs).map f = splice (cs.map f) o (vs.map f) := by
  simp [splice, List.map_take, List.map_drop]
theorem mem_splice {cs : List Value} {o : Nat} {vs : List Value} {v : Value} (h : v ∈ splice cs o vs) : v ∈ cs ∨ v ∈ vs := by
  simp only [splice, List.mem_append] at h
  rcases h with h | h | h
  · exact .inl (List.mem_of_mem_take h)
  · exact .inr h
  · exact .inl (List.mem_of_mem_drop h)

theorem heap_setCell_own {w : World} {b o : Nat} {v : Value} {arr : Array Value} {e : TypeId} {fz : Nat × Nat} (h : w.heap[b]? = some (.cells arr e fz)) :
    (w.setCell ⟨b, o, none⟩ v).heap[b]? = some (.cells (arr.setIfInBounds o v) e fz) := by
  simp [World.setCell, Array.getElem?_modify, h]
theorem heap_setCell_other {w : World} {b o k : Nat} {v : Value} (h : k ≠ b) : (w.setCell ⟨b, o, none⟩ v).heap[k]? = w.heap[k]? := by simp [World.setCell, Array.getElem?_modify, Ne.symm h]

theorem heap_setCells : ∀ (vs : List Value) (w : World) (b o : Nat) (arr : Array Value) (e : TypeId) (fz : Nat × Nat), w.heap[b]? = some (.cells arr e fz) → o + vs.length ≤ arr.size →
    (w.setCells b o vs).heap[b]? = some (.cells (splice arr.toList o vs).toArray e fz)
  | [], w, b, o, arr, e, fz, h, _ => by simp [World.setCells, splice_nil, h]
  | v :: vs, w, b, o, arr, e, fz, h, hl => by
    simp only [List.length_cons] at hl
    have := heap_setCells vs (w.setCell ⟨b, o, none⟩ v) b (o + 1) _ e fz (heap_setCell_own h) (by simp; omega)
    simp only [World.setCells]
    rw [this, splice_cons _ _ _ _ (by simp; omega)]
    simp
theorem heap_setCells_other : ∀ (vs : List Value) (w : World) (b o k : Nat), k ≠ b → (w.setCells b o vs).heap[k]? = w.heap[k]?
  | [], _, _, _, _, _ => rfl
  | v :: vs, w, b, o, k, h => by
    simp only [World.setCells]
    rw [heap_setCells_other vs _ b (o + 1) k h, heap_setCell_other h]
theorem setCells_size : ∀ (vs : List Value) (w : World) (b o : Nat), (w.setCells b o vs).heap.size = w.heap.size
  | [], _, _, _ => rfl
  | v :: vs, w, b, o => by simp only [World.setCells]; rw [setCells_size vs]; simp [World.setCell]
theorem setCells_rest : ∀ (vs : List Value) (w : World) (b o : Nat), (w.setCells b o vs).os = w.os ∧ (w.setCells b o vs).tape = w.tape ∧ (w.setCells b o vs).output = w.output
  | [], _, _, _ => ⟨rfl, rfl, rfl⟩
  | v :: vs, w, b, o => by simp only [World.setCells]; exact setCells_rest vs _ b (o + 1)

section
variable {P : Program} {D : Nat → Prop} {r : Ren} {g : GS} {w : World}

theorem app_bk (b : Nat) (o : Option SObj) (g : GS) (c : Nat) : (Upd.bk b o).app g (.bk c) = if c = b then o else g (.bk c) := rfl
theorem app_bk_tm (b : Nat) (o : Option SObj) (g : GS) (t : Nat) : (Upd.bk b o).app g (.tm t) = g (.tm t) := rfl
theorem app_tm (t : Nat) (v : Value) (g : GS) (s : Nat) : (Upd.tm t v).app g (.tm s) = if s = t then some v else g (.tm s) := rfl
theorem app_tm_bk (t : Nat) (v : Value) (g : GS) (b : Nat) : (Upd.tm t v).app g (.bk b) = g (.bk b) := rfl

theorem CRel.drew (h : CRel P D r g w) : CRel P D r g { w with drawn := w.drawn + 1 } := ⟨h.blk, h.dom, h.ok, h.inj, h.glob⟩
theorem Ext.drewn {r' : Ren} {g' : GS} {w' : World} (h : Ext D r g { w with drawn := w.drawn + 1 } r' g' w') : Ext D r g w r' g' w' := ⟨h.agree, h.new, h.frame, h.size, h.os, h.tape, h.output⟩

/-- A cell that is known. -/
theorem CRel.cell (h : CRel P D r g w) {b : Nat} {ob : SObj} (hb : g (.bk b) = some ob) {o : Nat} {v : Value} (hv : ob.cells[o]? = some v) :
    w.cell? ⟨r.blk b, o + r.sh b, none⟩ = some (ren r v) := by
  obtain ⟨arr, fz, ha, ht, _⟩ := h.blk b ob hb
  have hlt : o < ob.cells.length := (List.getElem?_eq_some_iff.1 hv).1
  have : ((arr.toList.drop (r.sh b)).take ob.cells.length)[o]? = some (ren r v) := by rw [ht]; simp [hv]
  rw [List.getElem?_take] at this
  simp only [hlt, if_true] at this
  rw [List.getElem?_drop, Nat.add_comm] at this
  simp [World.cell?, ha]
  simpa using this
def canW : Knd → Bool
  | .ro => false
  | _ => true
theorem CRel.free (h : CRel P D r g w) {b : Nat} {ob : SObj} (hb : g (.bk b) = some ob) (hw : canW ob.knd = true) {o : Nat} (ho : o < ob.cells.length) :
    w.frozen? ⟨r.blk b, o + r.sh b, none⟩ = false := by
  obtain ⟨arr, fz, ha, ht, hf⟩ := h.blk b ob hb
  have hsz : r.sh b + ob.cells.length ≤ arr.size ∨ ob.cells.length = 0 := by
    have := congrArg List.length ht
    simp at this
    omega
  obtain ⟨lo, hi⟩ := fz
  simp only [World.frozen?, ha]
  unfold Fits at hf
  cases hk : ob.knd <;> simp only [hk] at hf
  · simp at hf ⊢; omega
  · simp at hf ⊢; omega
  · have := hf o ho
    simp at this ⊢
    omega
  · rw [hk] at hw; cases hw

theorem drop_splice {L : List Value} {d o : Nat} {vs : List Value} (h : d ≤ L.length) : (splice L (d + o) vs).drop d = splice (L.drop d) o vs := by
  simp only [splice]
  rw [List.drop_append, List.drop_take, List.drop_drop]
  have e : d - (List.take (d + o) L).length = 0 := by
    rw [List.length_take]; omega
  rw [e, List.drop_zero, show d + o - d = o by omega, Nat.add_assoc]

theorem CRel.write (h : CRel P D r g w) {b : Nat} {ob : SObj} (hb : g (.bk b) = some ob) {o : Nat} {vs : List Value} (hl : o + vs.length ≤ ob.cells.length) (hv : ∀ v ∈ vs, Vok D v) :
    CRel P D r ((Upd.bk b (some { ob with cells := splice ob.cells o vs })).app g) (w.setCells (r.blk b) (o + r.sh b) (vs.map (ren r))) := by
  have hother : ∀ c oc, g (.bk c) = some oc → c ≠ b → r.blk c ≠ r.blk b := fun c oc hc hne he => hne (h.inj c b oc ob hc hb he)
  refine ⟨fun c oc hc => ?_, fun c oc hc => ?_, fun c oc hc v hvc => ?_, fun c c' oc oc' hc hc' he => ?_, h.glob⟩
  · rw [app_bk] at hc
    split at hc
    · rename_i hcb
      subst hcb
      cases hc
      obtain ⟨arr, fz, ha, ht, hf⟩ := h.blk c ob hb
      have hlen := congrArg List.length ht
      simp at hlen
      by_cases hvs : vs = []
      · subst hvs
        simp only [List.map_nil, World.setCells]
        exact ⟨arr, fz, ha, by simpa [splice_nil] using ht, by simpa [Fits, splice_nil] using hf⟩
      have hvl : 0 < vs.length := List.length_pos_iff.2 hvs
      have hfit : o + r.sh c + (vs.map (ren r)).length ≤ arr.size := by simp; omega
      refine ⟨_, fz, heap_setCells (vs.map (ren r)) w _ (o + r.sh c) arr ob.elem fz ha hfit, ?_, ?_⟩
      · simp only [splice_length hl, splice_map]
        rw [Nat.add_comm o, drop_splice (by simp; omega)]
        rw [← List.take_append_drop ob.cells.length (arr.toList.drop (r.sh c)), ht, splice_append (by simpa using hl)]
        rw [List.take_append_of_le_length (by rw [splice_length (by simpa using hl)]; simp)]
        rw [List.take_of_length_le (by rw [splice_length (by simpa using hl)]; simp)]
      · have hsz : (splice arr.toList (o + r.sh c) (vs.map (ren r))).toArray.size = arr.size := by
          simp only [List.size_toArray]
          rw [splice_length (by simpa using hfit)]
          simp
        rw [hsz]
        unfold Fits at hf ⊢
        simp only
        cases hk : ob.knd <;> simp only [hk] at hf ⊢
        · rw [splice_length hl]; exact hf
        · rw [splice_length hl]; exact hf
        · rw [splice_length hl]; exact hf
    · rename_i hcb
      obtain ⟨arr, fz, ha, rest⟩ := h.blk c oc hc
      exact ⟨arr, fz, by rw [heap_setCells_other _ _ _ _ _ (hother c oc hc hcb)]; exact ha, rest⟩
  · rw [app_bk] at hc
    split at hc
    · rename_i hcb; subst hcb; exact h.dom c ob hb
    · exact h.dom c oc hc
  · rw [app_bk] at hc
    split at hc
    · cases hc
      rcases mem_splice hvc with hm | hm
      · exact h.ok b ob hb v hm
      · exact hv v hm
    · exact h.ok c oc hc v hvc
  · have key : ∀ c oc, (Upd.bk b (some { ob with cells := splice ob.cells o vs })).app g (.bk c) = some oc → ∃ o', g (.bk c) = some o' := by
      intro c oc hc
      rw [app_bk] at hc
      split at hc
      · rename_i hcb; subst hcb; exact ⟨ob, hb⟩
      · exact ⟨oc, hc⟩
    obtain ⟨o1, h1⟩ := key c oc hc
    obtain ⟨o2, h2⟩ := key c' oc' hc'
    exact h.inj c c' o1 o2 h1 h2 he

theorem CRel.write_ext (h : CRel P D r g w) {b : Nat} {ob : SObj} (hb : g (.bk b) = some ob) (ob' : SObj) (o : Nat) (vs : List Value) :
    Ext D r g w r ((Upd.bk b (some ob')).app g) (w.setCells (r.blk b) o vs) := by
  obtain ⟨h1, h2, h3⟩ := setCells_rest vs w (r.blk b) o
  refine ⟨fun _ _ => Agree.refl _ _, fun c oc hc => ?_, fun k hk hown => ?_, by rw [setCells_size]; exact Nat.le_refl _, h1, h2, h3⟩
  · rw [app_bk] at hc
    split at hc
    · rename_i hcb; subst hcb; exact .inl ⟨c, ob, hb, rfl⟩
    · exact .inl ⟨c, oc, hc, rfl⟩
  · exact heap_setCells_other _ _ _ _ _ (fun e => hown b ob hb e.symm)

def Ren.put (r : Ren) (b n x : Nat) : Ren := ⟨fun c => if c = b then n else r.blk c, fun c => if c = b then x else r.xtra c, fun c => if c = b then 0 else r.sh c⟩

theorem put_agree {b n x : Nat} (hD : ¬ D b) : ∀ c, D c → Agree r (r.put b n x) c := by
  intro c hc
  have : c ≠ b := fun e => hD (e ▸ hc)
  constructor <;> simp [Ren.put, this]
@[simp] theorem put_blk (r : Ren) (b n x : Nat) : (r.put b n x).blk b = n := by simp [Ren.put]
@[simp] theorem put_sh (r : Ren) (b n x : Nat) : (r.put b n x).sh b = 0 := by simp [Ren.put]
@[simp] theorem put_xtra (r : Ren) (b n x : Nat) : (r.put b n x).xtra b = x := by simp [Ren.put]

/-- A new block: b is its name, it lies at a number that no known block has. -/
theorem CRel.new (h : CRel P D r g w) {b : Nat} (hD : ¬ D b) {D' : Nat → Prop} (hD' : ∀ c, D' c ↔ D c ∨ c = b) (ob : SObj) {n x : Nat} {w' : World}
    (hn : ∀ c oc, g (.bk c) = some oc → r.blk c ≠ n) (hkeep : ∀ c oc, g (.bk c) = some oc → w'.heap[r.blk c]? = w.heap[r.blk c]?)
    {arr : Array Value} {fz : Nat × Nat} (ha : w'.heap[n]? = some (.cells arr ob.elem fz)) (ht : arr.toList.take ob.cells.length = ob.cells.map (ren (r.put b n x)))
    (hf : Fits P (r.put b n x) b ob arr.size fz) (hok : ∀ v ∈ ob.cells, Vok D' v) :
    CRel P D' (r.put b n x) ((Upd.bk b (some ob)).app g) w' := by
  have hne : ∀ c oc, g (.bk c) = some oc → c ≠ b := fun c oc hc e => hD (e ▸ h.dom c oc hc)
  refine ⟨fun c oc hc => ?_, fun c oc hc => ?_, fun c oc hc v hvc => ?_, fun c c' oc oc' hc hc' he => ?_, fun gl c hgl => ⟨⟨((put_agree hD c (h.glob gl c hgl).2).blk).trans (h.glob gl c hgl).1.1, ((put_agree hD c (h.glob gl c hgl).2).sh).trans (h.glob gl c hgl).1.2⟩, (hD' c).2 (.inl (h.glob gl c hgl).2)⟩⟩
  · rw [app_bk] at hc
    split at hc
    · rename_i hcb
      subst hcb
      cases hc
      exact ⟨arr, fz, by simpa using ha, by simpa using ht, hf⟩
    · rename_i hcb
      obtain ⟨arr', fz', ha', ht', hf'⟩ := h.blk c oc hc
      have hag : Agree r (r.put b n x) c := put_agree hD c (h.dom c oc hc)
      refine ⟨arr', fz', ?_, ?_, ?_⟩
      · rw [hag.blk, hkeep c oc hc]; exact ha'
      · rw [hag.sh, ht']
        apply List.map_congr_left
        intro v hv
        exact (ren_congr (put_agree hD) (h.ok c oc hc v hv)).symm
      · unfold Fits at hf' ⊢
        rw [hag.sh, hag.xtra]
        exact hf'
  · rw [app_bk] at hc
    split at hc
    · rename_i hcb; subst hcb; exact (hD' c).2 (.inr rfl)
    · exact (hD' c).2 (.inl (h.dom c oc hc))
  · rw [app_bk] at hc
    split at hc
    · cases hc; exact hok v hvc
    · exact (h.ok c oc hc v hvc).mono (fun d hd => (hD' d).2 (.inl hd))
  · rw [app_bk] at hc hc'
    split at hc <;> split at hc'
    · rename_i e1 e2; rw [e1, e2]
    · rename_i e1 e2; simp [Ren.put, e1, e2] at he; exact absurd he.symm (hn c' oc' hc')
    · rename_i e1 e2; simp [Ren.put, e1, e2] at he; exact absurd he (hn c oc hc)
    · rename_i e1 e2; simp [Ren.put, e1, e2] at he; exact h.inj c c' oc oc' hc hc' he

/-- A block forgotten. -/
theorem CRel.kill (h : CRel P D r g w) (b : Nat) : CRel P D r ((Upd.bk b none).app g) w := by
  have key : ∀ c oc, (Upd.bk b none).app g (.bk c) = some oc → g (.bk c) = some oc := by
    intro c oc hc
    rw [app_bk] at hc
    split at hc
    · cases hc
    · exact hc
  exact ⟨fun c oc hc => h.blk c oc (key c oc hc), fun c oc hc => h.dom c oc (key c oc hc), fun c oc hc => h.ok c oc (key c oc hc), fun c c' oc oc' hc hc' => h.inj c c' oc oc' (key c oc hc) (key c' oc' hc'), h.glob⟩

theorem CRel.alloc (h : CRel P D r g w) {b : Nat} (hD : ¬ D b) {D' : Nat → Prop} (hD' : ∀ c, D' c ↔ D c ∨ c = b) (ob : SObj) {x : Nat} {arr : Array Value}
    (ht : arr.toList.take ob.cells.length = ob.cells.map (ren (r.put b w.heap.size x))) (hf : Fits P (r.put b w.heap.size x) b ob arr.size (0, 0)) (hok : ∀ v ∈ ob.cells, Vok D' v) :
    CRel P D' (r.put b w.heap.size x) ((Upd.bk b (some ob)).app g) (w.alloc (.cells arr ob.elem)) :=
  h.new hD hD' ob (fun c oc hc => Nat.ne_of_lt (h.lt hc)) (fun c oc hc => heap_alloc_old w _ _ (h.lt hc)) (heap_alloc_new w _) ht hf hok

/-- A name that stands for no block: only where a slice without elements lies. -/
def Ren.tail (r : Ren) (b n x s : Nat) : Ren := ⟨fun c => if c = b then n else r.blk c, fun c => if c = b then x else r.xtra c, fun c => if c = b then s else r.sh c⟩
theorem tail_agree {b n x s : Nat} (hD : ¬ D b) : ∀ c, D c → Agree r (r.tail b n x s) c := by
  intro c hc
  have : c ≠ b := fun e => hD (e ▸ hc)
  constructor <;> simp [Ren.tail, this]
theorem CRel.tail (h : CRel P D r g w) {b : Nat} (hD : ¬ D b) {D' : Nat → Prop} (hD' : ∀ c, D' c ↔ D c ∨ c = b) (n x s : Nat) : CRel P D' (r.tail b n x s) ((Upd.bk b none).app g) w := by
  have key : ∀ c oc, (Upd.bk b none).app g (.bk c) = some oc → c ≠ b ∧ g (.bk c) = some oc := by
    intro c oc hc
    rw [app_bk] at hc
    split at hc
    · cases hc
    · rename_i hne; exact ⟨hne, hc⟩
  refine ⟨fun c oc hc => ?_, fun c oc hc => (hD' c).2 (.inl (h.dom c oc (key c oc hc).2)), fun c oc hc v hv => (h.ok c oc (key c oc hc).2 v hv).mono (fun d hd => (hD' d).2 (.inl hd)), fun c c' oc oc' hc hc' he => ?_,
    fun gl c hgl => ⟨⟨((tail_agree hD c (h.glob gl c hgl).2).blk).trans (h.glob gl c hgl).1.1, ((tail_agree hD c (h.glob gl c hgl).2).sh).trans (h.glob gl c hgl).1.2⟩, (hD' c).2 (.inl (h.glob gl c hgl).2)⟩⟩
  · obtain ⟨hne, hg⟩ := key c oc hc
    obtain ⟨arr, fz, ha, ht, hf⟩ := h.blk c oc hg
    have hag : Agree r (r.tail b n x s) c := tail_agree hD c (h.dom c oc hg)
    refine ⟨arr, fz, by rw [hag.blk]; exact ha, ?_, ?_⟩
    · rw [hag.sh, ht]
      apply List.map_congr_left
      intro v hv
      exact (ren_congr (tail_agree hD) (h.ok c oc hg v hv)).symm
    · unfold Fits at hf ⊢
      rw [hag.sh, hag.xtra]
      exact hf
  · obtain ⟨n1, g1⟩ := key c oc hc
    obtain ⟨n2, g2⟩ := key c' oc' hc'
    have a1 : Agree r (r.tail b n x s) c := tail_agree hD c (h.dom c oc g1)
    have a2 : Agree r (r.tail b n x s) c' := tail_agree hD c' (h.dom c' oc' g2)
    rw [a1.blk, a2.blk] at he
    exact h.inj c c' oc oc' g1 g2 he
theorem CRel.tail_ext {b n x s : Nat} (h : CRel P D r g w) (hD : ¬ D b) : Ext D r g w (r.tail b n x s) ((Upd.bk b none).app g) w := by
  refine ⟨tail_agree hD, fun c oc hc => ?_, fun _ _ _ => rfl, Nat.le_refl _, rfl, rfl, rfl⟩
  rw [app_bk] at hc
  split at hc
  · cases hc
  · exact .inl ⟨c, oc, hc, (tail_agree hD c (h.dom c oc hc)).blk⟩

theorem CRel.alloc_ext (h : CRel P D r g w) {b : Nat} (hD : ¬ D b) (ob : SObj) (x : Nat) (o : Obj) :
    Ext D r g w (r.put b w.heap.size x) ((Upd.bk b (some ob)).app g) (w.alloc o) := by
  refine ⟨put_agree hD, fun c oc hc => ?_, fun k hk _ => heap_alloc_old w o k hk, by simp, rfl, rfl, rfl⟩
  rw [app_bk] at hc
  split at hc
  · rename_i hcb; subst hcb; exact .inr (by simp [Ren.put])
  · rename_i hcb; exact .inl ⟨c, oc, hc, by simp [Ren.put, hcb]⟩
end
end Go.Sx

/-
Shadow runs: operations on values alone.
-/
namespace Go.Sx
open Go
set_option linter.unusedVariables false
set_option linter.unusedSimpArgs false
set_option linter.unusedSectionVars false
variable [Globs]

/-! ### numbers stay of their kinds -/
theorem wrap_in (k : IntKind) (n : Int) : k.min ≤ k.wrap n ∧ k.wrap n ≤ k.max := by
  cases k <;> unfold IntKind.wrap IntKind.min IntKind.max <;> simp [IntKind.signed, IntKind.bits] <;> (try split) <;> omega
theorem kind_zero (k : IntKind) : k.min ≤ 0 ∧ 0 ≤ k.max := by cases k <;> decide
theorem tmod_in {k : IntKind} {a b : Int} (h : k.min ≤ a ∧ a ≤ k.max) : k.min ≤ a.tmod b ∧ a.tmod b ≤ k.max := by
  have hz := kind_zero k
  rcases Int.le_total 0 a with ha | ha
  · have h1 := Int.tmod_nonneg b ha
    have h2 : a.tmod b ≤ a := by
      rw [Int.tmod_eq_emod_of_nonneg ha]
      by_cases hb : b = 0
      · simp [hb]
      · rcases Int.lt_or_lt_of_ne hb with hb | hb
        · rw [← Int.emod_neg]
          by_cases hlt : a < -b
          · rw [Int.emod_eq_of_lt ha hlt]; exact Int.le_refl _
          · have := Int.emod_lt_of_pos a (show 0 < -b by omega); omega
        · by_cases hlt : a < b
          · rw [Int.emod_eq_of_lt ha hlt]; exact Int.le_refl _
          · have := Int.emod_lt_of_pos a hb; omega
    omega
  · have e : a.tmod b = - ((-a).tmod b) := by rw [Int.neg_tmod]; omega
    have h1 := Int.tmod_nonneg b (show 0 ≤ -a by omega)
    have h2 : (-a).tmod b ≤ -a := by
      rw [Int.tmod_eq_emod_of_nonneg (show 0 ≤ -a by omega)]
      by_cases hb : b = 0
      · simp [hb]
      · rcases Int.lt_or_lt_of_ne hb with hb | hb
        · rw [← Int.emod_neg]
          by_cases hlt : -a < -b
          · rw [Int.emod_eq_of_lt (by omega) hlt]; exact Int.le_refl _
          · have := Int.emod_lt_of_pos (-a) (show 0 < -b by omega); omega
        · by_cases hlt : -a < b
          · rw [Int.emod_eq_of_lt (by omega) hlt]; exact Int.le_refl _
          · have := Int.emod_lt_of_pos (-a) hb; omega
    omega
theorem fdiv_in {k : IntKind} {a : Int} (n : Nat) (h : k.min ≤ a ∧ a ≤ k.max) : k.min ≤ a.fdiv (2 ^ n) ∧ a.fdiv (2 ^ n) ≤ k.max := by
  have hz := kind_zero k
  have hp : (0 : Int) < 2 ^ n := Int.pow_pos (by decide)
  have hp1 : (1 : Int) ≤ 2 ^ n := hp
  rw [Int.fdiv_eq_ediv_of_nonneg _ (Int.le_of_lt hp)]
  rcases Int.le_total 0 a with ha | ha
  · have h1 := Int.ediv_nonneg ha (Int.le_of_lt hp)
    have h2 : a / 2 ^ n ≤ a := Int.ediv_le_self _ ha
    omega
  · have h1 : a ≤ a / 2 ^ n := by
      rw [Int.le_ediv_iff_mul_le hp]
      have := Int.mul_le_mul_of_nonpos_left ha hp1
      omega
    have h2 : a / 2 ^ n ≤ 0 := by
      have : a / 2 ^ n < 1 := by
        rw [Int.ediv_lt_iff_lt_mul hp]; omega
      omega
    omega

/-! ### operators -/
def intBin (op : BinOp) (k : IntKind) (a b : Int) : Option Value :=
  match op with
  | .add => some (.int k (k.wrap (a + b)))
  | .sub => some (.int k (k.wrap (a - b)))
  | .mul => some (.int k (k.wrap (a * b)))
  | .quo => match decide (b = 0) with | true => none | false => some (.int k (k.wrap (a.tdiv b)))
  | .rem => match decide (b = 0) with | true => none | false => some (.int k (a.tmod b))
  | .and => some (.int k (bits .and k a b))
  | .or => some (.int k (bits .or k a b))
  | .xor => some (.int k (bits .xor k a b))
  | .andNot => some (.int k (bits .andNot k a b))
  | .eql => some (.bool (a == b))
  | .neq => some (.bool (a != b))
  | .lss => some (.bool (decide (a < b)))
  | .leq => some (.bool (decide (a ≤ b)))
  | .gtr => some (.bool (decide (a > b)))
  | .geq => some (.bool (decide (a ≥ b)))
  | _ => none

/-- Two rows of numbers, or truth values: are they the same? -/
def eqCells : List Value → List Value → Option Bool
  | [], [] => some true
  | .int k a :: xs, .int k' b :: ys => match decide (k = k') with
    | true => (eqCells xs ys).map fun r => (a == b) && r
    | false => none
  | _, _ => none

def isIntT (P : Program) (e : TypeId) : Bool := match P.underlying e with | some (.int _) => true | _ => false

def shiftV (op : BinOp) (k : IntKind) (a b : Int) : Option Value :=
  match decide (b < 0) with
  | true => none
  | false => match op with
    | .shl => some (.int k (k.wrap (a * 2 ^ (min b.toNat k.bits))))
    | .shr => some (.int k (a.fdiv (2 ^ (min b.toNat k.bits))))
    | _ => none

def isShift : BinOp → Bool
  | .shl | .shr => true
  | _ => false

def eqV (op : BinOp) (r : Bool) : Option Value :=
  match op with
  | .eql => some (.bool r)
  | .neq => some (.bool (!r))
  | _ => none

def isBoolT (P : Program) (e : TypeId) : Bool := match P.underlying e with | some .bool => true | _ => false

def isSliceT (P : Program) (e : TypeId) : Bool := match P.underlying e with | some (.slice _) => true | _ => false
def isPtrT (P : Program) (e : TypeId) : Bool := match P.underlying e with | some (.pointer _) => true | _ => false

def binV (P : Program) (op : BinOp) (t : TypeId) (x y : Value) : Option Value :=
  match x, y with
  | .int k a, .int k' b => match isShift op with
    | true => shiftV op k a b
    | false => match decide (k = k') with | true => intBin op k a b | false => none
  | .bool a, .bool b => match isBoolT P t with
    | true => eqV op (a == b)
    | false => none
  | .string a, .string b => eqV op (a.toList == b.toList)
  | .slice none _ _, .slice b _ _ => match isSliceT P t with
    | true => eqV op b.isNone
    | false => none
  | .slice (some _) _ _, .slice none _ _ => match isSliceT P t with
    | true => eqV op false
    | false => none
  | .pointer none, .pointer b => match isPtrT P t with
    | true => eqV op b.isNone
    | false => none
  | .pointer (some _), .pointer none => match isPtrT P t with
    | true => eqV op false
    | false => none
  | .agg xs, .agg ys => match P.underlying t with
    | some (.array n e) => match isIntT P e && decide (P.cellsOf e = 1) && decide (xs.toList.length = n) && decide (ys.toList.length = n) && !P.eqGuardType P.depth t with
      | true => (eqCells xs.toList ys.toList).bind (eqV op)
      | false => none
    | _ => none
  | _, _ => none

def unV (op : UnOp) (x : Value) : Option Value :=
  match op, x with
  | .neg, .int k n => some (.int k (k.wrap (0 - n)))
  | .xor, .int k n => some (.int k (bits .xor k (match k.signed with | true => -1 | false => k.max) n))
  | .not, .bool b => some (.bool !b)
  | _, _ => none

/-- One that is a number, a truth value, a text, or none of what it might be. -/
def simple : Value → Bool
  | .int k n => decide (k.min ≤ n) && decide (n ≤ k.max)
  | .bool _ | .string _ | .pointer none | .slice none _ _ | .nilFunc | .nilIface => true
  | _ => false
def constOk (v : Value) : Bool := match v with
  | .agg cs => cs.toList.all simple
  | .tuple cs => cs.toList.all simple
  | v => simple v

theorem simple_ok {D : Nat → Prop} {v : Value} (h : simple v = true) : Vok D v ∧ ∀ r, ren r v = v := by
  unfold simple at h
  split at h
  · simp at h; exact ⟨.int h, fun r => by simp⟩
  · exact ⟨.bool _, fun r => by simp⟩
  · exact ⟨.string _, fun r => by simp⟩
  · exact ⟨.ptrNil, fun r => by simp⟩
  · exact ⟨.slcNil _ _, fun r => by simp⟩
  · exact ⟨.nilFunc, fun r => by simp⟩
  · exact ⟨.nilIface, fun r => by simp⟩
  · cases h
theorem const_ok {D : Nat → Prop} {v : Value} (h : constOk v = true) : Vok D v ∧ ∀ r, ren r v = v := by
  have key : ∀ cs : Array Value, cs.toList.all simple = true → (∀ u ∈ cs, Vok D u) ∧ ∀ r, cs.map (ren r) = cs := by
    intro cs hcs
    rw [List.all_eq_true] at hcs
    refine ⟨fun u hu => (simple_ok (hcs u (by simpa using hu))).1, fun r => ?_⟩
    conv => rhs; rw [← Array.map_id cs]
    exact Array.map_congr_left fun u hu => (simple_ok (D := D) (hcs u (by simpa using hu))).2 r
  unfold constOk at h
  split at h
  · obtain ⟨h1, h2⟩ := key _ h
    exact ⟨.agg h1, fun r => by rw [ren_agg, h2 r]⟩
  · obtain ⟨h1, h2⟩ := key _ h
    exact ⟨.tuple h1, fun r => by rw [ren_tuple, h2 r]⟩
  · exact simple_ok h

section
variable {P : Program} {D : Nat → Prop}

theorem intBin_sound {op : BinOp} {k : IntKind} {a b : Int} {v : Value} (ha : k.min ≤ a ∧ a ≤ k.max) (h : intBin op k a b = some v) (hs : op ≠ .shl ∧ op ≠ .shr) (t : TypeId) (w : World) :
    (binOp op t (.int k a) (.int k b)).run P w = .ok v w ∧ Vok D v ∧ ∀ r, ren r v = v := by
  cases op <;> simp only [intBin] at h <;> (try (exfalso; simp at hs; done)) <;> (try (cases h; done))
  case quo =>
    split at h
    · cases h
    · rename_i hb; cases h
      simp at hb
      exact ⟨by simp [binOp, Op.intDiv, hb], .int (wrap_in _ _), fun r => by simp⟩
  case rem =>
    split at h
    · cases h
    · rename_i hb; cases h
      simp at hb
      exact ⟨by simp [binOp, Op.intDiv, hb], .int (tmod_in ha), fun r => by simp⟩
  all_goals (cases h; refine ⟨by first | rfl | simp [binOp, Op.intArith, Op.intCmp, Op.intBits, bits], ?_, fun r => by simp⟩)
  all_goals first | exact .bool _ | exact .int (wrap_in _ _)

theorem eqCells_ren (r : Ren) : ∀ (xs ys : List Value) (b : Bool), eqCells xs ys = some b → xs.map (ren r) = xs ∧ ys.map (ren r) = ys ∧ xs.length = ys.length
  | [], [], _, _ => by simp
  | [], _ :: _, _, h => by simp [eqCells] at h
  | x :: xs, [], _, h => by cases x <;> simp [eqCells] at h
  | x :: xs, y :: ys, b, h => by
    cases x <;> (try (simp [eqCells] at h; done))
    cases y <;> (try (simp [eqCells] at h; done))
    simp only [eqCells] at h
    split at h
    · cases he : eqCells xs ys with
      | none => rw [he] at h; cases h
      | some c =>
        obtain ⟨h1, h2, h3⟩ := eqCells_ren r xs ys c he
        simp [h1, h2, h3]
    · cases h

theorem run_eqItems_cells {e : TypeId} (he : isIntT P e = true) (dd : Nat) (w : World) : ∀ (xs ys : List Value) (c : Bool) (A B : List Value), A.length = B.length → eqCells xs ys = some c →
    (Op.eqItems (dd + 1) e 1 (A ++ xs).toArray (B ++ ys).toArray (List.range' A.length xs.length)).run P w = .ok c w
  | [], [], c, A, B, _, h => by
    simp [eqCells] at h
    subst h
    simp [Op.eqItems]
  | [], _ :: _, _, _, _, _, h => by simp [eqCells] at h
  | x :: xs, [], _, _, _, _, h => by cases x <;> simp [eqCells] at h
  | x :: xs, y :: ys, c, A, B, hl, h => by
    cases x <;> (try (simp [eqCells] at h; done))
    cases y <;> (try (simp [eqCells] at h; done))
    rename_i k a k' b
    simp only [eqCells] at h
    split at h
    · rename_i hk
      simp at hk
      subst hk
      cases hrec : eqCells xs ys with
      | none => rw [hrec] at h; cases h
      | some c' =>
        rw [hrec] at h
        simp at h
        have ih := run_eqItems_cells he dd w xs ys c' (A ++ [.int k a]) (B ++ [.int k b]) (by simp [hl]) hrec
        simp only [List.append_assoc, List.singleton_append, List.length_append, List.length_singleton] at ih
        obtain ⟨q, hq⟩ : ∃ q, P.underlying e = some (.int q) := by
          unfold isIntT at he
          split at he
          · rename_i q hq; exact ⟨q, hq⟩
          · cases he
        have p1 : (part e (A ++ Value.int k a :: xs).toArray (A.length * 1)).run P w = .ok (.int k a) w := by simp [part, isAgg, run_underlying hq]
        have p2 : (part e (B ++ Value.int k b :: ys).toArray (A.length * 1)).run P w = .ok (.int k b) w := by simp [part, isAgg, run_underlying hq, hl]
        have p3 : (Op.equalIn (dd + 1) e (.int k a) (.int k b)).run P w = .ok (a == b) w := by simp [Op.equalIn, run_underlying hq]
        simp only [List.length_cons, List.range'_succ, Op.eqItems, Sem.run_bind, p1, p2, p3, Result.andThen_ok]
        rw [← h]
        cases hab : (a == b) with
        | false => simp
        | true => simpa using ih
    · cases h

theorem run_eqV {op : BinOp} {c : Bool} {v : Value} (h : eqV op c = some v) {t : TypeId} {x y : Value} {w : World}
    (h1 : binOp .eql t x y = (do pure (.bool (← Op.equal t x y)))) (h2 : binOp .neq t x y = (do pure (.bool (!(← Op.equal t x y)))))
    (hr : (Op.equal t x y).run P w = .ok c w) : (binOp op t x y).run P w = .ok v w ∧ Vok D v ∧ ∀ r', ren r' v = v := by
  cases op <;> simp only [eqV] at h <;> (try (cases h; done)) <;> cases h
  · rw [h1]; exact ⟨by simp [hr], .bool _, fun r' => by simp⟩
  · rw [h2]; exact ⟨by simp [hr], .bool _, fun r' => by simp⟩

theorem binV_sound {op : BinOp} {t : TypeId} {x y v : Value} (hx : Vok D x) (hy : Vok D y) (h : binV P op t x y = some v) (r : Ren) (w : World) :
    ((binOp op t (ren r x) (ren r y)).run P w = .ok v w ∧ Vok D v ∧ ∀ r', ren r' v = v) ∧ ∀ a b, (eqGuard op t a b (ren r x) (ren r y)).run P w = .ok () w := by
  unfold binV at h
  split at h
  · rename_i k a k' b
    cases hx
    rename_i hx
    refine ⟨?_, fun a b => by simp [eqGuard]⟩
    split at h
    · unfold shiftV at h
      split at h
      · cases h
      · rename_i hb
        simp at hb
        have hb' : ¬ b < (0 : Int) := Int.not_lt.2 hb
        split at h
        · cases h
          exact ⟨by simp [binOp, Op.shift, hb'], .int (wrap_in _ _), fun r' => by simp⟩
        · cases h
          exact ⟨by simp [binOp, Op.shift, hb'], .int (fdiv_in _ hx), fun r' => by simp⟩
        · cases h
    · rename_i hop
      split at h
      · rename_i hk
        simp at hk
        subst hk
        have := intBin_sound (P := P) (D := D) hx h (by constructor <;> (intro e; rw [e] at hop; cases hop)) t w
        simpa using this
      · cases h
  · split at h
    · rename_i hu
      obtain ⟨hu⟩ : ∃ _ : P.underlying t = some .bool, True := by
        unfold isBoolT at hu
        split at hu
        · rename_i hq; exact ⟨hq, trivial⟩
        · cases hu
      refine ⟨?_, fun a b => by simp [eqGuard]⟩
      rw [ren_bool, ren_bool]
      refine run_eqV h rfl rfl ?_
      exact run_equalIn_bool w 9999 t _ _ hu
    · cases h
  · refine ⟨?_, fun a b => by simp [eqGuard]⟩
    unfold eqV at h
    split at h
    · cases h
      exact ⟨by simp [binOp, Op.stringOp], .bool _, fun r' => by simp⟩
    · cases h
      exact ⟨by simp [binOp, Op.stringOp], .bool _, fun r' => by simp⟩
    · cases h
  · split at h
    · rename_i hu
      obtain ⟨e, hu⟩ : ∃ e, P.underlying t = some (.slice e) := by
        unfold isSliceT at hu
        split at hu
        · rename_i e hq; exact ⟨e, hq⟩
        · cases hu
      refine ⟨?_, fun a b => ?_⟩
      · cases hy <;> simp only [ren_slcNil, ren_slc] <;> refine run_eqV h rfl rfl ?_ <;> show (Op.equalIn (9999 + 1) t _ _).run P w = _ <;> rw [Op.equalIn] <;> simp only [Sem.run_bind, run_underlying hu, Result.andThen_ok] <;> rfl
      · cases hy <;> simp [eqGuard]
    · cases h
  · split at h
    · rename_i hu
      obtain ⟨e, hu⟩ : ∃ e, P.underlying t = some (.slice e) := by
        unfold isSliceT at hu
        split at hu
        · rename_i e hq; exact ⟨e, hq⟩
        · cases hu
      cases hx
      refine ⟨?_, fun a b => by simp [eqGuard]⟩
      rw [ren_slcNil, ren_slc]
      refine run_eqV h rfl rfl ?_
      show (Op.equalIn (9999 + 1) t _ _).run P w = _
      rw [Op.equalIn]
      simp only [Sem.run_bind, run_underlying hu, Result.andThen_ok]
      rfl
    · cases h
  · split at h
    · rename_i hu
      obtain ⟨e, hu⟩ : ∃ e, P.underlying t = some (.pointer e) := by
        unfold isPtrT at hu
        split at hu
        · rename_i e hq; exact ⟨e, hq⟩
        · cases hu
      refine ⟨?_, fun a b => ?_⟩
      · cases hy <;> simp only [ren_ptrNil, ren_ptr] <;> refine run_eqV h rfl rfl ?_ <;> show (Op.equalIn (9999 + 1) t _ _).run P w = _ <;> rw [Op.equalIn] <;> simp only [Sem.run_bind, run_underlying hu, Result.andThen_ok] <;> rfl
      · cases hy <;> simp [eqGuard]
    · cases h
  · split at h
    · rename_i hu
      obtain ⟨e, hu⟩ : ∃ e, P.underlying t = some (.pointer e) := by
        unfold isPtrT at hu
        split at hu
        · rename_i e hq; exact ⟨e, hq⟩
        · cases hu
      cases hx
      refine ⟨?_, fun a b => by simp [eqGuard]⟩
      rw [ren_ptrNil, ren_ptr]
      refine run_eqV h rfl rfl ?_
      show (Op.equalIn (9999 + 1) t _ _).run P w = _
      rw [Op.equalIn]
      simp only [Sem.run_bind, run_underlying hu, Result.andThen_ok]
      rfl
    · cases h
  · rename_i xs ys
    split at h
    · rename_i n e hu
      split at h
      · rename_i hall
        simp only [Bool.and_eq_true, decide_eq_true_eq, Bool.not_eq_true'] at hall
        obtain ⟨⟨⟨⟨h1, h2⟩, h3⟩, h4⟩, h5⟩ := hall
        refine ⟨?_, ?_⟩
        · obtain ⟨i, hi⟩ : ∃ i, P.info? e = some i := by
            unfold isIntT at h1
            split at h1
            · rename_i hq; exact info_of_underlying hq
            · cases h1
          cases hc : eqCells xs.toList ys.toList with
          | none => rw [hc] at h; cases h
          | some c =>
            rw [hc] at h
            obtain ⟨e1, e2, _⟩ := eqCells_ren r _ _ _ hc
            have e1' : xs.map (ren r) = xs := by apply Array.ext'; simpa using e1
            have e2' : ys.map (ren r) = ys := by apply Array.ext'; simpa using e2
            rw [ren_agg, ren_agg, e1', e2']
            refine run_eqV h rfl rfl ?_
            show (Op.equalIn (9999 + 1) t (.agg xs) (.agg ys)).run P w = _
            rw [run_equalIn_array w 9999 xs ys hu hi, h2]
            have := run_eqItems_cells h1 9998 w xs.toList ys.toList c [] [] rfl hc
            simpa [List.range_eq_range', h3] using this
        · intro a b
          rw [ren_agg, ren_agg]
          cases op <;> simp [eqGuard, program, Sem.run, h5]
      · cases h
    · cases h
  · cases h

theorem unV_sound {op : UnOp} {x v : Value} (hx : Vok D x) (h : unV op x = some v) (r : Ren) (w : World) : (Op.unary op (ren r x)).run P w = .ok v w ∧ Vok D v ∧ ∀ r', ren r' v = v := by
  unfold unV at h
  split at h
  · cases h; exact ⟨by simp [Op.unary, Op.intArith], .int (wrap_in _ _), fun r' => by simp⟩
  · cases h
    rename_i k n
    refine ⟨?_, .int (wrap_in _ _), fun r' => by simp⟩
    cases hk : k.signed <;> simp [Op.unary, Op.intBits, hk, bits]
  · cases h; exact ⟨by simp [Op.unary], .bool _, fun r' => by simp⟩
  · cases h
end
end Go.Sx

/-
Shadow runs: what an operation makes of values, and that the model's operation makes the same.
-/
namespace Go.Sx
open Go
set_option linter.unusedVariables false
set_option linter.unusedSimpArgs false
set_option linter.unusedSectionVars false
variable [Globs]

def partV (P : Program) (t : TypeId) (cs : List Value) (off : Nat) : Option Value :=
  match P.underlying t with
  | some (.struct _) | some (.array _ _) => some (.agg ⟨(cs.drop off).take (P.cellsOf t)⟩)
  | some _ => cs[off]?
  | none => none

/-- Is an index in its bounds? -/
def inB (n : Int) (len : Nat) : Bool := decide (0 ≤ n) && decide (n < len)

def natV (y : Nat) : Value → Option Nat
  | .int _ n => match decide (0 ≤ n) && decide (n ≤ y) with
    | true => some n.toNat
    | false => none
  | _ => none
def boundV (x : Option Value) (d y : Nat) : Option Nat :=
  match x with
  | none => some d
  | some v => natV y v

def addrV (b o n : Nat) : Value := .pointer (some ⟨b, o + n, none⟩)

def ptrOf : Value → Option (Nat × Nat)
  | .pointer (some ⟨b, o, _⟩) => some (b, o)
  | _ => none

/-- A cut of a row: block, place, mark, the bounds. -/
def cutV (size b o : Nat) (sp : Option Nat) (len cap : Nat) (lo hi : Option Value) : Option Value :=
  match boundV hi len cap with
  | none => none
  | some h => match boundV lo 0 h with
    | none => none
    | some l => match decide (l < cap) with
      | true => some (.slice (some ⟨b, o + l * size, sp⟩) (h - l) (cap - l))
      | false => match sp with
        | none => none
        | some k => match decide (l = cap) with
          | true => some (.slice (some ⟨b, o, some k⟩) (h - l) 0)
          | false => none
/-- A cut whose room is told. -/
def cut3 (size b o cap : Nat) (lo hi : Option Value) (mx : Value) : Option Value :=
  match natV cap mx with
  | none => none
  | some m => match hi with
    | none => none
    | some hv => match natV m hv with
      | none => none
      | some h => match boundV lo 0 h with
        | none => none
        | some l => match decide (m = l) with
          | true => some (.slice (some ⟨b, o, some 0⟩) (h - l) 0)
          | false => match decide (l < m) with
            | true => some (.slice (some ⟨b, o + l * size, some 0⟩) (h - l) (m - l))
            | false => none

def fillV (place : Nat → Option (Nat × Nat)) (cells : List Value) : List (Nat × Value) → Option (List Value)
  | [] => some cells
  | (i, v) :: rest =>
    match place i with
    | none => none
    | some (off, size) => match decide (v.cells.toList.length = size) && decide (off + v.cells.toList.length ≤ cells.length) with
      | true => fillV place (splice cells off v.cells.toList) rest
      | false => none

def evs (ev : Operand → Option Value) : List Operand → Option (List Value)
  | [] => some []
  | x :: xs => match ev x with
    | none => none
    | some v => match evs ev xs with
      | none => none
      | some vs => some (v :: vs)

def evParts (ev : Operand → Option Value) : List (Nat × Operand) → Option (List (Nat × Value))
  | [] => some []
  | (i, x) :: xs => match ev x with
    | none => none
    | some v => match evParts ev xs with
      | none => none
      | some vs => some ((i, v) :: vs)

def evOpt (ev : Operand → Option Value) : Option Operand → Option (Option Value)
  | none => some none
  | some x => (ev x).map some

def zeroCells (P : Program) (t : TypeId) : Option (List Value) :=
  match P.info? t with
  | some i => match i.zero with
    | some z => match constOk z with
      | true => some z.cells.toList
      | false => none
    | none => none
  | none => none

/-- Operations that touch no memory. -/
def valOp (P : Program) (ev : Operand → Option Value) : Op → Option Value
  | .move x => ev x
  | .assign x => ev x
  | .pick c a b => match ev c with
    | some (.bool true) => ev a
    | some (.bool false) => ev b
    | _ => none
  | .nilCheck x => match ev x with
    | some (.pointer (some a)) => some (.pointer (some a))
    | some (.func (.func f) fi ca) => some (.func (.func f) fi ca)
    | _ => none
  | .binOp op t x y _ => match ev x with
    | none => none
    | some a => match ev y with
      | none => none
      | some b => binV P op t a b
  | .unOp op _ x => match ev x with
    | none => none
    | some a => unV op a
  | .convert src dst x => match ev x with
    | some (.int _ n) => match P.underlying src with
      | none => none
      | some _ => match P.underlying dst with
        | some (.int k') => some (.int k' (k'.wrap n))
        | _ => none
    | _ => none
  | .fieldAddr s x f => match P.underlying s with
    | some (.struct fields) => match ev x with
      | some (.pointer (some a)) => match fields[f]? with
        | some fd => match P.info? fd.type with
          | some i => match decide (i.size = 0) with
            | true => none
            | false => some (addrV a.block a.off fd.offset)
          | none => none
        | none => none
      | _ => none
    | _ => none
  | .field t x f => match P.underlying t with
    | some (.struct fields) => match ev x with
      | some (.agg cs) => match fields[f]? with
        | some fd => partV P fd.type cs.toList fd.offset
        | none => none
      | _ => none
    | _ => none
  | .indexAddr t x i => match ev i with
    | some (.int _ n) => match P.underlying t with
      | some (.array len e) => match ev x with
        | some (.pointer (some a)) => match inB n len && (P.info? e).isSome with
          | true => some (addrV a.block a.off (n.toNat * P.cellsOf e))
          | false => none
        | _ => none
      | some (.slice e) => match ev x with
        | some (.slice (some a) len _) => match inB n len && (P.info? e).isSome with
          | true => some (addrV a.block a.off (n.toNat * P.cellsOf e))
          | false => none
        | _ => none
      | _ => none
    | _ => none
  | .index t x i => match ev i with
    | some (.int _ n) => match P.underlying t with
      | some (.array len e) => match ev x with
        | some (.agg cs) => match inB n len with
          | true => partV P e cs.toList (n.toNat * P.cellsOf e)
          | false => none
        | _ => none
      | some .string => match ev x with
        | some (.string s) => match decide (0 ≤ n) with
          | true => match s.data.toList[n.toNat]? with
            | some c => some (.int .u8 c.toNat)
            | none => none
          | false => none
        | _ => none
      | _ => none
    | _ => none
  | .extract x i => match ev x with
    | some (.tuple vs) => vs.toList[i]?
    | _ => none
  | .makeFunc fn first captured => match evs ev first.toList with
    | none => none
    | some a => match evs ev captured.toList with
      | none => none
      | some b => some (.func fn ⟨a⟩ ⟨b⟩)
  | .slice t x lo hi mx => match evOpt ev lo with
    | none => none
    | some lo => match evOpt ev hi with
      | none => none
      | some hi => match evOpt ev mx with
        | none => none
        | some none => match P.underlying t with
          | some (.slice e) => match ev x with
            | some (.slice (some a) len cap) => match (P.info? e).isSome with
              | true => cutV (P.cellsOf e) a.block a.off a.spot len cap lo hi
              | false => none
            | _ => none
          | some (.array n e) => match ev x with
            | some (.pointer (some a)) => match (P.info? e).isSome with
              | true => cutV (P.cellsOf e) a.block a.off (some 0) n n lo hi
              | false => none
            | _ => none
          | _ => none
        | some (some mx) => match P.underlying t with
          | some (.slice e) => match ev x with
            | some (.slice (some a) len cap) => match (P.info? e).isSome with
              | true => cut3 (P.cellsOf e) a.block a.off cap lo hi mx
              | false => none
            | _ => none
          | _ => none
  | .build t parts => match zeroCells P t with
    | none => none
    | some z => match evParts ev parts.toList with
      | none => none
      | some ps => match P.underlying t with
        | some (.struct fields) => match fields.toList.all fun f => (P.info? f.type).isSome with
          | true => (fillV (fun i => (fields[i]?).map fun f => (f.offset, P.cellsOf f.type)) z ps).map fun cs => .agg ⟨cs⟩
          | false => none
        | some (.array _ e) => match (P.info? e).isSome with
          | true => (fillV (fun i => some (i * P.cellsOf e, P.cellsOf e)) z ps).map fun cs => .agg ⟨cs⟩
          | false => none
        | _ => none
  | .sliceToArrayPointer arr x => match P.underlying arr with
    | some (.array n _) => match ev x with
      | some (.slice (some a) len _) => match decide (n ≤ len) with
        | true => some (.pointer (some ⟨a.block, a.off, none⟩))
        | false => none
      | _ => none
    | _ => none
  | .call c => match c.callee with
    | .builtin .len => match evs ev c.args.toList with
      | some [x] => match c.argTypes.toList with
        | t :: _ => match P.underlying t, x with
          | some (.slice _), .slice _ n _ => match decide (n ≤ 140737488355328) with
            | true => some (.int .i64 n)
            | false => none
          | some .string, .string s => match decide (s.size ≤ 140737488355328) with
            | true => some (.int .i64 s.size)
            | false => none
          | some (.array n _), _ => match decide (n ≤ 140737488355328) with
            | true => some (.int .i64 n)
            | false => none
          | _, _ => none
        | [] => none
      | _ => none
    | .builtin .min => match evs ev c.args.toList with
      | some [.int k x, .int k' y] => match decide (k = k') with
        | true => some (.int k (match decide (y < x) with | true => y | false => x))
        | false => none
      | _ => none
    | .builtin .max => match evs ev c.args.toList with
      | some [.int k x, .int k' y] => match decide (k = k') with
        | true => some (.int k (match decide (y > x) with | true => y | false => x))
        | false => none
      | _ => none
    | _ => none
  | _ => none

/-! ### the model makes the same -/
section
variable {P : Program} {D : Nat → Prop} {r : Ren} {w : World}

def aggD : TypeDesc → Bool
  | .struct _ | .array _ _ => true
  | _ => false
theorem run_isAgg {t : TypeId} {d : TypeDesc} (h : P.underlying t = some d) : (isAgg t).run P w = .ok (aggD d) w := by
  cases d <;> simp [isAgg, run_underlying h, aggD]

theorem partV_sound {t : TypeId} {cs : Array Value} {off : Nat} {v : Value} (hcs : ∀ u ∈ cs, Vok D u) (h : partV P t cs.toList off = some v) :
    (part t (cs.map (ren r)) off).run P w = .ok (ren r v) w ∧ Vok D v := by
  unfold partV at h
  have agg : ∀ d, P.underlying t = some d → aggD d = true → some (Value.agg ⟨(cs.toList.drop off).take (P.cellsOf t)⟩) = some v →
      (part t (cs.map (ren r)) off).run P w = .ok (ren r v) w ∧ Vok D v := by
    intro d hu hd h
    cases h
    obtain ⟨i, hi⟩ := info_of_underlying hu
    refine ⟨?_, .agg fun u hu => ?_⟩
    · have h1 := run_isAgg (w := w) hu
      rw [hd] at h1
      simp only [part, Sem.run_bind, h1, Result.andThen_ok, if_true, run_sizeOf w hi, Sem.run_pure, ren_agg]
      congr 2
      apply Array.ext'
      simp [List.map_drop, List.map_take]
    · have : u ∈ cs.toList := List.mem_of_mem_drop (List.mem_of_mem_take (by simpa using hu))
      exact hcs u (by simpa using this)
  split at h
  · rename_i hu; exact agg _ hu rfl h
  · rename_i hu; exact agg _ hu rfl h
  · rename_i d hn1 hn2 hu
    have h1 : (isAgg t).run P w = .ok false w := by
      rw [run_isAgg hu]
      cases d <;> simp_all [aggD]
    refine ⟨?_, hcs v (by have := List.mem_of_getElem? h; simpa using this)⟩
    have h2 : (cs.map (ren r))[off]? = some (ren r v) := by simp at h ⊢; exact ⟨v, h, rfl⟩
    simp only [part, Sem.run_bind, h1, Result.andThen_ok, Bool.false_eq_true, if_false, h2]
    rfl
  · cases h

theorem zeroCells_sound {t : TypeId} {z : List Value} (h : zeroCells P t = some z) : ∃ v, (zeroValue t).run P w = .ok v w ∧ v.cells.toList = z ∧ (∀ u ∈ z, Vok D u) ∧ (∀ r, z.map (ren r) = z) := by
  unfold zeroCells at h
  split at h
  · rename_i i hi
    split at h
    · rename_i v hz
      split at h
      · rename_i hc
        cases h
        obtain ⟨h1, h2⟩ := const_ok (D := D) hc
        refine ⟨v, by simp [zeroValue, run_typeInfo w hi, hz], rfl, cells_ok h1, fun r => ?_⟩
        have := cells_ren h1 r
        rw [h2 r] at this
        have := congrArg Array.toList this
        simpa using this.symm
      · cases h
    · cases h
  · cases h

/-- What is known of the operands. -/
def EvOk (D : Nat → Prop) (r : Ren) (ev : Operand → Option Value) (ea : Operand → Value) (xs : List Operand) : Prop :=
  ∀ x ∈ xs, ∀ v, ev x = some v → ea x = ren r v ∧ Vok D v

theorem evs_sound {ev : Operand → Option Value} {ea : Operand → Value} : ∀ {xs : List Operand} {vs : List Value}, EvOk D r ev ea xs → evs ev xs = some vs → xs.map ea = vs.map (ren r) ∧ ∀ v ∈ vs, Vok D v
  | [], vs, _, h => by simp [evs] at h; subst h; simp
  | x :: xs, vs, he, h => by
    simp only [evs] at h
    split at h
    · cases h
    · rename_i v hv
      split at h
      · cases h
      · rename_i us hus
        cases h
        obtain ⟨h1, h2⟩ := evs_sound (xs := xs) (fun y hy => he y (List.mem_cons_of_mem _ hy)) hus
        obtain ⟨h3, h4⟩ := he x List.mem_cons_self v hv
        refine ⟨by simp [h1, h3], fun u hu => ?_⟩
        rcases List.mem_cons.1 hu with rfl | hu
        · exact h4
        · exact h2 u hu

theorem evParts_sound {ev : Operand → Option Value} {ea : Operand → Value} : ∀ {xs : List (Nat × Operand)} {vs : List (Nat × Value)}, EvOk D r ev ea (xs.map (·.2)) → evParts ev xs = some vs →
    xs.map (fun (i, x) => (i, ea x)) = vs.map (fun (i, v) => (i, ren r v)) ∧ ∀ p ∈ vs, Vok D p.2
  | [], vs, _, h => by simp [evParts] at h; subst h; simp
  | (i, x) :: xs, vs, he, h => by
    simp only [evParts] at h
    split at h
    · cases h
    · rename_i v hv
      split at h
      · cases h
      · rename_i us hus
        cases h
        obtain ⟨h1, h2⟩ := evParts_sound (xs := xs) (fun y hy => he y (List.mem_cons_of_mem _ hy)) hus
        obtain ⟨h3, h4⟩ := he x (by simp) v hv
        refine ⟨by simp [h1, h3], fun u hu => ?_⟩
        rcases List.mem_cons.1 hu with rfl | hu
        · exact h4
        · exact h2 u hu

theorem evOpt_sound {ev : Operand → Option Value} {ea : Operand → Value} {x : Option Operand} {v : Option Value} (he : EvOk D r ev ea x.toList) (h : evOpt ev x = some v) : x.map ea = v.map (ren r) ∧ ∀ u, v = some u → Vok D u := by
  cases x with
  | none => simp [evOpt] at h; subst h; simp
  | some x =>
    simp only [evOpt] at h
    cases hx : ev x with
    | none => rw [hx] at h; cases h
    | some u =>
      rw [hx] at h
      cases h
      obtain ⟨h1, h2⟩ := he x (by simp) u hx
      simp [h1, h2]

theorem fillV_sound {place : Nat → Option (Nat × Nat)} : ∀ {ps : List (Nat × Value)} {cs out : List Value}, (∀ p ∈ ps, Vok D p.2) → (∀ u ∈ cs, Vok D u) → fillV place cs ps = some out →
    Instr.fill place (cs.map (ren r)).toArray (ps.map fun (i, v) => (i, ren r v)) = some (out.map (ren r)).toArray ∧ ∀ u ∈ out, Vok D u
  | [], cs, out, _, hc, h => by simp [fillV] at h; subst h; exact ⟨by simp [Instr.fill], hc⟩
  | (i, v) :: ps, cs, out, hp, hc, h => by
    simp only [fillV] at h
    split at h
    · cases h
    · rename_i off size hpl
      split at h
      · rename_i hcond
        simp at hcond
        have hv := hp (i, v) (by simp)
        have hcell := cells_ren hv r
        have hok := cells_ok hv
        have hsp : ∀ (vs : List Value) (j o : Nat) (A : List Value), o + j + vs.length ≤ A.length →
            (vs.zipIdx j).foldl (fun (cs : Array Value) (p : Value × Nat) => cs.setIfInBounds (o + p.2) p.1) A.toArray = (splice A (o + j) vs).toArray := by
          intro vs
          induction vs with
          | nil => intro j o A _; simp [splice_nil]
          | cons u vs ih =>
            intro j o A hl
            simp only [List.length_cons] at hl
            have := ih (j + 1) o (A.set (o + j) u) (by simp; omega)
            simp only [List.zipIdx_cons, List.foldl_cons]
            rw [splice_cons _ _ _ _ (by omega), show o + j + 1 = o + (j + 1) by omega, ← this]
            simp
        obtain ⟨h1, h2⟩ := fillV_sound (ps := ps) (cs := splice cs off v.cells.toList) (fun p hp' => hp p (List.mem_cons_of_mem _ hp')) (fun u hu => by
          rcases mem_splice hu with hu | hu
          · exact hc u hu
          · exact hok u hu) h
        refine ⟨?_, h2⟩
        simp only [List.map_cons, Instr.fill, hpl, hcell]
        rw [if_neg (by simp; omega)]
        rw [← h1, splice_map]
        congr 1
        have := hsp (v.cells.toList.map (ren r)) 0 off (cs.map (ren r)) (by simp; omega)
        simp only [Nat.add_zero] at this
        rw [← this]
        rw [← Array.foldl_toList]
        simp
      · cases h

theorem sliceBound_sound {v : Value} {y y' h : Nat} {code : BoundsCode} (hb : natV y v = some h) (hy : y ≤ y') : (Instr.sliceBound (ren r v) y' code).run P w = .ok h w := by
  unfold natV at hb
  split at hb
  · rename_i k n
    split at hb
    · rename_i hc
      cases hb
      simp at hc
      have : n ≤ y' := by omega
      simp [Instr.sliceBound, asIntOf, hc, this]
    · cases hb
  · cases hb

theorem bounds2_sound {len cap x h l : Nat} {lo hi : Option Value} (hh : boundV hi len cap = some h) (hl : boundV lo 0 h = some l) (isSlice : Bool) :
    (Instr.sliceBounds isSlice len (cap + x) (lo.map (ren r)) (hi.map (ren r)) none).run P w = .ok (l, h, cap + x) w := by
  cases hi with
  | none =>
    simp only [boundV, Option.some.injEq] at hh
    subst hh
    cases lo with
    | none =>
      simp only [boundV, Option.some.injEq] at hl
      subst hl
      simp [Instr.sliceBounds]
    | some u =>
      have := sliceBound_sound (P := P) (r := r) (w := w) (code := .sliceB) hl (Nat.le_refl _)
      simp [Instr.sliceBounds, this]
  | some t =>
    have ht := sliceBound_sound (P := P) (r := r) (w := w) (y' := cap + x) (code := if isSlice then .sliceAcap else .sliceAlen) hh (Nat.le_add_right _ _)
    cases lo with
    | none =>
      simp only [boundV, Option.some.injEq] at hl
      subst hl
      simp only [Instr.sliceBounds, Option.map_some, Option.map_none, Sem.run_bind, Sem.run_pure, Result.andThen_ok, ht]
    | some u =>
      have hu := sliceBound_sound (P := P) (r := r) (w := w) (code := .sliceB) hl (Nat.le_refl _)
      simp only [Instr.sliceBounds, Option.map_some, Option.map_none, Option.isSome_none, Bool.false_eq_true, if_false, Sem.run_bind, Sem.run_pure, Result.andThen_ok, ht, hu]

/-- The model's address and room behind a cut are those that the cut's names tell. -/
theorem cutV_sound {size b o len cap : Nat} {sp : Option Nat} {lo hi : Option Value} {v : Value} (h : cutV size b o sp len cap lo hi = some v) (isSlice : Bool) :
    ∃ l h', (Instr.sliceBounds isSlice len (cap + r.xt ⟨b, o, sp⟩) (lo.map (ren r)) (hi.map (ren r)) none).run P w = .ok (l, h', cap + r.xt ⟨b, o, sp⟩) w ∧
      ren r v = .slice (some (if cap + r.xt ⟨b, o, sp⟩ = l then ⟨r.blk b, o + r.sh b, none⟩ else ⟨r.blk b, o + r.sh b + l * size, none⟩)) (h' - l) (cap + r.xt ⟨b, o, sp⟩ - l) ∧ ∃ o' l' c', v = .slice (some ⟨b, o', sp⟩) l' c' := by
  unfold cutV at h
  split at h
  · cases h
  · rename_i h' hh
    split at h
    · cases h
    · rename_i l hl
      have hb := bounds2_sound (P := P) (r := r) (w := w) (x := r.xt ⟨b, o, sp⟩) hh hl isSlice
      split at h
      · rename_i hlt
        cases h
        simp at hlt
        refine ⟨l, h', hb, ?_, _, _, _, rfl⟩
        rw [if_neg (by omega), ren_slc]
        have e : r.xt ⟨b, o + l * size, sp⟩ = r.xt ⟨b, o, sp⟩ := rfl
        rw [e, show cap - l + r.xt ⟨b, o, sp⟩ = cap + r.xt ⟨b, o, sp⟩ - l by omega, show o + l * size + r.sh b = o + r.sh b + l * size by omega]
      · split at h
        · cases h
        · rename_i k
          split at h
          · rename_i hlc
            cases h
            simp at hlc
            refine ⟨l, h', hb, ?_, _, _, _, rfl⟩
            have e : r.xt ⟨b, o, some k⟩ = 0 := rfl
            rw [e, Nat.add_zero, if_pos hlc.symm, ren_slc, hlc]
            simp [Ren.xt]
          · cases h

theorem cut3_sound {size b o cap x : Nat} {len : Nat} {lo hi : Option Value} {mx v : Value} (h : cut3 size b o cap lo hi mx = some v) :
    ∃ l h' m, (Instr.sliceBounds true len (cap + x) (lo.map (ren r)) (hi.map (ren r)) (some (ren r mx))).run P w = .ok (l, h', m) w ∧
      ren r v = .slice (some (if m = l then ⟨r.blk b, o + r.sh b, none⟩ else ⟨r.blk b, o + r.sh b + l * size, none⟩)) (h' - l) (m - l) ∧ ∃ o' l' c', v = .slice (some ⟨b, o', some 0⟩) l' c' := by
  unfold cut3 at h
  split at h
  · cases h
  · rename_i m hm
    split at h
    · cases h
    · rename_i hv
      split at h
      · cases h
      · rename_i h' hh
        split at h
        · cases h
        · rename_i l hl
          have hb : (Instr.sliceBounds true len (cap + x) (lo.map (ren r)) ((some hv).map (ren r)) (some (ren r mx))).run P w = .ok (l, h', m) w := by
            have h1 := sliceBound_sound (P := P) (r := r) (w := w) (y' := cap + x) (code := .slice3Acap) hm (Nat.le_add_right _ _)
            have h2 := sliceBound_sound (P := P) (r := r) (w := w) (code := .slice3B) hh (Nat.le_refl _)
            cases lo with
            | none =>
              simp only [boundV, Option.some.injEq] at hl
              subst hl
              simp only [Instr.sliceBounds, Option.map_some, Option.map_none, if_true, Sem.run_bind, Sem.run_pure, Result.andThen_ok, h1, h2]
            | some u =>
              have h3 := sliceBound_sound (P := P) (r := r) (w := w) (code := .slice3C) hl (Nat.le_refl _)
              simp only [Instr.sliceBounds, Option.map_some, Option.isSome_some, if_true, Sem.run_bind, Sem.run_pure, Result.andThen_ok, h1, h2, h3]
          split at h
          · rename_i hml
            cases h
            simp at hml
            refine ⟨l, h', m, hb, ?_, _, _, _, rfl⟩
            rw [if_pos hml, ren_slc, hml]
            simp [Ren.xt]
          · rename_i hml
            simp at hml
            split at h
            · rename_i hlt
              cases h
              refine ⟨l, h', m, hb, ?_, _, _, _, rfl⟩
              rw [if_neg hml, ren_slc, show o + l * size + r.sh b = o + r.sh b + l * size by omega]
              simp [Ren.xt]
            · cases h

theorem evOk_mono {xs ys : List Operand} {ev : Operand → Option Value} {ea : Operand → Value} (h : EvOk D r ev ea xs) (hs : ∀ y ∈ ys, y ∈ xs) : EvOk D r ev ea ys := fun y hy => h y (hs y hy)

theorem pure_value (o : Oper) (ea : Operand → Value) (x : Sem Value) (v : Value) (he : execOp ea o = (do pure (.value (← x)))) (h : x.run P w = .ok v w) : (execOp ea o).run P w = .ok (.value v) w := by
  rw [he]; simp [h]

theorem valOp_sound {ev : Operand → Option Value} {ea : Operand → Value} {o : Oper} {v : Value} (he : EvOk D r ev ea o.op.operands.toList) (h : valOp P ev o.op = some v) :
    (execOp ea o).run P w = .ok (.value (ren r v)) w ∧ Vok D v := by
  obtain ⟨dst, op, type, pos, after, guard⟩ := o
  simp only at he h
  cases op <;> (try (simp only [valOp] at h; done)) <;> (try (simp only [valOp] at h; cases h; done))
  case move x =>
    obtain ⟨h1, h2⟩ := he x (by simp [Op.operands]) v h
    exact ⟨by simp [execOp, h1], h2⟩
  case assign x =>
    obtain ⟨h1, h2⟩ := he x (by simp [Op.operands]) v h
    exact ⟨by simp [execOp, h1], h2⟩
  case pick c a b =>
    simp only [valOp] at h
    split at h
    · rename_i hc
      obtain ⟨h1, _⟩ := he c (by simp [Op.operands]) _ hc
      obtain ⟨h3, h4⟩ := he a (by simp [Op.operands]) v h
      exact ⟨by simp [execOp, h1, h3, asBool], h4⟩
    · rename_i hc
      obtain ⟨h1, _⟩ := he c (by simp [Op.operands]) _ hc
      obtain ⟨h3, h4⟩ := he b (by simp [Op.operands]) v h
      exact ⟨by simp [execOp, h1, h3, asBool], h4⟩
    · cases h
  case nilCheck x =>
    simp only [valOp] at h
    split at h
    · rename_i a hx
      cases h
      obtain ⟨h1, h2⟩ := he x (by simp [Op.operands]) _ hx
      cases h2
      exact ⟨by simp [execOp, h1], .ptr (by assumption)⟩
    · rename_i f fi ca hx
      cases h
      obtain ⟨h1, h2⟩ := he x (by simp [Op.operands]) _ hx
      exact ⟨by simp [execOp, h1], h2⟩
    · cases h
  case binOp op t x y yt =>
    simp only [valOp] at h
    split at h
    · cases h
    · rename_i a ha
      split at h
      · cases h
      · rename_i b hb
        obtain ⟨h1, h2⟩ := he x (by simp [Op.operands]) _ ha
        obtain ⟨h3, h4⟩ := he y (by simp [Op.operands]) _ hb
        obtain ⟨⟨k1, k2, k3⟩, k4⟩ := binV_sound (P := P) h2 h4 h r w
        refine ⟨?_, k2⟩
        simp [execOp, h1, h3, k4, k1, k3 r]
  case unOp op t x =>
    simp only [valOp] at h
    split at h
    · cases h
    · rename_i a ha
      obtain ⟨h1, h2⟩ := he x (by simp [Op.operands]) _ ha
      obtain ⟨k1, k2, k3⟩ := unV_sound (P := P) h2 h r w
      exact ⟨by simp [execOp, h1, k1, k3 r], k2⟩
  case convert src dst x =>
    simp only [valOp] at h
    split at h
    · rename_i k n hx
      split at h
      · cases h
      · rename_i d1 hu1
        split at h
        · rename_i k' hu2
          cases h
          obtain ⟨h1, h2⟩ := he x (by simp [Op.operands]) _ hx
          refine ⟨?_, .int (wrap_in _ _)⟩
          simp [execOp, h1, convert, run_underlying hu1, run_underlying hu2, Conv.intToInt]
        · cases h
    · cases h
  case fieldAddr s x f =>
    simp only [valOp] at h
    split at h
    · rename_i fields hu
      split at h
      · rename_i a hx
        split at h
        · rename_i fd hf
          split at h
          · rename_i i hi
            split at h
            · cases h
            · rename_i hz
              cases h
              simp at hz
              obtain ⟨h1, h2⟩ := he x (by simp [Op.operands]) _ hx
              cases h2
              refine ⟨?_, .ptr (by assumption)⟩
              have hcell : P.cellsOf fd.type = i.size := by simp [Program.cellsOf, hi]
              simp [execOp, h1, Instr.fieldAt, run_underlying hu, hf, Instr.sureAddr, fieldPlace, run_sizeOf w hi, hcell, hz, addrV, add_none, Nat.add_right_comm]
          · cases h
        · cases h
      · cases h
    · cases h
  case field t x f =>
    simp only [valOp] at h
    split at h
    · rename_i fields hu
      split at h
      · rename_i cs hx
        split at h
        · rename_i fd hf
          obtain ⟨h1, h2⟩ := he x (by simp [Op.operands]) _ hx
          cases h2
          rename_i hcs
          obtain ⟨k1, k2⟩ := partV_sound (P := P) (r := r) (w := w) hcs h
          refine ⟨?_, k2⟩
          simp [execOp, h1, Instr.field, run_underlying hu, hf, asAgg, k1]
        · cases h
      · cases h
    · cases h
  case indexAddr t x i =>
    simp only [valOp] at h
    split at h
    · rename_i k n hi
      obtain ⟨h1, _⟩ := he i (by simp [Op.operands]) _ hi
      split at h
      · rename_i len e hu
        split at h
        · rename_i a hx
          split at h
          · rename_i hc
            cases h
            simp [inB] at hc
            obtain ⟨h2, h3⟩ := he x (by simp [Op.operands]) _ hx
            obtain ⟨inf, hinf⟩ := Option.isSome_iff_exists.1 hc.2
            cases h3
            refine ⟨?_, .ptr (by assumption)⟩
            simp [execOp, h1, h2, Instr.indexAt, asIntOf, run_underlying hu, Instr.sureAddr, hc.1, run_sizeOf w hinf, addrV, add_none, Nat.add_right_comm]
          · cases h
        · cases h
      · rename_i e hu
        split at h
        · rename_i a len c hx
          split at h
          · rename_i hc
            cases h
            simp [inB] at hc
            obtain ⟨h2, h3⟩ := he x (by simp [Op.operands]) _ hx
            obtain ⟨inf, hinf⟩ := Option.isSome_iff_exists.1 hc.2
            cases h3
            refine ⟨?_, .ptr (by assumption)⟩
            simp [execOp, h1, h2, Instr.indexAt, asIntOf, run_underlying hu, hc.1, run_sizeOf w hinf, addrV, add_none, Nat.add_right_comm]
          · cases h
        · cases h
      · cases h
    · cases h
  case index t x i =>
    simp only [valOp] at h
    split at h
    · rename_i k n hi
      obtain ⟨h1, _⟩ := he i (by simp [Op.operands]) _ hi
      split at h
      · rename_i len e hu
        split at h
        · rename_i cs hx
          split at h
          · rename_i hc
            simp [inB] at hc
            obtain ⟨h2, h3⟩ := he x (by simp [Op.operands]) _ hx
            cases h3
            rename_i hcs
            obtain ⟨k1, k2⟩ := partV_sound (P := P) (r := r) (w := w) hcs h
            obtain ⟨inf, hinf⟩ : ∃ inf, P.info? e = some inf := by
              unfold partV at h
              cases hu' : P.underlying e with
              | none => rw [hu'] at h; cases h
              | some d => exact info_of_underlying hu'
            refine ⟨?_, k2⟩
            simp [execOp, h1, h2, Instr.index, asIntOf, run_underlying hu, hc, run_sizeOf w hinf, k1]
          · cases h
        · cases h
      · rename_i hu
        split at h
        · rename_i s hx
          split at h
          · rename_i hc
            split at h
            · rename_i c hcc
              cases h
              simp at hc
              obtain ⟨h2, h3⟩ := he x (by simp [Op.operands]) _ hx
              refine ⟨?_, .int ?_⟩
              · have : s[n.toNat]? = some c := by
                  have hl := (List.getElem?_eq_some_iff.1 hcc).1
                  have hl' : n.toNat < s.size := by simpa using hl
                  have he2 := (List.getElem?_eq_some_iff.1 hcc).2
                  rw [getElem?_pos s n.toNat hl']
                  congr 1
                simp [execOp, h1, h2, Instr.index, asIntOf, run_underlying hu, hc, this]
              · have := c.toNat_lt
                simp [IntKind.min, IntKind.max, IntKind.signed, IntKind.bits]
                omega
            · cases h
          · cases h
        · cases h
      · cases h
    · cases h
  case extract x i =>
    simp only [valOp] at h
    split at h
    · rename_i vs hx
      obtain ⟨h1, h2⟩ := he x (by simp [Op.operands]) _ hx
      cases h2
      rename_i hvs
      have hv : vs[i]? = some v := by simpa using h
      refine ⟨?_, hvs v (by have := List.mem_of_getElem? h; simpa using this)⟩
      simp [execOp, h1, Instr.extract, hv]
    · cases h
  case makeFunc fn first captured =>
    simp only [valOp] at h
    split at h
    · cases h
    · rename_i a ha
      split at h
      · cases h
      · rename_i b hb
        cases h
        obtain ⟨k1, k2⟩ := evs_sound (fun x hx => he x (by simp [Op.operands] at hx ⊢; exact .inl hx)) ha
        obtain ⟨k3, k4⟩ := evs_sound (fun x hx => he x (by simp [Op.operands] at hx ⊢; exact .inr hx)) hb
        refine ⟨?_, .func (fun u hu => k2 u (by simpa using hu)) (fun u hu => k4 u (by simpa using hu))⟩
        have e1 : first.map ea = (Array.mk a).map (ren r) := by apply Array.ext'; simpa using k1
        have e2 : captured.map ea = (Array.mk b).map (ren r) := by apply Array.ext'; simpa using k3
        simp only [execOp, Instr.makeFunc, e1, e2, ren_func]
        rfl
  case slice t x lo hi mx =>
    simp only [valOp] at h
    split at h
    · cases h
    · rename_i lo' hlo
      split at h
      · cases h
      · rename_i hi' hhi
        obtain ⟨e1, o1⟩ := evOpt_sound (fun y hy => he y (by simp [Op.operands] at hy ⊢; simp [hy])) hlo
        obtain ⟨e2, o2⟩ := evOpt_sound (fun y hy => he y (by simp [Op.operands] at hy ⊢; simp [hy])) hhi
        split at h
        · cases h
        · rename_i hmx
          obtain ⟨e3, o3⟩ := evOpt_sound (fun y hy => he y (by simp [Op.operands] at hy ⊢; simp [hy])) hmx
          simp only [Option.map_none] at e3
          split at h
          · rename_i e hu
            split at h
            · rename_i a len c hx
              split at h
              · rename_i hinf
                obtain ⟨inf, hinf⟩ := Option.isSome_iff_exists.1 hinf
                obtain ⟨h1, h2⟩ := he x (by simp [Op.operands]) _ hx
                cases h2
                rename_i b off sp hD
                obtain ⟨l, h', k1, k2, o', l', c', rfl⟩ := cutV_sound (P := P) (r := r) (w := w) h true
                refine ⟨?_, .slc hD⟩
                simp only [execOp, h1, e1, e2, e3, ren_slc, Instr.sliceAt, Instr.slice, Sem.run_bind, run_underlying hu, Result.andThen_ok, k1, run_sizeOf w hinf, Sem.run_pure, Option.map_some, add_none]
                rw [← ren_slc, k2]
                split <;> rfl
              · cases h
            · cases h
          · rename_i n e hu
            split at h
            · rename_i a hx
              split at h
              · rename_i hinf
                obtain ⟨inf, hinf⟩ := Option.isSome_iff_exists.1 hinf
                obtain ⟨h1, h2⟩ := he x (by simp [Op.operands]) _ hx
                cases h2
                rename_i b off hD
                obtain ⟨l, h', k1, k2, o', l', c', rfl⟩ := cutV_sound (P := P) (r := r) (w := w) h false
                have hxt : r.xt ⟨b, off, some 0⟩ = 0 := rfl
                simp only [hxt, Nat.add_zero] at k1 k2
                refine ⟨?_, .slc hD⟩
                simp only [execOp, h1, e1, e2, e3, ren_ptr, Instr.sliceAt, Instr.sureAddr, Sem.run_bind, run_underlying hu, Result.andThen_ok, k1, run_sizeOf w hinf, Sem.run_pure, Option.map_some, add_none]
                rw [k2]
              · cases h
            · cases h
          · cases h
        · rename_i mx' hmx
          obtain ⟨e3, o3⟩ := evOpt_sound (fun y hy => he y (by simp [Op.operands] at hy ⊢; simp [hy])) hmx
          simp only [Option.map_some] at e3
          split at h
          · rename_i e hu
            split at h
            · rename_i a len c hx
              split at h
              · rename_i hinf
                obtain ⟨inf, hinf⟩ := Option.isSome_iff_exists.1 hinf
                obtain ⟨h1, h2⟩ := he x (by simp [Op.operands]) _ hx
                cases h2
                rename_i b off sp hD
                obtain ⟨l, h', m, k1, k2, o', l', c', rfl⟩ := cut3_sound (P := P) (r := r) (w := w) (x := r.xt ⟨b, off, sp⟩) (len := len) h
                refine ⟨?_, .slc hD⟩
                simp only [execOp, h1, e1, e2, e3, ren_slc, Instr.sliceAt, Instr.slice, Sem.run_bind, run_underlying hu, Result.andThen_ok, k1, run_sizeOf w hinf, Sem.run_pure, Option.map_some, add_none]
                rw [← ren_slc, k2]
                split <;> rfl
              · cases h
            · cases h
          · cases h
  case build t parts =>
    simp only [valOp] at h
    split at h
    · cases h
    · rename_i z hz
      split at h
      · cases h
      · rename_i ps hps
        obtain ⟨zv, z1, z2, z3, z4⟩ := zeroCells_sound (P := P) (D := D) (w := w) hz
        obtain ⟨p1, p2⟩ := evParts_sound (D := D) (r := r) (ea := ea) (fun y hy => he y (by simp [Op.operands] at hy ⊢; exact hy)) hps
        have p1' : (parts.map fun (i, x) => (i, ea x)).toList = ps.map fun (i, v) => (i, ren r v) := by simpa using p1
        have hz' : zv.cells = (z.map (ren r)).toArray := by apply Array.ext'; simp [z4 r, z2]
        split at h
        · rename_i fields hu
          split at h
          · rename_i hall
            cases hf : fillV (fun i => (fields[i]?).map fun f => (f.offset, P.cellsOf f.type)) z ps with
            | none => rw [hf] at h; cases h
            | some cs =>
              rw [hf] at h
              cases h
              obtain ⟨k1, k2⟩ := fillV_sound (r := r) p2 z3 hf
              refine ⟨?_, .agg fun u hu => k2 u (by simpa using hu)⟩
              have hpl : fields.toList.mapM (fun f => (P.info? f.type).map fun i => (f.offset, i.size)) = some (fields.toList.map fun f => (f.offset, P.cellsOf f.type)) := by
                rw [List.all_eq_true] at hall
                generalize fields.toList = l at hall
                induction l with
                | nil => rfl
                | cons f l ih =>
                  obtain ⟨i, hi⟩ := Option.isSome_iff_exists.1 (hall f (by simp))
                  rw [List.mapM_cons, ih (fun g hg => hall g (List.mem_cons_of_mem _ hg))]
                  simp [hi, Program.cellsOf]
              have hrun := run_places (P := P) w _ _ hpl
              have hfn : (fun i : Nat => (fields.toList.map fun f : Field => (f.offset, P.cellsOf f.type)).toArray[i]?) = (fun i : Nat => (fields[i]?).map fun f : Field => (f.offset, P.cellsOf f.type)) := by
                funext i
                simp
              rw [← hfn] at k1
              simp only [execOp, Instr.build, Sem.run_bind, z1, Result.andThen_ok, run_underlying hu, p1', hz']
              have hrun' : (List.mapM (fun f : Field => (do let s ← sizeOf f.type; pure (f.offset, s) : Sem (Nat × Nat))) fields.toList).run P w = .ok (fields.toList.map fun f => (f.offset, P.cellsOf f.type)) w := by
                simpa using hrun
              have hk1 : Instr.fill (fun x => (fields.toList.map fun f => (f.offset, P.cellsOf f.type)).toArray[x]?) (List.map (ren r) z).toArray (List.map (fun x => (x.fst, ren r x.snd)) ps) = some (List.map (ren r) cs).toArray := k1
              simp only [Array.mapM_eq_mapM_toList, Sem.run_map, Sem.run_bind, hrun', Result.andThen_ok, hk1, Sem.run_pure, ren_agg]
              simp
          · cases h
        · rename_i n e hu
          split at h
          · rename_i hinf
            obtain ⟨inf, hinf⟩ := Option.isSome_iff_exists.1 hinf
            cases hf : fillV (fun i => some (i * P.cellsOf e, P.cellsOf e)) z ps with
            | none => rw [hf] at h; cases h
            | some cs =>
              rw [hf] at h
              cases h
              obtain ⟨k1, k2⟩ := fillV_sound (r := r) p2 z3 hf
              refine ⟨?_, .agg fun u hu => k2 u (by simpa using hu)⟩
              simp only [execOp, Instr.build, Sem.run_bind, z1, Result.andThen_ok, run_underlying hu, p1', hz', run_sizeOf w hinf, k1, Sem.run_pure, ren_agg]
              simp
          · cases h
        · cases h
  case sliceToArrayPointer arr x =>
    simp only [valOp] at h
    split at h
    · rename_i n e hu
      split at h
      · rename_i a len c hx
        split at h
        · rename_i hc
          cases h
          simp at hc
          obtain ⟨h1, h2⟩ := he x (by simp [Op.operands]) _ hx
          cases h2
          refine ⟨?_, .ptr (by assumption)⟩
          simp [execOp, h1, Instr.arrayAt, run_underlying hu, Nat.not_lt.2 hc]
        · cases h
      · cases h
    · cases h
  case call c =>
    obtain ⟨callee, args, argTypes⟩ := c
    simp only [valOp] at h
    split at h
    · split at h
      · rename_i x hargs
        obtain ⟨k1, k2⟩ := evs_sound (D := D) (r := r) (ea := ea) (fun y hy => he y (by simp [Op.operands, Call.operands] at hy ⊢; exact hy)) hargs
        have hx := k2 x (by simp)
        have hargs' : args.map ea = #[ren r x] := by apply Array.ext'; simpa using k1
        split at h
        · rename_i t ts hts
          obtain ⟨ats⟩ := argTypes
          simp at hts
          subst hts
          split at h
          · rename_i e n hu
            split at h
            · rename_i hn
              cases h
              simp at hn
              refine ⟨?_, .int ?_⟩
              · cases hx <;> simp [execOp, resolve, invoke, builtin, Builtin.len_, hargs', run_underlying hu, goInt]
              · simp [IntKind.min, IntKind.max, IntKind.signed, IntKind.bits]; omega
            · cases h
          · rename_i s hu
            split at h
            · rename_i hn
              cases h
              simp at hn
              refine ⟨?_, .int ?_⟩
              · simp [execOp, resolve, invoke, builtin, Builtin.len_, hargs', run_underlying hu, goInt]
              · simp [IntKind.min, IntKind.max, IntKind.signed, IntKind.bits]; omega
            · cases h
          · rename_i n e hu
            split at h
            · rename_i hn
              cases h
              simp at hn
              refine ⟨?_, .int ?_⟩
              · simp [execOp, resolve, invoke, builtin, Builtin.len_, hargs', run_underlying hu, goInt]
              · simp [IntKind.min, IntKind.max, IntKind.signed, IntKind.bits]; omega
            · cases h
          · cases h
        · cases h
      · cases h
    · split at h
      · rename_i k x k' y hargs
        obtain ⟨k1, k2⟩ := evs_sound (D := D) (r := r) (ea := ea) (fun y hy => he y (by simp [Op.operands, Call.operands] at hy ⊢; exact hy)) hargs
        have hx := k2 (.int k x) (by simp)
        have hy := k2 (.int k' y) (by simp)
        cases hx
        rename_i hx
        cases hy
        rename_i hy
        have hargs' : args.map ea = #[.int k x, .int k' y] := by apply Array.ext'; simpa using k1
        split at h
        · rename_i hk
          simp at hk
          subst hk
          cases h
          have hrun : (Builtin.min_ argTypes type #[.int k x, .int k y]).run P w = .ok (.int k (if y < x then y else x)) w := by
            simp [Builtin.min_, Builtin.min2]
          by_cases hlt : y < x
          · refine ⟨?_, ?_⟩
            · simp [execOp, resolve, invoke, builtin, hargs', hrun, hlt]
            · simp only [hlt, decide_true]; exact .int hy
          · refine ⟨?_, ?_⟩
            · simp [execOp, resolve, invoke, builtin, hargs', hrun, hlt]
            · simp only [hlt, decide_false]; exact .int hx
        · cases h
      · cases h
    · split at h
      · rename_i k x k' y hargs
        obtain ⟨k1, k2⟩ := evs_sound (D := D) (r := r) (ea := ea) (fun y hy => he y (by simp [Op.operands, Call.operands] at hy ⊢; exact hy)) hargs
        have hx := k2 (.int k x) (by simp)
        have hy := k2 (.int k' y) (by simp)
        cases hx
        rename_i hx
        cases hy
        rename_i hy
        have hargs' : args.map ea = #[.int k x, .int k' y] := by apply Array.ext'; simpa using k1
        split at h
        · rename_i hk
          simp at hk
          subst hk
          cases h
          have hrun : (Builtin.max_ argTypes type #[.int k x, .int k y]).run P w = .ok (.int k (if y > x then y else x)) w := by
            simp [Builtin.max_, Builtin.max2]
          by_cases hlt : y > x
          · refine ⟨?_, ?_⟩
            · simp [execOp, resolve, invoke, builtin, hargs', hrun, hlt]
            · simp only [hlt, decide_true]; exact .int hy
          · refine ⟨?_, ?_⟩
            · simp [execOp, resolve, invoke, builtin, hargs', hrun, hlt]
            · simp only [hlt, decide_false]; exact .int hx
        · cases h
      · cases h
    · cases h
end
end Go.Sx

/-
Shadow runs: operations that read, write or make memory.
-/
namespace Go.Sx
open Go
set_option linter.unusedVariables false
set_option linter.unusedSimpArgs false
set_option linter.unusedSectionVars false
variable [Globs]

/-- What an operation makes: its value, the blocks it reads, the blocks it writes, makes or forgets. -/
structure Eff where
  val : Value
  reads : List Nat
  upds : List (Nat × Option SObj)

def Eff.us (E : Eff) : List Upd := E.upds.map fun p => .bk p.1 p.2

abbrev Hp := List (Option SObj)
def Hp.get (hp : Hp) (b : Nat) : Option SObj := hp.getD b none

def In (lo hi : Nat) (D : Nat → Prop) : Nat → Prop := fun b => D b ∨ (lo ≤ b ∧ b < hi)

/-- The operation does what E says, from every state that has the blocks that E reads as hp has them. -/
def OpSound (P : Program) (o : Oper) (ev : Operand → Option Value) (hp : Hp) (hi : Nat) (E : Eff) : Prop :=
  ∀ (D : Nat → Prop) (r : Ren) (g : GS) (a : Act) (w : World) (K : Act → World → Prop) (Q : Exit → Act → World → Prop),
    (∀ b ∈ E.reads, g (.bk b) = hp.get b) → (∀ b, hp.length ≤ b → b < hi → ¬ D b) → CRel P D r g w → EvOk D r ev a.eval o.op.operands.toList →
    (∀ r' w', CRel P (In hp.length hi D) r' (apps E.us g) w' → Ext D r g w r' (apps E.us g) w' → Vok (In hp.length hi D) E.val → K (a.put o.dst (ren r' E.val)) w') →
    o.wp P a w K Q

theorem CRel.weaken {P : Program} {D D' : Nat → Prop} {r : Ren} {g : GS} {w : World} (h : CRel P D r g w) (hd : ∀ b, D b → D' b) : CRel P D' r g w :=
  ⟨h.blk, fun b ob hb => hd b (h.dom b ob hb), fun b ob hb v hv => (h.ok b ob hb v hv).mono hd, h.inj, fun gl b hgl => ⟨(h.glob gl b hgl).1, hd b (h.glob gl b hgl).2⟩⟩

theorem In.of {lo hi : Nat} {D : Nat → Prop} : ∀ b, D b → In lo hi D b := fun b h => .inl h
theorem In.one {lo : Nat} {D : Nat → Prop} (c : Nat) : In lo (lo + 1) D c ↔ D c ∨ c = lo := by
  unfold In
  constructor
  · rintro (h | h)
    · exact .inl h
    · right; omega
  · rintro (h | h)
    · exact .inl h
    · right; omega

/-- One that leaves the world as it is. -/
theorem sound_same {P : Program} {o : Oper} {ev : Operand → Option Value} {hp : Hp} {v : Value} {rs : List Nat}
    (h : ∀ (D : Nat → Prop) (r : Ren) (g : GS) (ea : Operand → Value) (w : World), (∀ b ∈ rs, g (.bk b) = hp.get b) → CRel P D r g w → EvOk D r ev ea o.op.operands.toList →
      (execOp ea o).run P w = .ok (.value (ren r v)) w ∧ Vok D v) : OpSound P o ev hp hp.length ⟨v, rs, []⟩ := by
  intro D r g a w K Q hrd hfr hc he hk
  obtain ⟨h1, h2⟩ := h D r g a.eval w hrd hc he
  have := hk r w (hc.weaken In.of) (Ext.refl (P := P)) (h2.mono In.of)
  simpa [Oper.wp, h1, Oper.upon] using this

theorem valOp_op {P : Program} {o : Oper} {ev : Operand → Option Value} {hp : Hp} {v : Value} (h : valOp P ev o.op = some v) : OpSound P o ev hp hp.length ⟨v, [], []⟩ :=
  sound_same fun D r g ea w _ _ he => valOp_sound he h

/-- One that makes a block. -/
theorem sound_new {P : Program} {o : Oper} {ev : Operand → Option Value} {hp : Hp} {v : Value} {ob : SObj} {rs : List Nat} (hx : ob.knd = .ex)
    (h : ∀ (D : Nat → Prop) (r : Ren) (g : GS) (ea : Operand → Value) (w : World), (∀ b ∈ rs, g (.bk b) = hp.get b) → CRel P D r g w → EvOk D r ev ea o.op.operands.toList → ¬ D hp.length →
      ∃ arr, (execOp ea o).run P w = .ok (.value (ren (r.put hp.length w.heap.size 0) v)) (w.alloc (.cells arr ob.elem)) ∧ arr.toList = ob.cells.map (ren (r.put hp.length w.heap.size 0)) ∧ (∀ u ∈ ob.cells, Vok D u) ∧ Vok (fun c => D c ∨ c = hp.length) v) :
    OpSound P o ev hp (hp.length + 1) ⟨v, rs, [(hp.length, some ob)]⟩ := by
  intro D r g a w K Q hrd hfr hc he hk
  have hD : ¬ D hp.length := hfr hp.length (Nat.le_refl _) (by omega)
  obtain ⟨arr, h1, h2, h3, h4⟩ := h D r g a.eval w hrd hc he hD
  have hl : arr.size = ob.cells.length := by rw [← Array.length_toList, h2, List.length_map]
  have := hk _ _ (hc.alloc hD (fun c => In.one c) ob (x := 0) (arr := arr) (by rw [← h2]; exact List.take_of_length_le (by simp [hl])) (by simp [Fits, hx, hl]) (fun u hu => (h3 u hu).mono In.of))
    (hc.alloc_ext hD ob 0 _) (h4.mono fun c hcc => (In.one c).2 hcc)
  simpa [Oper.wp, h1, Oper.upon] using this

def cycle (z : List Value) (n : Nat) : List Value := (List.range n).map fun i => z.getD (i % z.length) undef

/-- A row's cells from o on, n of them. -/
def rowAt (hp : Hp) (b o n : Nat) : Option (List Value) :=
  match hp.get b with
  | some ob => match decide (o + n ≤ ob.cells.length) with
    | true => some ((ob.cells.drop o).take n)
    | false => none
  | none => none

def cellList (P : Program) (hp : Hp) (size : Nat) (n : Nat) : Value → Option (List Nat × List Value)
  | .slice x _ _ => match decide (n = 0) with
    | true => some ([], [])
    | false => match x with
      | none => none
      | some a => match rowAt hp a.block a.off (n * size) with
        | some cs => some ([a.block], cs)
        | none => none
  | _ => none

/-- The cells that a slice has when it grows. -/
def oldRow (hp : Hp) (a : Addr) (n : Nat) : Option (List Nat × List Value) :=
  match decide (n = 0) with
  | true => some ([], [])
  | false => match rowAt hp a.block a.off n with
    | some cs => some ([a.block], cs)
    | none => none

def exB : Knd → Bool
  | .ex => true
  | _ => false
def opB : Knd → Bool
  | .op => true
  | _ => false
/-- Is the room behind a slice known? -/
def exactB (hp : Hp) (a : Addr) : Option (List Nat) :=
  match a.spot with
  | some _ => some []
  | none => match hp.get a.block with
    | some ob => match exB ob.knd with
      | true => some [a.block]
      | false => none
    | none => none

def byteOf? : Value → Option UInt8
  | .int .u8 n => some (UInt8.ofNat n.toNat)
  | _ => none
def bytesOf? : List Value → Option (List UInt8)
  | [] => some []
  | v :: vs => match byteOf? v with
    | none => none
    | some b => match bytesOf? vs with
      | none => none
      | some bs => some (b :: bs)

/-- Operations on memory. -/
def memOp (P : Program) (ev : Operand → Option Value) (hp : Hp) : Op → Option Eff
  | .alloc e => match zeroCells P e with
    | some z => some ⟨.pointer (some ⟨hp.length, 0, none⟩), [], [(hp.length, some ⟨e, z, .ex⟩)]⟩
    | none => none
  | .box e x => match ev x with
    | some v => some ⟨.pointer (some ⟨hp.length, 0, none⟩), [], [(hp.length, some ⟨e, v.cells.toList, .ex⟩)]⟩
    | none => none
  | .load t x => match ev x with
    | some (.pointer (some a)) => match P.underlying t with
      | none => none
      | some d => match aggD d with
        | true => match rowAt hp a.block a.off (P.cellsOf t) with
          | some cs => some ⟨.agg ⟨cs⟩, [a.block], []⟩
          | none => none
        | false => match rowAt hp a.block a.off 1 with
          | some [v] => some ⟨v, [a.block], []⟩
          | _ => none
    | _ => none
  | .store t x y => match ev x with
    | some (.pointer (some a)) => match ev y with
      | some v => match P.info? t with
        | some _ => match decide (v.cells.toList.length = P.cellsOf t) && v.cells.toList.all oneB with
          | true => match hp.get a.block with
            | some ob => match decide (a.off + v.cells.toList.length ≤ ob.cells.length) && canW ob.knd with
              | true => some ⟨undef, [a.block], [(a.block, some { ob with cells := splice ob.cells a.off v.cells.toList })]⟩
              | false => none
            | none => none
          | false => none
        | none => none
      | none => none
    | _ => none
  | .buildSlice t len parts => match P.underlying t with
    | some (.slice e) => match P.info? e with
      | some _ => match decide (len * P.cellsOf e ≤ 16777216) with
        | true => match zeroCells P e with
          | some z => match evParts ev parts.toList with
            | some ps => match decide (z.length = P.cellsOf e) with
              | true => match fillV (fun i => some (i * P.cellsOf e, P.cellsOf e)) (cycle z (len * P.cellsOf e)) ps with
                | some cs => some ⟨.slice (some ⟨hp.length, 0, some 0⟩) len len, [], [(hp.length, some ⟨e, cs, .ex⟩)]⟩
                | none => none
              | false => none
            | none => none
          | none => none
        | false => none
      | none => none
    | _ => none
  | .makeSlice t l c => match P.underlying t with
    | some (.slice e) => match P.info? e with
      | some i => match ev l, ev c with
        | some (.int _ l), some (.int _ c) => match decide (0 ≤ l) && decide (l ≤ c) && decide (c ≤ 1000000) && decide (i.bytes ≤ 1000000) with
          | true => match zeroCells P e with
            | some z => match decide (z.length = P.cellsOf e) with
              | true => some ⟨.slice (some ⟨hp.length, 0, some 0⟩) l.toNat c.toNat, [], [(hp.length, some ⟨e, cycle z (c.toNat * P.cellsOf e), .ex⟩)]⟩
              | false => none
            | none => none
          | false => none
        | _, _ => none
      | none => none
    | _ => none
  | .slice t x lo hi none => match P.underlying t with
    | some (.slice e) => match ev x with
      | some (.slice (some a) len cap) => match a.spot with
        | some _ => none
        | none => match evOpt ev lo with
          | none => none
          | some lo => match evOpt ev hi with
            | none => none
            | some hi => match (P.info? e).isSome with
              | false => none
              | true => match boundV hi len cap with
                | none => none
                | some h => match boundV lo 0 h with
                  | none => none
                  | some l => match decide (l = cap) with
                    | false => none
                    | true => match hp.get a.block with
                      | some ob => match exB ob.knd with
                        | true => some ⟨.slice (some ⟨a.block, a.off, none⟩) (h - l) 0, [a.block], []⟩
                        | false => some ⟨.slice (some ⟨hp.length, 0, none⟩) (h - l) 0, [], [(hp.length, none)]⟩
                      | none => some ⟨.slice (some ⟨hp.length, 0, none⟩) (h - l) 0, [], [(hp.length, none)]⟩
      | _ => none
    | _ => none
  | .convert src dst x => match P.underlying src, P.underlying dst, ev x with
    | some (.slice _), some (.slice e), some (.slice (some a) l c) => match decide (src = dst) with
      | true => match P.underlying e with
        | some (.int .u8) => match hp.get a.block with
          | some ob => match exB ob.knd || opB ob.knd with
            | true => some ⟨.slice (some a) l c, [a.block], [(a.block, some ob)]⟩
            | false => none
          | none => none
        | _ => none
      | false => none
    | some (.slice e), some .string, some (.slice none l c) => match P.underlying e with
      | some (.int .u8) => some ⟨.string ByteArray.empty, [], []⟩
      | _ => none
    | some (.slice e), some .string, some (.slice (some a) l c) => match P.underlying e with
      | some (.int .u8) => match rowAt hp a.block a.off l with
        | some cs => match bytesOf? cs with
          | some bs => some ⟨.string ⟨⟨bs⟩⟩, [a.block], []⟩
          | none => none
        | none => none
      | _ => none
    | _, _, _ => none
  | .call c => match c.callee, c.argTypes.toList, evs ev c.args.toList with
    | .builtin .append, [t, t'], some [.slice base sLen sCap, .slice xb m xc] => match decide (t = t') with
      | false => none
      | true => match P.underlying t with
        | some (.slice e) => match P.info? e with
          | some i => match decide (0 < i.size) && decide ((sLen + m) * i.bytes ≤ 140737488355328) && decide (sLen + m ≤ 1000000) with
            | false => none
            | true => match zeroCells P e with
              | none => none
              | some z => match decide (z.length = P.cellsOf e) with
                | false => none
                | true => match cellList P hp (P.cellsOf e) m (.slice xb m xc) with
                  | none => none
                  | some (rs, news) => match news.all oneB with
                    | false => none
                    | true => match base with
                      | none => match decide (sLen = 0) && decide (sCap = 0) with
                        | false => none
                        | true => match decide (m = 0) with
                          | true => some ⟨.slice none 0 0, [], []⟩
                          | false => some ⟨.slice (some ⟨hp.length, 0, none⟩) m m, rs, [(hp.length, some ⟨e, news, .op⟩)]⟩
                      | some a => match decide (m = 0) with
                        | true => match decide (sLen ≤ sCap) with
                          | true => some ⟨.slice (some a) sLen sCap, rs, []⟩
                          | false => none
                        | false => match decide (sLen + m ≤ sCap) with
                          | true => match hp.get a.block with
                            | none => none
                            | some ob => match decide (a.off + sLen * P.cellsOf e + news.length ≤ ob.cells.length) && canW ob.knd with
                              | true => some ⟨.slice (some a) (sLen + m) sCap, a.block :: rs, [(a.block, some { ob with cells := splice ob.cells (a.off + sLen * P.cellsOf e) news })]⟩
                              | false => none
                          | false => match exactB hp a with
                            | some xs => match oldRow hp a (sLen * P.cellsOf e) with
                              | some (os, olds) => some ⟨.slice (some ⟨hp.length, 0, none⟩) (sLen + m) (sLen + m), xs ++ (os ++ rs), [(hp.length, some ⟨e, olds ++ news, .op⟩)]⟩
                              | none => none
                            | none => match hp.get a.block with
                              | none => none
                              | some ob => match decide (a.off = 0) && decide (sCap = sLen) && decide (ob.cells.length = sLen * P.cellsOf e) && decide (ob.elem = e) && opB ob.knd with
                                | false => none
                                | true => some ⟨.slice (some ⟨hp.length, 0, none⟩) (sLen + m) (sLen + m), a.block :: rs, [(a.block, none), (hp.length, some ⟨e, ob.cells ++ news, .op⟩)]⟩
          | none => none
        | _ => none
    | .builtin .copy, t :: _, some [.slice (some d) dLen _, .slice (some a) sLen _] => match P.underlying t with
      | some (.slice e) => match P.info? e with
        | some _ => match decide (P.cellsOf e = 1) with
          | false => none
          | true => match rowAt hp a.block a.off (Nat.min sLen dLen) with
            | none => none
            | some cs => match cs.all oneB && decide (cs.length ≤ 1000000) with
              | false => none
              | true => match hp.get d.block with
                | none => none
                | some ob => match decide (d.off + cs.length ≤ ob.cells.length) && canW ob.knd with
                  | false => none
                  | true => some ⟨.int .i64 cs.length, [d.block, a.block], [(d.block, some { ob with cells := splice ob.cells d.off cs })]⟩
        | none => none
      | _ => none
    | _, _, _ => none
  | _ => none

/-- Where the names end behind the operation. -/
def Eff.hi (E : Eff) (n : Nat) : Nat := n + (E.upds.filter fun p => decide (n ≤ p.1)).length

section
variable {P : Program}

theorem rowAt_sound {hp : Hp} {b o n : Nat} {cs : List Value} (h : rowAt hp b o n = some cs) {D : Nat → Prop} {r : Ren} {g : GS} {w : World} (hg : g (.bk b) = hp.get b) (hc : CRel P D r g w) :
    (∀ j v, (cs.map (ren r))[j]? = some v → w.cell? ((⟨r.blk b, o + r.sh b, none⟩ : Addr).add j) = some v) ∧ cs.length = n ∧ (∀ v ∈ cs, Vok D v) ∧ ∃ ob, g (.bk b) = some ob ∧ o + n ≤ ob.cells.length := by
  unfold rowAt at h
  split at h
  · rename_i ob hob
    split at h
    · rename_i hle
      cases h
      simp at hle
      rw [hob] at hg
      refine ⟨fun j v hv => ?_, by simp; omega, fun v hv => hc.ok b ob hg v (List.mem_of_mem_drop (List.mem_of_mem_take hv)), ob, hg, hle⟩
      rw [add_none, Nat.add_right_comm]
      simp only [List.map_take, List.map_drop, List.getElem?_take] at hv
      split at hv
      · rename_i hj
        rw [List.getElem?_drop] at hv
        simp only [List.getElem?_map, Option.map_eq_some_iff] at hv
        obtain ⟨u, hu, rfl⟩ := hv
        exact hc.cell hg hu
      · cases hv
    · cases h
  · cases h

theorem run_rowAt {hp : Hp} {b o n : Nat} {cs : List Value} (h : rowAt hp b o n = some cs) {D : Nat → Prop} {r : Ren} {g : GS} {w : World} (hg : g (.bk b) = hp.get b) (hc : CRel P D r g w) :
    (loadCells ⟨r.blk b, o + r.sh b, none⟩ n).run P w = .ok (cs.map (ren r)).toArray w := by
  obtain ⟨h1, h2, _⟩ := rowAt_sound h hg hc
  have := run_loadCells_list (P := P) w ⟨r.blk b, o + r.sh b, none⟩ (cs.map (ren r)) h1
  simpa [h2] using this

theorem one_ren {D : Nat → Prop} {v : Value} (h : Vok D v) (r : Ren) (h1 : oneB v = true) : (ren r v).oneCell' = true := by
  cases h <;> simp_all [oneB, Value.oneCell']

theorem cycle_eq {z : Value} {n : Nat} (r : Ren) (hz : z.cells.toList.map (ren r) = z.cells.toList) (h : n = 0 ∨ 0 < z.cells.size) :
    ((Array.range n).map fun i => z.cells[i % z.cells.size]!).toList = (cycle z.cells.toList n).map (ren r) := by
  have : (cycle z.cells.toList n).map (ren r) = cycle z.cells.toList n := by
    unfold cycle
    rw [List.map_map]
    apply List.map_congr_left
    intro i hi
    simp only [Function.comp]
    have hpos : 0 < z.cells.size := by
      rcases h with h | h
      · subst h; simp at hi
      · exact h
    have hlt : i % z.cells.toList.length < z.cells.toList.length := by simpa using Nat.mod_lt i hpos
    have h1 := congrArg (·[i % z.cells.toList.length]?) hz
    simp only [List.getElem?_map, List.getElem?_eq_getElem hlt, Option.map_some, Option.some.injEq] at h1
    rw [List.getD_eq_getElem?_getD, List.getElem?_eq_getElem hlt]
    simpa using h1
  rw [this]
  unfold cycle
  simp only [Array.toList_map, Array.toList_range]
  apply List.map_congr_left
  intro i hi
  have hpos : 0 < z.cells.size := by
    rcases h with h | h
    · subst h; simp at hi
    · exact h
  have hlt : i % z.cells.size < z.cells.size := Nat.mod_lt i hpos
  simp [hlt]

theorem cycle_ok {D : Nat → Prop} {z : List Value} (h : ∀ v ∈ z, Vok D v) (n : Nat) (hz : n = 0 ∨ 0 < z.length) : ∀ v ∈ cycle z n, Vok D v := by
  intro v hv
  simp only [cycle, List.mem_map, List.mem_range] at hv
  obtain ⟨i, hi, rfl⟩ := hv
  have hpos : 0 < z.length := by omega
  have hlt : i % z.length < z.length := Nat.mod_lt i hpos
  rw [List.getD_eq_getElem?_getD, List.getElem?_eq_getElem hlt]
  exact h _ (List.getElem_mem _)

theorem op_alloc {o : Oper} {ev : Operand → Option Value} {hp : Hp} {e : TypeId} (ho : o.op = .alloc e) {z : List Value} (hz : zeroCells P e = some z) :
    OpSound P o ev hp (hp.length + 1) ⟨.pointer (some ⟨hp.length, 0, none⟩), [], [(hp.length, some ⟨e, z, .ex⟩)]⟩ := by
  refine sound_new rfl fun D r g ea w _ hc he hD => ?_
  obtain ⟨zv, z1, z2, z3, z4⟩ := zeroCells_sound (P := P) (D := D) (w := w) hz
  refine ⟨zv.cells, ?_, by rw [z2, z4], z3, .ptr (.inr rfl)⟩
  obtain ⟨dst, op, type, pos, after, guard⟩ := o
  simp only at ho
  subst ho
  simp [execOp, Instr.alloc, z1, newVar, newRow, Ren.put]

theorem op_box {o : Oper} {ev : Operand → Option Value} {hp : Hp} {e : TypeId} {x : Operand} (ho : o.op = .box e x) {v : Value} (hv : ev x = some v) :
    OpSound P o ev hp (hp.length + 1) ⟨.pointer (some ⟨hp.length, 0, none⟩), [], [(hp.length, some ⟨e, v.cells.toList, .ex⟩)]⟩ := by
  refine sound_new rfl fun D r g ea w _ hc he hD => ?_
  obtain ⟨h1, h2⟩ := he x (by simp [ho, Op.operands]) v hv
  refine ⟨(ren r v).cells, ?_, ?_, cells_ok h2, .ptr (.inr rfl)⟩
  · obtain ⟨dst, op, type, pos, after, guard⟩ := o
    simp only at ho
    subst ho
    simp [execOp, Instr.box, h1, newVar, newRow, Ren.put]
  · rw [cells_ren h2, Array.toList_map]
    apply List.map_congr_left
    intro u hu
    exact (ren_congr (put_agree hD) (cells_ok h2 u hu)).symm

theorem op_load_agg {o : Oper} {ev : Operand → Option Value} {hp : Hp} {t : TypeId} {x : Operand} (ho : o.op = .load t x) {a : Addr} (hx : ev x = some (.pointer (some a))) {d : TypeDesc} (hu : P.underlying t = some d)
    (hd : aggD d = true) {cs : List Value} (hr : rowAt hp a.block a.off (P.cellsOf t) = some cs) : OpSound P o ev hp hp.length ⟨.agg ⟨cs⟩, [a.block], []⟩ := by
  refine sound_same fun D r g ea w hrd hc he => ?_
  obtain ⟨h1, h2⟩ := he x (by simp [ho, Op.operands]) _ hx
  cases h2
  have hg := hrd _ (List.mem_singleton.2 rfl)
  have hrow := run_rowAt hr hg hc
  obtain ⟨_, _, hok, _⟩ := rowAt_sound hr hg hc
  obtain ⟨i, hi⟩ := info_of_underlying hu
  have hag := run_isAgg (w := w) hu
  rw [hd] at hag
  refine ⟨?_, .agg fun u hu => hok u (by simpa using hu)⟩
  obtain ⟨dst, op, type, pos, after, guard⟩ := o
  simp only at ho
  subst ho
  simp only at hrow
  simp only [execOp, h1, ren_ptr, Instr.loadAt, Instr.sureAddr, Sem.run_bind, Sem.run_pure, Result.andThen_ok, loadVar, hag, if_true, run_sizeOf w hi, hrow, ren_agg]
  simp

theorem op_load_one {o : Oper} {ev : Operand → Option Value} {hp : Hp} {t : TypeId} {x : Operand} (ho : o.op = .load t x) {a : Addr} (hx : ev x = some (.pointer (some a))) {d : TypeDesc} (hu : P.underlying t = some d)
    (hd : aggD d = false) {v : Value} (hr : rowAt hp a.block a.off 1 = some [v]) : OpSound P o ev hp hp.length ⟨v, [a.block], []⟩ := by
  refine sound_same fun D r g ea w hrd hc he => ?_
  obtain ⟨h1, h2⟩ := he x (by simp [ho, Op.operands]) _ hx
  cases h2
  rename_i b off hD
  have hg := hrd _ (List.mem_singleton.2 rfl)
  obtain ⟨hcell, _, hok, _⟩ := rowAt_sound hr hg hc
  have hag := run_isAgg (w := w) hu
  rw [hd] at hag
  refine ⟨?_, hok v (by simp)⟩
  have hcv : w.cell? ⟨r.blk b, off + r.sh b, none⟩ = some (ren r v) := by
    have := hcell 0 (ren r v) (by simp)
    simpa [add_none] using this
  obtain ⟨dst, op, type, pos, after, guard⟩ := o
  simp only at ho
  subst ho
  simp only [execOp, h1, ren_ptr, Instr.loadAt, Instr.sureAddr, Sem.run_bind, Sem.run_pure, Result.andThen_ok, loadVar, hag, Bool.false_eq_true, if_false, run_load, hcv]

/-- One that writes a part of a block. -/
theorem sound_write {o : Oper} {ev : Operand → Option Value} {hp : Hp} {v : Value} {b off : Nat} {ob : SObj} {vs : List Value} {rs : List Nat} (hb : b ∈ rs) (hob : hp.get b = some ob) (hl : off + vs.length ≤ ob.cells.length)
    (hs : o.dst = none ∨ True)
    (h : ∀ (D : Nat → Prop) (r : Ren) (g : GS) (ea : Operand → Value) (w : World), (∀ b ∈ rs, g (.bk b) = hp.get b) → CRel P D r g w → EvOk D r ev ea o.op.operands.toList → g (.bk b) = some ob →
      ((execOp ea o).run P w = .ok (.value (ren r v)) (w.setCells (r.blk b) (off + r.sh b) (vs.map (ren r))) ∨ (v = undef ∧ (execOp ea o).run P w = .ok .skip (w.setCells (r.blk b) (off + r.sh b) (vs.map (ren r))))) ∧ (∀ u ∈ vs, Vok D u) ∧ Vok D v) :
    OpSound P o ev hp hp.length ⟨v, rs, [(b, some { ob with cells := splice ob.cells off vs })]⟩ := by
  intro D r g a w K Q hrd hfr hc he hk
  have hg : g (.bk b) = some ob := by rw [hrd b hb, hob]
  obtain ⟨h1, h2, h3⟩ := h D r g a.eval w hrd hc he hg
  have := hk r _ ((hc.write hg hl h2).weaken In.of) (hc.write_ext hg _ (off + r.sh b) _) (h3.mono In.of)
  rcases h1 with h1 | ⟨rfl, h1⟩
  · simpa [Oper.wp, h1, Oper.upon] using this
  · have e : ren r undef = undef := by simp [undef]
    simp only [e] at this
    simpa [Oper.wp, h1, Oper.upon] using this

theorem run_storeCells_rel {D : Nat → Prop} {r : Ren} {g : GS} {w : World} (hc : CRel P D r g w) {b off : Nat} {ob : SObj} (hg : g (.bk b) = some ob) {vs : List Value} (hl : off + vs.length ≤ ob.cells.length)
    (hw : canW ob.knd = true) (hv : ∀ u ∈ vs, Vok D u) (h1 : vs.all oneB = true) : (storeCells ⟨r.blk b, off + r.sh b, none⟩ (vs.map (ren r))).run P w = .ok () (w.setCells (r.blk b) (off + r.sh b) (vs.map (ren r))) := by
  have := run_storeCells_cells (P := P) (r.blk b) (off + r.sh b) (vs.map (ren r)) 0 w (fun j hj => ?_) (fun j hj => ?_) (fun u hu => ?_)
  · simpa using this
  · simp only [List.length_map] at hj
    have hlt : off + j < ob.cells.length := by omega
    rw [show off + r.sh b + 0 + j = off + j + r.sh b by omega, hc.cell hg (List.getElem?_eq_getElem hlt)]
    rfl
  · simp only [List.length_map] at hj
    rw [show off + r.sh b + 0 + j = off + j + r.sh b by omega]
    exact hc.free hg hw (by omega)
  · simp only [List.mem_map] at hu
    obtain ⟨x, hx, rfl⟩ := hu
    rw [List.all_eq_true] at h1
    exact one_ren (hv x hx) r (h1 x hx)

theorem op_store {o : Oper} {ev : Operand → Option Value} {hp : Hp} {t : TypeId} {x y : Operand} (ho : o.op = .store t x y) {a : Addr} (hx : ev x = some (.pointer (some a))) {v : Value} (hy : ev y = some v)
    {i : TypeInfo} (hi : P.info? t = some i) (hsz : v.cells.toList.length = P.cellsOf t) (h1 : v.cells.toList.all oneB = true) {ob : SObj} (hob : hp.get a.block = some ob) (hl : a.off + v.cells.toList.length ≤ ob.cells.length) (hw : canW ob.knd = true) :
    OpSound P o ev hp hp.length ⟨undef, [a.block], [(a.block, some { ob with cells := splice ob.cells a.off v.cells.toList })]⟩ := by
  refine sound_write (by simp) hob hl (.inr trivial) fun D r g ea w hrd hc he hg => ?_
  obtain ⟨k1, k2⟩ := he x (by simp [ho, Op.operands]) _ hx
  obtain ⟨k3, k4⟩ := he y (by simp [ho, Op.operands]) _ hy
  cases k2
  rename_i b off hD
  refine ⟨.inr ⟨rfl, ?_⟩, cells_ok k4, .tuple (by simp)⟩
  have hst := run_storeCells_rel hc hg hl hw (cells_ok k4) h1
  obtain ⟨dst, op, type, pos, after, guard⟩ := o
  simp only at ho
  subst ho
  have hsize : (v.cells.map (ren r)).size = P.cellsOf t := by rw [Array.size_map]; simpa using hsz
  simp only [execOp, k1, k3, ren_ptr, Instr.storeAt, Instr.sureAddr, Sem.run_bind, Sem.run_pure, Result.andThen_ok, storeVar, run_sizeOf w hi, cells_ren k4, hsize, ne_eq, not_true_eq_false, if_false]
  simp only [Array.toList_map] at hst ⊢
  rw [hst]
  simp

theorem range0 : Array.range 0 = #[] := rfl

theorem op_makeSlice {o : Oper} {ev : Operand → Option Value} {hp : Hp} {t e : TypeId} {l c : Operand} (ho : o.op = .makeSlice t l c) (hu : P.underlying t = some (.slice e)) {i : TypeInfo} (hi : P.info? e = some i)
    {kl kc : IntKind} {ln cn : Int} (hl : ev l = some (.int kl ln)) (hcn : ev c = some (.int kc cn)) (h0 : 0 ≤ ln) (h1 : ln ≤ cn) (h2 : cn ≤ 1000000) (h3 : i.bytes ≤ 1000000) {z : List Value} (hz : zeroCells P e = some z) (hzl : z.length = P.cellsOf e) :
    OpSound P o ev hp (hp.length + 1) ⟨.slice (some ⟨hp.length, 0, some 0⟩) ln.toNat cn.toNat, [], [(hp.length, some ⟨e, cycle z (cn.toNat * P.cellsOf e), .ex⟩)]⟩ := by
  refine sound_new rfl fun D r g ea w _ hc he hD => ?_
  obtain ⟨k1, _⟩ := he l (by simp [ho, Op.operands]) _ hl
  obtain ⟨k2, _⟩ := he c (by simp [ho, Op.operands]) _ hcn
  obtain ⟨zv, z1, z2, z3, z4⟩ := zeroCells_sound (P := P) (D := D) (w := w) hz
  have hpos : cn.toNat * P.cellsOf e = 0 ∨ 0 < zv.cells.size := by
    rw [← Array.length_toList, z2, hzl]
    rcases Nat.eq_zero_or_pos (P.cellsOf e) with h | h
    · left; simp [h]
    · exact .inr h
  have hw1 : IntKind.i64.wrap ln = ln := by simp [IntKind.wrap, IntKind.signed, IntKind.bits]; omega
  have hw2 : IntKind.i64.wrap cn = cn := by simp [IntKind.wrap, IntKind.signed, IntKind.bits]; omega
  have hb : ¬ (281474976710656 < (i.bytes : Int) * cn) := by
    have : (i.bytes : Int) * cn ≤ 1000000 * 1000000 := Int.mul_le_mul (by omega) h2 (by omega) (by decide)
    omega
  refine ⟨if cn.toNat * P.cellsOf e = 0 then #[] else ((Array.range (cn.toNat * P.cellsOf e)).map fun i => zv.cells[i % zv.cells.size]!), ?_, ?_, ?_, .slc (.inr rfl)⟩
  · obtain ⟨dst, op, type, pos, after, guard⟩ := o
    simp only at ho
    subst ho
    have hask : (askRoom (cn.toNat * i.bytes)).run P w = .ok () w := by
      unfold askRoom
      split <;> rfl
    simp only [execOp, Instr.makeSlice, k1, k2, ren_int, Sem.run_bind, run_underlying hu, Result.andThen_ok, asInt, asIntOf, Sem.run_pure, run_typeInfo w hi, hw1, hw2, run_sizeOf w hi]
    have hcond : ¬ ((decide (cn < 0) || decide ((i.bytes : Int) * cn > 2 ^ 48) || decide (ln < 0) || decide (ln > cn)) = true) := by
      simp only [Bool.or_eq_true, decide_eq_true_eq]
      omega
    rw [if_neg hcond]
    by_cases h0 : cn.toNat * P.cellsOf e = 0
    · rw [if_pos h0]
      simp only [h0, Sem.run_bind, hask, Result.andThen_ok, run_sizeOf w hi, if_true, Sem.run_pure]
      simp [newRow, Ren.put, range0, xt_some]
    · rw [if_neg h0]
      simp only [h0, Sem.run_bind, hask, Result.andThen_ok, run_sizeOf w hi, if_false, Sem.run_pure, z1]
      simp [newRow, Ren.put, xt_some]
  · split
    · rename_i h; simp [h, cycle]
    · have := cycle_eq (z := zv) (n := cn.toNat * P.cellsOf e) (r.put hp.length w.heap.size 0) (by rw [z2, z4]) hpos
      rw [this, z2]
  · refine cycle_ok z3 _ ?_
    rw [hzl]
    rcases Nat.eq_zero_or_pos (P.cellsOf e) with h | h
    · left; simp [h]
    · exact .inr h

theorem op_buildSlice {o : Oper} {ev : Operand → Option Value} {hp : Hp} {t e : TypeId} {len : Nat} {parts : Array (Nat × Operand)} (ho : o.op = .buildSlice t len parts) (hu : P.underlying t = some (.slice e)) {i : TypeInfo} (hi : P.info? e = some i)
    (hlen : len * P.cellsOf e ≤ 16777216) {z : List Value} (hz : zeroCells P e = some z) (hzl : z.length = P.cellsOf e) {ps : List (Nat × Value)} (hps : evParts ev parts.toList = some ps) {cs : List Value}
    (hf : fillV (fun i => some (i * P.cellsOf e, P.cellsOf e)) (cycle z (len * P.cellsOf e)) ps = some cs) :
    OpSound P o ev hp (hp.length + 1) ⟨.slice (some ⟨hp.length, 0, some 0⟩) len len, [], [(hp.length, some ⟨e, cs, .ex⟩)]⟩ := by
  refine sound_new rfl fun D r g ea w _ hc he hD => ?_
  obtain ⟨zv, z1, z2, z3, z4⟩ := zeroCells_sound (P := P) (D := D) (w := w) hz
  obtain ⟨p1, p2⟩ := evParts_sound (D := D) (r := r) (ea := ea) (fun y hy => he y (by simp [ho, Op.operands] at hy ⊢; exact hy)) hps
  have hpos : len * P.cellsOf e = 0 ∨ 0 < z.length := by
    rw [hzl]
    rcases Nat.eq_zero_or_pos (P.cellsOf e) with h | h
    · left; simp [h]
    · exact .inr h
  have hpos' : len * P.cellsOf e = 0 ∨ 0 < zv.cells.size := by
    rwa [← Array.length_toList, z2]
  obtain ⟨k1, k2⟩ := fillV_sound (r := r) p2 (cycle_ok z3 _ hpos) hf
  refine ⟨(cs.map (ren r)).toArray, ?_, ?_, k2, .slc (.inr rfl)⟩
  · obtain ⟨dst, op, type, pos, after, guard⟩ := o
    simp only at ho
    subst ho
    have p1' : (parts.map fun (i, x) => (i, ea x)).toList = ps.map fun (i, v) => (i, ren r v) := by simpa using p1
    have hcyc := cycle_eq (z := zv) (n := len * P.cellsOf e) r (by rw [z2, z4]) hpos'
    rw [z2] at hcyc
    have hcyc' : ((Array.range (len * P.cellsOf e)).map fun i => zv.cells[i % zv.cells.size]!) = ((cycle z (len * P.cellsOf e)).map (ren r)).toArray := by
      apply Array.ext'; rw [hcyc]
    have hn : ¬ (len * P.cellsOf e > 2 ^ 24) := by omega
    by_cases h0 : len * P.cellsOf e = 0
    · have hc0 : cycle z (len * P.cellsOf e) = [] := by simp [h0, cycle]
      rw [hc0] at k1
      have hn0 : ¬ (0 > 2 ^ 24) := by omega
      simp only [List.map_nil] at k1
      simp only [execOp, Instr.buildSlice, Sem.run_bind, run_underlying hu, Result.andThen_ok, run_sizeOf w hi, h0, hn0, if_false, if_true, Sem.run_pure, p1', range0, Array.map_empty, k1]
      simp [newRow, Ren.put, xt_some]
    · simp only [execOp, Instr.buildSlice, Sem.run_bind, run_underlying hu, Result.andThen_ok, run_sizeOf w hi, hn, if_false, h0, Sem.run_pure, z1, p1', hcyc', k1]
      simp [newRow, Ren.put, xt_some]
  · simp only
    apply List.map_congr_left
    intro u hu
    exact (ren_congr (put_agree hD) (k2 u hu)).symm

theorem natV_le {y h : Nat} {v : Value} (hb : natV y v = some h) : h ≤ y := by
  unfold natV at hb
  split at hb
  · split at hb
    · rename_i hc
      cases hb
      simp at hc
      omega
    · cases hb
  · cases hb

theorem slice_run {o : Oper} {ev : Operand → Option Value} {t e : TypeId} {x : Operand} {lo hi : Option Operand} (ho : o.op = .slice t x lo hi none) (hu : P.underlying t = some (.slice e)) (hinf : (P.info? e).isSome = true)
    {b off len cap : Nat} (hx : ev x = some (.slice (some ⟨b, off, none⟩) len cap)) {lo' hi' : Option Value} (hlo : evOpt ev lo = some lo') (hhi : evOpt ev hi = some hi')
    {h : Nat} (hh : boundV hi' len cap = some h) (hl : boundV lo' 0 h = some cap) {D : Nat → Prop} {r : Ren} {ea : Operand → Value} {w : World} (he : EvOk D r ev ea o.op.operands.toList) :
    (execOp ea o).run P w = .ok (.value (.slice (some (if r.xtra b = 0 then ⟨r.blk b, off + r.sh b, none⟩ else ⟨r.blk b, off + r.sh b + cap * P.cellsOf e, none⟩)) (h - cap) (r.xtra b))) w ∧ D b := by
  obtain ⟨i, hi⟩ := Option.isSome_iff_exists.1 hinf
  obtain ⟨h1, h2⟩ := he x (by simp [ho, Op.operands]) _ hx
  obtain ⟨e1, _⟩ := evOpt_sound (ea := ea) (fun y hy => he y (by simp [ho, Op.operands] at hy ⊢; simp [hy])) hlo
  obtain ⟨e2, _⟩ := evOpt_sound (ea := ea) (fun y hy => he y (by simp [ho, Op.operands] at hy ⊢; simp [hy])) hhi
  cases h2
  rename_i hD
  have hb := bounds2_sound (P := P) (r := r) (w := w) (x := r.xt ⟨b, off, none⟩) hh hl true
  obtain ⟨dst, op, type, pos, after, guard⟩ := o
  simp only at ho
  subst ho
  refine ⟨?_, hD⟩
  simp only [execOp, h1, e1, e2, Option.map_none, ren_slc, Instr.sliceAt, Instr.slice, Sem.run_bind, run_underlying hu, Result.andThen_ok, hb, run_sizeOf w hi, Sem.run_pure, add_none, Option.map_some]
  have hxt : r.xt ⟨b, off, none⟩ = r.xtra b := rfl
  simp only [hxt]
  by_cases h0 : r.xtra b = 0
  · simp [h0]
  · have : ¬ cap + r.xtra b = cap := by omega
    simp [h0]

theorem op_slice_ex {o : Oper} {ev : Operand → Option Value} {hp : Hp} {t e : TypeId} {x : Operand} {lo hi : Option Operand} (ho : o.op = .slice t x lo hi none) (hu : P.underlying t = some (.slice e)) (hinf : (P.info? e).isSome = true)
    {b off len cap : Nat} (hx : ev x = some (.slice (some ⟨b, off, none⟩) len cap)) {lo' hi' : Option Value} (hlo : evOpt ev lo = some lo') (hhi : evOpt ev hi = some hi') {ob : SObj} (hob : hp.get b = some ob) (hop : exB ob.knd = true)
    {h : Nat} (hh : boundV hi' len cap = some h) (hl : boundV lo' 0 h = some cap) : OpSound P o ev hp hp.length ⟨.slice (some ⟨b, off, none⟩) (h - cap) 0, [b], []⟩ := by
  refine sound_same fun D r g ea w hrd hc he => ?_
  obtain ⟨h1, hD⟩ := slice_run (w := w) ho hu hinf hx hlo hhi hh hl he
  have hg : g (.bk b) = some ob := by rw [hrd b (List.mem_singleton.2 rfl), hob]
  have hx0 : r.xtra b = 0 := by
    obtain ⟨_, _, _, _, hf⟩ := hc.blk b ob hg
    unfold Fits at hf
    cases hk : ob.knd <;> simp only [hk] at hf hop
    · exact hf.2.1
    all_goals cases hop
  refine ⟨?_, .slc hD⟩
  rw [h1, hx0, if_pos rfl, ren_slc]
  have hxt : r.xt ⟨b, off, none⟩ = r.xtra b := rfl
  rw [hxt, hx0]

theorem op_slice_tail {o : Oper} {ev : Operand → Option Value} {hp : Hp} {t e : TypeId} {x : Operand} {lo hi : Option Operand} (ho : o.op = .slice t x lo hi none) (hu : P.underlying t = some (.slice e)) (hinf : (P.info? e).isSome = true)
    {b off len cap : Nat} (hx : ev x = some (.slice (some ⟨b, off, none⟩) len cap)) {lo' hi' : Option Value} (hlo : evOpt ev lo = some lo') (hhi : evOpt ev hi = some hi')
    {h : Nat} (hh : boundV hi' len cap = some h) (hl : boundV lo' 0 h = some cap) : OpSound P o ev hp (hp.length + 1) ⟨.slice (some ⟨hp.length, 0, none⟩) (h - cap) 0, [], [(hp.length, none)]⟩ := by
  intro D r g a w K Q hrd hfr hc he hk
  have hD : ¬ D hp.length := hfr hp.length (Nat.le_refl _) (by omega)
  obtain ⟨h1, hDb⟩ := slice_run (w := w) ho hu hinf hx hlo hhi hh hl he
  let s := if r.xtra b = 0 then off + r.sh b else off + r.sh b + cap * P.cellsOf e
  have := hk _ w ((hc.tail hD (fun c => In.one c) (r.blk b) (r.xtra b) s)) (hc.tail_ext hD) (.slc (.inr ⟨Nat.le_refl _, by omega⟩))
  simp only [Oper.wp, h1, Oper.upon]
  have e1 : ren (r.tail hp.length (r.blk b) (r.xtra b) s) (.slice (some ⟨hp.length, 0, none⟩) (h - cap) 0) = .slice (some (if r.xtra b = 0 then ⟨r.blk b, off + r.sh b, none⟩ else ⟨r.blk b, off + r.sh b + cap * P.cellsOf e, none⟩)) (h - cap) (r.xtra b) := by
    rw [ren_slc]
    simp only [Ren.tail, Ren.xt, if_true, Nat.zero_add, s]
    split <;> rfl
  simp only [e1] at this
  exact this

theorem bytesOf_sound : ∀ {cs : List Value} {bs : List UInt8}, bytesOf? cs = some bs → ∃ ns : List Int, cs = ns.map (Value.int .u8) ∧ bs = ns.map fun n => UInt8.ofNat n.toNat
  | [], bs, h => by simp [bytesOf?] at h; subst h; exact ⟨[], rfl, rfl⟩
  | v :: vs, bs, h => by
    simp only [bytesOf?] at h
    split at h
    · cases h
    · rename_i b hb
      split at h
      · cases h
      · rename_i bs' hbs
        cases h
        obtain ⟨ns, h1, h2⟩ := bytesOf_sound hbs
        unfold byteOf? at hb
        split at hb
        · rename_i n
          cases hb
          exact ⟨n :: ns, by simp [h1], by simp [h2]⟩
        · cases hb

theorem foldl_push : ∀ (ns : List Int) (acc : List UInt8), ns.foldl (fun r n => r.push (UInt8.ofNat n.toNat)) (ByteArray.mk ⟨acc⟩) = ByteArray.mk ⟨acc ++ ns.map fun n => UInt8.ofNat n.toNat⟩
  | [], acc => by simp
  | n :: ns, acc => by
    have := foldl_push ns (acc ++ [UInt8.ofNat n.toNat])
    simp only [List.foldl_cons, List.map_cons]
    rw [show (ByteArray.mk ⟨acc⟩).push (UInt8.ofNat n.toNat) = ByteArray.mk ⟨acc ++ [UInt8.ofNat n.toNat]⟩ from by simp [ByteArray.push]]
    rw [this]
    simp

theorem op_string {o : Oper} {ev : Operand → Option Value} {hp : Hp} {src dst e : TypeId} {x : Operand} (ho : o.op = .convert src dst x) (hs : P.underlying src = some (.slice e)) (hd : P.underlying dst = some .string) (he8 : P.underlying e = some (.int .u8))
    {a : Addr} {l c : Nat} (hx : ev x = some (.slice (some a) l c)) {cs : List Value} (hr : rowAt hp a.block a.off l = some cs) {bs : List UInt8} (hbs : bytesOf? cs = some bs) : OpSound P o ev hp hp.length ⟨.string ⟨⟨bs⟩⟩, [a.block], []⟩ := by
  refine sound_same fun D r g ea w hrd hc he => ⟨?_, .string _⟩
  obtain ⟨h1, h2⟩ := he x (by simp [ho, Op.operands]) _ hx
  cases h2
  rename_i b off sp hD
  have hg := hrd b (List.mem_singleton.2 rfl)
  have hrow := run_rowAt hr hg hc
  obtain ⟨ns, k1, k2⟩ := bytesOf_sound hbs
  have hcs : cs.map (ren r) = ns.map (Value.int .u8) := by
    rw [k1, List.map_map]
    apply List.map_congr_left
    intro n _
    simp
  rw [hcs] at hrow
  have := run_bytesToString (P := P) w ⟨r.blk b, off + r.sh b, none⟩ l (c + r.xt ⟨b, off, sp⟩) ns hrow
  obtain ⟨dst', op, type, pos, after, guard⟩ := o
  simp only at ho
  subst ho
  simp only [execOp, h1, ren_slc, Sem.run_bind]
  rw [run_convert_bytes_string w src dst e _ l (c + r.xt ⟨b, off, sp⟩) hs he8 hd, this]
  simp only [Result.andThen_ok, Sem.run_pure, ren_string]
  have h0 := foldl_push ns []
  rw [show ByteArray.empty = ByteArray.mk ⟨[]⟩ from rfl, h0]
  simp [k2]

theorem op_string_nil {o : Oper} {ev : Operand → Option Value} {hp : Hp} {src dst e : TypeId} {x : Operand} (ho : o.op = .convert src dst x) (hs : P.underlying src = some (.slice e)) (hd : P.underlying dst = some .string) (he8 : P.underlying e = some (.int .u8))
    {l c : Nat} (hx : ev x = some (.slice none l c)) : OpSound P o ev hp hp.length ⟨.string ByteArray.empty, [], []⟩ := by
  refine sound_same fun D r g ea w hrd hc he => ⟨?_, .string _⟩
  obtain ⟨h1, h2⟩ := he x (by simp [ho, Op.operands]) _ hx
  obtain ⟨dst', op, type, pos, after, guard⟩ := o
  simp only at ho
  subst ho
  simp only [execOp, h1, ren_slcNil, Sem.run_bind]
  rw [run_convert_bytes_string w src dst e _ l c hs he8 hd]
  simp [Conv.bytesToString]
end
end Go.Sx

/-
Shadow runs: append, copy, and bytes of a constant.
-/
namespace Go.Sx
open Go
set_option linter.unusedVariables false
set_option linter.unusedSimpArgs false
set_option linter.unusedSectionVars false
variable [Globs]
section
variable {P : Program}

theorem zeroCells_zero {t : TypeId} {z : List Value} {i : TypeInfo} (hi : P.info? t = some i) (h : zeroCells P t = some z) : ∃ zv, i.zero = some zv ∧ zv.cells.toList = z := by
  unfold zeroCells at h
  rw [hi] at h
  simp only at h
  split at h
  · rename_i zv hz
    split at h
    · cases h; exact ⟨zv, hz, rfl⟩
    · cases h
  · cases h

theorem cellList_sound {hp : Hp} {size n : Nat} {x : Value} {rs : List Nat} {cs : List Value} (h : cellList P hp size n x = some (rs, cs)) {D : Nat → Prop} {r : Ren} {g : GS} {w : World} (hx : Vok D x)
    (hg : ∀ b ∈ rs, g (.bk b) = hp.get b) (hc : CRel P D r g w) : cs.length = n * size ∧ (∀ v ∈ cs, Vok D v) ∧
      ((n = 0 ∧ cs = []) ∨ ∃ b o l c sp, x = .slice (some ⟨b, o, sp⟩) l c ∧ ∀ j v, (cs.map (ren r))[j]? = some v → w.cell? ((⟨r.blk b, o + r.sh b, none⟩ : Addr).add j) = some v) := by
  unfold cellList at h
  split at h
  · split at h
    · rename_i hn
      simp at hn
      cases h
      exact ⟨by simp [hn], by simp, .inl ⟨hn, rfl⟩⟩
    · split at h
      · cases h
      · cases hx
        rename_i b o sp hD
        split at h
        · rename_i cs' hr
          cases h
          obtain ⟨h1, h2, h3, _⟩ := rowAt_sound hr (hg b (List.mem_singleton.2 rfl)) hc
          exact ⟨h2, h3, .inr ⟨_, _, _, _, _, rfl, h1⟩⟩
        · cases h
  · cases h

theorem oldRow_sound {hp : Hp} {b o n : Nat} {sp : Option Nat} {rs : List Nat} {cs : List Value} (h : oldRow hp ⟨b, o, sp⟩ n = some (rs, cs)) {D : Nat → Prop} {r : Ren} {g : GS} {w : World}
    (hg : ∀ b ∈ rs, g (.bk b) = hp.get b) (hc : CRel P D r g w) : cs.length = n ∧ (∀ v ∈ cs, Vok D v) ∧ ∀ j v, (cs.map (ren r))[j]? = some v → w.cell? ((⟨r.blk b, o + r.sh b, none⟩ : Addr).add j) = some v := by
  unfold oldRow at h
  split at h
  · rename_i hn
    simp at hn
    cases h
    exact ⟨by simp [hn], by simp, by simp⟩
  · split at h
    · rename_i cs' hr
      cases h
      obtain ⟨h1, h2, h3, _⟩ := rowAt_sound hr (hg b (List.mem_singleton.2 rfl)) hc
      exact ⟨h2, h3, h1⟩
    · cases h

theorem exactB_sound {hp : Hp} {a : Addr} {rs : List Nat} (h : exactB hp a = some rs) {D : Nat → Prop} {r : Ren} {g : GS} {w : World} (hg : ∀ b ∈ rs, g (.bk b) = hp.get b) (hc : CRel P D r g w) : r.xt a = 0 := by
  unfold exactB at h
  split at h
  · rename_i hs
    simp [Ren.xt, hs]
  · rename_i hs
    split at h
    · rename_i ob hob
      split at h
      · rename_i hx
        cases h
        have hgb : g (.bk a.block) = some ob := by rw [hg _ (List.mem_singleton.2 rfl), hob]
        obtain ⟨_, _, _, _, hf⟩ := hc.blk _ ob hgb
        unfold Fits at hf
        unfold exB at hx
        cases hk : ob.knd <;> simp only [hk] at hf hx
        · simp [Ren.xt, hs, hf.2.1]
        all_goals cases hx
      · cases h
    · cases h

theorem size_zeros {z : Value} {zs : List Value} {k : Nat} (h : z.cells.toList = zs) : (Builtin.zeroCells z.cells k).size = k * zs.length := by
  rw [size_zeroCells, ← h]
  simp

/-- A row that grew into a new block. -/
theorem grown_rel {D : Nat → Prop} {r : Ren} {g : GS} {w : World} (hc : CRel P D r g w) {n : Nat} (hD : ¬ D n) {e : TypeId} {cs : List Value} (hok : ∀ v ∈ cs, Vok D v) {zv : Value} {z : List Value} (hz : zv.cells.toList = z) (hzl : z.length = P.cellsOf e)
    {m k : Nat} (hl : cs.length = m * P.cellsOf e) {A : Array Value} (hA : A.toList = cs.map (ren r)) (x : Nat) :
    CRel P (fun c => D c ∨ c = n) (r.put n w.heap.size x) ((Upd.bk n (some ⟨e, cs, .op⟩)).app g) (w.drew.alloc (.cells (A ++ Builtin.zeroCells zv.cells x) e)) ∧
    Ext D r g w (r.put n w.heap.size x) ((Upd.bk n (some ⟨e, cs, .op⟩)).app g) (w.drew.alloc (.cells (A ++ Builtin.zeroCells zv.cells x) e)) := by
  have hc' : CRel P D r g w.drew := hc.drew
  constructor
  · refine hc'.alloc hD (fun c => Iff.rfl) ⟨e, cs, .op⟩ ?_ ?_ (fun v hv => (hok v hv).mono fun _ h => .inl h)
    · have hl2 : A.toList.length = cs.length := by rw [hA]; simp
      show List.take cs.length _ = _
      rw [Array.toList_append, List.take_append_of_le_length (by omega), List.take_of_length_le (by omega), hA]
      apply List.map_congr_left
      intro v hv
      exact (ren_congr (put_agree hD) (hok v hv)).symm
    · have hl2 : A.size = cs.length := by rw [← Array.length_toList, hA]; simp
      refine ⟨by simp, ?_, .inl rfl⟩
      simp [size_zeros hz, hzl, hl2]
  · have := hc'.alloc_ext hD ⟨e, cs, .op⟩ x (.cells (A ++ Builtin.zeroCells zv.cells x) e)
    exact ⟨this.agree, this.new, this.frame, this.size, this.os, this.tape, this.output⟩

structure AppArgs (P : Program) (o : Oper) (ev : Operand → Option Value) (t e : TypeId) (s x : Value) (i : TypeInfo) (z : List Value) : Prop where
  op : ∃ c, o.op = .call c ∧ c.callee = .builtin .append ∧ c.argTypes.toList = [t, t] ∧ evs ev c.args.toList = some [s, x]
  elem : P.underlying t = some (.slice e)
  info : P.info? e = some i
  pos : 0 < i.size
  zero : zeroCells P e = some z
  zlen : z.length = P.cellsOf e

theorem AppArgs.cells {o : Oper} {ev : Operand → Option Value} {t e : TypeId} {s x : Value} {i : TypeInfo} {z : List Value} (h : AppArgs P o ev t e s x i z) : P.cellsOf e = i.size := by
  simp [Program.cellsOf, h.info]

theorem AppArgs.run {o : Oper} {ev : Operand → Option Value} {t e : TypeId} {s x : Value} {i : TypeInfo} {z : List Value} (h : AppArgs P o ev t e s x i z) {D : Nat → Prop} {r : Ren} {ea : Operand → Value} {w w' : World} {v : Value}
    (he : EvOk D r ev ea o.op.operands.toList) (hr : ∀ ty, (Builtin.append_ #[t, t] ty #[ren r s, ren r x]).run P w = .ok v w') : (execOp ea o).run P w = .ok (.value v) w' ∧ Vok D s ∧ Vok D x := by
  obtain ⟨dst, op, type, pos, after, guard⟩ := o
  obtain ⟨⟨callee, args, argTypes⟩, h1, h2, h3, h4⟩ := h.op
  simp only at h1 h2 h3 h4
  subst h1
  subst h2
  obtain ⟨k1, k2⟩ := evs_sound (D := D) (r := r) (ea := ea) (fun y hy => he y (by simp [Op.operands, Call.operands] at hy ⊢; exact hy)) h4
  have hargs : args.map ea = #[ren r s, ren r x] := by apply Array.ext'; simpa using k1
  have hats : argTypes = #[t, t] := by apply Array.ext'; simpa using h3
  refine ⟨?_, k2 s (by simp), k2 x (by simp)⟩
  simp only [execOp, resolve, Sem.run_bind, Sem.run_pure, Result.andThen_ok, invoke, builtin, hargs, hats, hr]

theorem AppArgs.ok {o : Oper} {ev : Operand → Option Value} {t e : TypeId} {s x : Value} {i : TypeInfo} {z : List Value} (h : AppArgs P o ev t e s x i z) {D : Nat → Prop} {r : Ren} {ea : Operand → Value}
    (he : EvOk D r ev ea o.op.operands.toList) : Vok D s ∧ Vok D x := by
  obtain ⟨dst, op, type, pos, after, guard⟩ := o
  obtain ⟨⟨callee, args, argTypes⟩, h1, h2, h3, h4⟩ := h.op
  simp only at h1 h2 h3 h4
  subst h1
  subst h2
  obtain ⟨k1, k2⟩ := evs_sound (D := D) (r := r) (ea := ea) (fun y hy => he y (by simp [Op.operands, Call.operands] at hy ⊢; exact hy)) h4
  exact ⟨k2 s (by simp), k2 x (by simp)⟩

theorem app_nil0 {o : Oper} {ev : Operand → Option Value} {hp : Hp} {t e : TypeId} {xb : Option Addr} {xc : Nat} {i : TypeInfo} {z : List Value} (h : AppArgs P o ev t e (.slice none 0 0) (.slice xb 0 xc) i z) :
    OpSound P o ev hp hp.length ⟨.slice none 0 0, [], []⟩ := by
  refine sound_same fun D r g ea w hrd hc he => ⟨?_, .slcNil _ _⟩
  refine (h.run (v := ren r (.slice none 0 0)) (w' := w) he fun ty => ?_).1
  have hx := (h.ok he).2
  have hl : ∀ x : Addr, (loadCells x 0).run P w = .ok #[] w := fun x => by simpa using run_loadCells_list (P := P) w x [] (by simp)
  cases hx <;> simp [Builtin.append_, run_underlying h.elem, run_sizeOf w h.info, Builtin.lenOf, Builtin.firstCells, hl]

theorem app_nil {o : Oper} {ev : Operand → Option Value} {hp : Hp} {t e : TypeId} {xb : Option Addr} {m xc : Nat} {i : TypeInfo} {z : List Value} (h : AppArgs P o ev t e (.slice none 0 0) (.slice xb m xc) i z)
    (hm : m ≠ 0) (hm1 : m ≤ 1000000) (hby : m * i.bytes ≤ 140737488355328) {rs : List Nat} {news : List Value} (hn : cellList P hp (P.cellsOf e) m (.slice xb m xc) = some (rs, news)) :
    OpSound P o ev hp (hp.length + 1) ⟨.slice (some ⟨hp.length, 0, none⟩) m m, rs, [(hp.length, some ⟨e, news, .op⟩)]⟩ := by
  intro D r g a w K Q hrd hfr hc he hk
  have hD : ¬ D hp.length := hfr hp.length (Nat.le_refl _) (by omega)
  obtain ⟨n1, n2, n3⟩ := cellList_sound hn (h.ok he).2 hrd hc
  obtain ⟨zv, z1, z2⟩ := zeroCells_zero h.info h.zero
  rcases n3 with ⟨h0, _⟩ | ⟨b, off, l, c, sp, hx, hcell⟩
  · exact absurd h0 hm
  cases hx
  have hge := grownCap_ge w m 0 e
  obtain ⟨g1, g2⟩ := grown_rel (e := e) (k := 0) hc hD n2 z2 h.zlen n1 (A := (news.map (ren r)).toArray) rfl (grownCap w m 0 e - m)
  have hrun := (h.run (D := D) (r := r) (ea := a.eval) (w := w) he fun ty => by
    rw [ren_slcNil, ren_slc]
    exact run_append_nil (P := P) w t ty e i zv h.elem h.info z1 ⟨r.blk b, off + r.sh b, none⟩ m (xc + r.xt ⟨b, off, sp⟩) (news.map (ren r)) (by rw [List.length_map, n1, h.cells]) hcell (by omega) (by omega) (by omega)).1
  have := hk _ _ (g1.weaken fun c hcc => (In.one c).2 hcc) g2 (.slc (.inr ⟨Nat.le_refl _, by omega⟩))
  simp only [Oper.wp, hrun, Oper.upon]
  have e1 : m + (grownCap w m 0 e - m) = grownCap w m 0 e := by omega
  simp only [ren_slc, xt_none, put_blk, put_sh, put_xtra, e1] at this
  exact this

theorem app_grow {o : Oper} {ev : Operand → Option Value} {hp : Hp} {t e : TypeId} {sa : Addr} {sLen sCap : Nat} {xb : Option Addr} {m xc : Nat} {i : TypeInfo} {z : List Value} (h : AppArgs P o ev t e (.slice (some sa) sLen sCap) (.slice xb m xc) i z)
    (hm1 : sLen + m ≤ 1000000) (hby : (sLen + m) * i.bytes ≤ 140737488355328) {rs : List Nat} {news : List Value} (hn : cellList P hp (P.cellsOf e) m (.slice xb m xc) = some (rs, news)) {xs : List Nat} (hex : exactB hp sa = some xs)
    (hg : sCap < sLen + m) {os : List Nat} {olds : List Value} (ho : oldRow hp sa (sLen * P.cellsOf e) = some (os, olds)) (hm : m ≠ 0) :
    OpSound P o ev hp (hp.length + 1) ⟨.slice (some ⟨hp.length, 0, none⟩) (sLen + m) (sLen + m), xs ++ (os ++ rs), [(hp.length, some ⟨e, olds ++ news, .op⟩)]⟩ := by
  intro D r g a w K Q hrd hfr hc he hk
  have hD : ¬ D hp.length := hfr hp.length (Nat.le_refl _) (by omega)
  have hx0 : r.xt sa = 0 := exactB_sound hex (fun b hb => hrd b (List.mem_append_left _ hb)) hc
  obtain ⟨n1, n2, n3⟩ := cellList_sound hn (h.ok he).2 (fun b hb => hrd b (List.mem_append_right _ (List.mem_append_right _ hb))) hc
  obtain ⟨zv, z1, z2⟩ := zeroCells_zero h.info h.zero
  rcases n3 with ⟨h0, _⟩ | ⟨b, off, l, c, sp, hx, hcell⟩
  · exact absurd h0 hm
  cases hx
  have hs := (h.ok he).1
  cases hs
  rename_i sb soff ssp hDs
  obtain ⟨o2, o3, o1⟩ := oldRow_sound ho (fun b hb => hrd b (List.mem_append_right _ (List.mem_append_left _ hb))) hc
  have hge := grownCap_ge w (sLen + m) sCap e
  obtain ⟨g1, g2⟩ := grown_rel (e := e) (k := 0) (cs := olds ++ news) (m := sLen + m) hc hD (fun v hv => by
      rcases List.mem_append.1 hv with hv | hv
      · exact o3 v hv
      · exact n2 v hv) z2 h.zlen (by rw [List.length_append, o2, n1, Nat.add_mul]) (A := ((olds.map (ren r)).toArray ++ (news.map (ren r)).toArray)) (by simp) (grownCap w (sLen + m) sCap e - (sLen + m))
  have hrun := (h.run (D := D) (r := r) (ea := a.eval) (w := w) he fun ty => by
    rw [ren_slc, ren_slc, hx0]
    exact run_append_grow (P := P) w t ty e i zv h.elem h.info z1 ⟨r.blk sb, soff + r.sh sb, none⟩ sLen sCap (olds.map (ren r)) (by rw [List.length_map, o2, h.cells]) o1 ⟨r.blk b, off + r.sh b, none⟩ m (xc + r.xt ⟨b, off, sp⟩) (news.map (ren r)) (by rw [List.length_map, n1, h.cells]) hcell hg (by omega) (growslice_fits hg hby)).1
  have := hk _ _ (g1.weaken fun c hcc => (In.one c).2 hcc) g2 (.slc (.inr ⟨Nat.le_refl _, by omega⟩))
  simp only [Oper.wp, hrun, Oper.upon]
  have e1 : sLen + m + (grownCap w (sLen + m) sCap e - (sLen + m)) = grownCap w (sLen + m) sCap e := by omega
  simp only [ren_slc, xt_none, put_blk, put_sh, put_xtra, e1] at this
  exact this

theorem app_room {o : Oper} {ev : Operand → Option Value} {hp : Hp} {t e : TypeId} {sa : Addr} {sLen sCap : Nat} {xb : Option Addr} {m xc : Nat} {i : TypeInfo} {z : List Value} (h : AppArgs P o ev t e (.slice (some sa) sLen sCap) (.slice xb m xc) i z)
    {rs : List Nat} {news : List Value} (hn : cellList P hp (P.cellsOf e) m (.slice xb m xc) = some (rs, news)) (h1 : news.all oneB = true) {ob : SObj} (hob : hp.get sa.block = some ob) (hm : m ≠ 0)
    (hroom : sLen + m ≤ sCap) (hfit : sa.off + sLen * P.cellsOf e + news.length ≤ ob.cells.length) (hw : canW ob.knd = true) :
    OpSound P o ev hp hp.length ⟨.slice (some sa) (sLen + m) sCap, sa.block :: rs, [(sa.block, some { ob with cells := splice ob.cells (sa.off + sLen * P.cellsOf e) news })]⟩ := by
  refine sound_write (b := sa.block) List.mem_cons_self hob hfit (.inr trivial) fun D r g ea w hrd hc he hg => ?_
  obtain ⟨n1, n2, n3⟩ := cellList_sound hn (h.ok he).2 (fun b hb => hrd b (List.mem_cons_of_mem _ hb)) hc
  have hs := (h.ok he).1
  cases hs
  rename_i sb soff ssp hDs
  refine ⟨.inl ?_, n2, .slc hDs⟩
  simp only at hg hfit
  refine (h.run (v := ren r (.slice (some ⟨sb, soff, ssp⟩) (sLen + m) sCap)) (D := D) (r := r) (ea := ea) (w := w) he fun ty => ?_).1
  rcases n3 with ⟨h0, _⟩ | ⟨b, off, l, c, sp, hx, hcell⟩
  · exact absurd h0 hm
  · cases hx
    rw [ren_slc, ren_slc, ren_slc, h.cells]
    rw [h.cells] at hfit n1
    rw [show soff + sLen * i.size + r.sh sb = soff + r.sh sb + sLen * i.size by omega]
    have hxt : r.xt ⟨sb, soff, ssp⟩ = r.xt ⟨sb, soff, ssp⟩ := rfl
    refine run_append_room_cells (P := P) w t ty e i h.elem h.info (r.blk sb) (soff + r.sh sb) sLen (sCap + r.xt ⟨sb, soff, ssp⟩) ⟨r.blk b, off + r.sh b, none⟩ m (xc + r.xt ⟨b, off, sp⟩) (news.map (ren r)) (by rw [List.length_map, n1]) hcell ?_ (by omega) ?_ ?_
    · intro u hu
      simp only [List.mem_map] at hu
      obtain ⟨y, hy, rfl⟩ := hu
      rw [List.all_eq_true] at h1
      exact one_ren (n2 y hy) r (h1 y hy)
    · intro j hj
      simp only [List.length_map] at hj
      have hlt : soff + sLen * i.size + j < ob.cells.length := by omega
      rw [show soff + r.sh sb + sLen * i.size + j = soff + sLen * i.size + j + r.sh sb by omega, hc.cell hg (List.getElem?_eq_getElem hlt)]
      rfl
    · intro j hj
      simp only [List.length_map] at hj
      rw [show soff + r.sh sb + sLen * i.size + j = soff + sLen * i.size + j + r.sh sb by omega]
      exact hc.free hg hw (by omega)

/-- Onto a row behind which there may be room: it is forgotten, the longer one has a new name. -/
theorem app_open {o : Oper} {ev : Operand → Option Value} {hp : Hp} {t e : TypeId} {sb sLen : Nat} {xb : Option Addr} {m xc : Nat} {i : TypeInfo} {z : List Value} (h : AppArgs P o ev t e (.slice (some ⟨sb, 0, none⟩) sLen sLen) (.slice xb m xc) i z)
    (hm1 : sLen + m ≤ 1000000) (hby : (sLen + m) * i.bytes ≤ 140737488355328) {rs : List Nat} {news : List Value} (hn : cellList P hp (P.cellsOf e) m (.slice xb m xc) = some (rs, news)) (h1 : news.all oneB = true) {ob : SObj} (hob : hp.get sb = some ob)
    (hop : opB ob.knd = true) (hlen : ob.cells.length = sLen * P.cellsOf e) (hel : ob.elem = e) (hm : m ≠ 0) :
    OpSound P o ev hp (hp.length + 1) ⟨.slice (some ⟨hp.length, 0, none⟩) (sLen + m) (sLen + m), sb :: rs, [(sb, none), (hp.length, some ⟨e, ob.cells ++ news, .op⟩)]⟩ := by
  intro D r g a w K Q hrd hfr hc he hk
  have hD : ¬ D hp.length := hfr hp.length (Nat.le_refl _) (by omega)
  obtain ⟨n1, n2, n3⟩ := cellList_sound hn (h.ok he).2 (fun b hb => hrd b (List.mem_cons_of_mem _ hb)) hc
  obtain ⟨zv, z1, z2⟩ := zeroCells_zero h.info h.zero
  rcases n3 with ⟨h0, _⟩ | ⟨b, off, l, c, sp, hx, hcell⟩
  · exact absurd h0 hm
  cases hx
  have hs := (h.ok he).1
  cases hs
  rename_i hDs
  have hgs := hrd sb List.mem_cons_self
  have hgb : g (.bk sb) = some ob := by rw [hgs]; exact hob
  have hsbn : sb ≠ hp.length := fun e => hD (e ▸ hDs)
  obtain ⟨arr, fz, ha, ht, hfits⟩ := hc.blk sb ob hgb
  obtain ⟨hsh, hsz, hf⟩ : r.sh sb = 0 ∧ arr.size = ob.cells.length + r.xtra sb * P.cellsOf ob.elem ∧ (fz.1 = fz.2 ∨ arr.size ≤ fz.1) := by
    unfold Fits at hfits
    unfold opB at hop
    cases hk : ob.knd <;> simp only [hk] at hfits hop
    · cases hop
    · exact hfits
    all_goals cases hop
  rw [hsh, List.drop_zero] at ht
  subst hel
  have hci := h.cells
  have hcells : ∀ j v, (ob.cells.map (ren r))[j]? = some v → w.cell? ((⟨r.blk sb, 0, none⟩ : Addr).add j) = some v := by
    intro j v hv
    simp only [List.getElem?_map, Option.map_eq_some_iff] at hv
    obtain ⟨u, hu, rfl⟩ := hv
    rw [add_none, Nat.zero_add]
    have := hc.cell hgb hu
    rwa [hsh, Nat.add_zero] at this
  have hokAll : ∀ v ∈ ob.cells ++ news, Vok D v := fun v hv => by
    rcases List.mem_append.1 hv with hv | hv
    · exact hc.ok sb ob hgb v hv
    · exact n2 v hv
  have hlenAll : (ob.cells ++ news).length = (sLen + m) * P.cellsOf ob.elem := by rw [List.length_append, hlen, n1, Nat.add_mul]
  have huse : apps (Eff.us ⟨.slice (some ⟨hp.length, 0, none⟩) (sLen + m) (sLen + m), sb :: rs, [(sb, none), (hp.length, some ⟨ob.elem, ob.cells ++ news, .op⟩)]⟩) g =
      (Upd.bk hp.length (some ⟨ob.elem, ob.cells ++ news, .op⟩)).app ((Upd.bk sb none).app g) := rfl
  by_cases hroom : m ≤ r.xtra sb
  · -- there is room
    have hrun := (h.run (D := D) (r := r) (ea := a.eval) (w := w) he fun ty => by
      rw [ren_slc, ren_slc, hsh, xt_none, Nat.add_zero 0]
      refine run_append_room_cells (P := P) w t ty ob.elem i h.elem h.info (r.blk sb) 0 sLen (sLen + r.xtra sb) ⟨r.blk b, off + r.sh b, none⟩ m (xc + r.xt ⟨b, off, sp⟩) (news.map (ren r)) (by rw [List.length_map, n1, hci]) hcell ?_ (by omega) ?_ ?_
      · intro u hu
        simp only [List.mem_map] at hu
        obtain ⟨y, hy, rfl⟩ := hu
        rw [List.all_eq_true] at h1
        exact one_ren (n2 y hy) r (h1 y hy)
      · intro j hj
        simp only [List.length_map] at hj
        have hlt : 0 + sLen * i.size + j < arr.size := by
          have : m * i.size ≤ r.xtra sb * i.size := Nat.mul_le_mul_right _ hroom
          rw [hci] at hsz hlen n1
          omega
        simp [World.cell?, ha]
        omega
      · intro j hj
        simp only [List.length_map] at hj
        have hlt : 0 + sLen * i.size + j < arr.size := by
          have : m * i.size ≤ r.xtra sb * i.size := Nat.mul_le_mul_right _ hroom
          rw [hci] at hsz hlen n1
          omega
        obtain ⟨flo, fhi⟩ := fz
        simp only [World.frozen?, ha]
        simp at hf ⊢
        omega).1
    have hmul : m * P.cellsOf ob.elem ≤ r.xtra sb * P.cellsOf ob.elem := Nat.mul_le_mul_right _ hroom
    have hfit : 0 + sLen * i.size + (news.map (ren r)).length ≤ arr.size := by
      rw [List.length_map]
      rw [hci] at hsz hlen n1 hmul
      omega
    have hheap := heap_setCells (news.map (ren r)) w (r.blk sb) (0 + sLen * i.size) arr ob.elem fz ha hfit
    have hkill := hc.kill sb
    have hkey : ∀ c oc, (Upd.bk sb none).app g (.bk c) = some oc → c ≠ sb ∧ g (.bk c) = some oc := by
      intro c oc hcc
      rw [app_bk] at hcc
      split at hcc
      · cases hcc
      · rename_i hne; exact ⟨hne, hcc⟩
    have hne : ∀ c oc, (Upd.bk sb none).app g (.bk c) = some oc → r.blk c ≠ r.blk sb := fun c oc hcc e => (hkey c oc hcc).1 (hc.inj c sb oc ob (hkey c oc hcc).2 hgb e)
    have hcrel : CRel P (fun c => D c ∨ c = hp.length) (r.put hp.length (r.blk sb) (r.xtra sb - m)) ((Upd.bk hp.length (some ⟨ob.elem, ob.cells ++ news, .op⟩)).app ((Upd.bk sb none).app g)) (w.setCells (r.blk sb) (0 + sLen * i.size) (news.map (ren r))) := by
      refine hkill.new hD (fun c => Iff.rfl) ⟨ob.elem, ob.cells ++ news, .op⟩ hne (fun c oc hcc => heap_setCells_other _ _ _ _ _ (hne c oc hcc)) hheap ?_ ?_ (fun v hv => (hokAll v hv).mono fun _ h => .inl h)
      · show List.take (ob.cells ++ news).length _ = _
        have hre : (ob.cells ++ news).map (ren (r.put hp.length (r.blk sb) (r.xtra sb - m))) = (ob.cells ++ news).map (ren r) := by
          apply List.map_congr_left
          intro v hv
          exact ren_congr (put_agree hD) (hokAll v hv)
        rw [hre]
        have hoff : 0 + sLen * i.size = (ob.cells.map (ren r)).length := by rw [List.length_map, hlen, hci]; omega
        rw [hoff]
        simp only [splice]
        have htk : arr.toList.take (ob.cells.map (ren r)).length = ob.cells.map (ren r) := by rw [List.length_map, ht]
        rw [htk, ← List.append_assoc, List.take_append_of_le_length (by simp), List.take_of_length_le (by simp), List.map_append]
      · have hsz2 : (splice arr.toList (0 + sLen * i.size) (news.map (ren r))).toArray.size = arr.size := by
          simp only [List.size_toArray]
          rw [splice_length (by simpa using hfit)]
          simp
        rw [hsz2]
        refine ⟨by simp, ?_, hf⟩
        simp only [put_xtra]
        rw [hlenAll, hsz, hlen, ← Nat.add_mul, ← Nat.add_mul]
        congr 1
        omega
    have hext : Ext D r g w (r.put hp.length (r.blk sb) (r.xtra sb - m)) ((Upd.bk hp.length (some ⟨ob.elem, ob.cells ++ news, .op⟩)).app ((Upd.bk sb none).app g)) (w.setCells (r.blk sb) (0 + sLen * i.size) (news.map (ren r))) := by
      obtain ⟨q1, q2, q3⟩ := setCells_rest (news.map (ren r)) w (r.blk sb) (0 + sLen * i.size)
      refine ⟨put_agree hD, fun c oc hcc => ?_, fun k hk hown => heap_setCells_other _ _ _ _ _ (fun e => hown sb ob hgb e.symm), by rw [setCells_size]; exact Nat.le_refl _, q1, q2, q3⟩
      rw [app_bk] at hcc
      split at hcc
      · rename_i hcn; subst hcn; exact .inl ⟨sb, ob, hgb, by simp [Ren.put]⟩
      · rename_i hcn; exact .inl ⟨c, oc, (hkey c oc hcc).2, by simp [Ren.put, hcn]⟩
    have := hk _ _ (by rw [huse]; exact hcrel.weaken fun c hcc => (In.one c).2 hcc) (by rw [huse]; exact hext) (.slc (.inr ⟨Nat.le_refl _, by omega⟩))
    simp only [Oper.wp, hrun, Oper.upon]
    have e1 : sLen + m + (r.xtra sb - m) = sLen + r.xtra sb := by omega
    simp only [ren_slc, xt_none, put_blk, put_sh, put_xtra, e1] at this
    exact this
  · -- there is none
    have hg : sLen + r.xtra sb < sLen + m := by omega
    have hge := grownCap_ge w (sLen + m) (sLen + r.xtra sb) ob.elem
    have hkill := hc.kill sb
    obtain ⟨g1, g2⟩ := grown_rel (e := ob.elem) (k := 0) (cs := ob.cells ++ news) (m := sLen + m) hkill hD hokAll z2 h.zlen hlenAll (A := ((ob.cells.map (ren r)).toArray ++ (news.map (ren r)).toArray)) (by simp) (grownCap w (sLen + m) (sLen + r.xtra sb) ob.elem - (sLen + m))
    have hrun := (h.run (D := D) (r := r) (ea := a.eval) (w := w) he fun ty => by
      rw [ren_slc, ren_slc, hsh, xt_none, Nat.add_zero 0]
      exact run_append_grow (P := P) w t ty ob.elem i zv h.elem h.info z1 ⟨r.blk sb, 0, none⟩ sLen (sLen + r.xtra sb) (ob.cells.map (ren r)) (by rw [List.length_map, hlen, hci]) hcells ⟨r.blk b, off + r.sh b, none⟩ m (xc + r.xt ⟨b, off, sp⟩) (news.map (ren r)) (by rw [List.length_map, n1, hci]) hcell hg (by omega) (growslice_fits hg hby)).1
    have hext : Ext D r g w (r.put hp.length w.heap.size (grownCap w (sLen + m) (sLen + r.xtra sb) ob.elem - (sLen + m))) ((Upd.bk hp.length (some ⟨ob.elem, ob.cells ++ news, .op⟩)).app ((Upd.bk sb none).app g)) (w.drew.alloc (.cells (((ob.cells.map (ren r)).toArray ++ (news.map (ren r)).toArray) ++ Builtin.zeroCells zv.cells (grownCap w (sLen + m) (sLen + r.xtra sb) ob.elem - (sLen + m))) ob.elem)) := by
      refine ⟨g2.agree, fun c oc hcc => ?_, fun k hk hown => g2.frame k hk fun c oc hcc => ?_, g2.size, g2.os, g2.tape, g2.output⟩
      · rcases g2.new c oc hcc with ⟨b0, o0, hb0, e0⟩ | hge
        · rw [app_bk] at hb0
          split at hb0
          · cases hb0
          · exact .inl ⟨b0, o0, hb0, e0⟩
        · exact .inr hge
      · rw [app_bk] at hcc
        split at hcc
        · cases hcc
        · exact hown c oc hcc
    have := hk _ _ (by rw [huse]; exact g1.weaken fun c hcc => (In.one c).2 hcc) (by rw [huse]; exact hext) (.slc (.inr ⟨Nat.le_refl _, by omega⟩))
    simp only [Oper.wp, hrun, Oper.upon]
    have e1 : sLen + m + (grownCap w (sLen + m) (sLen + r.xtra sb) ob.elem - (sLen + m)) = grownCap w (sLen + m) (sLen + r.xtra sb) ob.elem := by omega
    simp only [ren_slc, xt_none, put_blk, put_sh, put_xtra, e1] at this
    exact this

theorem app_open0 {o : Oper} {ev : Operand → Option Value} {hp : Hp} {t e : TypeId} {sa : Addr} {sLen sCap : Nat} {xb : Option Addr} {xc : Nat} {i : TypeInfo} {z : List Value} (h : AppArgs P o ev t e (.slice (some sa) sLen sCap) (.slice xb 0 xc) i z) (hle : sLen ≤ sCap) (rs : List Nat) :
    OpSound P o ev hp hp.length ⟨.slice (some sa) sLen sCap, rs, []⟩ := by
  refine sound_same fun D r g ea w hrd hc he => ?_
  have hs := (h.ok he).1
  cases hs
  rename_i sb soff ssp hDs
  refine ⟨(h.run (v := ren r (.slice (some ⟨sb, soff, ssp⟩) sLen sCap)) (w' := w) he fun ty => ?_).1, .slc hDs⟩
  have hx := (h.ok he).2
  have hl : ∀ x : Addr, (loadCells x 0).run P w = .ok #[] w := fun x => by simpa using run_loadCells_list (P := P) w x [] (by simp)
  have hle' : sLen ≤ sCap + r.xt ⟨sb, soff, ssp⟩ := by omega
  cases hx <;> simp [Builtin.append_, run_underlying h.elem, run_sizeOf w h.info, Builtin.lenOf, Builtin.firstCells, hl, hle', storeCells]

theorem op_copy {o : Oper} {ev : Operand → Option Value} {hp : Hp} {t e : TypeId} {ts : List TypeId} {c : Call} {d a : Addr} {dLen dc sLen sc : Nat} (ho : o.op = .call c) (hcal : c.callee = .builtin .copy) (hats : c.argTypes.toList = t :: ts) (hargs : evs ev c.args.toList = some [.slice (some d) dLen dc, .slice (some a) sLen sc])
    (hu : P.underlying t = some (.slice e)) {i : TypeInfo} (hi : P.info? e = some i) (hsz : P.cellsOf e = 1) {cs : List Value} (hr : rowAt hp a.block a.off (Nat.min sLen dLen) = some cs) (h1 : cs.all oneB = true) (hlen : cs.length ≤ 1000000)
    {ob : SObj} (hob : hp.get d.block = some ob) (hfit : d.off + cs.length ≤ ob.cells.length) (hw : canW ob.knd = true) :
    OpSound P o ev hp hp.length ⟨.int .i64 cs.length, [d.block, a.block], [(d.block, some { ob with cells := splice ob.cells d.off cs })]⟩ := by
  refine sound_write (b := d.block) List.mem_cons_self hob hfit (.inr trivial) fun D r g ea w hrd hc he hg => ?_
  obtain ⟨dst, op, type, pos, after, guard⟩ := o
  simp only at ho
  subst ho
  obtain ⟨callee, args, argTypes⟩ := c
  simp only at hcal hats hargs
  subst hcal
  obtain ⟨k1, k2⟩ := evs_sound (D := D) (r := r) (ea := ea) (fun y hy => he y (by simp [Op.operands, Call.operands] at hy ⊢; exact hy)) hargs
  have hd := k2 (.slice (some d) dLen dc) (by simp)
  have ha := k2 (.slice (some a) sLen sc) (by simp)
  cases hd
  cases ha
  rename_i db doff dsp hDd ab aoff asp hDa
  have hga := hrd ab (List.mem_cons_of_mem _ (List.mem_singleton.2 rfl))
  obtain ⟨c1, c2, c3, _⟩ := rowAt_sound hr hga hc
  have hargs' : args.map ea = #[.slice (some ⟨r.blk db, doff + r.sh db, none⟩) dLen (dc + r.xt ⟨db, doff, dsp⟩), .slice (some ⟨r.blk ab, aoff + r.sh ab, none⟩) sLen (sc + r.xt ⟨ab, aoff, asp⟩)] := by apply Array.ext'; simpa using k1
  simp only at hg hfit
  have hsize : (P.info? e).map (·.size) = some 1 := by
    rw [hi]
    have : P.cellsOf e = i.size := by simp [Program.cellsOf, hi]
    simp [← this, hsz]
  refine ⟨.inl ?_, c3, .int ?_⟩
  · obtain ⟨ats⟩ := argTypes
    simp only at hats
    subst hats
    have hrun := run_copy_cells (P := P) w t (ts.headD 0) 0 e (r.blk db) (doff + r.sh db) dLen (dc + r.xt ⟨db, doff, dsp⟩) ⟨r.blk ab, aoff + r.sh ab, none⟩ sLen (sc + r.xt ⟨ab, aoff, asp⟩) (cs.map (ren r)) hu hsize (by simp [c2]) c1 (fun j hj => by
        simp only [List.length_map] at hj
        have hlt : doff + j < ob.cells.length := by omega
        rw [show doff + r.sh db + j = doff + j + r.sh db by omega, hc.cell hg (List.getElem?_eq_getElem hlt)]
        rfl) (fun j hj => by
        simp only [List.length_map] at hj
        rw [show doff + r.sh db + j = doff + j + r.sh db by omega]
        exact hc.free hg hw (by omega)) (fun u hu => by
        simp only [List.mem_map] at hu
        obtain ⟨y, hy, rfl⟩ := hu
        rw [List.all_eq_true] at h1
        exact one_ren (c3 y hy) r (h1 y hy))
    have hrun' : (Builtin.copy_ (t :: ts).toArray type #[.slice (some ⟨r.blk db, doff + r.sh db, none⟩) dLen (dc + r.xt ⟨db, doff, dsp⟩), .slice (some ⟨r.blk ab, aoff + r.sh ab, none⟩) sLen (sc + r.xt ⟨ab, aoff, asp⟩)]).run P w = .ok (goInt cs.length) (w.setCells (r.blk db) (doff + r.sh db) (cs.map (ren r))) := by
      have e0 : ∀ (ats : Array TypeId) ty args, ats[0]? = some t → Builtin.copy_ ats ty args = Builtin.copy_ #[t, ts.headD 0] 0 args := by
        intro ats ty args h0
        simp [Builtin.copy_, h0]
      rw [e0 _ _ _ (by simp), hrun]
      simp
    simp only [execOp, resolve, Sem.run_bind, Sem.run_pure, Result.andThen_ok, invoke, builtin, hargs', hrun']
    simp [goInt]
  · simp [IntKind.min, IntKind.max, IntKind.signed, IntKind.bits]; omega

/-- Bytes of a constant: the block bears a mark behind its cells. -/
theorem op_mark {o : Oper} {ev : Operand → Option Value} {hp : Hp} {src e : TypeId} {x : Operand} (ho : o.op = .convert src src x) (hu : P.underlying src = some (.slice e)) (he8 : P.underlying e = some (.int .u8))
    {a : Addr} {l c : Nat} (hx : ev x = some (.slice (some a) l c)) {ob : SObj} (hob : hp.get a.block = some ob) (hop : (exB ob.knd || opB ob.knd) = true) :
    OpSound P o ev hp hp.length ⟨.slice (some a) l c, [a.block], [(a.block, some ob)]⟩ := by
  intro D r g ac w K Q hrd hfr hc he hk
  obtain ⟨h1, h2⟩ := he x (by simp [ho, Op.operands]) _ hx
  have h2' := h2
  cases h2
  rename_i b off sp hD
  have hg : g (.bk b) = some ob := by rw [hrd b (List.mem_singleton.2 rfl)]; exact hob
  obtain ⟨arr, fz, ha, ht, hfits⟩ := hc.blk b ob hg
  have hf : fz.1 = fz.2 ∨ arr.size ≤ fz.1 := by
    unfold Fits at hfits
    unfold exB opB at hop
    cases hk : ob.knd <;> simp only [hk] at hfits hop
    · exact hfits.2.2.2
    · exact hfits.2.2
    all_goals cases hop
  have hfit2 : ∀ fz' : Nat × Nat, (fz'.1 = fz'.2 ∨ arr.size ≤ fz'.1) → Fits P r b ob arr.size fz' := by
    intro fz' h'
    unfold Fits at hfits ⊢
    unfold exB opB at hop
    cases hk : ob.knd <;> simp only [hk] at hfits hop ⊢
    · exact ⟨hfits.1, hfits.2.1, hfits.2.2.1, h'⟩
    · exact ⟨hfits.1, hfits.2.1, h'⟩
    all_goals cases hop
  obtain ⟨lo, hi⟩ := fz
  have hsh : w.shape? (r.blk b) = some (ob.elem, arr.size) := by simp [World.shape?, ha]
  have hrun : (execOp ac.eval o).run P w = .ok (.value (.slice (some ⟨r.blk b, off + r.sh b, none⟩) l (c + r.xt ⟨b, off, sp⟩))) (w.freeze ⟨r.blk b, arr.size, none⟩ 1) := by
    obtain ⟨dst', op, type, pos, after, guard⟩ := o
    simp only at ho
    subst ho
    simp [execOp, h1, convert, run_underlying hu, run_underlying he8, markStringish, shape, Sem.run, hsh, freeze]
  have hheap : ∀ k, (w.freeze ⟨r.blk b, arr.size, none⟩ 1).heap[k]? = if k = r.blk b then some (.cells arr ob.elem (if lo == hi then (arr.size, arr.size + 1) else (min lo arr.size, max hi (arr.size + 1)))) else w.heap[k]? := by
    intro k
    simp only [World.freeze, Nat.one_ne_zero, if_false, Array.getElem?_modify]
    by_cases hkb : r.blk b = k
    · subst hkb
      simp [ha]
    · simp [hkb, Ne.symm hkb]
  have hsame : ∀ c, apps (Eff.us ⟨.slice (some ⟨b, off, sp⟩) l c, [b], [(b, some ob)]⟩) g = g := by
    intro c
    funext l'
    cases l' with
    | tm t => rfl
    | bk d =>
      show (if d = b then some ob else g (.bk d)) = g (.bk d)
      split
      · rename_i hd; rw [hd, hg]
      · rfl
  have hcrel : CRel P D r g (w.freeze ⟨r.blk b, arr.size, none⟩ 1) := by
    refine ⟨fun d od hd => ?_, hc.dom, hc.ok, hc.inj, hc.glob⟩
    by_cases hdb : r.blk d = r.blk b
    · obtain rfl := hc.inj d b od ob hd hg hdb
      rw [hg] at hd
      cases hd
      refine ⟨arr, _, by rw [hheap, if_pos rfl], ht, hfit2 _ ?_⟩
      split
      · right; simp
      · rename_i hlh
        simp at hlh
        right
        simp at hf ⊢
        omega
    · obtain ⟨arr', fz', ha', rest⟩ := hc.blk d od hd
      exact ⟨arr', fz', by rw [hheap, if_neg hdb]; exact ha', rest⟩
  have hext : Ext D r g w r g (w.freeze ⟨r.blk b, arr.size, none⟩ 1) := by
    refine ⟨fun _ _ => Agree.refl _ _, fun d od hd => .inl ⟨d, od, hd, rfl⟩, fun k hk hown => ?_, by simp [World.freeze], rfl, rfl, rfl⟩
    rw [hheap, if_neg (fun e => hown b ob hg e.symm)]
  have := hk r _ (by rw [hsame]; exact hcrel.weaken In.of) (by rw [hsame]; exact hext) (h2'.mono In.of)
  simp only [Oper.wp, hrun, Oper.upon]
  simpa using this
end
end Go.Sx

/-
Shadow runs: every operation on memory that is taken.
-/
namespace Go.Sx
open Go
set_option linter.unusedVariables false
set_option linter.unusedSimpArgs false
set_option linter.unusedSectionVars false
variable [Globs]
section
variable {P : Program}

theorem get_lt {hp : Hp} {b : Nat} {ob : SObj} (h : hp.get b = some ob) : b < hp.length := by
  rcases Nat.lt_or_ge b hp.length with hl | hl
  · exact hl
  · simp [Hp.get, List.getElem?_eq_none hl] at h
theorem hi_new (v : Value) (rs : List Nat) (n : Nat) (ob : Option SObj) : (Eff.mk v rs [(n, ob)]).hi n = n + 1 := by simp [Eff.hi]
theorem hi_none (v : Value) (rs : List Nat) (n : Nat) : (Eff.mk v rs []).hi n = n := by simp [Eff.hi]
theorem hi_old (v : Value) (rs : List Nat) (n b : Nat) (ob : Option SObj) (h : b < n) : (Eff.mk v rs [(b, ob)]).hi n = n := by
  have : ¬ n ≤ b := by omega
  simp [Eff.hi, this]
theorem hi_both (v : Value) (rs : List Nat) (n b : Nat) (o1 o2 : Option SObj) (h : b < n) : (Eff.mk v rs [(b, o1), (n, o2)]).hi n = n + 1 := by
  have : ¬ n ≤ b := by omega
  simp [Eff.hi, this]

theorem memOp_append {o : Oper} {ev : Operand → Option Value} {hp : Hp} {E : Eff} {c : Call} (ho : o.op = .call c) (hcal : c.callee = .builtin .append) (h : memOp P ev hp o.op = some E) : OpSound P o ev hp (E.hi hp.length) E := by
  rw [ho] at h
  simp only [memOp, hcal] at h
  split at h
  · rename_i t t' base sLen sCap xb m xc hcal' hats hargs
    split at h
    · cases h
    · rename_i htt
      simp at htt
      subst htt
      split at h
      · rename_i e hu
        split at h
        · rename_i i hi
          split at h
          · cases h
          · rename_i hcond
            simp only [Bool.and_eq_true, decide_eq_true_eq] at hcond
            obtain ⟨⟨hpos, hby⟩, hmax⟩ := hcond
            split at h
            · cases h
            · rename_i z hz
              split at h
              · cases h
              · rename_i hzl
                simp at hzl
                split at h
                · cases h
                · rename_i rs news hn
                  split at h
                  · cases h
                  · rename_i h1
                    have hA : ∀ b : Nat, AppArgs P o ev t e (.slice base sLen sCap) (.slice xb m xc) i z := fun _ => ⟨⟨c, ho, hcal, hats, hargs⟩, hu, hi, hpos, hz, hzl⟩
                    split at h
                    · split at h
                      · cases h
                      · rename_i h0
                        simp at h0
                        obtain ⟨rfl, rfl⟩ := h0
                        split at h
                        · rename_i hm
                          simp at hm
                          subst hm
                          cases h
                          rw [hi_none]
                          exact app_nil0 (hA 0)
                        · rename_i hm
                          simp at hm
                          cases h
                          rw [hi_new]
                          exact app_nil (hA 0) hm (by omega) (by simpa using hby) hn
                    · rename_i a
                      split at h
                      · rename_i hm
                        simp at hm
                        subst hm
                        split at h
                        · rename_i hle
                          simp at hle
                          cases h
                          rw [hi_none]
                          exact app_open0 (hA 0) hle _
                        · cases h
                      · rename_i hm
                        simp at hm
                        split at h
                        · rename_i hroom
                          simp at hroom
                          split at h
                          · cases h
                          · rename_i ob hob
                            split at h
                            · rename_i hfit
                              simp only [Bool.and_eq_true, decide_eq_true_eq] at hfit
                              cases h
                              rw [hi_old _ _ _ _ _ (get_lt hob)]
                              exact app_room (hA 0) hn h1 hob hm hroom hfit.1 hfit.2
                            · cases h
                        · rename_i hroom
                          simp at hroom
                          split at h
                          · rename_i xs hex
                            split at h
                            · rename_i os olds ho2
                              cases h
                              rw [hi_new]
                              exact app_grow (hA 0) hmax hby hn hex (by omega) ho2 hm
                            · cases h
                          · split at h
                            · cases h
                            · rename_i hnex _ ob hob
                              split at h
                              · cases h
                              · rename_i hc4
                                simp only [Bool.and_eq_true, decide_eq_true_eq] at hc4
                                obtain ⟨⟨⟨⟨q1, q2⟩, q3⟩, q4⟩, q5⟩ := hc4
                                cases h
                                rw [hi_both _ _ _ _ _ _ (get_lt hob)]
                                subst q2
                                obtain ⟨ab, aoff, asp⟩ := a
                                simp only at q1
                                subst q1
                                cases asp with
                                | some k => simp [exactB] at hnex
                                | none => exact app_open (hA 0) hmax hby hn h1 hob q5 q3 q4 hm
        · cases h
      · cases h
  · rename_i hcal' _ _; cases hcal'
  · cases h

theorem memOp_op {o : Oper} {ev : Operand → Option Value} {hp : Hp} {E : Eff} (h : memOp P ev hp o.op = some E) : OpSound P o ev hp (E.hi hp.length) E := by
  have h0 := h
  generalize hop : o.op = op at h
  cases op <;> (try (simp only [memOp] at h; cases h; done))
  case alloc e =>
    simp only [memOp] at h
    split at h
    · rename_i z hz
      cases h
      rw [hi_new]
      exact op_alloc hop hz
    · cases h
  case box e x =>
    simp only [memOp] at h
    split at h
    · rename_i v hv
      cases h
      rw [hi_new]
      exact op_box hop hv
    · cases h
  case load t x =>
    simp only [memOp] at h
    split at h
    · rename_i a hx
      split at h
      · cases h
      · rename_i d hu
        split at h
        · rename_i hd
          split at h
          · rename_i cs hr
            cases h
            rw [hi_none]
            exact op_load_agg hop hx hu hd hr
          · cases h
        · rename_i hd
          split at h
          · rename_i v hr
            cases h
            rw [hi_none]
            exact op_load_one hop hx hu hd hr
          · cases h
    · cases h
  case store t x y =>
    simp only [memOp] at h
    split at h
    · rename_i a hx
      split at h
      · rename_i v hy
        split at h
        · rename_i i hi
          split at h
          · rename_i hcond
            simp only [Bool.and_eq_true, decide_eq_true_eq] at hcond
            split at h
            · rename_i ob hob
              split at h
              · rename_i hl
                simp only [Bool.and_eq_true, decide_eq_true_eq] at hl
                cases h
                rw [hi_old _ _ _ _ _ (get_lt hob)]
                exact op_store hop hx hy hi hcond.1 hcond.2 hob hl.1 hl.2
              · cases h
            · cases h
          · cases h
        · cases h
      · cases h
    · cases h
  case buildSlice t len parts =>
    simp only [memOp] at h
    split at h
    · rename_i e hu
      split at h
      · rename_i i hi
        split at h
        · rename_i hl
          simp at hl
          split at h
          · rename_i z hz
            split at h
            · rename_i ps hps
              split at h
              · rename_i hzl
                simp at hzl
                split at h
                · rename_i cs hf
                  cases h
                  rw [hi_new]
                  exact op_buildSlice hop hu hi hl hz hzl hps hf
                · cases h
              · cases h
            · cases h
          · cases h
        · cases h
      · cases h
    · cases h
  case makeSlice t l c =>
    simp only [memOp] at h
    split at h
    · rename_i e hu
      split at h
      · rename_i i hi
        split at h
        · rename_i ln kc cn hl hc
          split at h
          · rename_i hcond
            simp only [Bool.and_eq_true, decide_eq_true_eq] at hcond
            obtain ⟨⟨⟨q1, q2⟩, q3⟩, q4⟩ := hcond
            split at h
            · rename_i z hz
              split at h
              · rename_i hzl
                simp at hzl
                cases h
                rw [hi_new]
                exact op_makeSlice hop hu hi hl hc q1 q2 q3 q4 hz hzl
              · cases h
            · cases h
          · cases h
        · cases h
      · cases h
    · cases h
  case slice t x lo hi mx =>
    cases mx with
    | some m => simp only [memOp] at h; cases h
    | none =>
      simp only [memOp] at h
      split at h
      · rename_i e hu
        split at h
        · rename_i a len cap hx
          split at h
          · cases h
          · rename_i hsp
            split at h
            · cases h
            · rename_i lo' hlo
              split at h
              · cases h
              · rename_i hi' hhi
                split at h
                · cases h
                · rename_i hinf
                  split at h
                  · cases h
                  · rename_i hh hb1
                    split at h
                    · cases h
                    · rename_i ll hb2
                      split at h
                      · cases h
                      · rename_i hlc
                        simp at hlc
                        subst hlc
                        obtain ⟨ab, aoff, asp⟩ := a
                        simp only at hsp
                        subst hsp
                        split at h
                        · rename_i ob hob
                          split at h
                          · rename_i hex
                            cases h
                            rw [hi_none]
                            exact op_slice_ex hop hu hinf hx hlo hhi hob hex hb1 hb2
                          · cases h
                            rw [hi_new]
                            exact op_slice_tail hop hu hinf hx hlo hhi hb1 hb2
                        · cases h
                          rw [hi_new]
                          exact op_slice_tail hop hu hinf hx hlo hhi hb1 hb2
        · cases h
      · cases h
  case convert src dst x =>
    simp only [memOp] at h
    split at h
    · rename_i e1 e a l c hs hd hx
      split at h
      · rename_i hsd
        simp at hsd
        subst hsd
        split at h
        · rename_i he8
          split at h
          · rename_i ob hob
            split at h
            · rename_i hkn
              cases h
              rw [hi_old _ _ _ _ _ (get_lt hob)]
              exact op_mark hop hd he8 hx hob hkn
            · cases h
          · cases h
        · cases h
      · cases h
    · rename_i e l c hs hd hx
      split at h
      · rename_i he8
        cases h
        rw [hi_none]
        exact op_string_nil hop hs hd he8 hx
      · cases h
    · rename_i e a l c hs hd hx
      split at h
      · rename_i he8
        split at h
        · rename_i cs hr
          split at h
          · rename_i bs hbs
            cases h
            rw [hi_none]
            exact op_string hop hs hd he8 hx hr hbs
          · cases h
        · cases h
      · cases h
    · cases h
  case call c =>
    by_cases hcal : c.callee = .builtin .append
    · exact memOp_append hop hcal h0
    · simp only [memOp] at h
      split at h
      · rename_i hcal' _ _; exact absurd hcal' hcal
      · rename_i t ts d dLen dc a sLen sc hcal' hats hargs
        split at h
        · rename_i e hu
          split at h
          · rename_i i hi
            split at h
            · cases h
            · rename_i hsz
              simp at hsz
              split at h
              · cases h
              · rename_i cs hr
                split at h
                · cases h
                · rename_i h1
                  simp only [Bool.and_eq_true, decide_eq_true_eq] at h1
                  split at h
                  · cases h
                  · rename_i ob hob
                    split at h
                    · cases h
                    · rename_i hfit
                      simp only [Bool.and_eq_true, decide_eq_true_eq] at hfit
                      cases h
                      rw [hi_old _ _ _ _ _ (get_lt hob)]
                      exact op_copy hop hcal' hats hargs hu hi hsz hr h1.1 h1.2 hob hfit.1 hfit.2
          · cases h
        · cases h
      · cases h
end
end Go.Sx
