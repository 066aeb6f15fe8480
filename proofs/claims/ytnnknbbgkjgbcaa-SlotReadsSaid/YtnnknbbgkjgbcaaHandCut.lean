/-
num.Cut: what the call computes, as plain Lean, and that the call does so: its parts lie in new memory of the call's own that nothing froze.
-/
import Derived.Test.YtnnknbbgkjgbcaaHandNum
namespace Go.Proofs.Ytnnknbbgkjgbcaa
open Go.RowKit Go.Proofs.YtnnknbbgkjgbcaaW.PrintWords Go.Proofs.YtnnknbbgkjgbcaaW.PrintLast Go.Proofs.YtnnknbbgkjgbcaaW.PrintMore
set_option linter.unusedVariables false
set_option linter.unusedSimpArgs false

/-- Parts, one behind the other. -/
def cutGo : List Int → List Int → List (List Int)
  | [], _ => []
  | n :: t, b => b.take n.toNat :: cutGo t (b.drop n.toNat)
def cutR (b sizes : List Int) : List (List Int) × Int :=
  if (sizeR sizes).2 ≠ 0 then ([], (sizeR sizes).2) else if (sizeR sizes).1 ≠ (b.length : Int) then ([], 10) else (cutGo sizes b, 0)
def num_Cut.f (b sizes : List Int) : Option (List (List Int) × Int) := some (cutR b sizes)

theorem cutGo_step {sizes : List Int} {k : Nat} (h : k < sizes.length) (b : List Int) : cutGo (sizes.drop k) b = b.take (rd sizes k).toNat :: cutGo (sizes.drop (k + 1)) (b.drop (rd sizes k).toNat) := by
  rw [List.drop_eq_getElem_cons h, cutGo]
  have : rd sizes k = sizes[k] := by simp [rd, List.getD_eq_getElem?_getD, List.getElem?_eq_getElem h]
  rw [this]

theorem numSum_le : ∀ (l : List Int) (s t : Int), numSum s l = some t → s ≤ t := by
  intro l
  induction l with
  | nil => intro s t h; cases h; exact Int.le_refl _
  | cons n l ih =>
    intro s t h
    rw [numSum] at h
    by_cases hc : n < 0 ∨ 65536 - s < n
    · rw [if_pos hc] at h; cases h
    · rw [if_neg hc] at h
      have := ih _ _ h
      omega

theorem add_zero' (A : Option Addr) : A.map (·.add 0) = A := by
  cases A with
  | none => rfl
  | some a => rfl

theorem run_cut_cap {P : Program} (t e : TypeId) {i : TypeInfo} (ht : P.underlying t = some (.slice e)) (hi : P.info? e = some i) (hsz : i.size = 1) (A : Option Addr) (n c m : Nat) (hm : m ≤ c) (W : World) :
    (Instr.slice t (.slice A n c) none (some (.int .i64 (m : Int))) (some (.int .i64 (m : Int)))).run P W = .ok (.slice A m m) W := by
  have hel : P.elem t = e := by simp [Program.elem, ht]
  have hu : P.underlying t = some (.slice (P.elem t)) := by rw [hel]; exact ht
  simp [Instr.slice, run_underlying hu, Instr.sliceBounds, run_sliceBound, sliced, hm, add_zero', hel, sizeOf, typeInfo, hi, hsz, Result.andThen]

/-- A row of the call's own whose elements lead into S alone. -/
def NP (w : World) (base : Nat) (S : Nat → Prop) (v : Value) (xs : List (List Int)) : Prop :=
  ∃ rows : List (List Value), rows.length = xs.length ∧ (Kd.raw 1).R 28 w base (fun k => some k = v.ownBlock) v rows ∧
    ∀ (j : Nat) (x : List Int) (c : List Value), xs[j]? = some x → rows[j]? = some c → Kd.FK (Kd.slice 5 (Kd.int .u8)) w S x c

section
variable {P : Program} {ops : Array Oper} {rest : List Oper} {o : Oper} {a : Act} {Q : Exit → Act → World → Prop}
theorem NP_append {w0 W : World} (base : Nat) (hgd : o.guard = none) (s x : Operand) (t : TypeId) (z : Value) (bytes : Nat)
    (ho : o.op = .call { callee := .builtin .append, args := #[s, x], argTypes := #[t, t] })
    (ht : P.underlying t = some (.slice 28)) (hinfo : (P.info? 28).map (fun i => (i.zero, i.size, i.bytes)) = some (some z, 1, bytes)) (hz : z.cells.size = 1) (hb0 : 0 < bytes)
    (v : Value) (xs : List (List Int)) (p : List Int) (cs : List Value) (S : Nat → Prop) (hs : a.eval s = v) (hx : a.eval x = .slice (some ⟨W.heap.size, 0, none⟩) 1 1) (hp : Kd.FK (Kd.slice 5 (Kd.int .u8)) W S p cs)
    (hS : ∀ k, S k → some k ≠ v.ownBlock)
    (HO : NP W base S v xs) (HB : Below base w0 W) (hbase : base ≤ W.heap.size) (hl : (xs.length + 1) * bytes ≤ 140737488355328)
    (h : ∀ v1 w1, NP w1 base S v1 (xs ++ [p]) → Below base w0 w1 → W.grownBy w1 v.ownBlock → (v1.ownBlock = v.ownBlock ∨ ∃ b, v1.ownBlock = some b ∧ W.heap.size ≤ b) → wpList P ops Q rest (a.put o.dst v1) w1) :
    wpList P ops Q (o :: rest) a (W.alloc (.cells cs.toArray 28)) := by
  obtain ⟨rows, hlr, hR, hf⟩ := HO
  refine Kd.R_append (Kd.raw 1) base hgd s x t 28 z bytes ho ht hinfo hz (by decide) hb0 v rows cs cs (fun _ => True) (fun _ => False) hs hx (Kd.FK_raw hp) (fun _ hk => hk.elim) (fun _ _ => trivial) (Kd.raw_any hR) HB hbase (by rw [hlr]; exact hl) ?_
  intro v1 w1 hr hb hg hat
  have step : ∀ {y : List Int} {c : List Value}, Kd.FK (Kd.slice 5 (Kd.int .u8)) W S y c → Kd.FK (Kd.slice 5 (Kd.int .u8)) w1 S y c := fun hq => Kd.FK_step hq (fun k hk hlt => hg.block k hlt (hS k hk))
  refine h v1 w1 ⟨rows ++ [cs], by rw [List.length_append, List.length_append, hlr]; rfl, Kd.raw_tight hr, fun j y c hy hc => ?_⟩ hb hg hat
  rcases Nat.lt_or_ge j xs.length with hlt | hge
  · rw [List.getElem?_append_left hlt] at hy
    rw [List.getElem?_append_left (by omega)] at hc
    exact step (hf j y c hy hc)
  · rw [List.getElem?_append_right hge] at hy
    rw [List.getElem?_append_right (by omega), hlr] at hc
    rcases hj : j - xs.length with _ | j'
    · rw [hj] at hy hc
      simp only [List.getElem?_cons_zero, Option.some.injEq] at hy hc
      rw [← hy, ← hc]; exact step hp
    · rw [hj] at hy
      simp at hy
end
theorem NP_nil (w : World) (base : Nat) (S : Nat → Prop) : NP w base S (.slice none 0 0) [] := ⟨[], rfl, Kd.R_nil _ _ _ _ _, fun j x c hx => by simp at hx⟩
theorem NP_alloc {w : World} {base : Nat} {S : Nat → Prop} {v : Value} {xs : List (List Int)} (h : NP w base S v xs) (o : Obj) : NP (w.alloc o) base S v xs := by
  obtain ⟨rows, hl, hR, hf⟩ := h
  exact ⟨rows, hl, Kd.R_alloc hR o, fun j x c hx hc => Kd.FK_below (hf j x c hx hc) (below_alloc (Below.refl _ _) o)⟩
/-- Of another type than bytes, so it is not the bytes' block. -/
theorem NP_ne {w : World} {base : Nat} {S : Nat → Prop} {v : Value} {xs : List (List Int)} (h : NP w base S v xs) {g : Nat} {cells : Array Value} (hb : w.heap[g]? = some (.cells cells 5 (0, 0))) : some g ≠ v.ownBlock := by
  obtain ⟨rows, hl, hR, hf⟩ := h
  exact Kd.R_ne hR hb (by decide)
/-- The row as one that is only read: all it leads to is young and nothing froze it. -/
theorem NP_V {w : World} {base : Nat} {S : Nat → Prop} {v vc : Value} {xs : List (List Int)} {b : List Int} {ok : Nat → Prop} (h : NP w base S v xs) (hc : Kd.R (Kd.int .u8) 5 w base ok vc b) (hS : ∀ k, S k → vc.ownBlock = some k) :
    Kd.V (Kd.slice 5 (Kd.int .u8)) 28 w base (fun k => base ≤ k ∧ ∃ cells q, w.heap[k]? = some (.cells cells q (0, 0))) v xs := by
  have hne : ∀ k, S k → some k ≠ v.ownBlock := fun k hk => by
    obtain ⟨cells, hcl⟩ := Kd.R_typed hc k (hS k hk)
    exact NP_ne h hcl
  have hn : Kd.N (Kd.slice 5 (Kd.int .u8)) 28 w base (fun k => some k = v.ownBlock ∨ S k) v xs := by
    obtain ⟨rows, hl, hR, hf⟩ := h
    exact ⟨fun k hk => .inl hk.symm, rows, hl, hR, fun j x c hx hcc => Kd.FK_mono (hf j x c hx hcc) (fun k hk => ⟨.inr hk, hne k hk⟩)⟩
  have ho := Kd.N_typed hn
  have hb := Kd.N_base hn
  refine Kd.N_V (Kd.N_mono hn ?_)
  rintro k (hk | hk)
  · obtain ⟨cells, e⟩ := ho k hk.symm
    exact ⟨hb k hk.symm, cells, _, e⟩
  · obtain ⟨cells, e⟩ := Kd.R_typed hc k (hS k hk)
    exact ⟨Kd.R_base hc k (hS k hk), cells, _, e⟩

theorem run_cut_from {P : Program} (t e : TypeId) {i : TypeInfo} (ht : P.underlying t = some (.slice e)) (hi : P.info? e = some i) (hsz : i.size = 1) (A : Option Addr) (n c m : Nat) (hm : m ≤ n) (W : World) :
    (Instr.slice t (.slice A n c) (some (.int .i64 (m : Int))) none none).run P W = .ok (.slice (if c = m then A else A.map (·.add m)) (n - m) (c - m)) W := by
  have hel : P.elem t = e := by simp [Program.elem, ht]
  have hu : P.underlying t = some (.slice (P.elem t)) := by rw [hel]; exact ht
  rw [run_slice_l W t A n c hu .i64 (m : Int) (Int.natCast_nonneg _) (by omega), hel]
  simp [sizeOf, typeInfo, hi, hsz, sliced, Result.andThen]

theorem info28 : (Try.prog.info? 28).map (fun i => (i.zero, i.size, i.bytes)) = some (some (.slice none 0 0), 1, 24) := by kernel_rfl

/-- What the walk needs of the parts' sum. -/
theorem sizeR_sum {sizes : List Int} {s : Int} (h : sizeR sizes = (s, 0)) : sizes.length ≤ 64 ∧ numSum 0 sizes = some s := by
  unfold sizeR at h
  by_cases hl : 64 < sizes.length
  · rw [if_pos hl] at h; cases h
  · rw [if_neg hl] at h
    cases e : numSum 0 sizes with
    | none => rw [e] at h; cases h
    | some t => rw [e] at h; cases h; exact ⟨by omega, rfl⟩

set_option maxHeartbeats 4000000 in
theorem num_Cut.calls2 (A0 : Option Addr) (c0 : Nat) (l0 : List Int) (A1 : Option Addr) (c1 : Nat) (l1 : List Int) (r1 : List (List Int)) (r2 : Int) (w : World) (hr0 : Kd.C (Kd.int .u8) w A0 l0.length l0) (hc0 : l0.length ≤ c0)
    (hr1 : Kd.C (Kd.int .i64) w A1 l1.length l1) (hc1 : l1.length ≤ c1) (h : num_Cut.f l0 l1 = some (r1, r2)) :
    Calls Try.prog 63 #[.slice A0 l0.length c0, .slice A1 l1.length c1] w fun e w' => ∃ v0_ : Value, e = .returned (.tuple #[v0_, .int .i64 r2]) ∧
      Kd.V (Kd.slice 5 (Kd.int .u8)) 28 w' w.heap.size (fun k => w.heap.size ≤ k ∧ ∃ cells q, w'.heap[k]? = some (.cells cells q (0, 0))) v0_ r1 ∧ Below w.heap.size w w' := by
  have HR0 := Aside0.mk hr0
  have HC0 := Aside0.mk hc0
  have HR1 := Aside0.mk hr1
  have HC1 := Aside0.mk hc1
  clear hr0 hc0 hr1 hc1
  obtain ⟨s, e, hs⟩ : ∃ s e, sizeR l1 = (s, e) := ⟨_, _, rfl⟩
  have HS : Aside0 (num_Size.f l1 = some (s, e)) := ⟨by rw [num_Size.f, hs]⟩
  rw [num_Cut.f, cutR, hs] at h
  simp only at h
  by_cases he : e = 0
  · subst he
    rw [if_neg (by simp)] at h
    have hsum := sizeR_sum hs
    by_cases hb : s = (l0.length : Int)
    · subst hb
      rw [if_neg (by simp)] at h
      simp only [Option.some.injEq, Prod.mk.injEq] at h
      obtain ⟨hr, rfl⟩ := h
      have HX := Aside0.mk hr
      have HSum := Aside0.mk hsum.2
      have HLen := Aside0.mk hsum.1
      have hlen : l0.length ≤ 140737488355328 := by
        have h65 : ∀ (l : List Int) (s t : Int), 0 ≤ s → s ≤ 65536 → numSum s l = some t → t ≤ 65536 := by
          intro l
          induction l with
          | nil => intro s t h0 h1 h; cases h; exact h1
          | cons n l ih =>
            intro s t h0 h1 h
            rw [numSum] at h
            by_cases hc : n < 0 ∨ 65536 - s < n
            · rw [if_pos hc] at h; cases h
            · rw [if_neg hc] at h; exact ih _ _ (by omega) (by omega) h
        have := h65 _ _ _ (by omega) (by omega) hsum.2
        omega
      have HCl : Aside0 (slices_Clone_byte_byte.f l0 = some l0) := ⟨by rw [slices_Clone_byte_byte.f, if_pos hlen]⟩
      clear hr hsum hs
      have hq1 : ((l0.length : Int) != (l0.length : Int)) = false := by simp
      go_enter Try.func63, Try.ntmps63
      go_wp2_with (first | (go_at_call 70; refine (num_Size.calls _ _ _ _ _ _ HR1.out HC1.out HS.out).mono ?_; rintro e w2 ⟨rfl, hb2⟩; have HB2 := Aside0.mk hb2; clear hb2) | (go_at_call 50; refine (slices_Clone_byte_byte.calls _ _ _ _ _ (Kd.C_below HR0.out HB2.out) HC0.out HCl.out).mono ?_; rintro e w3 ⟨vc, rfl, hvc, hb3⟩; obtain ⟨Ac, cc, rfl⟩ := Kd.R_slice hvc; have HVC := Aside0.mk (Kd.R_lower hvc (below_size HB2.out)); have HB3 := Aside0.mk (below_step HB2.out hb3); clear hvc hb3 HB2))
      go_loopg [8, 9, 30] l1.length (fun kq v8 v9 v30 w' => ∃ (k s : Nat) (outs : List (List Int)) (A : Option Addr) (n c : Nat), v30 = .int .i64 k ∧ v9 = .slice A n c ∧ Aside0 (kq + k = l1.length) ∧ Aside0 (numSum (s : Int) (l1.drop k) = some (l0.length : Int)) ∧
        Aside0 (outs ++ cutGo (l1.drop k) (l0.drop s) = r1) ∧ Aside0 (outs.length = k ∧ n + s = l0.length ∧ n ≤ c) ∧ Aside0 (Kd.F (Kd.int .u8) w' (fun j => (Value.slice Ac l0.length cc).ownBlock = some j) A n (l0.drop s)) ∧
        Aside0 (NP w' w.heap.size (fun j => (Value.slice Ac l0.length cc).ownBlock = some j) v8 outs) ∧ Aside0 (Kd.R (Kd.int .u8) 5 w' w.heap.size (fun _ => True) (.slice Ac l0.length cc) l0) ∧ Aside0 (Below w.heap.size w w'))
      case atStart =>
        have hF := Kd.R_F (Kd.R_mono (Kd.R_tight rfl HVC.out) (ok' := fun j => (Value.slice Ac l0.length cc).ownBlock = some j) (fun _ hk => hk.symm))
        have hn := (Kd.R_reads' HVC.out).2.1
        exact ⟨0, 0, [], Ac, l0.length, cc, rfl, rfl, ⟨rfl⟩, ⟨by simpa using HSum.out⟩, ⟨by simpa using HX.out⟩, ⟨rfl, by simp, hn⟩, ⟨by simpa using hF⟩, ⟨NP_nil _ _ _⟩, HVC, HB3⟩
      case round =>
        clear HVC HB3
        obtain ⟨k, s, outs, A, n, c, rfl, rfl, HK, HN, HO, HL, HF, HP, HVC, HB⟩ := hrel
        by_cases hk : k < l1.length
        · have hk1 : decide ((k : Int) < (l1.length : Int)) = true := decide_eq_true (by omega)
          obtain ⟨ad, e1, hx0⟩ := Kd.at_int (Kd.C_below HR1.out HB.out) (k : Int) (by omega) (by omega)
          cases e1
          have hx : wr.cell? (ad.add k) = some (.int .i64 (rd l1 k)) := by simpa using hx0
          clear hx0
          have hstep := (numSum_step hk (s : Int)).symm.trans HN.out
          have hcase : ¬ (rd l1 k < 0 ∨ 65536 - (s : Int) < rd l1 k) := fun hc => by rw [if_pos hc] at hstep; cases hstep
          rw [if_neg hcase] at hstep
          obtain ⟨m, hm⟩ := Int.eq_ofNat_of_zero_le (show 0 ≤ rd l1 k by omega)
          have hle := numSum_le _ _ _ hstep
          have hl := HL.out
          have hmn : m ≤ n := by rw [hm] at hle; omega
          have HN' : Aside0 (numSum ((s + m : Nat) : Int) (l1.drop (k + 1)) = some (l0.length : Int)) := ⟨by rw [hm] at hstep; simpa using hstep⟩
          have HO' : Aside0 ((outs ++ [(l0.drop s).take m]) ++ cutGo (l1.drop (k + 1)) (l0.drop (s + m)) = r1) := ⟨by
            have := HO.out
            rw [cutGo_step hk, hm] at this
            simpa [List.drop_drop, Nat.add_comm] using this⟩
          have hdl : (l0.drop s).length = n := by rw [List.length_drop]; omega
          have hF := HF.out
          rw [← hdl] at hF
          have hF1 := Kd.F_take hF (m := m) (by omega)
          have hF2 := Kd.F_cut hF (m := m) (c := c) (by omega) (by omega)
          have hl1 : ((l0.drop s).take m).length = m := by rw [List.length_take]; omega
          have hl2 : ((l0.drop s).drop m).length = n - m := by rw [List.length_drop]; omega
          rw [hl1] at hF1
          rw [hl2, List.drop_drop] at hF2
          have HE : Aside0 (Kd.FK (Kd.slice 5 (Kd.int .u8)) wr (fun j => (Value.slice Ac l0.length cc).ownBlock = some j) ((l0.drop s).take m) [.slice A m m]) := ⟨by
            have := Kd.FK_slice_mk (e := 5) (c := m) (l := (l0.drop s).take m) (by omega) (by rw [hl1]; exact hF1)
            rwa [hl1] at this⟩
          have HF2 : Aside0 (Kd.F (Kd.int .u8) wr (fun j => (Value.slice Ac l0.length cc).ownBlock = some j) (if c = m then A else A.map (·.add m)) (n - m) (l0.drop (s + m))) := ⟨by simpa [Kd.int, Kd.scalar, Nat.add_comm] using hF2⟩
          have hne : Aside0 (∀ j, (Value.slice Ac l0.length cc).ownBlock = some j → ∀ v, NP wr w.heap.size (fun j => (Value.slice Ac l0.length cc).ownBlock = some j) v outs → some j ≠ v.ownBlock) := ⟨fun j hj v hv => by
            obtain ⟨cells, hcl⟩ := Kd.R_typed HVC.out j hj
            exact NP_ne hv hcl⟩
          have HM := Aside0.mk hmn
          obtain ⟨i0, hi0, _, hsz0, _⟩ := info_parts info5
          have hcut1 := fun W => run_cut_cap (P := Try.prog) 28 5 Try.underlying28 hi0 hsz0 A n c m (by omega) W
          have hcut2 := fun W => run_cut_from (P := Try.prog) 28 5 Try.underlying28 hi0 hsz0 A n c m hmn W
          rw [hm] at hx
          generalize hA' : (if c = m then A else A.map (·.add m)) = A' at hcut2 HF2
          clear hA'
          have HLe := Aside0.mk hle
          clear hcase hstep hle hl hmn hdl hF hF1 hF2 hl1 hl2 hi0 hsz0 HF HN HO hm
          go_wp2_with (at_builtin; refine NP_append (w0 := w) w.heap.size rfl (.tmp 34) (.tmp 39) 98 (.slice none 0 0) 24 rfl Try.underlying98 info28 (by decide) (by omega) _ outs ((l0.drop s).take m) [.slice A m m] (fun j => (Value.slice Ac l0.length cc).ownBlock = some j) rfl rfl HE.out (fun j hj => hne.out j hj _ HP.out) HP.out HB.out (below_size HB.out) ?aL ?_; (case aL => have := HL.out; have := HLen.out; omega); intro v1 w1 hp hb hg hat; have HP1 := Aside0.mk hp; have HB1 := Aside0.mk hb; have HF3 := Aside0.mk (Kd.F_grown HF2.out hg (fun j hj => hne.out j hj _ HP.out)); have HVC1 := Aside0.mk (Kd.R_grown2 HVC.out rfl hg (fun j hj e => hne.out j e.symm _ HP.out hj.symm)); clear hp hb hg hat HP HB HVC HF2 HE hne)
          go_roundg (gk - 1)
          case measure => have := HK.out; omega
          case rel => exact ⟨k + 1, s + m, outs ++ [(l0.drop s).take m], _, n - m, c - m, by have := HLen.out; rw [show wrap64 ((k : Int) + 1) = ((k + 1 : Nat) : Int) from by unfold wrap64; omega], rfl, ⟨by have := HK.out; omega⟩, HN', HO', ⟨by have := HL.out; have := HM.out; rw [List.length_append]; refine ⟨by simp; omega, by omega, by omega⟩⟩, HF3, HP1, HVC1, HB1⟩
        · have hk1 : decide ((k : Int) < (l1.length : Int)) = false := decide_eq_false (by omega)
          have HR : Aside0 (outs = r1) := ⟨by have := HO.out; rw [List.drop_of_length_le (by omega), cutGo] at this; simpa using this⟩
          have HVV := Aside0.mk (NP_V HP.out HVC.out (fun _ hk => hk))
          clear HF HN HO
          go_wp2
          go_ret2
          exact ⟨_, rfl, by rw [← HR.out]; exact HVV.out, HB.out⟩
    · have HX : Aside0 ([] = r1) := ⟨by rw [if_pos hb] at h; cases h; rfl⟩
      have hr2 : r2 = 10 := by rw [if_pos hb] at h; cases h; rfl
      subst hr2
      have hq1 : (s != (l0.length : Int)) = true := by simpa using hb
      clear h hsum hs hb
      go_enter Try.func63, Try.ntmps63
      go_wp2_with (go_at_call 70; refine (num_Size.calls _ _ _ _ _ _ HR1.out HC1.out HS.out).mono ?_; rintro e w2 ⟨rfl, hb2⟩; have HB2 := Aside0.mk hb2; clear hb2)
      go_ret2
      exact ⟨_, rfl, by rw [← HX.out]; exact Kd.V_nil _ _ _ _ _, HB2.out⟩
  · have HX : Aside0 ([] = r1) := ⟨by rw [if_pos he] at h; cases h; rfl⟩
    have hr2 : e = r2 := by rw [if_pos he] at h; cases h; rfl
    subst hr2
    have hq1 : (e != 0) = true := by simpa using he
    clear h hs he
    go_enter Try.func63, Try.ntmps63
    go_wp2_with (go_at_call 70; refine (num_Size.calls _ _ _ _ _ _ HR1.out HC1.out HS.out).mono ?_; rintro e w2 ⟨rfl, hb2⟩; have HB2 := Aside0.mk hb2; clear hb2)
    go_ret2
    exact ⟨_, rfl, by rw [← HX.out]; exact Kd.V_nil _ _ _ _ _, HB2.out⟩

theorem num_Cut.calls (A0 : Option Addr) (c0 : Nat) (l0 : List Int) (A1 : Option Addr) (c1 : Nat) (l1 : List Int) (r1 : List (List Int)) (r2 : Int) (w : World) (hr0 : Kd.C (Kd.int .u8) w A0 l0.length l0) (hc0 : l0.length ≤ c0)
    (hr1 : Kd.C (Kd.int .i64) w A1 l1.length l1) (hc1 : l1.length ≤ c1) (h : num_Cut.f l0 l1 = some (r1, r2)) :
    Calls Try.prog 63 #[.slice A0 l0.length c0, .slice A1 l1.length c1] w fun e w' => ∃ v0_ : Value, e = .returned (.tuple #[v0_, .int .i64 r2]) ∧
      Kd.V (Kd.slice 5 (Kd.int .u8)) 28 w' w.heap.size (fun k_ => w.heap.size ≤ k_) v0_ r1 ∧ Below w.heap.size w w' :=
  (num_Cut.calls2 A0 c0 l0 A1 c1 l1 r1 r2 w hr0 hc0 hr1 hc1 h).mono fun e w' ⟨v, he, hv, hb⟩ => ⟨v, he, Kd.V_mono hv (fun _ hk => hk.1), hb⟩

end Go.Proofs.Ytnnknbbgkjgbcaa
