/-
num.Size, num.numbers (with slices.ContainsFunc, slices.IndexFunc), slices.Clone of bytes: what each call computes, as plain Lean, and that the call does so.
-/
import Derived.Test.YtknmokpnkcckeaaProg
import Derived.Test.YtknmokpnkcckeaaHandWords
import Derived.Lib.SliceRun
namespace Go.Proofs.Ytknmokpnkcckeaa
open Go.RowKit Go.Proofs.YtknmokpnkcckeaaW.PrintWords Go.Proofs.YtknmokpnkcckeaaW.PrintLast Go.Proofs.YtknmokpnkcckeaaW.PrintMore
set_option linter.unusedVariables false
set_option linter.unusedSimpArgs false

/-! ### num.Size -/
/-- The sum of sizes, on top of s; none: there is one that may not be. -/
def numSum (s : Int) : List Int → Option Int
  | [] => some s
  | n :: t => if n < 0 ∨ 65536 - s < n then none else numSum (s + n) t
def sizeR (l : List Int) : Int × Int := if 64 < l.length then (0, 2) else match numSum 0 l with
  | none => (0, 2)
  | some s => (s, 0)
def num_Size.f (l : List Int) : Option (Int × Int) := some (sizeR l)

theorem numSum_step {l : List Int} {k : Nat} (h : k < l.length) (s : Int) : numSum s (l.drop k) = if rd l k < 0 ∨ 65536 - s < rd l k then none else numSum (s + rd l k) (l.drop (k + 1)) := by
  rw [List.drop_eq_getElem_cons h, numSum]
  have : rd l k = l[k] := by simp [rd, List.getD_eq_getElem?_getD, List.getElem?_eq_getElem h]
  rw [this]

set_option maxHeartbeats 1000000 in
theorem num_Size1.no (n s : Int) (a : Addr) (w : World) (hc : w.cell? a = some (.int .i64 s)) (hs0 : 0 ≤ s) (hs1 : s ≤ 65536) (h : n < 0 ∨ 65536 - s < n) :
    Calls Try.prog 87 #[.int .i64 n, .pointer (some a)] w fun e w' => e = .returned (.bool false) ∧ w = w' := by
  by_cases h0 : n < 0
  · go_enter Try.func87, Try.ntmps87
    go_wp2
    go_ret
    exact ⟨rfl, rfl⟩
  · have h1 : 65536 - s < n := by omega
    go_enter Try.func87, Try.ntmps87
    go_wp2
    go_ret
    exact ⟨rfl, rfl⟩

set_option maxHeartbeats 1000000 in
theorem num_Size1.yes (n s : Int) (a : Addr) (w : World) (hc : w.cell? a = some (.int .i64 s)) (hf : w.frozen? a = false) (hs0 : 0 ≤ s) (hs1 : s ≤ 65536) (h0 : ¬ n < 0) (h1 : ¬ 65536 - s < n) :
    Calls Try.prog 87 #[.int .i64 n, .pointer (some a)] w fun e w' => e = .returned (.bool true) ∧ w' = w.setCell a (.int .i64 (s + n)) := by
  go_enter Try.func87, Try.ntmps87
  go_wp2
  go_ret
  exact ⟨rfl, rfl⟩

theorem size_big {l : List Int} {r1 r2 : Int} (h : num_Size.f l = some (r1, r2)) (hl : 64 < l.length) : r1 = 0 ∧ r2 = 2 := by
  simp only [num_Size.f, sizeR, if_pos hl, Option.some.injEq, Prod.mk.injEq] at h
  exact ⟨h.1.symm, h.2.symm⟩
theorem size_none {l : List Int} {r1 r2 : Int} (h : num_Size.f l = some (r1, r2)) (hl : ¬ 64 < l.length) (hn : numSum 0 l = none) : r1 = 0 ∧ r2 = 2 := by
  simp only [num_Size.f, sizeR, if_neg hl, hn, Option.some.injEq, Prod.mk.injEq] at h
  exact ⟨h.1.symm, h.2.symm⟩
theorem size_some {l : List Int} {r1 r2 s : Int} (h : num_Size.f l = some (r1, r2)) (hl : ¬ 64 < l.length) (hn : numSum 0 l = some s) : r1 = s ∧ r2 = 0 := by
  simp only [num_Size.f, sizeR, if_neg hl, hn, Option.some.injEq, Prod.mk.injEq] at h
  exact ⟨h.1.symm, h.2.symm⟩

set_option maxHeartbeats 2000000 in
theorem num_Size.calls (A0 : Option Addr) (c0 : Nat) (l0 : List Int) (r1 r2 : Int) (w : World) (hr0 : Kd.C (Kd.int .i64) w A0 l0.length l0) (hc0 : l0.length ≤ c0) (h : num_Size.f l0 = some (r1, r2)) :
    Calls Try.prog 74 #[.slice A0 l0.length c0] w fun e w' => e = .returned (.tuple #[.int .i64 r1, .int .i64 r2]) ∧ Below w.heap.size w w' := by
  have HR0 := Aside0.mk hr0
  have HC0 := Aside0.mk hc0
  have HM : l0.length ≤ 9223372036854775807 := hr0.2.1
  clear hr0 hc0
  have hmf : ∀ (fn : Fn) (first cap : Array Value) (w : World), (Instr.makeFunc fn first cap).run Try.prog w = .ok (.func fn first cap) w := fun _ _ _ _ => rfl
  by_cases hl : 64 < l0.length
  · obtain ⟨rfl, rfl⟩ := size_big h hl
    have hl1 : decide (64 < l0.length) = true := decide_eq_true hl
    have hl2 : decide ((64 : Int) < (l0.length : Int)) = true := decide_eq_true (by omega)
    go_enter Try.func74, Try.ntmps74
    go_wp2
    go_ret2
    exact ⟨rfl, (Below.refl _ _).alloc (Nat.le_refl _) _⟩
  · have HL := Aside0.mk hl
    have H := Aside0.mk h
    have hl1 : decide (64 < l0.length) = false := decide_eq_false hl
    have hl2 : decide ((64 : Int) < (l0.length : Int)) = false := decide_eq_false (by omega)
    clear h hl
    go_enter Try.func74, Try.ntmps74
    go_wp2
    go_loopg [14] l0.length (fun kq v14 w' => ∃ (k : Nat) (s : Int), v14 = .int .i64 k ∧ Aside0 (kq + k = l0.length) ∧ Aside0 (numSum s (l0.drop k) = numSum 0 l0) ∧ 0 ≤ s ∧ s ≤ 65536 ∧ w'.cell? ⟨w.heap.size, 0, none⟩ = some (.int .i64 s) ∧ w'.frozen? ⟨w.heap.size, 0, none⟩ = false ∧ Aside0 (Below w.heap.size w w'))
    case atStart => exact ⟨0, 0, rfl, ⟨rfl⟩, ⟨by simp⟩, by omega, by omega, by simp, by simp, ⟨(Below.refl _ _).alloc (Nat.le_refl _) _⟩⟩
    case round =>
      obtain ⟨k, s, rfl, HK, HS, hs0, hs1, hcell, hfr, HB⟩ := hrel
      by_cases hk : k < l0.length
      · have hk1 : decide ((k : Int) < (l0.length : Int)) = true := decide_eq_true (by omega)
        obtain ⟨ad, e1, hx0⟩ := Kd.at_int (Kd.C_below HR0.out HB.out) (k : Int) (by omega) (by omega)
        cases e1
        have hx : wr.cell? (ad.add k) = some (.int .i64 (rd l0 k)) := by simpa using hx0
        clear hx0
        have hstep := numSum_step hk s
        by_cases hb : rd l0 k < 0 ∨ 65536 - s < rd l0 k
        · rw [if_pos hb] at hstep
          have HN := Aside0.mk (HS.out.symm.trans hstep)
          clear hstep
          go_wp2_with (go_at_call 87; refine (num_Size1.no _ _ _ _ hcell hs0 hs1 hb).mono ?_; rintro e w2 ⟨rfl, rfl⟩)
          go_ret2
          obtain ⟨rfl, rfl⟩ := size_none H.out HL.out HN.out
          exact ⟨rfl, HB.out⟩
        · rw [if_neg hb] at hstep
          have HN := Aside0.mk (hstep.symm.trans HS.out)
          clear hstep
          have h0 : ¬ rd l0 k < 0 := fun h => hb (.inl h)
          have h1 : ¬ 65536 - s < rd l0 k := fun h => hb (.inr h)
          have HB1 : Aside0 (Below w.heap.size w (wr.setCell ⟨w.heap.size, 0, none⟩ (.int .i64 (s + rd l0 k)))) := ⟨HB.out.setCell (p := ⟨w.heap.size, 0, none⟩) (Nat.le_refl _) _⟩
          have hc1 : (wr.setCell ⟨w.heap.size, 0, none⟩ (.int .i64 (s + rd l0 k))).cell? ⟨w.heap.size, 0, none⟩ = some (.int .i64 (s + rd l0 k)) := World.cell?_setCell_same' _ _ _ (by rw [hcell]; rfl)
          have hf1 : (wr.setCell ⟨w.heap.size, 0, none⟩ (.int .i64 (s + rd l0 k))).frozen? ⟨w.heap.size, 0, none⟩ = false := by rw [World.frozen?_setCell]; exact hfr
          clear hb
          go_wp2_with (go_at_call 87; refine (num_Size1.yes _ _ _ _ hcell hfr hs0 hs1 h0 h1).mono ?_; rintro e w2 ⟨rfl, rfl⟩)
          go_roundg (gk - 1)
          case measure => have := HK.out; omega
          case rel => exact ⟨k + 1, s + rd l0 k, by go_num, ⟨by have := HK.out; omega⟩, HN, by omega, by omega, hc1, hf1, HB1⟩
      · have hk1 : ¬ (k : Int) < (l0.length : Int) := by omega
        have HN : Aside0 (numSum 0 l0 = some s) := ⟨by rw [← HS.out, List.drop_of_length_le (by omega), numSum]⟩
        go_wp2
        go_ret2
        obtain ⟨rfl, rfl⟩ := size_some H.out HL.out HN.out
        exact ⟨rfl, HB.out⟩

/-! ### num.numbers -/
/-- A size that no number may have. -/
def oddSize (n : Int) : Bool := decide (n < 1) || decide (8 < n)
def num_numbers.f (l : List Int) : Option (Int × Int) := if l.any oddSize then some (0, 2) else num_Size.f l

set_option maxHeartbeats 1000000 in
theorem num_numbers1.any (n : Int) (w : World) :
    Calls Try.prog 93 #[.int .i64 n] w fun e w' => e = .returned (.bool (oddSize n)) ∧ w = w' := by
  by_cases h0 : n < 1
  · have hr : oddSize n = true := by simp [oddSize, h0]
    have HR := Aside0.mk hr
    clear hr
    go_enter Try.func93, Try.ntmps93
    go_wp2
    go_ret
    exact ⟨by rw [HR.out]; rfl, rfl⟩
  · have hr : oddSize n = decide (8 < n) := by simp [oddSize, h0]
    have HR := Aside0.mk hr
    clear hr
    go_enter Try.func93, Try.ntmps93
    go_wp2
    go_ret
    exact ⟨by rw [HR.out]; rfl, rfl⟩

/-- Where the first of the odd ones is. -/
theorem find_step {l : List Int} {k : Nat} (h : k < l.length) (p : Int → Bool) : (l.drop k).any p = (p (rd l k) || (l.drop (k + 1)).any p) := by
  rw [List.drop_eq_getElem_cons h, List.any_cons]
  have : rd l k = l[k] := by simp [rd, List.getD_eq_getElem?_getD, List.getElem?_eq_getElem h]
  rw [this]

set_option maxHeartbeats 2000000 in
/-- slices.IndexFunc at numbers' test: below nought just where none is odd. -/
theorem indexFunc_any (A0 : Option Addr) (c0 : Nat) (l0 : List Int) (w : World) (hr0 : Kd.C (Kd.int .i64) w A0 l0.length l0) :
    Calls Try.prog 100 #[.slice A0 l0.length c0, .func (.func 93) #[] #[]] w fun e w' => ∃ r : Int, e = .returned (.int .i64 r) ∧ Aside0 (decide (0 ≤ r) = l0.any oddSize) ∧ w = w' := by
  have HR0 := Aside0.mk hr0
  have HM : l0.length ≤ 9223372036854775807 := hr0.2.1
  clear hr0
  go_enter Try.func100, Try.ntmps100
  go_wp2
  go_loopg [8] l0.length (fun kq v w' => ∃ (k : Nat), v = .int .i64 k ∧ Aside0 (kq + k = l0.length) ∧ Aside0 ((l0.drop k).any oddSize = l0.any oddSize) ∧ w = w')
  case atStart => exact ⟨0, rfl, ⟨rfl⟩, ⟨by simp⟩, rfl⟩
  case round =>
    obtain ⟨k, rfl, HK, HS, rfl⟩ := hrel
    by_cases hk : k < l0.length
    · have hk1 : decide ((k : Int) < (l0.length : Int)) = true := decide_eq_true (by omega)
      obtain ⟨ad, e1, hx0⟩ := Kd.at_int HR0.out (k : Int) (by omega) (by omega)
      cases e1
      have hx : w.cell? (ad.add k) = some (.int .i64 (rd l0 k)) := by simpa using hx0
      clear hx0
      have p1 : 0 ≤ (k : Int) := by omega
      have q1 : (k : Int) < (l0.length : Int) := by omega
      have hstep := find_step hk oddSize
      cases hb : oddSize (rd l0 k) with
      | true =>
        have HN : Aside0 (decide (0 ≤ (k : Int)) = l0.any oddSize) := ⟨by rw [← HS.out, hstep, hb]; simp⟩
        clear hstep
        go_wp2_with (go_at_call 93; refine (num_numbers1.any _ _).mono ?_; rintro e w2 ⟨rfl, rfl⟩)
        go_ret
        exact ⟨_, rfl, HN, rfl⟩
      | false =>
        have HN : Aside0 ((l0.drop (k + 1)).any oddSize = l0.any oddSize) := ⟨by rw [← HS.out, hstep, hb]; simp⟩
        clear hstep
        go_wp2_with (go_at_call 93; refine (num_numbers1.any _ _).mono ?_; rintro e w2 ⟨rfl, rfl⟩)
        go_roundg (gk - 1)
        case measure => have := HK.out; omega
        case rel => exact ⟨k + 1, by go_num, ⟨by have := HK.out; omega⟩, HN, rfl⟩
    · have hk1 : ¬ (k : Int) < (l0.length : Int) := by omega
      have HN : Aside0 (decide ((0 : Int) ≤ -1) = l0.any oddSize) := ⟨by rw [← HS.out, List.drop_of_length_le (by omega)]; rfl⟩
      go_wp2
      go_ret
      exact ⟨_, rfl, HN, rfl⟩

set_option maxHeartbeats 1000000 in
theorem containsFunc_any (A0 : Option Addr) (c0 : Nat) (l0 : List Int) (w : World) (hr0 : Kd.C (Kd.int .i64) w A0 l0.length l0) :
    Calls Try.prog 92 #[.slice A0 l0.length c0, .func (.func 93) #[] #[]] w fun e w' => e = .returned (.bool (l0.any oddSize)) ∧ w = w' := by
  have HR0 := Aside0.mk hr0
  clear hr0
  go_enter Try.func92, Try.ntmps92
  go_wp2_with (go_at_call 100; refine (indexFunc_any _ _ _ _ HR0.out).mono ?_; rintro e w2 ⟨r, rfl, HN, rfl⟩)
  go_ret
  exact ⟨by rw [← HN.out]; rfl, rfl⟩

set_option maxHeartbeats 1000000 in
theorem num_numbers.calls (A0 : Option Addr) (c0 : Nat) (l0 : List Int) (r1 r2 : Int) (w : World) (hr0 : Kd.C (Kd.int .i64) w A0 l0.length l0) (hc0 : l0.length ≤ c0) (h : num_numbers.f l0 = some (r1, r2)) :
    Calls Try.prog 80 #[.slice A0 l0.length c0] w fun e w' => e = .returned (.tuple #[.int .i64 r1, .int .i64 r2]) ∧ Below w.heap.size w w' := by
  have HR0 := Aside0.mk hr0
  have HC0 := Aside0.mk hc0
  clear hr0 hc0
  cases hb : l0.any oddSize with
  | true =>
    have hh : r1 = 0 ∧ r2 = 2 := by
      simp only [num_numbers.f, hb, if_true, Option.some.injEq, Prod.mk.injEq] at h
      exact ⟨h.1.symm, h.2.symm⟩
    obtain ⟨rfl, rfl⟩ := hh
    clear h
    have HB := Aside0.mk hb
    clear hb
    go_enter Try.func80, Try.ntmps80
    go_wp2_with (go_at_call 92; refine (containsFunc_any _ _ _ _ HR0.out).mono ?_; rintro e w2 ⟨rfl, rfl⟩; rw [HB.out])
    go_ret2
    exact ⟨rfl, Below.refl _ _⟩
  | false =>
    have H : Aside0 (num_Size.f l0 = some (r1, r2)) := ⟨by
      simp only [num_numbers.f, hb] at h
      exact h⟩
    clear h
    have HB := Aside0.mk hb
    clear hb
    go_enter Try.func80, Try.ntmps80
    go_wp2_with (first | (go_at_call 92; refine (containsFunc_any _ _ _ _ HR0.out).mono ?_; rintro e w2 ⟨rfl, rfl⟩; rw [HB.out]) | (go_at_call 74; refine (num_Size.calls _ _ _ _ _ _ HR0.out HC0.out H.out).mono ?_; rintro e w2 ⟨rfl, hb2⟩))
    go_ret2
    exact ⟨rfl, hb2⟩

/-! ### slices.Clone of bytes -/
def slices_Clone_byte_byte.f (l : List Int) : Option (List Int) := if l.length ≤ 140737488355328 then some l else none
theorem info5 : (Try.prog.info? 5).map (fun i => (i.zero, i.size, i.bytes)) = some (some (.int .u8 0), 1, 1) := by kernel_rfl

theorem ownsRow_empty (W : World) (e : TypeId) (base : Nat) (hb : base ≤ W.heap.size) (ok : Nat → Prop) (hok : ok W.heap.size) (d : Kd Int) : d.R e (W.alloc (.cells #[] e)) base ok (.slice (some ⟨W.heap.size, 0, none⟩) 0 0) [] := by
  refine ⟨fun k hk => ?_, [], ⟨by simp, .inr ⟨W.heap.size, 0, #[], rfl, hb, heap_alloc_new W _, Nat.le_refl _, by simp only [maxLen]; omega, by simp, by simp⟩⟩, Reps.none _ _⟩
  have : W.heap.size = k := by simpa [Value.ownBlock] using hk
  subst this
  exact hok

set_option maxHeartbeats 1000000 in
theorem slices_Clone_byte_byte.calls (A0 : Option Addr) (c0 : Nat) (l0 : List Int) (r : List Int) (w : World) (hr0 : Kd.C (Kd.int .u8) w A0 l0.length l0) (hc0 : l0.length ≤ c0) (h : slices_Clone_byte_byte.f l0 = some r) :
    Calls Try.prog 72 #[.slice A0 l0.length c0] w fun e w' => ∃ v0_ : Value, e = .returned v0_ ∧ Kd.R (Kd.int .u8) 5 w' w.heap.size (fun _ => True) v0_ r ∧ Below w.heap.size w w' := by
  have hh : l0.length ≤ 140737488355328 ∧ l0 = r := by
    unfold slices_Clone_byte_byte.f at h
    split at h
    · exact ⟨by assumption, Option.some.inj h⟩
    · cases h
  clear h
  obtain ⟨hl, rfl⟩ := hh
  have HR0 := Aside0.mk hr0
  have HC0 := Aside0.mk hc0
  have HM := Aside0.mk hl
  have qT : ∀ (w : World) (a : Option Addr) (n c n' c' : Nat), (binOp .eql 43 (.slice a n c) (.slice none n' c')).run Try.prog w = .ok (.bool a.isNone) w := fun w a n c n' c' => Lib.run_eql_slice_nil w _ _ a n c n' c' Try.underlying43
  cases A0 with
  | none =>
    have he : l0 = [] := by
      rcases Nat.eq_zero_or_pos l0.length with h0 | h0
      · exact List.eq_nil_of_length_eq_zero h0
      · obtain ⟨ad, h1, _⟩ := hr0.2.2 h0
        cases h1
    clear hr0 hc0 hl
    subst he
    go_enter Try.func72, Try.ntmps72
    go_wp2
    go_ret
    exact ⟨_, rfl, Kd.R_nil _ _ _ _ _, Below.refl _ _⟩
  | some ad =>
    clear hr0 hc0 hl
    go_enter Try.func72, Try.ntmps72
    go_wp2_with (at_builtin; refine Kd.R_append_rows (Kd.int .u8) (w0 := w) w.heap.size rfl (.tmp 5) (.tmp 6) 43 5 (.int .u8 0) 1 rfl Try.underlying43 info5 rfl (by decide) (by omega) (.slice (some ⟨w.heap.size, 0, none⟩) 0 0) [] l0 _ _ _ (fun _ => True) (fun _ => False) rfl rfl ?aO ?aR (fun _ _ h => h) (fun _ h => h.elim) ?aF ?aB ?aS ?aL ?_; (case aO => exact ownsRow_empty w _ _ (Nat.le_refl _) _ trivial _); (case aR => exact Kd.C_alloc HR0.out _); (case aF => exact fun _ _ => trivial); (case aB => exact below_alloc (Below.refl _ _) _); (case aS => simp); (case aL => have := HM.out; simp; omega); intro v1 w1 hown hb hg hat; have HO := Aside0.mk hown; have HB := Aside0.mk hb; clear hown hb hg hat)
    go_ret
    exact ⟨_, rfl, HO.out, HB.out⟩
end Go.Proofs.Ytknmokpnkcckeaa
