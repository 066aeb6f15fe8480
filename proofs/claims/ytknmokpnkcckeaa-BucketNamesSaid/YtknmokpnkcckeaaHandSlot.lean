/-
num.Size, num.numbers (with slices.ContainsFunc, slices.IndexFunc), slices.Clone of bytes: what each call computes, as plain Lean, and that the call does so.
-/
import Derived.Test.YtknmokpnkcckeaaProg
import Derived.Test.YtknmokpnkcckeaaHandWords
import Derived.Lib.SliceRun
import Derived.Test.YtknmokpnkcckeaaPAll0
import Derived.Test.YtknmokpnkcckeaaGeoPure
import Derived.Test.YtknmokpnkcckeaaPAll31
import Derived.Deep.RegionWith
namespace Go.Proofs.Ytknmokpnkcckeaa
open Go.RowKit Go.Proofs.YtknmokpnkcckeaaW.PrintWords Go.Proofs.YtknmokpnkcckeaaW.PrintLast Go.Proofs.YtknmokpnkcckeaaW.PrintMore
set_option linter.unusedVariables false
set_option linter.unusedSimpArgs false

/-! ### num.Size -/
/-- The sum of sizes, on top of s; none: there is one that may not be. -/
def numSum (s : Int) : List Int → Option Int
  | [] => some s
  | n :: t => if n < 0 ∨ 65536 - s < n then none else numSum (s + n) t
def sizeR (l : List Int) : Int × Int := if 64 < l.length then (0, 2) else match numSum 0 l with
  | none => (0, 2)
  | some s => (s, 0)
def num_Size.f (l : List Int) : Option (Int × Int) := some (sizeR l)

theorem numSum_step {l : List Int} {k : Nat} (h : k < l.length) (s : Int) : numSum s (l.drop k) = if rd l k < 0 ∨ 65536 - s < rd l k then none else numSum (s + rd l k) (l.drop (k + 1)) := by
  rw [List.drop_eq_getElem_cons h, numSum]
  have : rd l k = l[k] := by simp [rd, List.getD_eq_getElem?_getD, List.getElem?_eq_getElem h]
  rw [this]

set_option maxHeartbeats 1000000 in
theorem num_Size1.no (n s : Int) (a : Addr) (w : World) (hc : w.cell? a = some (.int .i64 s)) (hs0 : 0 ≤ s) (hs1 : s ≤ 65536) (h : n < 0 ∨ 65536 - s < n) :
    Calls Try.prog 87 #[.int .i64 n, .pointer (some a)] w fun e w' => e = .returned (.bool false) ∧ w = w' := by
  by_cases h0 : n < 0
  · go_enter Try.func87, Try.ntmps87
    go_wp2
    go_ret
    exact ⟨rfl, rfl⟩
  · have h1 : 65536 - s < n := by omega
    go_enter Try.func87, Try.ntmps87
    go_wp2
    go_ret
    exact ⟨rfl, rfl⟩

set_option maxHeartbeats 1000000 in
theorem num_Size1.yes (n s : Int) (a : Addr) (w : World) (hc : w.cell? a = some (.int .i64 s)) (hf : w.frozen? a = false) (hs0 : 0 ≤ s) (hs1 : s ≤ 65536) (h0 : ¬ n < 0) (h1 : ¬ 65536 - s < n) :
    Calls Try.prog 87 #[.int .i64 n, .pointer (some a)] w fun e w' => e = .returned (.bool true) ∧ w' = w.setCell a (.int .i64 (s + n)) := by
  go_enter Try.func87, Try.ntmps87
  go_wp2
  go_ret
  exact ⟨rfl, rfl⟩

theorem size_big {l : List Int} {r1 r2 : Int} (h : num_Size.f l = some (r1, r2)) (hl : 64 < l.length) : r1 = 0 ∧ r2 = 2 := by
  simp only [num_Size.f, sizeR, if_pos hl, Option.some.injEq, Prod.mk.injEq] at h
  exact ⟨h.1.symm, h.2.symm⟩
theorem size_none {l : List Int} {r1 r2 : Int} (h : num_Size.f l = some (r1, r2)) (hl : ¬ 64 < l.length) (hn : numSum 0 l = none) : r1 = 0 ∧ r2 = 2 := by
  simp only [num_Size.f, sizeR, if_neg hl, hn, Option.some.injEq, Prod.mk.injEq] at h
  exact ⟨h.1.symm, h.2.symm⟩
theorem size_some {l : List Int} {r1 r2 s : Int} (h : num_Size.f l = some (r1, r2)) (hl : ¬ 64 < l.length) (hn : numSum 0 l = some s) : r1 = s ∧ r2 = 0 := by
  simp only [num_Size.f, sizeR, if_neg hl, hn, Option.some.injEq, Prod.mk.injEq] at h
  exact ⟨h.1.symm, h.2.symm⟩

set_option maxHeartbeats 2000000 in
theorem num_Size.calls (A0 : Option Addr) (c0 : Nat) (l0 : List Int) (r1 r2 : Int) (w : World) (hr0 : Kd.C (Kd.int .i64) w A0 l0.length l0) (hc0 : l0.length ≤ c0) (h : num_Size.f l0 = some (r1, r2)) :
    Calls Try.prog 74 #[.slice A0 l0.length c0] w fun e w' => e = .returned (.tuple #[.int .i64 r1, .int .i64 r2]) ∧ Below w.heap.size w w' := by
  have HR0 := Aside0.mk hr0
  have HC0 := Aside0.mk hc0
  have HM : l0.length ≤ 9223372036854775807 := hr0.2.1
  clear hr0 hc0
  have hmf : ∀ (fn : Fn) (first cap : Array Value) (w : World), (Instr.makeFunc fn first cap).run Try.prog w = .ok (.func fn first cap) w := fun _ _ _ _ => rfl
  by_cases hl : 64 < l0.length
  · obtain ⟨rfl, rfl⟩ := size_big h hl
    have hl1 : decide (64 < l0.length) = true := decide_eq_true hl
    have hl2 : decide ((64 : Int) < (l0.length : Int)) = true := decide_eq_true (by omega)
    go_enter Try.func74, Try.ntmps74
    go_wp2
    go_ret2
    exact ⟨rfl, (Below.refl _ _).alloc (Nat.le_refl _) _⟩
  · have HL := Aside0.mk hl
    have H := Aside0.mk h
    have hl1 : decide (64 < l0.length) = false := decide_eq_false hl
    have hl2 : decide ((64 : Int) < (l0.length : Int)) = false := decide_eq_false (by omega)
    clear h hl
    go_enter Try.func74, Try.ntmps74
    go_wp2
    go_loopg [14] l0.length (fun kq v14 w' => ∃ (k : Nat) (s : Int), v14 = .int .i64 k ∧ Aside0 (kq + k = l0.length) ∧ Aside0 (numSum s (l0.drop k) = numSum 0 l0) ∧ 0 ≤ s ∧ s ≤ 65536 ∧ w'.cell? ⟨w.heap.size, 0, none⟩ = some (.int .i64 s) ∧ w'.frozen? ⟨w.heap.size, 0, none⟩ = false ∧ Aside0 (Below w.heap.size w w'))
    case atStart => exact ⟨0, 0, rfl, ⟨rfl⟩, ⟨by simp⟩, by omega, by omega, by simp, by simp, ⟨(Below.refl _ _).alloc (Nat.le_refl _) _⟩⟩
    case round =>
      obtain ⟨k, s, rfl, HK, HS, hs0, hs1, hcell, hfr, HB⟩ := hrel
      by_cases hk : k < l0.length
      · have hk1 : decide ((k : Int) < (l0.length : Int)) = true := decide_eq_true (by omega)
        obtain ⟨ad, e1, hx0⟩ := Kd.at_int (Kd.C_below HR0.out HB.out) (k : Int) (by omega) (by omega)
        cases e1
        have hx : wr.cell? (ad.add k) = some (.int .i64 (rd l0 k)) := by simpa using hx0
        clear hx0
        have hstep := numSum_step hk s
        by_cases hb : rd l0 k < 0 ∨ 65536 - s < rd l0 k
        · rw [if_pos hb] at hstep
          have HN := Aside0.mk (HS.out.symm.trans hstep)
          clear hstep
          go_wp2_with (go_at_call 87; refine (num_Size1.no _ _ _ _ hcell hs0 hs1 hb).mono ?_; rintro e w2 ⟨rfl, rfl⟩)
          go_ret2
          obtain ⟨rfl, rfl⟩ := size_none H.out HL.out HN.out
          exact ⟨rfl, HB.out⟩
        · rw [if_neg hb] at hstep
          have HN := Aside0.mk (hstep.symm.trans HS.out)
          clear hstep
          have h0 : ¬ rd l0 k < 0 := fun h => hb (.inl h)
          have h1 : ¬ 65536 - s < rd l0 k := fun h => hb (.inr h)
          have HB1 : Aside0 (Below w.heap.size w (wr.setCell ⟨w.heap.size, 0, none⟩ (.int .i64 (s + rd l0 k)))) := ⟨HB.out.setCell (p := ⟨w.heap.size, 0, none⟩) (Nat.le_refl _) _⟩
          have hc1 : (wr.setCell ⟨w.heap.size, 0, none⟩ (.int .i64 (s + rd l0 k))).cell? ⟨w.heap.size, 0, none⟩ = some (.int .i64 (s + rd l0 k)) := World.cell?_setCell_same' _ _ _ (by rw [hcell]; rfl)
          have hf1 : (wr.setCell ⟨w.heap.size, 0, none⟩ (.int .i64 (s + rd l0 k))).frozen? ⟨w.heap.size, 0, none⟩ = false := by rw [World.frozen?_setCell]; exact hfr
          clear hb
          go_wp2_with (go_at_call 87; refine (num_Size1.yes _ _ _ _ hcell hfr hs0 hs1 h0 h1).mono ?_; rintro e w2 ⟨rfl, rfl⟩)
          go_roundg (gk - 1)
          case measure => have := HK.out; omega
          case rel => exact ⟨k + 1, s + rd l0 k, by go_num, ⟨by have := HK.out; omega⟩, HN, by omega, by omega, hc1, hf1, HB1⟩
      · have hk1 : ¬ (k : Int) < (l0.length : Int) := by omega
        have HN : Aside0 (numSum 0 l0 = some s) := ⟨by rw [← HS.out, List.drop_of_length_le (by omega), numSum]⟩
        go_wp2
        go_ret2
        obtain ⟨rfl, rfl⟩ := size_some H.out HL.out HN.out
        exact ⟨rfl, HB.out⟩

/-! ### num.numbers -/
/-- A size that no number may have. -/
def oddSize (n : Int) : Bool := decide (n < 1) || decide (8 < n)
def num_numbers.f (l : List Int) : Option (Int × Int) := if l.any oddSize then some (0, 2) else num_Size.f l

set_option maxHeartbeats 1000000 in
theorem num_numbers1.any (n : Int) (w : World) :
    Calls Try.prog 93 #[.int .i64 n] w fun e w' => e = .returned (.bool (oddSize n)) ∧ w = w' := by
  by_cases h0 : n < 1
  · have hr : oddSize n = true := by simp [oddSize, h0]
    have HR := Aside0.mk hr
    clear hr
    go_enter Try.func93, Try.ntmps93
    go_wp2
    go_ret
    exact ⟨by rw [HR.out]; rfl, rfl⟩
  · have hr : oddSize n = decide (8 < n) := by simp [oddSize, h0]
    have HR := Aside0.mk hr
    clear hr
    go_enter Try.func93, Try.ntmps93
    go_wp2
    go_ret
    exact ⟨by rw [HR.out]; rfl, rfl⟩

/-- Where the first of the odd ones is. -/
theorem find_step {l : List Int} {k : Nat} (h : k < l.length) (p : Int → Bool) : (l.drop k).any p = (p (rd l k) || (l.drop (k + 1)).any p) := by
  rw [List.drop_eq_getElem_cons h, List.any_cons]
  have : rd l k = l[k] := by simp [rd, List.getD_eq_getElem?_getD, List.getElem?_eq_getElem h]
  rw [this]

set_option maxHeartbeats 2000000 in
/-- slices.IndexFunc at numbers' test: below nought just where none is odd. -/
theorem indexFunc_any (A0 : Option Addr) (c0 : Nat) (l0 : List Int) (w : World) (hr0 : Kd.C (Kd.int .i64) w A0 l0.length l0) :
    Calls Try.prog 100 #[.slice A0 l0.length c0, .func (.func 93) #[] #[]] w fun e w' => ∃ r : Int, e = .returned (.int .i64 r) ∧ Aside0 (decide (0 ≤ r) = l0.any oddSize) ∧ w = w' := by
  have HR0 := Aside0.mk hr0
  have HM : l0.length ≤ 9223372036854775807 := hr0.2.1
  clear hr0
  go_enter Try.func100, Try.ntmps100
  go_wp2
  go_loopg [8] l0.length (fun kq v w' => ∃ (k : Nat), v = .int .i64 k ∧ Aside0 (kq + k = l0.length) ∧ Aside0 ((l0.drop k).any oddSize = l0.any oddSize) ∧ w = w')
  case atStart => exact ⟨0, rfl, ⟨rfl⟩, ⟨by simp⟩, rfl⟩
  case round =>
    obtain ⟨k, rfl, HK, HS, rfl⟩ := hrel
    by_cases hk : k < l0.length
    · have hk1 : decide ((k : Int) < (l0.length : Int)) = true := decide_eq_true (by omega)
      obtain ⟨ad, e1, hx0⟩ := Kd.at_int HR0.out (k : Int) (by omega) (by omega)
      cases e1
      have hx : w.cell? (ad.add k) = some (.int .i64 (rd l0 k)) := by simpa using hx0
      clear hx0
      have p1 : 0 ≤ (k : Int) := by omega
      have q1 : (k : Int) < (l0.length : Int) := by omega
      have hstep := find_step hk oddSize
      cases hb : oddSize (rd l0 k) with
      | true =>
        have HN : Aside0 (decide (0 ≤ (k : Int)) = l0.any oddSize) := ⟨by rw [← HS.out, hstep, hb]; simp⟩
        clear hstep
        go_wp2_with (go_at_call 93; refine (num_numbers1.any _ _).mono ?_; rintro e w2 ⟨rfl, rfl⟩)
        go_ret
        exact ⟨_, rfl, HN, rfl⟩
      | false =>
        have HN : Aside0 ((l0.drop (k + 1)).any oddSize = l0.any oddSize) := ⟨by rw [← HS.out, hstep, hb]; simp⟩
        clear hstep
        go_wp2_with (go_at_call 93; refine (num_numbers1.any _ _).mono ?_; rintro e w2 ⟨rfl, rfl⟩)
        go_roundg (gk - 1)
        case measure => have := HK.out; omega
        case rel => exact ⟨k + 1, by go_num, ⟨by have := HK.out; omega⟩, HN, rfl⟩
    · have hk1 : ¬ (k : Int) < (l0.length : Int) := by omega
      have HN : Aside0 (decide ((0 : Int) ≤ -1) = l0.any oddSize) := ⟨by rw [← HS.out, List.drop_of_length_le (by omega)]; rfl⟩
      go_wp2
      go_ret
      exact ⟨_, rfl, HN, rfl⟩

set_option maxHeartbeats 1000000 in
theorem containsFunc_any (A0 : Option Addr) (c0 : Nat) (l0 : List Int) (w : World) (hr0 : Kd.C (Kd.int .i64) w A0 l0.length l0) :
    Calls Try.prog 92 #[.slice A0 l0.length c0, .func (.func 93) #[] #[]] w fun e w' => e = .returned (.bool (l0.any oddSize)) ∧ w = w' := by
  have HR0 := Aside0.mk hr0
  clear hr0
  go_enter Try.func92, Try.ntmps92
  go_wp2_with (go_at_call 100; refine (indexFunc_any _ _ _ _ HR0.out).mono ?_; rintro e w2 ⟨r, rfl, HN, rfl⟩)
  go_ret
  exact ⟨by rw [← HN.out]; rfl, rfl⟩

set_option maxHeartbeats 1000000 in
theorem num_numbers.calls (A0 : Option Addr) (c0 : Nat) (l0 : List Int) (r1 r2 : Int) (w : World) (hr0 : Kd.C (Kd.int .i64) w A0 l0.length l0) (hc0 : l0.length ≤ c0) (h : num_numbers.f l0 = some (r1, r2)) :
    Calls Try.prog 80 #[.slice A0 l0.length c0] w fun e w' => e = .returned (.tuple #[.int .i64 r1, .int .i64 r2]) ∧ Below w.heap.size w w' := by
  have HR0 := Aside0.mk hr0
  have HC0 := Aside0.mk hc0
  clear hr0 hc0
  cases hb : l0.any oddSize with
  | true =>
    have hh : r1 = 0 ∧ r2 = 2 := by
      simp only [num_numbers.f, hb, if_true, Option.some.injEq, Prod.mk.injEq] at h
      exact ⟨h.1.symm, h.2.symm⟩
    obtain ⟨rfl, rfl⟩ := hh
    clear h
    have HB := Aside0.mk hb
    clear hb
    go_enter Try.func80, Try.ntmps80
    go_wp2_with (go_at_call 92; refine (containsFunc_any _ _ _ _ HR0.out).mono ?_; rintro e w2 ⟨rfl, rfl⟩; rw [HB.out])
    go_ret2
    exact ⟨rfl, Below.refl _ _⟩
  | false =>
    have H : Aside0 (num_Size.f l0 = some (r1, r2)) := ⟨by
      simp only [num_numbers.f, hb] at h
      exact h⟩
    clear h
    have HB := Aside0.mk hb
    clear hb
    go_enter Try.func80, Try.ntmps80
    go_wp2_with (first | (go_at_call 92; refine (containsFunc_any _ _ _ _ HR0.out).mono ?_; rintro e w2 ⟨rfl, rfl⟩; rw [HB.out]) | (go_at_call 74; refine (num_Size.calls _ _ _ _ _ _ HR0.out HC0.out H.out).mono ?_; rintro e w2 ⟨rfl, hb2⟩))
    go_ret2
    exact ⟨rfl, hb2⟩

/-! ### slices.Clone of bytes -/
def slices_Clone_byte_byte.f (l : List Int) : Option (List Int) := if l.length ≤ 140737488355328 then some l else none
theorem info5 : (Try.prog.info? 5).map (fun i => (i.zero, i.size, i.bytes)) = some (some (.int .u8 0), 1, 1) := by kernel_rfl

theorem ownsRow_empty (W : World) (e : TypeId) (base : Nat) (hb : base ≤ W.heap.size) (ok : Nat → Prop) (hok : ok W.heap.size) (d : Kd Int) : d.R e (W.alloc (.cells #[] e)) base ok (.slice (some ⟨W.heap.size, 0, none⟩) 0 0) [] := by
  refine ⟨fun k hk => ?_, [], ⟨by simp, .inr ⟨W.heap.size, 0, #[], rfl, hb, heap_alloc_new W _, Nat.le_refl _, by simp only [maxLen]; omega, by simp, by simp⟩⟩, Reps.none _ _⟩
  have : W.heap.size = k := by simpa [Value.ownBlock] using hk
  subst this
  exact hok

set_option maxHeartbeats 1000000 in
theorem slices_Clone_byte_byte.calls (A0 : Option Addr) (c0 : Nat) (l0 : List Int) (r : List Int) (w : World) (hr0 : Kd.C (Kd.int .u8) w A0 l0.length l0) (hc0 : l0.length ≤ c0) (h : slices_Clone_byte_byte.f l0 = some r) :
    Calls Try.prog 72 #[.slice A0 l0.length c0] w fun e w' => ∃ v0_ : Value, e = .returned v0_ ∧ Kd.R (Kd.int .u8) 5 w' w.heap.size (fun _ => True) v0_ r ∧ Below w.heap.size w w' := by
  have hh : l0.length ≤ 140737488355328 ∧ l0 = r := by
    unfold slices_Clone_byte_byte.f at h
    split at h
    · exact ⟨by assumption, Option.some.inj h⟩
    · cases h
  clear h
  obtain ⟨hl, rfl⟩ := hh
  have HR0 := Aside0.mk hr0
  have HC0 := Aside0.mk hc0
  have HM := Aside0.mk hl
  have qT : ∀ (w : World) (a : Option Addr) (n c n' c' : Nat), (binOp .eql 43 (.slice a n c) (.slice none n' c')).run Try.prog w = .ok (.bool a.isNone) w := fun w a n c n' c' => Lib.run_eql_slice_nil w _ _ a n c n' c' Try.underlying43
  cases A0 with
  | none =>
    have he : l0 = [] := by
      rcases Nat.eq_zero_or_pos l0.length with h0 | h0
      · exact List.eq_nil_of_length_eq_zero h0
      · obtain ⟨ad, h1, _⟩ := hr0.2.2 h0
        cases h1
    clear hr0 hc0 hl
    subst he
    go_enter Try.func72, Try.ntmps72
    go_wp2
    go_ret
    exact ⟨_, rfl, Kd.R_nil _ _ _ _ _, Below.refl _ _⟩
  | some ad =>
    clear hr0 hc0 hl
    go_enter Try.func72, Try.ntmps72
    go_wp2_with (at_builtin; refine Kd.R_append_rows (Kd.int .u8) (w0 := w) w.heap.size rfl (.tmp 5) (.tmp 6) 43 5 (.int .u8 0) 1 rfl Try.underlying43 info5 rfl (by decide) (by omega) (.slice (some ⟨w.heap.size, 0, none⟩) 0 0) [] l0 _ _ _ (fun _ => True) (fun _ => False) rfl rfl ?aO ?aR (fun _ _ h => h) (fun _ h => h.elim) ?aF ?aB ?aS ?aL ?_; (case aO => exact ownsRow_empty w _ _ (Nat.le_refl _) _ trivial _); (case aR => exact Kd.C_alloc HR0.out _); (case aF => exact fun _ _ => trivial); (case aB => exact below_alloc (Below.refl _ _) _); (case aS => simp); (case aL => have := HM.out; simp; omega); intro v1 w1 hown hb hg hat; have HO := Aside0.mk hown; have HB := Aside0.mk hb; clear hown hb hg hat)
    go_ret
    exact ⟨_, rfl, HO.out, HB.out⟩
end Go.Proofs.Ytknmokpnkcckeaa

namespace Go.Proofs.Ytknmokpnkcckeaa
open Go.RowKit Go.Proofs.YtknmokpnkcckeaaW.PrintWords Go.Proofs.YtknmokpnkcckeaaW.PrintLast Go.Proofs.YtknmokpnkcckeaaW.PrintMore
set_option linter.unusedVariables false
set_option linter.unusedSimpArgs false

/-- Parts, one behind the other. -/
def cutGo : List Int → List Int → List (List Int)
  | [], _ => []
  | n :: t, b => b.take n.toNat :: cutGo t (b.drop n.toNat)
def cutR (b sizes : List Int) : List (List Int) × Int :=
  if (sizeR sizes).2 ≠ 0 then ([], (sizeR sizes).2) else if (sizeR sizes).1 ≠ (b.length : Int) then ([], 10) else (cutGo sizes b, 0)
def num_Cut.f (b sizes : List Int) : Option (List (List Int) × Int) := some (cutR b sizes)

theorem cutGo_step {sizes : List Int} {k : Nat} (h : k < sizes.length) (b : List Int) : cutGo (sizes.drop k) b = b.take (rd sizes k).toNat :: cutGo (sizes.drop (k + 1)) (b.drop (rd sizes k).toNat) := by
  rw [List.drop_eq_getElem_cons h, cutGo]
  have : rd sizes k = sizes[k] := by simp [rd, List.getD_eq_getElem?_getD, List.getElem?_eq_getElem h]
  rw [this]

theorem numSum_le : ∀ (l : List Int) (s t : Int), numSum s l = some t → s ≤ t := by
  intro l
  induction l with
  | nil => intro s t h; cases h; exact Int.le_refl _
  | cons n l ih =>
    intro s t h
    rw [numSum] at h
    by_cases hc : n < 0 ∨ 65536 - s < n
    · rw [if_pos hc] at h; cases h
    · rw [if_neg hc] at h
      have := ih _ _ h
      omega

theorem add_zero' (A : Option Addr) : A.map (·.add 0) = A := by
  cases A with
  | none => rfl
  | some a => rfl

theorem run_cut_cap {P : Program} (t e : TypeId) {i : TypeInfo} (ht : P.underlying t = some (.slice e)) (hi : P.info? e = some i) (hsz : i.size = 1) (A : Option Addr) (n c m : Nat) (hm : m ≤ c) (W : World) :
    (Instr.slice t (.slice A n c) none (some (.int .i64 (m : Int))) (some (.int .i64 (m : Int)))).run P W = .ok (.slice A m m) W := by
  have hel : P.elem t = e := by simp [Program.elem, ht]
  have hu : P.underlying t = some (.slice (P.elem t)) := by rw [hel]; exact ht
  simp [Instr.slice, run_underlying hu, Instr.sliceBounds, run_sliceBound, sliced, hm, add_zero', hel, sizeOf, typeInfo, hi, hsz, Result.andThen]

/-- A row of the call's own whose elements lead into S alone. -/
def NP (w : World) (base : Nat) (S : Nat → Prop) (v : Value) (xs : List (List Int)) : Prop :=
  ∃ rows : List (List Value), rows.length = xs.length ∧ (Kd.raw 1).R 43 w base (fun k => some k = v.ownBlock) v rows ∧
    ∀ (j : Nat) (x : List Int) (c : List Value), xs[j]? = some x → rows[j]? = some c → Kd.FK (Kd.slice 5 (Kd.int .u8)) w S x c

section
variable {P : Program} {ops : Array Oper} {rest : List Oper} {o : Oper} {a : Act} {Q : Exit → Act → World → Prop}
theorem NP_append {w0 W : World} (base : Nat) (hgd : o.guard = none) (s x : Operand) (t : TypeId) (z : Value) (bytes : Nat)
    (ho : o.op = .call { callee := .builtin .append, args := #[s, x], argTypes := #[t, t] })
    (ht : P.underlying t = some (.slice 43)) (hinfo : (P.info? 43).map (fun i => (i.zero, i.size, i.bytes)) = some (some z, 1, bytes)) (hz : z.cells.size = 1) (hb0 : 0 < bytes)
    (v : Value) (xs : List (List Int)) (p : List Int) (cs : List Value) (S : Nat → Prop) (hs : a.eval s = v) (hx : a.eval x = .slice (some ⟨W.heap.size, 0, none⟩) 1 1) (hp : Kd.FK (Kd.slice 5 (Kd.int .u8)) W S p cs)
    (hS : ∀ k, S k → some k ≠ v.ownBlock)
    (HO : NP W base S v xs) (HB : Below base w0 W) (hbase : base ≤ W.heap.size) (hl : (xs.length + 1) * bytes ≤ 140737488355328)
    (h : ∀ v1 w1, NP w1 base S v1 (xs ++ [p]) → Below base w0 w1 → W.grownBy w1 v.ownBlock → (v1.ownBlock = v.ownBlock ∨ ∃ b, v1.ownBlock = some b ∧ W.heap.size ≤ b) → wpList P ops Q rest (a.put o.dst v1) w1) :
    wpList P ops Q (o :: rest) a (W.alloc (.cells cs.toArray 43)) := by
  obtain ⟨rows, hlr, hR, hf⟩ := HO
  refine Kd.R_append (Kd.raw 1) base hgd s x t 43 z bytes ho ht hinfo hz (by decide) hb0 v rows cs cs (fun _ => True) (fun _ => False) hs hx (Kd.FK_raw hp) (fun _ hk => hk.elim) (fun _ _ => trivial) (Kd.raw_any hR) HB hbase (by rw [hlr]; exact hl) ?_
  intro v1 w1 hr hb hg hat
  have step : ∀ {y : List Int} {c : List Value}, Kd.FK (Kd.slice 5 (Kd.int .u8)) W S y c → Kd.FK (Kd.slice 5 (Kd.int .u8)) w1 S y c := fun hq => Kd.FK_step hq (fun k hk hlt => hg.block k hlt (hS k hk))
  refine h v1 w1 ⟨rows ++ [cs], by rw [List.length_append, List.length_append, hlr]; rfl, Kd.raw_tight hr, fun j y c hy hc => ?_⟩ hb hg hat
  rcases Nat.lt_or_ge j xs.length with hlt | hge
  · rw [List.getElem?_append_left hlt] at hy
    rw [List.getElem?_append_left (by omega)] at hc
    exact step (hf j y c hy hc)
  · rw [List.getElem?_append_right hge] at hy
    rw [List.getElem?_append_right (by omega), hlr] at hc
    rcases hj : j - xs.length with _ | j'
    · rw [hj] at hy hc
      simp only [List.getElem?_cons_zero, Option.some.injEq] at hy hc
      rw [← hy, ← hc]; exact step hp
    · rw [hj] at hy
      simp at hy
end
theorem NP_nil (w : World) (base : Nat) (S : Nat → Prop) : NP w base S (.slice none 0 0) [] := ⟨[], rfl, Kd.R_nil _ _ _ _ _, fun j x c hx => by simp at hx⟩
/-- Of another type than bytes, so it is not the bytes' block. -/
theorem NP_ne {w : World} {base : Nat} {S : Nat → Prop} {v : Value} {xs : List (List Int)} (h : NP w base S v xs) {g : Nat} {cells : Array Value} (hb : w.heap[g]? = some (.cells cells 5 (0, 0))) : some g ≠ v.ownBlock := by
  obtain ⟨rows, hl, hR, hf⟩ := h
  exact Kd.R_ne hR hb (by decide)
/-- The row as one that is only read: all it leads to is young and nothing froze it. -/
theorem NP_V {w : World} {base : Nat} {S : Nat → Prop} {v vc : Value} {xs : List (List Int)} {b : List Int} {ok : Nat → Prop} (h : NP w base S v xs) (hc : Kd.R (Kd.int .u8) 5 w base ok vc b) (hS : ∀ k, S k → vc.ownBlock = some k) :
    Kd.V (Kd.slice 5 (Kd.int .u8)) 43 w base (fun k => base ≤ k ∧ ∃ cells q, w.heap[k]? = some (.cells cells q (0, 0))) v xs := by
  have hne : ∀ k, S k → some k ≠ v.ownBlock := fun k hk => by
    obtain ⟨cells, hcl⟩ := Kd.R_typed hc k (hS k hk)
    exact NP_ne h hcl
  have hn : Kd.N (Kd.slice 5 (Kd.int .u8)) 43 w base (fun k => some k = v.ownBlock ∨ S k) v xs := by
    obtain ⟨rows, hl, hR, hf⟩ := h
    exact ⟨fun k hk => .inl hk.symm, rows, hl, hR, fun j x c hx hcc => Kd.FK_mono (hf j x c hx hcc) (fun k hk => ⟨.inr hk, hne k hk⟩)⟩
  have ho := Kd.N_typed hn
  have hb := Kd.N_base hn
  refine Kd.N_V (Kd.N_mono hn ?_)
  rintro k (hk | hk)
  · obtain ⟨cells, e⟩ := ho k hk.symm
    exact ⟨hb k hk.symm, cells, _, e⟩
  · obtain ⟨cells, e⟩ := Kd.R_typed hc k (hS k hk)
    exact ⟨Kd.R_base hc k (hS k hk), cells, _, e⟩

theorem run_cut_from {P : Program} (t e : TypeId) {i : TypeInfo} (ht : P.underlying t = some (.slice e)) (hi : P.info? e = some i) (hsz : i.size = 1) (A : Option Addr) (n c m : Nat) (hm : m ≤ n) (W : World) :
    (Instr.slice t (.slice A n c) (some (.int .i64 (m : Int))) none none).run P W = .ok (.slice (if c = m then A else A.map (·.add m)) (n - m) (c - m)) W := by
  have hel : P.elem t = e := by simp [Program.elem, ht]
  have hu : P.underlying t = some (.slice (P.elem t)) := by rw [hel]; exact ht
  rw [run_slice_l W t A n c hu .i64 (m : Int) (Int.natCast_nonneg _) (by omega), hel]
  simp [sizeOf, typeInfo, hi, hsz, sliced, Result.andThen]

theorem info43 : (Try.prog.info? 43).map (fun i => (i.zero, i.size, i.bytes)) = some (some (.slice none 0 0), 1, 24) := by kernel_rfl

/-- What the walk needs of the parts' sum. -/
theorem sizeR_sum {sizes : List Int} {s : Int} (h : sizeR sizes = (s, 0)) : sizes.length ≤ 64 ∧ numSum 0 sizes = some s := by
  unfold sizeR at h
  by_cases hl : 64 < sizes.length
  · rw [if_pos hl] at h; cases h
  · rw [if_neg hl] at h
    cases e : numSum 0 sizes with
    | none => rw [e] at h; cases h
    | some t => rw [e] at h; cases h; exact ⟨by omega, rfl⟩

set_option maxHeartbeats 4000000 in
theorem num_Cut.calls2 (A0 : Option Addr) (c0 : Nat) (l0 : List Int) (A1 : Option Addr) (c1 : Nat) (l1 : List Int) (r1 : List (List Int)) (r2 : Int) (w : World) (hr0 : Kd.C (Kd.int .u8) w A0 l0.length l0) (hc0 : l0.length ≤ c0)
    (hr1 : Kd.C (Kd.int .i64) w A1 l1.length l1) (hc1 : l1.length ≤ c1) (h : num_Cut.f l0 l1 = some (r1, r2)) :
    Calls Try.prog 54 #[.slice A0 l0.length c0, .slice A1 l1.length c1] w fun e w' => ∃ v0_ : Value, e = .returned (.tuple #[v0_, .int .i64 r2]) ∧
      Kd.V (Kd.slice 5 (Kd.int .u8)) 43 w' w.heap.size (fun k => w.heap.size ≤ k ∧ ∃ cells q, w'.heap[k]? = some (.cells cells q (0, 0))) v0_ r1 ∧ Below w.heap.size w w' := by
  have HR0 := Aside0.mk hr0
  have HC0 := Aside0.mk hc0
  have HR1 := Aside0.mk hr1
  have HC1 := Aside0.mk hc1
  clear hr0 hc0 hr1 hc1
  obtain ⟨s, e, hs⟩ : ∃ s e, sizeR l1 = (s, e) := ⟨_, _, rfl⟩
  have HS : Aside0 (num_Size.f l1 = some (s, e)) := ⟨by rw [num_Size.f, hs]⟩
  rw [num_Cut.f, cutR, hs] at h
  simp only at h
  by_cases he : e = 0
  · subst he
    rw [if_neg (by simp)] at h
    have hsum := sizeR_sum hs
    by_cases hb : s = (l0.length : Int)
    · subst hb
      rw [if_neg (by simp)] at h
      simp only [Option.some.injEq, Prod.mk.injEq] at h
      obtain ⟨hr, rfl⟩ := h
      have HX := Aside0.mk hr
      have HSum := Aside0.mk hsum.2
      have HLen := Aside0.mk hsum.1
      have hlen : l0.length ≤ 140737488355328 := by
        have h65 : ∀ (l : List Int) (s t : Int), 0 ≤ s → s ≤ 65536 → numSum s l = some t → t ≤ 65536 := by
          intro l
          induction l with
          | nil => intro s t h0 h1 h; cases h; exact h1
          | cons n l ih =>
            intro s t h0 h1 h
            rw [numSum] at h
            by_cases hc : n < 0 ∨ 65536 - s < n
            · rw [if_pos hc] at h; cases h
            · rw [if_neg hc] at h; exact ih _ _ (by omega) (by omega) h
        have := h65 _ _ _ (by omega) (by omega) hsum.2
        omega
      have HCl : Aside0 (slices_Clone_byte_byte.f l0 = some l0) := ⟨by rw [slices_Clone_byte_byte.f, if_pos hlen]⟩
      clear hr hsum hs
      have hq1 : ((l0.length : Int) != (l0.length : Int)) = false := by simp
      go_enter Try.func54, Try.ntmps54
      go_wp2_with (first | (go_at_call 74; refine (num_Size.calls _ _ _ _ _ _ HR1.out HC1.out HS.out).mono ?_; rintro e w2 ⟨rfl, hb2⟩; have HB2 := Aside0.mk hb2; clear hb2) | (go_at_call 72; refine (slices_Clone_byte_byte.calls _ _ _ _ _ (Kd.C_below HR0.out HB2.out) HC0.out HCl.out).mono ?_; rintro e w3 ⟨vc, rfl, hvc, hb3⟩; obtain ⟨Ac, cc, rfl⟩ := Kd.R_slice hvc; have HVC := Aside0.mk (Kd.R_lower hvc (below_size HB2.out)); have HB3 := Aside0.mk (below_step HB2.out hb3); clear hvc hb3 HB2))
      go_loopg [8, 9, 30] l1.length (fun kq v8 v9 v30 w' => ∃ (k s : Nat) (outs : List (List Int)) (A : Option Addr) (n c : Nat), v30 = .int .i64 k ∧ v9 = .slice A n c ∧ Aside0 (kq + k = l1.length) ∧ Aside0 (numSum (s : Int) (l1.drop k) = some (l0.length : Int)) ∧
        Aside0 (outs ++ cutGo (l1.drop k) (l0.drop s) = r1) ∧ Aside0 (outs.length = k ∧ n + s = l0.length ∧ n ≤ c) ∧ Aside0 (Kd.F (Kd.int .u8) w' (fun j => (Value.slice Ac l0.length cc).ownBlock = some j) A n (l0.drop s)) ∧
        Aside0 (NP w' w.heap.size (fun j => (Value.slice Ac l0.length cc).ownBlock = some j) v8 outs) ∧ Aside0 (Kd.R (Kd.int .u8) 5 w' w.heap.size (fun _ => True) (.slice Ac l0.length cc) l0) ∧ Aside0 (Below w.heap.size w w'))
      case atStart =>
        have hF := Kd.R_F (Kd.R_mono (Kd.R_tight rfl HVC.out) (ok' := fun j => (Value.slice Ac l0.length cc).ownBlock = some j) (fun _ hk => hk.symm))
        have hn := (Kd.R_reads' HVC.out).2.1
        exact ⟨0, 0, [], Ac, l0.length, cc, rfl, rfl, ⟨rfl⟩, ⟨by simpa using HSum.out⟩, ⟨by simpa using HX.out⟩, ⟨rfl, by simp, hn⟩, ⟨by simpa using hF⟩, ⟨NP_nil _ _ _⟩, HVC, HB3⟩
      case round =>
        clear HVC HB3
        obtain ⟨k, s, outs, A, n, c, rfl, rfl, HK, HN, HO, HL, HF, HP, HVC, HB⟩ := hrel
        by_cases hk : k < l1.length
        · have hk1 : decide ((k : Int) < (l1.length : Int)) = true := decide_eq_true (by omega)
          obtain ⟨ad, e1, hx0⟩ := Kd.at_int (Kd.C_below HR1.out HB.out) (k : Int) (by omega) (by omega)
          cases e1
          have hx : wr.cell? (ad.add k) = some (.int .i64 (rd l1 k)) := by simpa using hx0
          clear hx0
          have hstep := (numSum_step hk (s : Int)).symm.trans HN.out
          have hcase : ¬ (rd l1 k < 0 ∨ 65536 - (s : Int) < rd l1 k) := fun hc => by rw [if_pos hc] at hstep; cases hstep
          rw [if_neg hcase] at hstep
          obtain ⟨m, hm⟩ := Int.eq_ofNat_of_zero_le (show 0 ≤ rd l1 k by omega)
          have hle := numSum_le _ _ _ hstep
          have hl := HL.out
          have hmn : m ≤ n := by rw [hm] at hle; omega
          have HN' : Aside0 (numSum ((s + m : Nat) : Int) (l1.drop (k + 1)) = some (l0.length : Int)) := ⟨by rw [hm] at hstep; simpa using hstep⟩
          have HO' : Aside0 ((outs ++ [(l0.drop s).take m]) ++ cutGo (l1.drop (k + 1)) (l0.drop (s + m)) = r1) := ⟨by
            have := HO.out
            rw [cutGo_step hk, hm] at this
            simpa [List.drop_drop, Nat.add_comm] using this⟩
          have hdl : (l0.drop s).length = n := by rw [List.length_drop]; omega
          have hF := HF.out
          rw [← hdl] at hF
          have hF1 := Kd.F_take hF (m := m) (by omega)
          have hF2 := Kd.F_cut hF (m := m) (c := c) (by omega) (by omega)
          have hl1 : ((l0.drop s).take m).length = m := by rw [List.length_take]; omega
          have hl2 : ((l0.drop s).drop m).length = n - m := by rw [List.length_drop]; omega
          rw [hl1] at hF1
          rw [hl2, List.drop_drop] at hF2
          have HE : Aside0 (Kd.FK (Kd.slice 5 (Kd.int .u8)) wr (fun j => (Value.slice Ac l0.length cc).ownBlock = some j) ((l0.drop s).take m) [.slice A m m]) := ⟨by
            have := Kd.FK_slice_mk (e := 5) (c := m) (l := (l0.drop s).take m) (by omega) (by rw [hl1]; exact hF1)
            rwa [hl1] at this⟩
          have HF2 : Aside0 (Kd.F (Kd.int .u8) wr (fun j => (Value.slice Ac l0.length cc).ownBlock = some j) (if c = m then A else A.map (·.add m)) (n - m) (l0.drop (s + m))) := ⟨by simpa [Kd.int, Kd.scalar, Nat.add_comm] using hF2⟩
          have hne : Aside0 (∀ j, (Value.slice Ac l0.length cc).ownBlock = some j → ∀ v, NP wr w.heap.size (fun j => (Value.slice Ac l0.length cc).ownBlock = some j) v outs → some j ≠ v.ownBlock) := ⟨fun j hj v hv => by
            obtain ⟨cells, hcl⟩ := Kd.R_typed HVC.out j hj
            exact NP_ne hv hcl⟩
          have HM := Aside0.mk hmn
          obtain ⟨i0, hi0, _, hsz0, _⟩ := info_parts info5
          have hcut1 := fun W => run_cut_cap (P := Try.prog) 43 5 Try.underlying43 hi0 hsz0 A n c m (by omega) W
          have hcut2 := fun W => run_cut_from (P := Try.prog) 43 5 Try.underlying43 hi0 hsz0 A n c m hmn W
          rw [hm] at hx
          generalize hA' : (if c = m then A else A.map (·.add m)) = A' at hcut2 HF2
          clear hA'
          have HLe := Aside0.mk hle
          clear hcase hstep hle hl hmn hdl hF hF1 hF2 hl1 hl2 hi0 hsz0 HF HN HO hm
          go_wp2_with (at_builtin; refine NP_append (w0 := w) w.heap.size rfl (.tmp 34) (.tmp 39) 90 (.slice none 0 0) 24 rfl Try.underlying90 info43 (by decide) (by omega) _ outs ((l0.drop s).take m) [.slice A m m] (fun j => (Value.slice Ac l0.length cc).ownBlock = some j) rfl rfl HE.out (fun j hj => hne.out j hj _ HP.out) HP.out HB.out (below_size HB.out) ?aL ?_; (case aL => have := HL.out; have := HLen.out; omega); intro v1 w1 hp hb hg hat; have HP1 := Aside0.mk hp; have HB1 := Aside0.mk hb; have HF3 := Aside0.mk (Kd.F_grown HF2.out hg (fun j hj => hne.out j hj _ HP.out)); have HVC1 := Aside0.mk (Kd.R_grown2 HVC.out rfl hg (fun j hj e => hne.out j e.symm _ HP.out hj.symm)); clear hp hb hg hat HP HB HVC HF2 HE hne)
          go_roundg (gk - 1)
          case measure => have := HK.out; omega
          case rel => exact ⟨k + 1, s + m, outs ++ [(l0.drop s).take m], _, n - m, c - m, by have := HLen.out; rw [show wrap64 ((k : Int) + 1) = ((k + 1 : Nat) : Int) from by unfold wrap64; omega], rfl, ⟨by have := HK.out; omega⟩, HN', HO', ⟨by have := HL.out; have := HM.out; rw [List.length_append]; refine ⟨by simp; omega, by omega, by omega⟩⟩, HF3, HP1, HVC1, HB1⟩
        · have hk1 : decide ((k : Int) < (l1.length : Int)) = false := decide_eq_false (by omega)
          have HR : Aside0 (outs = r1) := ⟨by have := HO.out; rw [List.drop_of_length_le (by omega), cutGo] at this; simpa using this⟩
          have HVV := Aside0.mk (NP_V HP.out HVC.out (fun _ hk => hk))
          clear HF HN HO
          go_wp2
          go_ret2
          exact ⟨_, rfl, by rw [← HR.out]; exact HVV.out, HB.out⟩
    · have HX : Aside0 ([] = r1) := ⟨by rw [if_pos hb] at h; cases h; rfl⟩
      have hr2 : r2 = 10 := by rw [if_pos hb] at h; cases h; rfl
      subst hr2
      have hq1 : (s != (l0.length : Int)) = true := by simpa using hb
      clear h hsum hs hb
      go_enter Try.func54, Try.ntmps54
      go_wp2_with (go_at_call 74; refine (num_Size.calls _ _ _ _ _ _ HR1.out HC1.out HS.out).mono ?_; rintro e w2 ⟨rfl, hb2⟩; have HB2 := Aside0.mk hb2; clear hb2)
      go_ret2
      exact ⟨_, rfl, by rw [← HX.out]; exact Kd.V_nil _ _ _ _ _, HB2.out⟩
  · have HX : Aside0 ([] = r1) := ⟨by rw [if_pos he] at h; cases h; rfl⟩
    have hr2 : e = r2 := by rw [if_pos he] at h; cases h; rfl
    subst hr2
    have hq1 : (e != 0) = true := by simpa using he
    clear h hs he
    go_enter Try.func54, Try.ntmps54
    go_wp2_with (go_at_call 74; refine (num_Size.calls _ _ _ _ _ _ HR1.out HC1.out HS.out).mono ?_; rintro e w2 ⟨rfl, hb2⟩; have HB2 := Aside0.mk hb2; clear hb2)
    go_ret2
    exact ⟨_, rfl, by rw [← HX.out]; exact Kd.V_nil _ _ _ _ _, HB2.out⟩

theorem num_Cut.calls (A0 : Option Addr) (c0 : Nat) (l0 : List Int) (A1 : Option Addr) (c1 : Nat) (l1 : List Int) (r1 : List (List Int)) (r2 : Int) (w : World) (hr0 : Kd.C (Kd.int .u8) w A0 l0.length l0) (hc0 : l0.length ≤ c0)
    (hr1 : Kd.C (Kd.int .i64) w A1 l1.length l1) (hc1 : l1.length ≤ c1) (h : num_Cut.f l0 l1 = some (r1, r2)) :
    Calls Try.prog 54 #[.slice A0 l0.length c0, .slice A1 l1.length c1] w fun e w' => ∃ v0_ : Value, e = .returned (.tuple #[v0_, .int .i64 r2]) ∧
      Kd.V (Kd.slice 5 (Kd.int .u8)) 43 w' w.heap.size (fun k_ => w.heap.size ≤ k_) v0_ r1 ∧ Below w.heap.size w w' :=
  (num_Cut.calls2 A0 c0 l0 A1 c1 l1 r1 r2 w hr0 hc0 hr1 hc1 h).mono fun e w' ⟨v, he, hv, hb⟩ => ⟨v, he, Kd.V_mono hv (fun _ hk => hk.1), hb⟩

end Go.Proofs.Ytknmokpnkcckeaa

-- Printed for this claim by a program of this session, over the kit's print.
namespace Go.Proofs.Ytknmokpnkcckeaa.PAll
open Go.RowKit Go.Proofs.YtknmokpnkcckeaaW.PrintWords Go.Proofs.YtknmokpnkcckeaaW.PrintLast Go.Proofs.YtknmokpnkcckeaaW.PrintMore
attribute [local go_sem] max2_int min2_int max_two min_two max_three min_three max_four min_four   -- for this text's walks alone
set_option linter.unusedVariables false
set_option linter.unusedSimpArgs false

/-! ### num_Put: function 62 -/
mutual
def num_Put.j0 : Nat → List Int → List Int → Int → Bool → Option (List Int × Int)
  | 0, _, _, _, _ => none
  | k + 1, x0, x1, x6, x24 => if x24 = true then (some (([] : List Int), 2)) else (if 0 ≤ x6 then (if (x6 : Int).toNat ≤ 281474976710656 then (num_Put.l0 k x1 (([] : List Int)) x0 (x0.length : Int) 0) else (none)) else (none))
def num_Put.l0 : Nat → List Int → List Int → List Int → Int → Int → Option (List Int × Int)
  | 0, _, _, _, _, _ => none
  | k + 1, x1, x8, x27, x28, x29 => if x29 < x28 then (if 0 ≤ x29 then (if x29 < (x27.length : Int) then (if x29 < (x1.length : Int) then (num_Put.l1 k x1 x8 (rd x27 x29) x27 x28 x29 (rd x1 x29) 0) else (none)) else (none)) else (none)) else (some (x8, 0))
def num_Put.l1 : Nat → List Int → List Int → Int → List Int → Int → Int → Int → Int → Option (List Int × Int)
  | 0, _, _, _, _, _, _, _, _ => none
  | k + 1, x1, x8, x10, x27, x28, x29, x37, x38 => if x38 < x37 then (if x8.length < 140737488355328 then (num_Put.l1 k x1 (x8 ++ [(x10) % 256]) (x10 / 256) x27 x28 x29 x37 (wrap64 (x38 + 1))) else (none)) else (if x10 > 0 then (some (([] : List Int), 4)) else (num_Put.l0 k x1 x8 x27 x28 (wrap64 (x29 + 1))))
end
def num_Put.f (k : Nat) (l0 : List Int) (l1 : List Int) : Option (List Int × Int) := (num_numbers.f l1).bind fun bt249 => (if bt249.2 = 0 then (num_Put.j0 k l0 l1 bt249.1 ((l0.length : Int) != (l1.length : Int))) else (num_Put.j0 k l0 l1 bt249.1 true))
theorem num_Put.mono_l : ∀ k, (∀ y0 y1 y2 y3, LeO (num_Put.j0 k y0 y1 y2 y3) (num_Put.j0 (k + 1) y0 y1 y2 y3)) ∧ (∀ y0 y1 y2 y3 y4, LeO (num_Put.l0 k y0 y1 y2 y3 y4) (num_Put.l0 (k + 1) y0 y1 y2 y3 y4)) ∧ (∀ y0 y1 y2 y3 y4 y5 y6 y7, LeO (num_Put.l1 k y0 y1 y2 y3 y4 y5 y6 y7) (num_Put.l1 (k + 1) y0 y1 y2 y3 y4 y5 y6 y7))
  | 0 => ⟨fun _ _ _ _ r h => by simp [num_Put.j0] at h, fun _ _ _ _ _ r h => by simp [num_Put.l0] at h, fun _ _ _ _ _ _ _ _ r h => by simp [num_Put.l1] at h⟩
  | k + 1 => by
    obtain ⟨ih0, ih1, ih2⟩ := num_Put.mono_l k
    refine ⟨?_, ?_, ?_⟩
    · intro y0 y1 y2 y3
      unfold num_Put.j0
      repeat' first
      | (with_reducible exact ih0 _ _ _ _)
      | (with_reducible exact ih1 _ _ _ _ _)
      | (with_reducible exact ih2 _ _ _ _ _ _ _ _)
      | (with_reducible exact LeO.refl _)
      | (with_reducible exact LeO.none _)
      | (with_reducible refine LeO.ite ?_ ?_)
      | (with_reducible refine LeO.bind ?_ (fun _ => ?_))
      | exact ih0 _ _ _ _
      | exact ih1 _ _ _ _ _
      | exact ih2 _ _ _ _ _ _ _ _
      | exact LeO.none _
      | refine LeO.ite ?_ ?_
      | refine LeO.bind ?_ (fun _ => ?_)
    · intro y0 y1 y2 y3 y4
      unfold num_Put.l0
      repeat' first
      | (with_reducible exact ih0 _ _ _ _)
      | (with_reducible exact ih1 _ _ _ _ _)
      | (with_reducible exact ih2 _ _ _ _ _ _ _ _)
      | (with_reducible exact LeO.refl _)
      | (with_reducible exact LeO.none _)
      | (with_reducible refine LeO.ite ?_ ?_)
      | (with_reducible refine LeO.bind ?_ (fun _ => ?_))
      | exact ih0 _ _ _ _
      | exact ih1 _ _ _ _ _
      | exact ih2 _ _ _ _ _ _ _ _
      | exact LeO.none _
      | refine LeO.ite ?_ ?_
      | refine LeO.bind ?_ (fun _ => ?_)
    · intro y0 y1 y2 y3 y4 y5 y6 y7
      unfold num_Put.l1
      repeat' first
      | (with_reducible exact ih0 _ _ _ _)
      | (with_reducible exact ih1 _ _ _ _ _)
      | (with_reducible exact ih2 _ _ _ _ _ _ _ _)
      | (with_reducible exact LeO.refl _)
      | (with_reducible exact LeO.none _)
      | (with_reducible refine LeO.ite ?_ ?_)
      | (with_reducible refine LeO.bind ?_ (fun _ => ?_))
      | exact ih0 _ _ _ _
      | exact ih1 _ _ _ _ _
      | exact ih2 _ _ _ _ _ _ _ _
      | exact LeO.none _
      | refine LeO.ite ?_ ?_
      | refine LeO.bind ?_ (fun _ => ?_)
theorem num_Put.mono : ∀ a0 a1 k, LeO (num_Put.f k a0 a1) (num_Put.f (k + 1) a0 a1) := by
  intro a0 a1 k
  obtain ⟨ih0, ih1, ih2⟩ := num_Put.mono_l k
  unfold num_Put.f
  repeat' first
      | (with_reducible exact ih0 _ _ _ _)
      | (with_reducible exact ih1 _ _ _ _ _)
      | (with_reducible exact ih2 _ _ _ _ _ _ _ _)
      | (with_reducible exact LeO.refl _)
      | (with_reducible exact LeO.none _)
      | (with_reducible refine LeO.ite ?_ ?_)
      | (with_reducible refine LeO.bind ?_ (fun _ => ?_))
      | exact ih0 _ _ _ _
      | exact ih1 _ _ _ _ _
      | exact ih2 _ _ _ _ _ _ _ _
      | exact LeO.none _
      | refine LeO.ite ?_ ?_
      | refine LeO.bind ?_ (fun _ => ?_)
set_option maxHeartbeats 8000000 in
set_option maxRecDepth 100000 in
theorem num_Put.calls (k : Nat) (A0 : Option Addr) (c0 : Nat) (l0 : List Int) (A1 : Option Addr) (c1 : Nat) (l1 : List Int) (r1 : List Int) (r2 : Int) (w : World) (hr0 : Kd.C (Kd.int .u64) w A0 l0.length l0) (hc0 : l0.length ≤ c0) (hr1 : Kd.C (Kd.int .i64) w A1 l1.length l1) (hc1 : l1.length ≤ c1) (h : num_Put.f k l0 l1 = some (r1, r2)) :
    Calls Try.prog 62 #[.slice A0 l0.length c0, .slice A1 l1.length c1] w fun e w' => ∃ v0_ : Value, e = .returned (.tuple #[v0_, .int .i64 r2]) ∧ Kd.R (Kd.int .u8) 5 w' w.heap.size (fun _ => True) v0_ r1 ∧ Below w.heap.size w w' := by
  have HR0 := Aside0.mk hr0
  have HC0 := Aside0.mk hc0
  clear hr0 hc0
  have HR1 := Aside0.mk hr1
  have HC1 := Aside0.mk hc1
  clear hr1 hc1
  have HB := Aside0.mk (Below.refl w.heap.size w)
  have H : ((num_numbers.f l1).bind fun bt249 => (if bt249.2 = 0 then (num_Put.j0 k l0 l1 bt249.1 ((l0.length : Int) != (l1.length : Int))) else (num_Put.j0 k l0 l1 bt249.1 true))) = some (r1, r2) := h
  clear h
  replace H := Option.bind_eq_some_iff.mp H
  obtain ⟨⟨t249, t250⟩, A30, H⟩ := H
  replace H : (if t250 = 0 then (num_Put.j0 k l0 l1 t249 ((l0.length : Int) != (l1.length : Int))) else (num_Put.j0 k l0 l1 t249 true)) = some (r1, r2) := H
  have A3 := Aside0.mk A30
  clear A30
  have HC4 := Aside0.mk H
  clear H
  go_enter Try.func62, Try.ntmps62
  go_upto_region 2 with (first | ((with_reducible refine gate_callee (f := 80) rfl ?_); refine goesL_ (some 13) rfl rfl Try.func80 (by kernel_rfl) rfl #[.slice A1 l1.length c1] rfl (by (try simp only [List.map_toArray, List.map_cons, List.map_nil]); first | done | rfl | (simp only [List.length_drop, List.length_take]; rfl)) ?_; (with_reducible refine (num_numbers.calls _ _ l1 t249 t250 _ ?side1 ?side2 A3.out).mono ?_); (case side1 => repeat (first | exact HR1.out | (with_reducible refine Kd.C_alloc ?_ _) | (with_reducible refine Kd.C_drewN ?_ _) | (with_reducible refine Kd.C_drew ?_))); (case side2 => exact HC1.out); rintro e w5 ⟨rfl, hb⟩; refine ⟨_, rfl, ?_⟩; have n0_ := Aside0.mk (below_step (by repeat (first | (with_reducible first | exact HB.out | apply below_alloc | apply pw_below_drewN | apply below_drew1) | exact HB.out)) hb); clear HB; have HB := n0_; clear n0_; (try clear hb); (try clear hb2); (try clear hk); (try clear hi)))
  (try simp only [Act.put, List.setIfInBounds_toArray, List.set_cons_zero, List.set_cons_succ])
  go_cut [24] (fun v24 wc => ∃ (kq : Nat) (x24_3 : Bool), v24 = .bool x24_3 ∧ Aside0 (num_Put.j0 kq l0 l1 t249 x24_3 = some (r1, r2)) ∧ Aside0 (kq ≤ k) ∧ Aside0 (Below w.heap.size w wc))
  case first =>
    have H := HC4.out
    clear HC4
    by_cases c6 : t250 = 0
    · rw [if_pos c6] at H
      have c6b0 : (t250 == 0) = true := beq_iff_eq.mpr c6
      have c6b1 : (t250 != 0) = false := bne_eq_false_iff_eq.mpr c6
      clear c6
      (first | rw [c6b0] | (simp only [i64_w, i32_w]; rw [c6b0]) | skip)
      have H' := Aside0.mk H
      clear H
      go_wp2
      go_meet
      case rel => exact ⟨_, (((l0.length : Int) != (l1.length : Int))), (by first | rfl | (simp; done) | (simp [*]; done)), H', ⟨by first | omega | exact Nat.le_refl _⟩, ⟨by repeat (first | (with_reducible first | exact HB.out | apply below_alloc | apply pw_below_drewN | apply below_drew1) | exact HB.out)⟩⟩
    · rw [if_neg c6] at H
      have c6b0 : (t250 == 0) = false := beq_eq_false_iff_ne.mpr c6
      have c6b1 : (t250 != 0) = true := bne_iff_ne.mpr c6
      (first | rw [c6b0] | (simp only [i64_w, i32_w]; rw [c6b0]) | skip)
      have H' := Aside0.mk H
      clear H
      go_wp2
      go_meet
      case rel => exact ⟨_, (true), (by first | rfl | (simp; done) | (simp [*]; done)), H', ⟨by first | omega | exact Nat.le_refl _⟩, ⟨by repeat (first | (with_reducible first | exact HB.out | apply below_alloc | apply pw_below_drewN | apply below_drew1) | exact HB.out)⟩⟩
  case rest =>
    clear HC4
    try clear c1
    try clear p2
    try clear c6
    try clear c6b0
    try clear c6b1
    obtain ⟨kq, x24_3, rfl, HA, HJ3, HB⟩ := hcut
    cases kq with
    | zero => exact absurd HA.out (by simp [num_Put.j0])
    | succ kj3 =>
      have H := HA.out
      clear HA
      simp only [num_Put.j0] at H
      by_cases c7 : x24_3 = true
      · subst c7
        have H1 : (some (([] : List Int), 2)) = some (r1, r2) := by rw [if_pos rfl] at H; exact H
        clear H
        have H := H1
        clear H1
        simp only [Option.some.injEq, Prod.mk.injEq] at H
        obtain ⟨rfl, rfl⟩ := H
        go_wp2
        go_ret2
        exact ⟨_, by first | rfl | (simp [errW_none, errW_some] <;> rfl) | (simp [*, errW_none, errW_some] <;> rfl), by first | exact Kd.R_nil _ _ _ _ _ | exact Kd.N_nil _ _ _ _ _ | exact Kd.V_nil _ _ _ _ _ | exact Kd.Q_nil _ _ _ _ _ | exact Kd.S_nil _ _ _ _ _, by repeat (first | (with_reducible first | exact HB.out | apply below_alloc | apply pw_below_drewN | apply below_drew1) | exact HB.out)⟩
      · replace c7 := Bool.eq_false_iff.mpr c7
        subst c7
        have H1 : (if 0 ≤ t249 then (if (t249 : Int).toNat ≤ 281474976710656 then (num_Put.l0 kj3 l1 (([] : List Int)) l0 (l0.length : Int) 0) else (none)) else (none)) = some (r1, r2) := by rw [if_neg (show ¬ (false = true) by decide)] at H; exact H
        clear H
        have H := H1
        clear H1
        by_cases c8 : 0 ≤ t249
        · rw [if_pos c8] at H
          have c8b0 := eq_true c8
          have c8b1 : decide (0 ≤ t249) = true := decide_eq_true c8
          clear c8
          by_cases c9 : (t249 : Int).toNat ≤ 281474976710656
          · rw [if_pos c9] at H
            have c9b0 := eq_true c9
            have c9b1 : decide ((t249 : Int).toNat ≤ 281474976710656) = true := decide_eq_true c9
            clear c9
            obtain ⟨y251, hy251⟩ : ∃ y_ : List Int, y_ = (([] : List Int)) := ⟨_, rfl⟩
            replace H : (num_Put.l0 kj3 l1 y251 l0 (l0.length : Int) 0) = some (r1, r2) := by first | (rw [hy251]; with_reducible exact H) | (have H2_ := (Option.bind_some _ _).symm.trans H; rw [hy251]; with_reducible exact H2_) | (have H2_ := (Option.bind_some _ _).symm.trans H; with_reducible exact H2_) | with_reducible exact H | (rw [hy251]; exact H) | exact H
            have Ny251 := Aside0.mk hy251
            clear hy251
            have H' := Aside0.mk H
            clear H
            go_wp2_with (first | ((with_reducible refine gate_dst (N := 26) rfl ?_); (try (refine gate_guard (by rfl) ?_; dsimp only)); refine Kd.R_make0 (Kd.int .u8) _ 5 rfl (N := 26) rfl 43 _ _ rfl t249 rfl rfl Try.underlying43 (.int .u8 0) 1 info5 rfl (by decide) (by omega) 0 (ok := fun _ => True) (okp := fun _ => True) rfl (fun _ hk => hk) trivial (of_decide_eq_true (by first | (with_reducible assumption) | assumption)) (Nat.le_trans (Nat.mul_le_mul_right _ (of_decide_eq_true (by first | (with_reducible assumption) | assumption) : t249.toNat ≤ 281474976710656)) (by omega)) (Below.refl _ _) (Nat.le_refl _) ?_; intro v252 w10 ho11 hb hg_ hnew_; clear hg_ hnew_; (first | rw [← Ny251.out] at ho11 | (simp only [Int.reduceToNat] at ho11; rw [← Ny251.out] at ho11)); have n0_ := Aside0.mk (Kd.R_lower ho11 (below_size (by repeat (first | (with_reducible first | exact HB.out | apply below_alloc | apply pw_below_drewN | apply below_drew1) | exact HB.out)))); have n1_ := Aside0.mk (below_step (by repeat (first | (with_reducible first | exact HB.out | apply below_alloc | apply pw_below_drewN | apply below_drew1) | exact HB.out)) hb); clear HB; have HO253 := n0_; have HB := n1_; clear n0_ n1_; clear hb ho11))
            go_loopg [8, 29] kj3 (fun kq v8 v29 w' => ∃ (x8_2 : List Int) (x29_2 : Int), v29 = .int .i64 x29_2 ∧ Aside0 (num_Put.l0 kq l1 x8_2 l0 (l0.length : Int) x29_2 = some (r1, r2)) ∧ Aside0 (kq ≤ kj3) ∧ Aside0 (Kd.R (Kd.int .u8) 5 w' w.heap.size (fun _ => True) v8 x8_2) ∧ Aside0 (Below w.heap.size w w'))
            case atStart => exact ⟨(y251), (0), (by first | rfl | (simp; done) | (simp [*]; done)), H', ⟨Nat.le_refl _⟩, ⟨by (with_reducible repeat (first | apply Kd.R_alloc | apply Kd.R_drewN | apply Kd.R_drew)); exact HO253.out⟩, ⟨by repeat (first | (with_reducible first | exact HB.out | apply below_alloc | apply pw_below_drewN | apply below_drew1) | exact HB.out)⟩⟩
            case round =>
              clear H'
              try clear c1
              try clear p2
              try clear c6
              try clear c6b0
              try clear c6b1
              try clear c7
              try clear c8
              try clear c8b0
              try clear c8b1
              try clear c9
              try clear c9b0
              try clear c9b1
              try clear p2
              obtain ⟨x8_2, x29_2, rfl, HA, HK2, HO_8, HB⟩ := hrel
              cases gk with
              | zero => exact absurd HA.out (by simp [num_Put.l0])
              | succ k2 =>
                have H := HA.out
                clear HA
                simp only [num_Put.l0] at H
                by_cases c12 : x29_2 < (l0.length : Int)
                · rw [if_pos c12] at H
                  have c12b0 : decide (x29_2 < (l0.length : Int)) = true := decide_eq_true c12
                  clear c12
                  by_cases c13 : 0 ≤ x29_2
                  · rw [if_pos c13] at H
                    have c13b0 : decide (0 ≤ x29_2) = true := decide_eq_true c13
                    clear c13
                    by_cases c14 : x29_2 < (l0.length : Int)
                    · rw [if_pos c14] at H
                      have c14b0 : decide (x29_2 < (l0.length : Int)) = true := decide_eq_true c14
                      clear c14
                      by_cases c15 : x29_2 < (l1.length : Int)
                      · rw [if_pos c15] at H
                        have c15b0 : decide (x29_2 < (l1.length : Int)) = true := decide_eq_true c15
                        clear c15
                        have H' := Aside0.mk H
                        clear H
                        have p254 : 0 ≤ (x29_2 : Int) := of_decide_eq_true (by first | (with_reducible assumption) | assumption)
                        have q254 : x29_2 < (l0.length : Int) := of_decide_eq_true (by first | (with_reducible assumption) | assumption)
                        obtain ⟨ad254, e254, hx254_0⟩ := Kd.at_int HR0.out x29_2 p254 q254
                        cases e254
                        replace hx254_0 := (HB.out.cell (World.block_lt_of_cell? w _ hx254_0)).trans hx254_0
                        replace p254 := eq_true p254
                        replace q254 := eq_true q254
                        have p255 : 0 ≤ (x29_2 : Int) := of_decide_eq_true (by first | (with_reducible assumption) | assumption)
                        have q255 : x29_2 < (l1.length : Int) := of_decide_eq_true (by first | (with_reducible assumption) | assumption)
                        obtain ⟨ad255, e255, hx255_0⟩ := Kd.at_int HR1.out x29_2 p255 q255
                        cases e255
                        replace hx255_0 := (HB.out.cell (World.block_lt_of_cell? w _ hx255_0)).trans hx255_0
                        replace p255 := eq_true p255
                        replace q255 := eq_true q255
                        go_wp2
                        go_loopg [8, 10, 38] k2 (fun kq v8 v10 v38 w' => ∃ (x8_3 : List Int) (x10_3 : Int) (x38_3 : Int), v10 = .int .u64 x10_3 ∧ v38 = .int .i64 x38_3 ∧ Aside0 (num_Put.l1 kq l1 x8_3 x10_3 l0 (l0.length : Int) x29_2 (rd l1 x29_2) x38_3 = some (r1, r2)) ∧ Aside0 (kq ≤ k2) ∧ Aside0 (Kd.R (Kd.int .u8) 5 w' w.heap.size (fun _ => True) v8 x8_3) ∧ Aside0 (Below w.heap.size w w'))
                        case atStart => exact ⟨(x8_2), (rd l0 x29_2), (0), (by first | rfl | (simp; done) | (simp [*]; done)), (by first | rfl | (simp; done) | (simp [*]; done)), H', ⟨Nat.le_refl _⟩, ⟨by (with_reducible repeat (first | apply Kd.R_alloc | apply Kd.R_drewN | apply Kd.R_drew)); exact HO_8.out⟩, ⟨by repeat (first | (with_reducible first | exact HB.out | apply below_alloc | apply pw_below_drewN | apply below_drew1) | exact HB.out)⟩⟩
                        case round =>
                          clear H'
                          try clear c1
                          try clear p2
                          try clear q2
                          try clear hx2
                          try clear c6
                          try clear c6b0
                          try clear c6b1
                          try clear c7
                          try clear c8
                          try clear c8b0
                          try clear c8b1
                          try clear c9
                          try clear c9b0
                          try clear c9b1
                          try clear c12
                          try clear c12b0
                          try clear c13
                          try clear c13b0
                          try clear c14
                          try clear c14b0
                          try clear c15
                          try clear c15b0
                          try clear hx254_0
                          try clear hx255_0
                          try clear p2
                          try clear p254
                          try clear p255
                          try clear q254
                          try clear q255
                          obtain ⟨x8_3, x10_3, x38_3, rfl, rfl, HA, HK3, HO_8, HB⟩ := hrel
                          cases gk with
                          | zero => exact absurd HA.out (by simp [num_Put.l1])
                          | succ k3 =>
                            have H := HA.out
                            clear HA
                            simp only [num_Put.l1] at H
                            by_cases c16 : x38_3 < (rd l1 x29_2)
                            · rw [if_pos c16] at H
                              have c16b0 : decide (x38_3 < (rd l1 x29_2)) = true := decide_eq_true c16
                              clear c16
                              by_cases c17 : x8_3.length < 140737488355328
                              · rw [if_pos c17] at H
                                have LMc17 := Aside0.mk c17
                                clear c17
                                obtain ⟨y256, hy256⟩ : ∃ y_ : List Int, y_ = (x8_3 ++ [(x10_3) % 256]) := ⟨_, rfl⟩
                                replace H : (num_Put.l1 k3 l1 y256 (x10_3 / 256) l0 (l0.length : Int) x29_2 (rd l1 x29_2) (wrap64 (x38_3 + 1))) = some (r1, r2) := by first | (rw [hy256]; with_reducible exact H) | (have H2_ := (Option.bind_some _ _).symm.trans H; rw [hy256]; with_reducible exact H2_) | (have H2_ := (Option.bind_some _ _).symm.trans H; with_reducible exact H2_) | with_reducible exact H | (rw [hy256]; exact H) | exact H
                                have Ny256 := Aside0.mk hy256
                                clear hy256
                                have H' := Aside0.mk H
                                clear H
                                go_wp2_with (first | ((with_reducible refine gate_builtin (b := .append) (xs := #[.tmp 40, .tmp 43]) rfl ?_); (try (refine gate_guard (by rfl) ?_; dsimp only)); at_builtin; refine Kd.R_append (Kd.int .u8) (w0 := w) w.heap.size rfl (.tmp 40) (.tmp 43) 43 5 (.int .u8 0) 1 rfl Try.underlying43 info5 rfl (by decide) (by omega) u8 x8_3 ((x10_3) % 256) [.int .u8 ((x10_3) % 256)] (fun _ => True) (fun _ => False) rfl rfl ?aP (fun _ hk => hk.elim) ?aF ?aO ?aB ?aS ?aL ?_; (case aP => exact rfl); (case aB => exact (by repeat (first | (with_reducible first | exact HB.out | apply below_alloc | apply pw_below_drewN | apply below_drew1) | exact HB.out))); (case aF => exact (fun _ _ => trivial)); (case aO => exact (by (with_reducible repeat (first | apply Kd.R_alloc | apply Kd.R_drewN | apply Kd.R_drew)); exact HO_8.out)); (case aS => exact (below_size (by repeat (first | (with_reducible first | exact HB.out | apply below_alloc | apply pw_below_drewN | apply below_drew1) | exact HB.out)))); (case aL => have := LMc17.out; omega); intro v257 w18 ho hb hg hat; rw [← Ny256.out] at ho; have n0_ := Aside0.mk (hb); have n1_ := Aside0.mk (ho); clear HB; clear HO_8; have HB := n0_; have HO258 := n1_; clear n0_ n1_; clear ho hb hg hat))
                                go_roundg k3
                                case measure => have := HJ3.out; have := HK2.out; have := HK3.out; omega
                                case rel => exact ⟨(y256), (x10_3 / 256), (wrap64 (x38_3 + 1)), (by first | rfl | (simp; done) | (simp [*]; done)), (by first | rfl | (simp; done) | (simp [*]; done)), H', ⟨by have := HJ3.out; have := HK2.out; have := HK3.out; omega⟩, ⟨by (with_reducible repeat (first | apply Kd.R_alloc | apply Kd.R_drewN | apply Kd.R_drew)); exact HO258.out⟩, ⟨by repeat (first | (with_reducible first | exact HB.out | apply below_alloc | apply pw_below_drewN | apply below_drew1) | exact HB.out)⟩⟩
                              · rw [if_neg c17] at H
                                exact absurd H (by simp)
                            · rw [if_neg c16] at H
                              have c16b0 : decide (x38_3 < (rd l1 x29_2)) = false := decide_eq_false c16
                              clear c16
                              by_cases c19 : x10_3 > 0
                              · rw [if_pos c19] at H
                                have c19b0 : decide (0 < x10_3) = true := decide_eq_true c19
                                clear c19
                                simp only [Option.some.injEq, Prod.mk.injEq] at H
                                obtain ⟨rfl, rfl⟩ := H
                                go_wp2
                                go_ret2
                                exact ⟨_, by first | rfl | (simp [errW_none, errW_some] <;> rfl) | (simp [*, errW_none, errW_some] <;> rfl), by first | exact Kd.R_nil _ _ _ _ _ | exact Kd.N_nil _ _ _ _ _ | exact Kd.V_nil _ _ _ _ _ | exact Kd.Q_nil _ _ _ _ _ | exact Kd.S_nil _ _ _ _ _, by repeat (first | (with_reducible first | exact HB.out | apply below_alloc | apply pw_below_drewN | apply below_drew1) | exact HB.out)⟩
                              · rw [if_neg c19] at H
                                have c19b0 : decide (0 < x10_3) = false := decide_eq_false c19
                                clear c19
                                have H' := Aside0.mk H
                                clear H
                                go_wp2
                                go_roundg k3
                                case measure => have := HJ3.out; have := HK2.out; have := HK3.out; omega
                                case rel => exact ⟨(x8_3), (wrap64 (x29_2 + 1)), (by first | rfl | (simp; done) | (simp [*]; done)), H', ⟨by have := HJ3.out; have := HK2.out; have := HK3.out; omega⟩, ⟨by (with_reducible repeat (first | apply Kd.R_alloc | apply Kd.R_drewN | apply Kd.R_drew)); exact HO_8.out⟩, ⟨by repeat (first | (with_reducible first | exact HB.out | apply below_alloc | apply pw_below_drewN | apply below_drew1) | exact HB.out)⟩⟩
                      · rw [if_neg c15] at H
                        exact absurd H (by simp)
                    · rw [if_neg c14] at H
                      exact absurd H (by simp)
                  · rw [if_neg c13] at H
                    exact absurd H (by simp)
                · rw [if_neg c12] at H
                  have c12b0 : decide (x29_2 < (l0.length : Int)) = false := decide_eq_false c12
                  clear c12
                  simp only [Option.some.injEq, Prod.mk.injEq] at H
                  obtain ⟨rfl, rfl⟩ := H
                  go_wp2
                  go_ret2
                  exact ⟨_, by first | rfl | (simp [errW_none, errW_some] <;> rfl) | (simp [*, errW_none, errW_some] <;> rfl), by (with_reducible repeat (first | apply Kd.R_alloc | apply Kd.R_drewN | apply Kd.R_drew)); exact HO_8.out, by repeat (first | (with_reducible first | exact HB.out | apply below_alloc | apply pw_below_drewN | apply below_drew1) | exact HB.out)⟩
          · rw [if_neg c9] at H
            exact absurd H (by simp)
        · rw [if_neg c8] at H
          exact absurd H (by simp)

end Go.Proofs.Ytknmokpnkcckeaa.PAll

-- Printed for this claim by a program of this session, over the kit's print.
namespace Go.Proofs.Ytknmokpnkcckeaa.PAll
open Go.RowKit Go.Proofs.YtknmokpnkcckeaaW.PrintWords Go.Proofs.YtknmokpnkcckeaaW.PrintLast Go.Proofs.YtknmokpnkcckeaaW.PrintMore
attribute [local go_sem] max2_int min2_int max_two min_two max_three min_three max_four min_four   -- for this text's walks alone
set_option linter.unusedVariables false
set_option linter.unusedSimpArgs false

/-! ### num_Take: function 89 -/
mutual
def num_Take.l0 : Nat → List Int → List (List Int) → Int → Int → Option (List Int × Int)
  | 0, _, _, _, _ => none
  | k + 1, x10, x32, x33, x34 => if x34 < x33 then (if 0 ≤ x34 then (if x34 < (x32.length : Int) then (num_Take.l1 k x10 (rd_L1 x32 x34) 0 x32 x33 x34 ((rd_L1 x32 x34).length : Int) 0) else (none)) else (none)) else (some (x10, 0))
def num_Take.l1 : Nat → List Int → List Int → Int → List (List Int) → Int → Int → Int → Int → Option (List Int × Int)
  | 0, _, _, _, _, _, _, _, _ => none
  | k + 1, x10, x12, x13, x32, x33, x34, x39, x40 => if x40 < x39 then (if 0 ≤ (wrap64 ((wrap64 ((x12.length : Int) - 1)) - x40)) then (if (wrap64 ((wrap64 ((x12.length : Int) - 1)) - x40)) < (x12.length : Int) then (num_Take.l1 k x10 x12 (Go.bits .or .u64 (IntKind.u64.wrap (x13 * 256)) (IntKind.u64.wrap (rd x12 (wrap64 ((wrap64 ((x12.length : Int) - 1)) - x40))))) x32 x33 x34 x39 (wrap64 (x40 + 1))) else (none)) else (none)) else (if x10.length < 17592186044416 then (num_Take.l0 k (x10 ++ [x13]) x32 x33 (wrap64 (x34 + 1))) else (none))
end
def num_Take.f (k : Nat) (l0 : List Int) (l1 : List Int) : Option (List Int × Int) := (num_numbers.f l1).bind fun bt259 => (if bt259.2 = 0 then ((num_Cut.f l0 l1).bind fun bt261 => (if bt261.2 = 0 then (num_Take.l0 k ([] : List Int) bt261.1 (bt261.1.length : Int) 0) else (some (([] : List Int), bt261.2)))) else (some (([] : List Int), bt259.2)))
theorem num_Take.mono_l : ∀ k, (∀ y0 y1 y2 y3, LeO (num_Take.l0 k y0 y1 y2 y3) (num_Take.l0 (k + 1) y0 y1 y2 y3)) ∧ (∀ y0 y1 y2 y3 y4 y5 y6 y7, LeO (num_Take.l1 k y0 y1 y2 y3 y4 y5 y6 y7) (num_Take.l1 (k + 1) y0 y1 y2 y3 y4 y5 y6 y7))
  | 0 => ⟨fun _ _ _ _ r h => by simp [num_Take.l0] at h, fun _ _ _ _ _ _ _ _ r h => by simp [num_Take.l1] at h⟩
  | k + 1 => by
    obtain ⟨ih0, ih1⟩ := num_Take.mono_l k
    refine ⟨?_, ?_⟩
    · intro y0 y1 y2 y3
      unfold num_Take.l0
      repeat' first
      | (with_reducible exact ih0 _ _ _ _)
      | (with_reducible exact ih1 _ _ _ _ _ _ _ _)
      | (with_reducible exact LeO.refl _)
      | (with_reducible exact LeO.none _)
      | (with_reducible refine LeO.ite ?_ ?_)
      | (with_reducible refine LeO.bind ?_ (fun _ => ?_))
      | exact ih0 _ _ _ _
      | exact ih1 _ _ _ _ _ _ _ _
      | exact LeO.none _
      | refine LeO.ite ?_ ?_
      | refine LeO.bind ?_ (fun _ => ?_)
    · intro y0 y1 y2 y3 y4 y5 y6 y7
      unfold num_Take.l1
      repeat' first
      | (with_reducible exact ih0 _ _ _ _)
      | (with_reducible exact ih1 _ _ _ _ _ _ _ _)
      | (with_reducible exact LeO.refl _)
      | (with_reducible exact LeO.none _)
      | (with_reducible refine LeO.ite ?_ ?_)
      | (with_reducible refine LeO.bind ?_ (fun _ => ?_))
      | exact ih0 _ _ _ _
      | exact ih1 _ _ _ _ _ _ _ _
      | exact LeO.none _
      | refine LeO.ite ?_ ?_
      | refine LeO.bind ?_ (fun _ => ?_)
theorem num_Take.mono : ∀ a0 a1 k, LeO (num_Take.f k a0 a1) (num_Take.f (k + 1) a0 a1) := by
  intro a0 a1 k
  obtain ⟨ih0, ih1⟩ := num_Take.mono_l k
  unfold num_Take.f
  repeat' first
      | (with_reducible exact ih0 _ _ _ _)
      | (with_reducible exact ih1 _ _ _ _ _ _ _ _)
      | (with_reducible exact LeO.refl _)
      | (with_reducible exact LeO.none _)
      | (with_reducible refine LeO.ite ?_ ?_)
      | (with_reducible refine LeO.bind ?_ (fun _ => ?_))
      | exact ih0 _ _ _ _
      | exact ih1 _ _ _ _ _ _ _ _
      | exact LeO.none _
      | refine LeO.ite ?_ ?_
      | refine LeO.bind ?_ (fun _ => ?_)
set_option maxHeartbeats 8000000 in
set_option maxRecDepth 100000 in
theorem num_Take.calls (k : Nat) (A0 : Option Addr) (c0 : Nat) (l0 : List Int) (A1 : Option Addr) (c1 : Nat) (l1 : List Int) (r1 : List Int) (r2 : Int) (w : World) (hr0 : Kd.C (Kd.int .u8) w A0 l0.length l0) (hc0 : l0.length ≤ c0) (hr1 : Kd.C (Kd.int .i64) w A1 l1.length l1) (hc1 : l1.length ≤ c1) (h : num_Take.f k l0 l1 = some (r1, r2)) :
    Calls Try.prog 89 #[.slice A0 l0.length c0, .slice A1 l1.length c1] w fun e w' => ∃ v0_ : Value, e = .returned (.tuple #[v0_, .int .i64 r2]) ∧ Kd.R (Kd.int .u64) 106 w' w.heap.size (fun _ => True) v0_ r1 ∧ Below w.heap.size w w' := by
  have HR0 := Aside0.mk hr0
  have HC0 := Aside0.mk hc0
  clear hr0 hc0
  have HR1 := Aside0.mk hr1
  have HC1 := Aside0.mk hc1
  clear hr1 hc1
  have HB := Aside0.mk (Below.refl w.heap.size w)
  have H : ((num_numbers.f l1).bind fun bt259 => (if bt259.2 = 0 then ((num_Cut.f l0 l1).bind fun bt261 => (if bt261.2 = 0 then (num_Take.l0 k ([] : List Int) bt261.1 (bt261.1.length : Int) 0) else (some (([] : List Int), bt261.2)))) else (some (([] : List Int), bt259.2)))) = some (r1, r2) := h
  clear h
  replace H := Option.bind_eq_some_iff.mp H
  obtain ⟨⟨t259, t260⟩, A30, H⟩ := H
  replace H : (if t260 = 0 then ((num_Cut.f l0 l1).bind fun bt261 => (if bt261.2 = 0 then (num_Take.l0 k ([] : List Int) bt261.1 (bt261.1.length : Int) 0) else (some (([] : List Int), bt261.2)))) else (some (([] : List Int), t260))) = some (r1, r2) := H
  have A3 := Aside0.mk A30
  clear A30
  by_cases c4 : t260 = 0
  · rw [if_pos c4] at H
    have c4b0 : (t260 == 0) = true := beq_iff_eq.mpr c4
    have c4b1 : (t260 != 0) = false := bne_eq_false_iff_eq.mpr c4
    clear c4
    replace H := Option.bind_eq_some_iff.mp H
    obtain ⟨⟨t261, t264⟩, A50, H⟩ := H
    replace H : (if t264 = 0 then (num_Take.l0 k ([] : List Int) t261 (t261.length : Int) 0) else (some (([] : List Int), t264))) = some (r1, r2) := H
    have A5 := Aside0.mk A50
    clear A50
    by_cases c6 : t264 = 0
    · rw [if_pos c6] at H
      have c6b0 : (t264 == 0) = true := beq_iff_eq.mpr c6
      have c6b1 : (t264 != 0) = false := bne_eq_false_iff_eq.mpr c6
      clear c6
      have H' := Aside0.mk H
      clear H
      go_enter Try.func89, Try.ntmps89
      go_wp2_with (first | ((with_reducible refine gate_callee (f := 80) rfl ?_); refine goesL_ (some 17) rfl rfl Try.func80 (by kernel_rfl) rfl #[.slice A1 l1.length c1] rfl (by (try simp only [List.map_toArray, List.map_cons, List.map_nil]); first | done | rfl | (simp only [List.length_drop, List.length_take]; rfl)) ?_; (with_reducible refine (num_numbers.calls _ _ l1 t259 t260 _ ?side1 ?side2 A3.out).mono ?_); (case side1 => repeat (first | exact HR1.out | (with_reducible refine Kd.C_alloc ?_ _) | (with_reducible refine Kd.C_drewN ?_ _) | (with_reducible refine Kd.C_drew ?_))); (case side2 => exact HC1.out); rintro e w7 ⟨rfl, hb⟩; refine ⟨_, rfl, ?_⟩; have n0_ := Aside0.mk (below_step (by repeat (first | (with_reducible first | exact HB.out | apply below_alloc | apply pw_below_drewN | apply below_drew1) | exact HB.out)) hb); clear HB; have HB := n0_; clear n0_; (try clear hb); (try clear hb2); (try clear hk); (try clear hi)) | ((with_reducible refine gate_callee (f := 54) rfl ?_); refine goesL_ (some 26) rfl rfl Try.func54 (by kernel_rfl) rfl #[.slice A0 l0.length c0, .slice A1 l1.length c1] rfl (by (try simp only [List.map_toArray, List.map_cons, List.map_nil]); first | done | rfl | (simp only [List.length_drop, List.length_take]; rfl)) ?_; (with_reducible refine (num_Cut.calls _ _ l0 _ _ l1 t261 t264 _ ?side1 ?side2 ?side3 ?side4 A5.out).mono ?_); (case side1 => repeat (first | exact (Kd.C_below HR0.out HB.out) | (with_reducible refine Kd.C_alloc ?_ _) | (with_reducible refine Kd.C_drewN ?_ _) | (with_reducible refine Kd.C_drew ?_))); (case side2 => exact HC0.out); (case side3 => repeat (first | exact (Kd.C_below HR1.out HB.out) | (with_reducible refine Kd.C_alloc ?_ _) | (with_reducible refine Kd.C_drewN ?_ _) | (with_reducible refine Kd.C_drew ?_))); (case side4 => exact HC1.out); rintro e w8 ⟨v262, rfl, ho0, hb⟩; refine ⟨_, rfl, ?_⟩; have n0_ := Aside0.mk (Kd.V_lower (Kd.V_mono (ok' := fun k_ => True) ho0 (fun k_ hk_ => trivial)) (below_size (by repeat (first | (with_reducible first | exact HB.out | apply below_alloc | apply pw_below_drewN | apply below_drew1) | exact HB.out)))); have n1_ := Aside0.mk (below_step (by repeat (first | (with_reducible first | exact HB.out | apply below_alloc | apply pw_below_drewN | apply below_drew1) | exact HB.out)) hb); clear HB; have HO263 := n0_; have HB := n1_; clear n0_ n1_; (try clear hb); (try clear hb2); (try clear hk); (try clear hi); (try clear ho0); obtain ⟨Ao9, co9, eo9⟩ := Kd.V_slice HO263.out; subst eo9))
      go_loopg [10, 34] k (fun kq v10 v34 w' => ∃ (x10_1 : List Int) (x34_1 : Int), v34 = .int .i64 x34_1 ∧ Aside0 (num_Take.l0 kq x10_1 t261 (t261.length : Int) x34_1 = some (r1, r2)) ∧ Aside0 (kq ≤ k) ∧ Aside0 (Kd.R (Kd.int .u64) 106 w' w.heap.size (fun _ => True) v10 x10_1) ∧ Aside0 (Kd.V (Kd.slice 5 (Kd.int .u8)) 43 w' w.heap.size (fun k_ => some k_ ≠ (v10 : Value).ownBlock) (.slice Ao9 t261.length co9) t261) ∧ Aside0 (Below w.heap.size w w'))
      case atStart => exact ⟨(([] : List Int)), (0), (by first | rfl | (simp; done) | (simp [*]; done)), H', ⟨Nat.le_refl _⟩, ⟨by first | exact Kd.R_nil _ _ _ _ _ | exact Kd.N_nil _ _ _ _ _ | exact Kd.V_nil _ _ _ _ _ | exact Kd.Q_nil _ _ _ _ _ | exact Kd.S_nil _ _ _ _ _⟩, ⟨by (with_reducible repeat (first | apply Kd.V_alloc | apply Kd.V_drewN | apply Kd.V_drew)); exact Kd.V_mono HO263.out (fun _ hk => (by simp [Value.ownBlock]))⟩, ⟨by repeat (first | (with_reducible first | exact HB.out | apply below_alloc | apply pw_below_drewN | apply below_drew1) | exact HB.out)⟩⟩
      case round =>
        clear H'
        try clear c1
        try clear p2
        try clear c4
        try clear c4b0
        try clear c4b1
        try clear c5
        try clear c6
        try clear c6b0
        try clear c6b1
        try clear c8
        obtain ⟨x10_1, x34_1, rfl, HA, HK1, HO_10, HO_32, HB⟩ := hrel
        cases gk with
        | zero => exact absurd HA.out (by simp [num_Take.l0])
        | succ k1 =>
          have H := HA.out
          clear HA
          simp only [num_Take.l0] at H
          by_cases c10 : x34_1 < (t261.length : Int)
          · rw [if_pos c10] at H
            have c10b0 : decide (x34_1 < (t261.length : Int)) = true := decide_eq_true c10
            clear c10
            by_cases c11 : 0 ≤ x34_1
            · rw [if_pos c11] at H
              have c11b0 : decide (0 ≤ x34_1) = true := decide_eq_true c11
              clear c11
              by_cases c12 : x34_1 < (t261.length : Int)
              · rw [if_pos c12] at H
                have c12b0 : decide (x34_1 < (t261.length : Int)) = true := decide_eq_true c12
                clear c12
                have H' := Aside0.mk H
                clear H
                have p265 : 0 ≤ (x34_1 : Int) := of_decide_eq_true (by first | (with_reducible assumption) | assumption)
                have q265 : x34_1 < (t261.length : Int) := of_decide_eq_true (by first | (with_reducible assumption) | assumption)
                obtain ⟨ad265, A265_0, c265_0, e265, hx265_0, hl265_0, hi265_0⟩ := at_L1 (Kd.V_reads' HO_32.out).2.2 x34_1 p265 q265
                cases e265
                obtain ⟨ce265, hce265, hMe265, hcc265⟩ := Kd.V_get HO_32.out [] x34_1 p265 (by first | exact q265 | exact of_decide_eq_true (by first | (with_reducible assumption) | assumption) | (have e_ := (Kd.V_reads' HO_32.out).1; omega))
                obtain ⟨ua265_0, uc265_0, rfl, ul265_0, ge265_0⟩ := Kd.FK_slice_open hMe265
                have hv265_0 := hcc265 0 _ rfl
                rw [Nat.add_zero, show ((Kd.slice 5 (Kd.int .u8))).sz = 1 from rfl, Nat.mul_one] at hv265_0
                replace hv265_0 := Option.some.inj (hv265_0.symm.trans hx265_0)
                injection hv265_0 with hva_ hvn_ hvc_
                rw [hva_] at ge265_0
                rw [hvc_] at ul265_0
                have HL265_0 := Aside0.mk (show Kd.V (Kd.int .u8) 5 _ w.heap.size _ _ (rd_L1 t261 x34_1) from Kd.V_mk ul265_0 ge265_0)
                clear hva_ hvn_ hvc_ ge265_0 ul265_0
                clear hcc265 hce265
                have HR265_0 := Aside0.mk hi265_0
                have HC265_0 := Aside0.mk hl265_0
                clear hi265_0 hl265_0
                replace p265 := eq_true p265
                replace q265 := eq_true q265
                go_wp2
                go_loopg [13, 40] k1 (fun kq v13 v40 w' => ∃ (x13_2 : Int) (x40_2 : Int), v13 = .int .u64 x13_2 ∧ v40 = .int .i64 x40_2 ∧ Aside0 (num_Take.l1 kq x10_1 (rd_L1 t261 x34_1) x13_2 t261 (t261.length : Int) x34_1 ((rd_L1 t261 x34_1).length : Int) x40_2 = some (r1, r2)) ∧ Aside0 (kq ≤ k1) ∧ Aside0 (Kd.R (Kd.int .u64) 106 w' w.heap.size (fun _ => True) u10 x10_1) ∧ Aside0 (Kd.V (Kd.slice 5 (Kd.int .u8)) 43 w' w.heap.size (fun k_ => some k_ ≠ (u10 : Value).ownBlock) (.slice (some ad265) t261.length co9) t261) ∧ Aside0 (Kd.C (Kd.int .u8) w' A265_0 (rd_L1 t261 x34_1).length (rd_L1 t261 x34_1)) ∧ Aside0 (Below w.heap.size w w'))
                case atStart => exact ⟨(0), (0), (by first | rfl | (simp; done) | (simp [*]; done)), (by first | rfl | (simp; done) | (simp [*]; done)), H', ⟨Nat.le_refl _⟩, ⟨by (with_reducible repeat (first | apply Kd.R_alloc | apply Kd.R_drewN | apply Kd.R_drew)); exact HO_10.out⟩, ⟨by (with_reducible repeat (first | apply Kd.V_alloc | apply Kd.V_drewN | apply Kd.V_drew)); exact HO_32.out⟩, ⟨by repeat (first | (with_reducible exact HR265_0.out) | (with_reducible refine Kd.C_alloc ?_ _) | (with_reducible refine Kd.C_drewN ?_ _) | (with_reducible refine Kd.C_drew ?_) | exact HR265_0.out)⟩, ⟨by repeat (first | (with_reducible first | exact HB.out | apply below_alloc | apply pw_below_drewN | apply below_drew1) | exact HB.out)⟩⟩
                case round =>
                  clear H'
                  try clear c1
                  try clear c2
                  try clear p2
                  try clear q2
                  try clear hx2
                  try clear c4
                  try clear c4b0
                  try clear c4b1
                  try clear c5
                  try clear c6
                  try clear c6b0
                  try clear c6b1
                  try clear c8
                  try clear c10
                  try clear c10b0
                  try clear c11
                  try clear c11b0
                  try clear c12
                  try clear c12b0
                  try clear hx265_0
                  try clear p2
                  try clear p265
                  try clear q265
                  obtain ⟨x13_2, x40_2, rfl, rfl, HA, HK2, HO_10, HO_32, HR265_0, HB⟩ := hrel
                  cases gk with
                  | zero => exact absurd HA.out (by simp [num_Take.l1])
                  | succ k2 =>
                    have H := HA.out
                    clear HA
                    simp only [num_Take.l1] at H
                    by_cases c13 : x40_2 < ((rd_L1 t261 x34_1).length : Int)
                    · rw [if_pos c13] at H
                      have c13b0 : decide (x40_2 < ((rd_L1 t261 x34_1).length : Int)) = true := decide_eq_true c13
                      clear c13
                      obtain ⟨ji14, hji14⟩ : ∃ j_ : Int, (wrap64 ((wrap64 (((rd_L1 t261 x34_1).length : Int) - 1)) - x40_2)) = j_ := ⟨_, rfl⟩
                      replace H : (if 0 ≤ (ji14) then (if (ji14) < ((rd_L1 t261 x34_1).length : Int) then (num_Take.l1 k2 x10_1 (rd_L1 t261 x34_1) (Go.bits .or .u64 (IntKind.u64.wrap (x13_2 * 256)) (IntKind.u64.wrap (rd (rd_L1 t261 x34_1) (ji14)))) t261 (t261.length : Int) x34_1 ((rd_L1 t261 x34_1).length : Int) (wrap64 (x40_2 + 1))) else (none)) else (none)) = some (r1, r2) := by first | (rw [hji14] at H; exact H) | (simp only [hji14] at H ⊢; exact H)
                      have hji14w : (IntKind.i64.wrap ((wrap64 (((rd_L1 t261 x34_1).length : Int) - 1)) - x40_2)) = ji14 := (i64_w _).trans hji14
                      by_cases c15 : 0 ≤ (ji14)
                      · rw [if_pos c15] at H
                        have c15b0 : decide (0 ≤ (ji14)) = true := decide_eq_true c15
                        clear c15
                        by_cases c16 : (ji14) < ((rd_L1 t261 x34_1).length : Int)
                        · rw [if_pos c16] at H
                          have c16b0 : decide ((ji14) < ((rd_L1 t261 x34_1).length : Int)) = true := decide_eq_true c16
                          clear c16
                          have H' := Aside0.mk H
                          clear H
                          have p266 : 0 ≤ ((ji14) : Int) := of_decide_eq_true (by first | (with_reducible assumption) | assumption)
                          have q266 : (ji14) < ((rd_L1 t261 x34_1).length : Int) := of_decide_eq_true (by first | (with_reducible assumption) | assumption)
                          obtain ⟨ad266, e266, hx266_0⟩ := Kd.at_int HR265_0.out (ji14) p266 q266
                          cases e266
                          (first | (replace hx266_0 := (HB.out.cell (World.block_lt_of_cell? w _ hx266_0)).trans hx266_0) | skip)
                          replace p266 := eq_true p266
                          replace q266 := eq_true q266
                          go_wp2
                          go_roundg k2
                          case measure => have := HK1.out; have := HK2.out; omega
                          case rel => exact ⟨(Go.bits .or .u64 (IntKind.u64.wrap (x13_2 * 256)) (IntKind.u64.wrap (rd (rd_L1 t261 x34_1) (ji14)))), (wrap64 (x40_2 + 1)), (by first | rfl | (simp; done) | (simp only [← hji14] <;> (first | rfl | simp)) | (simp [*]; done)), (by first | rfl | (simp; done) | (simp [*]; done)), H', ⟨by have := HK1.out; have := HK2.out; omega⟩, ⟨by (with_reducible repeat (first | apply Kd.R_alloc | apply Kd.R_drewN | apply Kd.R_drew)); exact HO_10.out⟩, ⟨by (with_reducible repeat (first | apply Kd.V_alloc | apply Kd.V_drewN | apply Kd.V_drew)); exact HO_32.out⟩, ⟨by repeat (first | (with_reducible exact HR265_0.out) | (with_reducible refine Kd.C_alloc ?_ _) | (with_reducible refine Kd.C_drewN ?_ _) | (with_reducible refine Kd.C_drew ?_) | exact HR265_0.out)⟩, ⟨by repeat (first | (with_reducible first | exact HB.out | apply below_alloc | apply pw_below_drewN | apply below_drew1) | exact HB.out)⟩⟩
                        · rw [if_neg c16] at H
                          exact absurd H (by simp)
                      · rw [if_neg c15] at H
                        exact absurd H (by simp)
                    · rw [if_neg c13] at H
                      have c13b0 : decide (x40_2 < ((rd_L1 t261 x34_1).length : Int)) = false := decide_eq_false c13
                      clear c13
                      by_cases c17 : x10_1.length < 17592186044416
                      · rw [if_pos c17] at H
                        have LMc17 := Aside0.mk c17
                        clear c17
                        obtain ⟨y267, hy267⟩ : ∃ y_ : List Int, y_ = (x10_1 ++ [x13_2]) := ⟨_, rfl⟩
                        replace H : (num_Take.l0 k2 y267 t261 (t261.length : Int) (wrap64 (x34_1 + 1))) = some (r1, r2) := by first | (rw [hy267]; with_reducible exact H) | (have H2_ := (Option.bind_some _ _).symm.trans H; rw [hy267]; with_reducible exact H2_) | (have H2_ := (Option.bind_some _ _).symm.trans H; with_reducible exact H2_) | with_reducible exact H | (rw [hy267]; exact H) | exact H
                        have Ny267 := Aside0.mk hy267
                        clear hy267
                        have H' := Aside0.mk H
                        clear H
                        go_wp2_with (first | ((with_reducible refine gate_builtin (b := .append) (xs := #[.tmp 56, .tmp 58]) rfl ?_); at_builtin; refine Kd.R_append (Kd.int .u64) (w0 := w) w.heap.size rfl (.tmp 56) (.tmp 58) 107 106 (.int .u64 0) 8 rfl Try.underlying107 info106 rfl (by decide) (by omega) u10 x10_1 x13_2 [.int .u64 x13_2] (fun _ => True) (fun _ => False) rfl rfl ?aP (fun _ hk => hk.elim) ?aF ?aO ?aB ?aS ?aL ?_; (case aP => exact rfl); (case aB => exact (by repeat (first | (with_reducible first | exact HB.out | apply below_alloc | apply pw_below_drewN | apply below_drew1) | exact HB.out))); (case aF => exact (fun _ _ => trivial)); (case aO => exact (by (with_reducible repeat (first | apply Kd.R_alloc | apply Kd.R_drewN | apply Kd.R_drew)); exact HO_10.out)); (case aS => exact (below_size (by repeat (first | (with_reducible first | exact HB.out | apply below_alloc | apply pw_below_drewN | apply below_drew1) | exact HB.out)))); (case aL => have := LMc17.out; omega); intro v268 w18 ho hb hg hat; rw [← Ny267.out] at ho; have n0_ := Aside0.mk (Kd.V_afterv (ok := (fun _ => True)) (by (with_reducible repeat (first | apply Kd.V_alloc | apply Kd.V_drewN | apply Kd.V_drew)); exact Kd.V_mono HO_32.out (fun _ hk => ⟨trivial, hk⟩)) hg hat); have n1_ := Aside0.mk (hb); have n2_ := Aside0.mk (ho); clear HO_32; clear HB; clear HO_10; have HO_32 := n0_; have HB := n1_; have HO269 := n2_; clear n0_ n1_ n2_; clear ho hb hg hat))
                        go_roundg k2
                        case measure => have := HK1.out; have := HK2.out; omega
                        case rel => exact ⟨(y267), (wrap64 (x34_1 + 1)), (by first | rfl | (simp; done) | (simp [*]; done)), H', ⟨by have := HK1.out; have := HK2.out; omega⟩, ⟨by (with_reducible repeat (first | apply Kd.R_alloc | apply Kd.R_drewN | apply Kd.R_drew)); exact HO269.out⟩, ⟨by (with_reducible repeat (first | apply Kd.V_alloc | apply Kd.V_drewN | apply Kd.V_drew)); exact Kd.V_mono HO_32.out (fun _ hk => hk.2)⟩, ⟨by repeat (first | (with_reducible first | exact HB.out | apply below_alloc | apply pw_below_drewN | apply below_drew1) | exact HB.out)⟩⟩
                      · rw [if_neg c17] at H
                        exact absurd H (by simp)
              · rw [if_neg c12] at H
                exact absurd H (by simp)
            · rw [if_neg c11] at H
              exact absurd H (by simp)
          · rw [if_neg c10] at H
            have c10b0 : decide (x34_1 < (t261.length : Int)) = false := decide_eq_false c10
            clear c10
            simp only [Option.some.injEq, Prod.mk.injEq] at H
            obtain ⟨rfl, rfl⟩ := H
            go_wp2
            go_ret2
            exact ⟨_, by first | rfl | (simp [errW_none, errW_some] <;> rfl) | (simp [*, errW_none, errW_some] <;> rfl), by (with_reducible repeat (first | apply Kd.R_alloc | apply Kd.R_drewN | apply Kd.R_drew)); exact HO_10.out, by repeat (first | (with_reducible first | exact HB.out | apply below_alloc | apply pw_below_drewN | apply below_drew1) | exact HB.out)⟩
    · rw [if_neg c6] at H
      have c6b0 : (t264 == 0) = false := beq_eq_false_iff_ne.mpr c6
      have c6b1 : (t264 != 0) = true := bne_iff_ne.mpr c6
      simp only [Option.some.injEq, Prod.mk.injEq] at H
      obtain ⟨rfl, rfl⟩ := H
      go_enter Try.func89, Try.ntmps89
      go_wp2_with (first | ((with_reducible refine gate_callee (f := 80) rfl ?_); refine goesL_ (some 17) rfl rfl Try.func80 (by kernel_rfl) rfl #[.slice A1 l1.length c1] rfl (by (try simp only [List.map_toArray, List.map_cons, List.map_nil]); first | done | rfl | (simp only [List.length_drop, List.length_take]; rfl)) ?_; (with_reducible refine (num_numbers.calls _ _ l1 t259 t260 _ ?side1 ?side2 A3.out).mono ?_); (case side1 => repeat (first | exact HR1.out | (with_reducible refine Kd.C_alloc ?_ _) | (with_reducible refine Kd.C_drewN ?_ _) | (with_reducible refine Kd.C_drew ?_))); (case side2 => exact HC1.out); rintro e w19 ⟨rfl, hb⟩; refine ⟨_, rfl, ?_⟩; have n0_ := Aside0.mk (below_step (by repeat (first | (with_reducible first | exact HB.out | apply below_alloc | apply pw_below_drewN | apply below_drew1) | exact HB.out)) hb); clear HB; have HB := n0_; clear n0_; (try clear hb); (try clear hb2); (try clear hk); (try clear hi)) | ((with_reducible refine gate_callee (f := 54) rfl ?_); refine goesL_ (some 26) rfl rfl Try.func54 (by kernel_rfl) rfl #[.slice A0 l0.length c0, .slice A1 l1.length c1] rfl (by (try simp only [List.map_toArray, List.map_cons, List.map_nil]); first | done | rfl | (simp only [List.length_drop, List.length_take]; rfl)) ?_; (with_reducible refine (num_Cut.calls _ _ l0 _ _ l1 t261 t264 _ ?side1 ?side2 ?side3 ?side4 A5.out).mono ?_); (case side1 => repeat (first | exact (Kd.C_below HR0.out HB.out) | (with_reducible refine Kd.C_alloc ?_ _) | (with_reducible refine Kd.C_drewN ?_ _) | (with_reducible refine Kd.C_drew ?_))); (case side2 => exact HC0.out); (case side3 => repeat (first | exact (Kd.C_below HR1.out HB.out) | (with_reducible refine Kd.C_alloc ?_ _) | (with_reducible refine Kd.C_drewN ?_ _) | (with_reducible refine Kd.C_drew ?_))); (case side4 => exact HC1.out); rintro e w20 ⟨v262, rfl, ho0, hb⟩; refine ⟨_, rfl, ?_⟩; have n0_ := Aside0.mk (Kd.V_lower (Kd.V_mono (ok' := fun k_ => True) ho0 (fun k_ hk_ => trivial)) (below_size (by repeat (first | (with_reducible first | exact HB.out | apply below_alloc | apply pw_below_drewN | apply below_drew1) | exact HB.out)))); have n1_ := Aside0.mk (below_step (by repeat (first | (with_reducible first | exact HB.out | apply below_alloc | apply pw_below_drewN | apply below_drew1) | exact HB.out)) hb); clear HB; have HO263 := n0_; have HB := n1_; clear n0_ n1_; (try clear hb); (try clear hb2); (try clear hk); (try clear hi); (try clear ho0)))
      go_ret2
      exact ⟨_, by first | rfl | (simp [errW_none, errW_some] <;> rfl) | (simp [*, errW_none, errW_some] <;> rfl), by first | exact Kd.R_nil _ _ _ _ _ | exact Kd.N_nil _ _ _ _ _ | exact Kd.V_nil _ _ _ _ _ | exact Kd.Q_nil _ _ _ _ _ | exact Kd.S_nil _ _ _ _ _, by repeat (first | (with_reducible first | exact HB.out | apply below_alloc | apply pw_below_drewN | apply below_drew1) | exact HB.out)⟩
  · rw [if_neg c4] at H
    have c4b0 : (t260 == 0) = false := beq_eq_false_iff_ne.mpr c4
    have c4b1 : (t260 != 0) = true := bne_iff_ne.mpr c4
    simp only [Option.some.injEq, Prod.mk.injEq] at H
    obtain ⟨rfl, rfl⟩ := H
    go_enter Try.func89, Try.ntmps89
    go_wp2_with (first | ((with_reducible refine gate_callee (f := 80) rfl ?_); refine goesL_ (some 17) rfl rfl Try.func80 (by kernel_rfl) rfl #[.slice A1 l1.length c1] rfl (by (try simp only [List.map_toArray, List.map_cons, List.map_nil]); first | done | rfl | (simp only [List.length_drop, List.length_take]; rfl)) ?_; (with_reducible refine (num_numbers.calls _ _ l1 t259 t260 _ ?side1 ?side2 A3.out).mono ?_); (case side1 => repeat (first | exact HR1.out | (with_reducible refine Kd.C_alloc ?_ _) | (with_reducible refine Kd.C_drewN ?_ _) | (with_reducible refine Kd.C_drew ?_))); (case side2 => exact HC1.out); rintro e w21 ⟨rfl, hb⟩; refine ⟨_, rfl, ?_⟩; have n0_ := Aside0.mk (below_step (by repeat (first | (with_reducible first | exact HB.out | apply below_alloc | apply pw_below_drewN | apply below_drew1) | exact HB.out)) hb); clear HB; have HB := n0_; clear n0_; (try clear hb); (try clear hb2); (try clear hk); (try clear hi)))
    go_ret2
    exact ⟨_, by first | rfl | (simp [errW_none, errW_some] <;> rfl) | (simp [*, errW_none, errW_some] <;> rfl), by first | exact Kd.R_nil _ _ _ _ _ | exact Kd.N_nil _ _ _ _ _ | exact Kd.V_nil _ _ _ _ _ | exact Kd.Q_nil _ _ _ _ _ | exact Kd.S_nil _ _ _ _ _, by repeat (first | (with_reducible first | exact HB.out | apply below_alloc | apply pw_below_drewN | apply below_drew1) | exact HB.out)⟩

end Go.Proofs.Ytknmokpnkcckeaa.PAll

namespace Go.Proofs.Ytknmokpnkcckeaa
open Go.RowKit Go.Proofs.YtknmokpnkcckeaaW.PrintWords Go.Proofs.YtknmokpnkcckeaaW.PrintLast Go.Proofs.YtknmokpnkcckeaaW.PrintMore Go.Proofs.Ytknmokpnkcckeaa.PAll
set_option linter.unusedVariables false
set_option linter.unusedSimpArgs false

/-! ### whether a slot's parts tell that it has none -/
def posByte (c : Int) : Bool := decide (0 < c)
def noneR (id leaf : Int) (d : List Int) : Bool := decide (id = 0) && decide (leaf = 0) && !d.any posByte

set_option maxHeartbeats 1000000 in
theorem none1_any (c : Int) (w : World) :
    Calls Try.prog 91 #[.int .u8 c] w fun e w' => e = .returned (.bool (posByte c)) ∧ w = w' := by
  have hr : posByte c = decide (0 < c) := rfl
  have HR := Aside0.mk hr
  clear hr
  go_enter Try.func91, Try.ntmps91
  go_wp2
  go_ret
  exact ⟨by rw [HR.out]; rfl, rfl⟩

set_option maxHeartbeats 2000000 in
theorem indexFuncB (A0 : Option Addr) (c0 : Nat) (l0 : List Int) (w : World) (hr0 : Kd.C (Kd.int .u8) w A0 l0.length l0) :
    Calls Try.prog 99 #[.slice A0 l0.length c0, .func (.func 91) #[] #[]] w fun e w' => ∃ r : Int, e = .returned (.int .i64 r) ∧ Aside0 (decide (0 ≤ r) = l0.any posByte) ∧ w = w' := by
  have HR0 := Aside0.mk hr0
  have HM : l0.length ≤ 9223372036854775807 := hr0.2.1
  clear hr0
  go_enter Try.func99, Try.ntmps99
  go_wp2
  go_loopg [8] l0.length (fun kq v w' => ∃ (k : Nat), v = .int .i64 k ∧ Aside0 (kq + k = l0.length) ∧ Aside0 ((l0.drop k).any posByte = l0.any posByte) ∧ w = w')
  case atStart => exact ⟨0, rfl, ⟨rfl⟩, ⟨by simp⟩, rfl⟩
  case round =>
    obtain ⟨k, rfl, HK, HS, rfl⟩ := hrel
    by_cases hk : k < l0.length
    · have hk1 : decide ((k : Int) < (l0.length : Int)) = true := decide_eq_true (by omega)
      obtain ⟨ad, e1, hx0⟩ := Kd.at_int HR0.out (k : Int) (by omega) (by omega)
      cases e1
      have hx : w.cell? (ad.add k) = some (.int .u8 (rd l0 k)) := by simpa using hx0
      clear hx0
      have p1 : 0 ≤ (k : Int) := by omega
      have q1 : (k : Int) < (l0.length : Int) := by omega
      have hstep := find_step hk posByte
      cases hb : posByte (rd l0 k) with
      | true =>
        have HN : Aside0 (decide (0 ≤ (k : Int)) = l0.any posByte) := ⟨by rw [← HS.out, hstep, hb]; simp⟩
        clear hstep
        go_wp2_with (go_at_call 91; refine (none1_any _ _).mono ?_; rintro e w2 ⟨rfl, rfl⟩)
        go_ret
        exact ⟨_, rfl, HN, rfl⟩
      | false =>
        have HN : Aside0 ((l0.drop (k + 1)).any posByte = l0.any posByte) := ⟨by rw [← HS.out, hstep, hb]; simp⟩
        clear hstep
        go_wp2_with (go_at_call 91; refine (none1_any _ _).mono ?_; rintro e w2 ⟨rfl, rfl⟩)
        go_roundg (gk - 1)
        case measure => have := HK.out; omega
        case rel => exact ⟨k + 1, by go_num, ⟨by have := HK.out; omega⟩, HN, rfl⟩
    · have hk1 : ¬ (k : Int) < (l0.length : Int) := by omega
      have HN : Aside0 (decide ((0 : Int) ≤ -1) = l0.any posByte) := ⟨by rw [← HS.out, List.drop_of_length_le (by omega)]; rfl⟩
      go_wp2
      go_ret
      exact ⟨_, rfl, HN, rfl⟩

set_option maxHeartbeats 1000000 in
theorem containsFuncB (A0 : Option Addr) (c0 : Nat) (l0 : List Int) (w : World) (hr0 : Kd.C (Kd.int .u8) w A0 l0.length l0) :
    Calls Try.prog 90 #[.slice A0 l0.length c0, .func (.func 91) #[] #[]] w fun e w' => e = .returned (.bool (l0.any posByte)) ∧ w = w' := by
  have HR0 := Aside0.mk hr0
  clear hr0
  go_enter Try.func90, Try.ntmps90
  go_wp2_with (go_at_call 99; refine (indexFuncB _ _ _ _ HR0.out).mono ?_; rintro e w2 ⟨r, rfl, HN, rfl⟩)
  go_ret
  exact ⟨by rw [← HN.out]; rfl, rfl⟩

set_option maxHeartbeats 2000000 in
theorem slot_none_calls (id leaf : Int) (A0 : Option Addr) (c0 : Nat) (l0 : List Int) (w : World) (hr0 : Kd.C (Kd.int .u8) w A0 l0.length l0) :
    Calls Try.prog 78 #[.agg #[.int .u64 id, .int .u64 leaf, .slice A0 l0.length c0]] w fun e w' => e = .returned (.bool (noneR id leaf l0)) ∧ Below w.heap.size w w' := by
  have HR0 := Aside0.mk hr0
  clear hr0
  by_cases h0 : id = 0
  · by_cases h1 : leaf = 0
    · have hr : noneR id leaf l0 = !l0.any posByte := by simp [noneR, h0, h1]
      have HR := Aside0.mk hr
      subst h0 h1
      clear hr
      go_enter Try.func78, Try.ntmps78
      go_wp2_with (go_at_call 90; refine (containsFuncB _ _ _ _ (Kd.C_alloc HR0.out _)).mono ?_; rintro e w2 ⟨rfl, rfl⟩)
      go_ret
      exact ⟨by rw [HR.out]; rfl, (Below.refl _ _).alloc (Nat.le_refl _) _⟩
    · have hr : noneR id leaf l0 = false := by simp [noneR, h1]
      have HR := Aside0.mk hr
      have hq : (leaf == 0) = false := by simpa using h1
      subst h0
      clear hr h1
      go_enter Try.func78, Try.ntmps78
      go_wp2
      go_ret
      exact ⟨by rw [HR.out]; rfl, (Below.refl _ _).alloc (Nat.le_refl _) _⟩
  · have hr : noneR id leaf l0 = false := by simp [noneR, h0]
    have HR := Aside0.mk hr
    have hq : (id == 0) = false := by simpa using h0
    clear hr h0
    go_enter Try.func78, Try.ntmps78
    go_wp2
    go_ret
    exact ⟨by rw [HR.out]; rfl, (Below.refl _ _).alloc (Nat.le_refl _) _⟩

/-! ### slot.part -/
/-- Blocks from base on that nothing froze. -/
def Young (base : Nat) (W : World) (k : Nat) : Prop := base ≤ k ∧ ∃ cells q, W.heap[k]? = some (.cells cells q (0, 0))
theorem Young.below {base base' : Nat} {W W1 : World} {k : Nat} (h : Young base W k) (hb : Below W.heap.size W W1) (hl : base' ≤ base) : Young base' W1 k := by
  obtain ⟨h0, cells, q, e⟩ := h
  refine ⟨by omega, cells, q, ?_⟩
  rw [← e]
  exact hb.block k (Array.getElem?_eq_some_iff.1 e).1
theorem F_young {base base' n : Nat} {W W1 : World} {A : Option Addr} {l : List Int} (h : Kd.F (Kd.int .u8) W (Young base W) A n l) (hb : Below W.heap.size W W1) (hl : base' ≤ base) : Kd.F (Kd.int .u8) W1 (Young base' W1) A n l :=
  Kd.F_mono (Kd.F_below h hb) (fun k hk => hk.below hb hl)

theorem F_young_set {base n : Nat} {W : World} {A : Option Addr} {l : List Int} {p : Addr} (h : Kd.F (Kd.int .u8) W (Young base W) A n l) (hp : p.block < base) (u : Value) : Kd.F (Kd.int .u8) (W.setCell p u) (Young base (W.setCell p u)) A n l := by
  have hne : ∀ k, Young base W k → k ≠ p.block := fun k hk => by have := hk.1; omega
  refine Kd.F_mono (Kd.F_far h hne u) (fun k hk => ⟨hk.1, ?_⟩)
  obtain ⟨cells, q, e⟩ := hk.2
  exact ⟨cells, q, blk_far e (hne k hk) u⟩
theorem lit_row {W : World} {fr : Nat × Nat} {t : TypeId} (k : IntKind) (zs : List Int) (hz : zs.length ≤ 9223372036854775807) : Kd.C (Kd.int k) (W.alloc (.cells (zs.map (Value.int k)).toArray t fr)) (some ⟨W.heap.size, 0, none⟩) zs.length zs := by
  refine ⟨rfl, hz, fun _ => ⟨_, rfl, fun j p hj => ?_⟩⟩
  refine ⟨[.int k p], rfl, rfl, fun i u hu => ?_⟩
  have hi : i = 0 := by
    rcases i with _ | i
    · rfl
    · simp at hu
  subst hi
  simp only [List.getElem?_cons_zero, Option.some.injEq] at hu
  subst hu
  have hc : ∀ k', (W.alloc (.cells (zs.map (Value.int k)).toArray t fr)).cell? ⟨W.heap.size, k', none⟩ = (zs.map (Value.int k)).toArray[k']? := World.cell?_alloc_mark W _ t fr
  have he : (⟨W.heap.size, 0, none⟩ : Addr).add (j * (Kd.int k).sz + 0) = ⟨W.heap.size, j, none⟩ := by rw [add_at]; simp [Kd.int, Kd.scalar]
  rw [he, hc]
  simp [hj]

theorem lit_at {W : World} {fr : Nat × Nat} {t : TypeId} (k : IntKind) (zs : List Int) (hz : zs.length ≤ 9223372036854775807) {b : Nat} (hb : b = W.heap.size) : Kd.C (Kd.int k) (W.alloc (.cells (zs.map (Value.int k)).toArray t fr)) (some ⟨b, 0, none⟩) zs.length zs := by
  subst hb
  exact lit_row k zs hz

/-- What slot.part answers: the numbers, the bytes, the error. -/
def partR (size : Int) (s : List Int) : Option (Int × Int × List Int × Int) :=
  if (s.length : Int) = 8 + size then
    (num_Take.f 60 (s.take 8) [4, 4]).bind fun t => if t.1.length = 2 then some (rd t.1 0, rd t.1 1, (s.drop 8).take size.toNat, t.2) else none
  else some (0, 0, [], 10)

theorem cutR_two {size : Int} (h1 : 1 ≤ size) (h2 : size ≤ 32) (s : List Int) :
    num_Cut.f s [8, size] = some (if (s.length : Int) = 8 + size then ([s.take 8, (s.drop 8).take size.toNat], 0) else ([], 10)) := by
  have hs : sizeR [8, size] = (8 + size, 0) := by
    have : numSum 0 [8, size] = some (8 + size) := by
      rw [numSum, if_neg (by omega), numSum, if_neg (by omega), numSum]
      simp
    rw [sizeR, if_neg (by simp), this]
  rw [num_Cut.f, cutR, hs]
  simp only [ne_eq, not_true_eq_false, if_false]
  by_cases h : (s.length : Int) = 8 + size
  · rw [if_neg (by omega), if_pos h]; simp [cutGo]
  · rw [if_pos (by omega), if_neg h]

theorem put3 {W : World} {b t : Nat} {x y z : Value} (h : W.heap[b]? = some (.cells #[x, y, z] t (0, 0))) (u v r : Value) :
    (((W.setCell ⟨b, 0, none⟩ u).setCell ⟨b, 1, none⟩ v).setCell ⟨b, 2, none⟩ r).heap[b]? = some (.cells #[u, v, r] t (0, 0)) := by
  have := blk_set (blk_set (blk_set h 0 u) 1 v) 2 r
  simpa using this
theorem heap_mid (w : World) (a b c : Obj) : (((w.alloc a).alloc b).alloc c).heap[w.heap.size + 1]? = some b := by
  have h1 := heap_alloc_new (w.alloc a) b
  rw [World.size_alloc] at h1
  have hl : w.heap.size + 1 < ((w.alloc a).alloc b).heap.size := by simp
  exact ((Below.refl _ _).alloc (Nat.le_refl _) c).block _ hl |>.trans h1
set_option maxHeartbeats 4000000 in
set_option maxRecDepth 100000 in
theorem part_short (a0 size a2 a3 : Int) (h1 : 1 ≤ size) (h2 : size ≤ 32) (A1 : Option Addr) (c1 : Nat) (l1 : List Int) (w : World) (hr1 : Kd.C (Kd.int .u8) w A1 l1.length l1) (hc1 : l1.length ≤ c1) (h : ¬ (l1.length : Int) = 8 + size) :
    Calls Try.prog 77 #[.agg #[.int .i64 a0, .int .i64 size, .int .i64 a2, .int .i64 a3], .slice A1 l1.length c1] w fun e w' => e = .returned (.tuple #[.agg #[.int .u64 0, .int .u64 0, .slice none 0 0], .int .i64 10]) ∧ Below w.heap.size w w' := by
  have HR1 := Aside0.mk hr1
  have HC1 := Aside0.mk hc1
  have HCut : Aside0 (num_Cut.f l1 [8, size] = some ([], 10)) := ⟨by rw [cutR_two h1 h2, if_neg h]⟩
  clear hr1 hc1 h h1 h2
  go_enter Try.func77, Try.ntmps77
  go_wp2_with (go_at_call 54; go_loud (refine calls_of_args (show _ = #[.slice A1 l1.length c1, .slice _ [(8 : Int), size].length 2] from by rfl) ?_; refine (num_Cut.calls _ _ _ _ _ _ _ _ _ ?s1 HC1.out ?s2 (Nat.le_refl _) HCut.out).mono ?_; (case s1 => exact Kd.C_below HR1.out (below_alloc (below_alloc (below_alloc (Below.refl _ _) _) _) _)); (case s2 => exact lit_at .i64 [8, size] (by simp) (by simp)); rintro e w2 ⟨v2, rfl, hv2, hb2⟩; have hk := hb2.block (w.heap.size + 1) (by simp); rw [heap_mid] at hk; have HK := Aside0.mk hk; have c0 := blk_cell hk 0; have c1 := blk_cell hk 1; have c2 := blk_cell hk 2; have f0 := blk_frozen hk 0; have f1 := blk_frozen hk 1; have f2 := blk_frozen hk 2; have HB2 := Aside0.mk hb2; clear hk hv2 hb2))
  have hk3 := put3 HK.out (.int .u64 0) (.int .u64 0) (.slice none 0 0)
  have hb3 := below_set (below_set (below_set (below_step (below_alloc (below_alloc (below_alloc (Below.refl w.heap.size w) _) _) _) HB2.out) (g := w.heap.size + 1) (j := 0) (v := .int .u64 0) (by omega)) (g := w.heap.size + 1) (j := 1) (v := .int .u64 0) (by omega)) (g := w.heap.size + 1) (j := 2) (v := .slice none 0 0) (by omega)
  generalize hW3 : ((w2.setCell ⟨w.heap.size + 1, 0, none⟩ (.int .u64 0)).setCell ⟨w.heap.size + 1, 1, none⟩ (.int .u64 0)).setCell ⟨w.heap.size + 1, 2, none⟩ (.slice none 0 0) = W3 at hk3 hb3 ⊢
  have c0 := blk_cell hk3 0
  have c1 := blk_cell hk3 1
  have c2 := blk_cell hk3 2
  refine bodyPost_ret (v := .tuple #[.agg #[.int .u64 0, .int .u64 0, .slice none 0 0], .int .i64 10]) ?_ rfl ⟨rfl, hb3⟩
  simp [results, Try.results77, go_sem, c0, c1, c2]

theorem add_nil' (a : Addr) : a.add 0 = a := by
  cases a
  unfold Addr.add
  simp
theorem add_one' (a : Addr) : a.add 1 = ⟨a.block, a.off + 1, none⟩ := by
  unfold Addr.add
  simp
theorem row2 {e t : TypeId} {W : World} {base n cv : Nat} {ok : Nat → Prop} {Av : Option Addr} {p q : List Int} (h : Kd.V (Kd.slice e (Kd.int .u8)) t W base ok (.slice Av n cv) [p, q]) :
    ∃ ad Ap cp Aq cq, Av = some ad ∧ W.cell? ad = some (.slice Ap p.length cp) ∧ W.cell? ⟨ad.block, ad.off + 1, none⟩ = some (.slice Aq q.length cq) ∧ p.length ≤ cp ∧ q.length ≤ cq ∧ Kd.F (Kd.int .u8) W ok Ap p.length p ∧ Kd.F (Kd.int .u8) W ok Aq q.length q := by
  obtain ⟨hn, _, _⟩ := Kd.V_at h
  have hn2 : n = 2 := hn
  subst hn2
  obtain ⟨ad, cs, he, hcl, hK, hcc, _⟩ := Kd.F_get (Kd.V_F h) [] 0 (by omega) (by omega)
  obtain ⟨ad', cs', he', hcl', hK', hcc', _⟩ := Kd.F_get (Kd.V_F h) [] 1 (by omega) (by omega)
  rw [he] at he'
  injection he' with he'
  subst he'
  obtain ⟨Ap, cp, rfl, hp, hFp⟩ := Kd.FK_slice_open hK
  obtain ⟨Aq, cq, rfl, hq, hFq⟩ := Kd.FK_slice_open hK'
  have c0 := hcc 0 _ rfl
  rw [show (0 : Int).toNat * (Kd.slice e (Kd.int .u8)).sz + 0 = 0 from rfl, add_nil'] at c0
  have c1 := hcc' 0 _ rfl
  rw [show (1 : Int).toNat * (Kd.slice e (Kd.int .u8)).sz + 0 = 1 from rfl, add_one'] at c1
  exact ⟨ad, Ap, cp, Aq, cq, he, c0, c1, hp, hq, hFp, hFq⟩

theorem row2i {t : TypeId} {k : IntKind} {W : World} {base n c : Nat} {ok : Nat → Prop} {A : Option Addr} {l : List Int} (h : (Kd.int k).R t W base ok (.slice A n c) l) (hl : l.length = 2) :
    ∃ ad, A = some ad ∧ W.cell? ad = some (.int k (rd l 0)) ∧ W.cell? ⟨ad.block, ad.off + 1, none⟩ = some (.int k (rd l 1)) := by
  obtain ⟨hn, _, hC⟩ := Kd.R_reads' h
  obtain ⟨ad, he, h0⟩ := Kd.at_int hC 0 (by omega) (by omega)
  subst he
  have h1 := Kd.foot_int hC 1 (by omega) (by omega)
  rw [show (0 : Int).toNat = 0 from rfl, add_nil'] at h0
  rw [show (1 : Int).toNat = 1 from rfl, add_one'] at h1
  exact ⟨ad, rfl, h0, h1⟩

theorem partR_facts {size : Int} {s : List Int} {x y : Int} {d : List Int} {e : Int} (hl : (s.length : Int) = 8 + size) (h : partR size s = some (x, y, d, e)) :
    ∃ t, num_Take.f 60 (s.take 8) [4, 4] = some t ∧ t.1.length = 2 ∧ x = rd t.1 0 ∧ y = rd t.1 1 ∧ d = (s.drop 8).take size.toNat ∧ e = t.2 := by
  rw [partR, if_pos hl] at h
  obtain ⟨t, ht, h⟩ := Option.bind_eq_some_iff.1 h
  by_cases h2 : t.1.length = 2
  · rw [if_pos h2] at h
    simp only [Option.some.injEq, Prod.mk.injEq] at h
    exact ⟨t, ht, h2, h.1.symm, h.2.1.symm, h.2.2.1.symm, h.2.2.2.symm⟩
  · rw [if_neg h2] at h; cases h

set_option maxHeartbeats 4000000 in
set_option maxRecDepth 100000 in
theorem part_long (a0 size a2 a3 : Int) (h1 : 1 ≤ size) (h2 : size ≤ 32) (A1 : Option Addr) (c1 : Nat) (l1 : List Int) (x y : Int) (d : List Int) (e0 : Int) (w : World) (hr1 : Kd.C (Kd.int .u8) w A1 l1.length l1) (hc1 : l1.length ≤ c1) (hl : (l1.length : Int) = 8 + size) (h : partR size l1 = some (x, y, d, e0)) :
    Calls Try.prog 77 #[.agg #[.int .i64 a0, .int .i64 size, .int .i64 a2, .int .i64 a3], .slice A1 l1.length c1] w fun e w' => ∃ A c, e = .returned (.tuple #[.agg #[.int .u64 x, .int .u64 y, .slice A d.length c], .int .i64 e0]) ∧ d.length ≤ c ∧ Kd.F (Kd.int .u8) w' (Young w.heap.size w') A d.length d ∧ Below w.heap.size w w' := by
  obtain ⟨⟨t1, t2⟩, ht, ht2, rfl, rfl, hd, rfl⟩ := partR_facts hl h
  simp only at ht ht2
  obtain ⟨p, hp⟩ : ∃ p, l1.take 8 = p := ⟨_, rfl⟩
  have HCut : Aside0 (num_Cut.f l1 [8, size] = some ([p, d], 0)) := ⟨by rw [cutR_two h1 h2, if_pos hl, hp, hd]⟩
  rw [hp] at ht
  have HR1 := Aside0.mk hr1
  have HC1 := Aside0.mk hc1
  have HT := Aside0.mk ht
  have HT2 := Aside0.mk ht2
  clear hr1 hc1 h h1 h2 hd ht ht2 hl hp
  go_enter Try.func77, Try.ntmps77
  go_wp2_with (first | (go_at_call 54; go_loud (refine calls_of_args (show _ = #[.slice A1 l1.length c1, .slice _ [(8 : Int), size].length 2] from by rfl) ?_; refine (num_Cut.calls2 _ _ _ _ _ _ _ _ _ ?s1 HC1.out ?s2 (Nat.le_refl _) HCut.out).mono ?_; (case s1 => exact Kd.C_below HR1.out (below_alloc (below_alloc (below_alloc (Below.refl _ _) _) _) _)); (case s2 => exact lit_at .i64 [8, size] (by simp) (by simp)); rintro e w2 ⟨v2, rfl, hv2, hb2⟩; have hk := hb2.block (w.heap.size + 1) (by simp); rw [heap_mid] at hk; have HK := Aside0.mk hk; have c0 := blk_cell hk 0; have c1 := blk_cell hk 1; have c2 := blk_cell hk 2; have f0 := blk_frozen hk 0; have f1 := blk_frozen hk 1; have f2 := blk_frozen hk 2; have HB2 := Aside0.mk hb2; obtain ⟨Av, cv, rfl⟩ := Kd.V_slice hv2; obtain ⟨ad, Ap, cp, Aq, cq, rfl, hx0, hx1, hp, hq, hFp, hFq⟩ := row2 hv2; have HP := Aside0.mk hp; have HQ := Aside0.mk hq; have HFP := Aside0.mk hFp; have HFQ := Aside0.mk hFq; clear hk hv2 hb2 hp hq hFp hFq)) | (go_at_call 89; go_loud (refine calls_of_args (show _ = #[.slice Ap p.length cp, .slice _ [(4 : Int), 4].length 2] from by rfl) ?_; refine (num_Take.calls 60 _ _ _ _ _ _ _ _ _ ?t1 HP.out ?t2 (Nat.le_refl _) HT.out).mono ?_; (case t1 => exact Kd.C_below (Kd.F_now HFP.out) (below_alloc (Below.refl _ _) _)); (case t2 => exact lit_at .i64 [4, 4] (by simp) (by simp)); rintro e w3 ⟨v3, rfl, hv3, hb3⟩; have hb23 := below_step (below_alloc (Below.refl _ w2) _) hb3; obtain ⟨A3, c3, rfl⟩ := Kd.R_slice hv3; have hk := blk_below HK.out hb23; have HK3 := Aside0.mk hk; have g0 := blk_cell hk 0; have g1 := blk_cell hk 1; have g2 := blk_cell hk 2; have q0 := blk_frozen hk 0; have q1 := blk_frozen hk 1; have q2 := blk_frozen hk 2; have hy1 := pw_cell_below hb23 hx1; obtain ⟨at3, E3, hz0, hz1⟩ := row2i hv3 HT2.out; subst E3; have HB23 := Aside0.mk hb23; clear hk hv3 hb3 hb23 c0 c1 c2 f0 f1 f2 hx0 hx1)))
  have hn0 : 0 < t1.length := by have := HT2.out; omega
  have hn1 : 1 < t1.length := by have := HT2.out; omega
  have hm0 : (0 : Int) < (t1.length : Int) := by omega
  have hm1 : (1 : Int) < (t1.length : Int) := by omega
  go_region
  go_wp2
  have hk3 := put3 HK3.out (.int .u64 (rd t1 0)) (.int .u64 (rd t1 1)) (.slice Aq d.length cq)
  have hbw := below_step (below_step (below_alloc (below_alloc (below_alloc (Below.refl w.heap.size w) _) _) _) HB2.out) HB23.out
  have hb3 := below_set (below_set (below_set hbw (g := w.heap.size + 1) (j := 0) (v := .int .u64 (rd t1 0)) (by omega)) (g := w.heap.size + 1) (j := 1) (v := .int .u64 (rd t1 1)) (by omega)) (g := w.heap.size + 1) (j := 2) (v := .slice Aq d.length cq) (by omega)
  have hf0 : Kd.F (Kd.int .u8) w3 (Young (w.heap.size + 3) w3) Aq d.length d := F_young HFQ.out HB23.out (by simp)
  have hf3 := F_young_set (F_young_set (F_young_set hf0 (p := ⟨w.heap.size + 1, 0, none⟩) (by simp) (.int .u64 (rd t1 0))) (p := ⟨w.heap.size + 1, 1, none⟩) (by simp) (.int .u64 (rd t1 1))) (p := ⟨w.heap.size + 1, 2, none⟩) (by simp) (.slice Aq d.length cq)
  generalize hW3 : ((w3.setCell ⟨w.heap.size + 1, 0, none⟩ (.int .u64 (rd t1 0))).setCell ⟨w.heap.size + 1, 1, none⟩ (.int .u64 (rd t1 1))).setCell ⟨w.heap.size + 1, 2, none⟩ (.slice Aq d.length cq) = W3 at hk3 hb3 hf3 ⊢
  have c0 := blk_cell hk3 0
  have c1 := blk_cell hk3 1
  have c2 := blk_cell hk3 2
  refine bodyPost_ret (v := .tuple #[.agg #[.int .u64 (rd t1 0), .int .u64 (rd t1 1), .slice Aq d.length cq], .int .i64 e0]) ?_ rfl ⟨Aq, cq, rfl, HQ.out, F_young hf3 (below_drew (Below.refl _ _)) (by omega), below_drew hb3⟩
  simp [results, Try.results77, go_sem, c0, c1, c2]

theorem part_any (a0 size a2 a3 : Int) (h1 : 1 ≤ size) (h2 : size ≤ 32) (A1 : Option Addr) (c1 : Nat) (l1 : List Int) (x y : Int) (d : List Int) (e0 : Int) (w : World) (hr1 : Kd.C (Kd.int .u8) w A1 l1.length l1) (hc1 : l1.length ≤ c1) (h : partR size l1 = some (x, y, d, e0)) :
    Calls Try.prog 77 #[.agg #[.int .i64 a0, .int .i64 size, .int .i64 a2, .int .i64 a3], .slice A1 l1.length c1] w fun e w' => ∃ A c, e = .returned (.tuple #[.agg #[.int .u64 x, .int .u64 y, .slice A d.length c], .int .i64 e0]) ∧ d.length ≤ c ∧ Kd.F (Kd.int .u8) w' (Young w.heap.size w') A d.length d ∧ Below w.heap.size w w' := by
  by_cases hl : (l1.length : Int) = 8 + size
  · exact part_long a0 size a2 a3 h1 h2 A1 c1 l1 x y d e0 w hr1 hc1 hl h
  · rw [partR, if_neg hl] at h
    simp only [Option.some.injEq, Prod.mk.injEq] at h
    obtain ⟨rfl, rfl, rfl, rfl⟩ := h
    exact (part_short a0 size a2 a3 h1 h2 A1 c1 l1 w hr1 hc1 hl).mono fun e w' ⟨he, hb⟩ => ⟨none, 0, he, Nat.le_refl _, Kd.F_nil _ _ _, hb⟩

/-! ### slot.Read -/
def slot_Read.f (a0_0 a0_1 a0_2 a0_3 : Int) (l1 : List Int) : Option (Int × Int × List Int × Bool × Int) :=
  (slot_Slots.f 20 a0_0 a0_1 a0_2 a0_3).bind fun s => if s.2 = 0 then
    (if 1 ≤ a0_1 ∧ a0_1 ≤ 32 then
      (partR a0_1 l1).bind fun p => if p.2.2.2 = 0 then
        (if noneR p.1 p.2.1 p.2.2.1 = true then some (0, 0, [], false, 0) else
          (slot_Check.f 20 a0_0 a0_1 a0_2 a0_3 (wrap64 (wrap64 p.1 - 1)) (wrap64 p.2.1) p.2.2.1).bind fun e => if e = 0 then some (wrap64 (wrap64 p.1 - 1), wrap64 p.2.1, p.2.2.1, true, 0) else some (0, 0, [], false, e))
        else some (0, 0, [], false, p.2.2.2)
    else none)
  else some (0, 0, [], false, s.2)

theorem box4 {W : World} {b t : Nat} {x y z u : Value} (h : W.heap[b]? = some (.cells #[x, y, z, u] t (0, 0))) :
    W.cell? ⟨b, 0, none⟩ = some x ∧ W.cell? ⟨b, 1, none⟩ = some y ∧ W.cell? ⟨b, 2, none⟩ = some z ∧ W.cell? ⟨b, 3, none⟩ = some u := ⟨blk_cell h 0, blk_cell h 1, blk_cell h 2, blk_cell h 3⟩
theorem box3 {W : World} {b t : Nat} {x y z : Value} (h : W.heap[b]? = some (.cells #[x, y, z] t (0, 0))) :
    (W.cell? ⟨b, 0, none⟩ = some x ∧ W.cell? ⟨b, 1, none⟩ = some y ∧ W.cell? ⟨b, 2, none⟩ = some z) ∧ W.frozen? ⟨b, 0, none⟩ = false ∧ W.frozen? ⟨b, 1, none⟩ = false ∧ W.frozen? ⟨b, 2, none⟩ = false :=
  ⟨⟨blk_cell h 0, blk_cell h 1, blk_cell h 2⟩, blk_frozen h 0, blk_frozen h 1, blk_frozen h 2⟩
theorem heap_two (w : World) (a b : Obj) : ((w.alloc a).alloc b).heap[w.heap.size]? = some a ∧ ((w.alloc a).alloc b).heap[w.heap.size + 1]? = some b := by
  have h0 := heap_alloc_new w a
  have h1 := heap_alloc_new (w.alloc a) b
  rw [World.size_alloc] at h1
  exact ⟨blk_alloc h0 b, h1⟩
/-- Three cells of an own block written over: what is told of old memory stays. -/
theorem put3_all {w W : World} {b t : Nat} {x y z : Value} (h : W.heap[b]? = some (.cells #[x, y, z] t (0, 0))) (hb : Below w.heap.size w W) (hle : w.heap.size ≤ b) (u v r : Value) (W3 : World) (hW3 : ((W.setCell ⟨b, 0, none⟩ u).setCell ⟨b, 1, none⟩ v).setCell ⟨b, 2, none⟩ r = W3) :
    W3.heap[b]? = some (.cells #[u, v, r] t (0, 0)) ∧ Below w.heap.size w W3 ∧ (∀ k, k ≠ b → W3.heap[k]? = W.heap[k]?) ∧ W3.heap.size = W.heap.size := by
  subst hW3
  refine ⟨put3 h u v r, below_set (below_set (below_set hb hle) hle) hle, fun k hk => ?_, by simp⟩
  rw [Below.heap_setCell _ _ _ k (by exact hk), Below.heap_setCell _ _ _ k (by exact hk), Below.heap_setCell _ _ _ k (by exact hk)]

set_option maxHeartbeats 4000000 in
set_option maxRecDepth 100000 in
theorem read_bad (a0 size a2 a3 : Int) (A1 : Option Addr) (c1 : Nat) (l1 : List Int) (s e0 : Int) (w : World) (h : slot_Slots.f 20 a0 size a2 a3 = some (s, e0)) (he : ¬ e0 = 0) :
    Calls Try.prog 57 #[.agg #[.int .i64 a0, .int .i64 size, .int .i64 a2, .int .i64 a3], .slice A1 l1.length c1] w fun e w' => e = .returned (.tuple #[.agg #[.int .i64 0, .int .i64 0, .slice none 0 0], .bool false, .int .i64 e0]) ∧ Below w.heap.size w w' := by
  have H := Aside0.mk h
  have hq : (e0 != 0) = true := by simpa using he
  clear h he
  go_enter Try.func57, Try.ntmps57
  go_wp2_with (go_at_call 32; go_loud (refine (slot_Slots.calls 20 _ _ _ _ _ _ _ H.out).mono ?_; rintro e w2 ⟨rfl, hb2⟩; have hk := blk_below (heap_two w _ _).2 hb2; obtain ⟨⟨c0, c1, c2⟩, f0, f1, f2⟩ := box3 hk; have HK := Aside0.mk hk; have HB2 := Aside0.mk (below_step (below_alloc (below_alloc (Below.refl w.heap.size w) _) _) hb2); clear hk hb2))
  generalize hW3 : ((w2.setCell ⟨w.heap.size + 1, 0, none⟩ (.int .i64 0)).setCell ⟨w.heap.size + 1, 1, none⟩ (.int .i64 0)).setCell ⟨w.heap.size + 1, 2, none⟩ (.slice none 0 0) = W3
  obtain ⟨hk3, hb3, _, _⟩ := put3_all HK.out HB2.out (by omega) _ _ _ _ hW3
  obtain ⟨⟨c0, c1, c2⟩, _⟩ := box3 hk3
  refine bodyPost_ret (v := .tuple #[.agg #[.int .i64 0, .int .i64 0, .slice none 0 0], .bool false, .int .i64 e0]) ?_ rfl ⟨rfl, hb3⟩
  simp [results, Try.results57, go_sem, c0, c1, c2]

set_option maxHeartbeats 4000000 in
set_option maxRecDepth 100000 in
theorem read_err (a0 size a2 a3 : Int) (A1 : Option Addr) (c1 : Nat) (l1 : List Int) (s x y : Int) (d : List Int) (e0 : Int) (w : World) (hr1 : Kd.C (Kd.int .u8) w A1 l1.length l1) (hc1 : l1.length ≤ c1) (hs : slot_Slots.f 20 a0 size a2 a3 = some (s, 0)) (h1 : 1 ≤ size) (h2 : size ≤ 32) (hp : partR size l1 = some (x, y, d, e0)) (he : ¬ e0 = 0) :
    Calls Try.prog 57 #[.agg #[.int .i64 a0, .int .i64 size, .int .i64 a2, .int .i64 a3], .slice A1 l1.length c1] w fun e w' => e = .returned (.tuple #[.agg #[.int .i64 0, .int .i64 0, .slice none 0 0], .bool false, .int .i64 e0]) ∧ Below w.heap.size w w' := by
  have HR1 := Aside0.mk hr1
  have HC1 := Aside0.mk hc1
  have HS := Aside0.mk hs
  have H1 := Aside0.mk h1
  have H2 := Aside0.mk h2
  have HPt := Aside0.mk hp
  have hq : (e0 != 0) = true := by simpa using he
  clear hr1 hc1 hs h1 h2 hp he
  go_enter Try.func57, Try.ntmps57
  go_wp2_with (first | (go_at_call 32; go_loud (refine (slot_Slots.calls 20 _ _ _ _ _ _ _ HS.out).mono ?_; rintro e w2 ⟨rfl, hb2⟩; have hk := blk_below (heap_two w _ _).2 hb2; have hj := blk_below (heap_two w _ _).1 hb2; obtain ⟨⟨c0, c1, c2⟩, f0, f1, f2⟩ := box3 hk; obtain ⟨j0, j1, j2, j3⟩ := box4 hj; have HK := Aside0.mk hk; have HJ := Aside0.mk hj; have HB2 := Aside0.mk (below_step (below_alloc (below_alloc (Below.refl w.heap.size w) _) _) hb2); have HZ2 := Aside0.mk (show w.heap.size + 2 ≤ w2.heap.size from by have := hb2.size; simp only [World.size_alloc] at this; omega); clear hk hj hb2)) | (go_at_call 77; go_loud (refine (part_any _ _ _ _ H1.out H2.out _ _ _ _ _ _ _ _ ?s1 HC1.out HPt.out).mono ?_; (case s1 => exact Kd.C_below HR1.out HB2.out); rintro e w3 ⟨A, c, rfl, hdc, hF, hb3⟩; have hk := blk_below HK.out hb3; have hj := blk_below HJ.out hb3; clear c0 c1 c2 f0 f1 f2 j0 j1 j2 j3; obtain ⟨⟨c0, c1, c2⟩, f0, f1, f2⟩ := box3 hk; obtain ⟨j0, j1, j2, j3⟩ := box4 hj; have HK3 := Aside0.mk hk; have HJ3 := Aside0.mk hj; have HDC := Aside0.mk hdc; have HF3 := Aside0.mk hF; have HB3 := Aside0.mk (below_step HB2.out hb3); have hz3 : w.heap.size + 1 < w3.heap.size := (by have := hb3.size; have := HZ2.out; omega); clear hk hj hdc hF hb3)))
  generalize hW3 : ((w3.setCell ⟨w.heap.size + 1, 0, none⟩ (.int .i64 0)).setCell ⟨w.heap.size + 1, 1, none⟩ (.int .i64 0)).setCell ⟨w.heap.size + 1, 2, none⟩ (.slice none 0 0) = W3
  obtain ⟨hk3, hb3, _, _⟩ := put3_all HK3.out HB3.out (by omega) _ _ _ _ hW3
  obtain ⟨⟨c0, c1, c2⟩, _⟩ := box3 (blk_alloc hk3 (.cells #[.int .u64 x, .int .u64 y, .slice A d.length c] 124))
  refine bodyPost_ret (v := .tuple #[.agg #[.int .i64 0, .int .i64 0, .slice none 0 0], .bool false, .int .i64 e0]) ?_ rfl ⟨rfl, below_alloc hb3 _⟩
  simp [results, Try.results57, go_sem, c0, c1, c2]

set_option maxHeartbeats 4000000 in
set_option maxRecDepth 100000 in
theorem read_none (a0 size a2 a3 : Int) (A1 : Option Addr) (c1 : Nat) (l1 : List Int) (s x y : Int) (d : List Int) (w : World) (hr1 : Kd.C (Kd.int .u8) w A1 l1.length l1) (hc1 : l1.length ≤ c1) (hs : slot_Slots.f 20 a0 size a2 a3 = some (s, 0)) (h1 : 1 ≤ size) (h2 : size ≤ 32) (hp : partR size l1 = some (x, y, d, 0)) (hn : noneR x y d = true) :
    Calls Try.prog 57 #[.agg #[.int .i64 a0, .int .i64 size, .int .i64 a2, .int .i64 a3], .slice A1 l1.length c1] w fun e w' => e = .returned (.tuple #[.agg #[.int .i64 0, .int .i64 0, .slice none 0 0], .bool false, .int .i64 0]) ∧ Below w.heap.size w w' := by
  have HR1 := Aside0.mk hr1
  have HC1 := Aside0.mk hc1
  have HS := Aside0.mk hs
  have H1 := Aside0.mk h1
  have H2 := Aside0.mk h2
  have HPt := Aside0.mk hp
  have HN := Aside0.mk hn
  clear hr1 hc1 hs h1 h2 hp hn
  have hmf : ∀ (fn : Fn) (first cap : Array Value) (w : World), (Instr.makeFunc fn first cap).run Try.prog w = .ok (.func fn first cap) w := fun _ _ _ _ => rfl
  go_enter Try.func57, Try.ntmps57
  go_wp2_with (first | (go_at_call 32; go_loud (refine (slot_Slots.calls 20 _ _ _ _ _ _ _ HS.out).mono ?_; rintro e w2 ⟨rfl, hb2⟩; have hk := blk_below (heap_two w _ _).2 hb2; have hj := blk_below (heap_two w _ _).1 hb2; obtain ⟨⟨c0, c1, c2⟩, f0, f1, f2⟩ := box3 hk; obtain ⟨j0, j1, j2, j3⟩ := box4 hj; have HK := Aside0.mk hk; have HJ := Aside0.mk hj; have HB2 := Aside0.mk (below_step (below_alloc (below_alloc (Below.refl w.heap.size w) _) _) hb2); have HZ2 := Aside0.mk (show w.heap.size + 2 ≤ w2.heap.size from by have := hb2.size; simp only [World.size_alloc] at this; omega); clear hk hj hb2)) | (go_at_call 77; go_loud (refine (part_any _ _ _ _ H1.out H2.out _ _ _ _ _ _ _ _ ?s1 HC1.out HPt.out).mono ?_; (case s1 => exact Kd.C_below HR1.out HB2.out); rintro e w3 ⟨A, c, rfl, hdc, hF, hb3⟩; have hk := blk_below HK.out hb3; have hj := blk_below HJ.out hb3; clear c0 c1 c2 f0 f1 f2 j0 j1 j2 j3; obtain ⟨⟨c0, c1, c2⟩, f0, f1, f2⟩ := box3 hk; obtain ⟨j0, j1, j2, j3⟩ := box4 hj; have HK3 := Aside0.mk hk; have HJ3 := Aside0.mk hj; have HDC := Aside0.mk hdc; have HF3 := Aside0.mk hF; have HB3 := Aside0.mk (below_step HB2.out hb3); have hz3 : w.heap.size + 1 < w3.heap.size := (by have := hb3.size; have := HZ2.out; omega); clear hk hj hdc hF hb3)) | (go_at_call 78; go_loud (refine (slot_none_calls _ _ _ _ _ _ ?n1).mono ?_; (case n1 => exact Kd.C_alloc (Kd.F_now HF3.out) _); rintro e w4 ⟨rfl, hb4⟩; rw [HN.out]; have hk := blk_below (blk_alloc HK3.out _) hb4; have hj := blk_below (blk_alloc HJ3.out _) hb4; have hs := blk_below (blk_new w3 _) hb4; clear c0 c1 c2 f0 f1 f2 j0 j1 j2 j3; obtain ⟨⟨c0, c1, c2⟩, f0, f1, f2⟩ := box3 hk; obtain ⟨j0, j1, j2, j3⟩ := box4 hj; obtain ⟨⟨s0, s1, s2⟩, _⟩ := box3 hs; have HK4 := Aside0.mk hk; have HJ4 := Aside0.mk hj; have HF4 := Aside0.mk (F_young (base' := w.heap.size + 2) HF3.out (below_step (below_alloc (Below.refl _ w3) _) hb4) HZ2.out); have HB4 := Aside0.mk (below_step (below_alloc HB3.out _) hb4); clear hk hj hs hb4)))
  generalize hW3 : ((w4.setCell ⟨w.heap.size + 1, 0, none⟩ (.int .i64 0)).setCell ⟨w.heap.size + 1, 1, none⟩ (.int .i64 0)).setCell ⟨w.heap.size + 1, 2, none⟩ (.slice none 0 0) = W3
  obtain ⟨hk3, hb3, _, _⟩ := put3_all HK4.out HB4.out (by omega) _ _ _ _ hW3
  obtain ⟨⟨c0, c1, c2⟩, _⟩ := box3 hk3
  refine bodyPost_ret (v := .tuple #[.agg #[.int .i64 0, .int .i64 0, .slice none 0 0], .bool false, .int .i64 0]) ?_ rfl ⟨rfl, hb3⟩
  simp [results, Try.results57, go_sem, c0, c1, c2]

set_option maxHeartbeats 4000000 in
set_option maxRecDepth 100000 in
theorem read_yes (a0 size a2 a3 : Int) (A1 : Option Addr) (c1 : Nat) (l1 : List Int) (s x y : Int) (d : List Int) (w : World) (hr1 : Kd.C (Kd.int .u8) w A1 l1.length l1) (hc1 : l1.length ≤ c1) (hs : slot_Slots.f 20 a0 size a2 a3 = some (s, 0)) (h1 : 1 ≤ size) (h2 : size ≤ 32) (hp : partR size l1 = some (x, y, d, 0)) (hn : noneR x y d = false) (hc : slot_Check.f 20 a0 size a2 a3 (wrap64 (wrap64 x - 1)) (wrap64 y) d = some 0) :
    Calls Try.prog 57 #[.agg #[.int .i64 a0, .int .i64 size, .int .i64 a2, .int .i64 a3], .slice A1 l1.length c1] w fun e w' => ∃ A c, e = .returned (.tuple #[.agg #[.int .i64 (wrap64 (wrap64 x - 1)), .int .i64 (wrap64 y), .slice A d.length c], .bool true, .int .i64 0]) ∧ d.length ≤ c ∧ Kd.F (Kd.int .u8) w' (Young w.heap.size w') A d.length d ∧ Below w.heap.size w w' := by
  have HR1 := Aside0.mk hr1
  have HC1 := Aside0.mk hc1
  have HS := Aside0.mk hs
  have H1 := Aside0.mk h1
  have H2 := Aside0.mk h2
  have HPt := Aside0.mk hp
  have HN := Aside0.mk hn
  have HChk := Aside0.mk hc
  clear hr1 hc1 hs h1 h2 hp hn hc
  have hmf : ∀ (fn : Fn) (first cap : Array Value) (w : World), (Instr.makeFunc fn first cap).run Try.prog w = .ok (.func fn first cap) w := fun _ _ _ _ => rfl
  go_enter Try.func57, Try.ntmps57
  go_wp2_with (first | (go_at_call 32; go_loud (refine (slot_Slots.calls 20 _ _ _ _ _ _ _ HS.out).mono ?_; rintro e w2 ⟨rfl, hb2⟩; have hk := blk_below (heap_two w _ _).2 hb2; have hj := blk_below (heap_two w _ _).1 hb2; obtain ⟨⟨c0, c1, c2⟩, f0, f1, f2⟩ := box3 hk; obtain ⟨j0, j1, j2, j3⟩ := box4 hj; have HK := Aside0.mk hk; have HJ := Aside0.mk hj; have HB2 := Aside0.mk (below_step (below_alloc (below_alloc (Below.refl w.heap.size w) _) _) hb2); have HZ2 := Aside0.mk (show w.heap.size + 2 ≤ w2.heap.size from by have := hb2.size; simp only [World.size_alloc] at this; omega); clear hk hj hb2)) | (go_at_call 77; go_loud (refine (part_any _ _ _ _ H1.out H2.out _ _ _ _ _ _ _ _ ?s1 HC1.out HPt.out).mono ?_; (case s1 => exact Kd.C_below HR1.out HB2.out); rintro e w3 ⟨A, c, rfl, hdc, hF, hb3⟩; have hk := blk_below HK.out hb3; have hj := blk_below HJ.out hb3; clear c0 c1 c2 f0 f1 f2 j0 j1 j2 j3; obtain ⟨⟨c0, c1, c2⟩, f0, f1, f2⟩ := box3 hk; obtain ⟨j0, j1, j2, j3⟩ := box4 hj; have HK3 := Aside0.mk hk; have HJ3 := Aside0.mk hj; have HDC := Aside0.mk hdc; have HF3 := Aside0.mk hF; have HB3 := Aside0.mk (below_step HB2.out hb3); have hz3 : w.heap.size + 1 < w3.heap.size := (by have := hb3.size; have := HZ2.out; omega); clear hk hj hdc hF hb3)) | (go_at_call 78; go_loud (refine (slot_none_calls _ _ _ _ _ _ ?n1).mono ?_; (case n1 => exact Kd.C_alloc (Kd.F_now HF3.out) _); rintro e w4 ⟨rfl, hb4⟩; rw [HN.out]; have hk := blk_below (blk_alloc HK3.out _) hb4; have hj := blk_below (blk_alloc HJ3.out _) hb4; have hs := blk_below (blk_new w3 _) hb4; clear c0 c1 c2 f0 f1 f2 j0 j1 j2 j3; obtain ⟨⟨c0, c1, c2⟩, f0, f1, f2⟩ := box3 hk; obtain ⟨j0, j1, j2, j3⟩ := box4 hj; obtain ⟨⟨s0, s1, s2⟩, _⟩ := box3 hs; have HK4 := Aside0.mk hk; have HJ4 := Aside0.mk hj; have HF4 := Aside0.mk (F_young (base' := w.heap.size + 2) HF3.out (below_step (below_alloc (Below.refl _ w3) _) hb4) HZ2.out); have HB4 := Aside0.mk (below_step (below_alloc HB3.out _) hb4); clear hk hj hs hb4)) | (go_at_call 51; go_loud (refine (slot_Check.calls 20 _ _ _ _ _ _ _ _ _ _ _ ?k1 HDC.out HChk.out).mono ?_; (case k1 => exact Kd.F_now (F_young_set (F_young_set (F_young_set HF4.out (by simp) _) (by simp) _) (by simp) _)); rintro e w5 ⟨rfl, hb5⟩; have hk := blk_below (put3 HK4.out _ _ _) hb5; clear c0 c1 c2 f0 f1 f2 j0 j1 j2 j3 s0 s1 s2; obtain ⟨⟨c0, c1, c2⟩, f0, f1, f2⟩ := box3 hk; have HK5 := Aside0.mk hk; have HF5 := Aside0.mk (F_young (base' := w.heap.size + 2) (F_young_set (F_young_set (F_young_set HF4.out (p := ⟨w.heap.size + 1, 0, none⟩) (by simp) _) (p := ⟨w.heap.size + 1, 1, none⟩) (by simp) _) (p := ⟨w.heap.size + 1, 2, none⟩) (by simp) _) hb5 (Nat.le_refl _)); have HB5 := Aside0.mk (below_step (below_set (below_set (below_set HB4.out (g := w.heap.size + 1) (j := 0) (by omega)) (g := w.heap.size + 1) (j := 1) (by omega)) (g := w.heap.size + 1) (j := 2) (by omega)) hb5); clear hk hb5)))
  generalize hW3 : ((w5.setCell ⟨w.heap.size + 1, 0, none⟩ (.int .i64 (wrap64 (wrap64 x - 1)))).setCell ⟨w.heap.size + 1, 1, none⟩ (.int .i64 (wrap64 y))).setCell ⟨w.heap.size + 1, 2, none⟩ (.slice A d.length c) = W3
  obtain ⟨hk3, hb3, _, _⟩ := put3_all HK5.out HB5.out (by omega) _ _ _ _ hW3
  have hf3 := F_young_set (F_young_set (F_young_set HF5.out (p := ⟨w.heap.size + 1, 0, none⟩) (by simp) (.int .i64 (wrap64 (wrap64 x - 1)))) (p := ⟨w.heap.size + 1, 1, none⟩) (by simp) (.int .i64 (wrap64 y))) (p := ⟨w.heap.size + 1, 2, none⟩) (by simp) (.slice A d.length c)
  rw [hW3] at hf3
  obtain ⟨⟨c0, c1, c2⟩, _⟩ := box3 hk3
  refine bodyPost_ret (v := .tuple #[.agg #[.int .i64 (wrap64 (wrap64 x - 1)), .int .i64 (wrap64 y), .slice A d.length c], .bool true, .int .i64 0]) ?_ rfl ⟨A, c, rfl, HDC.out, F_young hf3 (Below.refl _ _) (by omega), hb3⟩
  simp [results, Try.results57, go_sem, c0, c1, c2]

set_option maxHeartbeats 4000000 in
set_option maxRecDepth 100000 in
theorem read_no (a0 size a2 a3 : Int) (A1 : Option Addr) (c1 : Nat) (l1 : List Int) (s x y : Int) (d : List Int) (e5 : Int) (w : World) (hr1 : Kd.C (Kd.int .u8) w A1 l1.length l1) (hc1 : l1.length ≤ c1) (hs : slot_Slots.f 20 a0 size a2 a3 = some (s, 0)) (h1 : 1 ≤ size) (h2 : size ≤ 32) (hp : partR size l1 = some (x, y, d, 0)) (hn : noneR x y d = false) (hc : slot_Check.f 20 a0 size a2 a3 (wrap64 (wrap64 x - 1)) (wrap64 y) d = some e5) (he : ¬ e5 = 0) :
    Calls Try.prog 57 #[.agg #[.int .i64 a0, .int .i64 size, .int .i64 a2, .int .i64 a3], .slice A1 l1.length c1] w fun e w' => e = .returned (.tuple #[.agg #[.int .i64 0, .int .i64 0, .slice none 0 0], .bool false, .int .i64 e5]) ∧ Below w.heap.size w w' := by
  have HR1 := Aside0.mk hr1
  have HC1 := Aside0.mk hc1
  have HS := Aside0.mk hs
  have H1 := Aside0.mk h1
  have H2 := Aside0.mk h2
  have HPt := Aside0.mk hp
  have HN := Aside0.mk hn
  have HChk := Aside0.mk hc
  have hq : (e5 != 0) = true := by simpa using he
  clear he
  clear hr1 hc1 hs h1 h2 hp hn hc
  have hmf : ∀ (fn : Fn) (first cap : Array Value) (w : World), (Instr.makeFunc fn first cap).run Try.prog w = .ok (.func fn first cap) w := fun _ _ _ _ => rfl
  go_enter Try.func57, Try.ntmps57
  go_wp2_with (first | (go_at_call 32; go_loud (refine (slot_Slots.calls 20 _ _ _ _ _ _ _ HS.out).mono ?_; rintro e w2 ⟨rfl, hb2⟩; have hk := blk_below (heap_two w _ _).2 hb2; have hj := blk_below (heap_two w _ _).1 hb2; obtain ⟨⟨c0, c1, c2⟩, f0, f1, f2⟩ := box3 hk; obtain ⟨j0, j1, j2, j3⟩ := box4 hj; have HK := Aside0.mk hk; have HJ := Aside0.mk hj; have HB2 := Aside0.mk (below_step (below_alloc (below_alloc (Below.refl w.heap.size w) _) _) hb2); have HZ2 := Aside0.mk (show w.heap.size + 2 ≤ w2.heap.size from by have := hb2.size; simp only [World.size_alloc] at this; omega); clear hk hj hb2)) | (go_at_call 77; go_loud (refine (part_any _ _ _ _ H1.out H2.out _ _ _ _ _ _ _ _ ?s1 HC1.out HPt.out).mono ?_; (case s1 => exact Kd.C_below HR1.out HB2.out); rintro e w3 ⟨A, c, rfl, hdc, hF, hb3⟩; have hk := blk_below HK.out hb3; have hj := blk_below HJ.out hb3; clear c0 c1 c2 f0 f1 f2 j0 j1 j2 j3; obtain ⟨⟨c0, c1, c2⟩, f0, f1, f2⟩ := box3 hk; obtain ⟨j0, j1, j2, j3⟩ := box4 hj; have HK3 := Aside0.mk hk; have HJ3 := Aside0.mk hj; have HDC := Aside0.mk hdc; have HF3 := Aside0.mk hF; have HB3 := Aside0.mk (below_step HB2.out hb3); have hz3 : w.heap.size + 1 < w3.heap.size := (by have := hb3.size; have := HZ2.out; omega); clear hk hj hdc hF hb3)) | (go_at_call 78; go_loud (refine (slot_none_calls _ _ _ _ _ _ ?n1).mono ?_; (case n1 => exact Kd.C_alloc (Kd.F_now HF3.out) _); rintro e w4 ⟨rfl, hb4⟩; rw [HN.out]; have hk := blk_below (blk_alloc HK3.out _) hb4; have hj := blk_below (blk_alloc HJ3.out _) hb4; have hs := blk_below (blk_new w3 _) hb4; clear c0 c1 c2 f0 f1 f2 j0 j1 j2 j3; obtain ⟨⟨c0, c1, c2⟩, f0, f1, f2⟩ := box3 hk; obtain ⟨j0, j1, j2, j3⟩ := box4 hj; obtain ⟨⟨s0, s1, s2⟩, _⟩ := box3 hs; have HK4 := Aside0.mk hk; have HJ4 := Aside0.mk hj; have HF4 := Aside0.mk (F_young (base' := w.heap.size + 2) HF3.out (below_step (below_alloc (Below.refl _ w3) _) hb4) HZ2.out); have HB4 := Aside0.mk (below_step (below_alloc HB3.out _) hb4); clear hk hj hs hb4)) | (go_at_call 51; go_loud (refine (slot_Check.calls 20 _ _ _ _ _ _ _ _ _ _ _ ?k1 HDC.out HChk.out).mono ?_; (case k1 => exact Kd.F_now (F_young_set (F_young_set (F_young_set HF4.out (by simp) _) (by simp) _) (by simp) _)); rintro e w5 ⟨rfl, hb5⟩; have hk := blk_below (put3 HK4.out _ _ _) hb5; clear c0 c1 c2 f0 f1 f2 j0 j1 j2 j3 s0 s1 s2; obtain ⟨⟨c0, c1, c2⟩, f0, f1, f2⟩ := box3 hk; have HK5 := Aside0.mk hk; have HF5 := Aside0.mk (F_young (base' := w.heap.size + 2) (F_young_set (F_young_set (F_young_set HF4.out (p := ⟨w.heap.size + 1, 0, none⟩) (by simp) _) (p := ⟨w.heap.size + 1, 1, none⟩) (by simp) _) (p := ⟨w.heap.size + 1, 2, none⟩) (by simp) _) hb5 (Nat.le_refl _)); have HB5 := Aside0.mk (below_step (below_set (below_set (below_set HB4.out (g := w.heap.size + 1) (j := 0) (by omega)) (g := w.heap.size + 1) (j := 1) (by omega)) (g := w.heap.size + 1) (j := 2) (by omega)) hb5); clear hk hb5)))
  generalize hW3 : ((w5.setCell ⟨w.heap.size + 1, 0, none⟩ (.int .i64 0)).setCell ⟨w.heap.size + 1, 1, none⟩ (.int .i64 0)).setCell ⟨w.heap.size + 1, 2, none⟩ (.slice none 0 0) = W3
  obtain ⟨hk3, hb3, _, _⟩ := put3_all HK5.out HB5.out (by omega) _ _ _ _ hW3
  obtain ⟨⟨c0, c1, c2⟩, _⟩ := box3 hk3
  refine bodyPost_ret (v := .tuple #[.agg #[.int .i64 0, .int .i64 0, .slice none 0 0], .bool false, .int .i64 e5]) ?_ rfl ⟨rfl, hb3⟩
  simp [results, Try.results57, go_sem, c0, c1, c2]

/-- slot.Read: what it answers; the bytes lie in memory of the call's own that nothing froze. -/
theorem slot_Read.calls2 (a0_0 a0_1 a0_2 a0_3 : Int) (A1 : Option Addr) (c1 : Nat) (l1 : List Int) (r1 r2 : Int) (r3 : List Int) (r4 : Bool) (r5 : Int) (w : World) (hr1 : Kd.C (Kd.int .u8) w A1 l1.length l1) (hc1 : l1.length ≤ c1) (h : slot_Read.f a0_0 a0_1 a0_2 a0_3 l1 = some (r1, r2, r3, r4, r5)) :
    Calls Try.prog 57 #[.agg #[.int .i64 a0_0, .int .i64 a0_1, .int .i64 a0_2, .int .i64 a0_3], .slice A1 l1.length c1] w fun e w' => ∃ v2_ : Value, e = .returned (.tuple #[.agg #[.int .i64 r1, .int .i64 r2, v2_], .bool r4, .int .i64 r5]) ∧ Kd.V (Kd.int .u8) 5 w' w.heap.size (Young w.heap.size w') v2_ r3 ∧ Below w.heap.size w w' := by
  unfold slot_Read.f at h
  obtain ⟨⟨s, e0⟩, hs, h⟩ := Option.bind_eq_some_iff.1 h
  simp only at h
  by_cases he : e0 = 0
  · subst he
    rw [if_pos rfl] at h
    by_cases hsz : 1 ≤ a0_1 ∧ a0_1 ≤ 32
    · rw [if_pos hsz] at h
      obtain ⟨⟨x, y, d, e1⟩, hp, h⟩ := Option.bind_eq_some_iff.1 h
      simp only at h
      by_cases he1 : e1 = 0
      · subst he1
        rw [if_pos rfl] at h
        cases hn : noneR x y d with
        | true =>
          rw [hn, if_pos rfl] at h
          simp only [Option.some.injEq, Prod.mk.injEq] at h
          obtain ⟨rfl, rfl, rfl, rfl, rfl⟩ := h
          exact (read_none a0_0 a0_1 a0_2 a0_3 A1 c1 l1 s x y d w hr1 hc1 hs hsz.1 hsz.2 hp hn).mono fun e w' ⟨he, hb⟩ => ⟨_, he, Kd.V_nil _ _ _ _ _, hb⟩
        | false =>
          rw [hn, if_neg (by decide)] at h
          obtain ⟨e5, hc, h⟩ := Option.bind_eq_some_iff.1 h
          by_cases he5 : e5 = 0
          · subst he5
            rw [if_pos rfl] at h
            simp only [Option.some.injEq, Prod.mk.injEq] at h
            obtain ⟨rfl, rfl, rfl, rfl, rfl⟩ := h
            exact (read_yes a0_0 a0_1 a0_2 a0_3 A1 c1 l1 s x y d w hr1 hc1 hs hsz.1 hsz.2 hp hn hc).mono fun e w' ⟨A, c, he, hl, hf, hb⟩ => ⟨_, he, Kd.V_mk hl hf, hb⟩
          · rw [if_neg he5] at h
            simp only [Option.some.injEq, Prod.mk.injEq] at h
            obtain ⟨rfl, rfl, rfl, rfl, rfl⟩ := h
            exact (read_no a0_0 a0_1 a0_2 a0_3 A1 c1 l1 s x y d _ w hr1 hc1 hs hsz.1 hsz.2 hp hn hc he5).mono fun e w' ⟨he, hb⟩ => ⟨_, he, Kd.V_nil _ _ _ _ _, hb⟩
      · rw [if_neg he1] at h
        simp only [Option.some.injEq, Prod.mk.injEq] at h
        obtain ⟨rfl, rfl, rfl, rfl, rfl⟩ := h
        exact (read_err a0_0 a0_1 a0_2 a0_3 A1 c1 l1 s x y d _ w hr1 hc1 hs hsz.1 hsz.2 hp he1).mono fun e w' ⟨he, hb⟩ => ⟨_, he, Kd.V_nil _ _ _ _ _, hb⟩
    · rw [if_neg hsz] at h; cases h
  · rw [if_neg he] at h
    simp only [Option.some.injEq, Prod.mk.injEq] at h
    obtain ⟨rfl, rfl, rfl, rfl, rfl⟩ := h
    exact (read_bad a0_0 a0_1 a0_2 a0_3 A1 c1 l1 s _ w hs he).mono fun e w' ⟨he, hb⟩ => ⟨_, he, Kd.V_nil _ _ _ _ _, hb⟩

theorem slot_Read.calls (a0_0 a0_1 a0_2 a0_3 : Int) (A1 : Option Addr) (c1 : Nat) (l1 : List Int) (r1 r2 : Int) (r3 : List Int) (r4 : Bool) (r5 : Int) (w : World) (hr1 : Kd.C (Kd.int .u8) w A1 l1.length l1) (hc1 : l1.length ≤ c1) (h : slot_Read.f a0_0 a0_1 a0_2 a0_3 l1 = some (r1, r2, r3, r4, r5)) :
    Calls Try.prog 57 #[.agg #[.int .i64 a0_0, .int .i64 a0_1, .int .i64 a0_2, .int .i64 a0_3], .slice A1 l1.length c1] w fun e w' => ∃ v2_ : Value, e = .returned (.tuple #[.agg #[.int .i64 r1, .int .i64 r2, v2_], .bool r4, .int .i64 r5]) ∧ Kd.V (Kd.int .u8) 5 w' w.heap.size (fun k_ => w.heap.size ≤ k_) v2_ r3 ∧ Below w.heap.size w w' :=
  (slot_Read.calls2 a0_0 a0_1 a0_2 a0_3 A1 c1 l1 r1 r2 r3 r4 r5 w hr1 hc1 h).mono fun e w' ⟨v, he, hv, hb⟩ => ⟨v, he, Kd.V_mono hv (fun _ hk => hk.1), hb⟩

/-! ### slot.Write -/
def slot_Write.f (a0_0 a0_1 a0_2 a0_3 a1_0 a1_1 : Int) (l1_2 : List Int) : Option (List Int × Int) :=
  (slot_Check.f 20 a0_0 a0_1 a0_2 a0_3 a1_0 a1_1 l1_2).bind fun e => if e = 0 then
    (num_Put.f 60 [IntKind.u64.wrap (IntKind.u64.wrap a1_0 + 1), IntKind.u64.wrap a1_1] [4, 4]).bind fun t => if t.1.length + l1_2.length < 140737488355328 then some (t.1 ++ l1_2, t.2) else none
  else some ([], e)

set_option maxHeartbeats 4000000 in
set_option maxRecDepth 100000 in
theorem write_no (a0 a1 a2 a3 b0 b1 : Int) (A1 : Option Addr) (c1 : Nat) (l1 : List Int) (e0 : Int) (w : World) (hr1 : Kd.C (Kd.int .u8) w A1 l1.length l1) (hc1 : l1.length ≤ c1) (h : slot_Check.f 20 a0 a1 a2 a3 b0 b1 l1 = some e0) (he : ¬ e0 = 0) :
    Calls Try.prog 34 #[.agg #[.int .i64 a0, .int .i64 a1, .int .i64 a2, .int .i64 a3], .agg #[.int .i64 b0, .int .i64 b1, .slice A1 l1.length c1]] w fun e w' => e = .returned (.tuple #[.slice none 0 0, .int .i64 e0]) ∧ Below w.heap.size w w' := by
  have HR1 := Aside0.mk hr1
  have HC1 := Aside0.mk hc1
  have H := Aside0.mk h
  have hq : (e0 != 0) = true := by simpa using he
  clear hr1 hc1 h he
  go_enter Try.func34, Try.ntmps34
  go_wp2_with (go_at_call 51; go_loud (refine (slot_Check.calls 20 _ _ _ _ _ _ _ _ _ _ _ ?s1 HC1.out H.out).mono ?_; (case s1 => exact Kd.C_alloc (Kd.C_alloc HR1.out _) _); rintro e w2 ⟨rfl, hb2⟩; have HB2 := Aside0.mk (below_step (below_alloc (below_alloc (Below.refl w.heap.size w) _) _) hb2); clear hb2))
  go_ret2
  exact ⟨rfl, HB2.out⟩

set_option maxHeartbeats 4000000 in
set_option maxRecDepth 100000 in
theorem write_yes (a0 a1 a2 a3 b0 b1 : Int) (A1 : Option Addr) (c1 : Nat) (l1 : List Int) (t1 : List Int) (e0 : Int) (w : World) (hr1 : Kd.C (Kd.int .u8) w A1 l1.length l1) (hc1 : l1.length ≤ c1) (h : slot_Check.f 20 a0 a1 a2 a3 b0 b1 l1 = some 0)
    (hp : num_Put.f 60 [IntKind.u64.wrap (IntKind.u64.wrap b0 + 1), IntKind.u64.wrap b1] [4, 4] = some (t1, e0)) (hl : t1.length + l1.length < 140737488355328) :
    Calls Try.prog 34 #[.agg #[.int .i64 a0, .int .i64 a1, .int .i64 a2, .int .i64 a3], .agg #[.int .i64 b0, .int .i64 b1, .slice A1 l1.length c1]] w fun e w' => ∃ v, e = .returned (.tuple #[v, .int .i64 e0]) ∧ Kd.R (Kd.int .u8) 5 w' w.heap.size (fun _ => True) v (t1 ++ l1) ∧ Below w.heap.size w w' := by
  have HR1 := Aside0.mk hr1
  have HC1 := Aside0.mk hc1
  have H := Aside0.mk h
  have HP := Aside0.mk hp
  have HL := Aside0.mk hl
  clear hr1 hc1 h hp hl
  go_enter Try.func34, Try.ntmps34
  go_wp2_with (go_at_call 51; go_loud (refine (slot_Check.calls 20 _ _ _ _ _ _ _ _ _ _ _ ?s1 HC1.out H.out).mono ?_; (case s1 => exact Kd.C_alloc (Kd.C_alloc HR1.out _) _); rintro e w2 ⟨rfl, hb2⟩; have hk := blk_below (heap_two w _ _).2 hb2; obtain ⟨⟨c0, c1, c2⟩, _⟩ := box3 hk; have HK := Aside0.mk hk; have hz2 : w.heap.size + 1 < w2.heap.size := (by have := hb2.size; simp only [World.size_alloc] at this; omega); have HB2 := Aside0.mk (below_step (below_alloc (below_alloc (Below.refl w.heap.size w) _) _) hb2); clear hb2 hk))
  go_region_with (go_at_call 62; go_loud (refine calls_of_args (show _ = #[.slice _ [IntKind.u64.wrap (IntKind.u64.wrap b0 + 1), IntKind.u64.wrap b1].length 2, .slice _ [(4 : Int), 4].length 2] from by rfl) ?_; refine (num_Put.calls 60 _ _ _ _ _ _ _ _ _ ?p1 (Nat.le_refl _) ?p2 (Nat.le_refl _) HP.out).mono ?_; (case p1 => exact lit_at .u64 _ (by simp) (by simp)); (case p2 => exact Kd.C_alloc (Kd.C_drew (lit_at .i64 [4, 4] (by simp) (by simp))) _); rintro e w3 ⟨v3, rfl, hv3, hb3⟩; obtain ⟨A3, c3, rfl⟩ := Kd.R_slice hv3; have HV3 := Aside0.mk hv3; have hb23 := below_step (below_alloc (below_drew (below_alloc (Below.refl _ w2) _)) _) hb3; have hk := blk_below HK.out hb23; clear c0 c1 c2; obtain ⟨⟨c0, c1, c2⟩, _⟩ := box3 hk; have HB3 := Aside0.mk hb23; clear hv3 hb3 hk hb23))
  all_goals
    go_wp2_with (at_builtin; go_loud (refine Kd.R_append_rows (Kd.int .u8) (w0 := w) w.heap.size rfl (.tmp 30) (.tmp 32) 43 5 (.int .u8 0) 1 rfl Try.underlying43 info5 rfl (by decide) (by omega) (.slice A3 t1.length c3) t1 l1 _ _ _ (fun _ => True) (fun _ => False) rfl rfl ?aO ?aR (fun _ _ h => h) (fun _ h => h.elim) ?aF ?aB ?aS ?aL ?_; (case aO => exact Kd.R_lower HV3.out (Nat.le_trans (below_size HB2.out) (by simp; omega))); (case aR => exact Kd.C_below HR1.out (below_step HB2.out HB3.out)); (case aF => exact fun _ _ => trivial); (case aB => exact below_step HB2.out HB3.out); (case aS => exact below_size (below_step HB2.out HB3.out)); (case aL => have := HL.out; simp; omega); intro v1 w1 hown hb hg hat; have HO := Aside0.mk hown; have HB := Aside0.mk hb; clear hown hb hg hat))
    go_ret2
    exact ⟨_, rfl, HO.out, HB.out⟩

theorem slot_Write.calls (a0_0 a0_1 a0_2 a0_3 a1_0 a1_1 : Int) (A1_2 : Option Addr) (c1_2 : Nat) (l1_2 : List Int) (r1 : List Int) (r2 : Int) (w : World) (hr1_2 : Kd.C (Kd.int .u8) w A1_2 l1_2.length l1_2) (hc1_2 : l1_2.length ≤ c1_2) (h : slot_Write.f a0_0 a0_1 a0_2 a0_3 a1_0 a1_1 l1_2 = some (r1, r2)) :
    Calls Try.prog 34 #[.agg #[.int .i64 a0_0, .int .i64 a0_1, .int .i64 a0_2, .int .i64 a0_3], .agg #[.int .i64 a1_0, .int .i64 a1_1, .slice A1_2 l1_2.length c1_2]] w fun e w' => ∃ v0_ : Value, e = .returned (.tuple #[v0_, .int .i64 r2]) ∧ Kd.R (Kd.int .u8) 5 w' w.heap.size (fun _ => True) v0_ r1 ∧ Below w.heap.size w w' := by
  unfold slot_Write.f at h
  obtain ⟨e, hc, h⟩ := Option.bind_eq_some_iff.1 h
  by_cases he : e = 0
  · subst he
    rw [if_pos rfl] at h
    obtain ⟨⟨t1, t2⟩, hp, h⟩ := Option.bind_eq_some_iff.1 h
    simp only at h
    by_cases hl : t1.length + l1_2.length < 140737488355328
    · rw [if_pos hl] at h
      simp only [Option.some.injEq, Prod.mk.injEq] at h
      obtain ⟨rfl, rfl⟩ := h
      exact write_yes _ _ _ _ _ _ _ _ _ _ _ _ hr1_2 hc1_2 hc hp hl
    · rw [if_neg hl] at h; cases h
  · rw [if_neg he] at h
    simp only [Option.some.injEq, Prod.mk.injEq] at h
    obtain ⟨rfl, rfl⟩ := h
    exact (write_no _ _ _ _ _ _ _ _ _ _ _ hr1_2 hc1_2 hc he).mono fun e w' ⟨he, hb⟩ => ⟨_, he, Kd.R_nil _ _ _ _ _, hb⟩
end Go.Proofs.Ytknmokpnkcckeaa
