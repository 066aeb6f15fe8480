/-
entry.at, entry.Read, entry.Put: what the calls compute, as plain Lean, and that the calls do so.
-/
import Derived.Test.YtnnknbbgkjgbcaaHandCut
import Derived.Test.YtnnknbbgkjgbcaaGeoPure
import Derived.Test.YtnnknbbgkjgbcaaPAll11
import Derived.Test.YtnnknbbgkjgbcaaPAll9
import Derived.Test.YtnnknbbgkjgbcaaPAll27
namespace Go.Proofs.Ytnnknbbgkjgbcaa
open Go.RowKit Go.Proofs.YtnnknbbgkjgbcaaW.PrintWords Go.Proofs.YtnnknbbgkjgbcaaW.PrintLast Go.Proofs.YtnnknbbgkjgbcaaW.PrintMore Go.Proofs.Ytnnknbbgkjgbcaa.PAll
set_option linter.unusedVariables false
set_option linter.unusedSimpArgs false

def outR (n a b : Int) : Bool := decide (n < a) || decide (b < n)
theorem out_calls (n a b : Int) (w : World) :
    Calls Try.prog 66 #[.int .i64 n, .int .i64 a, .int .i64 b] w fun e w' => e = .returned (.bool (outR n a b)) ∧ w = w' := by
  by_cases h0 : n < a
  · have hr : outR n a b = true := by simp [outR, h0]
    have HR := Aside0.mk hr
    clear hr
    go_enter Try.func66, Try.ntmps66
    go_wp2
    go_ret
    exact ⟨by rw [HR.out]; rfl, rfl⟩
  · have hr : outR n a b = decide (b < n) := by simp [outR, h0]
    have HR := Aside0.mk hr
    clear hr
    go_enter Try.func66, Try.ntmps66
    go_wp2
    go_ret
    exact ⟨by rw [HR.out]; rfl, rfl⟩

/-- May a block of n bytes be asked at a place. -/
def atOk (high : Int) (n : Nat) (place : Int) : Bool := isHigh high && !outR n 8 32 && decide (n % 4 = 0) && !outR place 0 (n / 4 - 1 : Int)

theorem run_cut_three {P : Program} (t e : TypeId) {i : TypeInfo} (ht : P.underlying t = some (.slice e)) (hi : P.info? e = some i) (hsz : i.size = 1) (A : Option Addr) (n c : Nat) (a : Int) (h0 : 0 ≤ a) (h1 : a + 4 ≤ c) (W : World) :
    (Instr.slice t (.slice A n c) (some (.int .i64 a)) (some (.int .i64 (a + 4))) (some (.int .i64 (a + 4)))).run P W = .ok (.slice (A.map (·.add a.toNat)) 4 4) W := by
  have hel : P.elem t = e := by simp [Program.elem, ht]
  have hu : P.underlying t = some (.slice (P.elem t)) := by rw [hel]; exact ht
  have e1 : (a + 4).toNat = a.toNat + 4 := by omega
  have e2 : ((a.toNat : Nat) : Int) = a := by omega
  have h2 : a ≤ a + 4 := by omega
  have h3 : 0 ≤ a + 4 := by omega
  simp [Instr.slice, run_underlying hu, Instr.sliceBounds, run_sliceBound, sliced, hel, sizeOf, typeInfo, hi, hsz, Result.andThen, h0, h1, e1, e2, h2, h3]

/-- What entry.at answers. -/
def atV (high : Int) (A : Option Addr) (n : Nat) (place : Int) : Value :=
  if atOk high n place then .tuple #[.slice (A.map (·.add (4 * place).toNat)) 4 4, .int .i64 0] else .tuple #[.slice none 0 0, .int .i64 2]

theorem atOk_facts {high place : Int} {n : Nat} (h : atOk high n place = true) : isHigh high = true ∧ 8 ≤ n ∧ n ≤ 32 ∧ n % 4 = 0 ∧ 0 ≤ place ∧ 4 * place + 4 ≤ n := by
  unfold atOk at h
  simp only [Bool.and_eq_true, Bool.not_eq_true', decide_eq_true_eq, outR, Bool.or_eq_false_iff, decide_eq_false_iff_not] at h
  obtain ⟨⟨⟨h1, h2, h2'⟩, h3⟩, h4, h4'⟩ := h
  exact ⟨h1, by omega, by omega, h3, by omega, by omega⟩

set_option maxHeartbeats 2000000 in
theorem at_calls (high place : Int) (A : Option Addr) (n c : Nat) (w : World) (hn : n ≤ c) (hm : n ≤ 9223372036854775807) :
    Calls Try.prog 55 #[.int .i64 high, .slice A n c, .int .i64 place] w fun e w' => e = .returned (atV high A n place) ∧ Drawn0 w w' := by
  have hw : wrap64 (wrap64 ((n : Int) / 4) - 1) = (n : Int) / 4 - 1 := by unfold wrap64; omega
  cases h1 : isHigh high with
  | false =>
    have HV : Aside0 (atV high A n place = .tuple #[.slice none 0 0, .int .i64 2]) := ⟨by unfold atV atOk; rw [h1]; rfl⟩
    have HC := Aside0.mk (check_no 0 h1)
    clear h1 hw
    go_enter Try.func55, Try.ntmps55
    go_wp2_with (first | (go_at_call 67; refine (geo_Check.calls _ _ _ _ HC.out).mono ?_; rintro e w2 ⟨rfl, nd, rfl⟩))
    go_ret2
    exact ⟨by rw [HV.out]; rfl, ⟨nd, rfl⟩⟩
  | true =>
    have HC := Aside0.mk (check_yes 0 h1)
    cases h2 : outR n 8 32 with
    | true =>
      have HV : Aside0 (atV high A n place = .tuple #[.slice none 0 0, .int .i64 2]) := ⟨by unfold atV atOk; rw [h1, h2]; rfl⟩
      have H2 := Aside0.mk h2
      clear h1 h2 hw
      go_enter Try.func55, Try.ntmps55
      go_wp2_with (first | (go_at_call 67; refine (geo_Check.calls _ _ _ _ HC.out).mono ?_; rintro e w2 ⟨rfl, nd, rfl⟩) | (go_at_call 66; refine (out_calls _ _ _ _).mono ?_; rintro e w2 ⟨rfl, rfl⟩; rw [H2.out]))
      go_ret2
      exact ⟨by rw [HV.out]; rfl, ⟨nd, rfl⟩⟩
    | false =>
      have H2 := Aside0.mk h2
      by_cases h3 : n % 4 = 0
      · have hq : decide (0 < (n : Int) % 4) = false := decide_eq_false (by omega)
        cases h4 : outR place 0 ((n : Int) / 4 - 1) with
        | true =>
          have HV : Aside0 (atV high A n place = .tuple #[.slice none 0 0, .int .i64 2]) := ⟨by unfold atV atOk; rw [h1, h2, h4]; simp⟩
          have H4 : Aside0 (outR place 0 (wrap64 (wrap64 ((n : Int) / 4) - 1)) = true) := ⟨by rw [hw]; exact h4⟩
          clear h1 h2 h4 hw h3 hm
          go_enter Try.func55, Try.ntmps55
          go_wp2_with (first | (go_at_call 67; refine (geo_Check.calls _ _ _ _ HC.out).mono ?_; rintro e w2 ⟨rfl, nd, rfl⟩) | (go_at_call 66; refine (out_calls _ _ _ _).mono ?_; rintro e w2 ⟨rfl, rfl⟩; first | rw [H2.out] | rw [H4.out]))
          go_ret2
          exact ⟨by rw [HV.out]; rfl, ⟨nd, rfl⟩⟩
        | false =>
          have hok : atOk high n place = true := by unfold atOk; rw [h1, h2, h4, decide_eq_true h3]; rfl
          obtain ⟨_, hb1, hb2, _, hb3, hb4⟩ := atOk_facts hok
          have HV : Aside0 (atV high A n place = .tuple #[.slice (A.map (·.add (4 * place).toNat)) 4 4, .int .i64 0]) := ⟨by unfold atV; rw [hok]; rfl⟩
          have H4 : Aside0 (outR place 0 (wrap64 (wrap64 ((n : Int) / 4) - 1)) = false) := ⟨by rw [hw]; exact h4⟩
          have hw1 : wrap64 (4 * place) = 4 * place := by unfold wrap64; omega
          have hw2 : wrap64 (4 * place + 4) = 4 * place + 4 := by unfold wrap64; omega
          obtain ⟨i0, hi0, _, hsz0, _⟩ := info_parts info5
          have hcut := fun W => run_cut_three (P := Try.prog) 28 5 Try.underlying28 hi0 hsz0 A n c (4 * place) (by omega) (by omega) W
          clear hm h1 h2 h4 hw h3 hok hb1 hb2 hb3 hb4 hi0 hsz0
          go_enter Try.func55, Try.ntmps55
          go_wp2_with (first | (go_at_call 67; refine (geo_Check.calls _ _ _ _ HC.out).mono ?_; rintro e w2 ⟨rfl, nd, rfl⟩) | (go_at_call 66; refine (out_calls _ _ _ _).mono ?_; rintro e w2 ⟨rfl, rfl⟩; first | rw [H2.out] | rw [H4.out]))
          go_ret2
          exact ⟨by rw [HV.out]; rfl, ⟨nd, rfl⟩⟩
      · have hq : decide (0 < (n : Int) % 4) = true := decide_eq_true (by omega)
        have HV : Aside0 (atV high A n place = .tuple #[.slice none 0 0, .int .i64 2]) := ⟨by unfold atV atOk; rw [decide_eq_false h3]; simp⟩
        clear h1 h2 hw h3
        go_enter Try.func55, Try.ntmps55
        go_wp2_with (first | (go_at_call 67; refine (geo_Check.calls _ _ _ _ HC.out).mono ?_; rintro e w2 ⟨rfl, nd, rfl⟩) | (go_at_call 66; refine (out_calls _ _ _ _).mono ?_; rintro e w2 ⟨rfl, rfl⟩; rw [H2.out]))
        go_ret2
        exact ⟨by rw [HV.out]; rfl, ⟨nd, rfl⟩⟩

/-! ### entry.Read -/
def entry_Read.f (high : Int) (b : List Int) (place : Int) : Option (Int × Int) :=
  if atOk high b.length place then
    (num_Take.f 60 ((b.take ((4 * place).toNat + 4)).drop (4 * place).toNat) [4]).bind fun t => if 0 < t.1.length then (entry_Check.f 20 high (wrap64 (rd t.1 0))).bind fun e => (if e = 0 then some (wrap64 (rd t.1 0), 0) else some (0, e)) else none
  else some (0, 2)

theorem lit_one {W : World} {fr : Nat × Nat} (z : Int) : Kd.C (Kd.int .i64) (W.alloc (.cells #[.int .i64 z] 3 fr)) (some ⟨W.heap.size, 0, none⟩) [z].length [z] := by
  refine ⟨rfl, by simp, fun _ => ⟨_, rfl, fun j p hj => ?_⟩⟩
  refine ⟨[.int .i64 p], rfl, rfl, fun i u hu => ?_⟩
  have hi : i = 0 := by
    rcases i with _ | i
    · rfl
    · simp at hu
  subst hi
  simp only [List.getElem?_cons_zero, Option.some.injEq] at hu
  subst hu
  have hc : ∀ k, (W.alloc (.cells #[.int .i64 z] 3 fr)).cell? ⟨W.heap.size, k, none⟩ = #[Value.int .i64 z][k]? := World.cell?_alloc_mark W _ 3 fr
  have he : (⟨W.heap.size, 0, none⟩ : Addr).add (j * (Kd.int .i64).sz + 0) = ⟨W.heap.size, j, none⟩ := by rw [add_at]; simp [Kd.int, Kd.scalar]
  rw [he, hc]
  rcases j with _ | j
  · simp only [List.getElem?_cons_zero, Option.some.injEq] at hj; subst hj; rfl
  · simp at hj

theorem cut_reads {w : World} {A : Option Addr} {l : List Int} (h : Kd.C (Kd.int .u8) w A l.length l) (m : Nat) (hm : m + 4 ≤ l.length) : Kd.C (Kd.int .u8) w (A.map (·.add m)) ((l.take (m + 4)).drop m).length ((l.take (m + 4)).drop m) := by
  have := Kd.C_mid (lo := m) (hi := m + 4) (c := l.length + m + 1) h (by omega) hm (by omega)
  rw [if_neg (by omega)] at this
  simpa [Kd.int, Kd.scalar] using this

set_option maxHeartbeats 2000000 in
theorem entry_Read.calls (a0 : Int) (A1 : Option Addr) (c1 : Nat) (l1 : List Int) (a2 : Int) (r1 r2 : Int) (w : World) (hr1 : Kd.C (Kd.int .u8) w A1 l1.length l1) (hc1 : l1.length ≤ c1) (h : entry_Read.f a0 l1 a2 = some (r1, r2)) :
    Calls Try.prog 33 #[.int .i64 a0, .slice A1 l1.length c1, .int .i64 a2] w fun e w' => e = .returned (.tuple #[.int .i64 r1, .int .i64 r2]) ∧ Below w.heap.size w w' := by
  have HAt := at_calls a0 a2 A1 l1.length c1
  have HR1 := Aside0.mk hr1
  have HC1 := Aside0.mk hc1
  have HM := Aside0.mk hr1.2.1
  clear hr1 hc1
  unfold entry_Read.f at h
  cases hok : atOk a0 l1.length a2 with
  | false =>
    rw [hok, if_neg (by decide)] at h
    simp only [Option.some.injEq, Prod.mk.injEq] at h
    obtain ⟨rfl, rfl⟩ := h
    have HV : Aside0 (atV a0 A1 l1.length a2 = .tuple #[.slice none 0 0, .int .i64 2]) := ⟨by unfold atV; rw [hok]; rfl⟩
    have HA := Aside0.mk HAt
    clear hok HAt
    go_enter Try.func33, Try.ntmps33
    go_wp2_with (go_at_call 55; refine (HA.out _ HC1.out HM.out).mono ?_; rintro e w2 ⟨rfl, nd, rfl⟩; rw [HV.out])
    go_ret2
    exact ⟨rfl, pw_below_drewN (Below.refl _ _) _⟩
  | true =>
    obtain ⟨_, _, _, _, hp0, hp1⟩ := atOk_facts hok
    rw [hok, if_pos rfl] at h
    have HV : Aside0 (atV a0 A1 l1.length a2 = .tuple #[.slice (A1.map (·.add (4 * a2).toNat)) 4 4, .int .i64 0]) := ⟨by unfold atV; rw [hok]; rfl⟩
    have HA := Aside0.mk HAt
    have HCut := Aside0.mk (cut_reads HR1.out (4 * a2).toNat (by omega))
    have HL : Aside0 (((l1.take ((4 * a2).toNat + 4)).drop (4 * a2).toNat).length = 4) := ⟨by rw [List.length_drop, List.length_take]; omega⟩
    generalize hp : (l1.take ((4 * a2).toNat + 4)).drop (4 * a2).toNat = p at h HCut HL
    generalize hA' : A1.map (·.add (4 * a2).toNat) = A' at HV HCut
    obtain ⟨⟨t1, t2⟩, ht, h⟩ := Option.bind_eq_some_iff.1 h
    simp only at h
    by_cases hl : 0 < t1.length
    · rw [if_pos hl] at h
      obtain ⟨e0, hck, h⟩ := Option.bind_eq_some_iff.1 h
      have HT := Aside0.mk ht
      have HK := Aside0.mk hck
      have HTl := Aside0.mk hl
      have H := Aside0.mk h
      clear hok HAt hp hA' ht hck hl hp0 hp1 h
      have key : ∀ (e0' : Int), e0' = e0 → True := fun _ _ => trivial
      go_enter Try.func33, Try.ntmps33
      by_cases he : e0 = 0
      · subst he
        have hr : r1 = wrap64 (rd t1 0) ∧ r2 = 0 := by have := H.out; rw [if_pos rfl] at this; cases this; exact ⟨rfl, rfl⟩
        obtain ⟨rfl, rfl⟩ := hr
        go_wp2_with (first | (go_at_call 55; refine (HA.out _ HC1.out HM.out).mono ?_; rintro e w2 ⟨rfl, nd, rfl⟩; rw [HV.out]) | (go_at_call 56; (refine calls_of_args (show _ = #[.slice A' p.length 4, .slice _ [(4 : Int)].length 1] from by first | (rw [HL.out]; done) | (rw [HL.out]; rfl)) ?_; refine (num_Take.calls 60 _ _ p _ _ [4] t1 t2 _ ?s1 ?s2 ?s3 ?s4 HT.out).mono ?_; (case s1 => exact Kd.C_alloc (Kd.C_drewN HCut.out _) _); (case s2 => rw [HL.out]; exact Nat.le_refl _); (case s3 => exact lit_one 4); (case s4 => exact Nat.le_refl _); rintro e w3 ⟨v3, rfl, hv3, hb3⟩; obtain ⟨A3, c3, rfl⟩ := Kd.R_slice hv3; have HV3 := Aside0.mk hv3; obtain ⟨ad, e1, hx0⟩ := Kd.at_int (Kd.R_reads' hv3).2.2 0 (by omega) (by have := HTl.out; omega); cases e1; have hx : w3.cell? ad = some (.int .u64 (rd t1 0)) := hx0; have hl0 := HTl.out; have hl1 : (0 : Int) < (t1.length : Int) := (by omega); clear hx0; have HB3 := Aside0.mk (below_step (below_alloc (pw_below_drewN (Below.refl _ _) _) _) hb3); clear hv3 hb3)) | (go_at_call 17; refine (entry_Check.calls 20 _ _ _ _ HK.out).mono ?_; rintro e w4 ⟨rfl, nd4, rfl⟩))
        go_ret2
        exact ⟨rfl, pw_below_drewN HB3.out _⟩
      · have hr : r1 = 0 ∧ e0 = r2 := by have := H.out; rw [if_neg he] at this; cases this; exact ⟨rfl, rfl⟩
        obtain ⟨rfl, rfl⟩ := hr
        have hq : (e0 != 0) = true := by simpa using he
        go_wp2_with (first | (go_at_call 55; refine (HA.out _ HC1.out HM.out).mono ?_; rintro e w2 ⟨rfl, nd, rfl⟩; rw [HV.out]) | (go_at_call 56; (refine calls_of_args (show _ = #[.slice A' p.length 4, .slice _ [(4 : Int)].length 1] from by first | (rw [HL.out]; done) | (rw [HL.out]; rfl)) ?_; refine (num_Take.calls 60 _ _ p _ _ [4] t1 t2 _ ?s1 ?s2 ?s3 ?s4 HT.out).mono ?_; (case s1 => exact Kd.C_alloc (Kd.C_drewN HCut.out _) _); (case s2 => rw [HL.out]; exact Nat.le_refl _); (case s3 => exact lit_one 4); (case s4 => exact Nat.le_refl _); rintro e w3 ⟨v3, rfl, hv3, hb3⟩; obtain ⟨A3, c3, rfl⟩ := Kd.R_slice hv3; have HV3 := Aside0.mk hv3; obtain ⟨ad, e1, hx0⟩ := Kd.at_int (Kd.R_reads' hv3).2.2 0 (by omega) (by have := HTl.out; omega); cases e1; have hx : w3.cell? ad = some (.int .u64 (rd t1 0)) := hx0; have hl0 := HTl.out; have hl1 : (0 : Int) < (t1.length : Int) := (by omega); clear hx0; have HB3 := Aside0.mk (below_step (below_alloc (pw_below_drewN (Below.refl _ _) _) _) hb3); clear hv3 hb3)) | (go_at_call 17; refine (entry_Check.calls 20 _ _ _ _ HK.out).mono ?_; rintro e w4 ⟨rfl, nd4, rfl⟩))
        go_ret2
        exact ⟨rfl, pw_below_drewN HB3.out _⟩
    · rw [if_neg hl] at h; cases h

/-! ### entry.Put -/
theorem take_three {α : Type} (X S Y : List α) (n m : Nat) (hX : X.length = m) (hm : m + S.length ≤ n) : (X ++ (S ++ Y)).take n = X ++ (S ++ Y.take (n - (m + S.length))) := by
  have e1 : X.take n = X := List.take_of_length_le (by omega)
  have e2 : S.take (n - m) = S := List.take_of_length_le (by omega)
  rw [List.take_append, e1, hX, List.take_append, e2, Nat.sub_sub]
theorem put_list {α : Type} {L E S D : List α} {n m : Nat} (h : L.take n = E) (hm : m + S.length ≤ n) (hl : n ≤ L.length) (hD : D = E.take m ++ S ++ E.drop (m + S.length)) : (L.take m ++ (S ++ L.drop (m + S.length))).take n = D := by
  subst h
  subst hD
  rw [take_three _ _ _ n m (by rw [List.length_take]; omega) hm, List.take_take, Nat.min_eq_left (by omega), List.drop_take, List.append_assoc]

section
variable {P : Program} {ops : Array Oper} {rest : List Oper} {o : Oper} {a : Act} {Q : Exit → Act → World → Prop}
/-- copy into a cut of four of a row of bytes of one's own. -/
theorem R_copy_at {w0 W : World} (base : Nat) (hgd : o.guard = none) (s x : Operand) (t t' e : TypeId)
    (ho : o.op = .call { callee := .builtin .copy, args := #[s, x], argTypes := #[t, t'] }) (ht : P.underlying t = some (.slice e)) (hinfo : (P.info? e).map (·.size) = some 1)
    (Ac : Option Addr) (cc : Nat) (xs ys : List Int) (A : Option Addr) (c n m : Nat) (ok : Nat → Prop) (hs : a.eval s = .slice (Ac.map (·.add m)) 4 4) (hx : a.eval x = .slice A n c) (hn : n = 4) (hy : ys.length = 4) (hm : m + 4 ≤ xs.length)
    (HO : Kd.R (Kd.int .u8) e W base ok (.slice Ac xs.length cc) xs) (HR : Kd.C (Kd.int .u8) W A n ys) (HB : Below base w0 W) (hbase : base ≤ W.heap.size)
    (h : ∀ w1, Kd.R (Kd.int .u8) e w1 base ok (.slice Ac xs.length cc) (xs.take m ++ ys ++ xs.drop (m + 4)) → Below base w0 w1 → wpList P ops Q rest (a.put o.dst (.int .i64 4)) w1) :
    wpList P ops Q (o :: rest) a W := by
  subst hn
  have hR := Kd.reads_of_C (enc := Value.int .u8) (d := (0 : Int)) (h1 := fun _ => rfl) HR
  have hown := Kd.own_of_R (enc := Value.int .u8) (h1 := fun _ => rfl) HO
  obtain ⟨ad, hA, hc⟩ := hR.2.2 (by omega)
  rcases hown.2 with ⟨hv0, _⟩ | ⟨g, cap, cur, hv, hb, hh, hnc, hcm, hcs, htake⟩
  · injection hv0 with _ h2 _
    omega
  · injection hv with hv1 hv2 hv3
    subst hv1
    have hcs1 : cur.size = cap := by omega
    have hel : (encs (Value.int .u8) ys).length = 4 := by rw [encs_length, hy]
    have hsrc : ∀ j u, (encs (Value.int .u8) ys)[j]? = some u → W.cell? (ad.add j) = some u := by
      intro j u hu
      have hj : j < ys.length := by
        rcases Nat.lt_or_ge j ys.length with h | h
        · exact h
        · rw [List.getElem?_eq_none (by rw [encs_length]; exact h)] at hu
          cases hu
      rw [encs_get (d := (0 : Int)) _ j hj] at hu
      rw [hc j (by omega), ← hu]
    have hr := run_copy_cells (P := P) W t t' o.type e g m 4 4 ad 4 c (encs (Value.int .u8) ys) ht hinfo (by rw [hel]; rfl) hsrc
      (fun j hj => by rw [cell_of_row W g _ cur e (0, 0) hh]; simp; omega) (fun j _ => blk_frozen hh _) (by intro u hu; simp only [encs, List.mem_map] at hu; obtain ⟨q, _, rfl⟩ := hu; rfl)
    obtain ⟨cur', h3, h4, h5⟩ := setCells_row (encs (Value.int .u8) ys) m W cur hh (by rw [hel]; omega)
    obtain ⟨s1, s2, s3, s4⟩ := setCells_same g (encs (Value.int .u8) ys) m W
    have hln : (xs.take m ++ ys ++ xs.drop (m + 4)).length = xs.length := by
      rw [List.length_append, List.length_append, List.length_take, List.length_drop]
      omega
    have hg : W.grownBy (W.setCells g m (encs (Value.int .u8) ys)) (Value.slice (some ⟨g, 0, none⟩) xs.length cc).ownBlock := ⟨s1, s2, s3, by rw [s4]; exact Nat.le_refl _, fun k _ hk => setCells_far _ _ k (fun he => hk (by rw [he]; simp [Value.ownBlock]))⟩
    have hrow : Kd.R (Kd.int .u8) e (W.setCells g m (encs (Value.int .u8) ys)) base ok (.slice (some ⟨g, 0, none⟩) xs.length cc) (xs.take m ++ ys ++ xs.drop (m + 4)) := by
      refine Kd.R_of_own (enc := Value.int .u8) (h1 := fun _ => rfl) ?_ HO.1
      rw [hln]
      refine ⟨by rw [encs_length, hln, Nat.mul_one], .inr ⟨g, cap, cur', by rw [hv3], hb, h3, hnc, hcm, by rw [h4, hcs], ?_⟩⟩
      rw [h5, Nat.mul_one]
      rw [Nat.mul_one] at htake
      rw [List.append_assoc]
      refine put_list htake (by rw [hel]; omega) (by have : cur.toList.length = cur.size := Array.length_toList; omega) ?_
      rw [hel]
      simp [encs, List.map_take, List.map_drop]
    refine wpList_plain hgd fun K hK => ?_
    unfold Oper.wp execOp
    have e0 : (Option.map (fun x : Addr => x.add m) (some ⟨g, 0, none⟩)) = some ⟨g, m, none⟩ := by rw [Option.map_some, add_at, Nat.zero_add]
    rw [e0] at hs
    rw [hA] at hx
    rw [hel] at hr
    simp only [ho, resolve, invoke, builtin, Sem.run_bind, Sem.run_pure, Result.andThen_ok, List.map_toArray, List.map_cons, List.map_nil, hs, hx, hr]
    exact hK _ _ (h _ hrow (HB.grown hg hbase (own_base hown)))
end

def entry_Put.f (high : Int) (b : List Int) (place pos : Int) : Option (List Int × Int) :=
  if b.length ≤ 140737488355328 then
    (if atOk high b.length place then
      (entry_Write.f 60 high pos).bind fun t => if t.2 = 0 then (if t.1.length = 4 then some (b.take (4 * place).toNat ++ t.1 ++ b.drop ((4 * place).toNat + 4), 0) else none) else some ([], t.2)
    else some ([], 2))
  else none

theorem info1_u8 : (Try.prog.info? 5).map (·.size) = some 1 := by kernel_rfl
theorem atV_yes {high place : Int} {n : Nat} (h : atOk high n place = true) : ∀ A, atV high A n place = .tuple #[.slice (A.map (·.add (4 * place).toNat)) 4 4, .int .i64 0] := fun A => by unfold atV; rw [h]; rfl
theorem atV_no {high place : Int} {n : Nat} (h : atOk high n place = false) : ∀ A, atV high A n place = .tuple #[.slice none 0 0, .int .i64 2] := fun A => by unfold atV; rw [h]; rfl

set_option maxHeartbeats 2000000 in
set_option maxRecDepth 100000 in
theorem entry_Put.calls (a0 : Int) (A1 : Option Addr) (c1 : Nat) (l1 : List Int) (a2 : Int) (a3 : Int) (r1 : List Int) (r2 : Int) (w : World) (hr1 : Kd.C (Kd.int .u8) w A1 l1.length l1) (hc1 : l1.length ≤ c1) (h : entry_Put.f a0 l1 a2 a3 = some (r1, r2)) :
    Calls Try.prog 35 #[.int .i64 a0, .slice A1 l1.length c1, .int .i64 a2, .int .i64 a3] w fun e w' => ∃ v0_ : Value, e = .returned (.tuple #[v0_, .int .i64 r2]) ∧ Kd.R (Kd.int .u8) 5 w' w.heap.size (fun _ => True) v0_ r1 ∧ Below w.heap.size w w' := by
  have HR1 := Aside0.mk hr1
  have HC1 := Aside0.mk hc1
  have HM := Aside0.mk hr1.2.1
  clear hr1 hc1
  unfold entry_Put.f at h
  by_cases hlen : l1.length ≤ 140737488355328
  · rw [if_pos hlen] at h
    have HCl : Aside0 (slices_Clone_byte_byte.f l1 = some l1) := ⟨by rw [slices_Clone_byte_byte.f, if_pos hlen]⟩
    clear hlen
    cases hok : atOk a0 l1.length a2 with
    | false =>
      rw [hok, if_neg (by decide)] at h
      simp only [Option.some.injEq, Prod.mk.injEq] at h
      obtain ⟨rfl, rfl⟩ := h
      have HV := Aside0.mk (atV_no hok)
      clear hok
      go_enter Try.func35, Try.ntmps35
      go_wp2_with (first | (go_at_call 50; refine (slices_Clone_byte_byte.calls _ _ _ _ _ HR1.out HC1.out HCl.out).mono ?_; rintro e w3 ⟨vc, rfl, hvc, hb3⟩; obtain ⟨Ac, cc, rfl⟩ := Kd.R_slice hvc; have HVC := Aside0.mk hvc; have HB3 := Aside0.mk hb3; clear hvc hb3) | (go_at_call 55; refine (at_calls _ _ _ _ _ _ (Kd.R_reads' HVC.out).2.1 HM.out).mono ?_; rintro e w4 ⟨rfl, nd, rfl⟩; rw [HV.out]))
      go_ret2
      exact ⟨_, rfl, Kd.R_nil _ _ _ _ _, pw_below_drewN HB3.out _⟩
    | true =>
      obtain ⟨_, _, _, _, hp0, hp1⟩ := atOk_facts hok
      have HMm : Aside0 ((4 * a2).toNat + 4 ≤ l1.length) := ⟨by omega⟩
      rw [hok, if_pos rfl] at h
      have HV := Aside0.mk (atV_yes hok)
      obtain ⟨⟨t1, t2⟩, ht, h⟩ := Option.bind_eq_some_iff.1 h
      have HW := Aside0.mk ht
      simp only at h
      clear hok ht hp0 hp1
      by_cases he : t2 = 0
      · subst he
        rw [if_pos rfl] at h
        by_cases h4 : t1.length = 4
        · rw [if_pos h4] at h
          simp only [Option.some.injEq, Prod.mk.injEq] at h
          obtain ⟨hr, rfl⟩ := h
          have HX := Aside0.mk hr
          have HT4 := Aside0.mk h4
          have info1 := Aside0.mk info1_u8
          clear hr h4
          go_enter Try.func35, Try.ntmps35
          go_wp2_with (first | (go_at_call 50; refine (slices_Clone_byte_byte.calls _ _ _ _ _ HR1.out HC1.out HCl.out).mono ?_; rintro e w3 ⟨vc, rfl, hvc, hb3⟩; obtain ⟨Ac, cc, rfl⟩ := Kd.R_slice hvc; have HVC := Aside0.mk hvc; have HB3 := Aside0.mk hb3; clear hvc hb3) | (go_at_call 55; refine (at_calls _ _ _ _ _ _ (Kd.R_reads' HVC.out).2.1 HM.out).mono ?_; rintro e w4 ⟨rfl, nd, rfl⟩; rw [HV.out]) | (go_at_call 14; refine (entry_Write.calls 60 _ _ _ _ _ HW.out).mono ?_; rintro e w5 ⟨v5, rfl, hv5, hb5⟩; obtain ⟨A5, c5, rfl⟩ := Kd.R_slice hv5; have HV5 := Aside0.mk hv5; have HVC5 := Aside0.mk (Kd.R_below (Kd.R_drewN HVC.out nd) hb5); have HB5 := Aside0.mk (below_step (pw_below_drewN HB3.out nd) hb5); clear hv5 hb5 HVC) | ((with_reducible refine gate_builtin (b := .copy) (xs := #[.tmp 35, .tmp 36]) rfl ?_); refine R_copy_at (w0 := w) w.heap.size rfl (.tmp 35) (.tmp 36) 28 28 5 rfl Try.underlying28 info1.out Ac cc l1 t1 A5 c5 t1.length (4 * a2).toNat (fun _ => True) rfl rfl HT4.out HT4.out HMm.out HVC5.out (Kd.R_reads' HV5.out).2.2 HB5.out (below_size HB5.out) ?_; intro w6 hr6 hb6; have HR6 := Aside0.mk hr6; have HB6 := Aside0.mk hb6; clear hr6 hb6))
          go_ret2
          exact ⟨_, rfl, by rw [← HX.out]; exact HR6.out, HB6.out⟩
        · rw [if_neg h4] at h; cases h
      · rw [if_neg he] at h
        simp only [Option.some.injEq, Prod.mk.injEq] at h
        obtain ⟨rfl, rfl⟩ := h
        have hq : (t2 != 0) = true := by simpa using he
        clear he
        go_enter Try.func35, Try.ntmps35
        go_wp2_with (first | (go_at_call 50; refine (slices_Clone_byte_byte.calls _ _ _ _ _ HR1.out HC1.out HCl.out).mono ?_; rintro e w3 ⟨vc, rfl, hvc, hb3⟩; obtain ⟨Ac, cc, rfl⟩ := Kd.R_slice hvc; have HVC := Aside0.mk hvc; have HB3 := Aside0.mk hb3; clear hvc hb3) | (go_at_call 55; refine (at_calls _ _ _ _ _ _ (Kd.R_reads' HVC.out).2.1 HM.out).mono ?_; rintro e w4 ⟨rfl, nd, rfl⟩; rw [HV.out]) | (go_at_call 14; refine (entry_Write.calls 60 _ _ _ _ _ HW.out).mono ?_; rintro e w5 ⟨v5, rfl, hv5, hb5⟩; obtain ⟨A5, c5, rfl⟩ := Kd.R_slice hv5; have HV5 := Aside0.mk hv5; have HVC5 := Aside0.mk (Kd.R_below (Kd.R_drewN HVC.out nd) hb5); have HB5 := Aside0.mk (below_step (pw_below_drewN HB3.out nd) hb5); clear hv5 hb5 HVC))
        go_ret2
        exact ⟨_, rfl, Kd.R_nil _ _ _ _ _, HB5.out⟩
  · rw [if_neg hlen] at h; cases h

end Go.Proofs.Ytnnknbbgkjgbcaa
