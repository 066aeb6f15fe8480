/-
Law BucketNames: the texts it makes, and what they are read as.
-/
import Derived.Test.YtknmokpnkcckeaaBackAll
namespace Go.Proofs.Ytknmokpnkcckeaa
open Go.RowKit Go.Proofs.YtknmokpnkcckeaaW.PrintWords Go.Proofs.YtknmokpnkcckeaaW.PrintLast Go.Proofs.YtknmokpnkcckeaaW.PrintMore Go.Proofs.Ytknmokpnkcckeaa.PAll
set_option linter.unusedVariables false
set_option linter.unusedSimpArgs false

def turnedT : List Int := List.replicate 12 0 ++ Z1.take 12 ++ Z1.drop 24
def twiceT : List Int := [] ++ Z1.take 12 ++ Z1.take 12 ++ Z1.drop 24
def shortT : List Int := Z1.drop 1
theorem turnedT_length : turnedT.length = 88 := by decide +kernel
theorem twiceT_length : twiceT.length = 88 := by decide +kernel
theorem shortT_length : shortT.length = 87 := by decide +kernel
theorem bytes_dec {l : List Int} (h : l.all (fun z => decide (0 ≤ z) && decide (z < 256)) = true) : Bytes l := by
  intro z hz
  have := List.all_eq_true.1 h z hz
  rw [Bool.and_eq_true, decide_eq_true_eq, decide_eq_true_eq] at this
  exact this
theorem turnedT_bytes : Bytes turnedT := bytes_dec (by decide +kernel)
theorem twiceT_bytes : Bytes twiceT := bytes_dec (by decide +kernel)
theorem shortT_bytes : Bytes shortT := bytes_dec (by decide +kernel)
theorem turned_err : (readAns 8 4 3 88 turnedT).2.2.2 = 8 := by decide +kernel
theorem twice_err : (readAns 8 4 3 88 twiceT).2.2.2 = 8 := by decide +kernel
theorem short_err : (readAns 8 4 3 88 shortT).2.2.2 = 10 := by decide +kernel
def blk3 : S62 := ⟨3, 0, [97, 98, 99, 100]⟩
def blk4 : S62 := ⟨4, 0, [97, 98, 99, 100]⟩
theorem bck3 : bckS 8 4 3 88 [blk1, blk3, blk4] = 8 := by decide +kernel
/-- A text that is no bucket's: the error, and nothing read. -/
theorem rdBad_calls (t : List Int) (e : Int) (A : Option Addr) (c : Nat) (w : World) (hb : Bytes t) (he : (readAns 8 4 3 88 t).2.2.2 = e) (h0 : e ≠ 0) (hr : Kd.C (Kd.int .u8) w A t.length t) (hc : t.length ≤ c) :
    Calls Try.prog 27 #[.agg #[.int .i64 8, .int .i64 4, .int .i64 3, .int .i64 88], .slice A t.length c] w fun r w' => ∃ A' c', r = .returned (.tuple #[.agg ⟨bkC A' 0 c' dig0 dig0⟩, .int .i64 e]) ∧ Below w.heap.size w w' := by
  obtain ⟨⟨X, L, R, E⟩, hX⟩ : ∃ a, readAns 8 4 3 88 t = a := ⟨_, rfl⟩
  rw [hX] at he
  obtain rfl : E = e := he
  obtain ⟨rfl, rfl, rfl⟩ := readAns_err hX h0
  refine (bkRead_calls 8 4 3 88 A c t w hr hc hb rfl [] dig0 dig0 E hX).mono fun r w' hp => ?_
  obtain ⟨A', c', h1, _, _, _, h5⟩ := hp
  exact ⟨A', c', h1, h5⟩
/-- bucket.Check of three blocks. -/
theorem check3_calls (A : Option Addr) (c : Nat) (w : World) (hr : Kd.C k62 w A 3 [blk1, blk3, blk4]) :
    Calls Try.prog 22 #[.agg #[.int .i64 8, .int .i64 4, .int .i64 3, .int .i64 88], .agg ⟨bkC A 3 c rep1 rep2⟩] w fun e w' => e = .returned (.int .i64 8) ∧ Below w.heap.size w w' := by
  have h := bcheck_calls (H := Unit) 8 4 3 88 A c [blk1, blk3, blk4] rep1 rep2 w hr (by simp) (fun x hx => by
    have : x = blk1 ∨ x = blk3 ∨ x = blk4 := by simpa using hx
    rcases this with rfl | rfl | rfl <;> rfl)
  rw [bck3] at h
  exact h
theorem R_mk8 (W : World) (zs : List Int) (hz : zs.length ≤ 9223372036854775807) (base : Nat) (hb : base ≤ W.heap.size) :
    Kd.R (Kd.int .u8) 5 (W.alloc (.cells (zs.map (Value.int .u8)).toArray 5)) base (fun _ => True) (.slice (some ⟨W.heap.size, 0, none⟩) zs.length zs.length) zs := by
  refine Kd.R_of_own ?_ (fun k hk => trivial)
  have h2 := World.ownsRow_lit (base := base) (e := 5) (size := 1) W (zs.map (Value.int .u8)).toArray zs.length hb (by simpa [maxLen] using hz) (by simp)
  simpa [encs] using h2
theorem exec_cutT {P : Program} {o : Oper} {a : Act} {w : World} {ty : TypeId} {x h : Operand} {v r s : Value} (hu : P.underlying ty = some (.slice (P.elem ty))) (ho : o.op = .slice ty x none (some h) none) (hx : a.eval x = v) (hh : a.eval h = r) (hrun : (Instr.slice ty v none (some r) none).run P w = .ok s w) :
    (execOp a.eval o).run P w = .ok (.value s) w := by
  unfold execOp
  simp only [ho, Option.map_some, Option.map_none, hx, hh, Sem.run_bind, run_sliceAt_slice _ ty v none (some r) none hu, hrun, Result.andThen_ok, Sem.run_pure]
theorem exec_cutD {P : Program} {o : Oper} {a : Act} {w : World} {ty : TypeId} {x l : Operand} {v u s : Value} (hu : P.underlying ty = some (.slice (P.elem ty))) (ho : o.op = .slice ty x (some l) none none) (hx : a.eval x = v) (hl : a.eval l = u) (hrun : (Instr.slice ty v (some u) none none).run P w = .ok s w) :
    (execOp a.eval o).run P w = .ok (.value s) w := by
  unfold execOp
  simp only [ho, Option.map_some, Option.map_none, hx, hl, Sem.run_bind, run_sliceAt_slice _ ty v (some u) none none hu, hrun, Result.andThen_ok, Sem.run_pure]
section
variable {α : Type}
section
variable {enc : α → Value} {d : α}
theorem ReadsOf_drop {w : World} {A : Option Addr} {n c : Nat} {xs : List α} (h : ReadsOf enc d w A n xs) (i : Nat) (hi : i ≤ n) (hc : n ≤ c) : ReadsOf enc d w (if c = i then A else A.map (·.add i)) (n - i) (xs.drop i) := by
  refine ⟨by rw [List.length_drop, h.1], by have := h.2.1; omega, fun hp => ?_⟩
  obtain ⟨ad, rfl, hcell⟩ := h.2.2 (by omega)
  rw [if_neg (by omega)]
  refine ⟨ad.add i, rfl, fun j hj => ?_⟩
  have ha : (ad.add i).add j = ad.add (i + j) := by
    unfold Addr.add
    by_cases h1 : i = 0 <;> by_cases h2 : j = 0 <;> simp [h1, h2, Nat.add_assoc]
  rw [ha, hcell (i + j) (by omega)]
  simp [List.getD_eq_getElem?_getD, List.getElem?_drop]
end
theorem print_cut_of {P : Program} (enc : α → Value) (d : α) (t e : TypeId) (kl : IntKind) {i : TypeInfo} (ht : P.underlying t = some (.slice e)) (hi : P.info? e = some i) (hsz : i.size = 1) (A : Option Addr) (n c m : Nat) (hm : m ≤ n) :
    ∃ A' : Option Addr, (∀ W : World, (Instr.slice t (.slice A n c) (some (.int kl (m : Int))) none none).run P W = .ok (.slice A' (n - m) (c - m)) W) ∧
      ∀ (w : World) (xs : List α), n ≤ c → ReadsOf enc d w A n xs → ReadsOf enc d w A' (n - m) (xs.drop m) := by
  refine ⟨if c = m then A else A.map (·.add m), fun W => ?_, fun w xs hc h => ReadsOf_drop h m hm hc⟩
  have hel : P.elem t = e := by simp [Program.elem, ht]
  have hu : P.underlying t = some (.slice (P.elem t)) := by rw [hel]; exact ht
  rw [run_slice_l W t A n c hu kl (m : Int) (Int.natCast_nonneg _) (by omega), hel]
  simp [sizeOf, typeInfo, hi, hsz, sliced, Result.andThen]
variable {P : Program}
theorem print_take_of (enc : α → Value) (d : α) (t e : TypeId) (kl : IntKind) {i : TypeInfo} (ht : P.underlying t = some (.slice e)) (hi : P.info? e = some i) (hsz : i.size = 1) (A : Option Addr) (c : Nat) (xs : List α) (j : Int) (h0 : 0 ≤ j) (hm : j ≤ xs.length) (hc : xs.length ≤ c) :
    (∀ W : World, (Instr.slice t (.slice A xs.length c) none (some (.int kl j)) none).run P W = .ok (.slice A (xs.take j.toNat).length c) W) ∧
      (∀ w : World, ReadsOf enc d w A xs.length xs → ReadsOf enc d w A (xs.take j.toNat).length (xs.take j.toNat)) ∧ (xs.take j.toNat).length ≤ c := by
  have hl : (xs.take j.toNat).length = j.toNat := by rw [List.length_take]; omega
  refine ⟨fun W => ?_, fun w h => by rw [hl]; exact h.take_ j.toNat (by omega), by rw [hl]; omega⟩
  have hel : P.elem t = e := by simp [Program.elem, ht]
  have hu : P.underlying t = some (.slice (P.elem t)) := by rw [hel]; exact ht
  have ha : (A.map fun x => x.add 0) = A := by cases A <;> simp [Addr.add]
  rw [run_slice_h W t A xs.length c hu kl j h0 (by omega), hel, hl]
  simp [sizeOf, typeInfo, hi, hsz, sliced, Result.andThen, ha]
theorem print_drop_of (enc : α → Value) (d : α) (t e : TypeId) (kl : IntKind) {i : TypeInfo} (ht : P.underlying t = some (.slice e)) (hi : P.info? e = some i) (hsz : i.size = 1) (A : Option Addr) (c : Nat) (xs : List α) (j : Int) (h0 : 0 ≤ j) (hm : j ≤ xs.length) (hc : xs.length ≤ c) :
    ∃ A' : Option Addr, (∀ W : World, (Instr.slice t (.slice A xs.length c) (some (.int kl j)) none none).run P W = .ok (.slice A' (xs.drop j.toNat).length (c - j.toNat)) W) ∧
      (∀ w : World, ReadsOf enc d w A xs.length xs → ReadsOf enc d w A' (xs.drop j.toNat).length (xs.drop j.toNat)) ∧ (xs.drop j.toNat).length ≤ c - j.toNat := by
  obtain ⟨m, rfl⟩ := Int.eq_ofNat_of_zero_le h0
  simp only [Int.toNat_natCast]
  have hmn : m ≤ xs.length := by omega
  obtain ⟨A', h1, h2⟩ := print_cut_of (P := P) enc d t e kl ht hi hsz A xs.length c m hmn
  have hl : (xs.drop m).length = xs.length - m := List.length_drop
  exact ⟨A', fun W => by rw [hl]; exact h1 W, fun w h => by rw [hl]; exact h2 w xs hc h, by rw [hl]; omega⟩
end
theorem info1 : ∃ i, Try.prog.info? 5 = some i ∧ i.size = 1 := by
  have h := info1U
  cases hq : Try.prog.info? 5 with
  | none => rw [hq] at h; cases h
  | some i => exact ⟨i, rfl, by rw [hq] at h; simpa using h⟩
/-- The first part of a text. -/
theorem cut_take (A : Option Addr) (c : Nat) (t : List Int) (m : Nat) (hm : m ≤ t.length) (hc : t.length ≤ c) :
    (∀ W : World, (Instr.slice 43 (.slice A t.length c) none (some (.int .i64 (m : Int))) none).run Try.prog W = .ok (.slice A (t.take m).length c) W) ∧
      (∀ W : World, Kd.C (Kd.int .u8) W A t.length t → Kd.C (Kd.int .u8) W A (t.take m).length (t.take m)) ∧ (t.take m).length ≤ c := by
  obtain ⟨i, hi0, hsz⟩ := info1
  obtain ⟨h3, h4, h5⟩ := print_take_of (P := Try.prog) (Value.int .u8) (0 : Int) 43 5 .i64 Try.underlying43 hi0 hsz A c t (m : Int) (by omega) (by omega) hc
  simp only [Int.toNat_natCast] at h3 h4 h5
  exact ⟨h3, fun W hC => Kd.C_of_reads (h1 := fun _ => rfl) (h4 W (Kd.reads_of_C (h1 := fun _ => rfl) hC)), h5⟩
/-- What is left of a text. -/
theorem cut_drop (A : Option Addr) (c : Nat) (t : List Int) (m : Nat) (hm : m ≤ t.length) (hc : t.length ≤ c) :
    ∃ A' : Option Addr, (∀ W : World, (Instr.slice 43 (.slice A t.length c) (some (.int .i64 (m : Int))) none none).run Try.prog W = .ok (.slice A' (t.drop m).length (c - m)) W) ∧
      (∀ W : World, Kd.C (Kd.int .u8) W A t.length t → Kd.C (Kd.int .u8) W A' (t.drop m).length (t.drop m)) ∧ (t.drop m).length ≤ c - m := by
  obtain ⟨i, hi0, hsz⟩ := info1
  obtain ⟨A', h3, h4, h5⟩ := print_drop_of (P := Try.prog) (Value.int .u8) (0 : Int) 43 5 .i64 Try.underlying43 hi0 hsz A c t (m : Int) (by omega) (by omega) hc
  simp only [Int.toNat_natCast] at h3 h4 h5
  exact ⟨A', h3, fun W hC => Kd.C_of_reads (h1 := fun _ => rfl) (h4 W (Kd.reads_of_C (h1 := fun _ => rfl) hC)), h5⟩
theorem take12_length : (Z1.take 12).length = 12 := by decide +kernel
theorem drop24_length : (Z1.drop 24).length = 64 := by decide +kernel
theorem drop1_length : (Z1.drop 1).length = 87 := by decide +kernel
theorem z1_take (A : Option Addr) (c : Nat) (hc : 88 ≤ c) : (∀ W : World, (Instr.slice 43 (.slice A 88 c) none (some (.int .i64 12)) none).run Try.prog W = .ok (.slice A 12 c) W) ∧ (∀ W : World, Kd.C (Kd.int .u8) W A 88 Z1 → Kd.C (Kd.int .u8) W A 12 (Z1.take 12)) := by
  have h := cut_take A c Z1 12 (by rw [Z1_length]; decide) (by rw [Z1_length]; exact hc)
  rw [take12_length, Z1_length] at h
  exact ⟨h.1, h.2.1⟩
theorem z1_drop (A : Option Addr) (c : Nat) (hc : 88 ≤ c) : ∃ A', (∀ W : World, (Instr.slice 43 (.slice A 88 c) (some (.int .i64 24)) none none).run Try.prog W = .ok (.slice A' 64 (c - 24)) W) ∧ (∀ W : World, Kd.C (Kd.int .u8) W A 88 Z1 → Kd.C (Kd.int .u8) W A' 64 (Z1.drop 24)) := by
  obtain ⟨A', h1, h2, _⟩ := cut_drop A c Z1 24 (by rw [Z1_length]; decide) (by rw [Z1_length]; exact hc)
  rw [drop24_length, Z1_length] at h1 h2
  exact ⟨A', h1, h2⟩
theorem z1_short (A : Option Addr) (c : Nat) (hc : 88 ≤ c) : ∃ A', (∀ W : World, (Instr.slice 43 (.slice A 88 c) (some (.int .i64 1)) none none).run Try.prog W = .ok (.slice A' 87 (c - 1)) W) ∧ (∀ W : World, Kd.C (Kd.int .u8) W A 88 Z1 → Kd.C (Kd.int .u8) W A' 87 shortT) ∧ 87 ≤ c - 1 := by
  obtain ⟨A', h1, h2, h3⟩ := cut_drop A c Z1 1 (by rw [Z1_length]; decide) (by rw [Z1_length]; exact hc)
  rw [drop1_length] at h1 h2 h3
  rw [Z1_length] at h1 h2
  exact ⟨A', h1, h2, h3⟩
theorem mk12_R (W : World) (base : Nat) (hb : base ≤ W.heap.size) : Kd.R (Kd.int .u8) 5 (W.alloc (.cells (madeCells #[.int .u8 0] 12) 5)) base (fun _ => True) (.slice (some ⟨W.heap.size, 0, none⟩) 12 12) (List.replicate 12 0) := by
  have h := R_mk8 W (List.replicate 12 0) (by simp) base hb
  rw [List.length_replicate] at h
  rw [show madeCells #[Value.int .u8 0] 12 = ((List.replicate 12 (0 : Int)).map (Value.int .u8)).toArray from Array.ext' (by rw [toList_madeCells_one, List.map_replicate])]
  exact h
/-- A row of one element, full, as one's own. -/
theorem R_raw1 {W : World} {g base e : Nat} {c0 c1 c2 : Value} (hG : W.heap[g]? = some (.cells #[c0, c1, c2] e (0, 0))) (hb : base ≤ g) (h0 : c0.oneCell' = true) (h1 : c1.oneCell' = true) (h2 : c2.oneCell' = true) :
    Kd.R (Kd.raw 3) e W base (fun _ => True) (.slice (some ⟨g, 0, none⟩) 1 1) [[c0, c1, c2]] := by
  refine ⟨fun _ _ => trivial, [c0, c1, c2], ⟨rfl, .inr ⟨g, 1, #[c0, c1, c2], rfl, hb, hG, Nat.le_refl _, by decide, rfl, rfl⟩⟩, rfl, fun j p hj => ?_⟩
  have hj' : j = 0 ∧ [c0, c1, c2] = p := by
    rcases j with _ | j
    · exact ⟨rfl, Option.some.inj hj⟩
    · simp at hj
  obtain ⟨rfl, rfl⟩ := hj'
  refine ⟨rfl, rfl, fun u hu => ?_⟩
  have : u = c0 ∨ u = c1 ∨ u = c2 := by simpa [Kd.raw] using hu
  rcases this with rfl | rfl | rfl <;> assumption
/-- Two elements as a row of cells. -/
theorem C_raw2 {W : World} {g e : Nat} {c0 c1 c2 d0 d1 d2 : Value} (hG : W.heap[g]? = some (.cells #[c0, c1, c2, d0, d1, d2] e (0, 0))) (h0 : c0.oneCell' = true) (h1 : c1.oneCell' = true) (h2 : c2.oneCell' = true) (k0 : d0.oneCell' = true) (k1 : d1.oneCell' = true) (k2 : d2.oneCell' = true) :
    Kd.C (Kd.raw 3) W (some ⟨g, 0, none⟩) 2 [[c0, c1, c2], [d0, d1, d2]] := by
  have hc := fun i => blk_cell hG i
  refine ⟨rfl, by decide, fun _ => ⟨_, rfl, fun j p hj => ?_⟩⟩
  rcases j with _ | _ | j
  · obtain rfl : [c0, c1, c2] = p := Option.some.inj hj
    refine ⟨[c0, c1, c2], rfl, ⟨rfl, rfl, fun u hu => ?_⟩, fun i u hu => ?_⟩
    · have : u = c0 ∨ u = c1 ∨ u = c2 := by simpa using hu
      rcases this with rfl | rfl | rfl <;> assumption
    · rw [add_at, hc]
      rcases i with _ | _ | _ | i <;> simp_all
  · obtain rfl : [d0, d1, d2] = p := Option.some.inj hj
    refine ⟨[d0, d1, d2], rfl, ⟨rfl, rfl, fun u hu => ?_⟩, fun i u hu => ?_⟩
    · have : u = d0 ∨ u = d1 ∨ u = d2 := by simpa using hu
      rcases this with rfl | rfl | rfl <;> assumption
    · rw [add_at, hc]
      rcases i with _ | _ | _ | i <;> simp_all [Kd.raw]
  · simp at hj
-- the chapter's bucket, with the blocks it lies in.
set_option maxHeartbeats 8000000 in
set_option maxRecDepth 100000 in
theorem one2_calls (w : World) : Calls Try.prog 30 #[] w fun e w' => e = .returned (.agg ⟨bkC (some ⟨w.heap.size + 1 + 1, 0, none⟩) 1 1 rep1 rep2⟩) ∧ w'.heap[w.heap.size + 1 + 1]? = some (.cells #[.int .i64 2, .int .i64 5, .slice (some ⟨w.heap.size + 1, 0, none⟩) 4 4] 62 (0, 0)) ∧ w'.heap[w.heap.size + 1]? = some (.cells (([97, 98, 99, 100] : List Int).map (Value.int .u8)).toArray 5 (4, 5)) ∧ Below w.heap.size w w' := by
  have hconv : ∀ o : Obj, (convert 43 43 (.slice (some ⟨w.heap.size + 1, 0, none⟩) 4 4)).run Try.prog ((w.alloc o).alloc (.cells #[.int .u8 97, .int .u8 98, .int .u8 99, .int .u8 100] 5)) = .ok (.slice (some ⟨w.heap.size + 1, 0, none⟩) 4 4) ((w.alloc o).alloc (.cells #[.int .u8 97, .int .u8 98, .int .u8 99, .int .u8 100] 5 (4, 5))) := fun o => by
    have := Lib.run_convert_bytes_const (P := Try.prog) (w.alloc o) 43 5 #[.int .u8 97, .int .u8 98, .int .u8 99, .int .u8 100] 4 4 Try.underlying43 (by kernel_rfl)
    rw [World.size_alloc] at this
    exact this
  have hZ : ∀ (o1 o2 : Obj), (((w.alloc (.cells Try.zeroCells40 40)).alloc o1).alloc o2).heap[w.heap.size]? = some (.cells Try.zeroCells40 40 (0, 0)) := fun o1 o2 => blk_alloc (blk_alloc (heap_alloc_new w _) o1) o2
  have hC : ∀ (o1 o2 : Obj), (((w.alloc o1).alloc (.cells #[.int .u8 97, .int .u8 98, .int .u8 99, .int .u8 100] 5 (4, 5))).alloc o2).heap[w.heap.size + 1]? = some (.cells (([97, 98, 99, 100] : List Int).map (Value.int .u8)).toArray 5 (4, 5)) := fun o1 o2 => by
    have h := blk_alloc (heap_alloc_new (w.alloc o1) (.cells #[.int .u8 97, .int .u8 98, .int .u8 99, .int .u8 100] 5 (4, 5))) o2
    rw [World.size_alloc] at h
    exact h
  have hG : ∀ (o1 o2 o3 : Obj), (((w.alloc o1).alloc o2).alloc o3).heap[w.heap.size + 1 + 1]? = some o3 := fun o1 o2 o3 => by
    have h := heap_alloc_new ((w.alloc o1).alloc o2) o3
    rw [World.size_alloc, World.size_alloc] at h
    exact h
  have hB : ∀ (o1 o2 o3 : Obj), Below w.heap.size w (((w.alloc o1).alloc o2).alloc o3) := fun o1 o2 o3 => below_alloc (below_alloc (below_alloc (Below.refl w.heap.size w) o1) o2) o3
  go_enter Try.func30, Try.ntmps30
  repeat (first
    | (go_at_call 60; (with_reducible refine (dig1_calls 1 _).mono ?_); rintro e2 w2 ⟨rfl, hb2⟩; have HZ2 := Aside0.mk (blk_below (hZ _ _) hb2); have HC2 := Aside0.mk (blk_below (hC _ _) hb2); have HG2 := Aside0.mk (blk_below (hG _ _ _) hb2); have HB2 := Aside0.mk (bl (hB _ _ _) hb2); clear hb2 hZ hC hG hB; (try dsimp only))
    | (go_at_call 60; (with_reducible refine (dig1_calls 2 _).mono ?_); rintro e3 w3 ⟨rfl, hb3⟩; have HZ3 := Aside0.mk (blk_below HZ2.out hb3); have HC3 := Aside0.mk (blk_below HC2.out hb3); have HG3 := Aside0.mk (blk_below HG2.out hb3); have HB3 := Aside0.mk (bl HB2.out hb3); clear hb3 HZ2 HC2 HG2 HB2; (try dsimp only))
    | ((with_reducible refine wpList_build3 (x := .tmp 4) (y := .tmp 5) (z := .tmp 6) (A := some ⟨w.heap.size + 1 + 1, 0, none⟩) (n := 1) (c := 1) (L := rep1) (R := rep2) rfl rfl ?hx ?hy ?hz rep1_length rep2_length ?_); (case hx => rfl); (case hy => rfl); (case hz => rfl); (try dsimp only))
    | ((with_reducible refine wpList_store 40 (.tmp 0) (.tmp 7) w.heap.size 40 Try.zeroCells40 ⟨bkC (some ⟨w.heap.size + 1 + 1, 0, none⟩) 1 1 rep1 rep2⟩ rfl rfl ?hx ?hy ?hg ?hs ?hi ?h1 ?_); (case hx => rfl); (case hy => rfl); (case hg => exact HZ3.out); (case hs => show _ = (bkC (some ⟨w.heap.size + 1 + 1, 0, none⟩) 1 1 rep1 rep2).length; rw [bkC_length rep1_length rep2_length]; rfl); (case hi => show _ = some (bkC (some ⟨w.heap.size + 1 + 1, 0, none⟩) 1 1 rep1 rep2).length; rw [bkC_length rep1_length rep2_length]; exact info40); (case h1 => exact bk_ones _ _ _ _ _); intro w4 q1 q2 q3 q4; have HZ4 := Aside0.mk q1; have HC4 := Aside0.mk ((q2 _ (by omega)).trans HC3.out); have HG4 := Aside0.mk ((q2 _ (by omega)).trans HG3.out); have HB4 := Aside0.mk (q3 _ _ HB3.out (Nat.le_refl _)); clear q1 q2 q3 q4)
    | go_values | go_guarded | go_step | go_upon | go_back)
  refine bodyPost_ret (results_single rfl (.cell w.heap.size _ _ (0, 0) _ rfl HZ4.out Try.underlying40 rfl (by show _ = some (bkC (some ⟨w.heap.size + 1 + 1, 0, none⟩) 1 1 rep1 rep2).length; rw [bkC_length rep1_length rep2_length]; exact info40) .nil)) rfl ⟨rfl, HG4.out, HC4.out, HB4.out⟩
/-- Three blocks' cells, and their bytes, where another block's cell is written. -/
theorem k62_of_raw {w1 : World} {A : Option Addr} {G h d1 d2 : Nat} {v : Value} (hr : Kd.C (Kd.raw 3) w1 A 3 [[.int .i64 2, .int .i64 5, .slice (some ⟨h, 0, none⟩) 4 4], [.int .i64 3, .int .i64 0, .slice (some ⟨d1, 0, none⟩) 4 4], [.int .i64 4, .int .i64 0, .slice (some ⟨d2, 0, none⟩) 4 4]]) (hne : ∀ ad, A = some ad → G ≠ ad.block)
    (k0 : Kd.C (Kd.int .u8) (w1.setCell ⟨G, 0, none⟩ v) (some ⟨h, 0, none⟩) 4 [97, 98, 99, 100]) (k1 : Kd.C (Kd.int .u8) (w1.setCell ⟨G, 0, none⟩ v) (some ⟨d1, 0, none⟩) 4 [97, 98, 99, 100]) (k2 : Kd.C (Kd.int .u8) (w1.setCell ⟨G, 0, none⟩ v) (some ⟨d2, 0, none⟩) 4 [97, 98, 99, 100]) :
    Kd.C k62 (w1.setCell ⟨G, 0, none⟩ v) A 3 [blk1, blk3, blk4] := by
  obtain ⟨ad, rfl, hc⟩ := hr.2.2 (by decide)
  have hn := hne ad rfl
  refine ⟨rfl, by decide, fun _ => ⟨ad, rfl, fun j p hj => ?_⟩⟩
  have hset : ∀ a : Addr, a.block = ad.block → (w1.setCell ⟨G, 0, none⟩ v).cell? a = w1.cell? a := fun a ha => by
    have hh := Below.heap_setCell w1 ⟨G, 0, none⟩ v a.block (by rw [ha]; exact fun he => hn he.symm)
    simp only [World.cell?, hh]
  have hadd : ∀ i, (ad.add i).block = ad.block := fun i => by unfold Addr.add; split <;> rfl
  have key : ∀ (row : List Value) (x : S62), [[Value.int .i64 2, .int .i64 5, .slice (some ⟨h, 0, none⟩) 4 4], [.int .i64 3, .int .i64 0, .slice (some ⟨d1, 0, none⟩) 4 4], [.int .i64 4, .int .i64 0, .slice (some ⟨d2, 0, none⟩) 4 4]][j]? = some row → k62.K (w1.setCell ⟨G, 0, none⟩ v) x row → ∃ c, c.length = k62.sz ∧ k62.K (w1.setCell ⟨G, 0, none⟩ v) x c ∧ ∀ i u, c[i]? = some u → (w1.setCell ⟨G, 0, none⟩ v).cell? (ad.add (j * k62.sz + i)) = some u := fun row x hrow hk => by
    obtain ⟨c, hl, hK, hcell⟩ := hc j row hrow
    obtain rfl : c = row := hK.1
    exact ⟨c, hl, hk, fun i u hu => by rw [hset _ (hadd _)]; exact hcell i u hu⟩
  rcases j with _ | _ | _ | j
  · obtain rfl : blk1 = p := Option.some.inj hj
    exact key _ _ rfl (k62_mk _ blk1 (by decide) k0)
  · obtain rfl : blk3 = p := Option.some.inj hj
    exact key _ _ rfl (k62_mk _ blk3 (by decide) k1)
  · obtain rfl : blk4 = p := Option.some.inj hj
    exact key _ _ rfl (k62_mk _ blk4 (by decide) k2)
  · simp at hj
end Go.Proofs.Ytknmokpnkcckeaa
