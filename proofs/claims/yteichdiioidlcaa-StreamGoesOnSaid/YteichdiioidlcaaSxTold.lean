/-
Runs of laws ChachaNames and ChachaTold: the chapter's examples; a block tells the words from which it began.
-/
import Derived.Test.YteichdiioidlcaaSxWords
namespace Go.Proofs.Yteichdiioidlcaa.SxCha
open Go Go.Sx Go.Proofs.Yteichdiioidlcaa
set_option linter.unusedVariables false
set_option linter.unusedSimpArgs false

theorem byteAt_in (w f : List Int) (i : Nat) : IntKind.u8.min ≤ byteAt w f i ∧ byteAt w f i ≤ IntKind.u8.max := wrap_in .u8 _
theorem blockL_all (w f : List Int) : ∀ x ∈ blockL w f, IntKind.u8.min ≤ x ∧ x ≤ IntKind.u8.max := by
  intro x hx
  simp only [blockL, List.mem_map] at hx
  obtain ⟨i, _, rfl⟩ := hx
  exact byteAt_in w f i

theorem block_calls (k n : List Int) (cnt : Int) (hk : k.length = 32) (hn : n.length = 12) (hku : ∀ x ∈ k, IntKind.u8.min ≤ x ∧ x ≤ IntKind.u8.max) (hnu : ∀ x ∈ n, IntKind.u8.min ≤ x ∧ x ≤ IntKind.u8.max) (hc : U32 cnt) (w : World) :
    Calls Try.prog 21 #[.agg ⟨k.map (Value.int .u8)⟩, .int .u32 cnt, .agg ⟨n.map (Value.int .u8)⟩] w fun e w' => e = .returned (.agg ⟨(blockL (ten (wordsL k cnt n)) (wordsL k cnt n)).map (Value.int .u8)⟩) ∧ RowKit.Below w.heap.size w w' := by
  match k, hk, hku, n, hn, hnu with
  | [k0, k1, k2, k3, k4, k5, k6, k7, k8, k9, k10, k11, k12, k13, k14, k15, k16, k17, k18, k19, k20, k21, k22, k23, k24, k25, k26, k27, k28, k29, k30, k31], _, hku, [n0, n1, n2, n3, n4, n5, n6, n7, n8, n9, n10, n11], _, hnu =>
    refine below_of_run (cx := cxW) rfl cxW_ok 2000 (block_run k0 k1 k2 k3 k4 k5 k6 k7 k8 k9 k10 k11 k12 k13 k14 k15 k16 k17 k18 k19 k20 k21 k22 k23 k24 k25 k26 k27 k28 k29 k30 k31 cnt n0 n1 n2 n3 n4 n5 n6 n7 n8 n9 n10 n11) (fun p hp => by cases hp) (kn_flat ⟨hku, hnu, hc⟩) (nums_flat fun x hx => blockL_all _ _ x hx) w

noncomputable def blockCon : Con := fun f args hp =>
  match wordsCon f args hp with
  | some E => some E
  | none => match decide (f = 21) with
    | true => match knOf args with
      | some (k, cnt, n) => some ⟨.agg ⟨(blockL (ten (wordsL k cnt n)) (wordsL k cnt n)).map (Value.int .u8)⟩, [], []⟩
      | none => none
    | false => none
theorem blockCon_sound : ∀ f args hp E, blockCon f args hp = some E → CallSound Try.prog f args hp E := by
  intro f args hp E h
  unfold blockCon at h
  split at h
  · rename_i E' hE
    cases h
    exact wordsCon_sound f args hp E hE
  · split at h
    · rename_i hf
      simp only [decide_eq_true_eq] at hf
      subst hf
      split at h
      · rename_i k cnt n hkn
        cases h
        obtain ⟨rfl, h32, h12⟩ := knOf_spec hkn
        exact sound_of_below (enter_of Try.func21 (by decide +kernel) (by decide +kernel)) (fun hfl => nums_flat fun x hx => blockL_all _ _ x hx) (fun D hD => kn_flat (kn_ok hD))
          (fun hfl w => block_calls k n cnt h32 h12 (kn_ok hfl).1 (kn_ok hfl).2.1 (kn_ok hfl).2.2 w) hp
      · cases h
    · cases h
noncomputable def cxB : Ctx := ⟨Try.prog, fns, blockCon, [(7, 71, .bool false), (7, 77, .bool true)]⟩
theorem cxB_ok : CtxOk cxB := by
  refine ⟨by decide +kernel, fun f fn h => ?_, blockCon_sound⟩
  obtain ⟨h1, h2, h3⟩ := fns_ok _ (findFn_mem h)
  exact fn_ok h1 h2 h3

theorem names_run : (callFn cxB (exec cxB 2000) 6 [] []).map (fun p => (p.1.val, p.2)) = some (.bool true, []) := by
  kernel_rfl
theorem names_calls (w : World) : Calls Try.prog 6 #[] w fun e w' => e = .returned (.bool true) ∧ RowKit.Below w.heap.size w w' :=
  below_of_run (cx := cxB) rfl cxB_ok 2000 names_run (fun p hp => by cases hp) (fun v hv => by cases hv) (.bool true) w

def x4 (b0 b1 b2 b3 : Int) : Int := Go.bits .or .u32 (Go.bits .or .u32 (Go.bits .or .u32 (IntKind.u32.wrap b0) (sh32 b1 256)) (sh32 b2 65536)) (sh32 b3 16777216)
def told (w f : List Int) (i : Nat) : Bool := IntKind.u32.wrap (x4 (byteAt w f (4 * i)) (byteAt w f (4 * i + 1)) (byteAt w f (4 * i + 2)) (byteAt w f (4 * i + 3)) - w.getD i 0) != f.getD i 0

theorem told_run (k0 k1 k2 k3 k4 k5 k6 k7 k8 k9 k10 k11 k12 k13 k14 k15 k16 k17 k18 k19 k20 k21 k22 k23 k24 k25 k26 k27 k28 k29 k30 k31 cnt n0 n1 n2 n3 n4 n5 n6 n7 n8 n9 n10 n11 : Int) :
    (callFn cxB (exec cxB 2000) 7 [.agg ⟨[.int .u8 k0, .int .u8 k1, .int .u8 k2, .int .u8 k3, .int .u8 k4, .int .u8 k5, .int .u8 k6, .int .u8 k7, .int .u8 k8, .int .u8 k9, .int .u8 k10, .int .u8 k11, .int .u8 k12, .int .u8 k13, .int .u8 k14, .int .u8 k15, .int .u8 k16, .int .u8 k17, .int .u8 k18, .int .u8 k19, .int .u8 k20, .int .u8 k21, .int .u8 k22, .int .u8 k23, .int .u8 k24, .int .u8 k25, .int .u8 k26, .int .u8 k27, .int .u8 k28, .int .u8 k29, .int .u8 k30, .int .u8 k31]⟩, .int .u32 cnt, .agg ⟨[.int .u8 n0, .int .u8 n1, .int .u8 n2, .int .u8 n3, .int .u8 n4, .int .u8 n5, .int .u8 n6, .int .u8 n7, .int .u8 n8, .int .u8 n9, .int .u8 n10, .int .u8 n11]⟩] []).map (fun p => (p.1.val, p.2)) =
      some (.bool true, (.bool (cnt == cnt), .bool true) :: ((List.range 16).reverse.map fun i => (.bool (told (ten (wordsL [k0, k1, k2, k3, k4, k5, k6, k7, k8, k9, k10, k11, k12, k13, k14, k15, k16, k17, k18, k19, k20, k21, k22, k23, k24, k25, k26, k27, k28, k29, k30, k31] cnt [n0, n1, n2, n3, n4, n5, n6, n7, n8, n9, n10, n11])) (wordsL [k0, k1, k2, k3, k4, k5, k6, k7, k8, k9, k10, k11, k12, k13, k14, k15, k16, k17, k18, k19, k20, k21, k22, k23, k24, k25, k26, k27, k28, k29, k30, k31] cnt [n0, n1, n2, n3, n4, n5, n6, n7, n8, n9, n10, n11]) i), .bool false))) := by
  kernel_rfl

/-! four bytes put together again -/
theorem bits_or_nat {x y : Nat} (hx : x < 4294967296) (hy : y < 4294967296) : Go.bits .or .u32 (x : Int) (y : Int) = ((x ||| y : Nat) : Int) := by
  have h : x ||| y < 2 ^ 32 := Nat.or_lt_two_pow (by omega) (by omega)
  have key : (BitVec.ofInt 32 (x : Int) ||| BitVec.ofInt 32 (y : Int)).toNat = x ||| y := by
    rw [BitVec.ofInt_natCast, BitVec.ofInt_natCast, BitVec.toNat_or, BitVec.toNat_ofNat, BitVec.toNat_ofNat, Nat.mod_eq_of_lt (by omega : x < 2 ^ 32), Nat.mod_eq_of_lt (by omega : y < 2 ^ 32)]
  show IntKind.u32.wrap (((BitVec.ofInt 32 (x : Int) ||| BitVec.ofInt 32 (y : Int)).toNat : Nat) : Int) = _
  rw [key]
  simp only [IntKind.wrap, IntKind.signed, IntKind.bits, Bool.false_and, Bool.false_eq_true, if_false]
  omega
theorem or_add {x y a : Nat} (h : x < 2 ^ a) : x ||| (y * 2 ^ a) = x + y * 2 ^ a := by
  rw [Nat.or_comm, Nat.mul_comm, ← Nat.two_pow_add_eq_or_of_lt h, Nat.add_comm]
theorem x4_nat {b0 b1 b2 b3 : Nat} (h0 : b0 < 256) (h1 : b1 < 256) (h2 : b2 < 256) (h3 : b3 < 256) : x4 b0 b1 b2 b3 = ((b0 + b1 * 256 + b2 * 65536 + b3 * 16777216 : Nat) : Int) := by
  have hw : ∀ b : Nat, b < 4294967296 → IntKind.u32.wrap (b : Int) = b := by
    intro b hb
    simp [IntKind.wrap, IntKind.signed, IntKind.bits]
    omega
  have hs : ∀ (b m : Nat), b * m < 4294967296 → b < 4294967296 → sh32 b m = ((b * m : Nat) : Int) := by
    intro b m h hb
    unfold sh32
    rw [hw b hb]
    have := hw (b * m) h
    simpa using this
  unfold x4
  rw [hw b0 (by omega), show (256 : Int) = ((256 : Nat) : Int) from rfl, show (65536 : Int) = ((65536 : Nat) : Int) from rfl, show (16777216 : Int) = ((16777216 : Nat) : Int) from rfl]
  rw [hs b1 256 (by omega) (by omega), hs b2 65536 (by omega) (by omega), hs b3 16777216 (by omega) (by omega)]
  rw [bits_or_nat (by omega) (by omega), show (256 : Nat) = 2 ^ 8 from rfl, or_add (by omega)]
  rw [bits_or_nat (by omega) (by omega), show (65536 : Nat) = 2 ^ 16 from rfl, or_add (by omega)]
  rw [bits_or_nat (by omega) (by omega), show (16777216 : Nat) = 2 ^ 24 from rfl, or_add (by omega)]

theorem byteAt_nat (w f : List Int) (i j : Nat) (hj : j < 4) : byteAt w f (4 * i + j) = (((IntKind.u32.wrap (w.getD i 0 + f.getD i 0)).toNat / 2 ^ (j * 8) % 256 : Nat) : Int) := by
  unfold byteAt
  rw [show (4 * i + j) / 4 = i by omega, show (4 * i + j) % 4 = j by omega]
  have h := wrap_in .u32 (w.getD i 0 + f.getD i 0)
  generalize IntKind.u32.wrap (w.getD i 0 + f.getD i 0) = s at h
  have h0 : 0 ≤ s := h.1
  obtain ⟨m, rfl⟩ := Int.eq_ofNat_of_zero_le h0
  have hp : (0 : Int) ≤ 2 ^ (j * 8) := Int.le_of_lt (Int.pow_pos (by decide))
  rw [Int.fdiv_eq_ediv_of_nonneg _ hp]
  simp only [IntKind.wrap, IntKind.signed, IntKind.bits, Bool.false_and, Bool.false_eq_true, if_false, Int.toNat_natCast]
  rw [Int.natCast_emod, Int.natCast_ediv, Int.natCast_pow]
  rfl

theorem told_false {w f : List Int} (hf : ∀ x ∈ f, U32 x) (hw : ∀ x ∈ w, U32 x) (i : Nat) : told w f i = false := by
  unfold told
  have e0 := byteAt_nat w f i 0 (by omega)
  rw [Nat.add_zero] at e0
  rw [e0, byteAt_nat w f i 1 (by omega), byteAt_nat w f i 2 (by omega), byteAt_nat w f i 3 (by omega)]
  have hfi : U32 (f.getD i 0) := AllU.get hf i
  have hwi : U32 (w.getD i 0) := AllU.get hw i
  generalize f.getD i 0 = F at *
  generalize w.getD i 0 = W at *
  have h := wrap_in .u32 (W + F)
  have hs : IntKind.u32.wrap (W + F) = (W + F) % 4294967296 := by simp [IntKind.wrap, IntKind.signed, IntKind.bits]
  obtain ⟨m, hm⟩ := Int.eq_ofNat_of_zero_le (show (0 : Int) ≤ IntKind.u32.wrap (W + F) from h.1)
  have hmax : m < 4294967296 := by
    have := h.2
    rw [hm] at this
    simp [IntKind.max, IntKind.signed, IntKind.bits] at this
    omega
  rw [hm, Int.toNat_natCast]
  rw [x4_nat (Nat.mod_lt _ (by decide)) (Nat.mod_lt _ (by decide)) (Nat.mod_lt _ (by decide)) (Nat.mod_lt _ (by decide))]
  have hsum : m / 2 ^ (0 * 8) % 256 + m / 2 ^ (1 * 8) % 256 * 256 + m / 2 ^ (2 * 8) % 256 * 65536 + m / 2 ^ (3 * 8) % 256 * 16777216 = m := by
    simp only [Nat.zero_mul, Nat.one_mul, Nat.reduceMul, Nat.reducePow, Nat.pow_zero, Nat.div_one]
    omega
  rw [hsum]
  have hfin : IntKind.u32.wrap ((m : Int) - W) = F := by
    have e1 : (m : Int) = (W + F) % 4294967296 := by rw [← hs, hm]
    have e2 : IntKind.u32.wrap ((m : Int) - W) = ((m : Int) - W) % 4294967296 := by simp [IntKind.wrap, IntKind.signed, IntKind.bits]
    rw [e2]
    unfold U32 at hfi hwi
    omega
  rw [hfin]
  simp

theorem ten_all {l : List Int} (h : ∀ n ∈ l, U32 n) : ∀ n ∈ ten l, U32 n :=
  step16_all (step16_all (step16_all (step16_all (step16_all (step16_all (step16_all (step16_all (step16_all (step16_all h)))))))))

theorem told_calls (k n : List Int) (cnt : Int) (hk : k.length = 32) (hn : n.length = 12) (hku : ∀ x ∈ k, IntKind.u8.min ≤ x ∧ x ≤ IntKind.u8.max) (hnu : ∀ x ∈ n, IntKind.u8.min ≤ x ∧ x ≤ IntKind.u8.max) (hc : U32 cnt) (w : World) :
    Calls Try.prog 7 #[.agg ⟨k.map (Value.int .u8)⟩, .int .u32 cnt, .agg ⟨n.map (Value.int .u8)⟩] w fun e w' => e = .returned (.bool true) ∧ RowKit.Below w.heap.size w w' := by
  match k, hk, hku, n, hn, hnu with
  | [k0, k1, k2, k3, k4, k5, k6, k7, k8, k9, k10, k11, k12, k13, k14, k15, k16, k17, k18, k19, k20, k21, k22, k23, k24, k25, k26, k27, k28, k29, k30, k31], _, hku, [n0, n1, n2, n3, n4, n5, n6, n7, n8, n9, n10, n11], _, hnu =>
    refine below_of_run (cx := cxB) rfl cxB_ok 2000 (told_run k0 k1 k2 k3 k4 k5 k6 k7 k8 k9 k10 k11 k12 k13 k14 k15 k16 k17 k18 k19 k20 k21 k22 k23 k24 k25 k26 k27 k28 k29 k30 k31 cnt n0 n1 n2 n3 n4 n5 n6 n7 n8 n9 n10 n11) (fun p hp => ?_) (kn_flat ⟨hku, hnu, hc⟩) (.bool true) w
    rcases List.mem_cons.1 hp with rfl | hp
    · simp
    · rw [List.mem_map] at hp
      obtain ⟨i, _, rfl⟩ := hp
      simp only [told_false (wordsL_all hc) (ten_all (wordsL_all hc))]
end Go.Proofs.Yteichdiioidlcaa.SxCha
