/-
Shadow runs of ChaCha: the words from which a block begins, and a block, for any key, count and nonce.
-/
import Derived.Test.YteichdiioidlcaaSxBlock
namespace Go.Proofs.Yteichdiioidlcaa.SxCha
open Go Go.Sx Go.Proofs.Yteichdiioidlcaa
set_option linter.unusedVariables false
set_option linter.unusedSimpArgs false

def sh32 (c m : Int) : Int := IntKind.u32.wrap (IntKind.u32.wrap c * m)
def le32 (c0 c1 c2 c3 : Int) : Int := Go.bits .or .u32 (Go.bits .or .u32 (Go.bits .or .u32 (Go.bits .or .u32 0 (sh32 c0 1)) (sh32 c1 256)) (sh32 c2 65536)) (sh32 c3 16777216)
def leAt (l : List Int) (i : Nat) : Int := le32 (l.getD (4 * i) 0) (l.getD (4 * i + 1) 0) (l.getD (4 * i + 2) 0) (l.getD (4 * i + 3) 0)
def wordsL (k : List Int) (cnt : Int) (n : List Int) : List Int :=
  [1634760805, 857760878, 2036477234, 1797285236, leAt k 0, leAt k 1, leAt k 2, leAt k 3, leAt k 4, leAt k 5, leAt k 6, leAt k 7, cnt, leAt n 0, leAt n 1, leAt n 2]
def byteAt (w f : List Int) (i : Nat) : Int := IntKind.u8.wrap ((IntKind.u32.wrap (w.getD (i / 4) 0 + f.getD (i / 4) 0)).fdiv (2 ^ (i % 4 * 8)))
def blockL (w f : List Int) : List Int := (List.range 64).map (byteAt w f)

theorem words_run (k0 k1 k2 k3 k4 k5 k6 k7 k8 k9 k10 k11 k12 k13 k14 k15 k16 k17 k18 k19 k20 k21 k22 k23 k24 k25 k26 k27 k28 k29 k30 k31 cnt n0 n1 n2 n3 n4 n5 n6 n7 n8 n9 n10 n11 : Int) :
    (callFn cxD (exec cxD 2000) 22 [.agg ⟨[.int .u8 k0, .int .u8 k1, .int .u8 k2, .int .u8 k3, .int .u8 k4, .int .u8 k5, .int .u8 k6, .int .u8 k7, .int .u8 k8, .int .u8 k9, .int .u8 k10, .int .u8 k11, .int .u8 k12, .int .u8 k13, .int .u8 k14, .int .u8 k15, .int .u8 k16, .int .u8 k17, .int .u8 k18, .int .u8 k19, .int .u8 k20, .int .u8 k21, .int .u8 k22, .int .u8 k23, .int .u8 k24, .int .u8 k25, .int .u8 k26, .int .u8 k27, .int .u8 k28, .int .u8 k29, .int .u8 k30, .int .u8 k31]⟩, .int .u32 cnt, .agg ⟨[.int .u8 n0, .int .u8 n1, .int .u8 n2, .int .u8 n3, .int .u8 n4, .int .u8 n5, .int .u8 n6, .int .u8 n7, .int .u8 n8, .int .u8 n9, .int .u8 n10, .int .u8 n11]⟩] []).map (fun p => (p.1.val, p.2)) =
      some (.agg ⟨(wordsL [k0, k1, k2, k3, k4, k5, k6, k7, k8, k9, k10, k11, k12, k13, k14, k15, k16, k17, k18, k19, k20, k21, k22, k23, k24, k25, k26, k27, k28, k29, k30, k31] cnt [n0, n1, n2, n3, n4, n5, n6, n7, n8, n9, n10, n11]).map (Value.int .u32)⟩, []) := by
  kernel_rfl

theorem le32_u (a b c d : Int) : U32 (le32 a b c d) := bits_u32 _ _ _
theorem wordsL_all {k n : List Int} {cnt : Int} (h : U32 cnt) : ∀ x ∈ wordsL k cnt n, U32 x := by
  intro x hx
  simp only [wordsL, List.mem_cons, List.not_mem_nil, or_false] at hx
  have lit : ∀ y : Int, y ∈ [1634760805, 857760878, 2036477234, 1797285236] → U32 y := by
    intro y hy
    simp only [List.mem_cons, List.not_mem_nil, or_false] at hy
    unfold U32
    omega
  rcases hx with rfl | rfl | rfl | rfl | rfl | rfl | rfl | rfl | rfl | rfl | rfl | rfl | rfl | rfl | rfl | rfl
  · exact lit _ (by simp)
  · exact lit _ (by simp)
  · exact lit _ (by simp)
  · exact lit _ (by simp)
  all_goals first | exact h | exact le32_u _ _ _ _

theorem words_calls (k n : List Int) (cnt : Int) (hk : k.length = 32) (hn : n.length = 12) (hku : ∀ x ∈ k, IntKind.u8.min ≤ x ∧ x ≤ IntKind.u8.max) (hnu : ∀ x ∈ n, IntKind.u8.min ≤ x ∧ x ≤ IntKind.u8.max) (hc : U32 cnt) (w : World) :
    Calls Try.prog 22 #[.agg ⟨k.map (Value.int .u8)⟩, .int .u32 cnt, .agg ⟨n.map (Value.int .u8)⟩] w fun e w' => e = .returned (.agg ⟨(wordsL k cnt n).map (Value.int .u32)⟩) ∧ RowKit.Below w.heap.size w w' := by
  match k, hk, hku, n, hn, hnu with
  | [k0, k1, k2, k3, k4, k5, k6, k7, k8, k9, k10, k11, k12, k13, k14, k15, k16, k17, k18, k19, k20, k21, k22, k23, k24, k25, k26, k27, k28, k29, k30, k31], _, hku, [n0, n1, n2, n3, n4, n5, n6, n7, n8, n9, n10, n11], _, hnu =>
    refine below_of_run (cx := cxD) rfl cxD_ok 2000 (words_run k0 k1 k2 k3 k4 k5 k6 k7 k8 k9 k10 k11 k12 k13 k14 k15 k16 k17 k18 k19 k20 k21 k22 k23 k24 k25 k26 k27 k28 k29 k30 k31 cnt n0 n1 n2 n3 n4 n5 n6 n7 n8 n9 n10 n11) (fun p hp => by cases hp) (fun v hv => ?_) (nums_flat fun x hx => u32_in (wordsL_all hc x hx)) w
    rcases List.mem_cons.1 hv with rfl | hv
    · exact nums_flat (l := [k0, k1, k2, k3, k4, k5, k6, k7, k8, k9, k10, k11, k12, k13, k14, k15, k16, k17, k18, k19, k20, k21, k22, k23, k24, k25, k26, k27, k28, k29, k30, k31]) hku
    · rcases List.mem_cons.1 hv with rfl | hv
      · exact .int (u32_in hc)
      · rw [List.mem_singleton] at hv
        subst hv
        exact nums_flat (l := [n0, n1, n2, n3, n4, n5, n6, n7, n8, n9, n10, n11]) hnu

/-- Key, count, nonce, as they are handed in. -/
def knOf (args : List Value) : Option (List Int × Int × List Int) :=
  match args with
  | [.agg ⟨ks⟩, .int .u32 cnt, .agg ⟨ns⟩] => match numsOf .u8 ks with
    | none => none
    | some k => match numsOf .u8 ns with
      | none => none
      | some n => match decide (k.length = 32) && decide (n.length = 12) with
        | true => some (k, cnt, n)
        | false => none
  | _ => none
theorem knOf_spec {args : List Value} {k n : List Int} {cnt : Int} (h : knOf args = some (k, cnt, n)) : args = [.agg ⟨k.map (Value.int .u8)⟩, .int .u32 cnt, .agg ⟨n.map (Value.int .u8)⟩] ∧ k.length = 32 ∧ n.length = 12 := by
  unfold knOf at h
  split at h
  · split at h
    · cases h
    · rename_i k' hk
      split at h
      · cases h
      · rename_i n' hn
        split at h
        · rename_i hl
          cases h
          simp only [Bool.and_eq_true, decide_eq_true_eq] at hl
          rw [numsOf_eq hk, numsOf_eq hn]
          exact ⟨rfl, hl⟩
        · cases h
  · cases h
theorem kn_ok {D : Nat → Prop} {k n : List Int} {cnt : Int} (h : ∀ v ∈ [Value.agg ⟨k.map (Value.int .u8)⟩, .int .u32 cnt, .agg ⟨n.map (Value.int .u8)⟩], Vok D v) :
    (∀ x ∈ k, IntKind.u8.min ≤ x ∧ x ≤ IntKind.u8.max) ∧ (∀ x ∈ n, IntKind.u8.min ≤ x ∧ x ≤ IntKind.u8.max) ∧ U32 cnt := by
  refine ⟨nums_ok (h _ (by simp)), nums_ok (h _ (by simp)), ?_⟩
  have := h (.int .u32 cnt) (by simp)
  cases this
  rename_i hc
  exact in_u32 hc
theorem kn_flat {k n : List Int} {cnt : Int} (h : (∀ x ∈ k, IntKind.u8.min ≤ x ∧ x ≤ IntKind.u8.max) ∧ (∀ x ∈ n, IntKind.u8.min ≤ x ∧ x ≤ IntKind.u8.max) ∧ U32 cnt) : ∀ v ∈ [Value.agg ⟨k.map (Value.int .u8)⟩, .int .u32 cnt, .agg ⟨n.map (Value.int .u8)⟩], Flat v := by
  intro v hv
  rcases List.mem_cons.1 hv with rfl | hv
  · exact nums_flat h.1
  · rcases List.mem_cons.1 hv with rfl | hv
    · exact .int (u32_in h.2.2)
    · rw [List.mem_singleton] at hv
      subst hv
      exact nums_flat h.2.1

noncomputable def wordsCon : Con := fun f args hp =>
  match dblCon f args hp with
  | some E => some E
  | none => match decide (f = 22) with
    | true => match knOf args with
      | some (k, cnt, n) => some ⟨.agg ⟨(wordsL k cnt n).map (Value.int .u32)⟩, [], []⟩
      | none => none
    | false => none
theorem wordsCon_sound : ∀ f args hp E, wordsCon f args hp = some E → CallSound Try.prog f args hp E := by
  intro f args hp E h
  unfold wordsCon at h
  split at h
  · rename_i E' hE
    cases h
    exact dblCon_sound f args hp E hE
  · split at h
    · rename_i hf
      simp only [decide_eq_true_eq] at hf
      subst hf
      split at h
      · rename_i k cnt n hkn
        cases h
        obtain ⟨rfl, h32, h12⟩ := knOf_spec hkn
        exact sound_of_below (enter_of Try.func22 (by decide +kernel) (by decide +kernel)) (fun hfl => nums_flat fun x hx => u32_in (wordsL_all (kn_ok hfl).2.2 x hx)) (fun D hD => kn_flat (kn_ok hD))
          (fun hfl w => words_calls k n cnt h32 h12 (kn_ok hfl).1 (kn_ok hfl).2.1 (kn_ok hfl).2.2 w) hp
      · cases h
    · cases h
noncomputable def cxW : Ctx := ⟨Try.prog, fns, wordsCon, []⟩
theorem cxW_ok : CtxOk cxW := by
  refine ⟨by decide +kernel, fun f fn h => ?_, wordsCon_sound⟩
  obtain ⟨h1, h2, h3⟩ := fns_ok _ (findFn_mem h)
  exact fn_ok h1 h2 h3

theorem block_run (k0 k1 k2 k3 k4 k5 k6 k7 k8 k9 k10 k11 k12 k13 k14 k15 k16 k17 k18 k19 k20 k21 k22 k23 k24 k25 k26 k27 k28 k29 k30 k31 cnt n0 n1 n2 n3 n4 n5 n6 n7 n8 n9 n10 n11 : Int) :
    (callFn cxW (exec cxW 2000) 21 [.agg ⟨[.int .u8 k0, .int .u8 k1, .int .u8 k2, .int .u8 k3, .int .u8 k4, .int .u8 k5, .int .u8 k6, .int .u8 k7, .int .u8 k8, .int .u8 k9, .int .u8 k10, .int .u8 k11, .int .u8 k12, .int .u8 k13, .int .u8 k14, .int .u8 k15, .int .u8 k16, .int .u8 k17, .int .u8 k18, .int .u8 k19, .int .u8 k20, .int .u8 k21, .int .u8 k22, .int .u8 k23, .int .u8 k24, .int .u8 k25, .int .u8 k26, .int .u8 k27, .int .u8 k28, .int .u8 k29, .int .u8 k30, .int .u8 k31]⟩, .int .u32 cnt, .agg ⟨[.int .u8 n0, .int .u8 n1, .int .u8 n2, .int .u8 n3, .int .u8 n4, .int .u8 n5, .int .u8 n6, .int .u8 n7, .int .u8 n8, .int .u8 n9, .int .u8 n10, .int .u8 n11]⟩] []).map (fun p => (p.1.val, p.2)) =
      some (.agg ⟨(blockL (ten (wordsL [k0, k1, k2, k3, k4, k5, k6, k7, k8, k9, k10, k11, k12, k13, k14, k15, k16, k17, k18, k19, k20, k21, k22, k23, k24, k25, k26, k27, k28, k29, k30, k31] cnt [n0, n1, n2, n3, n4, n5, n6, n7, n8, n9, n10, n11])) (wordsL [k0, k1, k2, k3, k4, k5, k6, k7, k8, k9, k10, k11, k12, k13, k14, k15, k16, k17, k18, k19, k20, k21, k22, k23, k24, k25, k26, k27, k28, k29, k30, k31] cnt [n0, n1, n2, n3, n4, n5, n6, n7, n8, n9, n10, n11])).map (Value.int .u8)⟩, []) := by
  kernel_rfl
end Go.Proofs.Yteichdiioidlcaa.SxCha
