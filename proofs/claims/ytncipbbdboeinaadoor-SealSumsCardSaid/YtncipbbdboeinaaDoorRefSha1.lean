/-
The document's turned and table; words' bits: the document's way of saying a word, and the program's.
-/
import Derived.Test.YtncipbbdboeinaaDoorShaTurn
namespace Go.Proofs.YtncipbbdboeinaaDoor
open Go.RowKit Go.Proofs.YtncipbbdboeinaaDoorW.PrintWords Go.Proofs.YtncipbbdboeinaaDoorW.PrintLast Go.Proofs.YtncipbbdboeinaaDoorW.PrintMore Go.Proofs.YtncipbbdboeinaaDoor.PAll
set_option linter.unusedVariables false
set_option linter.unusedSimpArgs false

abbrev Bv (x : Int) : BitVec 32 := BitVec.ofInt 32 x
theorem wrap_u32 (z : Int) : IntKind.u32.wrap z = z % 4294967296 := rfl
theorem nat_bv (v : BitVec 32) : IntKind.u32.wrap (v.toNat : Int) = v.toNat := by
  rw [wrap_u32]
  have := v.isLt
  omega
theorem bits_or (a b : Int) : Go.bits .or .u32 a b = ((Bv a ||| Bv b).toNat : Int) := nat_bv _
theorem bits_and (a b : Int) : Go.bits .and .u32 a b = ((Bv a &&& Bv b).toNat : Int) := nat_bv _
theorem bits_xor (a b : Int) : Go.bits .xor .u32 a b = ((Bv a ^^^ Bv b).toNat : Int) := nat_bv _
theorem bv_nat (v : BitVec 32) : Bv (v.toNat : Int) = v := by
  rw [Bv, BitVec.ofInt_natCast, BitVec.ofNat_toNat, BitVec.setWidth_eq]
theorem bv_mod (x : Int) : Bv (x % 4294967296) = Bv x := by
  apply BitVec.eq_of_toNat_eq
  simp only [Bv, BitVec.toNat_ofInt]
  congr 1
  exact Int.emod_emod_of_dvd x (by decide)
theorem bv_shl (x : Int) (n : Nat) : Bv (x * 2 ^ n % 4294967296) = Bv x <<< n := by
  rw [bv_mod]
  apply BitVec.eq_of_toNat_eq
  rw [BitVec.toNat_shiftLeft, Bv, Bv, BitVec.toNat_ofInt, BitVec.toNat_ofInt, Nat.shiftLeft_eq]
  have h1 : 0 ≤ x % ((2 ^ 32 : Nat) : Int) := Int.emod_nonneg _ (by decide)
  have h2 : 0 ≤ (x * 2 ^ n) % ((2 ^ 32 : Nat) : Int) := Int.emod_nonneg _ (by decide)
  apply Int.ofNat_inj.1
  rw [Int.toNat_of_nonneg h2, Int.natCast_emod, Int.natCast_mul, Int.toNat_of_nonneg h1, Int.natCast_pow, Int.mul_emod (x % _), Int.emod_emod, ← Int.mul_emod]
  rfl
theorem bv_mul (x : Int) (n : Nat) : Bv (x * 2 ^ n) = Bv x <<< n := by rw [← bv_mod, bv_shl]
theorem or_comm (x y : Int) : Go.bits .or .u32 x y = Go.bits .or .u32 y x := by
  rw [bits_or, bits_or, BitVec.or_comm]
theorem chosen (e f g : Int) : Go.bits .xor .u32 (Go.bits .and .u32 e f) (Go.bits .and .u32 (Go.bits .xor .u32 e 4294967295) g) = Go.bits .xor .u32 g (Go.bits .and .u32 e (Go.bits .xor .u32 f g)) := by
  simp only [bits_and, bits_xor, bv_nat]
  congr 2
  have hA : ∀ i (hi : i < 32), (Bv 4294967295)[i] = true := by
    rw [show Bv 4294967295 = BitVec.allOnes 32 from by decide]
    exact fun i hi => BitVec.getElem_allOnes _ hi
  generalize Bv 4294967295 = A at hA ⊢
  ext i hi
  simp [hA i hi]
  cases (Bv e)[i] <;> cases (Bv f)[i] <;> cases (Bv g)[i] <;> rfl
theorem most (a b c : Int) : Go.bits .xor .u32 (Go.bits .xor .u32 (Go.bits .and .u32 a b) (Go.bits .and .u32 a c)) (Go.bits .and .u32 b c) = Go.bits .or .u32 (Go.bits .and .u32 a b) (Go.bits .and .u32 c (Go.bits .or .u32 a b)) := by
  simp only [bits_and, bits_xor, bits_or, bv_nat]
  congr 2
  ext i hi
  simp
  cases (Bv a)[i] <;> cases (Bv b)[i] <;> cases (Bv c)[i] <;> rfl
/-- Four bytes, as one word. -/
def fourR (c0 c1 c2 c3 : Int) : Int := Go.bits .or .u32 (Go.bits .or .u32 (Go.bits .or .u32 (c0 % 4294967296 * 16777216 % 4294967296) (c1 % 4294967296 * 65536 % 4294967296)) (c2 % 4294967296 * 256 % 4294967296)) (c3 % 4294967296)
theorem four_word (b : List Int) (t : Nat) : fourR (b.getD (4 * t) 0) (b.getD (4 * t + 1) 0) (b.getD (4 * t + 2) 0) (b.getD (4 * t + 3) 0) = word4 b t 4 := by
  simp only [word4, fourR, putB]
  generalize b.getD (4 * t + 0) 0 = c0
  generalize b.getD (4 * t + 1) 0 = c1
  generalize b.getD (4 * t + 2) 0 = c2
  generalize b.getD (4 * t + 3) 0 = c3
  have e : ∀ x : Int, x * 256 % 4294967296 = x * 2 ^ 8 % 4294967296 := fun x => rfl
  have e16 : ∀ x : Int, x * 65536 % 4294967296 = x * 2 ^ 16 % 4294967296 := fun x => rfl
  have e24 : ∀ x : Int, x * 16777216 % 4294967296 = x * 2 ^ 24 % 4294967296 := fun x => rfl
  simp only [e, e16, e24, bits_or, bv_mul, bv_mod, bv_nat]
  rw [show Bv 0 = 0#32 from by decide]
  simp only [BitVec.shiftLeft_or_distrib, ← BitVec.shiftLeft_add, BitVec.zero_shiftLeft, BitVec.zero_or, Nat.reduceAdd]
theorem rotR_eq (x : Int) {n : Nat} (h0 : 0 < n) (h1 : n < 32) : Go.bits .or .u32 (x / 2 ^ n) (x * 2 ^ (32 - n) % 4294967296) = rotR x n := by
  rw [or_comm, rotR, shl, shr, wrap_u32, show min (32 - (n : Int)).toNat IntKind.u32.bits = 32 - n by (have : IntKind.u32.bits = 32 := rfl); omega, show min (n : Int).toNat IntKind.u32.bits = n by (have : IntKind.u32.bits = 32 := rfl); omega]
set_option maxHeartbeats 1000000 in
theorem turned_calls (x : Int) (n : Nat) (h0 : 0 < n) (h1 : n < 32) (w : World) : Calls Tryd.prog 42 #[.int .u32 x, .int .u32 n] w fun e w' => e = .returned (.int .u32 (rotR x n)) ∧ w' = w := by
  have hs : IntKind.u32.wrap (32 - (n : Int)) = 32 - (n : Int) := by
    rw [show ∀ z, IntKind.u32.wrap z = z % 4294967296 from fun _ => rfl]
    omega
  have hn : 0 ≤ (n : Int) := by omega
  have hs0 : 0 ≤ 32 - (n : Int) := by omega
  have hR := Aside0.mk (rotR_eq x h0 h1)
  go_enter Tryd.func42, Tryd.ntmps42
  go_wp2
  rw [hR.out]
  go_ret
  exact ⟨rfl, rfl⟩
set_option maxHeartbeats 4000000 in
set_option maxRecDepth 100000 in
theorem table_calls (w : World) : Calls Tryd.prog 40 #[] w fun e w' => e = .returned (.agg ⟨kT.map (Value.int .u32)⟩) ∧ Below w.heap.size w w' := by
  go_enter Tryd.func40, Tryd.ntmps40
  have hone := one_u32 kT
  have hsz : (kT.map (Value.int .u32)).length = 64 := rfl
  have hi : (Tryd.prog.info? 73).map (·.size) = some (⟨kT.map (Value.int .u32)⟩ : Array Value).size := rfl
  have HG := Aside0.mk (heap_alloc_new w (.cells #[.int .u32 0, .int .u32 0, .int .u32 0, .int .u32 0, .int .u32 0, .int .u32 0, .int .u32 0, .int .u32 0, .int .u32 0, .int .u32 0, .int .u32 0, .int .u32 0, .int .u32 0, .int .u32 0, .int .u32 0, .int .u32 0, .int .u32 0, .int .u32 0, .int .u32 0, .int .u32 0, .int .u32 0, .int .u32 0, .int .u32 0, .int .u32 0, .int .u32 0, .int .u32 0, .int .u32 0, .int .u32 0, .int .u32 0, .int .u32 0, .int .u32 0, .int .u32 0, .int .u32 0, .int .u32 0, .int .u32 0, .int .u32 0, .int .u32 0, .int .u32 0, .int .u32 0, .int .u32 0, .int .u32 0, .int .u32 0, .int .u32 0, .int .u32 0, .int .u32 0, .int .u32 0, .int .u32 0, .int .u32 0, .int .u32 0, .int .u32 0, .int .u32 0, .int .u32 0, .int .u32 0, .int .u32 0, .int .u32 0, .int .u32 0, .int .u32 0, .int .u32 0, .int .u32 0, .int .u32 0, .int .u32 0, .int .u32 0, .int .u32 0, .int .u32 0] 73))
  have HB := Aside0.mk (below_alloc (Below.refl w.heap.size w) (.cells #[.int .u32 0, .int .u32 0, .int .u32 0, .int .u32 0, .int .u32 0, .int .u32 0, .int .u32 0, .int .u32 0, .int .u32 0, .int .u32 0, .int .u32 0, .int .u32 0, .int .u32 0, .int .u32 0, .int .u32 0, .int .u32 0, .int .u32 0, .int .u32 0, .int .u32 0, .int .u32 0, .int .u32 0, .int .u32 0, .int .u32 0, .int .u32 0, .int .u32 0, .int .u32 0, .int .u32 0, .int .u32 0, .int .u32 0, .int .u32 0, .int .u32 0, .int .u32 0, .int .u32 0, .int .u32 0, .int .u32 0, .int .u32 0, .int .u32 0, .int .u32 0, .int .u32 0, .int .u32 0, .int .u32 0, .int .u32 0, .int .u32 0, .int .u32 0, .int .u32 0, .int .u32 0, .int .u32 0, .int .u32 0, .int .u32 0, .int .u32 0, .int .u32 0, .int .u32 0, .int .u32 0, .int .u32 0, .int .u32 0, .int .u32 0, .int .u32 0, .int .u32 0, .int .u32 0, .int .u32 0, .int .u32 0, .int .u32 0, .int .u32 0, .int .u32 0] 73))
  repeat (first
    | ((with_reducible refine wpList_store 73 (.tmp 0) (.tmp 1) w.heap.size _ _ ⟨kT.map (Value.int .u32)⟩ rfl rfl ?hx ?hy HG.out rfl hi hone ?_); (case hx => rfl); (case hy => rfl); intro w1 g1 g2 g3 g4; have HG1 := Aside0.mk g1; have HG3 := Aside0.mk (g3 _ _ HB.out (Nat.le_refl _)); clear g1 g2 g3 g4)
    | go_values | go_guarded | go_step | go_upon | go_back)
  refine bodyPost_ret (results_single rfl (.cell w.heap.size _ _ (0, 0) _ rfl HG1.out Tryd.underlying73 rfl hi .nil)) rfl ?_
  exact ⟨rfl, HG3.out⟩
end Go.Proofs.YtncipbbdboeinaaDoor
