/-
bits.RotateLeft32 and the document's rolled, at the amounts that are asked for.
-/
import Derived.Test.YteichdiioidlcaaProg
import Derived.Test.YteichdiioidlcaaHandWords
import Derived.OpenShut
namespace Go.Proofs.Yteichdiioidlcaa
open Go.RowKit Go.Proofs.YteichdiioidlcaaW.PrintWords Go.Proofs.YteichdiioidlcaaW.PrintLast Go.Proofs.YteichdiioidlcaaW.PrintMore
set_option linter.unusedVariables false
set_option linter.unusedSimpArgs false

/-- A word rolled up by s. -/
def rotL (x : Int) (s : Nat) : Int := Go.bits .or .u32 (x * 2 ^ s % 4294967296) (x / 2 ^ (32 - s))
def U32 (x : Int) : Prop := 0 ≤ x ∧ x ≤ 4294967295
theorem bits_u32 (op : BinOp) (x y : Int) : U32 (Go.bits op .u32 x y) := by
  have := wf_bits op .u32 x y
  rw [Lit.wf, Bool.and_eq_true, decide_eq_true_eq, decide_eq_true_eq] at this
  exact ⟨this.1, this.2⟩
theorem rotL_u32 (x : Int) (s : Nat) : U32 (rotL x s) := bits_u32 _ _ _

set_option maxHeartbeats 1000000 in
theorem rot16 (x : Int) (w : World) (h : U32 x) : Calls Try.prog 29 #[.int .u32 x, .int .i64 16] w fun e w' => e = .returned (.int .u32 (rotL x 16)) ∧ w = w' := by
  have h0 := h.1
  have h1 := h.2
  have HR := Aside0.mk (show rotL x 16 = Go.bits .or .u32 (x * 65536 % 4294967296) (x / 65536) from rfl)
  clear h
  have hb : Go.bits .and .u64 (16) 31 = 16 := by decide
  go_enter Try.func29, Try.ntmps29
  go_wp2
  go_ret
  exact ⟨by rw [HR.out]; rfl, rfl⟩
set_option maxHeartbeats 1000000 in
theorem rot12 (x : Int) (w : World) (h : U32 x) : Calls Try.prog 29 #[.int .u32 x, .int .i64 12] w fun e w' => e = .returned (.int .u32 (rotL x 12)) ∧ w = w' := by
  have h0 := h.1
  have h1 := h.2
  have HR := Aside0.mk (show rotL x 12 = Go.bits .or .u32 (x * 4096 % 4294967296) (x / 1048576) from rfl)
  clear h
  have hb : Go.bits .and .u64 (12) 31 = 12 := by decide
  go_enter Try.func29, Try.ntmps29
  go_wp2
  go_ret
  exact ⟨by rw [HR.out]; rfl, rfl⟩
set_option maxHeartbeats 1000000 in
theorem rot8 (x : Int) (w : World) (h : U32 x) : Calls Try.prog 29 #[.int .u32 x, .int .i64 8] w fun e w' => e = .returned (.int .u32 (rotL x 8)) ∧ w = w' := by
  have h0 := h.1
  have h1 := h.2
  have HR := Aside0.mk (show rotL x 8 = Go.bits .or .u32 (x * 256 % 4294967296) (x / 16777216) from rfl)
  clear h
  have hb : Go.bits .and .u64 (8) 31 = 8 := by decide
  go_enter Try.func29, Try.ntmps29
  go_wp2
  go_ret
  exact ⟨by rw [HR.out]; rfl, rfl⟩
set_option maxHeartbeats 1000000 in
theorem rot7 (x : Int) (w : World) (h : U32 x) : Calls Try.prog 29 #[.int .u32 x, .int .i64 7] w fun e w' => e = .returned (.int .u32 (rotL x 7)) ∧ w = w' := by
  have h0 := h.1
  have h1 := h.2
  have HR := Aside0.mk (show rotL x 7 = Go.bits .or .u32 (x * 128 % 4294967296) (x / 33554432) from rfl)
  clear h
  have hb : Go.bits .and .u64 (7) 31 = 7 := by decide
  go_enter Try.func29, Try.ntmps29
  go_wp2
  go_ret
  exact ⟨by rw [HR.out]; rfl, rfl⟩
set_option maxHeartbeats 1000000 in
theorem back16 (x : Int) (w : World) (h : U32 x) : Calls Try.prog 29 #[.int .u32 x, .int .i64 (-16)] w fun e w' => e = .returned (.int .u32 (rotL x 16)) ∧ w = w' := by
  have h0 := h.1
  have h1 := h.2
  have HR := Aside0.mk (show rotL x 16 = Go.bits .or .u32 (x * 65536 % 4294967296) (x / 65536) from rfl)
  clear h
  have hb : Go.bits .and .u64 (IntKind.u64.wrap (-16)) 31 = 16 := by decide
  go_enter Try.func29, Try.ntmps29
  go_wp2
  go_ret
  exact ⟨by rw [HR.out]; rfl, rfl⟩
set_option maxHeartbeats 1000000 in
theorem back12 (x : Int) (w : World) (h : U32 x) : Calls Try.prog 29 #[.int .u32 x, .int .i64 (-12)] w fun e w' => e = .returned (.int .u32 (rotL x 20)) ∧ w = w' := by
  have h0 := h.1
  have h1 := h.2
  have HR := Aside0.mk (show rotL x 20 = Go.bits .or .u32 (x * 1048576 % 4294967296) (x / 4096) from rfl)
  clear h
  have hb : Go.bits .and .u64 (IntKind.u64.wrap (-12)) 31 = 20 := by decide
  go_enter Try.func29, Try.ntmps29
  go_wp2
  go_ret
  exact ⟨by rw [HR.out]; rfl, rfl⟩
set_option maxHeartbeats 1000000 in
theorem back8 (x : Int) (w : World) (h : U32 x) : Calls Try.prog 29 #[.int .u32 x, .int .i64 (-8)] w fun e w' => e = .returned (.int .u32 (rotL x 24)) ∧ w = w' := by
  have h0 := h.1
  have h1 := h.2
  have HR := Aside0.mk (show rotL x 24 = Go.bits .or .u32 (x * 16777216 % 4294967296) (x / 256) from rfl)
  clear h
  have hb : Go.bits .and .u64 (IntKind.u64.wrap (-8)) 31 = 24 := by decide
  go_enter Try.func29, Try.ntmps29
  go_wp2
  go_ret
  exact ⟨by rw [HR.out]; rfl, rfl⟩
set_option maxHeartbeats 1000000 in
theorem back7 (x : Int) (w : World) (h : U32 x) : Calls Try.prog 29 #[.int .u32 x, .int .i64 (-7)] w fun e w' => e = .returned (.int .u32 (rotL x 25)) ∧ w = w' := by
  have h0 := h.1
  have h1 := h.2
  have HR := Aside0.mk (show rotL x 25 = Go.bits .or .u32 (x * 33554432 % 4294967296) (x / 128) from rfl)
  clear h
  have hb : Go.bits .and .u64 (IntKind.u64.wrap (-7)) 31 = 25 := by decide
  go_enter Try.func29, Try.ntmps29
  go_wp2
  go_ret
  exact ⟨by rw [HR.out]; rfl, rfl⟩
set_option maxHeartbeats 1000000 in
theorem rolled16 (x : Int) (w : World) (h : U32 x) : Calls Try.prog 30 #[.int .u32 x, .int .u32 16] w fun e w' => e = .returned (.int .u32 (rotL x 16)) ∧ w = w' := by
  have h0 := h.1
  have h1 := h.2
  have HR := Aside0.mk (show rotL x 16 = Go.bits .or .u32 (x * 65536 % 4294967296) (x / 65536) from rfl)
  clear h
  go_enter Try.func30, Try.ntmps30
  go_wp2
  go_ret
  exact ⟨by rw [HR.out]; rfl, rfl⟩
set_option maxHeartbeats 1000000 in
theorem rolled12 (x : Int) (w : World) (h : U32 x) : Calls Try.prog 30 #[.int .u32 x, .int .u32 12] w fun e w' => e = .returned (.int .u32 (rotL x 12)) ∧ w = w' := by
  have h0 := h.1
  have h1 := h.2
  have HR := Aside0.mk (show rotL x 12 = Go.bits .or .u32 (x * 4096 % 4294967296) (x / 1048576) from rfl)
  clear h
  go_enter Try.func30, Try.ntmps30
  go_wp2
  go_ret
  exact ⟨by rw [HR.out]; rfl, rfl⟩
set_option maxHeartbeats 1000000 in
theorem rolled8 (x : Int) (w : World) (h : U32 x) : Calls Try.prog 30 #[.int .u32 x, .int .u32 8] w fun e w' => e = .returned (.int .u32 (rotL x 8)) ∧ w = w' := by
  have h0 := h.1
  have h1 := h.2
  have HR := Aside0.mk (show rotL x 8 = Go.bits .or .u32 (x * 256 % 4294967296) (x / 16777216) from rfl)
  clear h
  go_enter Try.func30, Try.ntmps30
  go_wp2
  go_ret
  exact ⟨by rw [HR.out]; rfl, rfl⟩
set_option maxHeartbeats 1000000 in
theorem rolled7 (x : Int) (w : World) (h : U32 x) : Calls Try.prog 30 #[.int .u32 x, .int .u32 7] w fun e w' => e = .returned (.int .u32 (rotL x 7)) ∧ w = w' := by
  have h0 := h.1
  have h1 := h.2
  have HR := Aside0.mk (show rotL x 7 = Go.bits .or .u32 (x * 128 % 4294967296) (x / 33554432) from rfl)
  clear h
  go_enter Try.func30, Try.ntmps30
  go_wp2
  go_ret
  exact ⟨by rw [HR.out]; rfl, rfl⟩
set_option maxHeartbeats 1000000 in
theorem rolled25 (x : Int) (w : World) (h : U32 x) : Calls Try.prog 30 #[.int .u32 x, .int .u32 25] w fun e w' => e = .returned (.int .u32 (rotL x 25)) ∧ w = w' := by
  have h0 := h.1
  have h1 := h.2
  have HR := Aside0.mk (show rotL x 25 = Go.bits .or .u32 (x * 33554432 % 4294967296) (x / 128) from rfl)
  clear h
  go_enter Try.func30, Try.ntmps30
  go_wp2
  go_ret
  exact ⟨by rw [HR.out]; rfl, rfl⟩
set_option maxHeartbeats 1000000 in
theorem rolled24 (x : Int) (w : World) (h : U32 x) : Calls Try.prog 30 #[.int .u32 x, .int .u32 24] w fun e w' => e = .returned (.int .u32 (rotL x 24)) ∧ w = w' := by
  have h0 := h.1
  have h1 := h.2
  have HR := Aside0.mk (show rotL x 24 = Go.bits .or .u32 (x * 16777216 % 4294967296) (x / 256) from rfl)
  clear h
  go_enter Try.func30, Try.ntmps30
  go_wp2
  go_ret
  exact ⟨by rw [HR.out]; rfl, rfl⟩
set_option maxHeartbeats 1000000 in
theorem rolled20 (x : Int) (w : World) (h : U32 x) : Calls Try.prog 30 #[.int .u32 x, .int .u32 20] w fun e w' => e = .returned (.int .u32 (rotL x 20)) ∧ w = w' := by
  have h0 := h.1
  have h1 := h.2
  have HR := Aside0.mk (show rotL x 20 = Go.bits .or .u32 (x * 1048576 % 4294967296) (x / 4096) from rfl)
  clear h
  go_enter Try.func30, Try.ntmps30
  go_wp2
  go_ret
  exact ⟨by rw [HR.out]; rfl, rfl⟩
theorem rotAny (x n : Int) (w : World) (hn : n = 16 ∨ n = 12 ∨ n = 8 ∨ n = 7) (h : U32 x) : Calls Try.prog 29 #[.int .u32 x, .int .i64 n] w fun e w' => e = .returned (.int .u32 (rotL x n.toNat)) ∧ w = w' := by
  rcases hn with rfl | rfl | rfl | rfl
  · exact rot16 x w h
  · exact rot12 x w h
  · exact rot8 x w h
  · exact rot7 x w h
theorem backAny (x n : Int) (w : World) (hn : n = 16 ∨ n = 12 ∨ n = 8 ∨ n = 7) (h : U32 x) : Calls Try.prog 29 #[.int .u32 x, .int .i64 (-n)] w fun e w' => e = .returned (.int .u32 (rotL x (32 - n.toNat))) ∧ w = w' := by
  rcases hn with rfl | rfl | rfl | rfl
  · exact back16 x w h
  · exact back12 x w h
  · exact back8 x w h
  · exact back7 x w h
end Go.Proofs.Yteichdiioidlcaa
