/-
geo.Reverse, geo.Path, geo.On: what each call computes, as plain Lean, and that the call does so.
-/
import Derived.Test.YtncpilnallghpaaGeoPure
namespace Go.Proofs.Ytncpilnallghpaa
open Go.RowKit Go.Proofs.YtncpilnallghpaaW.PrintWords Go.Proofs.YtncpilnallghpaaW.PrintLast Go.Proofs.YtncpilnallghpaaW.PrintMore Go.Proofs.Ytncpilnallghpaa.PAll
set_option linter.unusedVariables false
set_option linter.unusedSimpArgs false

theorem world_set {W : World} {a : Addr} {v0 : Value} (hc : W.cell? a = some v0) (hf : W.frozen? a = false) (v : Value) : (W.setCell a v).drew.cell? a = some v ∧ (W.setCell a v).drew.frozen? a = false :=
  ⟨World.cell?_setCell_same' _ _ _ (by rw [hc]; rfl), (World.frozen?_setCell _ _ _ _).trans hf⟩
theorem cell_far1 (W : World) {a : Addr} (b : Addr) (h : a ≠ b) (v : Value) : (W.setCell a v).drew.cell? b = W.cell? b := World.cell?_setCell_other W a b v h

/-! ### geo.Reverse -/
/-- One bit more of a number's leaf. -/
def revPut (h n o i : Int) : Int := Go.bits .or .i64 o (wrap64 (wrap64 (Go.bits .and .u64 (n / 2 ^ i.toNat) 1) * 2 ^ (h - 1 - i).toNat))
/-- The bits from the i-th on, d of them. -/
def revGo (h n : Int) : Nat → Int → Int → Int
  | 0, _, o => o
  | d + 1, i, o => revGo h n d (i + 1) (revPut h n o i)
def geo_Reverse.f (h n : Int) : Option (Int × Int) := if 0 ≤ n then if n ≤ 18446744073709551615 then some (if isHigh h = true then (revGo h n h.toNat 0 0, 0) else (0, 2)) else none else none

set_option maxHeartbeats 1000000 in
theorem geo_Reverse1.any (i o n h : Int) (a b c : Addr) (w : World) (ha : w.cell? a = some (.int .i64 o)) (hf : w.frozen? a = false) (hb : w.cell? b = some (.int .u64 n)) (hc : w.cell? c = some (.int .i64 h))
    (h1 : 1 ≤ h) (h6 : h ≤ 6) (i0 : 0 ≤ i) (i1 : i < h) (n0 : 0 ≤ n) (n1 : n ≤ 18446744073709551615) :
    Calls Try.prog 44 #[.int .i64 i, .pointer (some a), .pointer (some b), .pointer (some c)] w fun e w' => (∃ v, e = .returned v) ∧ w' = (w.setCell a (.int .i64 (revPut h n o i))).drew := by
  go_enter Try.func44, Try.ntmps44
  go_wp2
  go_region
  all_goals (go_end0; exact ⟨⟨_, rfl⟩, rfl⟩)

set_option maxHeartbeats 2000000 in
theorem geo_Reverse.calls (a0 a1 : Int) (r1 r2 : Int) (w : World) (h : geo_Reverse.f a0 a1 = some (r1, r2)) :
    Calls Try.prog 17 #[.int .i64 a0, .int .u64 a1] w fun e w' => e = .returned (.tuple #[.int .i64 r1, .int .i64 r2]) ∧ Below w.heap.size w w' := by
  have hmf : ∀ (fn : Fn) (first cap : Array Value) (w : World), (Instr.makeFunc fn first cap).run Try.prog w = .ok (.func fn first cap) w := fun _ _ _ _ => rfl
  have hh : 0 ≤ a1 ∧ a1 ≤ 18446744073709551615 ∧ (if isHigh a0 = true then (revGo a0 a1 a0.toNat 0 0, (0 : Int)) else (0, 2)) = (r1, r2) := by
    unfold geo_Reverse.f at h
    split at h
    · split at h
      · exact ⟨by assumption, by assumption, Option.some.inj h⟩
      · cases h
    · cases h
  clear h
  obtain ⟨n0, n1, hr⟩ := hh
  cases hh : isHigh a0 with
  | false =>
    rw [hh, if_neg (by decide)] at hr
    injection hr with e1 e2
    subst e1 e2
    have HA := Aside0.mk (asked_low 0 hh [])
    clear hh
    go_enter Try.func17, Try.ntmps17
    go_wp2_with (go_at_call 41; refine (geo_asked.calls 1 _ none 0 [] 2 _ ?side1 (Nat.le_refl _) HA.out).mono ?_; (case side1 => exact Kd.C_nil _ _); rintro e w2 ⟨rfl, ⟨nd, rfl⟩⟩)
    go_ret2
    exact ⟨rfl, pw_below_drewN (((Below.refl _ _).alloc (Nat.le_refl _) _).alloc (by simp) _) _⟩
  | true =>
    rw [hh, if_pos rfl] at hr
    injection hr with e1 e2
    subst e1 e2
    have HA := Aside0.mk (asked_nil 0 hh)
    obtain ⟨h1, h6⟩ := (isHigh_iff a0).1 hh
    clear hh
    go_enter Try.func17, Try.ntmps17
    go_wp2_with (go_at_call 41; refine (geo_asked.calls 1 _ none 0 [] 0 _ ?side1 (Nat.le_refl _) HA.out).mono ?_; (case side1 => exact Kd.C_nil _ _); rintro e w2 ⟨rfl, ⟨nd, rfl⟩⟩)
    go_loopg [17] a0.toNat (fun kq v w' => ∃ (k : Nat) (o : Int), v = .int .i64 k ∧ Aside0 (kq + k = a0.toNat) ∧ Aside0 (revGo a0 a1 kq k o = revGo a0 a1 a0.toNat 0 0) ∧ w'.cell? ⟨w.heap.size, 0, none⟩ = some (.int .i64 a0) ∧ w'.cell? ⟨w.heap.size + 1, 0, none⟩ = some (.int .u64 a1) ∧ w'.cell? ⟨w.heap.size + 2, 0, none⟩ = some (.int .i64 o) ∧ w'.frozen? ⟨w.heap.size + 2, 0, none⟩ = false ∧ Aside0 (Below w.heap.size w w'))
    case atStart => exact ⟨0, 0, rfl, ⟨rfl⟩, ⟨rfl⟩, by go_simp, by go_simp, by go_simp, by go_simp, ⟨(pw_below_drewN ((((Below.refl _ _).alloc (Nat.le_refl _) _).alloc (by simp) _).alloc (by simp; omega) _) _)⟩⟩
    case round =>
      obtain ⟨k, o, rfl, HK, HS, hc1, hc2, hc3, hf3, HB⟩ := hrel
      by_cases hk : (k : Int) < a0
      · obtain ⟨m, rfl⟩ : ∃ m, gk = m + 1 := ⟨gk - 1, by have := HK.out; omega⟩
        have HN : Aside0 (revGo a0 a1 m ((k + 1 : Nat) : Int) (revPut a0 a1 o k) = revGo a0 a1 a0.toNat 0 0) := ⟨by rw [← HS.out, revGo]; rfl⟩
        have k0 : 0 ≤ (k : Int) := by omega
        have hw := Aside0.mk (world_set (W := wr) hc3 hf3 (.int .i64 (revPut a0 a1 o k)))
        have g1 : ((wr.setCell ⟨w.heap.size + 2, 0, none⟩ (.int .i64 (revPut a0 a1 o k))).drew).cell? ⟨w.heap.size, 0, none⟩ = some (.int .i64 a0) := (cell_far1 wr _ (by simp) _).trans hc1
        have g2 : ((wr.setCell ⟨w.heap.size + 2, 0, none⟩ (.int .i64 (revPut a0 a1 o k))).drew).cell? ⟨w.heap.size + 1, 0, none⟩ = some (.int .u64 a1) := (cell_far1 wr _ (by simp) _).trans hc2
        have G3 := hw.out
        have GB : Aside0 (Below w.heap.size w ((wr.setCell ⟨w.heap.size + 2, 0, none⟩ (.int .i64 (revPut a0 a1 o k))).drew)) := ⟨below_drew (HB.out.setCell (p := ⟨w.heap.size + 2, 0, none⟩) (by simp) _)⟩
        clear hw
        go_wp2_with (go_at_call 44; refine (geo_Reverse1.any _ _ _ _ _ _ _ _ hc3 hf3 hc2 hc1 h1 h6 k0 hk n0 n1).mono ?_; rintro e w2 ⟨⟨v, rfl⟩, rfl⟩)
        go_roundg m
        case measure => omega
        case rel => exact ⟨k + 1, _, by go_num, ⟨by have := HK.out; omega⟩, HN, g1, g2, G3.1, G3.2, GB⟩
      · have HN : Aside0 (o = revGo a0 a1 a0.toNat 0 0) := ⟨by
          have h0 : gk = 0 := by have := HK.out; omega
          subst h0
          exact HS.out⟩
        go_wp2
        go_ret2
        exact ⟨by rw [← HN.out]; rfl, HB.out⟩
end Go.Proofs.Ytncpilnallghpaa
