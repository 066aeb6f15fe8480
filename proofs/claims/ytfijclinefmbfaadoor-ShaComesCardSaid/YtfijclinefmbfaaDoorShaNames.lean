/-
ShaNames: the law's walk.
-/
import Derived.Test.YtfijclinefmbfaaDoorShaEx
namespace Go.Proofs.YtfijclinefmbfaaDoor
open Go.RowKit Go.Proofs.YtfijclinefmbfaaDoorW.PrintWords Go.Proofs.YtfijclinefmbfaaDoorW.PrintLast Go.Proofs.YtfijclinefmbfaaDoorW.PrintMore Go.Proofs.YtfijclinefmbfaaDoor.PAll
set_option linter.unusedVariables false
set_option linter.unusedSimpArgs false

theorem more_bad_cs (cs : Array Value) (hs : List Int) (R : Option Addr) (n c : Nat) (m : Int) (A : Option Addr) (n2 c2 : Nat) (hcs : cs = sumC hs R n c m) (hh : hs.length = 8) (hn : n ≤ 9223372036854775807) (hm : 0 ≤ m) (hb : checkA n m ≠ 0) (w : World) :
    Calls Tryd.prog 11 #[.agg cs, .slice A n2 c2] w fun e w' => e = .returned (.tuple #[.agg zeroSum, .int .i64 (checkA n m)]) ∧ Below w.heap.size w w' := by
  subst hcs
  exact more_bad hs R n c m A n2 c2 hh hn hm hb w
theorem more_many_cs (cs : Array Value) (hs : List Int) (R : Option Addr) (n c : Nat) (m : Int) (A : Option Addr) (n2 c2 : Nat) (hcs : cs = sumC hs R n c m) (hh : hs.length = 8) (hn : n ≤ 9223372036854775807) (hm : 0 ≤ m) (hb : checkA n m = 0) (hn2 : n2 ≤ 1000000) (hmany : (n2 : Int) ≥ 72057594037927936 - m) (w : World) :
    Calls Tryd.prog 11 #[.agg cs, .slice A n2 c2] w fun e w' => e = .returned (.tuple #[.agg zeroSum, .int .i64 4]) ∧ Below w.heap.size w w' := by
  subst hcs
  exact more_many hs R n c m A n2 c2 hh hn hm hb hn2 hmany w
theorem more_ok_cs (cs : Array Value) (hs : List Int) (R : Option Addr) (rc : Nat) (l1 : List Int) (m : Int) (A : Option Addr) (c : Nat) (l2 : List Int) (hcs : cs = sumC hs R l1.length rc m) (hh : hs.length = 8) (w : World) (h1 : Kd.C (Kd.int .u8) w R l1.length l1) (hc1 : l1.length ≤ rc) (h2 : Kd.C (Kd.int .u8) w A l2.length l2) (hc2 : l2.length ≤ c) (hlen : l1.length + l2.length ≤ 1000000) (hk : Ktab w)
    (hm : 0 ≤ m) (hb : checkA l1.length m = 0) (hmany : ¬ (l2.length : Int) ≥ 72057594037927936 - m) :
    Calls Tryd.prog 11 #[.agg cs, .slice A l2.length c] w fun e w' => ∃ R' c', e = .returned (.tuple #[.agg (sumC (comeA hs (l1 ++ l2)).1 R' (comeA hs (l1 ++ l2)).2.length c' ((m + l2.length) % 18446744073709551616)), .int .i64 0]) ∧ (comeA hs (l1 ++ l2)).2.length ≤ c' ∧ Kd.R (Kd.int .u8) 5 w' w.heap.size (fun _ => True) (.slice R' (comeA hs (l1 ++ l2)).2.length c') (comeA hs (l1 ++ l2)).2 ∧ Below w.heap.size w w' := by
  subst hcs
  exact more_ok hs R rc l1 m A c l2 hh w h1 hc1 h2 hc2 hlen hk hm hb hmany
theorem end_bad_cs (cs : Array Value) (hs : List Int) (R : Option Addr) (n c : Nat) (m : Int) (hcs : cs = sumC hs R n c m) (hh : hs.length = 8) (hn : n ≤ 9223372036854775807) (hm : 0 ≤ m) (hb : checkA n m ≠ 0) (w : World) :
    Calls Tryd.prog 13 #[.agg cs] w fun e w' => e = .returned (.tuple #[.agg zeroDigest, .int .i64 (checkA n m)]) ∧ Below w.heap.size w w' := by
  subst hcs
  exact end_bad hs R n c m hh hn hm hb w
abbrev zeroS : Array Value := #[.int .u32 0, .int .u32 0, .int .u32 0, .int .u32 0, .int .u32 0, .int .u32 0, .int .u32 0, .int .u32 0, .slice none 0 0, .int .u64 0]
theorem zeroS_eq : zeroSum = zeroS := rfl
abbrev zeroD : Array Value := #[.int .u8 0, .int .u8 0, .int .u8 0, .int .u8 0, .int .u8 0, .int .u8 0, .int .u8 0, .int .u8 0, .int .u8 0, .int .u8 0, .int .u8 0, .int .u8 0, .int .u8 0, .int .u8 0, .int .u8 0, .int .u8 0, .int .u8 0, .int .u8 0, .int .u8 0, .int .u8 0, .int .u8 0, .int .u8 0, .int .u8 0, .int .u8 0, .int .u8 0, .int .u8 0, .int .u8 0, .int .u8 0, .int .u8 0, .int .u8 0, .int .u8 0, .int .u8 0]
theorem zeroD_eq : zeroDigest = zeroD := rfl

set_option maxHeartbeats 4000000 in
set_option maxRecDepth 100000 in
theorem names_calls (w : World) (hk : Ktab w) : Calls Tryd.prog 5 #[] w fun e w' => e = .returned (.bool true) ∧ Below w.heap.size w w' := by
  have HK := Aside0.mk hk
  clear hk
  have hconv : ∀ W : World, (convert 22 22 (.slice (some ⟨W.heap.size, 0, none⟩) 56 56)).run Tryd.prog (W.alloc (.cells #[.int .u8 97, .int .u8 98, .int .u8 99, .int .u8 100, .int .u8 98, .int .u8 99, .int .u8 100, .int .u8 101, .int .u8 99, .int .u8 100, .int .u8 101, .int .u8 102, .int .u8 100, .int .u8 101, .int .u8 102, .int .u8 103, .int .u8 101, .int .u8 102, .int .u8 103, .int .u8 104, .int .u8 102, .int .u8 103, .int .u8 104, .int .u8 105, .int .u8 103, .int .u8 104, .int .u8 105, .int .u8 106, .int .u8 104, .int .u8 105, .int .u8 106, .int .u8 107, .int .u8 105, .int .u8 106, .int .u8 107, .int .u8 108, .int .u8 106, .int .u8 107, .int .u8 108, .int .u8 109, .int .u8 107, .int .u8 108, .int .u8 109, .int .u8 110, .int .u8 108, .int .u8 109, .int .u8 110, .int .u8 111, .int .u8 109, .int .u8 110, .int .u8 111, .int .u8 112, .int .u8 110, .int .u8 111, .int .u8 112, .int .u8 113] 5)) = .ok (.slice (some ⟨W.heap.size, 0, none⟩) 56 56) (W.alloc (.cells #[.int .u8 97, .int .u8 98, .int .u8 99, .int .u8 100, .int .u8 98, .int .u8 99, .int .u8 100, .int .u8 101, .int .u8 99, .int .u8 100, .int .u8 101, .int .u8 102, .int .u8 100, .int .u8 101, .int .u8 102, .int .u8 103, .int .u8 101, .int .u8 102, .int .u8 103, .int .u8 104, .int .u8 102, .int .u8 103, .int .u8 104, .int .u8 105, .int .u8 103, .int .u8 104, .int .u8 105, .int .u8 106, .int .u8 104, .int .u8 105, .int .u8 106, .int .u8 107, .int .u8 105, .int .u8 106, .int .u8 107, .int .u8 108, .int .u8 106, .int .u8 107, .int .u8 108, .int .u8 109, .int .u8 107, .int .u8 108, .int .u8 109, .int .u8 110, .int .u8 108, .int .u8 109, .int .u8 110, .int .u8 111, .int .u8 109, .int .u8 110, .int .u8 111, .int .u8 112, .int .u8 110, .int .u8 111, .int .u8 112, .int .u8 113] 5 (56, 57))) := fun W =>
    Lib.run_convert_bytes_const (P := Tryd.prog) W 22 5 #[.int .u8 97, .int .u8 98, .int .u8 99, .int .u8 100, .int .u8 98, .int .u8 99, .int .u8 100, .int .u8 101, .int .u8 99, .int .u8 100, .int .u8 101, .int .u8 102, .int .u8 100, .int .u8 101, .int .u8 102, .int .u8 103, .int .u8 101, .int .u8 102, .int .u8 103, .int .u8 104, .int .u8 102, .int .u8 103, .int .u8 104, .int .u8 105, .int .u8 103, .int .u8 104, .int .u8 105, .int .u8 106, .int .u8 104, .int .u8 105, .int .u8 106, .int .u8 107, .int .u8 105, .int .u8 106, .int .u8 107, .int .u8 108, .int .u8 106, .int .u8 107, .int .u8 108, .int .u8 109, .int .u8 107, .int .u8 108, .int .u8 109, .int .u8 110, .int .u8 108, .int .u8 109, .int .u8 110, .int .u8 111, .int .u8 109, .int .u8 110, .int .u8 111, .int .u8 112, .int .u8 110, .int .u8 111, .int .u8 112, .int .u8 113] 56 56 Tryd.underlying22 Tryd.underlying5
  go_enter Tryd.func5, Tryd.ntmps5
  have hmk : ∀ W : World, ∃ o, (Instr.makeSlice 22 (.int .i64 64) (.int .i64 64)).run Tryd.prog W = .ok (.slice (some ⟨W.heap.size, 0, none⟩) 64 64) (W.alloc o) := fun W => ⟨_, print_make (P := Tryd.prog) 22 5 .u8 1 Tryd.underlying22 info5 (by decide) 64 (by decide) W⟩
  obtain ⟨mk, hmk⟩ : ∃ mk : World → Obj, ∀ W : World, (Instr.makeSlice 22 (.int .i64 64) (.int .i64 64)).run Tryd.prog W = .ok (.slice (some ⟨W.heap.size, 0, none⟩) 64 64) (W.alloc (mk W)) := ⟨fun W => (hmk W).choose, fun W => (hmk W).choose_spec⟩
  repeat (first
    | (go_at_call 11; (with_reducible refine (more_bad_cs _ (List.replicate 8 0) (some ⟨w.heap.size, 0, none⟩) 1 1 0 none 0 0 ?hcs rfl (by decide) (by decide) (by decide) _).mono ?_); (case hcs => rfl); rintro e2 w2 ⟨rfl, hb2⟩; rw [show checkA 1 0 = 8 from rfl, zeroS_eq]; have HB2 := Aside0.mk (bl (below_alloc (Below.refl _ _) _) hb2); clear hb2; dsimp only)
    | (go_at_call 11; (with_reducible refine (more_many_cs _ (List.replicate 8 0) none 0 0 72057594037927872 _ 64 64 ?hcs rfl (by decide) (by decide) (by decide) (by decide) (by decide) _).mono ?_); (case hcs => rfl); rintro e3 w3 ⟨rfl, hb3⟩; rw [zeroS_eq]; have HB3 := Aside0.mk (bl (below_alloc (below_alloc HB2.out _) _) hb3); clear hb3; dsimp only)
    | (go_at_call 13; (with_reducible refine (end_bad_cs _ (List.replicate 8 0) none 0 0 72057594037927936 ?hcs rfl (by decide) (by decide) (by decide) _).mono ?_); (case hcs => rfl); rintro e4 w4 ⟨rfl, hb4⟩; rw [show checkA 0 72057594037927936 = 8 from rfl, zeroD_eq]; have HB4 := Aside0.mk (bl (below_alloc HB3.out _) hb4); have HG4 := Aside0.mk (heap_alloc_new w4 (.cells zeroD 24)); clear hb4; dsimp only)
    | ((with_reducible refine wpList_store 24 (.tmp 5) (.tmp 22) w4.heap.size _ _ zeroD rfl rfl ?hx ?hy HG4.out ?hs ?hi ?h1 ?_); (case h1 => exact one_u8 (List.replicate 32 0)); (case hs => rfl); (case hx => rfl); (case hy => rfl); (case hi => rfl); intro w4b q1 q2 q3 q4; have HB4b := Aside0.mk (q3 w.heap.size w (below_alloc HB4.out _) HB4.out.size); clear q1 q2 q3 q4)
    | (go_at_call 20; (with_reducible refine (alive_calls _ (HK.out.below HB4b.out)).mono ?_); rintro e5 w5 ⟨rfl, hb5⟩; have HB5 := Aside0.mk (bl HB4b.out hb5); clear hb5; dsimp only)
    | (go_at_call 8; (with_reducible refine (of_parts1 _ (w5.heap.size + 1) (0, 0) 22 (some ⟨w5.heap.size, 0, none⟩) 56 [97, 98, 99, 100, 98, 99, 100, 101, 99, 100, 101, 102, 100, 101, 102, 103, 101, 102, 103, 104, 102, 103, 104, 105, 103, 104, 105, 106, 104, 105, 106, 107, 105, 106, 107, 108, 106, 107, 108, 109, 107, 108, 109, 110, 108, 109, 110, 111, 109, 110, 111, 112, 110, 111, 112, 113] ?cG ?cA (by decide) (by decide) ?cK).mono ?_); (case cG => exact (alloc2 w5 _ _).2); (case cA => exact Kd.F_now (F_row .u8 [97, 98, 99, 100, 98, 99, 100, 101, 99, 100, 101, 102, 100, 101, 102, 103, 101, 102, 103, 104, 102, 103, 104, 105, 103, 104, 105, 106, 104, 105, 106, 107, 105, 106, 107, 108, 106, 107, 108, 109, 107, 108, 109, 110, 108, 109, 110, 111, 109, 110, 111, 112, 110, 111, 112, 113] (ok := fun _ => True) (by simp) trivial (alloc2 w5 _ _).1)); (case cK => exact HK.out.below (below_alloc (below_alloc HB5.out _) _)); rintro e6 w6 ⟨rfl, hb6⟩; have HB6 := Aside0.mk (bl (below_alloc (below_alloc HB5.out _) _) hb6); clear hb6; dsimp only)
    | (go_at_call 21; (with_reducible refine (hex_of [97, 98, 99, 100, 98, 99, 100, 101, 99, 100, 101, 102, 100, 101, 102, 103, 101, 102, 103, 104, 102, 103, 104, 105, 103, 104, 105, 106, 104, 105, 106, 107, 105, 106, 107, 108, 106, 107, 108, 109, 107, 108, 109, 110, 108, 109, 110, 111, 109, 110, 111, 112, 110, 111, 112, 113] w6).mono ?_); rintro e7 w7 ⟨rfl, hb7⟩; rw [str_long]; have HB7 := Aside0.mk (bl HB6.out hb7); clear hb7; dsimp only)
    | (go_at_call 18; (with_reducible refine (begin_calls _).mono ?_); rintro e8 w8 ⟨rfl, hb8⟩; have HB8 := Aside0.mk (bl HB7.out hb8); clear hb8; dsimp only)
    | (go_at_call 16; (with_reducible refine (check_calls H0 none 0 0 0 rfl (by decide) (by decide) _).mono ?_); rintro e9 w9 ⟨rfl, hb9⟩; rw [show checkA 0 0 = 0 from rfl]; have HB9 := Aside0.mk (bl HB8.out hb9); clear hb9; dsimp only)
    | go_values | go_guarded | go_step | go_upon | go_back)
  go_ret
  exact ⟨rfl, HB9.out⟩
end Go.Proofs.YtfijclinefmbfaaDoor
