/-
bits.Mul of one, slices.Repeat of one number, bucket.sizes.
-/
import Derived.Test.YtknmokpnkcckeaaBkCheck
import Derived.Test.YtknmokpnkcckeaaHandSlot
import Derived.Deep.QuietTactic
import Derived.Test.YtknmokpnkcckeaaBkRest
namespace Go.Proofs.Ytknmokpnkcckeaa
open Go.RowKit Go.Proofs.YtknmokpnkcckeaaW.PrintWords Go.Proofs.YtknmokpnkcckeaaW.PrintLast Go.Proofs.YtknmokpnkcckeaaW.PrintMore Go.Proofs.Ytknmokpnkcckeaa.PAll
set_option linter.unusedVariables false
set_option linter.unusedSimpArgs false

set_option maxHeartbeats 8000000 in
set_option maxRecDepth 100000 in
theorem mul64_calls (m : Fin 5) (w : World) :
    Calls Try.prog 98 #[.int .u64 1, .int .u64 (m.val : Int)] w fun e w' => e = .returned (.tuple #[.int .u64 0, .int .u64 (m.val : Int)]) ∧ w' = w := by
  go_enter Try.func98, Try.ntmps98
  have hm : m = 0 ∨ m = 1 ∨ m = 2 ∨ m = 3 ∨ m = 4 := by revert m; decide
  rcases hm with rfl | rfl | rfl | rfl | rfl
  all_goals
    repeat (first | go_values | go_guarded | go_step | go_upon | go_back)
    go_ret2
    exact ⟨rfl, rfl⟩
set_option maxHeartbeats 8000000 in
set_option maxRecDepth 100000 in
theorem mul_calls (m : Nat) (h4 : m ≤ 4) (w : World) :
    Calls Try.prog 88 #[.int .u64 1, .int .u64 (m : Int)] w fun e w' => e = .returned (.tuple #[.int .u64 0, .int .u64 (m : Int)]) ∧ w' = w := by
  go_enter Try.func88, Try.ntmps88
  repeat (first
    | (go_at_call 98; (with_reducible refine (mul64_calls ⟨m, by omega⟩ _).mono ?_); rintro e w2 ⟨rfl, rfl⟩; (try dsimp only))
    | go_values | go_guarded | go_step | go_upon | go_back)
  go_ret2
  exact ⟨rfl, rfl⟩
section
variable {P : Program} {ops : Array Oper} {rest : List Oper} {op : Oper} {a : Act} {w : World} {Q : Exit → Act → World → Prop}
theorem wpList_copyB (hgd : op.guard = none) (d s : Operand) (t t' : TypeId) (ho : op.op = .call { callee := .builtin .copy, args := #[d, s], argTypes := #[t, t'] }) (v u : Value) (hd : a.eval d = v) (hs : a.eval s = u) {v' : Value} {w' : World}
    (hr : (Builtin.copy_ #[t, t'] op.type #[v, u]).run P w = .ok v' w') (h : wpList P ops Q rest (a.put op.dst v') w') : wpList P ops Q (op :: rest) a w := by
  refine wpList_plain hgd fun K hK => ?_
  exact op_copy d s t t' ho v u hd hs hr (hK _ _ h)
end
theorem rep_copy (n k m : Nat) (q z : Value) (tail : List Value) (hk : n + k ≤ m) : (List.replicate n q ++ (List.replicate (m - n) z ++ tail)).take n ++ List.replicate k q ++ (List.replicate n q ++ (List.replicate (m - n) z ++ tail)).drop (n + k) = List.replicate (n + k) q ++ (List.replicate (m - (n + k)) z ++ tail) := by
  have h1 : (List.replicate n q ++ (List.replicate (m - n) z ++ tail)).take n = List.replicate n q := by
    rw [List.take_append_of_le_length (by simp), List.take_of_length_le (by simp)]
  have h2 : (List.replicate n q ++ (List.replicate (m - n) z ++ tail)).drop (n + k) = List.replicate (m - (n + k)) z ++ tail := by
    rw [List.drop_append, List.drop_of_length_le (by simp), List.nil_append, List.length_replicate, show n + k - n = k by omega, List.drop_append_of_le_length (by simp; omega), List.drop_replicate, show m - n - k = m - (n + k) by omega]
  rw [h1, h2, List.replicate_append_replicate]
theorem rep_first {W W' : World} {g m t : Nat} {q : Int} {tail : List Value} (h : W.heap[g]? = some (.cells ⟨List.replicate m (.int .i64 0) ++ tail⟩ t (0, 0))) (h1 : 1 ≤ m)
    (hw : W.setRow g ((⟨List.replicate m (.int .i64 0) ++ tail⟩ : Array Value).toList.take 0 ++ [Value.int .i64 q] ++ (⟨List.replicate m (.int .i64 0) ++ tail⟩ : Array Value).toList.drop (0 + [Value.int .i64 q].length)).toArray = W') :
    W'.heap[g]? = some (.cells ⟨List.replicate 1 (.int .i64 q) ++ (List.replicate (m - 1) (.int .i64 0) ++ tail)⟩ t (0, 0)) := by
  have hc1 := rep_copy 0 1 m (.int .i64 q) (.int .i64 0) tail (by omega)
  simp only [Nat.sub_zero, List.replicate_zero, List.nil_append, Nat.zero_add, List.replicate_one] at hc1
  rw [← hw, setRow_heap _ g _ _ _ _ h]
  simp only [Nat.zero_add, List.length_singleton, hc1]
  rfl
theorem rep_next {W W' : World} {g n k m t : Nat} {q : Int} {tail : List Value} (h : W.heap[g]? = some (.cells ⟨List.replicate n (.int .i64 q) ++ (List.replicate (m - n) (.int .i64 0) ++ tail)⟩ t (0, 0))) (hk : n + k ≤ m)
    (hw : W.setRow g ((⟨List.replicate n (.int .i64 q) ++ (List.replicate (m - n) (.int .i64 0) ++ tail)⟩ : Array Value).toList.take n ++ List.replicate k (Value.int .i64 q) ++ (⟨List.replicate n (.int .i64 q) ++ (List.replicate (m - n) (.int .i64 0) ++ tail)⟩ : Array Value).toList.drop (n + (List.replicate k (Value.int .i64 q)).length)).toArray = W') :
    W'.heap[g]? = some (.cells ⟨List.replicate (n + k) (.int .i64 q) ++ (List.replicate (m - (n + k)) (.int .i64 0) ++ tail)⟩ t (0, 0)) := by
  have hc1 := rep_copy n k m (.int .i64 q) (.int .i64 0) tail hk
  rw [← hw, setRow_heap _ g _ _ _ _ h]
  simp only [List.length_replicate, hc1]
theorem rep_src {W : World} {g n k m t : Nat} {q : Int} {tail : List Value} (h : W.heap[g]? = some (.cells ⟨List.replicate n (.int .i64 q) ++ (List.replicate (m - n) (.int .i64 0) ++ tail)⟩ t (0, 0))) (hk : k ≤ n) {j : Nat} {u : Value} (hu : (List.replicate k (Value.int .i64 q))[j]? = some u) : W.cell? ((⟨g, 0, none⟩ : Addr).add j) = some u := by
  have hj : j < k := by have := (List.getElem?_eq_some_iff.1 hu).1; simpa using this
  rw [add_at, blk_cell h]
  simp only [Nat.zero_add, List.getElem?_toArray]
  rw [List.getElem?_append_left (by simp; omega)]
  rw [List.getElem?_replicate, if_pos hj] at hu
  rw [List.getElem?_replicate, if_pos (by omega)]
  exact hu
theorem wrap_nn (n k : Nat) (h : n + k ≤ 4) : wrap64 ((n : Int) + (k : Int)) = ((n + k : Nat) : Int) := by unfold wrap64; omega
theorem rep_less {n k m : Nat} {z : Int} (hz : z = ((n + k : Nat) : Int)) (hk : 1 ≤ k) (hm : n + k ≤ m) : m - (intOf (.int .i64 z)).toNat < m - (intOf (.int .i64 (n : Int))).toNat := by
  subst hz
  simp only [intOf, Int.toNat_natCast]
  omega
theorem size_in {m : Nat} {l1 : Int} (h4 : m ≤ 4) (hl1 : 1 ≤ l1) (hl32 : l1 ≤ 32) : -9223372036854775808 ≤ (m : Int) * (8 + l1) ∧ (m : Int) * (8 + l1) ≤ 9223372036854775807 := by
  have h : m = 0 ∨ m = 1 ∨ m = 2 ∨ m = 3 ∨ m = 4 := by omega
  rcases h with rfl | rfl | rfl | rfl | rfl <;> omega
theorem info3I : (Try.prog.info? 3).map (·.size) = some 1 := by kernel_rfl
theorem info3B : (Try.prog.info? 3).map (fun i => (i.zero, i.size, i.bytes)) = some (some (.int .i64 0), 1, 8) := by kernel_rfl
theorem setRow_below {w0 W : World} {B g : Nat} (h : Below B w0 W) (hb : B ≤ g) (cur : Array Value) : Below B w0 (W.setRow g cur) :=
  ⟨h.os, h.tape, h.output, by have := h.size; simp [World.setRow]; exact this, fun k hk => (setRow_other _ g _ _ (by omega)).trans (h.block k hk)⟩

theorem made_ints {w : World} {base m : Nat} {ok : Nat → Prop} {v : Value} (h : Kd.R (Kd.int .i64) 3 w base ok v (List.replicate (m : Int).toNat 0)) (hm : 1 ≤ m) : ∃ g c tail, v = .slice (some ⟨g, 0, none⟩) m c ∧ base ≤ g ∧ m ≤ c ∧ c ≤ maxLen ∧ m + tail.length = c ∧ w.heap[g]? = some (.cells ⟨List.replicate m (.int .i64 0) ++ tail⟩ 3 (0, 0)) := by
  have ho := Kd.own_of_R (enc := Value.int .i64) (h1 := fun _ => rfl) h
  rw [Int.toNat_natCast, List.length_replicate] at ho
  rcases ho.2 with ⟨hv, hn⟩ | ⟨g, cap, cur, hv, hb, hg, hc1, hc2, hc3, htk⟩
  · omega
  · rw [Nat.mul_one] at hc3 htk
    refine ⟨g, cap, cur.toList.drop m, hv, hb, hc1, hc2, by rw [List.length_drop, Array.length_toList]; omega, ?_⟩
    have e : encs (Value.int .i64) (List.replicate m 0) = List.replicate m (.int .i64 0) := by simp [encs]
    rw [hg, ← e, ← htk, List.take_append_drop]
set_option maxHeartbeats 8000000 in
set_option maxRecDepth 100000 in
theorem rep_calls (m : Nat) (h1 : 1 ≤ m) (h4 : m ≤ 4) (q : Int) (g0 c0 : Nat) (w : World) (hr : w.heap[g0]? = some (.cells #[.int .i64 q] 3 (0, 0))) :
    Calls Try.prog 75 #[.slice (some ⟨g0, 0, none⟩) 1 1, .int .i64 (m : Int)] w fun e w' => ∃ v, e = .returned v ∧ Kd.R (Kd.int .i64) 3 w' w.heap.size (fun _ => True) v (List.replicate m q) ∧ Below w.heap.size w w' := by
  have HR := Aside0.mk hr
  have h43 : (m : Int) ≤ 4 := by omega
  have h13 : (1 : Int) ≤ (m : Int) := by omega
  have hd0 : decide ((m : Int) < 0) = false := decide_eq_false (by omega)
  have hd1 : decide ((m : Int) > 9223372036854775807) = false := decide_eq_false (by omega)
  have hw1 : IntKind.u64.wrap (m : Int) = (m : Int) := by show (m : Int) % 18446744073709551616 = _; omega
  have hw2 : IntKind.i64.wrap (m : Int) = (m : Int) := IntWalk.i64_in _ (by omega)
  clear hr
  go_enter Try.func75, Try.ntmps75
  repeat (first
    | (go_at_call 88; (with_reducible refine (mul_calls m h4 _).mono ?_); rintro e w2 ⟨rfl, rfl⟩; (try dsimp only))
    | ((with_reducible refine gate_dst (N := 30) rfl ?_); refine Kd.R_make (Kd.int .i64) (w0 := w2) w2.heap.size 3 rfl (N := 30) rfl 72 (.tmp 29) (.tmp 29) rfl (m : Int) rfl rfl Try.underlying72 (.int .i64 0) 8 info3B rfl (by decide) (by decide) 0 (ok := fun _ => True) (okp := fun _ => True) rfl (fun _ h => h) trivial (by omega) (by omega) (Below.refl _ _) (Nat.le_refl _) ?_; intro v6 w6 ho hb hg hat; obtain ⟨g, cc, tail, rfl, hgb, hcc, hcm, htl, hblk⟩ := made_ints ho h1; have HBLK := Aside0.mk hblk; have HB6 := Aside0.mk hb; have HR6 := Aside0.mk (blk_below HR.out hb); clear ho hb hg hat hblk)
    | (skip; refine wpList_copyB rfl (.tmp 31) (.tmp 32) 72 72 rfl (.slice (some ⟨g, 0, none⟩) m cc) (.slice (some ⟨g0, 0, none⟩) 1 1) rfl rfl (run_copy_row _ _ _ _ _ 3 g 0 m cc ⟨g0, 0, none⟩ 1 1 _ 3 [.int .i64 q] Try.underlying72 info3I HBLK.out (by show 1 = min 1 m; omega) (fun j u hu => by cases j with | zero => (cases hu; exact (blk_cell HR6.out 0).trans (by simp)) | succ j => cases hu) (by simp; omega) (fun u hu => by cases List.mem_singleton.1 hu; rfl)) ?_; generalize hw7 : World.setRow w6 g _ = w7; have HG := Aside0.mk (rep_first HBLK.out h1 hw7); have HB : Aside0 (Below w2.heap.size w2 w7) := ⟨hw7 ▸ setRow_below HB6.out hgb _⟩; clear hw7)
    | go_values | go_guarded | go_step | go_upon | go_back)
  go_loopw [8] (fun v wr => ∃ n : Nat, v = .int .i64 n ∧ 1 ≤ n ∧ n ≤ m ∧ Aside0 (wr.heap[g]? = some (.cells ⟨List.replicate n (.int .i64 q) ++ (List.replicate (m - n) (.int .i64 0) ++ tail)⟩ 3 (0, 0))) ∧ Aside0 (Below w2.heap.size w2 wr)) (fun v _ => m - (intOf v).toNat)
  case atStart => exact ⟨1, rfl, Nat.le_refl _, h1, HG, HB⟩
  case round =>
    clear HG HB
    obtain ⟨n, rfl, hn1, hnm, HG, HB⟩ := hrel
    have hn3 : (1 : Int) ≤ (n : Int) := by omega
    by_cases hlt : n < m
    · have hd2 : decide ((n : Int) < (m : Int)) = true := decide_eq_true (by omega)
      have hlt2 : (n : Int) < (m : Int) := by omega
      have hlc : (m : Int) ≤ (cc : Int) := by omega
      obtain ⟨kk, hkk⟩ : ∃ kk, kk = Nat.min n (m - n) := ⟨_, rfl⟩
      have HKK := Aside0.mk hkk
      have hncc : n ≤ cc := by omega
      have hcn : ¬ cc = n := by omega
      have hkn : kk ≤ n := by rw [hkk]; show min n (m - n) ≤ n; omega
      have hkm : n + kk ≤ m := by rw [hkk]; show n + min n (m - n) ≤ m; omega
      have hk1 : 1 ≤ kk := by rw [hkk]; show 1 ≤ min n (m - n); omega
      clear hkk
      go_wp2
      refine start_ (n := 10) (S := fun w' => w'.heap[g]? = some (.cells ⟨List.replicate n (Value.int .i64 q) ++ (List.replicate (m - n) (Value.int .i64 0) ++ tail)⟩ 3 (0, 0)) ∧ Below w2.heap.size w2 w') (ds := [7]) #[false, false, false, false, false, false, false, false, false, false] (by kernel_rfl) rfl rfl ⟨HG.out, below_drew HB.out⟩ (fun hHeld => ?_)
      refine pure_ (i := 0) (N := (some 38)) (v := ?_) (a' := ?_) #[true, false, false, false, false, false, false, false, false, false] rfl rfl (by kernel_rfl) (fun _ _ _ h => h) (Or.inl ⟨by rfl, ?_⟩) ?_ ?_
      rotate_left
      · intro w'
        go_simp
        with_reducible rfl
      rotate_left
      · simp only [Act.put, List.setIfInBounds_toArray, List.set_cons_zero, List.set_cons_succ, i64_w, i32_w]
        rfl
      refine pure_ (i := 1) (N := (some 39)) (v := ?_) (a' := ?_) #[true, true, false, false, false, false, false, false, false, false] rfl rfl (by kernel_rfl) (fun _ _ _ h => h) (Or.inl ⟨by rfl, ?_⟩) ?_ ?_
      rotate_left
      · intro w'
        go_simp
        with_reducible rfl
      rotate_left
      · simp only [Act.put, List.setIfInBounds_toArray, List.set_cons_zero, List.set_cons_succ, i64_w, i32_w]
        rfl
      refine pure_ (i := 2) (N := (some 40)) (v := ?_) (a' := ?_) #[true, true, true, false, false, false, false, false, false, false] rfl rfl (by kernel_rfl) (fun _ _ _ h => h) (Or.inl ⟨by rfl, ?_⟩) ?_ ?_
      rotate_left
      · intro w'
        go_simp
        with_reducible rfl
      rotate_left
      · simp only [Act.put, List.setIfInBounds_toArray, List.set_cons_zero, List.set_cons_succ, i64_w, i32_w]
        rfl
      refine pure_ (i := 3) (N := (some 41)) (v := ?_) (a' := ?_) #[true, true, true, true, false, false, false, false, false, false] rfl rfl (by kernel_rfl) (fun _ _ _ h => h) (Or.inl ⟨by rfl, ?_⟩) ?_ ?_
      rotate_left
      · intro w'
        go_simp
        rfl
      rotate_left
      · simp only [Act.put, List.setIfInBounds_toArray, List.set_cons_zero, List.set_cons_succ, i64_w, i32_w]
        rfl
      refine pure_ (i := 4) (N := (some 42)) (v := ?_) (a' := ?_) #[true, true, true, true, true, false, false, false, false, false] rfl rfl (by kernel_rfl) (fun _ _ _ h => h) (Or.inl ⟨by rfl, ?_⟩) ?_ ?_
      rotate_left
      · intro w'
        go_simp
        with_reducible rfl
      rotate_left
      · simp only [Act.put, List.setIfInBounds_toArray, List.set_cons_zero, List.set_cons_succ, i64_w, i32_w]
        rfl
      refine pure_ (i := 5) (N := (some 43)) (v := ?_) (a' := ?_) #[true, true, true, true, true, true, false, false, false, false] rfl rfl (by kernel_rfl) (fun _ _ _ h => h) (Or.inl ⟨by rfl, ?_⟩) ?_ ?_
      rotate_left
      · intro w'
        go_simp
        with_reducible rfl
      rotate_left
      · simp only [Act.put, List.setIfInBounds_toArray, List.set_cons_zero, List.set_cons_succ, i64_w, i32_w]
        rfl
      refine pure_ (i := 6) (N := (some 44)) (v := ?_) (a' := ?_) #[true, true, true, true, true, true, true, false, false, false] rfl rfl (by kernel_rfl) (fun _ _ _ h => h) (Or.inl ⟨by rfl, ?_⟩) ?_ ?_
      rotate_left
      · intro w'
        go_simp
        rfl
      rotate_left
      · simp only [Act.put, List.setIfInBounds_toArray, List.set_cons_zero, List.set_cons_succ, i64_w, i32_w]
        rfl
      refine last_ (i := 7) (N := (some 45)) #[true, true, true, true, true, true, true, true, false, false] rfl rfl (by kernel_rfl) (by decide) (fun K hK => ?_)
      refine ite_wanted rfl ?_
      obtain ⟨z0, z1⟩ := hHeld
      refine op_copy (.tmp 41) (.tmp 44) 72 72 rfl (.slice (some ⟨g, n, none⟩) (m - n) (cc - n)) (.slice (some ⟨g, 0, none⟩) n cc) rfl rfl (run_copy_row _ _ 72 72 3 3 g n (m - n) (cc - n) ⟨g, 0, none⟩ n cc _ 3 (List.replicate kk (.int .i64 q)) Try.underlying72 info3I z0 (by rw [List.length_replicate, HKK.out]) (fun j u hu => rep_src z0 hkn hu) (by simp; omega) (fun u hu => by rw [List.eq_of_mem_replicate hu]; rfl)) ?_
      generalize hw7 : World.setRow _ g _ = w8
      have HG := Aside0.mk (rep_next z0 hkm hw7)
      have HB : Aside0 (Below w2.heap.size w2 w8) := ⟨hw7 ▸ setRow_below z1 hgb _⟩
      clear hw7 z0 z1
      refine hK.out _ _ ?_
      clear hK K
      refine norm_ (a' := ?_) ?_ ?_
      rotate_left
      · show Act.put _ (some 45) _ = _
        simp only [Act.put, List.setIfInBounds_toArray, List.set_cons_zero, List.set_cons_succ, i64_w, i32_w, goInt, List.length_replicate]
        rfl
      refine pure_ (i := 8) (N := (some 46)) (v := ?_) (a' := ?_) #[true, true, true, true, true, true, true, true, true, false] rfl rfl (by kernel_rfl) (fun _ _ _ h => h) (Or.inl ⟨by rfl, ?_⟩) ?_ ?_
      rotate_left
      · intro w'
        go_simp
        with_reducible rfl
      rotate_left
      · simp only [Act.put, List.setIfInBounds_toArray, List.set_cons_zero, List.set_cons_succ, i64_w, i32_w]
        rfl
      refine pure_ (i := 9) (N := (some 8)) (v := ?_) (a' := ?_) #[true, true, true, true, true, true, true, true, true, true] rfl rfl (by kernel_rfl) (fun _ _ _ h => h) (Or.inl ⟨by rfl, ?_⟩) ?_ ?_
      rotate_left
      · intro w'
        go_simp
        with_reducible rfl
      rotate_left
      · simp only [Act.put, List.setIfInBounds_toArray, List.set_cons_zero, List.set_cons_succ, i64_w, i32_w]
        rfl
      refine done_ (by kernel_rfl) ?_
      go_wp2
      exact ⟨⟨n + kk, congrArg _ (wrap_nn n kk (Nat.le_trans hkm h4)), Nat.le_trans hk1 (Nat.le_add_left _ _), hkm, HG, HB⟩, rep_less (wrap_nn n kk (Nat.le_trans hkm h4)) hk1 hkm⟩
    · have hd2 : decide ((n : Int) < (m : Int)) = false := decide_eq_false (by omega)
      have hnm2 : n = m := by omega
      subst hnm2
      go_wp2
      go_ret
      refine ⟨_, rfl, ?_, HB.out⟩
      have hg := HG.out
      rw [Nat.sub_self, List.replicate_zero, List.nil_append] at hg
      refine Kd.R_of_own (enc := Value.int .i64) (h1 := fun _ => rfl) ?_ (fun _ _ => trivial)
      rw [List.length_replicate]
      refine ⟨by simp [encs], .inr ⟨g, cc, _, rfl, hgb, hg, hcc, hcm, by simp; omega, ?_⟩⟩
      rw [Nat.mul_one]
      show List.take n (List.replicate n (Value.int .i64 q) ++ tail) = _
      rw [List.take_append_of_le_length (by simp), List.take_of_length_le (by simp)]
      simp [encs]
set_option maxHeartbeats 8000000 in
set_option maxRecDepth 100000 in
theorem sizes_calls (m : Nat) (h1 : 1 ≤ m) (h4 : m ≤ 4) (l0 l1 l2 l3 : Int) (w : World) (hl1 : 1 ≤ l1) (hl32 : l1 ≤ 32) (hl3 : l3 = 64 + (m : Int) * (8 + l1)) :
    Calls Try.prog 55 #[.agg #[.int .i64 l0, .int .i64 l1, .int .i64 l2, .int .i64 l3], .int .i64 (m : Int)] w fun e w' => ∃ v, e = .returned v ∧ Kd.R (Kd.int .i64) 3 w' w.heap.size (fun _ => True) v (List.replicate m (8 + l1) ++ [32, 32]) ∧ Below w.heap.size w w' := by
  have hw1 : IntKind.i64.wrap (l3 - 64) = (m : Int) * (8 + l1) := by rw [hl3, show 64 + (m : Int) * (8 + l1) - 64 = (m : Int) * (8 + l1) by omega]; exact IntWalk.i64_in _ (size_in h4 hl1 hl32)
  have hw1' : wrap64 (l3 - 64) = (m : Int) * (8 + l1) := (i64_w _).symm.trans hw1
  have hw2 : Int.tdiv ((m : Int) * (8 + l1)) (m : Int) = 8 + l1 := Int.mul_tdiv_cancel_left _ (by omega)
  have hw3 : IntKind.i64.wrap (8 + l1) = 8 + l1 := IntWalk.i64_in _ (by omega)
  have hw3' : wrap64 (8 + l1) = 8 + l1 := (i64_w _).symm.trans hw3
  have hm0 : ¬ (m : Int) = 0 := by omega
  clear hl3
  generalize 8 + l1 = q at *
  have HB0 := Aside0.mk (below_alloc (Below.refl w.heap.size w) (.cells #[.int .i64 l0, .int .i64 l1, .int .i64 l2, .int .i64 l3] 23))
  have hl := heap_alloc_new w (.cells #[.int .i64 l0, .int .i64 l1, .int .i64 l2, .int .i64 l3] 23)
  have hc3 := blk_cell hl 3
  have hq := heap_alloc_new (w.alloc (.cells #[.int .i64 l0, .int .i64 l1, .int .i64 l2, .int .i64 l3] 23)) (.cells #[.int .i64 q] 3)
  rw [World.size_alloc] at hq
  have HQ := Aside0.mk hq
  clear hq
  go_enter Try.func55, Try.ntmps55
  repeat (first
    | (go_at_call 75; (with_reducible refine (rep_calls m h1 h4 q (w.heap.size + 1) 1 _ HQ.out).mono ?_); rintro e2 w2 ⟨v2, rfl, hR2, hb2⟩; have HR2 := Aside0.mk (Kd.R_lower hR2 (show w.heap.size ≤ _ by simp; omega)); have HB2 := Aside0.mk (bl (below_alloc HB0.out (.cells #[.int .i64 q] 3)) hb2); have hs2 : w.heap.size ≤ w2.heap.size := HB2.out.size; clear hR2 hb2; obtain ⟨A2, c2, rfl⟩ := Kd.R_slice HR2.out; (try dsimp only))
    | ((with_reducible refine gate_builtin (b := .append) (xs := #[.tmp 14, .tmp 15]) rfl ?_); at_builtin; refine Kd.R_append_rows (Kd.int .i64) (w0 := w) w.heap.size rfl (.tmp 14) (.tmp 15) 72 3 (.int .i64 0) 8 rfl Try.underlying72 info3B rfl (by decide) (by omega) (.slice A2 (List.replicate m q).length c2) (List.replicate m q) [32, 32] (some ⟨w2.heap.size, 0, none⟩) 2 2 (fun _ => True) (fun _ => False) rfl rfl ?aO ?aR (fun _ _ h => h) (fun _ h => h.elim) ?aF ?aB ?aS ?aL ?_; (case aO => exact Kd.R_below HR2.out (below_alloc (Below.refl _ _) _)); (case aR => exact lit_row .i64 [32, 32] (by decide)); (case aF => exact (fun _ _ => trivial)); (case aB => exact below_alloc HB2.out _); (case aS => rw [World.size_alloc]; omega); (case aL => simp; omega); intro v3 w3 hR3 hb3 hg3 hat3)
    | go_values | go_guarded | go_step | go_upon | go_back)
  go_ret
  exact ⟨_, rfl, hR3, hb3⟩
end Go.Proofs.Ytknmokpnkcckeaa

namespace Go.Proofs.Ytknmokpnkcckeaa
open Go.RowKit Go.Proofs.YtknmokpnkcckeaaW.PrintWords Go.Proofs.YtknmokpnkcckeaaW.PrintLast Go.Proofs.YtknmokpnkcckeaaW.PrintMore Go.Proofs.Ytknmokpnkcckeaa.PAll
set_option linter.unusedVariables false
set_option linter.unusedSimpArgs false

/-- A digest of zeros. -/
def dig0 : List Int := List.replicate 32 0
theorem dig0_length : dig0.length = 32 := List.length_replicate
theorem bk_zero : Try.zeroCells40 = ⟨bkC none 0 0 dig0 dig0⟩ := by rfl
/-- A Bucket's box and an error's box as a call's results. -/
theorem results_bk {fn : Func} {tmps : Array Value} {w : World} {g1 g2 : Nat} {cs : Array Value} {e : Int} (h : fn.results = #[.cell 4 40, .cell 5 28]) (h4 : tmps.getD 4 undef = .pointer (some ⟨g1, 0, none⟩)) (h5 : tmps.getD 5 undef = .pointer (some ⟨g2, 0, none⟩))
    (hg : w.heap[g1]? = some (.cells cs 40 (0, 0))) (hs : cs.size = 65) (hc : w.cell? ⟨g2, 0, none⟩ = some (.int .i64 e)) : (results fn tmps).run Try.prog w = .ok (.tuple #[.agg cs, .int .i64 e]) w := by
  have hl := run_loadVar_row (P := Try.prog) w g1 40 40 cs (0, 0) _ hg Try.underlying40 rfl (by rw [hs]; exact info40)
  have hl2 : (loadVar 28 ⟨g2, 0, none⟩).run Try.prog w = .ok (.int .i64 e) w := by simp [go_sem, hc]
  unfold results
  rw [h]
  simp only [Array.getD_eq_getD_getElem?] at h4 h5
  simp [asAddr, h4, h5, hl, hl2]
/-- The three boxes of the call. -/
structure BoxR (h : Nat) (l0 l1 l2 l3 e : Int) (cs : Array Value) (W : World) : Prop where
  lev : W.heap[h]? = some (.cells #[.int .i64 l0, .int .i64 l1, .int .i64 l2, .int .i64 l3] 23 (0, 0))
  res : W.heap[h + 1]? = some (.cells cs 40 (0, 0))
  err : W.heap[h + 1 + 1]? = some (.cells #[.int .i64 e] 28 (0, 0))
noncomputable def readW (l0 l1 l2 l3 : Int) (w : World) : World :=
  ((w.alloc (.cells #[.int .i64 l0, .int .i64 l1, .int .i64 l2, .int .i64 l3] 23)).alloc (.cells Try.zeroCells40 40)).alloc (.cells #[.int .i64 0] 28)
theorem BoxR.new (l0 l1 l2 l3 : Int) (w : World) : BoxR w.heap.size l0 l1 l2 l3 0 Try.zeroCells40 (readW l0 l1 l2 l3 w) := by
  refine ⟨blk_alloc (blk_alloc (heap_alloc_new _ _) _) _, blk_alloc ?_ _, ?_⟩
  · have := heap_alloc_new (w.alloc (.cells #[.int .i64 l0, .int .i64 l1, .int .i64 l2, .int .i64 l3] 23)) (.cells Try.zeroCells40 40)
    rwa [World.size_alloc] at this
  · have := heap_alloc_new ((w.alloc (.cells #[.int .i64 l0, .int .i64 l1, .int .i64 l2, .int .i64 l3] 23)).alloc (.cells Try.zeroCells40 40)) (.cells #[.int .i64 0] 28)
    rwa [World.size_alloc, World.size_alloc] at this
theorem readW_below (l0 l1 l2 l3 : Int) (w : World) : Below w.heap.size w (readW l0 l1 l2 l3 w) := below_alloc (below_alloc (below_alloc (Below.refl _ _) _) _) _
theorem BoxR.below {h : Nat} {l0 l1 l2 l3 e : Int} {cs : Array Value} {W W' : World} (b : BoxR h l0 l1 l2 l3 e cs W) (hb : Below W.heap.size W W') : BoxR h l0 l1 l2 l3 e cs W' := ⟨blk_below b.lev hb, blk_below b.res hb, blk_below b.err hb⟩
theorem BoxR.setErr {h : Nat} {l0 l1 l2 l3 e : Int} {cs : Array Value} {W : World} (b : BoxR h l0 l1 l2 l3 e cs W) (e' : Int) : BoxR h l0 l1 l2 l3 e' cs (W.setCell ⟨h + 1 + 1, 0, none⟩ (.int .i64 e')) :=
  ⟨(Below.heap_setCell W ⟨h + 1 + 1, 0, none⟩ _ h (by show h ≠ h + 1 + 1; omega)).trans b.lev, (Below.heap_setCell W ⟨h + 1 + 1, 0, none⟩ _ (h + 1) (by show h + 1 ≠ h + 1 + 1; omega)).trans b.res, by simpa using blk_set b.err 0 (.int .i64 e')⟩
theorem BoxR.setRes {h : Nat} {l0 l1 l2 l3 e : Int} {cs cs' : Array Value} {W W' : World} (b : BoxR h l0 l1 l2 l3 e cs W) (h1 : W'.heap[h + 1]? = some (.cells cs' 40 (0, 0))) (h2 : ∀ k, k ≠ h + 1 → W'.heap[k]? = W.heap[k]?) : BoxR h l0 l1 l2 l3 e cs' W' :=
  ⟨(h2 _ (by omega)).trans b.lev, h1, (h2 _ (by omega)).trans b.err⟩

set_option maxHeartbeats 8000000 in
set_option maxRecDepth 100000 in
theorem readBk_bad (l0 l1 l2 l3 : Int) (A : Option Addr) (c : Nat) (t : List Int) (w : World) (hl : ¬ levelOk l0 l1 l2 l3) :
    Calls Try.prog 27 #[.agg #[.int .i64 l0, .int .i64 l1, .int .i64 l2, .int .i64 l3], .slice A t.length c] w fun e w' => e = .returned (.tuple #[.agg ⟨bkC none 0 0 dig0 dig0⟩, .int .i64 8]) ∧ Below w.heap.size w w' := by
  have HSL : Aside0 (slot_Slots.f 20 l0 l1 l2 l3 = some (0, 8)) := ⟨by rw [slots_eq20]; unfold slotsS; rw [if_neg hl]⟩
  have hu23 := Try.underlying23
  have HF := Aside0.mk (BoxR.new l0 l1 l2 l3 w)
  have HB := Aside0.mk (readW_below l0 l1 l2 l3 w)
  unfold readW at HF HB
  go_enter Try.func27, Try.ntmps27
  repeat (first
    | (go_at_call 32; (with_reducible refine (slot_Slots.calls 20 l0 l1 l2 l3 0 8 _ HSL.out).mono ?_); rintro e2 w2 ⟨rfl, hb2⟩; have HF2 := Aside0.mk (HF.out.below hb2); have HB2 := Aside0.mk (bl HB.out hb2); have HF3 := Aside0.mk (HF2.out.setErr 8); have HB3 := Aside0.mk (HB2.out.setCell (p := ⟨w.heap.size + 1 + 1, 0, none⟩) (by show w.heap.size ≤ w.heap.size + 1 + 1; omega) (.int .i64 8)); have hc5 := blk_cell HF2.out.err 0; have hf5 := blk_frozen HF2.out.err 0; clear hb2 HF HB; (try dsimp only))
    | go_values | go_guarded | go_step | go_upon | go_back)
  clear hc5 hf5
  generalize w2.setCell ⟨w.heap.size + 1 + 1, 0, none⟩ (.int .i64 8) = w3 at HF3 HB3 ⊢
  refine start_ (n := 4) (S := fun w' => BoxR w.heap.size l0 l1 l2 l3 8 Try.zeroCells40 w' ∧ Below w.heap.size w w') (ds := [3]) #[false, false, false, false] (by kernel_rfl) rfl rfl ⟨HF3.out.below (below_drew (Below.refl _ _)), below_drew HB3.out⟩ (fun hHeld => ?_)
  refine take_ (i := 0) (N := (some 21)) (v := ?_) (a' := ?_) #[true, false, false, false] rfl rfl (by kernel_rfl) (fun _ _ _ h => h) (Or.inl ⟨by rfl, ?_⟩) hHeld ?_ ?_
  rotate_left
  · rintro w' ⟨z0, z1⟩
    refine exec_loadB (ty := 40) (x := .tmp 4) ?_ ?_ z0.res Try.underlying40 rfl info40
    · rfl
    · rfl
  rotate_left
  · simp only [Act.put, List.setIfInBounds_toArray, List.set_cons_zero, List.set_cons_succ, i64_w, i32_w]
    rfl
  refine take_ (i := 1) (N := (some 22)) (v := ?_) (a' := ?_) #[true, true, false, false] rfl rfl (by kernel_rfl) (fun _ _ _ h => h) (Or.inl ⟨by rfl, ?_⟩) hHeld ?_ ?_
  rotate_left
  · rintro w' ⟨z0, z1⟩
    have hc := blk_cell z0.err 0
    go_simp
    with_reducible rfl
  rotate_left
  · simp only [Act.put, List.setIfInBounds_toArray, List.set_cons_zero, List.set_cons_succ, i64_w, i32_w]
    rfl
  refine one_ (i := 2) (N := none) #[true, true, true, false] rfl rfl (by kernel_rfl) (by decide) (fun K hK => ?_)
  refine ite_wanted rfl ?_
  obtain ⟨z0, z1⟩ := hHeld
  refine op_store 40 (.tmp 4) (.tmp 21) (w.heap.size + 1) 40 Try.zeroCells40 Try.zeroCells40 rfl rfl rfl z0.res rfl info40 (by rw [bk_zero]; exact bk_ones _ _ _ _ _) ?_
  intro w4 q1 q2 q3 q4
  refine hK.out _ _ ⟨z0.setRes q1 q2, q3 _ _ z1 (by omega)⟩ (fun hHeld => ?_)
  clear hK K q1 q2 q3 q4 z0 z1
  refine norm_ (a' := ?_) ?_ ?_
  rotate_left
  · show Act.put _ none _ = _
    simp only [Act.put, List.setIfInBounds_toArray, List.set_cons_zero, List.set_cons_succ, i64_w, i32_w]
    rfl
  refine last_ (i := 3) (N := none) #[true, true, true, true] rfl rfl (by kernel_rfl) (by decide) (fun K hK => ?_)
  refine ite_wanted rfl ?_
  obtain ⟨z0, z1⟩ := hHeld
  have hcw := blk_cell z0.err 0
  have hfw := blk_frozen z0.err 0
  have HF6 := Aside0.mk (z0.setErr 8)
  have HB6 := Aside0.mk (z1.setCell (p := ⟨w.heap.size + 1 + 1, 0, none⟩) (by show w.heap.size ≤ w.heap.size + 1 + 1; omega) (.int .i64 8))
  go_simp
  refine hK.out _ _ ?_
  clear hK K hcw hfw z0 z1
  refine done_ (by kernel_rfl) ?_
  go_wp2
  exact bodyPost_ret (results_bk (e := 8) rfl rfl rfl HF6.out.res rfl ((blk_cell HF6.out.err 0).trans rfl)) rfl ⟨by rw [bk_zero], HB6.out⟩

theorem numSum_rep (q : Int) (h0 : 0 ≤ q) (l : List Int) : ∀ (m : Nat) (s : Int), 0 ≤ s → s + (m : Int) * q ≤ 65536 → numSum s (List.replicate m q ++ l) = numSum (s + (m : Int) * q) l
  | 0, s, _, _ => by simp
  | m + 1, s, hs, h => by
    have e : ((m + 1 : Nat) : Int) * q = (m : Int) * q + q := by rw [Int.natCast_succ, Int.add_mul, Int.one_mul]
    have hm : 0 ≤ (m : Int) * q := Int.mul_nonneg (by omega) h0
    rw [e] at h ⊢
    rw [List.replicate_succ, List.cons_append, numSum, if_neg (by omega), numSum_rep q h0 l m (s + q) (by omega) (by omega)]
    congr 1
    omega
theorem size_parts {m : Nat} {q : Int} (h1 : 1 ≤ m) (h4 : m ≤ 4) (q1 : 1 ≤ q) (q4 : q ≤ 40) : sizeR (List.replicate m q ++ [32, 32]) = ((m : Int) * q + 64, 0) := by
  have hb : 0 ≤ (m : Int) * q ∧ (m : Int) * q ≤ 160 := by
    have h : m = 1 ∨ m = 2 ∨ m = 3 ∨ m = 4 := by omega
    rcases h with rfl | rfl | rfl | rfl <;> omega
  have hs : numSum 0 (List.replicate m q ++ [32, 32]) = some ((m : Int) * q + 64) := by
    rw [numSum_rep q (by omega) _ m 0 (by omega) (by omega), numSum, if_neg (by omega), numSum, if_neg (by omega), numSum]
    congr 1
    omega
  rw [sizeR, if_neg (by simp; omega), hs]
/-- A text's parts. -/
def partsB (m q : Nat) (t : List Int) : List (List Int) := (List.range m).map (fun i => (t.drop (i * q)).take q) ++ [(t.drop (m * q)).take 32, (t.drop (m * q + 32)).take 32]
theorem cut_parts : ∀ (m q : Nat) (t : List Int), cutGo (List.replicate m (q : Int) ++ [32, 32]) t = partsB m q t
  | 0, q, t => by simp [cutGo, partsB]
  | m + 1, q, t => by
    rw [List.replicate_succ, List.cons_append, cutGo, Int.toNat_natCast, cut_parts m q (t.drop q)]
    unfold partsB
    rw [List.range_succ_eq_map, List.map_cons, List.cons_append]
    have e : ∀ i, q + i * q = (i + 1) * q := fun i => by rw [Nat.succ_mul, Nat.add_comm]
    have e2 : q + (m * q + 32) = (m + 1) * q + 32 := by rw [← Nat.add_assoc, e]
    simp only [List.map_map, List.drop_drop, Nat.zero_mul, List.drop_zero, Function.comp_def, Nat.succ_eq_add_one, e, e2]
theorem cut_eq {m : Nat} {q : Nat} {t : List Int} (h1 : 1 ≤ m) (h4 : m ≤ 4) (q1 : 1 ≤ q) (q4 : q ≤ 40) : num_Cut.f t (List.replicate m (q : Int) ++ [32, 32]) = some (if (t.length : Int) = (m : Int) * (q : Int) + 64 then (partsB m q t, 0) else ([], 10)) := by
  unfold num_Cut.f cutR
  rw [size_parts h1 h4 (by omega) (by omega), cut_parts]
  by_cases h : (t.length : Int) = (m : Int) * (q : Int) + 64
  · rw [if_pos h, if_neg (by simp), if_neg (by simp [h])]
  · rw [if_neg h, if_neg (by simp), if_pos (fun e => h e.symm)]

theorem sizesZ_calls (SZ : List Int) (m : Nat) (h1 : 1 ≤ m) (h4 : m ≤ 4) (l0 l1 l2 l3 : Int) (w : World) (hl1 : 1 ≤ l1) (hl32 : l1 ≤ 32) (hl3 : l3 = 64 + (m : Int) * (8 + l1)) (hz : SZ = List.replicate m (8 + l1) ++ [32, 32]) :
    Calls Try.prog 55 #[.agg #[.int .i64 l0, .int .i64 l1, .int .i64 l2, .int .i64 l3], .int .i64 (m : Int)] w fun e w' => ∃ A c, e = .returned (.slice A SZ.length c) ∧ SZ.length ≤ c ∧ Kd.C (Kd.int .i64) w' A SZ.length SZ ∧ Below w.heap.size w w' := by
  subst hz
  refine (sizes_calls m h1 h4 l0 l1 l2 l3 w hl1 hl32 hl3).mono fun e w' hp => ?_
  obtain ⟨v, rfl, hR, hb⟩ := hp
  obtain ⟨A, c, rfl⟩ := Kd.R_slice hR
  exact ⟨A, c, rfl, (Kd.R_reads' hR).2.1, (Kd.R_reads' hR).2.2, hb⟩

set_option maxHeartbeats 8000000 in
set_option maxRecDepth 100000 in
theorem readBk_short (many : Nat) (l0 l1 l2 l3 : Int) (A : Option Addr) (c : Nat) (t : List Int) (w : World) (hr : Kd.C (Kd.int .u8) w A t.length t) (hc : t.length ≤ c) (hs : slot_Slots.f 20 l0 l1 l2 l3 = some ((many : Int), 0)) (h1 : 1 ≤ many) (h4 : many ≤ 4) (hl1 : 1 ≤ l1) (hl32 : l1 ≤ 32) (hl3 : l3 = 64 + (many : Int) * (8 + l1)) (hlen : ¬ (t.length : Int) = l3) :
    Calls Try.prog 27 #[.agg #[.int .i64 l0, .int .i64 l1, .int .i64 l2, .int .i64 l3], .slice A t.length c] w fun e w' => e = .returned (.tuple #[.agg ⟨bkC none 0 0 dig0 dig0⟩, .int .i64 10]) ∧ Below w.heap.size w w' := by
  have HR := Aside0.mk hr
  have HC := Aside0.mk hc
  have HSL := Aside0.mk hs
  have HL3 := Aside0.mk hl3
  obtain ⟨q, hq⟩ := Int.eq_ofNat_of_zero_le (show 0 ≤ 8 + l1 by omega)
  have HQ := Aside0.mk hq
  obtain ⟨SZ, hz⟩ : ∃ SZ, SZ = List.replicate many (8 + l1) ++ [32, 32] := ⟨_, rfl⟩
  have HSZ := Aside0.mk hz
  have HCUT : Aside0 (num_Cut.f t SZ = some ([], 10)) := ⟨by
    rw [hz, hq, cut_eq h1 h4 (by omega) (by omega), if_neg (fun h => hlen (by rw [hl3, hq]; omega))]⟩
  have hu23 := Try.underlying23
  have HF := Aside0.mk (BoxR.new l0 l1 l2 l3 w)
  have HB := Aside0.mk (readW_below l0 l1 l2 l3 w)
  unfold readW at HF HB
  clear hr hc hs hl3 hlen hq hz
  go_enter Try.func27, Try.ntmps27
  repeat (first
    | (go_at_call 32; (with_reducible refine (slot_Slots.calls 20 l0 l1 l2 l3 many 0 _ HSL.out).mono ?_); rintro e2 w2 ⟨rfl, hb2⟩; have HF2 := Aside0.mk (HF.out.below hb2); have HB2 := Aside0.mk (bl HB.out hb2); have HF3 := Aside0.mk (HF2.out.setErr 0); have HB3 := Aside0.mk (HB2.out.setCell (p := ⟨w.heap.size + 1 + 1, 0, none⟩) (by show w.heap.size ≤ w.heap.size + 1 + 1; omega) (.int .i64 0)); have hc5 := blk_cell HF2.out.err 0; have hf5 := blk_frozen HF2.out.err 0; have hc6 := blk_cell HF3.out.err 0; clear hb2 HF HB; (try dsimp only))
    | (go_at_call 55; (with_reducible refine (sizesZ_calls SZ many h1 h4 l0 l1 l2 l3 _ hl1 hl32 HL3.out HSZ.out).mono ?_); rintro e4 w4 ⟨A4, c4, rfl, hc4, hC4, hb4⟩; have HC4 := Aside0.mk hc4; have HR4 := Aside0.mk hC4; have HF4 := Aside0.mk (HF3.out.below hb4); have HB4 := Aside0.mk (bl HB3.out hb4); clear hb4 hc4 hC4 hc5 hf5 hc6; (try dsimp only))
    | (go_at_call 54; (with_reducible refine (num_Cut.calls2 A c t A4 c4 SZ [] 10 _ (Kd.C_below HR.out HB4.out) HC.out HR4.out HC4.out HCUT.out).mono ?_); rintro e5 w5 ⟨v5, rfl, hV5, hb5⟩; have HF5 := Aside0.mk ((HF4.out.below hb5).setErr 10); have HB5 := Aside0.mk ((bl HB4.out hb5).setCell (p := ⟨w.heap.size + 1 + 1, 0, none⟩) (by show w.heap.size ≤ w.heap.size + 1 + 1; omega) (.int .i64 10)); have hc7 := blk_cell (HF4.out.below hb5).err 0; have hf7 := blk_frozen (HF4.out.below hb5).err 0; clear hb5; (try dsimp only))
    | ((with_reducible refine wpList_whole_g 23 (.tmp 2) (w.heap.size) 23 [.int .i64 l0, .int .i64 l1, .int .i64 l2, .int .i64 l3] _ ?hw rfl ?hx ?hg Try.underlying23 ?hd ?hi ?_); (case hg => exact HF3.out.lev); (case hw => rfl); (case hx => rfl); (case hd => rfl); (case hi => exact infoLB))
    | go_values | go_guarded | go_step | go_upon | go_back)
  generalize w5.setCell ⟨w.heap.size + 1 + 1, 0, none⟩ (.int .i64 10) = w6 at HF5 HB5 ⊢
  refine start_ (n := 4) (S := fun w' => BoxR w.heap.size l0 l1 l2 l3 10 Try.zeroCells40 w' ∧ Below w.heap.size w w') (ds := [3]) #[false, false, false, false] (by kernel_rfl) rfl rfl ⟨HF5.out.below (below_drew (Below.refl _ _)), below_drew HB5.out⟩ (fun hHeld => ?_)
  refine take_ (i := 0) (N := (some 33)) (v := ?_) (a' := ?_) #[true, false, false, false] rfl rfl (by kernel_rfl) (fun _ _ _ h => h) (Or.inl ⟨by rfl, ?_⟩) hHeld ?_ ?_
  rotate_left
  · rintro w' ⟨z0, z1⟩
    refine exec_loadB (ty := 40) (x := .tmp 4) ?_ ?_ z0.res Try.underlying40 rfl info40
    · rfl
    · rfl
  rotate_left
  · simp only [Act.put, List.setIfInBounds_toArray, List.set_cons_zero, List.set_cons_succ, i64_w, i32_w]
    rfl
  refine take_ (i := 1) (N := (some 34)) (v := ?_) (a' := ?_) #[true, true, false, false] rfl rfl (by kernel_rfl) (fun _ _ _ h => h) (Or.inl ⟨by rfl, ?_⟩) hHeld ?_ ?_
  rotate_left
  · rintro w' ⟨z0, z1⟩
    have hc := blk_cell z0.err 0
    go_simp
    with_reducible rfl
  rotate_left
  · simp only [Act.put, List.setIfInBounds_toArray, List.set_cons_zero, List.set_cons_succ, i64_w, i32_w]
    rfl
  refine one_ (i := 2) (N := none) #[true, true, true, false] rfl rfl (by kernel_rfl) (by decide) (fun K hK => ?_)
  refine ite_wanted rfl ?_
  obtain ⟨z0, z1⟩ := hHeld
  refine op_store 40 (.tmp 4) (.tmp 33) (w.heap.size + 1) 40 Try.zeroCells40 Try.zeroCells40 rfl rfl rfl z0.res rfl info40 (by rw [bk_zero]; exact bk_ones _ _ _ _ _) ?_
  intro w4 q1 q2 q3 q4
  refine hK.out _ _ ⟨z0.setRes q1 q2, q3 _ _ z1 (by omega)⟩ (fun hHeld => ?_)
  clear hK K q1 q2 q3 q4 z0 z1
  refine norm_ (a' := ?_) ?_ ?_
  rotate_left
  · show Act.put _ none _ = _
    simp only [Act.put, List.setIfInBounds_toArray, List.set_cons_zero, List.set_cons_succ, i64_w, i32_w]
    rfl
  refine last_ (i := 3) (N := none) #[true, true, true, true] rfl rfl (by kernel_rfl) (by decide) (fun K hK => ?_)
  refine ite_wanted rfl ?_
  obtain ⟨z0, z1⟩ := hHeld
  have hcw := blk_cell z0.err 0
  have hfw := blk_frozen z0.err 0
  have HF6 := Aside0.mk (z0.setErr 10)
  have HB6 := Aside0.mk (z1.setCell (p := ⟨w.heap.size + 1 + 1, 0, none⟩) (by show w.heap.size ≤ w.heap.size + 1 + 1; omega) (.int .i64 10))
  go_simp
  refine hK.out _ _ ?_
  clear hK K hcw hfw z0 z1
  refine done_ (by kernel_rfl) ?_
  go_wp2
  exact bodyPost_ret (results_bk (e := 10) rfl rfl rfl HF6.out.res rfl ((blk_cell HF6.out.err 0).trans rfl)) rfl ⟨by rw [bk_zero], HB6.out⟩
end Go.Proofs.Ytknmokpnkcckeaa
