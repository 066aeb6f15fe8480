/-
ShaWhole: the law's walk.
-/
import Derived.Test.YtfijclinefmbfaaDoorShaNames
import Derived.Test.YtfijclinefmbfaaDoorRowWords
import Derived.Deep.RegionWith
import Derived.IntWalk
namespace Go.Proofs.YtfijclinefmbfaaDoor
open Go.RowKit Go.Proofs.YtfijclinefmbfaaDoorW.PrintWords Go.Proofs.YtfijclinefmbfaaDoorW.PrintLast Go.Proofs.YtfijclinefmbfaaDoorW.PrintMore Go.Proofs.YtfijclinefmbfaaDoor.PAll
set_option linter.unusedVariables false
set_option linter.unusedSimpArgs false

section
variable {P : Program} {a : Act} {w : World} {o : Oper}
theorem exec_load {ty : TypeId} {x : Operand} {b u : Nat} {cs : Array Value} {d : TypeDesc} (ho : o.op = .load ty x) (hx : a.eval x = .pointer (some ⟨b, 0, none⟩)) (hg : w.heap[b]? = some (.cells cs u (0, 0))) (hu : P.underlying ty = some d) (hd : d.isRow = true) (hi : (P.info? ty).map (·.size) = some cs.size) :
    (execOp a.eval o).run P w = .ok (.value (.agg cs)) w := by
  have hl := load_whole hg hu hd hi
  unfold execOp
  simp only [ho, hx, Sem.run_bind, hl, Result.andThen_ok, Sem.run_pure]
end
theorem sum_cell9 {hs : List Int} (R : Option Addr) (n c : Nat) (m : Int) (h : hs.length = 8) : (sumC hs R n c m)[9]? = some (.int .u64 m) := by
  obtain ⟨a, b, c', d, e, f, g, i, rfl⟩ := eight h
  rfl
theorem sum_cell8 {hs : List Int} (R : Option Addr) (n c : Nat) (m : Int) (h : hs.length = 8) : (sumC hs R n c m)[8]? = some (.slice R n c) := by
  obtain ⟨a, b, c', d, e, f, g, i, rfl⟩ := eight h
  rfl
theorem eq_digest {vs : List Value} {l : List Int} (hl : l.length = 32) (h : l.map (Value.int .u8) = vs) (W : World) : (Op.equalIn 10000 24 (.agg ⟨vs⟩) (.agg ⟨vs⟩)).run Tryd.prog W = .ok true W := by
  subst h
  obtain ⟨i, hi⟩ : ∃ i, Tryd.prog.info? 5 = some i := by
    obtain ⟨i0, hi0, _⟩ := info_parts info5
    exact ⟨i0, hi0⟩
  rw [run_equalIn_array W 9999 _ _ Tryd.underlying24 hi, show Tryd.prog.cellsOf 5 = 1 from by kernel_rfl, show (⟨l.map (Value.int .u8)⟩ : Array Value) = numCells .u8 l from rfl, run_eqItems_num W 9998 Tryd.underlying5 l l rfl _ (by simp; omega)]
  simp
theorem check_zero {r l : List Int} {m : Int} (h : r.length = l.length % 64) (hm : m = (l.length : Int)) (hl : l.length ≤ 100000) : checkA r.length m = 0 := by
  subst hm
  unfold checkA
  rw [if_neg (by omega), if_neg (by rw [h]; simp)]

def law02_ShaWhole.f (k : Nat) (l0 l1 : List Int) : Option Bool := some true

set_option maxHeartbeats 4000000 in
set_option maxRecDepth 100000 in
theorem whole_big (A : Option Addr) (ca : Nat) (la : List Int) (B : Option Addr) (cb : Nat) (lb : List Int) (w : World) (hbig : 500 < la.length ∨ 500 < lb.length) (hk : Ktab w) :
    Calls Tryd.prog 7 #[.slice A la.length ca, .slice B lb.length cb] w fun e w' => e = .returned (.bool true) ∧ Below w.heap.size w w' := by
  have HK := Aside0.mk hk
  clear hk
  by_cases c1 : 500 < la.length
  · have d1 : decide ((500 : Int) < (la.length : Int)) = true := decide_eq_true (by omega)
    clear hbig c1
    go_enter Tryd.func7, Tryd.ntmps7
    repeat (first
      | (go_at_call 20; (with_reducible refine (alive_calls _ HK.out).mono ?_); rintro e5 w5 ⟨rfl, hb5⟩; have HB5 := Aside0.mk hb5; clear hb5; dsimp only)
      | go_values | go_guarded | go_step | go_upon | go_back)
    go_ret
    exact ⟨rfl, HB5.out⟩
  · have d1 : decide ((500 : Int) < (la.length : Int)) = false := decide_eq_false (by omega)
    have d2 : decide ((500 : Int) < (lb.length : Int)) = true := decide_eq_true (by omega)
    clear hbig c1
    go_enter Tryd.func7, Tryd.ntmps7
    repeat (first
      | (go_at_call 20; (with_reducible refine (alive_calls _ HK.out).mono ?_); rintro e5 w5 ⟨rfl, hb5⟩; have HB5 := Aside0.mk hb5; clear hb5; dsimp only)
      | go_values | go_guarded | go_step | go_upon | go_back)
    go_ret
    exact ⟨rfl, HB5.out⟩

set_option maxHeartbeats 4000000 in
set_option maxRecDepth 100000 in
theorem whole_small (A : Option Addr) (ca : Nat) (la : List Int) (B : Option Addr) (cb : Nat) (lb : List Int) (w : World) (hA : Kd.C (Kd.int .u8) w A la.length la) (hca : la.length ≤ ca) (hB : Kd.C (Kd.int .u8) w B lb.length lb) (hcb : lb.length ≤ cb) (ha : la.length ≤ 500) (hb : lb.length ≤ 500) (hk : Ktab w) :
    Calls Tryd.prog 7 #[.slice A la.length ca, .slice B lb.length cb] w fun e w' => e = .returned (.bool true) ∧ Below w.heap.size w w' := by
  have HK := Aside0.mk hk
  have HA := Aside0.mk hA
  have HBb := Aside0.mk hB
  have HCA := Aside0.mk hca
  have HCB := Aside0.mk hcb
  have HLA := Aside0.mk ha
  have HLB := Aside0.mk hb
  have d1 : decide ((500 : Int) < (la.length : Int)) = false := decide_eq_false (by omega)
  have d2 : decide ((500 : Int) < (lb.length : Int)) = false := decide_eq_false (by omega)
  have hl1 : (la.length : Int) ≤ 500 := by omega
  have hl2 : (lb.length : Int) ≤ 500 := by omega
  have hadd : IntKind.i64.wrap ((la.length : Int) + (lb.length : Int)) = (la.length : Int) + (lb.length : Int) := IntWalk.i64_in _ (by omega)
  have haddu : IntKind.u64.wrap ((la.length : Int) + (lb.length : Int)) = (la.length : Int) + (lb.length : Int) := by
    rw [show ∀ z, IntKind.u64.wrap z = z % 18446744073709551616 from fun _ => rfl]
    omega
  have happ := comeA_append H0 la lb
  have hr0 := comeA_rest H0 la
  have hr1 := comeA_rest H0 (la ++ lb)
  have hh0 := comeA_length (hs := H0) rfl la
  have hh1 := comeA_length (hs := H0) rfl (la ++ lb)
  have hck0 := check_zero (m := (la.length : Int)) hr0 rfl (by omega)
  have hck1 := check_zero (m := (la.length : Int) + (lb.length : Int)) hr1 (by simp) (by simp; omega)
  have hof : ofA (la ++ lb) = endA (comeA H0 (la ++ lb)).1 (comeA H0 (la ++ lb)).2 ((la.length : Int) + (lb.length : Int)) := by rw [ofA, List.length_append]; push_cast; rfl
  have hm0 : ((0 : Int) + (la.length : Int)) % 18446744073709551616 = (la.length : Int) := by omega
  have hm1 : ((la.length : Int) + (lb.length : Int)) % 18446744073709551616 = (la.length : Int) + (lb.length : Int) := by omega
  generalize hq0 : comeA H0 la = q0 at *
  generalize comeA H0 (la ++ lb) = q1 at *
  obtain ⟨hs0, r0⟩ := q0
  obtain ⟨hs1, r1⟩ := q1
  dsimp only at happ hr0 hr1 hh0 hh1 hck0 hck1 hof
  have hel : (endA hs1 r1 ((la.length : Int) + (lb.length : Int))).length = 32 := digestA_length _
  generalize hvs : (endA hs1 r1 ((la.length : Int) + (lb.length : Int))).map (Value.int .u8) = vs
  have heq := eq_digest hel hvs
  have hone : ∀ v ∈ vs, v.oneCell' = true := by rw [← hvs]; exact one_u8 _
  have hsz2 : vs.length = 32 := by rw [← hvs, List.length_map]; exact hel
  have hi : (Tryd.prog.info? 24).map (·.size) = some (⟨vs⟩ : Array Value).size := by
    rw [show (⟨vs⟩ : Array Value).size = 32 from hsz2]
    rfl
  have hzs : zeroD.size = (⟨vs⟩ : Array Value).size := by rw [show (⟨vs⟩ : Array Value).size = 32 from hsz2]; rfl
  have HVS := Aside0.mk hvs
  have HON := Aside0.mk hone
  have HEQ := Aside0.mk heq
  have HAPP := Aside0.mk happ
  have HQ0 := Aside0.mk hq0
  have HR0 := Aside0.mk hr0
  have HCK0 := Aside0.mk hck0
  have HCK1 := Aside0.mk hck1
  have HOF := Aside0.mk hof
  have HM0 := Aside0.mk hm0
  have HM1 := Aside0.mk hm1
  clear hk hA hB hca hcb ha hb hvs hone heq happ hq0 hr0 hr1 hck0 hck1 hof hm0 hm1 hel
  go_enter Tryd.func7, Tryd.ntmps7
  repeat (first
    | (go_at_call 20; (with_reducible refine (alive_calls _ HK.out).mono ?_); rintro e1 w1 ⟨rfl, hb1⟩; have HB1 := Aside0.mk hb1; clear hb1; dsimp only)
    | (go_at_call 18; (with_reducible refine (begin_calls _).mono ?_); rintro e2 w2 ⟨rfl, hb2⟩; have HB2 := Aside0.mk (bl HB1.out hb2); clear hb2; dsimp only)
    | (go_at_call 11; (with_reducible refine (more_ok_cs _ H0 none 0 [] 0 A ca la ?hcs rfl w2 (Kd.C_nil _ _) (by decide) (Kd.C_below HA.out HB2.out) HCA.out (by have := HLA.out; simp; omega) (HK.out.below HB2.out) (by decide) (by decide) (by have := HLA.out; omega)).mono ?_); (case hcs => rfl); rintro e3 w3 ⟨R3, c3, rfl, hc3, hr3, hb3⟩; rw [List.nil_append] at hc3 hr3 ⊢; rw [HQ0.out] at hc3 hr3 ⊢; rw [HM0.out]; have HB3 := Aside0.mk (below_alloc (bl HB2.out hb3) (.cells zeroS 34)); have HG3 := Aside0.mk (heap_alloc_new w3 (.cells zeroS 34)); have HC3 := Aside0.mk hc3; have HF3 := Aside0.mk (Kd.F_alloc (Kd.F_mono (Kd.R_F (Kd.R_bound hr3)) (ok' := fun k => k < w3.heap.size) (fun k hk => hk.2.2.1)) (.cells zeroS 34)); have HL3 := Aside0.mk (show w.heap.size ≤ w3.heap.size from (bl HB2.out hb3).size); clear hc3 hr3 hb3; dsimp only)
    | ((with_reducible refine wpList_store 34 (.tmp 6) (.tmp 30) w3.heap.size _ _ (sumC hs0 R3 r0.length c3 (la.length : Int)) rfl rfl ?hx ?hy HG3.out ?hs ?hi ?h1 ?_); (case h1 => exact one_sum _ _ _ rfl rfl); (case hs => rw [sum_size _ _ _ _ hh0]; rfl); (case hx => rfl); (case hy => rfl); (case hi => rw [sum_size _ _ _ _ hh0]; rfl); intro w4 q1 q2 q3 q4; have HG4 := Aside0.mk q1; have HF4 := Aside0.mk (Kd.F_step HF3.out (fun k hk _ => q2 k (by omega))); have HB4 := Aside0.mk (q3 w.heap.size w HB3.out HL3.out); generalize w3.heap.size = g6 at *; clear q1 q2 q3 q4 HG3 HB3 HF3)
    | ((with_reducible refine wpList_load 34 (.tmp 6) g6 _ _ _ rfl rfl ?hx HG4.out Tryd.underlying34 ?hd ?hi ?_); (case hx => rfl); (case hd => rfl); (case hi => rw [sum_size _ _ _ _ hh0]; rfl))
    | (go_at_call 11; (with_reducible refine (more_ok_cs _ hs0 R3 c3 r0 (la.length : Int) B cb lb ?hcs hh0 w4 (Kd.F_now HF4.out) HC3.out (Kd.C_below HBb.out HB4.out) HCB.out (by have := HLA.out; have := HLB.out; have := HR0.out; omega) (HK.out.below HB4.out) (by omega) HCK0.out (by have := HLA.out; have := HLB.out; omega)).mono ?_); (case hcs => rfl); rintro e5 w5 ⟨R5, c5, rfl, hc5, hr5, hb5⟩; rw [HAPP.out] at hc5 hr5 ⊢; rw [HM1.out]; have HB5 := Aside0.mk (below_alloc (bl HB4.out hb5) (.cells zeroS 34)); have HG5 := Aside0.mk (heap_alloc_new w5 (.cells zeroS 34)); have HC5 := Aside0.mk hc5; have HF5 := Aside0.mk (Kd.F_alloc (Kd.F_mono (Kd.R_F (Kd.R_bound hr5)) (ok' := fun k => k < w5.heap.size) (fun k hk => hk.2.2.1)) (.cells zeroS 34)); have HL5 := Aside0.mk (show w.heap.size ≤ w5.heap.size from (bl HB4.out hb5).size); clear hc5 hr5 hb5; dsimp only)
    | ((with_reducible refine wpList_store 34 (.tmp 8) (.tmp 36) w5.heap.size _ _ (sumC hs1 R5 r1.length c5 ((la.length : Int) + (lb.length : Int))) rfl rfl ?hx ?hy HG5.out ?hs ?hi ?h1 ?_); (case h1 => exact one_sum _ _ _ rfl rfl); (case hs => rw [sum_size _ _ _ _ hh1]; rfl); (case hx => rfl); (case hy => rfl); (case hi => rw [sum_size _ _ _ _ hh1]; rfl); intro w6 q1 q2 q3 q4; have HG6 := Aside0.mk q1; have HF6 := Aside0.mk (Kd.F_step HF5.out (fun k hk _ => q2 k (by omega))); have HB6 := Aside0.mk (q3 w.heap.size w HB5.out HL5.out); generalize w5.heap.size = g8 at *; clear q1 q2 q3 q4 HG5 HB5 HF5)
    | ((with_reducible refine wpList_load 34 (.tmp 8) g8 _ _ _ rfl rfl ?hx HG6.out Tryd.underlying34 ?hd ?hi ?_); (case hx => rfl); (case hd => rfl); (case hi => rw [sum_size _ _ _ _ hh1]; rfl))
    | (go_at_call 13; (with_reducible refine (end_cs _ hs1 R5 c5 r1 ((la.length : Int) + (lb.length : Int)) ?hcs hh1 w6 (Kd.F_now HF6.out) HC5.out (HK.out.below HB6.out) (by omega) HCK1.out).mono ?_); (case hcs => rfl); rintro e7 w7 ⟨rfl, hb7⟩; rw [HVS.out]; have HB7 := Aside0.mk (below_alloc (bl HB6.out hb7) (.cells zeroD 24)); have HG7 := Aside0.mk (blk_alloc (blk_below HG6.out hb7) (.cells zeroD 24)); have hgl := blk_lt (blk_below HG6.out hb7); have HN7 := Aside0.mk (heap_alloc_new w7 (.cells zeroD 24)); have HL7 := Aside0.mk (show w.heap.size ≤ w7.heap.size from (bl HB6.out hb7).size); clear hb7; dsimp only)
    | ((with_reducible refine wpList_store 24 (.tmp 10) (.tmp 41) w7.heap.size _ _ ⟨vs⟩ rfl rfl ?hx ?hy HN7.out ?hs hi HON.out ?_); (case hs => exact hzs); (case hx => rfl); (case hy => rfl); intro w8 q1 q2 q3 q4; have HD8 := Aside0.mk q1; have HG8 := Aside0.mk ((q2 g8 (by omega)).trans HG7.out); have HB8 := Aside0.mk (q3 w.heap.size w HB7.out HL7.out); generalize w7.heap.size = g10 at *; clear q1 q2 q3 q4 HG7 HN7 HB7)
    | go_values | go_guarded | go_step | go_upon | go_back)
  clear HG4 HF4 HB4 HF6 HG6 HB6 HB1 HB2
  refine start_ (n := 44) (S := fun w' => w'.heap[g8]? = some (.cells (sumC hs1 R5 r1.length c5 ((la.length : Int) + (lb.length : Int))) 34 (0, 0)) ∧ w'.heap[g10]? = some (.cells ⟨vs⟩ 24 (0, 0)) ∧ Below w.heap.size w w') (ds := []) #[false, false, false, false, false, false, false, false, false, false, false, false, false, false, false, false, false, false, false, false, false, false, false, false, false, false, false, false, false, false, false, false, false, false, false, false, false, false, false, false, false, false, false, false] (by kernel_rfl) rfl rfl ⟨blk_drew HG8.out, blk_drew HD8.out, below_drew HB8.out⟩ (fun hHeld => ?_)
  refine pure_ (i := 0) (N := (some 43)) (v := ?_) (a' := ?_) #[true, false, false, false, false, false, false, false, false, false, false, false, false, false, false, false, false, false, false, false, false, false, false, false, false, false, false, false, false, false, false, false, false, false, false, false, false, false, false, false, false, false, false, false] rfl rfl (by kernel_rfl) (fun _ _ _ h => h) (Or.inl ⟨by rfl, ?_⟩) ?_ ?_
  rotate_left
  · intro w'
    go_simp
    with_reducible rfl
  rotate_left
  · simp only [Act.put, List.setIfInBounds_toArray, List.set_cons_zero, List.set_cons_succ, i64_w, i32_w]
    rfl
  refine pure_ (i := 1) (N := (some 44)) (v := ?_) (a' := ?_) #[true, true, false, false, false, false, false, false, false, false, false, false, false, false, false, false, false, false, false, false, false, false, false, false, false, false, false, false, false, false, false, false, false, false, false, false, false, false, false, false, false, false, false, false] rfl rfl (by kernel_rfl) (fun _ _ _ h => h) (Or.inl ⟨by rfl, ?_⟩) ?_ ?_
  rotate_left
  · intro w'
    go_simp
    with_reducible rfl
  rotate_left
  · simp only [Act.put, List.setIfInBounds_toArray, List.set_cons_zero, List.set_cons_succ, i64_w, i32_w]
    rfl
  refine pure_ (i := 2) (N := (some 45)) (v := ?_) (a' := ?_) #[true, true, true, false, false, false, false, false, false, false, false, false, false, false, false, false, false, false, false, false, false, false, false, false, false, false, false, false, false, false, false, false, false, false, false, false, false, false, false, false, false, false, false, false] rfl rfl (by kernel_rfl) (fun _ _ _ h => h) (Or.inl ⟨by rfl, ?_⟩) ?_ ?_
  rotate_left
  · intro w'
    go_simp
    with_reducible rfl
  rotate_left
  · simp only [Act.put, List.setIfInBounds_toArray, List.set_cons_zero, List.set_cons_succ, i64_w, i32_w]
    rfl
  refine pure_ (i := 3) (N := (some 46)) (v := ?_) (a' := ?_) #[true, true, true, true, false, false, false, false, false, false, false, false, false, false, false, false, false, false, false, false, false, false, false, false, false, false, false, false, false, false, false, false, false, false, false, false, false, false, false, false, false, false, false, false] rfl rfl (by kernel_rfl) (fun _ _ _ h => h) (Or.inl ⟨by rfl, ?_⟩) ?_ ?_
  rotate_left
  · intro w'
    go_simp
    with_reducible rfl
  rotate_left
  · simp only [Act.put, List.setIfInBounds_toArray, List.set_cons_zero, List.set_cons_succ, i64_w, i32_w]
    rfl
  refine pure_ (i := 4) (N := (some 47)) (v := ?_) (a' := ?_) #[true, true, true, true, true, false, false, false, false, false, false, false, false, false, false, false, false, false, false, false, false, false, false, false, false, false, false, false, false, false, false, false, false, false, false, false, false, false, false, false, false, false, false, false] rfl rfl (by kernel_rfl) (fun _ _ _ h => h) (Or.inl ⟨by rfl, ?_⟩) ?_ ?_
  rotate_left
  · intro w'
    go_simp
    with_reducible rfl
  rotate_left
  · simp only [Act.put, List.setIfInBounds_toArray, List.set_cons_zero, List.set_cons_succ, i64_w, i32_w]
    rfl
  refine pure_ (i := 5) (N := (some 48)) (v := ?_) (a' := ?_) #[true, true, true, true, true, true, false, false, false, false, false, false, false, false, false, false, false, false, false, false, false, false, false, false, false, false, false, false, false, false, false, false, false, false, false, false, false, false, false, false, false, false, false, false] rfl rfl (by kernel_rfl) (fun _ _ _ h => h) (Or.inl ⟨by rfl, ?_⟩) ?_ ?_
  rotate_left
  · intro w'
    go_simp
    with_reducible rfl
  rotate_left
  · simp only [Act.put, List.setIfInBounds_toArray, List.set_cons_zero, List.set_cons_succ, i64_w, i32_w]
    rfl
  refine pure_ (i := 6) (N := (some 49)) (v := ?_) (a' := ?_) #[true, true, true, true, true, true, true, false, false, false, false, false, false, false, false, false, false, false, false, false, false, false, false, false, false, false, false, false, false, false, false, false, false, false, false, false, false, false, false, false, false, false, false, false] rfl rfl (by kernel_rfl) (fun _ _ _ h => h) (Or.inl ⟨by rfl, ?_⟩) ?_ ?_
  rotate_left
  · intro w'
    go_simp
    with_reducible rfl
  rotate_left
  · simp only [Act.put, List.setIfInBounds_toArray, List.set_cons_zero, List.set_cons_succ, i64_w, i32_w]
    rfl
  refine pure_ (i := 7) (N := (some 50)) (v := ?_) (a' := ?_) #[true, true, true, true, true, true, true, true, false, false, false, false, false, false, false, false, false, false, false, false, false, false, false, false, false, false, false, false, false, false, false, false, false, false, false, false, false, false, false, false, false, false, false, false] rfl rfl (by kernel_rfl) (fun _ _ _ h => h) (Or.inl ⟨by rfl, ?_⟩) ?_ ?_
  rotate_left
  · intro w'
    go_simp
    with_reducible rfl
  rotate_left
  · simp only [Act.put, List.setIfInBounds_toArray, List.set_cons_zero, List.set_cons_succ, i64_w, i32_w]
    rfl
  refine pure_ (i := 8) (N := (some 51)) (v := ?_) (a' := ?_) #[true, true, true, true, true, true, true, true, true, false, false, false, false, false, false, false, false, false, false, false, false, false, false, false, false, false, false, false, false, false, false, false, false, false, false, false, false, false, false, false, false, false, false, false] rfl rfl (by kernel_rfl) (fun _ _ _ h => h) (Or.inl ⟨by rfl, ?_⟩) ?_ ?_
  rotate_left
  · intro w'
    go_simp
    with_reducible rfl
  rotate_left
  · simp only [Act.put, List.setIfInBounds_toArray, List.set_cons_zero, List.set_cons_succ, i64_w, i32_w]
    rfl
  refine pure_ (i := 9) (N := (some 52)) (v := ?_) (a' := ?_) #[true, true, true, true, true, true, true, true, true, true, false, false, false, false, false, false, false, false, false, false, false, false, false, false, false, false, false, false, false, false, false, false, false, false, false, false, false, false, false, false, false, false, false, false] rfl rfl (by kernel_rfl) (fun _ _ _ h => h) (Or.inl ⟨by rfl, ?_⟩) ?_ ?_
  rotate_left
  · intro w'
    go_simp
    with_reducible rfl
  rotate_left
  · simp only [Act.put, List.setIfInBounds_toArray, List.set_cons_zero, List.set_cons_succ, i64_w, i32_w]
    rfl
  refine pure_ (i := 10) (N := (some 53)) (v := ?_) (a' := ?_) #[true, true, true, true, true, true, true, true, true, true, true, false, false, false, false, false, false, false, false, false, false, false, false, false, false, false, false, false, false, false, false, false, false, false, false, false, false, false, false, false, false, false, false, false] rfl rfl (by kernel_rfl) (fun _ _ _ h => h) (Or.inl ⟨by rfl, ?_⟩) ?_ ?_
  rotate_left
  · intro w'
    go_simp
    with_reducible rfl
  rotate_left
  · simp only [Act.put, List.setIfInBounds_toArray, List.set_cons_zero, List.set_cons_succ, i64_w, i32_w]
    rfl
  refine pure_ (i := 11) (N := (some 54)) (v := ?_) (a' := ?_) #[true, true, true, true, true, true, true, true, true, true, true, true, false, false, false, false, false, false, false, false, false, false, false, false, false, false, false, false, false, false, false, false, false, false, false, false, false, false, false, false, false, false, false, false] rfl rfl (by kernel_rfl) (fun _ _ _ h => h) (Or.inl ⟨by rfl, ?_⟩) ?_ ?_
  rotate_left
  · intro w'
    go_simp
    with_reducible rfl
  rotate_left
  · simp only [Act.put, List.setIfInBounds_toArray, List.set_cons_zero, List.set_cons_succ, i64_w, i32_w]
    rfl
  refine pure_ (i := 12) (N := (some 55)) (v := ?_) (a' := ?_) #[true, true, true, true, true, true, true, true, true, true, true, true, true, false, false, false, false, false, false, false, false, false, false, false, false, false, false, false, false, false, false, false, false, false, false, false, false, false, false, false, false, false, false, false] rfl rfl (by kernel_rfl) (fun _ _ _ h => h) (Or.inl ⟨by rfl, ?_⟩) ?_ ?_
  rotate_left
  · intro w'
    go_simp
    with_reducible rfl
  rotate_left
  · simp only [Act.put, List.setIfInBounds_toArray, List.set_cons_zero, List.set_cons_succ, i64_w, i32_w]
    rfl
  refine pure_ (i := 13) (N := (some 56)) (v := ?_) (a' := ?_) #[true, true, true, true, true, true, true, true, true, true, true, true, true, true, false, false, false, false, false, false, false, false, false, false, false, false, false, false, false, false, false, false, false, false, false, false, false, false, false, false, false, false, false, false] rfl rfl (by kernel_rfl) (fun _ _ _ h => h) (Or.inl ⟨by rfl, ?_⟩) ?_ ?_
  rotate_left
  · intro w'
    go_simp
    with_reducible rfl
  rotate_left
  · simp only [Act.put, List.setIfInBounds_toArray, List.set_cons_zero, List.set_cons_succ, i64_w, i32_w]
    rfl
  refine take_ (i := 14) (N := (some 57)) (v := ?_) (a' := ?_) #[true, true, true, true, true, true, true, true, true, true, true, true, true, true, true, false, false, false, false, false, false, false, false, false, false, false, false, false, false, false, false, false, false, false, false, false, false, false, false, false, false, false, false, false] rfl rfl (by kernel_rfl) (fun _ _ _ h => h) (Or.inl ⟨by rfl, ?_⟩) hHeld ?_ ?_
  rotate_left
  · rintro w' ⟨z0, z1, z2⟩
    refine exec_load (ty := 24) (x := .tmp 10) ?_ ?_ z1 Tryd.underlying24 rfl hi
    · rfl
    · rfl
  rotate_left
  · simp only [Act.put, List.setIfInBounds_toArray, List.set_cons_zero, List.set_cons_succ, i64_w, i32_w]
    rfl
  refine pure_ (i := 15) (N := (some 58)) (v := ?_) (a' := ?_) #[true, true, true, true, true, true, true, true, true, true, true, true, true, true, true, true, false, false, false, false, false, false, false, false, false, false, false, false, false, false, false, false, false, false, false, false, false, false, false, false, false, false, false, false] rfl rfl (by kernel_rfl) (fun _ _ _ h => h) (Or.inl ⟨by rfl, ?_⟩) ?_ ?_
  rotate_left
  · intro w'
    go_simp
    with_reducible rfl
  rotate_left
  · simp only [Act.put, List.setIfInBounds_toArray, List.set_cons_zero, List.set_cons_succ, i64_w, i32_w]
    rfl
  refine pure_ (i := 16) (N := (some 59)) (v := ?_) (a' := ?_) #[true, true, true, true, true, true, true, true, true, true, true, true, true, true, true, true, true, false, false, false, false, false, false, false, false, false, false, false, false, false, false, false, false, false, false, false, false, false, false, false, false, false, false, false] rfl rfl (by kernel_rfl) (fun _ _ _ h => h) (Or.inl ⟨by rfl, ?_⟩) ?_ ?_
  rotate_left
  · intro w'
    go_simp
    with_reducible rfl
  rotate_left
  · simp only [Act.put, List.setIfInBounds_toArray, List.set_cons_zero, List.set_cons_succ, i64_w, i32_w]
    rfl
  refine one_ (i := 17) (N := (some 60)) #[true, true, true, true, true, true, true, true, true, true, true, true, true, true, true, true, true, true, false, false, false, false, false, false, false, false, false, false, false, false, false, false, false, false, false, false, false, false, false, false, false, false, false, false] rfl rfl (by kernel_rfl) (by decide) (fun K hK => ?_)
  refine ite_wanted rfl ?_
  have hnew := heap_alloc_new (wof hHeld.1) (.cells #[.slice A la.length ca, .slice B lb.length cb] 22)
  have hS := And.intro (blk_alloc hHeld.1 (.cells #[.slice A la.length ca, .slice B lb.length cb] 22)) (And.intro (blk_alloc hHeld.2.1 (.cells #[.slice A la.length ca, .slice B lb.length cb] 22)) (below_alloc hHeld.2.2 (.cells #[.slice A la.length ca, .slice B lb.length cb] 22)))
  dsimp only [wof] at hnew
  go_simp
  refine hK.out _ _ hS (fun hHeld => ?_)
  clear hS hK K
  refine one_ (i := 18) (N := (some 61)) #[true, true, true, true, true, true, true, true, true, true, true, true, true, true, true, true, true, true, true, false, false, false, false, false, false, false, false, false, false, false, false, false, false, false, false, false, false, false, false, false, false, false, false, false] rfl rfl (by kernel_rfl) (by decide) (fun K hK => ?_)
  refine goes_ Tryd.func8 (by kernel_rfl) rfl #[.slice (some ⟨w8.heap.size, 0, none⟩) 2 2] (by rfl) rfl rfl (by (try simp only [List.map_toArray, List.map_cons, List.map_nil]); first | done | rfl) ?_
  refine (of_parts2 _ w8.heap.size (0, 0) 22 A ca la B cb lb hnew (Kd.C_below HA.out hHeld.2.2) HCA.out (Kd.C_below HBb.out hHeld.2.2) HCB.out (by have := HLA.out; have := HLB.out; omega) (HK.out.below hHeld.2.2)).mono ?_
  rintro e w9 ⟨he, hb⟩
  rw [HOF.out, HVS.out] at he
  subst he
  clear hnew
  refine ⟨_, rfl, ?_⟩
  refine hK.out _ _ ⟨blk_below hHeld.1 hb, blk_below hHeld.2.1 hb, bl hHeld.2.2 hb⟩ (fun hHeld => ?_)
  clear hK K
  refine norm_ (a' := ?_) ?_ ?_
  rotate_left
  · show Act.put _ (some 61) _ = _
    simp only [Act.put, List.setIfInBounds_toArray, List.set_cons_zero, List.set_cons_succ, i64_w, i32_w]
    rfl
  refine pure_ (i := 19) (N := (some 62)) (v := ?_) (a' := ?_) #[true, true, true, true, true, true, true, true, true, true, true, true, true, true, true, true, true, true, true, true, false, false, false, false, false, false, false, false, false, false, false, false, false, false, false, false, false, false, false, false, false, false, false, false] rfl rfl (by kernel_rfl) (fun _ _ _ h => h) (Or.inl ⟨by rfl, ?_⟩) ?_ ?_
  rotate_left
  · intro w'
    have hq := HEQ.out w'
    go_simp
    with_reducible rfl
  rotate_left
  · simp only [Act.put, List.setIfInBounds_toArray, List.set_cons_zero, List.set_cons_succ, i64_w, i32_w]
    rfl
  refine pure_ (i := 20) (N := (some 63)) (v := ?_) (a' := ?_) #[true, true, true, true, true, true, true, true, true, true, true, true, true, true, true, true, true, true, true, true, true, false, false, false, false, false, false, false, false, false, false, false, false, false, false, false, false, false, false, false, false, false, false, false] rfl rfl (by kernel_rfl) (fun _ _ _ h => h) (Or.inl ⟨by rfl, ?_⟩) ?_ ?_
  rotate_left
  · intro w'
    go_simp
    with_reducible rfl
  rotate_left
  · simp only [Act.put, List.setIfInBounds_toArray, List.set_cons_zero, List.set_cons_succ, i64_w, i32_w]
    rfl
  refine pure_ (i := 21) (N := (some 64)) (v := ?_) (a' := ?_) #[true, true, true, true, true, true, true, true, true, true, true, true, true, true, true, true, true, true, true, true, true, true, false, false, false, false, false, false, false, false, false, false, false, false, false, false, false, false, false, false, false, false, false, false] rfl rfl (by kernel_rfl) (fun _ _ _ h => h) (Or.inl ⟨by rfl, ?_⟩) ?_ ?_
  rotate_left
  · intro w'
    go_simp
    with_reducible rfl
  rotate_left
  · simp only [Act.put, List.setIfInBounds_toArray, List.set_cons_zero, List.set_cons_succ, i64_w, i32_w]
    rfl
  refine take_ (i := 22) (N := (some 65)) (v := ?_) (a' := ?_) #[true, true, true, true, true, true, true, true, true, true, true, true, true, true, true, true, true, true, true, true, true, true, true, false, false, false, false, false, false, false, false, false, false, false, false, false, false, false, false, false, false, false, false, false] rfl rfl (by kernel_rfl) (fun _ _ _ h => h) (Or.inl ⟨by rfl, ?_⟩) hHeld ?_ ?_
  rotate_left
  · rintro w' ⟨z0, z1, z2⟩
    refine exec_load (ty := 24) (x := .tmp 10) ?_ ?_ z1 Tryd.underlying24 rfl hi
    · rfl
    · rfl
  rotate_left
  · simp only [Act.put, List.setIfInBounds_toArray, List.set_cons_zero, List.set_cons_succ, i64_w, i32_w]
    rfl
  refine pure_ (i := 24) (N := (some 67)) (v := ?_) (a' := ?_) #[true, true, true, true, true, true, true, true, true, true, true, true, true, true, true, true, true, true, true, true, true, true, true, false, true, false, false, false, false, false, false, false, false, false, false, false, false, false, false, false, false, false, false, false] rfl rfl (by kernel_rfl) (fun _ _ _ h => h) (Or.inl ⟨by rfl, ?_⟩) ?_ ?_
  rotate_left
  · intro w'
    go_simp
    with_reducible rfl
  rotate_left
  · simp only [Act.put, List.setIfInBounds_toArray, List.set_cons_zero, List.set_cons_succ, i64_w, i32_w]
    rfl
  refine pure_ (i := 26) (N := (some 69)) (v := ?_) (a' := ?_) #[true, true, true, true, true, true, true, true, true, true, true, true, true, true, true, true, true, true, true, true, true, true, true, false, true, false, true, false, false, false, false, false, false, false, false, false, false, false, false, false, false, false, false, false] rfl rfl (by kernel_rfl) (fun _ _ _ h => h) (Or.inl ⟨by rfl, ?_⟩) ?_ ?_
  rotate_left
  · intro w'
    go_simp
    with_reducible rfl
  rotate_left
  · simp only [Act.put, List.setIfInBounds_toArray, List.set_cons_zero, List.set_cons_succ, i64_w, i32_w]
    rfl
  refine one_ (i := 23) (N := (some 66)) #[true, true, true, true, true, true, true, true, true, true, true, true, true, true, true, true, true, true, true, true, true, true, true, true, true, false, true, false, false, false, false, false, false, false, false, false, false, false, false, false, false, false, false, false] rfl rfl (by kernel_rfl) (by decide) (fun K hK => ?_)
  refine ite_wanted rfl ?_
  have hnew := heap_alloc_new (wof hHeld.1) (.cells #[] 5)
  have HOe := ownsRow_empty (wof hHeld.1) 5 w.heap.size (below_size hHeld.2.2) (fun _ => True) trivial (Kd.int .u8)
  dsimp only [wof] at HOe
  have hS := And.intro (blk_alloc hHeld.1 (.cells #[] 5)) (And.intro (blk_alloc hHeld.2.1 (.cells #[] 5)) (below_alloc hHeld.2.2 (.cells #[] 5)))
  dsimp only [wof] at hnew
  go_simp
  refine hK.out _ _ hS (fun hHeld => ?_)
  clear hS hK K
  refine one_ (i := 25) (N := (some 68)) #[true, true, true, true, true, true, true, true, true, true, true, true, true, true, true, true, true, true, true, true, true, true, true, true, true, true, true, false, false, false, false, false, false, false, false, false, false, false, false, false, false, false, false, false] rfl rfl (by kernel_rfl) (by decide) (fun K hK => ?_)
  refine Kd.R_append_rows_step (Kd.int .u8) (w0 := w) w.heap.size rfl (.tmp 66) (.tmp 67) 22 5 (.int .u8 0) 1 rfl Tryd.underlying22 info5 rfl (by decide) (by omega) (.slice (some ⟨w9.heap.size, 0, none⟩) 0 0) [] la A la.length ca (fun _ => True) (fun _ => False) rfl rfl HOe (Kd.C_below HA.out hHeld.2.2) (fun _ _ h => h) (fun _ h => h.elim) (fun _ _ => trivial) hHeld.2.2 (below_size hHeld.2.2) (by simp; omega) ?_
  intro v10 w10 ho hb hg hat
  refine hK.out _ _ ⟨blk_grown hHeld.1 hg (Kd.R_ne HOe hHeld.1 (by decide)), blk_grown hHeld.2.1 hg (Kd.R_ne HOe hHeld.2.1 (by decide)), hb⟩ (fun hHeld1 => ?_)
  clear hK K
  obtain ⟨A10, c10, rfl⟩ := Kd.R_slice ho
  rw [List.nil_append] at ho ⊢
  have HO10 := Aside0.mk ho
  clear ho hg hat hb hHeld
  have hHeld := hHeld1
  clear hHeld1
  refine norm_ (a' := ?_) ?_ ?_
  rotate_left
  · show Act.put _ (some 68) _ = _
    simp only [Act.put, List.setIfInBounds_toArray, List.set_cons_zero, List.set_cons_succ, i64_w, i32_w]
    rfl
  refine one_ (i := 27) (N := (some 70)) #[true, true, true, true, true, true, true, true, true, true, true, true, true, true, true, true, true, true, true, true, true, true, true, true, true, true, true, true, false, false, false, false, false, false, false, false, false, false, false, false, false, false, false, false] rfl rfl (by kernel_rfl) (by decide) (fun K hK => ?_)
  refine Kd.R_append_rows_step (Kd.int .u8) (w0 := w) w.heap.size rfl (.tmp 68) (.tmp 69) 22 5 (.int .u8 0) 1 rfl Tryd.underlying22 info5 rfl (by decide) (by omega) (.slice A10 la.length c10) la lb B lb.length cb (fun _ => True) (fun _ => False) rfl rfl HO10.out (Kd.C_below HBb.out hHeld.2.2) (fun _ _ h => h) (fun _ h => h.elim) (fun _ _ => trivial) hHeld.2.2 (below_size hHeld.2.2) (by simp; omega) ?_
  intro v11 w11 ho hb hg hat
  refine hK.out _ _ ⟨blk_grown hHeld.1 hg (Kd.R_ne HO10.out hHeld.1 (by decide)), blk_grown hHeld.2.1 hg (Kd.R_ne HO10.out hHeld.2.1 (by decide)), hb⟩ (fun hHeld1 => ?_)
  clear hK K
  obtain ⟨A11, c11, rfl⟩ := Kd.R_slice ho
  rw [List.length_append] at ho ⊢
  have HO11 := Aside0.mk ho
  clear ho hg hat hb hHeld
  have hHeld := hHeld1
  clear hHeld1
  refine norm_ (a' := ?_) ?_ ?_
  rotate_left
  · show Act.put _ (some 70) _ = _
    simp only [Act.put, List.setIfInBounds_toArray, List.set_cons_zero, List.set_cons_succ, i64_w, i32_w]
    rfl
  refine one_ (i := 28) (N := (some 71)) #[true, true, true, true, true, true, true, true, true, true, true, true, true, true, true, true, true, true, true, true, true, true, true, true, true, true, true, true, true, false, false, false, false, false, false, false, false, false, false, false, false, false, false, false] rfl rfl (by kernel_rfl) (by decide) (fun K hK => ?_)
  refine ite_wanted rfl ?_
  have hnew := heap_alloc_new (wof hHeld.1) (.cells #[.slice A11 (la.length + lb.length) c11] 22)
  have hS := And.intro (blk_alloc hHeld.1 (.cells #[.slice A11 (la.length + lb.length) c11] 22)) (And.intro (blk_alloc hHeld.2.1 (.cells #[.slice A11 (la.length + lb.length) c11] 22)) (below_alloc hHeld.2.2 (.cells #[.slice A11 (la.length + lb.length) c11] 22)))
  dsimp only [wof] at hnew
  go_simp
  refine hK.out _ _ hS (fun hHeld => ?_)
  clear hS hK K
  refine one_ (i := 29) (N := (some 72)) #[true, true, true, true, true, true, true, true, true, true, true, true, true, true, true, true, true, true, true, true, true, true, true, true, true, true, true, true, true, true, false, false, false, false, false, false, false, false, false, false, false, false, false, false] rfl rfl (by kernel_rfl) (by decide) (fun K hK => ?_)
  refine goes_ Tryd.func8 (by kernel_rfl) rfl #[.slice (some ⟨w11.heap.size, 0, none⟩) 1 1] (by rfl) rfl rfl (by (try simp only [List.map_toArray, List.map_cons, List.map_nil]); first | done | rfl) ?_
  refine (of_parts1 _ w11.heap.size (0, 0) 22 A11 c11 (la ++ lb) ?cG (by rw [List.length_append]; exact Kd.C_below (Kd.F_now (Kd.R_F HO11.out)) (below_alloc (Below.refl _ _) _)) (by rw [List.length_append]; exact (Kd.R_reads' HO11.out).2.1) (by have := HLA.out; have := HLB.out; simp; omega) (HK.out.below hHeld.2.2)).mono ?_
  (case cG => rw [List.length_append]; exact hnew)
  rintro e w12 ⟨he, hb⟩
  rw [HOF.out, HVS.out] at he
  subst he
  refine ⟨_, rfl, ?_⟩
  refine hK.out _ _ ⟨blk_below hHeld.1 hb, blk_below hHeld.2.1 hb, bl hHeld.2.2 hb⟩ (fun hHeld => ?_)
  clear hK K
  refine norm_ (a' := ?_) ?_ ?_
  rotate_left
  · show Act.put _ (some 72) _ = _
    simp only [Act.put, List.setIfInBounds_toArray, List.set_cons_zero, List.set_cons_succ, i64_w, i32_w]
    rfl
  refine pure_ (i := 30) (N := (some 73)) (v := ?_) (a' := ?_) #[true, true, true, true, true, true, true, true, true, true, true, true, true, true, true, true, true, true, true, true, true, true, true, true, true, true, true, true, true, true, true, false, false, false, false, false, false, false, false, false, false, false, false, false] rfl rfl (by kernel_rfl) (fun _ _ _ h => h) (Or.inl ⟨by rfl, ?_⟩) ?_ ?_
  rotate_left
  · intro w'
    have hq := HEQ.out w'
    go_simp
    with_reducible rfl
  rotate_left
  · simp only [Act.put, List.setIfInBounds_toArray, List.set_cons_zero, List.set_cons_succ, i64_w, i32_w]
    rfl
  refine pure_ (i := 31) (N := (some 74)) (v := ?_) (a' := ?_) #[true, true, true, true, true, true, true, true, true, true, true, true, true, true, true, true, true, true, true, true, true, true, true, true, true, true, true, true, true, true, true, true, false, false, false, false, false, false, false, false, false, false, false, false] rfl rfl (by kernel_rfl) (fun _ _ _ h => h) (Or.inl ⟨by rfl, ?_⟩) ?_ ?_
  rotate_left
  · intro w'
    go_simp
    with_reducible rfl
  rotate_left
  · simp only [Act.put, List.setIfInBounds_toArray, List.set_cons_zero, List.set_cons_succ, i64_w, i32_w]
    rfl
  refine pure_ (i := 32) (N := (some 75)) (v := ?_) (a' := ?_) #[true, true, true, true, true, true, true, true, true, true, true, true, true, true, true, true, true, true, true, true, true, true, true, true, true, true, true, true, true, true, true, true, true, false, false, false, false, false, false, false, false, false, false, false] rfl rfl (by kernel_rfl) (fun _ _ _ h => h) (Or.inl ⟨by rfl, ?_⟩) ?_ ?_
  rotate_left
  · intro w'
    go_simp
    with_reducible rfl
  rotate_left
  · simp only [Act.put, List.setIfInBounds_toArray, List.set_cons_zero, List.set_cons_succ, i64_w, i32_w]
    rfl
  refine pure_ (i := 33) (N := (some 76)) (v := ?_) (a' := ?_) #[true, true, true, true, true, true, true, true, true, true, true, true, true, true, true, true, true, true, true, true, true, true, true, true, true, true, true, true, true, true, true, true, true, true, false, false, false, false, false, false, false, false, false, false] rfl rfl (by kernel_rfl) (fun _ _ _ h => h) (Or.inl ⟨by rfl, ?_⟩) ?_ ?_
  rotate_left
  · intro w'
    go_simp
    with_reducible rfl
  rotate_left
  · simp only [Act.put, List.setIfInBounds_toArray, List.set_cons_zero, List.set_cons_succ, i64_w, i32_w]
    rfl
  refine take_ (i := 34) (N := (some 77)) (v := ?_) (a' := ?_) #[true, true, true, true, true, true, true, true, true, true, true, true, true, true, true, true, true, true, true, true, true, true, true, true, true, true, true, true, true, true, true, true, true, true, true, false, false, false, false, false, false, false, false, false] rfl rfl (by kernel_rfl) (fun _ _ _ h => h) (Or.inl ⟨by rfl, ?_⟩) hHeld ?_ ?_
  rotate_left
  · rintro w' ⟨z0, z1, z2⟩
    have hc := (blk_cell z0 9).trans (sum_cell9 R5 r1.length c5 _ hh1)
    go_simp
    with_reducible rfl
  rotate_left
  · simp only [Act.put, List.setIfInBounds_toArray, List.set_cons_zero, List.set_cons_succ, i64_w, i32_w]
    rfl
  refine pure_ (i := 35) (N := (some 78)) (v := ?_) (a' := ?_) #[true, true, true, true, true, true, true, true, true, true, true, true, true, true, true, true, true, true, true, true, true, true, true, true, true, true, true, true, true, true, true, true, true, true, true, true, false, false, false, false, false, false, false, false] rfl rfl (by kernel_rfl) (fun _ _ _ h => h) (Or.inl ⟨by rfl, ?_⟩) ?_ ?_
  rotate_left
  · intro w'
    go_simp
    with_reducible rfl
  rotate_left
  · simp only [Act.put, List.setIfInBounds_toArray, List.set_cons_zero, List.set_cons_succ, i64_w, i32_w]
    rfl
  refine pure_ (i := 36) (N := (some 79)) (v := ?_) (a' := ?_) #[true, true, true, true, true, true, true, true, true, true, true, true, true, true, true, true, true, true, true, true, true, true, true, true, true, true, true, true, true, true, true, true, true, true, true, true, true, false, false, false, false, false, false, false] rfl rfl (by kernel_rfl) (fun _ _ _ h => h) (Or.inl ⟨by rfl, ?_⟩) ?_ ?_
  rotate_left
  · intro w'
    go_simp
    with_reducible rfl
  rotate_left
  · simp only [Act.put, List.setIfInBounds_toArray, List.set_cons_zero, List.set_cons_succ, i64_w, i32_w]
    rfl
  refine pure_ (i := 37) (N := (some 80)) (v := ?_) (a' := ?_) #[true, true, true, true, true, true, true, true, true, true, true, true, true, true, true, true, true, true, true, true, true, true, true, true, true, true, true, true, true, true, true, true, true, true, true, true, true, true, false, false, false, false, false, false] rfl rfl (by kernel_rfl) (fun _ _ _ h => h) (Or.inl ⟨by rfl, ?_⟩) ?_ ?_
  rotate_left
  · intro w'
    go_simp
    with_reducible rfl
  rotate_left
  · simp only [Act.put, List.setIfInBounds_toArray, List.set_cons_zero, List.set_cons_succ, i64_w, i32_w]
    rfl
  refine pure_ (i := 38) (N := (some 81)) (v := ?_) (a' := ?_) #[true, true, true, true, true, true, true, true, true, true, true, true, true, true, true, true, true, true, true, true, true, true, true, true, true, true, true, true, true, true, true, true, true, true, true, true, true, true, true, false, false, false, false, false] rfl rfl (by kernel_rfl) (fun _ _ _ h => h) (Or.inl ⟨by rfl, ?_⟩) ?_ ?_
  rotate_left
  · intro w'
    go_simp
    with_reducible rfl
  rotate_left
  · simp only [Act.put, List.setIfInBounds_toArray, List.set_cons_zero, List.set_cons_succ, i64_w, i32_w]
    rfl
  refine pure_ (i := 39) (N := (some 82)) (v := ?_) (a' := ?_) #[true, true, true, true, true, true, true, true, true, true, true, true, true, true, true, true, true, true, true, true, true, true, true, true, true, true, true, true, true, true, true, true, true, true, true, true, true, true, true, true, false, false, false, false] rfl rfl (by kernel_rfl) (fun _ _ _ h => h) (Or.inl ⟨by rfl, ?_⟩) ?_ ?_
  rotate_left
  · intro w'
    go_simp
    with_reducible rfl
  rotate_left
  · simp only [Act.put, List.setIfInBounds_toArray, List.set_cons_zero, List.set_cons_succ, i64_w, i32_w]
    rfl
  refine pure_ (i := 40) (N := (some 83)) (v := ?_) (a' := ?_) #[true, true, true, true, true, true, true, true, true, true, true, true, true, true, true, true, true, true, true, true, true, true, true, true, true, true, true, true, true, true, true, true, true, true, true, true, true, true, true, true, true, false, false, false] rfl rfl (by kernel_rfl) (fun _ _ _ h => h) (Or.inl ⟨by rfl, ?_⟩) ?_ ?_
  rotate_left
  · intro w'
    go_simp
    with_reducible rfl
  rotate_left
  · simp only [Act.put, List.setIfInBounds_toArray, List.set_cons_zero, List.set_cons_succ, i64_w, i32_w]
    rfl
  refine pure_ (i := 41) (N := (some 84)) (v := ?_) (a' := ?_) #[true, true, true, true, true, true, true, true, true, true, true, true, true, true, true, true, true, true, true, true, true, true, true, true, true, true, true, true, true, true, true, true, true, true, true, true, true, true, true, true, true, true, false, false] rfl rfl (by kernel_rfl) (fun _ _ _ h => h) (Or.inl ⟨by rfl, ?_⟩) ?_ ?_
  rotate_left
  · intro w'
    go_simp
    with_reducible rfl
  rotate_left
  · simp only [Act.put, List.setIfInBounds_toArray, List.set_cons_zero, List.set_cons_succ, i64_w, i32_w]
    rfl
  refine pure_ (i := 42) (N := (some 85)) (v := ?_) (a' := ?_) #[true, true, true, true, true, true, true, true, true, true, true, true, true, true, true, true, true, true, true, true, true, true, true, true, true, true, true, true, true, true, true, true, true, true, true, true, true, true, true, true, true, true, true, false] rfl rfl (by kernel_rfl) (fun _ _ _ h => h) (Or.inl ⟨by rfl, ?_⟩) ?_ ?_
  rotate_left
  · intro w'
    go_simp
    with_reducible rfl
  rotate_left
  · simp only [Act.put, List.setIfInBounds_toArray, List.set_cons_zero, List.set_cons_succ, i64_w, i32_w]
    rfl
  refine pure_ (i := 43) (N := (some 4)) (v := ?_) (a' := ?_) #[true, true, true, true, true, true, true, true, true, true, true, true, true, true, true, true, true, true, true, true, true, true, true, true, true, true, true, true, true, true, true, true, true, true, true, true, true, true, true, true, true, true, true, true] rfl rfl (by kernel_rfl) (fun _ _ _ h => h) (Or.inl ⟨by rfl, ?_⟩) ?_ ?_
  rotate_left
  · intro w'
    go_simp
    with_reducible rfl
  rotate_left
  · simp only [Act.put, List.setIfInBounds_toArray, List.set_cons_zero, List.set_cons_succ, i64_w, i32_w]
    rfl
  refine done_ (by kernel_rfl) ?_
  go_wp2
  go_ret
  exact ⟨rfl, hHeld.2.2⟩
theorem law02_ShaWhole.calls (k : Nat) (A0 : Option Addr) (c0 : Nat) (l0 : List Int) (A1 : Option Addr) (c1 : Nat) (l1 : List Int) (r : Bool) (w : World) (hr0 : Kd.C (Kd.int .u8) w A0 l0.length l0) (hc0 : l0.length ≤ c0) (hr1 : Kd.C (Kd.int .u8) w A1 l1.length l1) (hc1 : l1.length ≤ c1) (h : law02_ShaWhole.f k l0 l1 = some r) (hk : Ktab w) :
    Calls Tryd.prog 7 #[.slice A0 l0.length c0, .slice A1 l1.length c1] w fun e w' => e = .returned (.bool r) ∧ Below w.heap.size w w' := by
  obtain rfl : true = r := by simpa [law02_ShaWhole.f] using h
  by_cases h0 : 500 < l0.length
  · exact whole_big A0 c0 l0 A1 c1 l1 w (.inl h0) hk
  · by_cases h1 : 500 < l1.length
    · exact whole_big A0 c0 l0 A1 c1 l1 w (.inr h1) hk
    · exact whole_small A0 c0 l0 A1 c1 l1 w hr0 hc0 hr1 hc1 (by omega) (by omega) hk
end Go.Proofs.YtfijclinefmbfaaDoor
