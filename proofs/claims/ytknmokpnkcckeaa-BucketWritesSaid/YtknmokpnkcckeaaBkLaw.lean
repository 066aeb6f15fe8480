/-
The walk of law BucketWrites.
-/
import Derived.Test.YtknmokpnkcckeaaBkRest
namespace Go.Proofs.Ytknmokpnkcckeaa
open Go.RowKit Go.Proofs.YtknmokpnkcckeaaW.PrintWords Go.Proofs.YtknmokpnkcckeaaW.PrintLast Go.Proofs.YtknmokpnkcckeaaW.PrintMore Go.Proofs.Ytknmokpnkcckeaa.PAll
set_option linter.unusedVariables false
set_option linter.unusedSimpArgs false

set_option maxHeartbeats 16000000 in
set_option maxRecDepth 100000 in
theorem bkLaw_walk (k kf kn many : Nat) (E : Int) (Z : List Int) (SO : Bool) (l0 l1 l2 l3 : Int) (A A' : Option Addr) (c c' : Nat) (xs ys : List S62) (L R L' R' : List Int) (T : S62 → List Int) (w : World) (hL : L.length = 32) (hR : R.length = 32) (hL' : L'.length = 32) (hR' : R'.length = 32) (wf3 : (Lit.int .i64 l3).wf = true)
    (hx : Kd.C k62 w A xs.length xs) (hc : xs.length ≤ c) (hy : Kd.C k62 w A' ys.length ys) (hc' : ys.length ≤ c') (hn : xs.length ≤ 1000) (hn' : ys.length ≤ 1000) (hwf : ∀ x ∈ xs, (Lit.int .i64 x.f0).wf = true) (hdt : ∀ x ∈ xs, x.f2.length < 140737488355328)
    (hga : ref09_Great.f k xs 10 = some false) (hgo : ref09_Great.f k ys 10 = some false) (htw : ref09_TwinAll.f k xs = some xs) (hrx : ref09_SameAll.f k xs xs = some true) (hro : ref09_SameAll.f k xs ys = some (sameL xs ys)) (hsx : ∀ x ∈ xs, ∀ y ∈ xs, slot_Same.f k x.f0 x.f1 x.f2 y.f0 y.f1 y.f2 = some (sameX x y)) (hso : ∀ x ∈ xs, ∀ y ∈ ys, slot_Same.f k x.f0 x.f1 x.f2 y.f0 y.f1 y.f2 = some (sameX x y))
    (hS : (decide (L = L') && decide (R = R') && sameL xs ys) = SO)
    (hmn : manyS l0 l1 l2 l3 = (many : Int)) (hE : bckS l0 l1 l2 l3 xs = E) (hZ : Z = if E = 0 then ofK l1 T xs many ++ L ++ R else []) (hT : E = 0 → ∀ x ∈ xs, ref09_Of.f kf x.f0 x.f1 x.f2 = some (T x)) (hTl : E = 0 → ∀ x ∈ xs, (T x).length ≤ 1000)
    (hgood : E = 0 → xs.length ≤ many ∧ many ≤ 4 ∧ 1 ≤ l1 ∧ l1 ≤ 32 ∧ l3 = 64 + (many : Int) * (8 + l1) ∧ (∀ x ∈ xs, slot_Write.f l0 l1 l2 l3 x.f0 x.f1 x.f2 = some (T x, 0)) ∧ (∀ x ∈ xs, (T x).length = (8 + l1).toNat) ∧ slot_None.f kn l0 l1 l2 l3 = some (List.replicate (8 + l1).toNat 0, 0)) :
    Calls Try.prog 4 #[.agg #[.int .i64 l0, .int .i64 l1, .int .i64 l2, .int .i64 l3], .agg ⟨bkC A xs.length c L R⟩, .agg ⟨bkC A' ys.length c' L' R'⟩] w fun e w' => e = .returned (.bool true) ∧ Below w.heap.size w w' := by
  have HX := Aside0.mk hx
  have HY := Aside0.mk hy
  have HC := Aside0.mk hc
  have HC' := Aside0.mk hc'
  have HN := Aside0.mk hn
  have HN' := Aside0.mk hn'
  have HWF := Aside0.mk hwf
  have HDT := Aside0.mk hdt
  have HML : Aside0 (∀ m ∈ xs.map (·.f2.length), m ≤ 140737488355328) := ⟨fun m hm => by
    obtain ⟨x, hx, rfl⟩ := List.mem_map.1 hm
    exact Nat.le_of_lt (hdt x hx)⟩
  have HGA := Aside0.mk hga
  have HGO := Aside0.mk hgo
  have HTW := Aside0.mk htw
  have HRX := Aside0.mk hrx
  have HRO := Aside0.mk hro
  have HSX := Aside0.mk hsx
  have HSO := Aside0.mk hso
  have HMN := Aside0.mk hmn
  have HE := Aside0.mk hE
  have HZ := Aside0.mk hZ
  have HT := Aside0.mk hT
  have HTL := Aside0.mk hTl
  have HGD := Aside0.mk hgood
  have HS1 := Aside0.mk hS
  have HS2 : Aside0 ((sameL xs ys && decide (L = L') && decide (R = R')) = SO) := ⟨by rw [← hS]; cases sameL xs ys <;> simp⟩
  have HS3 : Aside0 ((decide (L = L) && decide (R = R) && sameL xs xs) = true) := ⟨by simp [sameL_self]⟩
  have HS4 : Aside0 ((true && decide (L = L) && decide (R = R)) = true) := ⟨by simp⟩
  have hba := below_alloc (below_alloc (below_alloc (Below.refl w.heap.size w) (.cells #[.int .i64 l0, .int .i64 l1, .int .i64 l2, .int .i64 l3] 23)) (.cells ⟨bkC A xs.length c L R⟩ 40)) (.cells ⟨bkC A' ys.length c' L' R'⟩ 40)
  have hg0 := blk_alloc (blk_alloc (heap_alloc_new w (.cells #[.int .i64 l0, .int .i64 l1, .int .i64 l2, .int .i64 l3] 23)) (.cells ⟨bkC A xs.length c L R⟩ 40)) (.cells ⟨bkC A' ys.length c' L' R'⟩ 40)
  have hgb := blk_alloc (heap_alloc_new (w.alloc (.cells #[.int .i64 l0, .int .i64 l1, .int .i64 l2, .int .i64 l3] 23)) (.cells ⟨bkC A xs.length c L R⟩ 40)) (.cells ⟨bkC A' ys.length c' L' R'⟩ 40)
  have hgo2 := heap_alloc_new ((w.alloc (.cells #[.int .i64 l0, .int .i64 l1, .int .i64 l2, .int .i64 l3] 23)).alloc (.cells ⟨bkC A xs.length c L R⟩ 40)) (.cells ⟨bkC A' ys.length c' L' R'⟩ 40)
  rw [World.size_alloc] at hgb
  rw [World.size_alloc, World.size_alloc] at hgo2
  have HBc := Aside0.mk hba
  have HG0 := Aside0.mk hg0
  have HGb := Aside0.mk hgb
  have HGo := Aside0.mk hgo2
  clear hx hy hc hc' hn hn' hwf hdt hga hgo htw hrx hro hsx hso hS hmn hE hZ hT hTl hgood hba hg0 hgb hgo2
  have hu23 := Try.underlying23
  go_enter Try.func4, Try.ntmps4
  repeat (first
  | (go_at_call 16; (with_reducible refine (refGreat_calls k A c xs L R false _ (Kd.C_below HX.out HBc.out) HC.out HGA.out).mono ?_); rintro e2 w2 ⟨rfl, hb⟩; have HBc := Aside0.mk (bl HBc.out hb); have HG0 := Aside0.mk (blk_below HG0.out hb); have HGb := Aside0.mk (blk_below HGb.out hb); have HGo := Aside0.mk (blk_below HGo.out hb); clear hb; (try dsimp only))
  | (go_at_call 16; (with_reducible refine (refGreat_calls k A' c' ys L' R' false _ (Kd.C_below HY.out HBc.out) HC'.out HGO.out).mono ?_); rintro e3 w3 ⟨rfl, hb⟩; have HBc := Aside0.mk (bl HBc.out hb); have HG0 := Aside0.mk (blk_below HG0.out hb); have HGb := Aside0.mk (blk_below HGb.out hb); have HGo := Aside0.mk (blk_below HGo.out hb); clear hb; (try dsimp only))
  | ((with_reducible refine wpList_whole_g 40 (.tmp 4) (w.heap.size + 1) 40 (bkC A xs.length c L R) _ ?hw rfl ?hx ?hg Try.underlying40 ?hd ?hi ?_); (case hg => exact HGb.out); (case hw => rfl); (case hx => rfl); (case hd => rfl); (case hi => rw [bkC_length hL hR]; exact info40))
  | ((with_reducible refine wpList_whole_g 40 (.tmp 5) (w.heap.size + 2) 40 (bkC A' ys.length c' L' R') _ ?hw rfl ?hx ?hg Try.underlying40 ?hd ?hi ?_); (case hg => exact HGo.out); (case hw => rfl); (case hx => rfl); (case hd => rfl); (case hi => rw [bkC_length hL' hR']; exact info40))
  | (go_at_call 17; (with_reducible refine (refTwinB_calls k A c xs L R _ hL hR (Kd.C_below HX.out HBc.out) HC.out HTW.out).mono ?_); rintro e4 w4 ⟨A2, c2, rfl, hc2, hC2, hb⟩; have HBc := Aside0.mk (bl HBc.out hb); have HG0 := Aside0.mk (blk_below HG0.out hb); have HGb := Aside0.mk (blk_below HGb.out hb); have HGo := Aside0.mk (blk_below HGo.out hb); have HC2 := Aside0.mk hc2; have HO := Aside0.mk hC2; have HZ4 := Aside0.mk (heap_alloc_new w4 (.cells Try.zeroCells40 40)); clear hc2 hC2; clear hb; (try dsimp only))
  | ((with_reducible refine wpList_store 40 (.tmp 7) (.tmp 22) w4.heap.size 40 Try.zeroCells40 ⟨bkC A2 xs.length c2 L R⟩ rfl rfl ?hx ?hy ?hg ?hs ?hi ?h1 ?_); (case hg => exact HZ4.out); (case hx => rfl); (case hy => rfl); (case hs => show _ = (bkC A2 xs.length c2 L R).length; rw [bkC_length hL hR]; rfl); (case hi => show _ = some (bkC A2 xs.length c2 L R).length; rw [bkC_length hL hR]; exact info40); (case h1 => exact bk_ones _ _ _ _ _); intro w5 q1 q2 q3 q4; have hb := q3 w4.heap.size w4 (below_alloc (Below.refl _ _) (.cells Try.zeroCells40 40)) (Nat.le_refl _); have HBc := Aside0.mk (bl HBc.out hb); have HG0 := Aside0.mk (blk_below HG0.out hb); have HGb := Aside0.mk (blk_below HGb.out hb); have HGo := Aside0.mk (blk_below HGo.out hb); have HO := Aside0.mk (Kd.C_below HO.out hb); have HG7 := Aside0.mk q1; have hl0 := blk_cell HG0.out 0; have hl1 := blk_cell HG0.out 1; have hl2 := blk_cell HG0.out 2; have hl3 := blk_cell HG0.out 3; clear q1 q2 q3 q4 hb HZ4)
  | ((with_reducible refine wpList_whole_g 40 (.tmp 7) (w4.heap.size) 40 (bkC A2 xs.length c2 L R) _ ?hw rfl ?hx ?hg Try.underlying40 ?hd ?hi ?_); (case hg => exact HG7.out); (case hw => rfl); (case hx => rfl); (case hd => rfl); (case hi => rw [bkC_length hL hR]; exact info40))
  | (go_at_call 18; (with_reducible refine (wrtZ_calls kn E Z l0 l1 l2 l3 many A2 c2 xs L R T _ hL hR HO.out HN.out HWF.out HE.out HZ.out HGD.out).mono ?_); rintro e6 w6 ⟨A6, c6, rfl, hc6, hC6, hb⟩; have HBc := Aside0.mk (bl HBc.out hb); have HG0 := Aside0.mk (blk_below HG0.out hb); have HGb := Aside0.mk (blk_below HGb.out hb); have HGo := Aside0.mk (blk_below HGo.out hb); have HO := Aside0.mk (Kd.C_below HO.out hb); have HG7 := Aside0.mk (blk_below HG7.out hb); have HC6 := Aside0.mk hc6; have HX6 := Aside0.mk hC6; clear hc6 hC6 hl0 hl1 hl2 hl3; have hl0 := blk_cell HG0.out 0; have hl1 := blk_cell HG0.out 1; have hl2 := blk_cell HG0.out 2; have hl3 := blk_cell HG0.out 3; clear hb; (try dsimp only))
  | (go_at_call 19; (with_reducible refine (refWrtZ_calls kf many E Z l0 l1 l2 l3 T A c xs L R _ hL hR wf3 (Kd.C_below HX.out HBc.out) HN.out HMN.out HE.out HZ.out HT.out HTL.out).mono ?_); rintro e7 w7 ⟨A7, c7, rfl, hc7, hC7, hb⟩; have HBc := Aside0.mk (bl HBc.out hb); have HG0 := Aside0.mk (blk_below HG0.out hb); have HGb := Aside0.mk (blk_below HGb.out hb); have HGo := Aside0.mk (blk_below HGo.out hb); have HO := Aside0.mk (Kd.C_below HO.out hb); have HG7 := Aside0.mk (blk_below HG7.out hb); have HX6 := Aside0.mk (Kd.C_below HX6.out hb); have HC7 := Aside0.mk hc7; have HX7 := Aside0.mk hC7; have HGb7 := HGb; have HG77 := HG7; have HO7 := HO; have HBc7 := HBc; clear hc7 hC7 hl0 hl1 hl2 hl3; clear hb; (try dsimp only))
  | (go_at_call 20; (with_reducible refine (twinBk2_calls A2 c2 xs L R _ hL hR HO.out HN.out HDT.out).mono ?_); rintro e8 w8 ⟨A8, c8, rfl, hc8, hC8, ⟨ok, hs8, hf8, hlow8⟩, hb⟩; have HBc := Aside0.mk (bl HBc.out hb); have HG0 := Aside0.mk (blk_below HG0.out hb); have HGb := Aside0.mk (blk_below HGb.out hb); have HGo := Aside0.mk (blk_below HGo.out hb); have HO := Aside0.mk (Kd.C_below HO.out hb); have HG7 := Aside0.mk (blk_below HG7.out hb); have HX6 := Aside0.mk (Kd.C_below HX6.out hb); have HX7 := Aside0.mk (Kd.C_below HX7.out hb); have HC8 := Aside0.mk hc8; have HT8 := Aside0.mk hC8; have HS8 := Aside0.mk hs8; have HF8 := Aside0.mk hf8; have HLOW := Aside0.mk hlow8; have HB7 := Aside0.mk hb; have HZ8 := Aside0.mk (heap_alloc_new w8 (.cells Try.zeroCells40 40)); clear hc8 hC8 hs8 hf8 hlow8; clear hb; (try dsimp only))
  | ((with_reducible refine wpList_store 40 (.tmp 12) (.tmp 36) w8.heap.size 40 Try.zeroCells40 ⟨bkC A8 xs.length c8 L R⟩ rfl rfl ?hx ?hy ?hg ?hs ?hi ?h1 ?_); (case hg => exact HZ8.out); (case hx => rfl); (case hy => rfl); (case hs => show _ = (bkC A8 xs.length c8 L R).length; rw [bkC_length hL hR]; rfl); (case hi => show _ = some (bkC A8 xs.length c8 L R).length; rw [bkC_length hL hR]; exact info40); (case h1 => exact bk_ones _ _ _ _ _); intro w9 q1 q2 q3 q4; have hb := q3 w8.heap.size w8 (below_alloc (Below.refl _ _) (.cells Try.zeroCells40 40)) (Nat.le_refl _); have HBc := Aside0.mk (bl HBc.out hb); have HG0 := Aside0.mk (blk_below HG0.out hb); have HGb := Aside0.mk (blk_below HGb.out hb); have HGo := Aside0.mk (blk_below HGo.out hb); have HO := Aside0.mk (Kd.C_below HO.out hb); have HG7 := Aside0.mk (blk_below HG7.out hb); have HX6 := Aside0.mk (Kd.C_below HX6.out hb); have HX7 := Aside0.mk (Kd.C_below HX7.out hb); have HT8 := Aside0.mk (Kd.C_below HT8.out hb); have HB7 := Aside0.mk (bl HB7.out hb); have HS9 := Aside0.mk (HS8.out.belowK hb); have HF9 := Aside0.mk (HF8.out.below hb); have HG12 := Aside0.mk q1; clear HS8 HF8; clear q1 q2 q3 q4 hb HZ8)
  | go_values | go_guarded | go_step | go_upon | go_back)
  have HX9 := Aside0.mk (Kd.C_below HX.out HBc.out)
  have HY9 := Aside0.mk (Kd.C_below HY.out HBc.out)
  refine start_ (n := 18) (S := fun w' => Below w9.heap.size w9 w') (ds := []) #[false, false, false, false, false, false, false, false, false, false, false, false, false, false, false, false, false, false] (by kernel_rfl) rfl rfl (below_drew (Below.refl _ _)) (fun hHeld => ?_)
  refine pure_ (i := 0) (N := (some 37)) (v := ?_) (a' := ?_) #[true, false, false, false, false, false, false, false, false, false, false, false, false, false, false, false, false, false] rfl rfl (by kernel_rfl) (fun _ _ _ h => h) (Or.inl ⟨by rfl, ?_⟩) ?_ ?_
  rotate_left
  · intro w'
    go_simp
    with_reducible rfl
  rotate_left
  · simp only [Act.put, List.setIfInBounds_toArray, List.set_cons_zero, List.set_cons_succ, i64_w, i32_w]
    rfl
  refine pure_ (i := 1) (N := (some 38)) (v := ?_) (a' := ?_) #[true, true, false, false, false, false, false, false, false, false, false, false, false, false, false, false, false, false] rfl rfl (by kernel_rfl) (fun _ _ _ h => h) (Or.inl ⟨by rfl, ?_⟩) ?_ ?_
  rotate_left
  · intro w'
    go_simp
    with_reducible rfl
  rotate_left
  · simp only [Act.put, List.setIfInBounds_toArray, List.set_cons_zero, List.set_cons_succ, i64_w, i32_w]
    rfl
  refine one_ (i := 2) (N := (some 39)) #[true, true, true, false, false, false, false, false, false, false, false, false, false, false, false, false, false, false] rfl rfl (by kernel_rfl) (by decide) (fun K hK => ?_)
  refine goes_ Try.func21 (by kernel_rfl) rfl #[.slice A6 Z.length c6, .slice A7 Z.length c7] (by rfl) rfl rfl (by (try simp only [List.map_toArray, List.map_cons, List.map_nil]); first | done | rfl) ?_
  refine (same01_calls A6 c6 A7 c7 Z _ (Kd.C_below HX6.out hHeld) HC6.out (Kd.C_below HX7.out hHeld) HC7.out).mono ?_
  rintro e w' ⟨rfl, hb⟩
  refine ⟨_, rfl, ?_⟩
  refine hK.out _ _ (bl hHeld hb) (fun hHeld => ?_)
  clear hK K
  refine norm_ (a' := ?_) ?_ ?_
  rotate_left
  · show Act.put _ (some 39) _ = _
    simp only [Act.put, List.setIfInBounds_toArray, List.set_cons_zero, List.set_cons_succ, i64_w, i32_w]
    rfl
  refine pure_ (i := 3) (N := (some 40)) (v := ?_) (a' := ?_) #[true, true, true, true, false, false, false, false, false, false, false, false, false, false, false, false, false, false] rfl rfl (by kernel_rfl) (fun _ _ _ h => h) (Or.inl ⟨by rfl, ?_⟩) ?_ ?_
  rotate_left
  · intro w'
    go_simp
    with_reducible rfl
  rotate_left
  · simp only [Act.put, List.setIfInBounds_toArray, List.set_cons_zero, List.set_cons_succ, i64_w, i32_w]
    rfl
  refine pure_ (i := 4) (N := (some 41)) (v := ?_) (a' := ?_) #[true, true, true, true, true, false, false, false, false, false, false, false, false, false, false, false, false, false] rfl rfl (by kernel_rfl) (fun _ _ _ h => h) (Or.inl ⟨by rfl, ?_⟩) ?_ ?_
  rotate_left
  · intro w'
    go_simp
    with_reducible rfl
  rotate_left
  · simp only [Act.put, List.setIfInBounds_toArray, List.set_cons_zero, List.set_cons_succ, i64_w, i32_w]
    rfl
  refine pure_ (i := 5) (N := (some 42)) (v := ?_) (a' := ?_) #[true, true, true, true, true, true, false, false, false, false, false, false, false, false, false, false, false, false] rfl rfl (by kernel_rfl) (fun _ _ _ h => h) (Or.inl ⟨by rfl, ?_⟩) ?_ ?_
  rotate_left
  · intro w'
    go_simp
    with_reducible rfl
  rotate_left
  · simp only [Act.put, List.setIfInBounds_toArray, List.set_cons_zero, List.set_cons_succ, i64_w, i32_w]
    rfl
  refine pure_ (i := 6) (N := (some 43)) (v := ?_) (a' := ?_) #[true, true, true, true, true, true, true, false, false, false, false, false, false, false, false, false, false, false] rfl rfl (by kernel_rfl) (fun _ _ _ h => h) (Or.inl ⟨by rfl, ?_⟩) ?_ ?_
  rotate_left
  · intro w'
    go_simp
    with_reducible rfl
  rotate_left
  · simp only [Act.put, List.setIfInBounds_toArray, List.set_cons_zero, List.set_cons_succ, i64_w, i32_w]
    rfl
  refine pure_ (i := 7) (N := (some 44)) (v := ?_) (a' := ?_) #[true, true, true, true, true, true, true, true, false, false, false, false, false, false, false, false, false, false] rfl rfl (by kernel_rfl) (fun _ _ _ h => h) (Or.inl ⟨by rfl, ?_⟩) ?_ ?_
  rotate_left
  · intro w'
    go_simp
    with_reducible rfl
  rotate_left
  · simp only [Act.put, List.setIfInBounds_toArray, List.set_cons_zero, List.set_cons_succ, i64_w, i32_w]
    rfl
  refine pure_ (i := 8) (N := (some 45)) (v := ?_) (a' := ?_) #[true, true, true, true, true, true, true, true, true, false, false, false, false, false, false, false, false, false] rfl rfl (by kernel_rfl) (fun _ _ _ h => h) (Or.inl ⟨by rfl, ?_⟩) ?_ ?_
  rotate_left
  · intro w'
    go_simp
    with_reducible rfl
  rotate_left
  · simp only [Act.put, List.setIfInBounds_toArray, List.set_cons_zero, List.set_cons_succ, i64_w, i32_w]
    rfl
  refine take_ (i := 9) (N := (some 46)) (v := ?_) (a' := ?_) #[true, true, true, true, true, true, true, true, true, true, false, false, false, false, false, false, false, false] rfl rfl (by kernel_rfl) (fun _ _ _ h => h) (Or.inl ⟨by rfl, ?_⟩) hHeld ?_ ?_
  rotate_left
  · rintro w' z
    refine exec_loadB (ty := 23) (x := .tmp 3) ?_ ?_ (blk_below HG0.out z) Try.underlying23 rfl infoLB
    · rfl
    · rfl
  rotate_left
  · simp only [Act.put, List.setIfInBounds_toArray, List.set_cons_zero, List.set_cons_succ, i64_w, i32_w]
    rfl
  refine take_ (i := 10) (N := (some 47)) (v := ?_) (a' := ?_) #[true, true, true, true, true, true, true, true, true, true, true, false, false, false, false, false, false, false] rfl rfl (by kernel_rfl) (fun _ _ _ h => h) (Or.inl ⟨by rfl, ?_⟩) hHeld ?_ ?_
  rotate_left
  · rintro w' z
    refine exec_loadB (ty := 40) (x := .tmp 7) ?_ ?_ (blk_below HG7.out z) Try.underlying40 rfl (by show _ = some (bkC A2 xs.length c2 L R).length; rw [bkC_length hL hR]; exact info40)
    · rfl
    · rfl
  rotate_left
  · simp only [Act.put, List.setIfInBounds_toArray, List.set_cons_zero, List.set_cons_succ, i64_w, i32_w]
    rfl
  refine take_ (i := 12) (N := (some 49)) (v := ?_) (a' := ?_) #[true, true, true, true, true, true, true, true, true, true, true, false, true, false, false, false, false, false] rfl rfl (by kernel_rfl) (fun _ _ _ h => h) (Or.inl ⟨by rfl, ?_⟩) hHeld ?_ ?_
  rotate_left
  · rintro w' z
    refine exec_loadB (ty := 23) (x := .tmp 3) ?_ ?_ (blk_below HG0.out z) Try.underlying23 rfl infoLB
    · rfl
    · rfl
  rotate_left
  · simp only [Act.put, List.setIfInBounds_toArray, List.set_cons_zero, List.set_cons_succ, i64_w, i32_w]
    rfl
  refine take_ (i := 13) (N := (some 50)) (v := ?_) (a' := ?_) #[true, true, true, true, true, true, true, true, true, true, true, false, true, true, false, false, false, false] rfl rfl (by kernel_rfl) (fun _ _ _ h => h) (Or.inl ⟨by rfl, ?_⟩) hHeld ?_ ?_
  rotate_left
  · rintro w' z
    refine exec_loadB (ty := 40) (x := .tmp 4) ?_ ?_ (blk_below HGb.out z) Try.underlying40 rfl (by show _ = some (bkC A xs.length c L R).length; rw [bkC_length hL hR]; exact info40)
    · rfl
    · rfl
  rotate_left
  · simp only [Act.put, List.setIfInBounds_toArray, List.set_cons_zero, List.set_cons_succ, i64_w, i32_w]
    rfl
  refine one_ (i := 11) (N := (some 48)) #[true, true, true, true, true, true, true, true, true, true, true, true, true, true, false, false, false, false] rfl rfl (by kernel_rfl) (by decide) (fun K hK => ?_)
  refine goes_ Try.func22 (by kernel_rfl) rfl #[.agg #[.int .i64 l0, .int .i64 l1, .int .i64 l2, .int .i64 l3], .agg ⟨bkC A2 xs.length c2 L R⟩] (by rfl) rfl rfl (by (try simp only [List.map_toArray, List.map_cons, List.map_nil]); first | done | rfl) ?_
  refine (bcheck_calls (H := Unit) l0 l1 l2 l3 A2 c2 xs L R _ (Kd.C_below HO.out hHeld) HN.out HWF.out).mono ?_
  rintro e w' ⟨he, hb⟩
  rw [HE.out] at he
  subst he
  refine ⟨_, rfl, ?_⟩
  refine hK.out _ _ (bl hHeld hb) (fun hHeld => ?_)
  clear hK K
  refine norm_ (a' := ?_) ?_ ?_
  rotate_left
  · show Act.put _ (some 48) _ = _
    simp only [Act.put, List.setIfInBounds_toArray, List.set_cons_zero, List.set_cons_succ, i64_w, i32_w]
    rfl
  refine one_ (i := 14) (N := (some 51)) #[true, true, true, true, true, true, true, true, true, true, true, true, true, true, true, false, false, false] rfl rfl (by kernel_rfl) (by decide) (fun K hK => ?_)
  refine goes_ Try.func23 (by kernel_rfl) rfl #[.agg #[.int .i64 l0, .int .i64 l1, .int .i64 l2, .int .i64 l3], .agg ⟨bkC A xs.length c L R⟩] (by rfl) rfl rfl (by (try simp only [List.map_toArray, List.map_cons, List.map_nil]); first | done | rfl) ?_
  refine (refCheckB_calls l0 l1 l2 l3 A c xs L R _ hL hR wf3 (Kd.C_below HX9.out hHeld) HN.out).mono ?_
  rintro e w' ⟨he, hb⟩
  rw [HE.out] at he
  subst he
  refine ⟨_, rfl, ?_⟩
  refine hK.out _ _ (bl hHeld hb) (fun hHeld => ?_)
  clear hK K
  refine norm_ (a' := ?_) ?_ ?_
  rotate_left
  · show Act.put _ (some 51) _ = _
    simp only [Act.put, List.setIfInBounds_toArray, List.set_cons_zero, List.set_cons_succ, i64_w, i32_w]
    rfl
  refine pure_ (i := 15) (N := (some 52)) (v := ?_) (a' := ?_) #[true, true, true, true, true, true, true, true, true, true, true, true, true, true, true, true, false, false] rfl rfl (by kernel_rfl) (fun _ _ _ h => h) (Or.inl ⟨by rfl, ?_⟩) ?_ ?_
  rotate_left
  · intro w'
    go_simp
    with_reducible rfl
  rotate_left
  · simp only [Act.put, List.setIfInBounds_toArray, List.set_cons_zero, List.set_cons_succ, i64_w, i32_w]
    rfl
  refine pure_ (i := 16) (N := (some 53)) (v := ?_) (a' := ?_) #[true, true, true, true, true, true, true, true, true, true, true, true, true, true, true, true, true, false] rfl rfl (by kernel_rfl) (fun _ _ _ h => h) (Or.inl ⟨by rfl, ?_⟩) ?_ ?_
  rotate_left
  · intro w'
    go_simp
    with_reducible rfl
  rotate_left
  · simp only [Act.put, List.setIfInBounds_toArray, List.set_cons_zero, List.set_cons_succ, i64_w, i32_w]
    rfl
  refine pure_ (i := 17) (N := (some 13)) (v := ?_) (a' := ?_) #[true, true, true, true, true, true, true, true, true, true, true, true, true, true, true, true, true, true] rfl rfl (by kernel_rfl) (fun _ _ _ h => h) (Or.inl ⟨by rfl, ?_⟩) ?_ ?_
  rotate_left
  · intro w'
    go_simp
    with_reducible rfl
  rotate_left
  · simp only [Act.put, List.setIfInBounds_toArray, List.set_cons_zero, List.set_cons_succ, i64_w, i32_w]
    rfl
  refine done_ (by kernel_rfl) ?_
  have HS7 := Aside0.mk hHeld
  clear hHeld
  go_wp2
  refine start_ (n := 18) (S := fun w' => Below w9.heap.size w9 w') (ds := []) #[false, false, false, false, false, false, false, false, false, false, false, false, false, false, false, false, false, false] (by kernel_rfl) rfl rfl (below_drew HS7.out) (fun hHeld => ?_)
  refine take_ (i := 0) (N := (some 54)) (v := ?_) (a' := ?_) #[true, false, false, false, false, false, false, false, false, false, false, false, false, false, false, false, false, false] rfl rfl (by kernel_rfl) (fun _ _ _ h => h) (Or.inl ⟨by rfl, ?_⟩) hHeld ?_ ?_
  rotate_left
  · rintro w' z
    refine exec_loadB (ty := 40) (x := .tmp 7) ?_ ?_ (blk_below HG7.out z) Try.underlying40 rfl (by show _ = some (bkC A2 xs.length c2 L R).length; rw [bkC_length hL hR]; exact info40)
    · rfl
    · rfl
  rotate_left
  · simp only [Act.put, List.setIfInBounds_toArray, List.set_cons_zero, List.set_cons_succ, i64_w, i32_w]
    rfl
  refine take_ (i := 1) (N := (some 55)) (v := ?_) (a' := ?_) #[true, true, false, false, false, false, false, false, false, false, false, false, false, false, false, false, false, false] rfl rfl (by kernel_rfl) (fun _ _ _ h => h) (Or.inl ⟨by rfl, ?_⟩) hHeld ?_ ?_
  rotate_left
  · rintro w' z
    refine exec_loadB (ty := 40) (x := .tmp 5) ?_ ?_ (blk_below HGo.out z) Try.underlying40 rfl (by show _ = some (bkC A' ys.length c' L' R').length; rw [bkC_length hL' hR']; exact info40)
    · rfl
    · rfl
  rotate_left
  · simp only [Act.put, List.setIfInBounds_toArray, List.set_cons_zero, List.set_cons_succ, i64_w, i32_w]
    rfl
  refine take_ (i := 3) (N := (some 57)) (v := ?_) (a' := ?_) #[true, true, false, true, false, false, false, false, false, false, false, false, false, false, false, false, false, false] rfl rfl (by kernel_rfl) (fun _ _ _ h => h) (Or.inl ⟨by rfl, ?_⟩) hHeld ?_ ?_
  rotate_left
  · rintro w' z
    refine exec_loadB (ty := 40) (x := .tmp 4) ?_ ?_ (blk_below HGb.out z) Try.underlying40 rfl (by show _ = some (bkC A xs.length c L R).length; rw [bkC_length hL hR]; exact info40)
    · rfl
    · rfl
  rotate_left
  · simp only [Act.put, List.setIfInBounds_toArray, List.set_cons_zero, List.set_cons_succ, i64_w, i32_w]
    rfl
  refine take_ (i := 4) (N := (some 58)) (v := ?_) (a' := ?_) #[true, true, false, true, true, false, false, false, false, false, false, false, false, false, false, false, false, false] rfl rfl (by kernel_rfl) (fun _ _ _ h => h) (Or.inl ⟨by rfl, ?_⟩) hHeld ?_ ?_
  rotate_left
  · rintro w' z
    refine exec_loadB (ty := 40) (x := .tmp 5) ?_ ?_ (blk_below HGo.out z) Try.underlying40 rfl (by show _ = some (bkC A' ys.length c' L' R').length; rw [bkC_length hL' hR']; exact info40)
    · rfl
    · rfl
  rotate_left
  · simp only [Act.put, List.setIfInBounds_toArray, List.set_cons_zero, List.set_cons_succ, i64_w, i32_w]
    rfl
  refine one_ (i := 2) (N := (some 56)) #[true, true, true, true, true, false, false, false, false, false, false, false, false, false, false, false, false, false] rfl rfl (by kernel_rfl) (by decide) (fun K hK => ?_)
  refine goes_ Try.func24 (by kernel_rfl) rfl #[.agg ⟨bkC A2 xs.length c2 L R⟩, .agg ⟨bkC A' ys.length c' L' R'⟩] (by rfl) rfl rfl (by (try simp only [List.map_toArray, List.map_cons, List.map_nil]); first | done | rfl) ?_
  refine (sameBk_calls k A2 A' c2 c' xs ys L R L' R' _ hL hR hL' hR' (Kd.C_below HO.out hHeld) (Kd.C_below HY9.out hHeld) HN.out HN'.out HSO.out).mono ?_
  rintro e w' ⟨he, hb⟩
  rw [HS1.out] at he
  subst he
  refine ⟨_, rfl, ?_⟩
  refine hK.out _ _ (bl hHeld hb) (fun hHeld => ?_)
  clear hK K
  refine norm_ (a' := ?_) ?_ ?_
  rotate_left
  · show Act.put _ (some 56) _ = _
    simp only [Act.put, List.setIfInBounds_toArray, List.set_cons_zero, List.set_cons_succ, i64_w, i32_w]
    rfl
  refine one_ (i := 5) (N := (some 59)) #[true, true, true, true, true, true, false, false, false, false, false, false, false, false, false, false, false, false] rfl rfl (by kernel_rfl) (by decide) (fun K hK => ?_)
  refine goes_ Try.func25 (by kernel_rfl) rfl #[.agg ⟨bkC A xs.length c L R⟩, .agg ⟨bkC A' ys.length c' L' R'⟩] (by rfl) rfl rfl (by (try simp only [List.map_toArray, List.map_cons, List.map_nil]); first | done | rfl) ?_
  refine (refSameB_calls k A A' c c' xs ys L R L' R' (sameL xs ys) _ hL hR hL' hR' (Kd.C_below HX9.out hHeld) HC.out (Kd.C_below HY9.out hHeld) HC'.out HRO.out).mono ?_
  rintro e w' ⟨he, hb⟩
  rw [HS2.out] at he
  subst he
  refine ⟨_, rfl, ?_⟩
  refine hK.out _ _ (bl hHeld hb) (fun hHeld => ?_)
  clear hK K
  refine norm_ (a' := ?_) ?_ ?_
  rotate_left
  · show Act.put _ (some 59) _ = _
    simp only [Act.put, List.setIfInBounds_toArray, List.set_cons_zero, List.set_cons_succ, i64_w, i32_w]
    rfl
  refine pure_ (i := 6) (N := (some 60)) (v := ?_) (a' := ?_) #[true, true, true, true, true, true, true, false, false, false, false, false, false, false, false, false, false, false] rfl rfl (by kernel_rfl) (fun _ _ _ h => h) (Or.inl ⟨by rfl, ?_⟩) ?_ ?_
  rotate_left
  · intro w'
    go_simp
    with_reducible rfl
  rotate_left
  · simp only [Act.put, List.setIfInBounds_toArray, List.set_cons_zero, List.set_cons_succ, i64_w, i32_w]
    rfl
  refine pure_ (i := 7) (N := (some 61)) (v := ?_) (a' := ?_) #[true, true, true, true, true, true, true, true, false, false, false, false, false, false, false, false, false, false] rfl rfl (by kernel_rfl) (fun _ _ _ h => h) (Or.inl ⟨by rfl, ?_⟩) ?_ ?_
  rotate_left
  · intro w'
    go_simp
    with_reducible rfl
  rotate_left
  · simp only [Act.put, List.setIfInBounds_toArray, List.set_cons_zero, List.set_cons_succ, i64_w, i32_w]
    rfl
  refine take_ (i := 8) (N := (some 62)) (v := ?_) (a' := ?_) #[true, true, true, true, true, true, true, true, true, false, false, false, false, false, false, false, false, false] rfl rfl (by kernel_rfl) (fun _ _ _ h => h) (Or.inl ⟨by rfl, ?_⟩) hHeld ?_ ?_
  rotate_left
  · rintro w' z
    refine exec_loadB (ty := 40) (x := .tmp 7) ?_ ?_ (blk_below HG7.out z) Try.underlying40 rfl (by show _ = some (bkC A2 xs.length c2 L R).length; rw [bkC_length hL hR]; exact info40)
    · rfl
    · rfl
  rotate_left
  · simp only [Act.put, List.setIfInBounds_toArray, List.set_cons_zero, List.set_cons_succ, i64_w, i32_w]
    rfl
  refine take_ (i := 9) (N := (some 63)) (v := ?_) (a' := ?_) #[true, true, true, true, true, true, true, true, true, true, false, false, false, false, false, false, false, false] rfl rfl (by kernel_rfl) (fun _ _ _ h => h) (Or.inl ⟨by rfl, ?_⟩) hHeld ?_ ?_
  rotate_left
  · rintro w' z
    refine exec_loadB (ty := 40) (x := .tmp 4) ?_ ?_ (blk_below HGb.out z) Try.underlying40 rfl (by show _ = some (bkC A xs.length c L R).length; rw [bkC_length hL hR]; exact info40)
    · rfl
    · rfl
  rotate_left
  · simp only [Act.put, List.setIfInBounds_toArray, List.set_cons_zero, List.set_cons_succ, i64_w, i32_w]
    rfl
  refine one_ (i := 10) (N := (some 64)) #[true, true, true, true, true, true, true, true, true, true, true, false, false, false, false, false, false, false] rfl rfl (by kernel_rfl) (by decide) (fun K hK => ?_)
  refine goes_ Try.func24 (by kernel_rfl) rfl #[.agg ⟨bkC A2 xs.length c2 L R⟩, .agg ⟨bkC A xs.length c L R⟩] (by rfl) rfl rfl (by (try simp only [List.map_toArray, List.map_cons, List.map_nil]); first | done | rfl) ?_
  refine (sameBk_calls k A2 A c2 c xs xs L R L R _ hL hR hL hR (Kd.C_below HO.out hHeld) (Kd.C_below HX9.out hHeld) HN.out HN.out HSX.out).mono ?_
  rintro e w' ⟨he, hb⟩
  replace he : e = .returned (.bool true) := by rw [he]; simp [sameL_self]
  subst he
  refine ⟨_, rfl, ?_⟩
  refine hK.out _ _ (bl hHeld hb) (fun hHeld => ?_)
  clear hK K
  refine norm_ (a' := ?_) ?_ ?_
  rotate_left
  · show Act.put _ (some 64) _ = _
    simp only [Act.put, List.setIfInBounds_toArray, List.set_cons_zero, List.set_cons_succ, i64_w, i32_w]
    rfl
  refine pure_ (i := 11) (N := (some 65)) (v := ?_) (a' := ?_) #[true, true, true, true, true, true, true, true, true, true, true, true, false, false, false, false, false, false] rfl rfl (by kernel_rfl) (fun _ _ _ h => h) (Or.inl ⟨by rfl, ?_⟩) ?_ ?_
  rotate_left
  · intro w'
    go_simp
    with_reducible rfl
  rotate_left
  · simp only [Act.put, List.setIfInBounds_toArray, List.set_cons_zero, List.set_cons_succ, i64_w, i32_w]
    rfl
  refine pure_ (i := 12) (N := (some 66)) (v := ?_) (a' := ?_) #[true, true, true, true, true, true, true, true, true, true, true, true, true, false, false, false, false, false] rfl rfl (by kernel_rfl) (fun _ _ _ h => h) (Or.inl ⟨by rfl, ?_⟩) ?_ ?_
  rotate_left
  · intro w'
    go_simp
    with_reducible rfl
  rotate_left
  · simp only [Act.put, List.setIfInBounds_toArray, List.set_cons_zero, List.set_cons_succ, i64_w, i32_w]
    rfl
  refine take_ (i := 13) (N := (some 67)) (v := ?_) (a' := ?_) #[true, true, true, true, true, true, true, true, true, true, true, true, true, true, false, false, false, false] rfl rfl (by kernel_rfl) (fun _ _ _ h => h) (Or.inl ⟨by rfl, ?_⟩) hHeld ?_ ?_
  rotate_left
  · rintro w' z
    refine exec_loadB (ty := 40) (x := .tmp 12) ?_ ?_ (blk_below HG12.out z) Try.underlying40 rfl (by show _ = some (bkC A8 xs.length c8 L R).length; rw [bkC_length hL hR]; exact info40)
    · rfl
    · rfl
  rotate_left
  · simp only [Act.put, List.setIfInBounds_toArray, List.set_cons_zero, List.set_cons_succ, i64_w, i32_w]
    rfl
  refine take_ (i := 14) (N := (some 68)) (v := ?_) (a' := ?_) #[true, true, true, true, true, true, true, true, true, true, true, true, true, true, true, false, false, false] rfl rfl (by kernel_rfl) (fun _ _ _ h => h) (Or.inl ⟨by rfl, ?_⟩) hHeld ?_ ?_
  rotate_left
  · rintro w' z
    refine exec_loadB (ty := 40) (x := .tmp 4) ?_ ?_ (blk_below HGb.out z) Try.underlying40 rfl (by show _ = some (bkC A xs.length c L R).length; rw [bkC_length hL hR]; exact info40)
    · rfl
    · rfl
  rotate_left
  · simp only [Act.put, List.setIfInBounds_toArray, List.set_cons_zero, List.set_cons_succ, i64_w, i32_w]
    rfl
  refine one_ (i := 15) (N := (some 69)) #[true, true, true, true, true, true, true, true, true, true, true, true, true, true, true, true, false, false] rfl rfl (by kernel_rfl) (by decide) (fun K hK => ?_)
  refine goes_ Try.func25 (by kernel_rfl) rfl #[.agg ⟨bkC A8 xs.length c8 L R⟩, .agg ⟨bkC A xs.length c L R⟩] (by rfl) rfl rfl (by (try simp only [List.map_toArray, List.map_cons, List.map_nil]); first | done | rfl) ?_
  refine (refSameB_calls k A8 A c8 c xs xs L R L R true _ hL hR hL hR (Kd.C_below HT8.out hHeld) HC8.out (Kd.C_below HX9.out hHeld) HC.out HRX.out).mono ?_
  rintro e w' ⟨he, hb⟩
  replace he : e = .returned (.bool true) := by rw [he]; simp
  subst he
  refine ⟨_, rfl, ?_⟩
  refine hK.out _ _ (bl hHeld hb) (fun hHeld => ?_)
  clear hK K
  refine norm_ (a' := ?_) ?_ ?_
  rotate_left
  · show Act.put _ (some 69) _ = _
    simp only [Act.put, List.setIfInBounds_toArray, List.set_cons_zero, List.set_cons_succ, i64_w, i32_w]
    rfl
  refine pure_ (i := 16) (N := (some 70)) (v := ?_) (a' := ?_) #[true, true, true, true, true, true, true, true, true, true, true, true, true, true, true, true, true, false] rfl rfl (by kernel_rfl) (fun _ _ _ h => h) (Or.inl ⟨by rfl, ?_⟩) ?_ ?_
  rotate_left
  · intro w'
    go_simp
    with_reducible rfl
  rotate_left
  · simp only [Act.put, List.setIfInBounds_toArray, List.set_cons_zero, List.set_cons_succ, i64_w, i32_w]
    rfl
  refine pure_ (i := 17) (N := (some 14)) (v := ?_) (a' := ?_) #[true, true, true, true, true, true, true, true, true, true, true, true, true, true, true, true, true, true] rfl rfl (by kernel_rfl) (fun _ _ _ h => h) (Or.inl ⟨by rfl, ?_⟩) ?_ ?_
  rotate_left
  · intro w'
    go_simp
    with_reducible rfl
  rotate_left
  · simp only [Act.put, List.setIfInBounds_toArray, List.set_cons_zero, List.set_cons_succ, i64_w, i32_w]
    rfl
  refine done_ (by kernel_rfl) ?_
  have HB9 := Aside0.mk hHeld
  clear hHeld
  have HGt := Aside0.mk (blk_below HG12.out HB9.out)
  have HSB := Aside0.mk (HS9.out.belowK HB9.out)
  have HSF := Aside0.mk (HF9.out.below HB9.out)
  have HBB := Aside0.mk (bl HB7.out HB9.out)
  have HBW := Aside0.mk HBB.out.size
  repeat (first
  | ((with_reducible refine wpList_whole_g 40 (.tmp 12) (w8.heap.size) 40 (bkC A8 xs.length c8 L R) _ ?hw rfl ?hx ?hg Try.underlying40 ?hd ?hi ?_); (case hg => exact HGt.out); (case hw => rfl); (case hx => rfl); (case hd => rfl); (case hi => rw [bkC_length hL hR]; exact info40))
  | (go_at_call 26; (with_reducible refine (spoilBk_calls ok w7.heap.size A8 xs.length c8 L R (xs.map (·.f2.length)) _ (by simp) (by have := HN.out; omega) HML.out HSB.out HSF.out HLOW.out HBW.out).mono ?_); rintro eS wS ⟨rfl, hq⟩; have hb := hq _ _ HBB.out (Nat.le_refl _); have HGb := Aside0.mk (blk_below HGb7.out hb); have HG7 := Aside0.mk (blk_below HG77.out hb); have HO := Aside0.mk (Kd.C_below HO7.out hb); have HBc := Aside0.mk (bl HBc7.out hb); clear hb hq; (try dsimp only))
  | ((with_reducible refine wpList_whole_g 40 (.tmp 7) (w4.heap.size) 40 (bkC A2 xs.length c2 L R) _ ?hw rfl ?hx ?hg Try.underlying40 ?hd ?hi ?_); (case hg => exact HG7.out); (case hw => rfl); (case hx => rfl); (case hd => rfl); (case hi => rw [bkC_length hL hR]; exact info40))
  | ((with_reducible refine wpList_whole_g 40 (.tmp 4) (w.heap.size + 1) 40 (bkC A xs.length c L R) _ ?hw rfl ?hx ?hg Try.underlying40 ?hd ?hi ?_); (case hg => exact HGb.out); (case hw => rfl); (case hx => rfl); (case hd => rfl); (case hi => rw [bkC_length hL hR]; exact info40))
  | (go_at_call 25; (with_reducible refine (refSameB_calls k A2 A c2 c xs xs L R L R true _ hL hR hL hR HO.out HC2.out (Kd.C_below HX.out HBc.out) HC.out HRX.out).mono ?_); rintro eZ wZ ⟨he, hb⟩; (replace he : eZ = .returned (.bool true) := by rw [he]; simp); subst he; have HBc := Aside0.mk (bl HBc.out hb); clear hb; (try dsimp only))
  | go_values | go_guarded | go_step | go_upon | go_back)
  go_ret
  exact ⟨rfl, HBc.out⟩

set_option maxHeartbeats 16000000 in
set_option maxRecDepth 100000 in
theorem bkLaw_early1 (k : Nat) (l0 l1 l2 l3 : Int) (A A' : Option Addr) (c c' : Nat) (xs ys : List S62) (L R L' R' : List Int) (w : World) (hL : L.length = 32) (hR : R.length = 32) (hL' : L'.length = 32) (hR' : R'.length = 32)
    (hx : Kd.C k62 w A xs.length xs) (hc : xs.length ≤ c) (hy : Kd.C k62 w A' ys.length ys) (hc' : ys.length ≤ c') (hga : ref09_Great.f k xs 10 = some true) :
    Calls Try.prog 4 #[.agg #[.int .i64 l0, .int .i64 l1, .int .i64 l2, .int .i64 l3], .agg ⟨bkC A xs.length c L R⟩, .agg ⟨bkC A' ys.length c' L' R'⟩] w fun e w' => e = .returned (.bool true) ∧ Below w.heap.size w w' := by
  have HX := Aside0.mk hx
  have HY := Aside0.mk hy
  have HC := Aside0.mk hc
  have HC' := Aside0.mk hc'
  have HGA := Aside0.mk hga
  have hba := below_alloc (below_alloc (below_alloc (Below.refl w.heap.size w) (.cells #[.int .i64 l0, .int .i64 l1, .int .i64 l2, .int .i64 l3] 23)) (.cells ⟨bkC A xs.length c L R⟩ 40)) (.cells ⟨bkC A' ys.length c' L' R'⟩ 40)
  have hg0 := blk_alloc (blk_alloc (heap_alloc_new w (.cells #[.int .i64 l0, .int .i64 l1, .int .i64 l2, .int .i64 l3] 23)) (.cells ⟨bkC A xs.length c L R⟩ 40)) (.cells ⟨bkC A' ys.length c' L' R'⟩ 40)
  have hgb := blk_alloc (heap_alloc_new (w.alloc (.cells #[.int .i64 l0, .int .i64 l1, .int .i64 l2, .int .i64 l3] 23)) (.cells ⟨bkC A xs.length c L R⟩ 40)) (.cells ⟨bkC A' ys.length c' L' R'⟩ 40)
  have hgo2 := heap_alloc_new ((w.alloc (.cells #[.int .i64 l0, .int .i64 l1, .int .i64 l2, .int .i64 l3] 23)).alloc (.cells ⟨bkC A xs.length c L R⟩ 40)) (.cells ⟨bkC A' ys.length c' L' R'⟩ 40)
  rw [World.size_alloc] at hgb
  rw [World.size_alloc, World.size_alloc] at hgo2
  have HBc := Aside0.mk hba
  have HG0 := Aside0.mk hg0
  have HGb := Aside0.mk hgb
  have HGo := Aside0.mk hgo2
  clear hx hy hc hc' hga hba hg0 hgb hgo2
  have hu23 := Try.underlying23
  go_enter Try.func4, Try.ntmps4
  repeat (first
  | (go_at_call 16; (with_reducible refine (refGreat_calls k A c xs L R true _ (Kd.C_below HX.out HBc.out) HC.out HGA.out).mono ?_); rintro e2 w2 ⟨rfl, hb⟩; have HBc := Aside0.mk (bl HBc.out hb); have HG0 := Aside0.mk (blk_below HG0.out hb); have HGb := Aside0.mk (blk_below HGb.out hb); have HGo := Aside0.mk (blk_below HGo.out hb); clear hb; (try dsimp only))
  | ((with_reducible refine wpList_whole_g 40 (.tmp 4) (w.heap.size + 1) 40 (bkC A xs.length c L R) _ ?hw rfl ?hx ?hg Try.underlying40 ?hd ?hi ?_); (case hg => exact HGb.out); (case hw => rfl); (case hx => rfl); (case hd => rfl); (case hi => rw [bkC_length hL hR]; exact info40))
  | go_values | go_guarded | go_step | go_upon | go_back)
  go_ret
  exact ⟨rfl, HBc.out⟩

set_option maxHeartbeats 16000000 in
set_option maxRecDepth 100000 in
theorem bkLaw_early2 (k : Nat) (l0 l1 l2 l3 : Int) (A A' : Option Addr) (c c' : Nat) (xs ys : List S62) (L R L' R' : List Int) (w : World) (hL : L.length = 32) (hR : R.length = 32) (hL' : L'.length = 32) (hR' : R'.length = 32)
    (hx : Kd.C k62 w A xs.length xs) (hc : xs.length ≤ c) (hy : Kd.C k62 w A' ys.length ys) (hc' : ys.length ≤ c') (hga : ref09_Great.f k xs 10 = some false) (hgo : ref09_Great.f k ys 10 = some true) :
    Calls Try.prog 4 #[.agg #[.int .i64 l0, .int .i64 l1, .int .i64 l2, .int .i64 l3], .agg ⟨bkC A xs.length c L R⟩, .agg ⟨bkC A' ys.length c' L' R'⟩] w fun e w' => e = .returned (.bool true) ∧ Below w.heap.size w w' := by
  have HX := Aside0.mk hx
  have HY := Aside0.mk hy
  have HC := Aside0.mk hc
  have HC' := Aside0.mk hc'
  have HGA := Aside0.mk hga
  have HGO := Aside0.mk hgo
  have hba := below_alloc (below_alloc (below_alloc (Below.refl w.heap.size w) (.cells #[.int .i64 l0, .int .i64 l1, .int .i64 l2, .int .i64 l3] 23)) (.cells ⟨bkC A xs.length c L R⟩ 40)) (.cells ⟨bkC A' ys.length c' L' R'⟩ 40)
  have hg0 := blk_alloc (blk_alloc (heap_alloc_new w (.cells #[.int .i64 l0, .int .i64 l1, .int .i64 l2, .int .i64 l3] 23)) (.cells ⟨bkC A xs.length c L R⟩ 40)) (.cells ⟨bkC A' ys.length c' L' R'⟩ 40)
  have hgb := blk_alloc (heap_alloc_new (w.alloc (.cells #[.int .i64 l0, .int .i64 l1, .int .i64 l2, .int .i64 l3] 23)) (.cells ⟨bkC A xs.length c L R⟩ 40)) (.cells ⟨bkC A' ys.length c' L' R'⟩ 40)
  have hgo2 := heap_alloc_new ((w.alloc (.cells #[.int .i64 l0, .int .i64 l1, .int .i64 l2, .int .i64 l3] 23)).alloc (.cells ⟨bkC A xs.length c L R⟩ 40)) (.cells ⟨bkC A' ys.length c' L' R'⟩ 40)
  rw [World.size_alloc] at hgb
  rw [World.size_alloc, World.size_alloc] at hgo2
  have HBc := Aside0.mk hba
  have HG0 := Aside0.mk hg0
  have HGb := Aside0.mk hgb
  have HGo := Aside0.mk hgo2
  clear hx hy hc hc' hga hgo hba hg0 hgb hgo2
  have hu23 := Try.underlying23
  go_enter Try.func4, Try.ntmps4
  repeat (first
  | (go_at_call 16; (with_reducible refine (refGreat_calls k A c xs L R false _ (Kd.C_below HX.out HBc.out) HC.out HGA.out).mono ?_); rintro e2 w2 ⟨rfl, hb⟩; have HBc := Aside0.mk (bl HBc.out hb); have HG0 := Aside0.mk (blk_below HG0.out hb); have HGb := Aside0.mk (blk_below HGb.out hb); have HGo := Aside0.mk (blk_below HGo.out hb); clear hb; (try dsimp only))
  | (go_at_call 16; (with_reducible refine (refGreat_calls k A' c' ys L' R' true _ (Kd.C_below HY.out HBc.out) HC'.out HGO.out).mono ?_); rintro e3 w3 ⟨rfl, hb⟩; have HBc := Aside0.mk (bl HBc.out hb); have HG0 := Aside0.mk (blk_below HG0.out hb); have HGb := Aside0.mk (blk_below HGb.out hb); have HGo := Aside0.mk (blk_below HGo.out hb); clear hb; (try dsimp only))
  | ((with_reducible refine wpList_whole_g 40 (.tmp 4) (w.heap.size + 1) 40 (bkC A xs.length c L R) _ ?hw rfl ?hx ?hg Try.underlying40 ?hd ?hi ?_); (case hg => exact HGb.out); (case hw => rfl); (case hx => rfl); (case hd => rfl); (case hi => rw [bkC_length hL hR]; exact info40))
  | ((with_reducible refine wpList_whole_g 40 (.tmp 5) (w.heap.size + 2) 40 (bkC A' ys.length c' L' R') _ ?hw rfl ?hx ?hg Try.underlying40 ?hd ?hi ?_); (case hg => exact HGo.out); (case hw => rfl); (case hx => rfl); (case hd => rfl); (case hi => rw [bkC_length hL' hR']; exact info40))
  | go_values | go_guarded | go_step | go_upon | go_back)
  go_ret
  exact ⟨rfl, HBc.out⟩
end Go.Proofs.Ytknmokpnkcckeaa
