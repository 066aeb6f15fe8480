-- Printed for this claim by a program of this session, over the kit's print.
import Derived.Test.YtncpilnallghpaaPAll0
import Derived.Test.YtncpilnallghpaaPAll1
import Derived.Test.YtncpilnallghpaaPAll3
import Derived.Test.YtncpilnallghpaaPAll7
import Derived.Test.YtncpilnallghpaaPAll26
import Derived.Test.YtncpilnallghpaaPAll31
import Derived.Test.YtncpilnallghpaaHandGeo
import Derived.Test.YtncpilnallghpaaHandOn
import Derived.Test.YtncpilnallghpaaHandPath
namespace Go.Proofs.Ytncpilnallghpaa.PAll
open Go.RowKit Go.Proofs.YtncpilnallghpaaW.PrintWords Go.Proofs.YtncpilnallghpaaW.PrintLast Go.Proofs.YtncpilnallghpaaW.PrintMore
attribute [local go_sem] max2_int min2_int max_two min_two max_three min_three max_four min_four   -- for this text's walks alone
set_option linter.unusedVariables false
set_option linter.unusedSimpArgs false

/-! ### law07_GeoNames: function 12 -/
mutual
def law07_GeoNames.j0 : Nat → Bool → Int → Bool → Int → Int → Int → Int → Int → Int → Int → Int → Bool → Option (Bool)
  | 0, _, _, _, _, _, _, _, _, _, _, _, _ => none
  | k + 1, x9, x10, x11, x12, x13, x14, x15, x16, x18, x20, x22, x23 => if x10 = 0 then (if x9 = true then (if x12 = 0 then (if x11 = true then (law07_GeoNames.j1 k x18 x20 x22 x23 false) else (if x14 = 0 then (if x13 = 4 then (if x16 = 0 then (law07_GeoNames.j1 k x18 x20 x22 x23 (x15 == 7)) else (law07_GeoNames.j1 k x18 x20 x22 x23 false)) else (law07_GeoNames.j1 k x18 x20 x22 x23 false)) else (law07_GeoNames.j1 k x18 x20 x22 x23 false))) else (law07_GeoNames.j1 k x18 x20 x22 x23 false)) else (law07_GeoNames.j1 k x18 x20 x22 x23 false)) else (law07_GeoNames.j1 k x18 x20 x22 x23 false)
def law07_GeoNames.j1 : Nat → Int → Int → Int → Bool → Bool → Option (Bool)
  | 0, _, _, _, _, _ => none
  | k + 1, x18, x20, x22, x23, x24 => (law07_alive.f k).bind fun t385 => (if t385 = true then (if x23 = true then (if x24 = true then (if x18 = 2 then (if x20 = 2 then (if x22 = 2 then ((geo_Check.f k 0).bind fun t386 => (some (t386 == 2))) else (some false)) else (some false)) else (some false)) else (some false)) else (some false)) else (some false))
end
def law07_GeoNames.f (k : Nat)  : Option (Bool) := (geo_Reverse.f 3 3).bind fun bt361 => ((geo_Reverse.f 3 9).bind fun bt363 => ((geo_Deep.f k 2 0 2).bind fun bt365 => ((geo_Deep.f k 2 3 3).bind fun bt367 => ((geo_On.f 2 3 2).bind fun bt369 => ((geo_On.f 2 3 1).bind fun bt371 => ((geo_Leaves.f k 2).bind fun bt373 => ((geo_Buckets.f k 2).bind fun bt375 => ((geo_Leaves.f k 7).bind fun bt377 => ((geo_Path.f 2 4).bind fun bt379 => ((geo_On.f 2 0 1).bind fun bt383 => (if bt361.2 = 0 then (if bt361.1 = 6 then (if bt363.2 = 0 then (if bt363.1 = 4 then (if bt365.2 = 0 then (if bt365.1 = 0 then (if bt367.2 = 0 then (law07_GeoNames.j0 k bt369.1 bt369.2 bt371.1 bt371.2 bt373.1 bt373.2 bt375.1 bt375.2 bt377.2 bt379.2 bt383.2 (bt367.1 == 2)) else (law07_GeoNames.j0 k bt369.1 bt369.2 bt371.1 bt371.2 bt373.1 bt373.2 bt375.1 bt375.2 bt377.2 bt379.2 bt383.2 false)) else (law07_GeoNames.j0 k bt369.1 bt369.2 bt371.1 bt371.2 bt373.1 bt373.2 bt375.1 bt375.2 bt377.2 bt379.2 bt383.2 false)) else (law07_GeoNames.j0 k bt369.1 bt369.2 bt371.1 bt371.2 bt373.1 bt373.2 bt375.1 bt375.2 bt377.2 bt379.2 bt383.2 false)) else (law07_GeoNames.j0 k bt369.1 bt369.2 bt371.1 bt371.2 bt373.1 bt373.2 bt375.1 bt375.2 bt377.2 bt379.2 bt383.2 false)) else (law07_GeoNames.j0 k bt369.1 bt369.2 bt371.1 bt371.2 bt373.1 bt373.2 bt375.1 bt375.2 bt377.2 bt379.2 bt383.2 false)) else (law07_GeoNames.j0 k bt369.1 bt369.2 bt371.1 bt371.2 bt373.1 bt373.2 bt375.1 bt375.2 bt377.2 bt379.2 bt383.2 false)) else (law07_GeoNames.j0 k bt369.1 bt369.2 bt371.1 bt371.2 bt373.1 bt373.2 bt375.1 bt375.2 bt377.2 bt379.2 bt383.2 false))))))))))))
theorem law07_GeoNames.mono_l : ∀ k, (∀ y0 y1 y2 y3 y4 y5 y6 y7 y8 y9 y10 y11, LeO (law07_GeoNames.j0 k y0 y1 y2 y3 y4 y5 y6 y7 y8 y9 y10 y11) (law07_GeoNames.j0 (k + 1) y0 y1 y2 y3 y4 y5 y6 y7 y8 y9 y10 y11)) ∧ (∀ y0 y1 y2 y3 y4, LeO (law07_GeoNames.j1 k y0 y1 y2 y3 y4) (law07_GeoNames.j1 (k + 1) y0 y1 y2 y3 y4))
  | 0 => ⟨fun _ _ _ _ _ _ _ _ _ _ _ _ r h => by simp [law07_GeoNames.j0] at h, fun _ _ _ _ _ r h => by simp [law07_GeoNames.j1] at h⟩
  | k + 1 => by
    obtain ⟨ih0, ih1⟩ := law07_GeoNames.mono_l k
    refine ⟨?_, ?_⟩
    · intro y0 y1 y2 y3 y4 y5 y6 y7 y8 y9 y10 y11
      unfold law07_GeoNames.j0
      repeat' first
      | (with_reducible exact ih0 _ _ _ _ _ _ _ _ _ _ _ _)
      | (with_reducible exact ih1 _ _ _ _ _)
      | (with_reducible exact geo_Buckets.mono _ _)
      | (with_reducible exact geo_Check.mono _ _)
      | (with_reducible exact geo_Deep.mono _ _ _ _)
      | (with_reducible exact geo_Leaves.mono _ _)
      | (with_reducible exact law07_alive.mono _)
      | (with_reducible exact LeO.refl _)
      | (with_reducible exact LeO.none _)
      | (with_reducible refine LeO.ite ?_ ?_)
      | (with_reducible refine LeO.bind ?_ (fun _ => ?_))
      | exact ih0 _ _ _ _ _ _ _ _ _ _ _ _
      | exact ih1 _ _ _ _ _
      | exact geo_Buckets.mono _ _
      | exact geo_Check.mono _ _
      | exact geo_Deep.mono _ _ _ _
      | exact geo_Leaves.mono _ _
      | exact law07_alive.mono _
      | exact LeO.none _
      | refine LeO.ite ?_ ?_
      | refine LeO.bind ?_ (fun _ => ?_)
    · intro y0 y1 y2 y3 y4
      unfold law07_GeoNames.j1
      repeat' first
      | (with_reducible exact ih0 _ _ _ _ _ _ _ _ _ _ _ _)
      | (with_reducible exact ih1 _ _ _ _ _)
      | (with_reducible exact geo_Buckets.mono _ _)
      | (with_reducible exact geo_Check.mono _ _)
      | (with_reducible exact geo_Deep.mono _ _ _ _)
      | (with_reducible exact geo_Leaves.mono _ _)
      | (with_reducible exact law07_alive.mono _)
      | (with_reducible exact LeO.refl _)
      | (with_reducible exact LeO.none _)
      | (with_reducible refine LeO.ite ?_ ?_)
      | (with_reducible refine LeO.bind ?_ (fun _ => ?_))
      | exact ih0 _ _ _ _ _ _ _ _ _ _ _ _
      | exact ih1 _ _ _ _ _
      | exact geo_Buckets.mono _ _
      | exact geo_Check.mono _ _
      | exact geo_Deep.mono _ _ _ _
      | exact geo_Leaves.mono _ _
      | exact law07_alive.mono _
      | exact LeO.none _
      | refine LeO.ite ?_ ?_
      | refine LeO.bind ?_ (fun _ => ?_)
theorem law07_GeoNames.mono : ∀ k, LeO (law07_GeoNames.f k ) (law07_GeoNames.f (k + 1) ) := by
  intro  k
  obtain ⟨ih0, ih1⟩ := law07_GeoNames.mono_l k
  unfold law07_GeoNames.f
  repeat' first
      | (with_reducible exact ih0 _ _ _ _ _ _ _ _ _ _ _ _)
      | (with_reducible exact ih1 _ _ _ _ _)
      | (with_reducible exact geo_Buckets.mono _ _)
      | (with_reducible exact geo_Check.mono _ _)
      | (with_reducible exact geo_Deep.mono _ _ _ _)
      | (with_reducible exact geo_Leaves.mono _ _)
      | (with_reducible exact law07_alive.mono _)
      | (with_reducible exact LeO.refl _)
      | (with_reducible exact LeO.none _)
      | (with_reducible refine LeO.ite ?_ ?_)
      | (with_reducible refine LeO.bind ?_ (fun _ => ?_))
      | exact ih0 _ _ _ _ _ _ _ _ _ _ _ _
      | exact ih1 _ _ _ _ _
      | exact geo_Buckets.mono _ _
      | exact geo_Check.mono _ _
      | exact geo_Deep.mono _ _ _ _
      | exact geo_Leaves.mono _ _
      | exact law07_alive.mono _
      | exact LeO.none _
      | refine LeO.ite ?_ ?_
      | refine LeO.bind ?_ (fun _ => ?_)
set_option maxHeartbeats 8000000 in
set_option maxRecDepth 100000 in
theorem law07_GeoNames.calls (k : Nat)  (r : Bool) (w : World) (h : law07_GeoNames.f k  = some r) :
    Calls Try.prog 12 #[] w fun e w' => e = .returned (.bool r) ∧ Below w.heap.size w w' := by
  have HB := Aside0.mk (Below.refl w.heap.size w)
  have H : ((geo_Reverse.f 3 3).bind fun bt361 => ((geo_Reverse.f 3 9).bind fun bt363 => ((geo_Deep.f k 2 0 2).bind fun bt365 => ((geo_Deep.f k 2 3 3).bind fun bt367 => ((geo_On.f 2 3 2).bind fun bt369 => ((geo_On.f 2 3 1).bind fun bt371 => ((geo_Leaves.f k 2).bind fun bt373 => ((geo_Buckets.f k 2).bind fun bt375 => ((geo_Leaves.f k 7).bind fun bt377 => ((geo_Path.f 2 4).bind fun bt379 => ((geo_On.f 2 0 1).bind fun bt383 => (if bt361.2 = 0 then (if bt361.1 = 6 then (if bt363.2 = 0 then (if bt363.1 = 4 then (if bt365.2 = 0 then (if bt365.1 = 0 then (if bt367.2 = 0 then (law07_GeoNames.j0 k bt369.1 bt369.2 bt371.1 bt371.2 bt373.1 bt373.2 bt375.1 bt375.2 bt377.2 bt379.2 bt383.2 (bt367.1 == 2)) else (law07_GeoNames.j0 k bt369.1 bt369.2 bt371.1 bt371.2 bt373.1 bt373.2 bt375.1 bt375.2 bt377.2 bt379.2 bt383.2 false)) else (law07_GeoNames.j0 k bt369.1 bt369.2 bt371.1 bt371.2 bt373.1 bt373.2 bt375.1 bt375.2 bt377.2 bt379.2 bt383.2 false)) else (law07_GeoNames.j0 k bt369.1 bt369.2 bt371.1 bt371.2 bt373.1 bt373.2 bt375.1 bt375.2 bt377.2 bt379.2 bt383.2 false)) else (law07_GeoNames.j0 k bt369.1 bt369.2 bt371.1 bt371.2 bt373.1 bt373.2 bt375.1 bt375.2 bt377.2 bt379.2 bt383.2 false)) else (law07_GeoNames.j0 k bt369.1 bt369.2 bt371.1 bt371.2 bt373.1 bt373.2 bt375.1 bt375.2 bt377.2 bt379.2 bt383.2 false)) else (law07_GeoNames.j0 k bt369.1 bt369.2 bt371.1 bt371.2 bt373.1 bt373.2 bt375.1 bt375.2 bt377.2 bt379.2 bt383.2 false)) else (law07_GeoNames.j0 k bt369.1 bt369.2 bt371.1 bt371.2 bt373.1 bt373.2 bt375.1 bt375.2 bt377.2 bt379.2 bt383.2 false))))))))))))) = some r := h
  clear h
  replace H := Option.bind_eq_some_iff.mp H
  obtain ⟨⟨t361, t362⟩, A10, H⟩ := H
  replace H : ((geo_Reverse.f 3 9).bind fun bt363 => ((geo_Deep.f k 2 0 2).bind fun bt365 => ((geo_Deep.f k 2 3 3).bind fun bt367 => ((geo_On.f 2 3 2).bind fun bt369 => ((geo_On.f 2 3 1).bind fun bt371 => ((geo_Leaves.f k 2).bind fun bt373 => ((geo_Buckets.f k 2).bind fun bt375 => ((geo_Leaves.f k 7).bind fun bt377 => ((geo_Path.f 2 4).bind fun bt379 => ((geo_On.f 2 0 1).bind fun bt383 => (if t362 = 0 then (if t361 = 6 then (if bt363.2 = 0 then (if bt363.1 = 4 then (if bt365.2 = 0 then (if bt365.1 = 0 then (if bt367.2 = 0 then (law07_GeoNames.j0 k bt369.1 bt369.2 bt371.1 bt371.2 bt373.1 bt373.2 bt375.1 bt375.2 bt377.2 bt379.2 bt383.2 (bt367.1 == 2)) else (law07_GeoNames.j0 k bt369.1 bt369.2 bt371.1 bt371.2 bt373.1 bt373.2 bt375.1 bt375.2 bt377.2 bt379.2 bt383.2 false)) else (law07_GeoNames.j0 k bt369.1 bt369.2 bt371.1 bt371.2 bt373.1 bt373.2 bt375.1 bt375.2 bt377.2 bt379.2 bt383.2 false)) else (law07_GeoNames.j0 k bt369.1 bt369.2 bt371.1 bt371.2 bt373.1 bt373.2 bt375.1 bt375.2 bt377.2 bt379.2 bt383.2 false)) else (law07_GeoNames.j0 k bt369.1 bt369.2 bt371.1 bt371.2 bt373.1 bt373.2 bt375.1 bt375.2 bt377.2 bt379.2 bt383.2 false)) else (law07_GeoNames.j0 k bt369.1 bt369.2 bt371.1 bt371.2 bt373.1 bt373.2 bt375.1 bt375.2 bt377.2 bt379.2 bt383.2 false)) else (law07_GeoNames.j0 k bt369.1 bt369.2 bt371.1 bt371.2 bt373.1 bt373.2 bt375.1 bt375.2 bt377.2 bt379.2 bt383.2 false)) else (law07_GeoNames.j0 k bt369.1 bt369.2 bt371.1 bt371.2 bt373.1 bt373.2 bt375.1 bt375.2 bt377.2 bt379.2 bt383.2 false)))))))))))) = some r := H
  have A1 := Aside0.mk A10
  clear A10
  replace H := Option.bind_eq_some_iff.mp H
  obtain ⟨⟨t363, t364⟩, A20, H⟩ := H
  replace H : ((geo_Deep.f k 2 0 2).bind fun bt365 => ((geo_Deep.f k 2 3 3).bind fun bt367 => ((geo_On.f 2 3 2).bind fun bt369 => ((geo_On.f 2 3 1).bind fun bt371 => ((geo_Leaves.f k 2).bind fun bt373 => ((geo_Buckets.f k 2).bind fun bt375 => ((geo_Leaves.f k 7).bind fun bt377 => ((geo_Path.f 2 4).bind fun bt379 => ((geo_On.f 2 0 1).bind fun bt383 => (if t362 = 0 then (if t361 = 6 then (if t364 = 0 then (if t363 = 4 then (if bt365.2 = 0 then (if bt365.1 = 0 then (if bt367.2 = 0 then (law07_GeoNames.j0 k bt369.1 bt369.2 bt371.1 bt371.2 bt373.1 bt373.2 bt375.1 bt375.2 bt377.2 bt379.2 bt383.2 (bt367.1 == 2)) else (law07_GeoNames.j0 k bt369.1 bt369.2 bt371.1 bt371.2 bt373.1 bt373.2 bt375.1 bt375.2 bt377.2 bt379.2 bt383.2 false)) else (law07_GeoNames.j0 k bt369.1 bt369.2 bt371.1 bt371.2 bt373.1 bt373.2 bt375.1 bt375.2 bt377.2 bt379.2 bt383.2 false)) else (law07_GeoNames.j0 k bt369.1 bt369.2 bt371.1 bt371.2 bt373.1 bt373.2 bt375.1 bt375.2 bt377.2 bt379.2 bt383.2 false)) else (law07_GeoNames.j0 k bt369.1 bt369.2 bt371.1 bt371.2 bt373.1 bt373.2 bt375.1 bt375.2 bt377.2 bt379.2 bt383.2 false)) else (law07_GeoNames.j0 k bt369.1 bt369.2 bt371.1 bt371.2 bt373.1 bt373.2 bt375.1 bt375.2 bt377.2 bt379.2 bt383.2 false)) else (law07_GeoNames.j0 k bt369.1 bt369.2 bt371.1 bt371.2 bt373.1 bt373.2 bt375.1 bt375.2 bt377.2 bt379.2 bt383.2 false)) else (law07_GeoNames.j0 k bt369.1 bt369.2 bt371.1 bt371.2 bt373.1 bt373.2 bt375.1 bt375.2 bt377.2 bt379.2 bt383.2 false))))))))))) = some r := H
  have A2 := Aside0.mk A20
  clear A20
  replace H := Option.bind_eq_some_iff.mp H
  obtain ⟨⟨t365, t366⟩, A30, H⟩ := H
  replace H : ((geo_Deep.f k 2 3 3).bind fun bt367 => ((geo_On.f 2 3 2).bind fun bt369 => ((geo_On.f 2 3 1).bind fun bt371 => ((geo_Leaves.f k 2).bind fun bt373 => ((geo_Buckets.f k 2).bind fun bt375 => ((geo_Leaves.f k 7).bind fun bt377 => ((geo_Path.f 2 4).bind fun bt379 => ((geo_On.f 2 0 1).bind fun bt383 => (if t362 = 0 then (if t361 = 6 then (if t364 = 0 then (if t363 = 4 then (if t366 = 0 then (if t365 = 0 then (if bt367.2 = 0 then (law07_GeoNames.j0 k bt369.1 bt369.2 bt371.1 bt371.2 bt373.1 bt373.2 bt375.1 bt375.2 bt377.2 bt379.2 bt383.2 (bt367.1 == 2)) else (law07_GeoNames.j0 k bt369.1 bt369.2 bt371.1 bt371.2 bt373.1 bt373.2 bt375.1 bt375.2 bt377.2 bt379.2 bt383.2 false)) else (law07_GeoNames.j0 k bt369.1 bt369.2 bt371.1 bt371.2 bt373.1 bt373.2 bt375.1 bt375.2 bt377.2 bt379.2 bt383.2 false)) else (law07_GeoNames.j0 k bt369.1 bt369.2 bt371.1 bt371.2 bt373.1 bt373.2 bt375.1 bt375.2 bt377.2 bt379.2 bt383.2 false)) else (law07_GeoNames.j0 k bt369.1 bt369.2 bt371.1 bt371.2 bt373.1 bt373.2 bt375.1 bt375.2 bt377.2 bt379.2 bt383.2 false)) else (law07_GeoNames.j0 k bt369.1 bt369.2 bt371.1 bt371.2 bt373.1 bt373.2 bt375.1 bt375.2 bt377.2 bt379.2 bt383.2 false)) else (law07_GeoNames.j0 k bt369.1 bt369.2 bt371.1 bt371.2 bt373.1 bt373.2 bt375.1 bt375.2 bt377.2 bt379.2 bt383.2 false)) else (law07_GeoNames.j0 k bt369.1 bt369.2 bt371.1 bt371.2 bt373.1 bt373.2 bt375.1 bt375.2 bt377.2 bt379.2 bt383.2 false)))))))))) = some r := H
  have A3 := Aside0.mk A30
  clear A30
  replace H := Option.bind_eq_some_iff.mp H
  obtain ⟨⟨t367, t368⟩, A40, H⟩ := H
  replace H : ((geo_On.f 2 3 2).bind fun bt369 => ((geo_On.f 2 3 1).bind fun bt371 => ((geo_Leaves.f k 2).bind fun bt373 => ((geo_Buckets.f k 2).bind fun bt375 => ((geo_Leaves.f k 7).bind fun bt377 => ((geo_Path.f 2 4).bind fun bt379 => ((geo_On.f 2 0 1).bind fun bt383 => (if t362 = 0 then (if t361 = 6 then (if t364 = 0 then (if t363 = 4 then (if t366 = 0 then (if t365 = 0 then (if t368 = 0 then (law07_GeoNames.j0 k bt369.1 bt369.2 bt371.1 bt371.2 bt373.1 bt373.2 bt375.1 bt375.2 bt377.2 bt379.2 bt383.2 (t367 == 2)) else (law07_GeoNames.j0 k bt369.1 bt369.2 bt371.1 bt371.2 bt373.1 bt373.2 bt375.1 bt375.2 bt377.2 bt379.2 bt383.2 false)) else (law07_GeoNames.j0 k bt369.1 bt369.2 bt371.1 bt371.2 bt373.1 bt373.2 bt375.1 bt375.2 bt377.2 bt379.2 bt383.2 false)) else (law07_GeoNames.j0 k bt369.1 bt369.2 bt371.1 bt371.2 bt373.1 bt373.2 bt375.1 bt375.2 bt377.2 bt379.2 bt383.2 false)) else (law07_GeoNames.j0 k bt369.1 bt369.2 bt371.1 bt371.2 bt373.1 bt373.2 bt375.1 bt375.2 bt377.2 bt379.2 bt383.2 false)) else (law07_GeoNames.j0 k bt369.1 bt369.2 bt371.1 bt371.2 bt373.1 bt373.2 bt375.1 bt375.2 bt377.2 bt379.2 bt383.2 false)) else (law07_GeoNames.j0 k bt369.1 bt369.2 bt371.1 bt371.2 bt373.1 bt373.2 bt375.1 bt375.2 bt377.2 bt379.2 bt383.2 false)) else (law07_GeoNames.j0 k bt369.1 bt369.2 bt371.1 bt371.2 bt373.1 bt373.2 bt375.1 bt375.2 bt377.2 bt379.2 bt383.2 false))))))))) = some r := H
  have A4 := Aside0.mk A40
  clear A40
  replace H := Option.bind_eq_some_iff.mp H
  obtain ⟨⟨t369, t370⟩, A50, H⟩ := H
  replace H : ((geo_On.f 2 3 1).bind fun bt371 => ((geo_Leaves.f k 2).bind fun bt373 => ((geo_Buckets.f k 2).bind fun bt375 => ((geo_Leaves.f k 7).bind fun bt377 => ((geo_Path.f 2 4).bind fun bt379 => ((geo_On.f 2 0 1).bind fun bt383 => (if t362 = 0 then (if t361 = 6 then (if t364 = 0 then (if t363 = 4 then (if t366 = 0 then (if t365 = 0 then (if t368 = 0 then (law07_GeoNames.j0 k t369 t370 bt371.1 bt371.2 bt373.1 bt373.2 bt375.1 bt375.2 bt377.2 bt379.2 bt383.2 (t367 == 2)) else (law07_GeoNames.j0 k t369 t370 bt371.1 bt371.2 bt373.1 bt373.2 bt375.1 bt375.2 bt377.2 bt379.2 bt383.2 false)) else (law07_GeoNames.j0 k t369 t370 bt371.1 bt371.2 bt373.1 bt373.2 bt375.1 bt375.2 bt377.2 bt379.2 bt383.2 false)) else (law07_GeoNames.j0 k t369 t370 bt371.1 bt371.2 bt373.1 bt373.2 bt375.1 bt375.2 bt377.2 bt379.2 bt383.2 false)) else (law07_GeoNames.j0 k t369 t370 bt371.1 bt371.2 bt373.1 bt373.2 bt375.1 bt375.2 bt377.2 bt379.2 bt383.2 false)) else (law07_GeoNames.j0 k t369 t370 bt371.1 bt371.2 bt373.1 bt373.2 bt375.1 bt375.2 bt377.2 bt379.2 bt383.2 false)) else (law07_GeoNames.j0 k t369 t370 bt371.1 bt371.2 bt373.1 bt373.2 bt375.1 bt375.2 bt377.2 bt379.2 bt383.2 false)) else (law07_GeoNames.j0 k t369 t370 bt371.1 bt371.2 bt373.1 bt373.2 bt375.1 bt375.2 bt377.2 bt379.2 bt383.2 false)))))))) = some r := H
  have A5 := Aside0.mk A50
  clear A50
  replace H := Option.bind_eq_some_iff.mp H
  obtain ⟨⟨t371, t372⟩, A60, H⟩ := H
  replace H : ((geo_Leaves.f k 2).bind fun bt373 => ((geo_Buckets.f k 2).bind fun bt375 => ((geo_Leaves.f k 7).bind fun bt377 => ((geo_Path.f 2 4).bind fun bt379 => ((geo_On.f 2 0 1).bind fun bt383 => (if t362 = 0 then (if t361 = 6 then (if t364 = 0 then (if t363 = 4 then (if t366 = 0 then (if t365 = 0 then (if t368 = 0 then (law07_GeoNames.j0 k t369 t370 t371 t372 bt373.1 bt373.2 bt375.1 bt375.2 bt377.2 bt379.2 bt383.2 (t367 == 2)) else (law07_GeoNames.j0 k t369 t370 t371 t372 bt373.1 bt373.2 bt375.1 bt375.2 bt377.2 bt379.2 bt383.2 false)) else (law07_GeoNames.j0 k t369 t370 t371 t372 bt373.1 bt373.2 bt375.1 bt375.2 bt377.2 bt379.2 bt383.2 false)) else (law07_GeoNames.j0 k t369 t370 t371 t372 bt373.1 bt373.2 bt375.1 bt375.2 bt377.2 bt379.2 bt383.2 false)) else (law07_GeoNames.j0 k t369 t370 t371 t372 bt373.1 bt373.2 bt375.1 bt375.2 bt377.2 bt379.2 bt383.2 false)) else (law07_GeoNames.j0 k t369 t370 t371 t372 bt373.1 bt373.2 bt375.1 bt375.2 bt377.2 bt379.2 bt383.2 false)) else (law07_GeoNames.j0 k t369 t370 t371 t372 bt373.1 bt373.2 bt375.1 bt375.2 bt377.2 bt379.2 bt383.2 false)) else (law07_GeoNames.j0 k t369 t370 t371 t372 bt373.1 bt373.2 bt375.1 bt375.2 bt377.2 bt379.2 bt383.2 false))))))) = some r := H
  have A6 := Aside0.mk A60
  clear A60
  replace H := Option.bind_eq_some_iff.mp H
  obtain ⟨⟨t373, t374⟩, A70, H⟩ := H
  replace H : ((geo_Buckets.f k 2).bind fun bt375 => ((geo_Leaves.f k 7).bind fun bt377 => ((geo_Path.f 2 4).bind fun bt379 => ((geo_On.f 2 0 1).bind fun bt383 => (if t362 = 0 then (if t361 = 6 then (if t364 = 0 then (if t363 = 4 then (if t366 = 0 then (if t365 = 0 then (if t368 = 0 then (law07_GeoNames.j0 k t369 t370 t371 t372 t373 t374 bt375.1 bt375.2 bt377.2 bt379.2 bt383.2 (t367 == 2)) else (law07_GeoNames.j0 k t369 t370 t371 t372 t373 t374 bt375.1 bt375.2 bt377.2 bt379.2 bt383.2 false)) else (law07_GeoNames.j0 k t369 t370 t371 t372 t373 t374 bt375.1 bt375.2 bt377.2 bt379.2 bt383.2 false)) else (law07_GeoNames.j0 k t369 t370 t371 t372 t373 t374 bt375.1 bt375.2 bt377.2 bt379.2 bt383.2 false)) else (law07_GeoNames.j0 k t369 t370 t371 t372 t373 t374 bt375.1 bt375.2 bt377.2 bt379.2 bt383.2 false)) else (law07_GeoNames.j0 k t369 t370 t371 t372 t373 t374 bt375.1 bt375.2 bt377.2 bt379.2 bt383.2 false)) else (law07_GeoNames.j0 k t369 t370 t371 t372 t373 t374 bt375.1 bt375.2 bt377.2 bt379.2 bt383.2 false)) else (law07_GeoNames.j0 k t369 t370 t371 t372 t373 t374 bt375.1 bt375.2 bt377.2 bt379.2 bt383.2 false)))))) = some r := H
  have A7 := Aside0.mk A70
  clear A70
  replace H := Option.bind_eq_some_iff.mp H
  obtain ⟨⟨t375, t376⟩, A80, H⟩ := H
  replace H : ((geo_Leaves.f k 7).bind fun bt377 => ((geo_Path.f 2 4).bind fun bt379 => ((geo_On.f 2 0 1).bind fun bt383 => (if t362 = 0 then (if t361 = 6 then (if t364 = 0 then (if t363 = 4 then (if t366 = 0 then (if t365 = 0 then (if t368 = 0 then (law07_GeoNames.j0 k t369 t370 t371 t372 t373 t374 t375 t376 bt377.2 bt379.2 bt383.2 (t367 == 2)) else (law07_GeoNames.j0 k t369 t370 t371 t372 t373 t374 t375 t376 bt377.2 bt379.2 bt383.2 false)) else (law07_GeoNames.j0 k t369 t370 t371 t372 t373 t374 t375 t376 bt377.2 bt379.2 bt383.2 false)) else (law07_GeoNames.j0 k t369 t370 t371 t372 t373 t374 t375 t376 bt377.2 bt379.2 bt383.2 false)) else (law07_GeoNames.j0 k t369 t370 t371 t372 t373 t374 t375 t376 bt377.2 bt379.2 bt383.2 false)) else (law07_GeoNames.j0 k t369 t370 t371 t372 t373 t374 t375 t376 bt377.2 bt379.2 bt383.2 false)) else (law07_GeoNames.j0 k t369 t370 t371 t372 t373 t374 t375 t376 bt377.2 bt379.2 bt383.2 false)) else (law07_GeoNames.j0 k t369 t370 t371 t372 t373 t374 t375 t376 bt377.2 bt379.2 bt383.2 false))))) = some r := H
  have A8 := Aside0.mk A80
  clear A80
  replace H := Option.bind_eq_some_iff.mp H
  obtain ⟨⟨t377, t378⟩, A90, H⟩ := H
  replace H : ((geo_Path.f 2 4).bind fun bt379 => ((geo_On.f 2 0 1).bind fun bt383 => (if t362 = 0 then (if t361 = 6 then (if t364 = 0 then (if t363 = 4 then (if t366 = 0 then (if t365 = 0 then (if t368 = 0 then (law07_GeoNames.j0 k t369 t370 t371 t372 t373 t374 t375 t376 t378 bt379.2 bt383.2 (t367 == 2)) else (law07_GeoNames.j0 k t369 t370 t371 t372 t373 t374 t375 t376 t378 bt379.2 bt383.2 false)) else (law07_GeoNames.j0 k t369 t370 t371 t372 t373 t374 t375 t376 t378 bt379.2 bt383.2 false)) else (law07_GeoNames.j0 k t369 t370 t371 t372 t373 t374 t375 t376 t378 bt379.2 bt383.2 false)) else (law07_GeoNames.j0 k t369 t370 t371 t372 t373 t374 t375 t376 t378 bt379.2 bt383.2 false)) else (law07_GeoNames.j0 k t369 t370 t371 t372 t373 t374 t375 t376 t378 bt379.2 bt383.2 false)) else (law07_GeoNames.j0 k t369 t370 t371 t372 t373 t374 t375 t376 t378 bt379.2 bt383.2 false)) else (law07_GeoNames.j0 k t369 t370 t371 t372 t373 t374 t375 t376 t378 bt379.2 bt383.2 false)))) = some r := H
  have A9 := Aside0.mk A90
  clear A90
  replace H := Option.bind_eq_some_iff.mp H
  obtain ⟨⟨t379, t380⟩, A100, H⟩ := H
  replace H : ((geo_On.f 2 0 1).bind fun bt383 => (if t362 = 0 then (if t361 = 6 then (if t364 = 0 then (if t363 = 4 then (if t366 = 0 then (if t365 = 0 then (if t368 = 0 then (law07_GeoNames.j0 k t369 t370 t371 t372 t373 t374 t375 t376 t378 t380 bt383.2 (t367 == 2)) else (law07_GeoNames.j0 k t369 t370 t371 t372 t373 t374 t375 t376 t378 t380 bt383.2 false)) else (law07_GeoNames.j0 k t369 t370 t371 t372 t373 t374 t375 t376 t378 t380 bt383.2 false)) else (law07_GeoNames.j0 k t369 t370 t371 t372 t373 t374 t375 t376 t378 t380 bt383.2 false)) else (law07_GeoNames.j0 k t369 t370 t371 t372 t373 t374 t375 t376 t378 t380 bt383.2 false)) else (law07_GeoNames.j0 k t369 t370 t371 t372 t373 t374 t375 t376 t378 t380 bt383.2 false)) else (law07_GeoNames.j0 k t369 t370 t371 t372 t373 t374 t375 t376 t378 t380 bt383.2 false)) else (law07_GeoNames.j0 k t369 t370 t371 t372 t373 t374 t375 t376 t378 t380 bt383.2 false))) = some r := H
  have A10 := Aside0.mk A100
  clear A100
  replace H := Option.bind_eq_some_iff.mp H
  obtain ⟨⟨t383, t384⟩, A110, H⟩ := H
  replace H : (if t362 = 0 then (if t361 = 6 then (if t364 = 0 then (if t363 = 4 then (if t366 = 0 then (if t365 = 0 then (if t368 = 0 then (law07_GeoNames.j0 k t369 t370 t371 t372 t373 t374 t375 t376 t378 t380 t384 (t367 == 2)) else (law07_GeoNames.j0 k t369 t370 t371 t372 t373 t374 t375 t376 t378 t380 t384 false)) else (law07_GeoNames.j0 k t369 t370 t371 t372 t373 t374 t375 t376 t378 t380 t384 false)) else (law07_GeoNames.j0 k t369 t370 t371 t372 t373 t374 t375 t376 t378 t380 t384 false)) else (law07_GeoNames.j0 k t369 t370 t371 t372 t373 t374 t375 t376 t378 t380 t384 false)) else (law07_GeoNames.j0 k t369 t370 t371 t372 t373 t374 t375 t376 t378 t380 t384 false)) else (law07_GeoNames.j0 k t369 t370 t371 t372 t373 t374 t375 t376 t378 t380 t384 false)) else (law07_GeoNames.j0 k t369 t370 t371 t372 t373 t374 t375 t376 t378 t380 t384 false)) = some r := H
  have A11 := Aside0.mk A110
  clear A110
  have HC12 := Aside0.mk H
  clear H
  go_enter Try.func12, Try.ntmps12
  go_upto_region 12 with (first | ((with_reducible refine gate_callee (f := 17) rfl ?_); refine goesL_ (some 26) rfl rfl Try.func17 (by kernel_rfl) rfl #[.int .i64 3, .int .u64 3] rfl (by (try simp only [List.map_toArray, List.map_cons, List.map_nil]); first | done | rfl | (simp only [List.length_drop, List.length_take]; rfl)) ?_; (with_reducible refine (geo_Reverse.calls 3 3 t361 t362 _ A1.out).mono ?_); rintro e w13 ⟨rfl, hb⟩; refine ⟨_, rfl, ?_⟩; have n0_ := Aside0.mk (below_step (by repeat (first | (with_reducible first | exact HB.out | apply below_alloc | apply pw_below_drewN | apply below_drew1) | exact HB.out)) hb); clear HB; have HB := n0_; clear n0_; (try clear hb); (try clear hb2); (try clear hk); (try clear hi)) | ((with_reducible refine gate_callee (f := 17) rfl ?_); refine goesL_ (some 30) rfl rfl Try.func17 (by kernel_rfl) rfl #[.int .i64 3, .int .u64 9] rfl (by (try simp only [List.map_toArray, List.map_cons, List.map_nil]); first | done | rfl | (simp only [List.length_drop, List.length_take]; rfl)) ?_; (with_reducible refine (geo_Reverse.calls 3 9 t363 t364 _ A2.out).mono ?_); rintro e w14 ⟨rfl, hb⟩; refine ⟨_, rfl, ?_⟩; have n0_ := Aside0.mk (below_step (by repeat (first | (with_reducible first | exact HB.out | apply below_alloc | apply pw_below_drewN | apply below_drew1) | exact HB.out)) hb); clear HB; have HB := n0_; clear n0_; (try clear hb); (try clear hb2); (try clear hk); (try clear hi)) | ((with_reducible refine gate_callee (f := 35) rfl ?_); refine goesL_ (some 34) rfl rfl Try.func35 (by kernel_rfl) rfl #[.int .i64 2, .int .i64 0, .int .i64 2] rfl (by (try simp only [List.map_toArray, List.map_cons, List.map_nil]); first | done | rfl | (simp only [List.length_drop, List.length_take]; rfl)) ?_; (with_reducible refine (geo_Deep.calls k 2 0 2 t365 t366 _ A3.out).mono ?_); rintro e w15 ⟨rfl, hb⟩; refine ⟨_, rfl, ?_⟩; have n0_ := Aside0.mk (below_step (by repeat (first | (with_reducible first | exact HB.out | apply below_alloc | apply pw_below_drewN | apply below_drew1) | exact HB.out)) hb); clear HB; have HB := n0_; clear n0_; (try clear hb); (try clear hb2); (try clear hk); (try clear hi)) | ((with_reducible refine gate_callee (f := 35) rfl ?_); refine goesL_ (some 38) rfl rfl Try.func35 (by kernel_rfl) rfl #[.int .i64 2, .int .i64 3, .int .i64 3] rfl (by (try simp only [List.map_toArray, List.map_cons, List.map_nil]); first | done | rfl | (simp only [List.length_drop, List.length_take]; rfl)) ?_; (with_reducible refine (geo_Deep.calls k 2 3 3 t367 t368 _ A4.out).mono ?_); rintro e w16 ⟨rfl, hb⟩; refine ⟨_, rfl, ?_⟩; have n0_ := Aside0.mk (below_step (by repeat (first | (with_reducible first | exact HB.out | apply below_alloc | apply pw_below_drewN | apply below_drew1) | exact HB.out)) hb); clear HB; have HB := n0_; clear n0_; (try clear hb); (try clear hb2); (try clear hk); (try clear hi)) | ((with_reducible refine gate_callee (f := 37) rfl ?_); refine goesL_ (some 42) rfl rfl Try.func37 (by kernel_rfl) rfl #[.int .i64 2, .int .i64 3, .int .i64 2] rfl (by (try simp only [List.map_toArray, List.map_cons, List.map_nil]); first | done | rfl | (simp only [List.length_drop, List.length_take]; rfl)) ?_; (with_reducible refine (geo_On.calls 2 3 2 t369 t370 _ A5.out).mono ?_); rintro e w17 ⟨rfl, hb⟩; refine ⟨_, rfl, ?_⟩; have n0_ := Aside0.mk (below_step (by repeat (first | (with_reducible first | exact HB.out | apply below_alloc | apply pw_below_drewN | apply below_drew1) | exact HB.out)) hb); clear HB; have HB := n0_; clear n0_; (try clear hb); (try clear hb2); (try clear hk); (try clear hi)) | ((with_reducible refine gate_callee (f := 37) rfl ?_); refine goesL_ (some 46) rfl rfl Try.func37 (by kernel_rfl) rfl #[.int .i64 2, .int .i64 3, .int .i64 1] rfl (by (try simp only [List.map_toArray, List.map_cons, List.map_nil]); first | done | rfl | (simp only [List.length_drop, List.length_take]; rfl)) ?_; (with_reducible refine (geo_On.calls 2 3 1 t371 t372 _ A6.out).mono ?_); rintro e w18 ⟨rfl, hb⟩; refine ⟨_, rfl, ?_⟩; have n0_ := Aside0.mk (below_step (by repeat (first | (with_reducible first | exact HB.out | apply below_alloc | apply pw_below_drewN | apply below_drew1) | exact HB.out)) hb); clear HB; have HB := n0_; clear n0_; (try clear hb); (try clear hb2); (try clear hk); (try clear hi)) | ((with_reducible refine gate_callee (f := 13) rfl ?_); refine goesL_ (some 50) rfl rfl Try.func13 (by kernel_rfl) rfl #[.int .i64 2] rfl (by (try simp only [List.map_toArray, List.map_cons, List.map_nil]); first | done | rfl | (simp only [List.length_drop, List.length_take]; rfl)) ?_; (with_reducible refine (geo_Leaves.calls k 2 t373 t374 _ A7.out).mono ?_); rintro e w' ⟨rfl, ⟨nd, rfl⟩⟩; refine ⟨_, rfl, ?_⟩) | ((with_reducible refine gate_callee (f := 15) rfl ?_); refine goesL_ (some 54) rfl rfl Try.func15 (by kernel_rfl) rfl #[.int .i64 2] rfl (by (try simp only [List.map_toArray, List.map_cons, List.map_nil]); first | done | rfl | (simp only [List.length_drop, List.length_take]; rfl)) ?_; (with_reducible refine (geo_Buckets.calls k 2 t375 t376 _ A8.out).mono ?_); rintro e w' ⟨rfl, ⟨nd, rfl⟩⟩; refine ⟨_, rfl, ?_⟩) | ((with_reducible refine gate_callee (f := 13) rfl ?_); refine goesL_ (some 58) rfl rfl Try.func13 (by kernel_rfl) rfl #[.int .i64 7] rfl (by (try simp only [List.map_toArray, List.map_cons, List.map_nil]); first | done | rfl | (simp only [List.length_drop, List.length_take]; rfl)) ?_; (with_reducible refine (geo_Leaves.calls k 7 t377 t378 _ A9.out).mono ?_); rintro e w' ⟨rfl, ⟨nd, rfl⟩⟩; refine ⟨_, rfl, ?_⟩) | ((with_reducible refine gate_callee (f := 33) rfl ?_); refine goesL_ (some 62) rfl rfl Try.func33 (by kernel_rfl) rfl #[.int .i64 2, .int .i64 4] rfl (by (try simp only [List.map_toArray, List.map_cons, List.map_nil]); first | done | rfl | (simp only [List.length_drop, List.length_take]; rfl)) ?_; (with_reducible refine (geo_Path.calls 2 4 t379 t380 _ A10.out).mono ?_); rintro e w19 ⟨v381, rfl, ho0, hb⟩; refine ⟨_, rfl, ?_⟩; have n0_ := Aside0.mk (Kd.R_lower ho0 (below_size (by repeat (first | (with_reducible first | exact HB.out | apply below_alloc | apply pw_below_drewN | apply below_drew1) | exact HB.out)))); have n1_ := Aside0.mk (below_step (by repeat (first | (with_reducible first | exact HB.out | apply below_alloc | apply pw_below_drewN | apply below_drew1) | exact HB.out)) hb); clear HB; have HO382 := n0_; have HB := n1_; clear n0_ n1_; (try clear hb); (try clear hb2); (try clear hk); (try clear hi); (try clear ho0)) | ((with_reducible refine gate_callee (f := 37) rfl ?_); refine goesL_ (some 66) rfl rfl Try.func37 (by kernel_rfl) rfl #[.int .i64 2, .int .i64 0, .int .i64 1] rfl (by (try simp only [List.map_toArray, List.map_cons, List.map_nil]); first | done | rfl | (simp only [List.length_drop, List.length_take]; rfl)) ?_; (with_reducible refine (geo_On.calls 2 0 1 t383 t384 _ A11.out).mono ?_); rintro e w20 ⟨rfl, hb⟩; refine ⟨_, rfl, ?_⟩; have n0_ := Aside0.mk (Kd.R_below (by (with_reducible repeat (first | apply Kd.R_alloc | apply Kd.R_drewN | apply Kd.R_drew)); exact HO382.out) hb); have n1_ := Aside0.mk (below_step (by repeat (first | (with_reducible first | exact HB.out | apply below_alloc | apply pw_below_drewN | apply below_drew1) | exact HB.out)) hb); clear HO382; clear HB; have HO382 := n0_; have HB := n1_; clear n0_ n1_; (try clear hb); (try clear hb2); (try clear hk); (try clear hi)))
  (try simp only [Act.put, List.setIfInBounds_toArray, List.set_cons_zero, List.set_cons_succ])
  go_cut [23] (fun v23 wc => ∃ (kq : Nat) (x23_11 : Bool), v23 = .bool x23_11 ∧ Aside0 (law07_GeoNames.j0 kq t369 t370 t371 t372 t373 t374 t375 t376 t378 t380 t384 x23_11 = some r) ∧ Aside0 (kq ≤ k) ∧ Aside0 (Below w.heap.size w wc))
  case first =>
    have H := HC12.out
    clear HC12
    by_cases c21 : t362 = 0
    · rw [if_pos c21] at H
      have c21b0 : (t362 == 0) = true := beq_iff_eq.mpr c21
      have c21b1 : (t362 != 0) = false := bne_eq_false_iff_eq.mpr c21
      clear c21
      (first | rw [c21b0] | (simp only [i64_w, i32_w]; rw [c21b0]) | skip)
      by_cases c22 : t361 = 6
      · rw [if_pos c22] at H
        have c22b0 : (t361 == 6) = true := beq_iff_eq.mpr c22
        have c22b1 : (t361 != 6) = false := bne_eq_false_iff_eq.mpr c22
        clear c22
        by_cases c23 : t364 = 0
        · rw [if_pos c23] at H
          have c23b0 : (t364 == 0) = true := beq_iff_eq.mpr c23
          have c23b1 : (t364 != 0) = false := bne_eq_false_iff_eq.mpr c23
          clear c23
          by_cases c24 : t363 = 4
          · rw [if_pos c24] at H
            have c24b0 : (t363 == 4) = true := beq_iff_eq.mpr c24
            have c24b1 : (t363 != 4) = false := bne_eq_false_iff_eq.mpr c24
            clear c24
            by_cases c25 : t366 = 0
            · rw [if_pos c25] at H
              have c25b0 : (t366 == 0) = true := beq_iff_eq.mpr c25
              have c25b1 : (t366 != 0) = false := bne_eq_false_iff_eq.mpr c25
              clear c25
              by_cases c26 : t365 = 0
              · rw [if_pos c26] at H
                have c26b0 : (t365 == 0) = true := beq_iff_eq.mpr c26
                have c26b1 : (t365 != 0) = false := bne_eq_false_iff_eq.mpr c26
                clear c26
                by_cases c27 : t368 = 0
                · rw [if_pos c27] at H
                  have c27b0 : (t368 == 0) = true := beq_iff_eq.mpr c27
                  have c27b1 : (t368 != 0) = false := bne_eq_false_iff_eq.mpr c27
                  clear c27
                  have H' := Aside0.mk H
                  clear H
                  go_wp2
                  go_meet
                  case rel => exact ⟨_, ((t367 == 2)), (by first | rfl | (simp; done) | (simp [*]; done)), H', ⟨by first | omega | exact Nat.le_refl _⟩, ⟨by repeat (first | (with_reducible first | exact HB.out | apply below_alloc | apply pw_below_drewN | apply below_drew1) | exact HB.out)⟩⟩
                · rw [if_neg c27] at H
                  have c27b0 : (t368 == 0) = false := beq_eq_false_iff_ne.mpr c27
                  have c27b1 : (t368 != 0) = true := bne_iff_ne.mpr c27
                  have H' := Aside0.mk H
                  clear H
                  go_wp2
                  go_meet
                  case rel => exact ⟨_, (false), (by first | rfl | (simp; done) | (simp [*]; done)), H', ⟨by first | omega | exact Nat.le_refl _⟩, ⟨by repeat (first | (with_reducible first | exact HB.out | apply below_alloc | apply pw_below_drewN | apply below_drew1) | exact HB.out)⟩⟩
              · rw [if_neg c26] at H
                have c26b0 : (t365 == 0) = false := beq_eq_false_iff_ne.mpr c26
                have c26b1 : (t365 != 0) = true := bne_iff_ne.mpr c26
                have H' := Aside0.mk H
                clear H
                go_wp2
                go_meet
                case rel => exact ⟨_, (false), (by first | rfl | (simp; done) | (simp [*]; done)), H', ⟨by first | omega | exact Nat.le_refl _⟩, ⟨by repeat (first | (with_reducible first | exact HB.out | apply below_alloc | apply pw_below_drewN | apply below_drew1) | exact HB.out)⟩⟩
            · rw [if_neg c25] at H
              have c25b0 : (t366 == 0) = false := beq_eq_false_iff_ne.mpr c25
              have c25b1 : (t366 != 0) = true := bne_iff_ne.mpr c25
              have H' := Aside0.mk H
              clear H
              go_wp2
              go_meet
              case rel => exact ⟨_, (false), (by first | rfl | (simp; done) | (simp [*]; done)), H', ⟨by first | omega | exact Nat.le_refl _⟩, ⟨by repeat (first | (with_reducible first | exact HB.out | apply below_alloc | apply pw_below_drewN | apply below_drew1) | exact HB.out)⟩⟩
          · rw [if_neg c24] at H
            have c24b0 : (t363 == 4) = false := beq_eq_false_iff_ne.mpr c24
            have c24b1 : (t363 != 4) = true := bne_iff_ne.mpr c24
            have H' := Aside0.mk H
            clear H
            go_wp2
            go_meet
            case rel => exact ⟨_, (false), (by first | rfl | (simp; done) | (simp [*]; done)), H', ⟨by first | omega | exact Nat.le_refl _⟩, ⟨by repeat (first | (with_reducible first | exact HB.out | apply below_alloc | apply pw_below_drewN | apply below_drew1) | exact HB.out)⟩⟩
        · rw [if_neg c23] at H
          have c23b0 : (t364 == 0) = false := beq_eq_false_iff_ne.mpr c23
          have c23b1 : (t364 != 0) = true := bne_iff_ne.mpr c23
          have H' := Aside0.mk H
          clear H
          go_wp2
          go_meet
          case rel => exact ⟨_, (false), (by first | rfl | (simp; done) | (simp [*]; done)), H', ⟨by first | omega | exact Nat.le_refl _⟩, ⟨by repeat (first | (with_reducible first | exact HB.out | apply below_alloc | apply pw_below_drewN | apply below_drew1) | exact HB.out)⟩⟩
      · rw [if_neg c22] at H
        have c22b0 : (t361 == 6) = false := beq_eq_false_iff_ne.mpr c22
        have c22b1 : (t361 != 6) = true := bne_iff_ne.mpr c22
        have H' := Aside0.mk H
        clear H
        go_wp2
        go_meet
        case rel => exact ⟨_, (false), (by first | rfl | (simp; done) | (simp [*]; done)), H', ⟨by first | omega | exact Nat.le_refl _⟩, ⟨by repeat (first | (with_reducible first | exact HB.out | apply below_alloc | apply pw_below_drewN | apply below_drew1) | exact HB.out)⟩⟩
    · rw [if_neg c21] at H
      have c21b0 : (t362 == 0) = false := beq_eq_false_iff_ne.mpr c21
      have c21b1 : (t362 != 0) = true := bne_iff_ne.mpr c21
      (first | rw [c21b0] | (simp only [i64_w, i32_w]; rw [c21b0]) | skip)
      have H' := Aside0.mk H
      clear H
      go_wp2
      go_meet
      case rel => exact ⟨_, (false), (by first | rfl | (simp; done) | (simp [*]; done)), H', ⟨by first | omega | exact Nat.le_refl _⟩, ⟨by repeat (first | (with_reducible first | exact HB.out | apply below_alloc | apply pw_below_drewN | apply below_drew1) | exact HB.out)⟩⟩
  case rest =>
    clear HC12
    try clear c1
    try clear c2
    try clear p2
    try clear c3
    try clear c12
    try clear c13
    try clear c15
    try clear c17
    try clear c21
    try clear c21b0
    try clear c21b1
    try clear c22
    try clear c22b0
    try clear c22b1
    try clear c23
    try clear c23b0
    try clear c23b1
    try clear c24
    try clear c24b0
    try clear c24b1
    try clear c25
    try clear c25b0
    try clear c25b1
    try clear c26
    try clear c26b0
    try clear c26b1
    try clear c27
    try clear c27b0
    try clear c27b1
    obtain ⟨kq, x23_11, rfl, HA, HJ11, HB⟩ := hcut
    cases kq with
    | zero => exact absurd HA.out (by simp [law07_GeoNames.j0])
    | succ kj11 =>
      have H := HA.out
      clear HA
      simp only [law07_GeoNames.j0] at H
      have HC28 := Aside0.mk H
      clear H
      go_upto_region 13 with (fail)
      go_cut [24] (fun v24 wc => ∃ (kq : Nat) (x24_27 : Bool), v24 = .bool x24_27 ∧ Aside0 (law07_GeoNames.j1 kq t378 t380 t384 x23_11 x24_27 = some r) ∧ Aside0 (kq ≤ kj11) ∧ Aside0 (Below w.heap.size w wc))
      case first =>
        have H := HC28.out
        clear HC28
        by_cases c29 : t370 = 0
        · rw [if_pos c29] at H
          have c29b0 : (t370 == 0) = true := beq_iff_eq.mpr c29
          have c29b1 : (t370 != 0) = false := bne_eq_false_iff_eq.mpr c29
          clear c29
          (first | rw [c29b0] | (simp only [i64_w, i32_w]; rw [c29b0]) | skip)
          by_cases c30 : t369 = true
          · subst c30
            have H1 : (if t372 = 0 then (if t371 = true then (law07_GeoNames.j1 kj11 t378 t380 t384 x23_11 false) else (if t374 = 0 then (if t373 = 4 then (if t376 = 0 then (law07_GeoNames.j1 kj11 t378 t380 t384 x23_11 (t375 == 7)) else (law07_GeoNames.j1 kj11 t378 t380 t384 x23_11 false)) else (law07_GeoNames.j1 kj11 t378 t380 t384 x23_11 false)) else (law07_GeoNames.j1 kj11 t378 t380 t384 x23_11 false))) else (law07_GeoNames.j1 kj11 t378 t380 t384 x23_11 false)) = some r := by rw [if_pos rfl] at H; exact H
            clear H
            have H := H1
            clear H1
            by_cases c31 : t372 = 0
            · rw [if_pos c31] at H
              have c31b0 : (t372 == 0) = true := beq_iff_eq.mpr c31
              have c31b1 : (t372 != 0) = false := bne_eq_false_iff_eq.mpr c31
              clear c31
              by_cases c32 : t371 = true
              · subst c32
                have H1 : (law07_GeoNames.j1 kj11 t378 t380 t384 x23_11 false) = some r := by rw [if_pos rfl] at H; exact H
                clear H
                have H := H1
                clear H1
                have H' := Aside0.mk H
                clear H
                go_wp2
                go_meet
                case rel => exact ⟨_, (false), (by first | rfl | (simp; done) | (simp [*]; done)), H', ⟨by have := HJ11.out; first | omega | exact Nat.le_refl _⟩, ⟨by repeat (first | (with_reducible first | exact HB.out | apply below_alloc | apply pw_below_drewN | apply below_drew1) | exact HB.out)⟩⟩
              · replace c32 := Bool.eq_false_iff.mpr c32
                subst c32
                have H1 : (if t374 = 0 then (if t373 = 4 then (if t376 = 0 then (law07_GeoNames.j1 kj11 t378 t380 t384 x23_11 (t375 == 7)) else (law07_GeoNames.j1 kj11 t378 t380 t384 x23_11 false)) else (law07_GeoNames.j1 kj11 t378 t380 t384 x23_11 false)) else (law07_GeoNames.j1 kj11 t378 t380 t384 x23_11 false)) = some r := by rw [if_neg (show ¬ (false = true) by decide)] at H; exact H
                clear H
                have H := H1
                clear H1
                by_cases c33 : t374 = 0
                · rw [if_pos c33] at H
                  have c33b0 : (t374 == 0) = true := beq_iff_eq.mpr c33
                  have c33b1 : (t374 != 0) = false := bne_eq_false_iff_eq.mpr c33
                  clear c33
                  by_cases c34 : t373 = 4
                  · rw [if_pos c34] at H
                    have c34b0 : (t373 == 4) = true := beq_iff_eq.mpr c34
                    have c34b1 : (t373 != 4) = false := bne_eq_false_iff_eq.mpr c34
                    clear c34
                    by_cases c35 : t376 = 0
                    · rw [if_pos c35] at H
                      have c35b0 : (t376 == 0) = true := beq_iff_eq.mpr c35
                      have c35b1 : (t376 != 0) = false := bne_eq_false_iff_eq.mpr c35
                      clear c35
                      have H' := Aside0.mk H
                      clear H
                      go_wp2
                      go_meet
                      case rel => exact ⟨_, ((t375 == 7)), (by first | rfl | (simp; done) | (simp [*]; done)), H', ⟨by have := HJ11.out; first | omega | exact Nat.le_refl _⟩, ⟨by repeat (first | (with_reducible first | exact HB.out | apply below_alloc | apply pw_below_drewN | apply below_drew1) | exact HB.out)⟩⟩
                    · rw [if_neg c35] at H
                      have c35b0 : (t376 == 0) = false := beq_eq_false_iff_ne.mpr c35
                      have c35b1 : (t376 != 0) = true := bne_iff_ne.mpr c35
                      have H' := Aside0.mk H
                      clear H
                      go_wp2
                      go_meet
                      case rel => exact ⟨_, (false), (by first | rfl | (simp; done) | (simp [*]; done)), H', ⟨by have := HJ11.out; first | omega | exact Nat.le_refl _⟩, ⟨by repeat (first | (with_reducible first | exact HB.out | apply below_alloc | apply pw_below_drewN | apply below_drew1) | exact HB.out)⟩⟩
                  · rw [if_neg c34] at H
                    have c34b0 : (t373 == 4) = false := beq_eq_false_iff_ne.mpr c34
                    have c34b1 : (t373 != 4) = true := bne_iff_ne.mpr c34
                    have H' := Aside0.mk H
                    clear H
                    go_wp2
                    go_meet
                    case rel => exact ⟨_, (false), (by first | rfl | (simp; done) | (simp [*]; done)), H', ⟨by have := HJ11.out; first | omega | exact Nat.le_refl _⟩, ⟨by repeat (first | (with_reducible first | exact HB.out | apply below_alloc | apply pw_below_drewN | apply below_drew1) | exact HB.out)⟩⟩
                · rw [if_neg c33] at H
                  have c33b0 : (t374 == 0) = false := beq_eq_false_iff_ne.mpr c33
                  have c33b1 : (t374 != 0) = true := bne_iff_ne.mpr c33
                  have H' := Aside0.mk H
                  clear H
                  go_wp2
                  go_meet
                  case rel => exact ⟨_, (false), (by first | rfl | (simp; done) | (simp [*]; done)), H', ⟨by have := HJ11.out; first | omega | exact Nat.le_refl _⟩, ⟨by repeat (first | (with_reducible first | exact HB.out | apply below_alloc | apply pw_below_drewN | apply below_drew1) | exact HB.out)⟩⟩
            · rw [if_neg c31] at H
              have c31b0 : (t372 == 0) = false := beq_eq_false_iff_ne.mpr c31
              have c31b1 : (t372 != 0) = true := bne_iff_ne.mpr c31
              have H' := Aside0.mk H
              clear H
              go_wp2
              go_meet
              case rel => exact ⟨_, (false), (by first | rfl | (simp; done) | (simp [*]; done)), H', ⟨by have := HJ11.out; first | omega | exact Nat.le_refl _⟩, ⟨by repeat (first | (with_reducible first | exact HB.out | apply below_alloc | apply pw_below_drewN | apply below_drew1) | exact HB.out)⟩⟩
          · replace c30 := Bool.eq_false_iff.mpr c30
            subst c30
            have H1 : (law07_GeoNames.j1 kj11 t378 t380 t384 x23_11 false) = some r := by rw [if_neg (show ¬ (false = true) by decide)] at H; exact H
            clear H
            have H := H1
            clear H1
            have H' := Aside0.mk H
            clear H
            go_wp2
            go_meet
            case rel => exact ⟨_, (false), (by first | rfl | (simp; done) | (simp [*]; done)), H', ⟨by have := HJ11.out; first | omega | exact Nat.le_refl _⟩, ⟨by repeat (first | (with_reducible first | exact HB.out | apply below_alloc | apply pw_below_drewN | apply below_drew1) | exact HB.out)⟩⟩
        · rw [if_neg c29] at H
          have c29b0 : (t370 == 0) = false := beq_eq_false_iff_ne.mpr c29
          have c29b1 : (t370 != 0) = true := bne_iff_ne.mpr c29
          (first | rw [c29b0] | (simp only [i64_w, i32_w]; rw [c29b0]) | skip)
          have H' := Aside0.mk H
          clear H
          go_wp2
          go_meet
          case rel => exact ⟨_, (false), (by first | rfl | (simp; done) | (simp [*]; done)), H', ⟨by have := HJ11.out; first | omega | exact Nat.le_refl _⟩, ⟨by repeat (first | (with_reducible first | exact HB.out | apply below_alloc | apply pw_below_drewN | apply below_drew1) | exact HB.out)⟩⟩
      case rest =>
        clear HC28
        try clear c1
        try clear c2
        try clear p2
        try clear c3
        try clear c12
        try clear c13
        try clear c15
        try clear c17
        try clear c21
        try clear c21b0
        try clear c21b1
        try clear c22
        try clear c22b0
        try clear c22b1
        try clear c23
        try clear c23b0
        try clear c23b1
        try clear c24
        try clear c24b0
        try clear c24b1
        try clear c25
        try clear c25b0
        try clear c25b1
        try clear c26
        try clear c26b0
        try clear c26b1
        try clear c27
        try clear c27b0
        try clear c27b1
        try clear c29
        try clear c29b0
        try clear c29b1
        try clear c30
        try clear c31
        try clear c31b0
        try clear c31b1
        try clear c32
        try clear c33
        try clear c33b0
        try clear c33b1
        try clear c34
        try clear c34b0
        try clear c34b1
        try clear c35
        try clear c35b0
        try clear c35b1
        try clear p2
        obtain ⟨kq, x24_27, rfl, HA, HJ27, HB⟩ := hcut
        cases kq with
        | zero => exact absurd HA.out (by simp [law07_GeoNames.j1])
        | succ kj27 =>
          have H := HA.out
          clear HA
          simp only [law07_GeoNames.j1] at H
          replace H := Option.bind_eq_some_iff.mp H
          obtain ⟨t385, A360, H⟩ := H
          replace H : (if t385 = true then (if x23_11 = true then (if x24_27 = true then (if t378 = 2 then (if t380 = 2 then (if t384 = 2 then ((geo_Check.f kj27 0).bind fun t386 => (some (t386 == 2))) else (some false)) else (some false)) else (some false)) else (some false)) else (some false)) else (some false)) = some r := H
          have A36 := Aside0.mk A360
          clear A360
          by_cases c37 : t385 = true
          · subst c37
            have H1 : (if x23_11 = true then (if x24_27 = true then (if t378 = 2 then (if t380 = 2 then (if t384 = 2 then ((geo_Check.f kj27 0).bind fun t386 => (some (t386 == 2))) else (some false)) else (some false)) else (some false)) else (some false)) else (some false)) = some r := by rw [if_pos rfl] at H; exact H
            clear H
            have H := H1
            clear H1
            by_cases c38 : x23_11 = true
            · subst c38
              have H1 : (if x24_27 = true then (if t378 = 2 then (if t380 = 2 then (if t384 = 2 then ((geo_Check.f kj27 0).bind fun t386 => (some (t386 == 2))) else (some false)) else (some false)) else (some false)) else (some false)) = some r := by rw [if_pos rfl] at H; exact H
              clear H
              have H := H1
              clear H1
              by_cases c39 : x24_27 = true
              · subst c39
                have H1 : (if t378 = 2 then (if t380 = 2 then (if t384 = 2 then ((geo_Check.f kj27 0).bind fun t386 => (some (t386 == 2))) else (some false)) else (some false)) else (some false)) = some r := by rw [if_pos rfl] at H; exact H
                clear H
                have H := H1
                clear H1
                by_cases c40 : t378 = 2
                · rw [if_pos c40] at H
                  have c40b0 : (t378 == 2) = true := beq_iff_eq.mpr c40
                  have c40b1 : (t378 != 2) = false := bne_eq_false_iff_eq.mpr c40
                  clear c40
                  by_cases c41 : t380 = 2
                  · rw [if_pos c41] at H
                    have c41b0 : (t380 == 2) = true := beq_iff_eq.mpr c41
                    have c41b1 : (t380 != 2) = false := bne_eq_false_iff_eq.mpr c41
                    clear c41
                    by_cases c42 : t384 = 2
                    · rw [if_pos c42] at H
                      have c42b0 : (t384 == 2) = true := beq_iff_eq.mpr c42
                      have c42b1 : (t384 != 2) = false := bne_eq_false_iff_eq.mpr c42
                      clear c42
                      replace H := Option.bind_eq_some_iff.mp H
                      obtain ⟨t386, A430, H⟩ := H
                      replace H : (some (t386 == 2)) = some r := H
                      have A43 := Aside0.mk A430
                      clear A430
                      obtain rfl := Option.some.inj H
                      go_wp2_with (first | ((with_reducible refine gate_callee (f := 39) rfl ?_); refine goesL_ (some 128) rfl rfl Try.func39 (by kernel_rfl) rfl #[] rfl (by (try simp only [List.map_toArray, List.map_cons, List.map_nil]); first | done | rfl | (simp only [List.length_drop, List.length_take]; rfl)) ?_; (with_reducible refine (law07_alive.calls kj27  true _ A36.out).mono ?_); rintro e w44 ⟨rfl, hb⟩; refine ⟨_, rfl, ?_⟩; have n0_ := Aside0.mk (below_step (by repeat (first | (with_reducible first | exact HB.out | apply below_alloc | apply pw_below_drewN | apply below_drew1) | exact HB.out)) hb); clear HB; have HB := n0_; clear n0_; (try clear hb); (try clear hb2); (try clear hk); (try clear hi)) | (go_at_call 19; (with_reducible refine (geo_Check.calls kj27 0 t386 _ A43.out).mono ?_); rintro e w' ⟨rfl, ⟨nd, rfl⟩⟩))
                      go_ret
                      exact ⟨by first | rfl | (simp [errW_none, errW_some] <;> rfl) | (simp [*, errW_none, errW_some] <;> rfl), by repeat (first | (with_reducible first | exact HB.out | apply below_alloc | apply pw_below_drewN | apply below_drew1) | exact HB.out)⟩
                    · rw [if_neg c42] at H
                      have c42b0 : (t384 == 2) = false := beq_eq_false_iff_ne.mpr c42
                      have c42b1 : (t384 != 2) = true := bne_iff_ne.mpr c42
                      obtain rfl := Option.some.inj H
                      go_wp2_with (first | ((with_reducible refine gate_callee (f := 39) rfl ?_); refine goesL_ (some 128) rfl rfl Try.func39 (by kernel_rfl) rfl #[] rfl (by (try simp only [List.map_toArray, List.map_cons, List.map_nil]); first | done | rfl | (simp only [List.length_drop, List.length_take]; rfl)) ?_; (with_reducible refine (law07_alive.calls kj27  true _ A36.out).mono ?_); rintro e w45 ⟨rfl, hb⟩; refine ⟨_, rfl, ?_⟩; have n0_ := Aside0.mk (below_step (by repeat (first | (with_reducible first | exact HB.out | apply below_alloc | apply pw_below_drewN | apply below_drew1) | exact HB.out)) hb); clear HB; have HB := n0_; clear n0_; (try clear hb); (try clear hb2); (try clear hk); (try clear hi)))
                      go_ret
                      exact ⟨by first | rfl | (simp [errW_none, errW_some] <;> rfl) | (simp [*, errW_none, errW_some] <;> rfl), by repeat (first | (with_reducible first | exact HB.out | apply below_alloc | apply pw_below_drewN | apply below_drew1) | exact HB.out)⟩
                  · rw [if_neg c41] at H
                    have c41b0 : (t380 == 2) = false := beq_eq_false_iff_ne.mpr c41
                    have c41b1 : (t380 != 2) = true := bne_iff_ne.mpr c41
                    obtain rfl := Option.some.inj H
                    go_wp2_with (first | ((with_reducible refine gate_callee (f := 39) rfl ?_); refine goesL_ (some 128) rfl rfl Try.func39 (by kernel_rfl) rfl #[] rfl (by (try simp only [List.map_toArray, List.map_cons, List.map_nil]); first | done | rfl | (simp only [List.length_drop, List.length_take]; rfl)) ?_; (with_reducible refine (law07_alive.calls kj27  true _ A36.out).mono ?_); rintro e w46 ⟨rfl, hb⟩; refine ⟨_, rfl, ?_⟩; have n0_ := Aside0.mk (below_step (by repeat (first | (with_reducible first | exact HB.out | apply below_alloc | apply pw_below_drewN | apply below_drew1) | exact HB.out)) hb); clear HB; have HB := n0_; clear n0_; (try clear hb); (try clear hb2); (try clear hk); (try clear hi)))
                    go_ret
                    exact ⟨by first | rfl | (simp [errW_none, errW_some] <;> rfl) | (simp [*, errW_none, errW_some] <;> rfl), by repeat (first | (with_reducible first | exact HB.out | apply below_alloc | apply pw_below_drewN | apply below_drew1) | exact HB.out)⟩
                · rw [if_neg c40] at H
                  have c40b0 : (t378 == 2) = false := beq_eq_false_iff_ne.mpr c40
                  have c40b1 : (t378 != 2) = true := bne_iff_ne.mpr c40
                  obtain rfl := Option.some.inj H
                  go_wp2_with (first | ((with_reducible refine gate_callee (f := 39) rfl ?_); refine goesL_ (some 128) rfl rfl Try.func39 (by kernel_rfl) rfl #[] rfl (by (try simp only [List.map_toArray, List.map_cons, List.map_nil]); first | done | rfl | (simp only [List.length_drop, List.length_take]; rfl)) ?_; (with_reducible refine (law07_alive.calls kj27  true _ A36.out).mono ?_); rintro e w47 ⟨rfl, hb⟩; refine ⟨_, rfl, ?_⟩; have n0_ := Aside0.mk (below_step (by repeat (first | (with_reducible first | exact HB.out | apply below_alloc | apply pw_below_drewN | apply below_drew1) | exact HB.out)) hb); clear HB; have HB := n0_; clear n0_; (try clear hb); (try clear hb2); (try clear hk); (try clear hi)))
                  go_ret
                  exact ⟨by first | rfl | (simp [errW_none, errW_some] <;> rfl) | (simp [*, errW_none, errW_some] <;> rfl), by repeat (first | (with_reducible first | exact HB.out | apply below_alloc | apply pw_below_drewN | apply below_drew1) | exact HB.out)⟩
              · replace c39 := Bool.eq_false_iff.mpr c39
                subst c39
                have H1 : (some false) = some r := by rw [if_neg (show ¬ (false = true) by decide)] at H; exact H
                clear H
                have H := H1
                clear H1
                obtain rfl := Option.some.inj H
                go_wp2_with (first | ((with_reducible refine gate_callee (f := 39) rfl ?_); refine goesL_ (some 128) rfl rfl Try.func39 (by kernel_rfl) rfl #[] rfl (by (try simp only [List.map_toArray, List.map_cons, List.map_nil]); first | done | rfl | (simp only [List.length_drop, List.length_take]; rfl)) ?_; (with_reducible refine (law07_alive.calls kj27  true _ A36.out).mono ?_); rintro e w48 ⟨rfl, hb⟩; refine ⟨_, rfl, ?_⟩; have n0_ := Aside0.mk (below_step (by repeat (first | (with_reducible first | exact HB.out | apply below_alloc | apply pw_below_drewN | apply below_drew1) | exact HB.out)) hb); clear HB; have HB := n0_; clear n0_; (try clear hb); (try clear hb2); (try clear hk); (try clear hi)))
                go_ret
                exact ⟨by first | rfl | (simp [errW_none, errW_some] <;> rfl) | (simp [*, errW_none, errW_some] <;> rfl), by repeat (first | (with_reducible first | exact HB.out | apply below_alloc | apply pw_below_drewN | apply below_drew1) | exact HB.out)⟩
            · replace c38 := Bool.eq_false_iff.mpr c38
              subst c38
              have H1 : (some false) = some r := by rw [if_neg (show ¬ (false = true) by decide)] at H; exact H
              clear H
              have H := H1
              clear H1
              obtain rfl := Option.some.inj H
              go_wp2_with (first | ((with_reducible refine gate_callee (f := 39) rfl ?_); refine goesL_ (some 128) rfl rfl Try.func39 (by kernel_rfl) rfl #[] rfl (by (try simp only [List.map_toArray, List.map_cons, List.map_nil]); first | done | rfl | (simp only [List.length_drop, List.length_take]; rfl)) ?_; (with_reducible refine (law07_alive.calls kj27  true _ A36.out).mono ?_); rintro e w49 ⟨rfl, hb⟩; refine ⟨_, rfl, ?_⟩; have n0_ := Aside0.mk (below_step (by repeat (first | (with_reducible first | exact HB.out | apply below_alloc | apply pw_below_drewN | apply below_drew1) | exact HB.out)) hb); clear HB; have HB := n0_; clear n0_; (try clear hb); (try clear hb2); (try clear hk); (try clear hi)))
              go_ret
              exact ⟨by first | rfl | (simp [errW_none, errW_some] <;> rfl) | (simp [*, errW_none, errW_some] <;> rfl), by repeat (first | (with_reducible first | exact HB.out | apply below_alloc | apply pw_below_drewN | apply below_drew1) | exact HB.out)⟩
          · replace c37 := Bool.eq_false_iff.mpr c37
            subst c37
            have H1 : (some false) = some r := by rw [if_neg (show ¬ (false = true) by decide)] at H; exact H
            clear H
            have H := H1
            clear H1
            obtain rfl := Option.some.inj H
            go_wp2_with (first | ((with_reducible refine gate_callee (f := 39) rfl ?_); refine goesL_ (some 128) rfl rfl Try.func39 (by kernel_rfl) rfl #[] rfl (by (try simp only [List.map_toArray, List.map_cons, List.map_nil]); first | done | rfl | (simp only [List.length_drop, List.length_take]; rfl)) ?_; (with_reducible refine (law07_alive.calls kj27  false _ A36.out).mono ?_); rintro e w50 ⟨rfl, hb⟩; refine ⟨_, rfl, ?_⟩; have n0_ := Aside0.mk (below_step (by repeat (first | (with_reducible first | exact HB.out | apply below_alloc | apply pw_below_drewN | apply below_drew1) | exact HB.out)) hb); clear HB; have HB := n0_; clear n0_; (try clear hb); (try clear hb2); (try clear hk); (try clear hi)))
            go_ret
            exact ⟨by first | rfl | (simp [errW_none, errW_some] <;> rfl) | (simp [*, errW_none, errW_some] <;> rfl), by repeat (first | (with_reducible first | exact HB.out | apply below_alloc | apply pw_below_drewN | apply below_drew1) | exact HB.out)⟩

/-- THE ONE PURE STATEMENT of law07_GeoNames: yours. -/
def law07_GeoNames.Pure : Prop := ∃ k, law07_GeoNames.f k  = some true
theorem law07_GeoNames.walk (P : law07_GeoNames.Pure)  (w : World)  :
    Calls Try.prog 12 #[] w fun e w' => e = .returned (.bool true) ∧ Below w.heap.size w w' := by
  obtain ⟨k, h⟩ := P  
  refine (law07_GeoNames.calls k  true w h).mono ?_
  rintro e w' ⟨rfl, hd⟩
  exact ⟨rfl, hd⟩

end Go.Proofs.Ytncpilnallghpaa.PAll
