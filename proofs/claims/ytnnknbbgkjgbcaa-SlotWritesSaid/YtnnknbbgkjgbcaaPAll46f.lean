-- Printed for this claim by a program of this session, over the kit's print.
import Derived.Test.YtnnknbbgkjgbcaaPAll0
import Derived.Test.YtnnknbbgkjgbcaaPAll45
import Derived.Test.YtnnknbbgkjgbcaaPAll29
import Derived.Test.YtnnknbbgkjgbcaaPAll39
import Derived.Test.YtnnknbbgkjgbcaaPAll37
import Derived.Test.YtnnknbbgkjgbcaaPAll38
import Derived.Test.YtnnknbbgkjgbcaaPAll40
import Derived.Test.YtnnknbbgkjgbcaaPAll41
import Derived.Test.YtnnknbbgkjgbcaaPAll42
import Derived.Test.YtnnknbbgkjgbcaaPAll44
import Derived.Test.YtnnknbbgkjgbcaaHandSlot
namespace Go.Proofs.Ytnnknbbgkjgbcaa.PAll
open Go.RowKit Go.Proofs.YtnnknbbgkjgbcaaW.PrintWords Go.Proofs.YtnnknbbgkjgbcaaW.PrintLast Go.Proofs.YtnnknbbgkjgbcaaW.PrintMore
attribute [local go_sem] max2_int min2_int max_two min_two max_three min_three max_four min_four   -- for this text's walks alone
set_option linter.unusedVariables false
set_option linter.unusedSimpArgs false

/-! ### law09_SlotWrites: function 4 -/
mutual
def law09_SlotWrites.j0 : Nat → Bool → Int → Int → Int → Int → Int → Int → List Int → Int → Int → List Int → Option (Bool)
 | 0, _, _, _, _, _, _, _, _, _, _, _ => none
 | k + 1, x34, x344000, x344001, x344002, x344003, x345000, x345001, x345002, x346000, x346001, x346002 => if x34 = true then (some true) else ((ref09_Twin.f x345000 x345001 x345002).bind fun bt346 => ((slot_Slots.f k x344000 x344001 x344002 x344003).bind fun bt352 => ((ref09_Slots.f k x344000 x344001 x344002 x344003).bind fun bt354 => ((slot_Write.f x344000 x344001 x344002 x344003 bt346.1 bt346.2.1 bt346.2.2).bind fun bt356 => ((ref09_Write.f k x344000 x344001 x344002 x344003 x345000 x345001 x345002).bind fun bt360 => ((slot_None.f k x344000 x344001 x344002 x344003).bind fun bt364 => ((ref09_None.f k x344000 x344001 x344002 x344003).bind fun bt368 => ((slot_Twin.f bt346.1 bt346.2.1 bt346.2.2).bind fun bt372 => (if bt352.1 = bt354.1 then (if bt352.2 = bt354.2 then ((ref01_Same.f bt356.1 bt360.1).bind fun t378 => (if t378 = true then (if bt356.2 = bt360.2 then ((ref01_Same.f bt364.1 bt368.1).bind fun t379 => (if t379 = true then (law09_SlotWrites.j1 k bt356.1 (bt364.2 == bt368.2) x344000 x344001 x344002 x344003 x345000 x345001 x345002 x346000 x346001 x346002 bt346.1 bt346.2.1 bt346.2.2 bt372.1 bt372.2.1 bt372.2.2) else (law09_SlotWrites.j1 k bt356.1 false x344000 x344001 x344002 x344003 x345000 x345001 x345002 x346000 x346001 x346002 bt346.1 bt346.2.1 bt346.2.2 bt372.1 bt372.2.1 bt372.2.2))) else (law09_SlotWrites.j1 k bt356.1 false x344000 x344001 x344002 x344003 x345000 x345001 x345002 x346000 x346001 x346002 bt346.1 bt346.2.1 bt346.2.2 bt372.1 bt372.2.1 bt372.2.2)) else (law09_SlotWrites.j1 k bt356.1 false x344000 x344001 x344002 x344003 x345000 x345001 x345002 x346000 x346001 x346002 bt346.1 bt346.2.1 bt346.2.2 bt372.1 bt372.2.1 bt372.2.2))) else (law09_SlotWrites.j1 k bt356.1 false x344000 x344001 x344002 x344003 x345000 x345001 x345002 x346000 x346001 x346002 bt346.1 bt346.2.1 bt346.2.2 bt372.1 bt372.2.1 bt372.2.2)) else (law09_SlotWrites.j1 k bt356.1 false x344000 x344001 x344002 x344003 x345000 x345001 x345002 x346000 x346001 x346002 bt346.1 bt346.2.1 bt346.2.2 bt372.1 bt372.2.1 bt372.2.2))))))))))
def law09_SlotWrites.j1 : Nat → List Int → Bool → Int → Int → Int → Int → Int → Int → List Int → Int → Int → List Int → Int → Int → List Int → Int → Int → List Int → Option (Bool)
 | 0, _, _, _, _, _, _, _, _, _, _, _, _, _, _, _, _, _, _ => none
 | k + 1, x12, x21, x344000, x344001, x344002, x344003, x345000, x345001, x345002, x346000, x346001, x346002, x352000, x352001, x352002, x378000, x378001, x378002 => (slot_Check.f k x344000 x344001 x344002 x344003 x352000 x352001 x352002).bind fun t380 => ((ref09_Check.f k x344000 x344001 x344002 x344003 x345000 x345001 x345002).bind fun t381 => (if t380 = t381 then ((slot_Same.f k x352000 x352001 x352002 x346000 x346001 x346002).bind fun t382 => ((ref09_Same.f x345000 x345001 x345002 x346000 x346001 x346002).bind fun t383 => (if (t382 == t383) = true then ((slot_Same.f k x352000 x352001 x352002 x345000 x345001 x345002).bind fun t384 => (if t384 = true then ((ref09_Same.f x378000 x378001 x378002 x345000 x345001 x345002).bind fun t385 => (law09_SlotWrites.j2 k x12 x21 t385 x345000 x345001 x345002 x352000 x352001 x352002 x378000 x378001 x378002)) else (law09_SlotWrites.j2 k x12 x21 false x345000 x345001 x345002 x352000 x352001 x352002 x378000 x378001 x378002))) else (law09_SlotWrites.j2 k x12 x21 false x345000 x345001 x345002 x352000 x352001 x352002 x378000 x378001 x378002)))) else (law09_SlotWrites.j2 k x12 x21 false x345000 x345001 x345002 x352000 x352001 x352002 x378000 x378001 x378002)))
def law09_SlotWrites.j2 : Nat → List Int → Bool → Bool → Int → Int → List Int → Int → Int → List Int → Int → Int → List Int → Option (Bool)
 | 0, _, _, _, _, _, _, _, _, _, _, _, _ => none
 | k + 1, x12, x21, x22, x345000, x345001, x345002, x352000, x352001, x352002, x378000, x378001, x378002 => law09_SlotWrites.l0 k x12 x21 x22 0 x345000 x345001 x345002 x352000 x352001 x352002 x378000 x378001 x378002
def law09_SlotWrites.l0 : Nat → List Int → Bool → Bool → Int → Int → Int → List Int → Int → Int → List Int → Int → Int → List Int → Option (Bool)
 | 0, _, _, _, _, _, _, _, _, _, _, _, _, _ => none
 | k + 1, x12, x21, x22, x23, x345000, x345001, x345002, x352000, x352001, x352002, x378000, x378001, x378002 => if x23 < (x378002.length : Int) then (if 0 ≤ x23 then (law09_SlotWrites.l0 k x12 x21 x22 (wrap64 (x23 + 1)) x345000 x345001 x345002 x352000 x352001 x352002 x378000 x378001 (x378002.set (x23 : Int).toNat (((rd x378002 x23) + 1) % 256))) else (none)) else (law09_SlotWrites.l1 k x12 x21 x22 0 x345000 x345001 x345002 x352000 x352001 x352002)
def law09_SlotWrites.l1 : Nat → List Int → Bool → Bool → Int → Int → Int → List Int → Int → Int → List Int → Option (Bool)
 | 0, _, _, _, _, _, _, _, _, _, _ => none
 | k + 1, x12, x21, x22, x24, x345000, x345001, x345002, x352000, x352001, x352002 => if x24 < (x12.length : Int) then (if 0 ≤ x24 then (law09_SlotWrites.l1 k (x12.set (x24 : Int).toNat (((rd x12 x24) + 1) % 256)) x21 x22 (wrap64 (x24 + 1)) x345000 x345001 x345002 x352000 x352001 x352002) else (none)) else (if x21 = true then (if x22 = true then ((ref09_Same.f x352000 x352001 x352002 x345000 x345001 x345002).bind fun t390 => (some t390)) else (some false)) else (some false))
end
def law09_SlotWrites.f (k : Nat) (a0_0 : Int) (a0_1 : Int) (a0_2 : Int) (a0_3 : Int) (a1_0 : Int) (a1_1 : Int) (l1_2 : List Int) (a2_0 : Int) (a2_1 : Int) (l2_2 : List Int) : Option (Bool) := if (l1_2.length : Int) > 1000 then (law09_SlotWrites.j0 k true a0_0 a0_1 a0_2 a0_3 a1_0 a1_1 l1_2 a2_0 a2_1 l2_2) else (law09_SlotWrites.j0 k (decide ((l2_2.length : Int) > 1000)) a0_0 a0_1 a0_2 a0_3 a1_0 a1_1 l1_2 a2_0 a2_1 l2_2)
theorem law09_SlotWrites.mono_l : ∀ k, (∀ y0 y1 y2 y3 y4 y5 y6 y7 y8 y9 y10, LeO (law09_SlotWrites.j0 k y0 y1 y2 y3 y4 y5 y6 y7 y8 y9 y10) (law09_SlotWrites.j0 (k + 1) y0 y1 y2 y3 y4 y5 y6 y7 y8 y9 y10)) ∧ (∀ y0 y1 y2 y3 y4 y5 y6 y7 y8 y9 y10 y11 y12 y13 y14 y15 y16 y17, LeO (law09_SlotWrites.j1 k y0 y1 y2 y3 y4 y5 y6 y7 y8 y9 y10 y11 y12 y13 y14 y15 y16 y17) (law09_SlotWrites.j1 (k + 1) y0 y1 y2 y3 y4 y5 y6 y7 y8 y9 y10 y11 y12 y13 y14 y15 y16 y17)) ∧ (∀ y0 y1 y2 y3 y4 y5 y6 y7 y8 y9 y10 y11, LeO (law09_SlotWrites.j2 k y0 y1 y2 y3 y4 y5 y6 y7 y8 y9 y10 y11) (law09_SlotWrites.j2 (k + 1) y0 y1 y2 y3 y4 y5 y6 y7 y8 y9 y10 y11)) ∧ (∀ y0 y1 y2 y3 y4 y5 y6 y7 y8 y9 y10 y11 y12, LeO (law09_SlotWrites.l0 k y0 y1 y2 y3 y4 y5 y6 y7 y8 y9 y10 y11 y12) (law09_SlotWrites.l0 (k + 1) y0 y1 y2 y3 y4 y5 y6 y7 y8 y9 y10 y11 y12)) ∧ (∀ y0 y1 y2 y3 y4 y5 y6 y7 y8 y9, LeO (law09_SlotWrites.l1 k y0 y1 y2 y3 y4 y5 y6 y7 y8 y9) (law09_SlotWrites.l1 (k + 1) y0 y1 y2 y3 y4 y5 y6 y7 y8 y9))
 | 0 => ⟨fun _ _ _ _ _ _ _ _ _ _ _ r h => by simp [law09_SlotWrites.j0] at h, fun _ _ _ _ _ _ _ _ _ _ _ _ _ _ _ _ _ _ r h => by simp [law09_SlotWrites.j1] at h, fun _ _ _ _ _ _ _ _ _ _ _ _ r h => by simp [law09_SlotWrites.j2] at h, fun _ _ _ _ _ _ _ _ _ _ _ _ _ r h => by simp [law09_SlotWrites.l0] at h, fun _ _ _ _ _ _ _ _ _ _ r h => by simp [law09_SlotWrites.l1] at h⟩
 | k + 1 => by
  obtain ⟨ih0, ih1, ih2, ih3, ih4⟩ := law09_SlotWrites.mono_l k
  refine ⟨?_, ?_, ?_, ?_, ?_⟩
  ·
   intro y0 y1 y2 y3 y4 y5 y6 y7 y8 y9 y10
   unfold law09_SlotWrites.j0
   repeat' first
   | (with_reducible exact ih0 _ _ _ _ _ _ _ _ _ _ _)
   | (with_reducible exact ih1 _ _ _ _ _ _ _ _ _ _ _ _ _ _ _ _ _ _)
   | (with_reducible exact ih2 _ _ _ _ _ _ _ _ _ _ _ _)
   | (with_reducible exact ih3 _ _ _ _ _ _ _ _ _ _ _ _ _)
   | (with_reducible exact ih4 _ _ _ _ _ _ _ _ _ _)
   | (with_reducible exact ref09_Check.mono _ _ _ _ _ _ _ _)
   | (with_reducible exact ref09_None.mono _ _ _ _ _)
   | (with_reducible exact ref09_Slots.mono _ _ _ _ _)
   | (with_reducible exact ref09_Write.mono _ _ _ _ _ _ _ _)
   | (with_reducible exact slot_Check.mono _ _ _ _ _ _ _ _)
   | (with_reducible exact slot_None.mono _ _ _ _ _)
   | (with_reducible exact slot_Same.mono _ _ _ _ _ _ _)
   | (with_reducible exact slot_Slots.mono _ _ _ _ _)
   | (with_reducible exact LeO.refl _)
   | (with_reducible exact LeO.none _)
   | (with_reducible refine LeO.ite ?_ ?_)
   | (with_reducible refine LeO.bind ?_ (fun _ => ?_))
   | exact ih0 _ _ _ _ _ _ _ _ _ _ _
   | exact ih1 _ _ _ _ _ _ _ _ _ _ _ _ _ _ _ _ _ _
   | exact ih2 _ _ _ _ _ _ _ _ _ _ _ _
   | exact ih3 _ _ _ _ _ _ _ _ _ _ _ _ _
   | exact ih4 _ _ _ _ _ _ _ _ _ _
   | exact ref09_Check.mono _ _ _ _ _ _ _ _
   | exact ref09_None.mono _ _ _ _ _
   | exact ref09_Slots.mono _ _ _ _ _
   | exact ref09_Write.mono _ _ _ _ _ _ _ _
   | exact slot_Check.mono _ _ _ _ _ _ _ _
   | exact slot_None.mono _ _ _ _ _
   | exact slot_Same.mono _ _ _ _ _ _ _
   | exact slot_Slots.mono _ _ _ _ _
   | exact LeO.none _
   | refine LeO.ite ?_ ?_
   | refine LeO.bind ?_ (fun _ => ?_)
  ·
   intro y0 y1 y2 y3 y4 y5 y6 y7 y8 y9 y10 y11 y12 y13 y14 y15 y16 y17
   unfold law09_SlotWrites.j1
   repeat' first
   | (with_reducible exact ih0 _ _ _ _ _ _ _ _ _ _ _)
   | (with_reducible exact ih1 _ _ _ _ _ _ _ _ _ _ _ _ _ _ _ _ _ _)
   | (with_reducible exact ih2 _ _ _ _ _ _ _ _ _ _ _ _)
   | (with_reducible exact ih3 _ _ _ _ _ _ _ _ _ _ _ _ _)
   | (with_reducible exact ih4 _ _ _ _ _ _ _ _ _ _)
   | (with_reducible exact ref09_Check.mono _ _ _ _ _ _ _ _)
   | (with_reducible exact ref09_None.mono _ _ _ _ _)
   | (with_reducible exact ref09_Slots.mono _ _ _ _ _)
   | (with_reducible exact ref09_Write.mono _ _ _ _ _ _ _ _)
   | (with_reducible exact slot_Check.mono _ _ _ _ _ _ _ _)
   | (with_reducible exact slot_None.mono _ _ _ _ _)
   | (with_reducible exact slot_Same.mono _ _ _ _ _ _ _)
   | (with_reducible exact slot_Slots.mono _ _ _ _ _)
   | (with_reducible exact LeO.refl _)
   | (with_reducible exact LeO.none _)
   | (with_reducible refine LeO.ite ?_ ?_)
   | (with_reducible refine LeO.bind ?_ (fun _ => ?_))
   | exact ih0 _ _ _ _ _ _ _ _ _ _ _
   | exact ih1 _ _ _ _ _ _ _ _ _ _ _ _ _ _ _ _ _ _
   | exact ih2 _ _ _ _ _ _ _ _ _ _ _ _
   | exact ih3 _ _ _ _ _ _ _ _ _ _ _ _ _
   | exact ih4 _ _ _ _ _ _ _ _ _ _
   | exact ref09_Check.mono _ _ _ _ _ _ _ _
   | exact ref09_None.mono _ _ _ _ _
   | exact ref09_Slots.mono _ _ _ _ _
   | exact ref09_Write.mono _ _ _ _ _ _ _ _
   | exact slot_Check.mono _ _ _ _ _ _ _ _
   | exact slot_None.mono _ _ _ _ _
   | exact slot_Same.mono _ _ _ _ _ _ _
   | exact slot_Slots.mono _ _ _ _ _
   | exact LeO.none _
   | refine LeO.ite ?_ ?_
   | refine LeO.bind ?_ (fun _ => ?_)
  ·
   intro y0 y1 y2 y3 y4 y5 y6 y7 y8 y9 y10 y11
   unfold law09_SlotWrites.j2
   repeat' first
   | (with_reducible exact ih0 _ _ _ _ _ _ _ _ _ _ _)
   | (with_reducible exact ih1 _ _ _ _ _ _ _ _ _ _ _ _ _ _ _ _ _ _)
   | (with_reducible exact ih2 _ _ _ _ _ _ _ _ _ _ _ _)
   | (with_reducible exact ih3 _ _ _ _ _ _ _ _ _ _ _ _ _)
   | (with_reducible exact ih4 _ _ _ _ _ _ _ _ _ _)
   | (with_reducible exact ref09_Check.mono _ _ _ _ _ _ _ _)
   | (with_reducible exact ref09_None.mono _ _ _ _ _)
   | (with_reducible exact ref09_Slots.mono _ _ _ _ _)
   | (with_reducible exact ref09_Write.mono _ _ _ _ _ _ _ _)
   | (with_reducible exact slot_Check.mono _ _ _ _ _ _ _ _)
   | (with_reducible exact slot_None.mono _ _ _ _ _)
   | (with_reducible exact slot_Same.mono _ _ _ _ _ _ _)
   | (with_reducible exact slot_Slots.mono _ _ _ _ _)
   | (with_reducible exact LeO.refl _)
   | (with_reducible exact LeO.none _)
   | (with_reducible refine LeO.ite ?_ ?_)
   | (with_reducible refine LeO.bind ?_ (fun _ => ?_))
   | exact ih0 _ _ _ _ _ _ _ _ _ _ _
   | exact ih1 _ _ _ _ _ _ _ _ _ _ _ _ _ _ _ _ _ _
   | exact ih2 _ _ _ _ _ _ _ _ _ _ _ _
   | exact ih3 _ _ _ _ _ _ _ _ _ _ _ _ _
   | exact ih4 _ _ _ _ _ _ _ _ _ _
   | exact ref09_Check.mono _ _ _ _ _ _ _ _
   | exact ref09_None.mono _ _ _ _ _
   | exact ref09_Slots.mono _ _ _ _ _
   | exact ref09_Write.mono _ _ _ _ _ _ _ _
   | exact slot_Check.mono _ _ _ _ _ _ _ _
   | exact slot_None.mono _ _ _ _ _
   | exact slot_Same.mono _ _ _ _ _ _ _
   | exact slot_Slots.mono _ _ _ _ _
   | exact LeO.none _
   | refine LeO.ite ?_ ?_
   | refine LeO.bind ?_ (fun _ => ?_)
  ·
   intro y0 y1 y2 y3 y4 y5 y6 y7 y8 y9 y10 y11 y12
   unfold law09_SlotWrites.l0
   repeat' first
   | (with_reducible exact ih0 _ _ _ _ _ _ _ _ _ _ _)
   | (with_reducible exact ih1 _ _ _ _ _ _ _ _ _ _ _ _ _ _ _ _ _ _)
   | (with_reducible exact ih2 _ _ _ _ _ _ _ _ _ _ _ _)
   | (with_reducible exact ih3 _ _ _ _ _ _ _ _ _ _ _ _ _)
   | (with_reducible exact ih4 _ _ _ _ _ _ _ _ _ _)
   | (with_reducible exact ref09_Check.mono _ _ _ _ _ _ _ _)
   | (with_reducible exact ref09_None.mono _ _ _ _ _)
   | (with_reducible exact ref09_Slots.mono _ _ _ _ _)
   | (with_reducible exact ref09_Write.mono _ _ _ _ _ _ _ _)
   | (with_reducible exact slot_Check.mono _ _ _ _ _ _ _ _)
   | (with_reducible exact slot_None.mono _ _ _ _ _)
   | (with_reducible exact slot_Same.mono _ _ _ _ _ _ _)
   | (with_reducible exact slot_Slots.mono _ _ _ _ _)
   | (with_reducible exact LeO.refl _)
   | (with_reducible exact LeO.none _)
   | (with_reducible refine LeO.ite ?_ ?_)
   | (with_reducible refine LeO.bind ?_ (fun _ => ?_))
   | exact ih0 _ _ _ _ _ _ _ _ _ _ _
   | exact ih1 _ _ _ _ _ _ _ _ _ _ _ _ _ _ _ _ _ _
   | exact ih2 _ _ _ _ _ _ _ _ _ _ _ _
   | exact ih3 _ _ _ _ _ _ _ _ _ _ _ _ _
   | exact ih4 _ _ _ _ _ _ _ _ _ _
   | exact ref09_Check.mono _ _ _ _ _ _ _ _
   | exact ref09_None.mono _ _ _ _ _
   | exact ref09_Slots.mono _ _ _ _ _
   | exact ref09_Write.mono _ _ _ _ _ _ _ _
   | exact slot_Check.mono _ _ _ _ _ _ _ _
   | exact slot_None.mono _ _ _ _ _
   | exact slot_Same.mono _ _ _ _ _ _ _
   | exact slot_Slots.mono _ _ _ _ _
   | exact LeO.none _
   | refine LeO.ite ?_ ?_
   | refine LeO.bind ?_ (fun _ => ?_)
  ·
   intro y0 y1 y2 y3 y4 y5 y6 y7 y8 y9
   unfold law09_SlotWrites.l1
   repeat' first
   | (with_reducible exact ih0 _ _ _ _ _ _ _ _ _ _ _)
   | (with_reducible exact ih1 _ _ _ _ _ _ _ _ _ _ _ _ _ _ _ _ _ _)
   | (with_reducible exact ih2 _ _ _ _ _ _ _ _ _ _ _ _)
   | (with_reducible exact ih3 _ _ _ _ _ _ _ _ _ _ _ _ _)
   | (with_reducible exact ih4 _ _ _ _ _ _ _ _ _ _)
   | (with_reducible exact ref09_Check.mono _ _ _ _ _ _ _ _)
   | (with_reducible exact ref09_None.mono _ _ _ _ _)
   | (with_reducible exact ref09_Slots.mono _ _ _ _ _)
   | (with_reducible exact ref09_Write.mono _ _ _ _ _ _ _ _)
   | (with_reducible exact slot_Check.mono _ _ _ _ _ _ _ _)
   | (with_reducible exact slot_None.mono _ _ _ _ _)
   | (with_reducible exact slot_Same.mono _ _ _ _ _ _ _)
   | (with_reducible exact slot_Slots.mono _ _ _ _ _)
   | (with_reducible exact LeO.refl _)
   | (with_reducible exact LeO.none _)
   | (with_reducible refine LeO.ite ?_ ?_)
   | (with_reducible refine LeO.bind ?_ (fun _ => ?_))
   | exact ih0 _ _ _ _ _ _ _ _ _ _ _
   | exact ih1 _ _ _ _ _ _ _ _ _ _ _ _ _ _ _ _ _ _
   | exact ih2 _ _ _ _ _ _ _ _ _ _ _ _
   | exact ih3 _ _ _ _ _ _ _ _ _ _ _ _ _
   | exact ih4 _ _ _ _ _ _ _ _ _ _
   | exact ref09_Check.mono _ _ _ _ _ _ _ _
   | exact ref09_None.mono _ _ _ _ _
   | exact ref09_Slots.mono _ _ _ _ _
   | exact ref09_Write.mono _ _ _ _ _ _ _ _
   | exact slot_Check.mono _ _ _ _ _ _ _ _
   | exact slot_None.mono _ _ _ _ _
   | exact slot_Same.mono _ _ _ _ _ _ _
   | exact slot_Slots.mono _ _ _ _ _
   | exact LeO.none _
   | refine LeO.ite ?_ ?_
   | refine LeO.bind ?_ (fun _ => ?_)
theorem law09_SlotWrites.mono : ∀ a0 a1 a2 a3 a4 a5 a6 a7 a8 a9 k, LeO (law09_SlotWrites.f k a0 a1 a2 a3 a4 a5 a6 a7 a8 a9) (law09_SlotWrites.f (k + 1) a0 a1 a2 a3 a4 a5 a6 a7 a8 a9) := by
 intro a0 a1 a2 a3 a4 a5 a6 a7 a8 a9 k
 obtain ⟨ih0, ih1, ih2, ih3, ih4⟩ := law09_SlotWrites.mono_l k
 unfold law09_SlotWrites.f
 repeat' first
   | (with_reducible exact ih0 _ _ _ _ _ _ _ _ _ _ _)
   | (with_reducible exact ih1 _ _ _ _ _ _ _ _ _ _ _ _ _ _ _ _ _ _)
   | (with_reducible exact ih2 _ _ _ _ _ _ _ _ _ _ _ _)
   | (with_reducible exact ih3 _ _ _ _ _ _ _ _ _ _ _ _ _)
   | (with_reducible exact ih4 _ _ _ _ _ _ _ _ _ _)
   | (with_reducible exact ref09_Check.mono _ _ _ _ _ _ _ _)
   | (with_reducible exact ref09_None.mono _ _ _ _ _)
   | (with_reducible exact ref09_Slots.mono _ _ _ _ _)
   | (with_reducible exact ref09_Write.mono _ _ _ _ _ _ _ _)
   | (with_reducible exact slot_Check.mono _ _ _ _ _ _ _ _)
   | (with_reducible exact slot_None.mono _ _ _ _ _)
   | (with_reducible exact slot_Same.mono _ _ _ _ _ _ _)
   | (with_reducible exact slot_Slots.mono _ _ _ _ _)
   | (with_reducible exact LeO.refl _)
   | (with_reducible exact LeO.none _)
   | (with_reducible refine LeO.ite ?_ ?_)
   | (with_reducible refine LeO.bind ?_ (fun _ => ?_))
   | exact ih0 _ _ _ _ _ _ _ _ _ _ _
   | exact ih1 _ _ _ _ _ _ _ _ _ _ _ _ _ _ _ _ _ _
   | exact ih2 _ _ _ _ _ _ _ _ _ _ _ _
   | exact ih3 _ _ _ _ _ _ _ _ _ _ _ _ _
   | exact ih4 _ _ _ _ _ _ _ _ _ _
   | exact ref09_Check.mono _ _ _ _ _ _ _ _
   | exact ref09_None.mono _ _ _ _ _
   | exact ref09_Slots.mono _ _ _ _ _
   | exact ref09_Write.mono _ _ _ _ _ _ _ _
   | exact slot_Check.mono _ _ _ _ _ _ _ _
   | exact slot_None.mono _ _ _ _ _
   | exact slot_Same.mono _ _ _ _ _ _ _
   | exact slot_Slots.mono _ _ _ _ _
   | exact LeO.none _
   | refine LeO.ite ?_ ?_
   | refine LeO.bind ?_ (fun _ => ?_)
def law09_SlotWrites.T12 : Bool × List (List Nat × List Nat) := (true, [([], []), ([], []), ([0, 1], [0, 1]), ([], []), ([], []), ([3, 4, 2], [3, 4]), ([2, 5], [2, 5]), ([6, 5], [6]), ([7], [7]), ([7], [7]), ([8, 9, 7, 7], [7, 8, 9]), ([7], [7]), ([7], [7]), ([11, 12, 10, 7], [7, 11, 12]), ([10, 13, 7], [7, 10, 13]), ([7, 14], [7, 14]), ([15, 13], [15]), ([16], [16]), ([16], [16]), ([17, 18, 16, 16], [16, 17, 18]), ([16, 19], [16, 19]), ([20, 19], [20]), ([21], [21]), ([21], [21]), ([22, 23, 21, 21], [21, 22, 23]), ([21, 24], [21, 24]), ([25, 24, 0, 1, 2, 3, 4, 5, 6, 7, 8, 9, 10, 11, 12, 13, 14, 15, 16, 17, 18, 19, 20, 21, 22, 23, 24, 25], [25])])
def law09_SlotWrites.B12 : List Nat := [0, 0, 3, 0, 0, 31, 63, 127, 255, 255, 1023, 255, 255, 8191, 16383, 32767, 65535, 131071, 131071, 524287, 1048575, 2097151, 4194303, 4194303, 16777215, 33554431, 67108863]
theorem law09_SlotWrites.tab12 : rtab .any (opsOf Try.f4 12) = law09_SlotWrites.T12 := by kernel_rfl
theorem law09_SlotWrites.bits12 : waitsOk law09_SlotWrites.T12.2 law09_SlotWrites.B12 = true := by kernel_rfl
def law09_SlotWrites.T16 : Bool × List (List Nat × List Nat) := (true, [([], []), ([0], [0]), ([], []), ([], []), ([3], [3]), ([], []), ([4, 5], [4, 5]), ([6], [6]), ([7], [7]), ([1, 2, 0, 1, 2, 3, 4, 5, 6, 7, 8], [1, 2]), ([9, 8, 0, 1, 2, 3, 4, 5, 6, 7, 8], [8, 9])])
def law09_SlotWrites.B16 : List Nat := [0, 1, 0, 0, 8, 0, 56, 120, 248, 511, 1023]
theorem law09_SlotWrites.tab16 : rtab .any (opsOf Try.f4 16) = law09_SlotWrites.T16 := by kernel_rfl
theorem law09_SlotWrites.bits16 : waitsOk law09_SlotWrites.T16.2 law09_SlotWrites.B16 = true := by kernel_rfl

end Go.Proofs.Ytnnknbbgkjgbcaa.PAll
