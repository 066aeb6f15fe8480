/-
For every height and two numbers: the program's path of a leaf, how deep two leaves go together, and whether a bucket is on a path, or its errors, are the reference's (law GeoPaths answers true).
Conditions: none beside the law's own.
-/
import Derived.Test.YtncpilnallghpaaPAll30
import Derived.Test.YtncpilnallghpaaGeoWay
import Derived.Test.YtncpilnallghpaaListLaw
namespace Go.Proofs.Ytncpilnallghpaa.Pure
open Go.RowKit Go.Proofs.Ytncpilnallghpaa.PAll Go.Proofs.YtncpilnallghpaaW.PrintWords Go.Proofs.YtncpilnallghpaaW.PrintLast

theorem GeoPaths : law07_GeoPaths.Pure := by
  intro a0 a1 a2 _ _ _
  refine ⟨20, ?_⟩
  unfold law07_GeoPaths.f
  rw [ref_path_eq, deep_eq, ref_deep_eq, ref_on_eq]
  cases hp : geo_Path.f a0 a1 with
  | none => cases hp
  | some p =>
    cases ho : geo_On.f a0 a2 a1 with
    | none => cases ho
    | some o =>
      have hlen : p.1.length ≤ 7 := by
        unfold geo_Path.f at hp
        cases hh : isHigh a0 with
        | false => rw [hh] at hp; cases hp; simp
        | true =>
          have h6 := ((isHigh_iff a0).1 hh).2
          split at hp
          · cases hp; rw [wayAll_length]; omega
          · cases hp; simp
      simp only [Option.bind_some]
      rw [sameInts_self p.1 (by omega) 20 (by omega)]
      simp

end Go.Proofs.Ytncpilnallghpaa.Pure
