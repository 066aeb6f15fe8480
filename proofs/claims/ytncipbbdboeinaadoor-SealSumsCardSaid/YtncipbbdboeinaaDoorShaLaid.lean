/-
The package table k, as the row lists it.
-/
import Derived.Test.YtncipbbdboeinaaDoorRows
import Derived.Test.YtncipbbdboeinaaDoorShaTurn
import Derived.ProofKit
import Derived.LaidMore
import Derived.LaidLaws
import Derived.OpenShut
import Derived.Stop.Joined
import Derived.Lib.LaidTab
namespace Go.Proofs.YtncipbbdboeinaaDoor
open Go.RowKit Go.ChangeShapes Go.WideShapes Go.ChangeAt
set_option maxRecDepth 100000
abbrev laidK : List (String × DataW Unit) := [("thimblerig/sha.k", Rows.laid_thimblerig_sha_k)]
theorem gK : Tryd.prog.globalNamed "thimblerig/sha.k" = some 1 := by kernel_rfl
theorem tK : (Tryd.prog.globals[1]?).map (·.type) = some 73 := by kernel_rfl
theorem door_met (os : Os) (args : Array Value) : laidMetH Tryd.prog laidK ((World.doorLaid Tryd.prog 400 os).forCall (fun _ _ => 0) ⟨#[], args, []⟩).memory :=
  laidMetH_of_parts3 (fuel := 8) (laidMet_of_run' 8 (by kernel_rfl) (by kernel_rfl)) (by kernel_rfl) (by kernel_rfl)
theorem laidK_tab : (Rows.laid_thimblerig_sha_k : DataW Unit) = Lib.tabData .u32 kT := by rfl
theorem ktab_of_laid {W : World} (h : laidMetH Tryd.prog laidK W) : Ktab W := by
  rw [MakeChecks.laidMetH_plain _ _ _ (by kernel_rfl)] at h
  have hk : laidK = [("thimblerig/sha.k", Lib.tabData .u32 kT)] := by rw [laidK, laidK_tab]
  rw [hk] at h
  have hT := Lib.tabIs_of_head (n := 64) (e := 52) gK tK Tryd.underlying73 Tryd.underlying52 (by kernel_rfl) (by kernel_rfl) h
  exact fun i hi => hT.cell gK i hi
end Go.Proofs.YtncipbbdboeinaaDoor
