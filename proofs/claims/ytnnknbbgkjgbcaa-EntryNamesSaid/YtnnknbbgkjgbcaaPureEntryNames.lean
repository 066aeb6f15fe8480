/-
The errors' numbers and the chapter's examples (law EntryNames answers true).
Conditions: none beside the law's own.
-/
import Derived.Test.YtnnknbbgkjgbcaaPEN10
namespace Go.Proofs.Ytnnknbbgkjgbcaa.Pure
open Go.RowKit Go.Proofs.Ytnnknbbgkjgbcaa.PEN Go.Proofs.YtnnknbbgkjgbcaaW.PrintWords Go.Proofs.YtnnknbbgkjgbcaaW.PrintLast

theorem EntryNames : law19_EntryNames.Pure := ⟨100, by decide +kernel⟩

end Go.Proofs.Ytnnknbbgkjgbcaa.Pure
