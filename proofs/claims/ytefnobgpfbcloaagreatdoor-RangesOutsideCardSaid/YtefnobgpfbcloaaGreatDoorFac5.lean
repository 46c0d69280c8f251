/-
  The card's closed facts (text 5); no condition.
-/
import Derived.Test.YtefnobgpfbcloaaGreatDoorRows
import Derived.SevenTiedAt
set_option linter.unusedVariables false
set_option linter.unusedSimpArgs false
namespace Go.Proofs.YtefnobgpfbcloaaGreatDoor
open Go
set_option maxRecDepth 100000
theorem card_wf : Rows.rangesOutsideRow.wfByText (OpenSpec.ofChange Rows.rangesOutsideSpec) = true := by kernel_rfl
theorem card_main : Tryz.pinned.checked.prog.mainIs = some (true, "d66975ecf74eb2f28f1f6a82839b8447912a00f79ead62ce6917a4c9c881216c".toList) := by kernel_rfl
end Go.Proofs.YtefnobgpfbcloaaGreatDoor
