/-
  The row's closed facts (text 1 of 4); no condition.
-/
import Derived.Test.YtefnobgpfbcloaaGreatDoorRows
import Derived.Clock
import Derived.ProofKit
set_option linter.unusedVariables false
set_option linter.unusedSimpArgs false
namespace Go.Proofs.YtefnobgpfbcloaaGreatDoor
open Go
set_option maxRecDepth 100000
theorem fac_named : Tryz.pinned.checked.prog.funcNamed Rows.rangesOutsideRow.func = some 3 := by kernel_rfl
end Go.Proofs.YtefnobgpfbcloaaGreatDoor
