/-
  The row's closed facts (text 3 of 4); no condition.
-/
import Derived.Test.YtefnobgpfbcloaaGreatDoorRows
import Derived.Clock
import Derived.ProofKit
set_option linter.unusedVariables false
set_option linter.unusedSimpArgs false
namespace Go.Proofs.YtefnobgpfbcloaaGreatDoor
open Go
set_option maxRecDepth 100000
theorem fac_inst : Tryz.f3.isInstance Tryz.pinned.checked.prog Rows.rangesOutsideRow.origin Rows.rangesOutsideRow.targs := of_decide_eq_true (by kernel_rfl)
end Go.Proofs.YtefnobgpfbcloaaGreatDoor
