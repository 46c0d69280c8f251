/-
  Closed runs by the kernel: RangesOutside gives true for all numbers with the rests that are named (text 1 of 7); no condition.
-/
import Derived.Test.YtefnobgpfbcloaaGreatDoorTabs
set_option linter.unusedVariables false
set_option linter.unusedSimpArgs false
namespace Go.Proofs.YtefnobgpfbcloaaGreatDoor
open Go Go.Abs
set_option maxRecDepth 100000
set_option maxHeartbeats 0
theorem run_caseZ_0 : caseZ 0 = tru := by kernel_rfl
theorem run_caseZ_1 : caseZ 1 = tru := by kernel_rfl
theorem run_caseZ_2 : caseZ 2 = tru := by kernel_rfl
end Go.Proofs.YtefnobgpfbcloaaGreatDoor
