/-
  Closed runs by the kernel: RangesOutside gives true for all numbers with the rests that are named (text 4 of 7); no condition.
-/
import Derived.Test.YtefnobgpfbcloaaGreatDoorTabs
set_option linter.unusedVariables false
set_option linter.unusedSimpArgs false
namespace Go.Proofs.YtefnobgpfbcloaaGreatDoor
open Go Go.Abs
set_option maxRecDepth 100000
set_option maxHeartbeats 0
theorem run_caseB_2_0_0 : caseB 2 0 0 = tru := by kernel_rfl
theorem run_caseB_2_0_1 : caseB 2 0 1 = tru := by kernel_rfl
theorem run_caseB_2_1_0 : caseB 2 1 0 = tru := by kernel_rfl
end Go.Proofs.YtefnobgpfbcloaaGreatDoor
