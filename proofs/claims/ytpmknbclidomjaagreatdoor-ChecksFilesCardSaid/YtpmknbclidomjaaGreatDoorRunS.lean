/-
  Closed runs by the kernel: words.table() gives its table; lives() gives true; no condition.
-/
import Derived.Test.YtpmknbclidomjaaGreatDoorTabs
set_option linter.unusedVariables false
set_option linter.unusedSimpArgs false
namespace Go.Proofs.YtpmknbclidomjaaGreatDoor
open Go Go.Abs
set_option maxRecDepth 100000
set_option maxHeartbeats 0
theorem runW_run : runW = tru := by kernel_rfl
theorem run2_true_run : run2_true = tru := by kernel_rfl
end Go.Proofs.YtpmknbclidomjaaGreatDoor
