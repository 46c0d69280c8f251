/-
  Closed runs by the kernel: kept calls give what is said of them; no condition.
-/
import Derived.Test.YtkadfophjfmknaaGreatDoorTabs
set_option linter.unusedVariables false
set_option linter.unusedSimpArgs false
namespace Go.Proofs.YtkadfophjfmknaaGreatDoor
open Go Go.Abs
set_option maxRecDepth 100000
set_option maxHeartbeats 0
theorem run14_g30_run : run14_g30 = tru := by kernel_rfl
theorem run14_g28_run : run14_g28 = tru := by kernel_rfl
theorem run14_g15_run : run14_g15 = tru := by kernel_rfl
theorem run14_g3_run : run14_g3 = tru := by kernel_rfl
end Go.Proofs.YtkadfophjfmknaaGreatDoor
