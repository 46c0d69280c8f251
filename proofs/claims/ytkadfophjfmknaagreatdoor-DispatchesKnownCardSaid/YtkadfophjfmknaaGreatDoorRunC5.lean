/-
  Closed runs by the kernel: kept calls give what is said of them; no condition.
-/
import Derived.Test.YtkadfophjfmknaaGreatDoorTabs
set_option linter.unusedVariables false
set_option linter.unusedSimpArgs false
namespace Go.Proofs.YtkadfophjfmknaaGreatDoor
open Go Go.Abs
set_option maxRecDepth 100000
set_option maxHeartbeats 0
theorem run14_g7_run : run14_g7 = tru := by kernel_rfl
theorem run14_g25_run : run14_g25 = tru := by kernel_rfl
theorem run14_g23_run : run14_g23 = tru := by kernel_rfl
theorem run14_g38_run : run14_g38 = tru := by kernel_rfl
end Go.Proofs.YtkadfophjfmknaaGreatDoor
