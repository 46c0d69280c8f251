/-
  Closed runs by the kernel: kept calls give what is said of them; no condition.
-/
import Derived.Test.YtkadfophjfmknaaGreatDoorTabs
set_option linter.unusedVariables false
set_option linter.unusedSimpArgs false
namespace Go.Proofs.YtkadfophjfmknaaGreatDoor
open Go Go.Abs
set_option maxRecDepth 100000
set_option maxHeartbeats 0
theorem run14_g27_run : run14_g27 = tru := by kernel_rfl
theorem run14_g21_run : run14_g21 = tru := by kernel_rfl
theorem run14_g34_run : run14_g34 = tru := by kernel_rfl
theorem run14_g29_run : run14_g29 = tru := by kernel_rfl
end Go.Proofs.YtkadfophjfmknaaGreatDoor
