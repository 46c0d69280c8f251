/-
  Closed runs by the kernel: kept calls give what is said of them; no condition.
-/
import Derived.Test.YtkadfophjfmknaaGreatDoorTabs
set_option linter.unusedVariables false
set_option linter.unusedSimpArgs false
namespace Go.Proofs.YtkadfophjfmknaaGreatDoor
open Go Go.Abs
set_option maxRecDepth 100000
set_option maxHeartbeats 0
theorem run14_g2_run : run14_g2 = tru := by kernel_rfl
theorem run14_g24_run : run14_g24 = tru := by kernel_rfl
theorem run14_g18_run : run14_g18 = tru := by kernel_rfl
theorem run14_g26_run : run14_g26 = tru := by kernel_rfl
end Go.Proofs.YtkadfophjfmknaaGreatDoor
