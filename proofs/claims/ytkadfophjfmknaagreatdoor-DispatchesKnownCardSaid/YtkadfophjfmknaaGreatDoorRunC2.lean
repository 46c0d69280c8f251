/-
  Closed runs by the kernel: kept calls give what is said of them; no condition.
-/
import Derived.Test.YtkadfophjfmknaaGreatDoorTabs
set_option linter.unusedVariables false
set_option linter.unusedSimpArgs false
namespace Go.Proofs.YtkadfophjfmknaaGreatDoor
open Go Go.Abs
set_option maxRecDepth 100000
set_option maxHeartbeats 0
theorem run14_g20_run : run14_g20 = tru := by kernel_rfl
theorem run14_g22_run : run14_g22 = tru := by kernel_rfl
theorem run14_g16_run : run14_g16 = tru := by kernel_rfl
theorem run14_g8_run : run14_g8 = tru := by kernel_rfl
end Go.Proofs.YtkadfophjfmknaaGreatDoor
