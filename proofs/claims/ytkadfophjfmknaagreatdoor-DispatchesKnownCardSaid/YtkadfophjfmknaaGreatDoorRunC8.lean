/-
  Closed runs by the kernel: kept calls give what is said of them; no condition.
-/
import Derived.Test.YtkadfophjfmknaaGreatDoorTabs
set_option linter.unusedVariables false
set_option linter.unusedSimpArgs false
namespace Go.Proofs.YtkadfophjfmknaaGreatDoor
open Go Go.Abs
set_option maxRecDepth 100000
set_option maxHeartbeats 0
theorem run14_g32_run : run14_g32 = tru := by kernel_rfl
theorem run14_g4_run : run14_g4 = tru := by kernel_rfl
theorem run14_g6_run : run14_g6 = tru := by kernel_rfl
theorem run14_g19_run : run14_g19 = tru := by kernel_rfl
end Go.Proofs.YtkadfophjfmknaaGreatDoor
