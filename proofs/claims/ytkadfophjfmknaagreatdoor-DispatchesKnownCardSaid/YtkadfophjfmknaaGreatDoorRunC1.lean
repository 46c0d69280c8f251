/-
  Closed runs by the kernel: kept calls give what is said of them; no condition.
-/
import Derived.Test.YtkadfophjfmknaaGreatDoorTabs
set_option linter.unusedVariables false
set_option linter.unusedSimpArgs false
namespace Go.Proofs.YtkadfophjfmknaaGreatDoor
open Go Go.Abs
set_option maxRecDepth 100000
set_option maxHeartbeats 0
theorem run14_g12_run : run14_g12 = tru := by kernel_rfl
theorem run14_g11_run : run14_g11 = tru := by kernel_rfl
theorem run14_g17_run : run14_g17 = tru := by kernel_rfl
theorem run14_g5_run : run14_g5 = tru := by kernel_rfl
end Go.Proofs.YtkadfophjfmknaaGreatDoor
