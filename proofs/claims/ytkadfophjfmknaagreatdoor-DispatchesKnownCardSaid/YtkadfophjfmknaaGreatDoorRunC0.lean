/-
  Closed runs by the kernel: kept calls give what is said of them; no condition.
-/
import Derived.Test.YtkadfophjfmknaaGreatDoorTabs
set_option linter.unusedVariables false
set_option linter.unusedSimpArgs false
namespace Go.Proofs.YtkadfophjfmknaaGreatDoor
open Go Go.Abs
set_option maxRecDepth 100000
set_option maxHeartbeats 0
theorem run14_g9_run : run14_g9 = tru := by kernel_rfl
theorem run14_g10_run : run14_g10 = tru := by kernel_rfl
theorem run14_g0_run : run14_g0 = tru := by kernel_rfl
theorem run14_g1_run : run14_g1 = tru := by kernel_rfl
end Go.Proofs.YtkadfophjfmknaaGreatDoor
