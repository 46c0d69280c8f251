/-
  Closed runs by the kernel: kept calls give what is said of them; no condition.
-/
import Derived.Test.YtkadfophjfmknaaGreatDoorTabs
set_option linter.unusedVariables false
set_option linter.unusedSimpArgs false
namespace Go.Proofs.YtkadfophjfmknaaGreatDoor
open Go Go.Abs
set_option maxRecDepth 100000
set_option maxHeartbeats 0
theorem run14_g31_run : run14_g31 = tru := by kernel_rfl
theorem run14_g14_run : run14_g14 = tru := by kernel_rfl
theorem run14_g37_run : run14_g37 = tru := by kernel_rfl
theorem run14_g13_run : run14_g13 = tru := by kernel_rfl
end Go.Proofs.YtkadfophjfmknaaGreatDoor
