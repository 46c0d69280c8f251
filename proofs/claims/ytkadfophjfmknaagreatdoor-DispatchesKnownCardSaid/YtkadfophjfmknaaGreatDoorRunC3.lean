/-
  Closed runs by the kernel: kept calls give what is said of them; no condition.
-/
import Derived.Test.YtkadfophjfmknaaGreatDoorTabs
set_option linter.unusedVariables false
set_option linter.unusedSimpArgs false
namespace Go.Proofs.YtkadfophjfmknaaGreatDoor
open Go Go.Abs
set_option maxRecDepth 100000
set_option maxHeartbeats 0
theorem run14_g33_run : run14_g33 = tru := by kernel_rfl
theorem run14_g39_run : run14_g39 = tru := by kernel_rfl
theorem run14_g35_run : run14_g35 = tru := by kernel_rfl
theorem run14_g36_run : run14_g36 = tru := by kernel_rfl
theorem run6_g14_run : run6_g14 = tru := by kernel_rfl
theorem run6_g18_run : run6_g18 = tru := by kernel_rfl
theorem run6_g22_run : run6_g22 = tru := by kernel_rfl
theorem run6_g26_run : run6_g26 = tru := by kernel_rfl
theorem run6_g30_run : run6_g30 = tru := by kernel_rfl
end Go.Proofs.YtkadfophjfmknaaGreatDoor
