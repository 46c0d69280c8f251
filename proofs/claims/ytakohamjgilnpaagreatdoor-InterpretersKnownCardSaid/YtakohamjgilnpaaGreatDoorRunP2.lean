/-
  Closed runs by the kernel: kept calls give what is said of them; no condition.
-/
import Derived.Test.YtakohamjgilnpaaGreatDoorTabs
set_option linter.unusedVariables false
set_option linter.unusedSimpArgs false
namespace Go.Proofs.YtakohamjgilnpaaGreatDoor
open Go Go.Abs
set_option maxRecDepth 100000
set_option maxHeartbeats 0
theorem run7_g2_run : run7_g2 = tru := by kernel_rfl
theorem run7_g6_run : run7_g6 = tru := by kernel_rfl
theorem run7_g10_run : run7_g10 = tru := by kernel_rfl
theorem run7_g14_run : run7_g14 = tru := by kernel_rfl
theorem run7_g18_run : run7_g18 = tru := by kernel_rfl
theorem run7_g22_run : run7_g22 = tru := by kernel_rfl
theorem run7_g26_run : run7_g26 = tru := by kernel_rfl
end Go.Proofs.YtakohamjgilnpaaGreatDoor
