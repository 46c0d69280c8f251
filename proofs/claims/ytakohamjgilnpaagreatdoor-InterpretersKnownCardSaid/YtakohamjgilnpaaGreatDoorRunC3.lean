/-
  Closed runs by the kernel: kept calls give what is said of them; no condition.
-/
import Derived.Test.YtakohamjgilnpaaGreatDoorTabs
set_option linter.unusedVariables false
set_option linter.unusedSimpArgs false
namespace Go.Proofs.YtakohamjgilnpaaGreatDoor
open Go Go.Abs
set_option maxRecDepth 100000
set_option maxHeartbeats 0
theorem run11_g29_run : run11_g29 = tru := by kernel_rfl
theorem run11_g4_run : run11_g4 = tru := by kernel_rfl
theorem run11_g22_run : run11_g22 = tru := by kernel_rfl
theorem run11_g28_run : run11_g28 = tru := by kernel_rfl
theorem run11_g26_run : run11_g26 = tru := by kernel_rfl
end Go.Proofs.YtakohamjgilnpaaGreatDoor
