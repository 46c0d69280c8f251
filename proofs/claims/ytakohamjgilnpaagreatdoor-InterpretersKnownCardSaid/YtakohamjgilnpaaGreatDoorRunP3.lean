/-
  Closed runs by the kernel: kept calls give what is said of them; no condition.
-/
import Derived.Test.YtakohamjgilnpaaGreatDoorTabs
set_option linter.unusedVariables false
set_option linter.unusedSimpArgs false
namespace Go.Proofs.YtakohamjgilnpaaGreatDoor
open Go Go.Abs
set_option maxRecDepth 100000
set_option maxHeartbeats 0
theorem run7_g3_run : run7_g3 = tru := by kernel_rfl
theorem run7_g7_run : run7_g7 = tru := by kernel_rfl
theorem run7_g11_run : run7_g11 = tru := by kernel_rfl
theorem run7_g15_run : run7_g15 = tru := by kernel_rfl
theorem run7_g19_run : run7_g19 = tru := by kernel_rfl
theorem run7_g23_run : run7_g23 = tru := by kernel_rfl
theorem run7_g27_run : run7_g27 = tru := by kernel_rfl
end Go.Proofs.YtakohamjgilnpaaGreatDoor
