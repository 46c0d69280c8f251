/-
  Closed runs by the kernel: kept calls give what is said of them; no condition.
-/
import Derived.Test.YtakohamjgilnpaaGreatDoorTabs
set_option linter.unusedVariables false
set_option linter.unusedSimpArgs false
namespace Go.Proofs.YtakohamjgilnpaaGreatDoor
open Go Go.Abs
set_option maxRecDepth 100000
set_option maxHeartbeats 0
theorem run11_g9_run : run11_g9 = tru := by kernel_rfl
theorem run11_g13_run : run11_g13 = tru := by kernel_rfl
theorem run11_g7_run : run11_g7 = tru := by kernel_rfl
theorem run11_g23_run : run11_g23 = tru := by kernel_rfl
theorem run11_g25_run : run11_g25 = tru := by kernel_rfl
end Go.Proofs.YtakohamjgilnpaaGreatDoor
