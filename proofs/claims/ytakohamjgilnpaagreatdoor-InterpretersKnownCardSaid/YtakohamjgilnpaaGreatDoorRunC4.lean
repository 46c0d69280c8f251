/-
  Closed runs by the kernel: kept calls give what is said of them; no condition.
-/
import Derived.Test.YtakohamjgilnpaaGreatDoorTabsX
set_option linter.unusedVariables false
set_option linter.unusedSimpArgs false
namespace Go.Proofs.YtakohamjgilnpaaGreatDoor
open Go Go.Abs
set_option maxRecDepth 100000
set_option maxHeartbeats 0
theorem run11_x24_run : run11_x24 = tru := by kernel_rfl
theorem run11_g1_run : run11_g1 = tru := by kernel_rfl
theorem run11_g11_run : run11_g11 = tru := by kernel_rfl
theorem run11_g17_run : run11_g17 = tru := by kernel_rfl
theorem run11_g21_run : run11_g21 = tru := by kernel_rfl
end Go.Proofs.YtakohamjgilnpaaGreatDoor
