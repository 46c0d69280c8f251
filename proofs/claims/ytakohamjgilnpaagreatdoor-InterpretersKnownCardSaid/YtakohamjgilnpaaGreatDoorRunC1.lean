/-
  Closed runs by the kernel: kept calls give what is said of them; no condition.
-/
import Derived.Test.YtakohamjgilnpaaGreatDoorTabsX
set_option linter.unusedVariables false
set_option linter.unusedSimpArgs false
namespace Go.Proofs.YtakohamjgilnpaaGreatDoor
open Go Go.Abs
set_option maxRecDepth 100000
set_option maxHeartbeats 0
theorem run11_g20_run : run11_g20 = tru := by kernel_rfl
theorem run11_x19_run : run11_x19 = tru := by kernel_rfl
theorem run11_g3_run : run11_g3 = tru := by kernel_rfl
theorem run11_g15_run : run11_g15 = tru := by kernel_rfl
theorem run11_g0_run : run11_g0 = tru := by kernel_rfl
end Go.Proofs.YtakohamjgilnpaaGreatDoor
