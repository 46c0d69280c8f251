/-
  Closed runs by the kernel: kept calls give what is said of them; no condition.
-/
import Derived.Test.YtakohamjgilnpaaGreatDoorTabs
set_option linter.unusedVariables false
set_option linter.unusedSimpArgs false
namespace Go.Proofs.YtakohamjgilnpaaGreatDoor
open Go Go.Abs
set_option maxRecDepth 100000
set_option maxHeartbeats 0
theorem run11_g10_run : run11_g10 = tru := by kernel_rfl
theorem run11_g12_run : run11_g12 = tru := by kernel_rfl
theorem run11_g5_run : run11_g5 = tru := by kernel_rfl
theorem run11_g27_run : run11_g27 = tru := by kernel_rfl
theorem run11_g6_run : run11_g6 = tru := by kernel_rfl
end Go.Proofs.YtakohamjgilnpaaGreatDoor
