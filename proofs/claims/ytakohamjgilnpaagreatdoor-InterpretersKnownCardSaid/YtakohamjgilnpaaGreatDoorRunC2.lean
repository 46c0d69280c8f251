/-
  Closed runs by the kernel: kept calls give what is said of them; no condition.
-/
import Derived.Test.YtakohamjgilnpaaGreatDoorTabs
set_option linter.unusedVariables false
set_option linter.unusedSimpArgs false
namespace Go.Proofs.YtakohamjgilnpaaGreatDoor
open Go Go.Abs
set_option maxRecDepth 100000
set_option maxHeartbeats 0
theorem run11_g18_run : run11_g18 = tru := by kernel_rfl
theorem run11_g14_run : run11_g14 = tru := by kernel_rfl
theorem run11_g2_run : run11_g2 = tru := by kernel_rfl
theorem run11_g8_run : run11_g8 = tru := by kernel_rfl
theorem run11_g16_run : run11_g16 = tru := by kernel_rfl
end Go.Proofs.YtakohamjgilnpaaGreatDoor
