/-
  Closed runs by the kernel: kept calls give what is said of them; no condition.
-/
import Derived.Test.YtmkekbogeniehaaGreatDoorTabs
set_option linter.unusedVariables false
set_option linter.unusedSimpArgs false
namespace Go.Proofs.YtmkekbogeniehaaGreatDoor
open Go Go.Abs
set_option maxRecDepth 100000
set_option maxHeartbeats 0
theorem run11_g3_run : run11_g3 = tru := by kernel_rfl
theorem run11_g7_run : run11_g7 = tru := by kernel_rfl
theorem run11_g11_run : run11_g11 = tru := by kernel_rfl
theorem run11_g15_run : run11_g15 = tru := by kernel_rfl
theorem run11_g19_run : run11_g19 = tru := by kernel_rfl
theorem run11_g23_run : run11_g23 = tru := by kernel_rfl
theorem run11_g27_run : run11_g27 = tru := by kernel_rfl
theorem run11_g31_run : run11_g31 = tru := by kernel_rfl
theorem run11_g35_run : run11_g35 = tru := by kernel_rfl
theorem run11_g39_run : run11_g39 = tru := by kernel_rfl
end Go.Proofs.YtmkekbogeniehaaGreatDoor
