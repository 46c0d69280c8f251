/-
  Closed runs by the kernel: kept calls give what is said of them; no condition.
-/
import Derived.Test.YtmkekbogeniehaaGreatDoorTabs
set_option linter.unusedVariables false
set_option linter.unusedSimpArgs false
namespace Go.Proofs.YtmkekbogeniehaaGreatDoor
open Go Go.Abs
set_option maxRecDepth 100000
set_option maxHeartbeats 0
theorem run11_g2_run : run11_g2 = tru := by kernel_rfl
theorem run11_g6_run : run11_g6 = tru := by kernel_rfl
theorem run11_g10_run : run11_g10 = tru := by kernel_rfl
theorem run11_g14_run : run11_g14 = tru := by kernel_rfl
theorem run11_g18_run : run11_g18 = tru := by kernel_rfl
theorem run11_g22_run : run11_g22 = tru := by kernel_rfl
theorem run11_g26_run : run11_g26 = tru := by kernel_rfl
theorem run11_g30_run : run11_g30 = tru := by kernel_rfl
theorem run11_g34_run : run11_g34 = tru := by kernel_rfl
theorem run11_g38_run : run11_g38 = tru := by kernel_rfl
end Go.Proofs.YtmkekbogeniehaaGreatDoor
