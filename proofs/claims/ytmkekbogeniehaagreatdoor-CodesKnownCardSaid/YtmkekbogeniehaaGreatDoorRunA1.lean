/-
  Closed runs by the kernel: kept calls give what is said of them; no condition.
-/
import Derived.Test.YtmkekbogeniehaaGreatDoorTabs
set_option linter.unusedVariables false
set_option linter.unusedSimpArgs false
namespace Go.Proofs.YtmkekbogeniehaaGreatDoor
open Go Go.Abs
set_option maxRecDepth 100000
set_option maxHeartbeats 0
theorem run10_g7_run : run10_g7 = tru := by kernel_rfl
theorem run10_g1_run : run10_g1 = tru := by kernel_rfl
theorem run10_g6_run : run10_g6 = tru := by kernel_rfl
theorem run10_g14_run : run10_g14 = tru := by kernel_rfl
theorem run10_g19_run : run10_g19 = tru := by kernel_rfl
theorem run10_g24_run : run10_g24 = tru := by kernel_rfl
theorem run10_g29_run : run10_g29 = tru := by kernel_rfl
theorem run10_g35_run : run10_g35 = tru := by kernel_rfl
end Go.Proofs.YtmkekbogeniehaaGreatDoor
