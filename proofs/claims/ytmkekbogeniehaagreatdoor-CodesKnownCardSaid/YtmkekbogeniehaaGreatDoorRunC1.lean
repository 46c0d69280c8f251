/-
  Closed runs by the kernel: kept calls give what is said of them; no condition.
-/
import Derived.Test.YtmkekbogeniehaaGreatDoorTabs
set_option linter.unusedVariables false
set_option linter.unusedSimpArgs false
namespace Go.Proofs.YtmkekbogeniehaaGreatDoor
open Go Go.Abs
set_option maxRecDepth 100000
set_option maxHeartbeats 0
theorem run9_g7_run : run9_g7 = tru := by kernel_rfl
theorem run9_g1_run : run9_g1 = tru := by kernel_rfl
theorem run9_g6_run : run9_g6 = tru := by kernel_rfl
theorem run9_g14_run : run9_g14 = tru := by kernel_rfl
theorem run9_g19_run : run9_g19 = tru := by kernel_rfl
theorem run9_g24_run : run9_g24 = tru := by kernel_rfl
theorem run9_g29_run : run9_g29 = tru := by kernel_rfl
theorem run9_g35_run : run9_g35 = tru := by kernel_rfl
end Go.Proofs.YtmkekbogeniehaaGreatDoor
