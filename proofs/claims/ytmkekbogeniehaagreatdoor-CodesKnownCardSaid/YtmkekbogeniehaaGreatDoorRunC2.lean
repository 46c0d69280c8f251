/-
  Closed runs by the kernel: kept calls give what is said of them; no condition.
-/
import Derived.Test.YtmkekbogeniehaaGreatDoorTabs
set_option linter.unusedVariables false
set_option linter.unusedSimpArgs false
namespace Go.Proofs.YtmkekbogeniehaaGreatDoor
open Go Go.Abs
set_option maxRecDepth 100000
set_option maxHeartbeats 0
theorem run9_g31_run : run9_g31 = tru := by kernel_rfl
theorem run9_g2_run : run9_g2 = tru := by kernel_rfl
theorem run9_g9_run : run9_g9 = tru := by kernel_rfl
theorem run9_g15_run : run9_g15 = tru := by kernel_rfl
theorem run9_g20_run : run9_g20 = tru := by kernel_rfl
theorem run9_g25_run : run9_g25 = tru := by kernel_rfl
theorem run9_g30_run : run9_g30 = tru := by kernel_rfl
theorem run9_g36_run : run9_g36 = tru := by kernel_rfl
end Go.Proofs.YtmkekbogeniehaaGreatDoor
