/-
  Closed runs by the kernel: kept calls give what is said of them; no condition.
-/
import Derived.Test.YtmkekbogeniehaaGreatDoorTabsX
set_option linter.unusedVariables false
set_option linter.unusedSimpArgs false
namespace Go.Proofs.YtmkekbogeniehaaGreatDoor
open Go Go.Abs
set_option maxRecDepth 100000
set_option maxHeartbeats 0
theorem run9_g8_run : run9_g8 = tru := by kernel_rfl
theorem run9_g3_run : run9_g3 = tru := by kernel_rfl
theorem run9_g10_run : run9_g10 = tru := by kernel_rfl
theorem run9_g16_run : run9_g16 = tru := by kernel_rfl
theorem run9_g21_run : run9_g21 = tru := by kernel_rfl
theorem run9_g26_run : run9_g26 = tru := by kernel_rfl
theorem run9_g32_run : run9_g32 = tru := by kernel_rfl
theorem run9_x37_run : run9_x37 = tru := by kernel_rfl
end Go.Proofs.YtmkekbogeniehaaGreatDoor
