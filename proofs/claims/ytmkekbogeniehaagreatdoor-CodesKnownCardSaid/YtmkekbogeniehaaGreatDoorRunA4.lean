/-
  Closed runs by the kernel: kept calls give what is said of them; no condition.
-/
import Derived.Test.YtmkekbogeniehaaGreatDoorTabsX
set_option linter.unusedVariables false
set_option linter.unusedSimpArgs false
namespace Go.Proofs.YtmkekbogeniehaaGreatDoor
open Go Go.Abs
set_option maxRecDepth 100000
set_option maxHeartbeats 0
theorem run10_x13_run : run10_x13 = tru := by kernel_rfl
theorem run10_g4_run : run10_g4 = tru := by kernel_rfl
theorem run10_g11_run : run10_g11 = tru := by kernel_rfl
theorem run10_g17_run : run10_g17 = tru := by kernel_rfl
end Go.Proofs.YtmkekbogeniehaaGreatDoor
