/-
  Closed runs by the kernel: kept calls give what is said of them; no condition.
-/
import Derived.Test.YtmkekbogeniehaaGreatDoorTabs
set_option linter.unusedVariables false
set_option linter.unusedSimpArgs false
namespace Go.Proofs.YtmkekbogeniehaaGreatDoor
open Go Go.Abs
set_option maxRecDepth 100000
set_option maxHeartbeats 0
theorem run9_g4_run : run9_g4 = tru := by kernel_rfl
theorem run9_g11_run : run9_g11 = tru := by kernel_rfl
end Go.Proofs.YtmkekbogeniehaaGreatDoor
