/-
  Closed runs by the kernel: kept calls give what is said of them; no condition.
-/
import Derived.Test.YtmkekbogeniehaaGreatDoorTabsX
set_option linter.unusedVariables false
set_option linter.unusedSimpArgs false
namespace Go.Proofs.YtmkekbogeniehaaGreatDoor
open Go Go.Abs
set_option maxRecDepth 100000
set_option maxHeartbeats 0
noncomputable def run9_x39 : Bool := rkW fnsX tab8 4 ag39
theorem run9_x39_run : run9_x39 = tru := by kernel_rfl
end Go.Proofs.YtmkekbogeniehaaGreatDoor
