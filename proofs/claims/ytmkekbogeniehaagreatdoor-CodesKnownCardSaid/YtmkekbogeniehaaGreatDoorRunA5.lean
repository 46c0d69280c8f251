/-
  Closed runs by the kernel: kept calls give what is said of them; no condition.
-/
import Derived.Test.YtmkekbogeniehaaGreatDoorTabsX
set_option linter.unusedVariables false
set_option linter.unusedSimpArgs false
namespace Go.Proofs.YtmkekbogeniehaaGreatDoor
open Go Go.Abs
set_option maxRecDepth 100000
set_option maxHeartbeats 0
noncomputable def run10_x39 : Bool := rkW fnsY tab9 5 an39
theorem run10_g22_run : run10_g22 = tru := by kernel_rfl
theorem run10_g27_run : run10_g27 = tru := by kernel_rfl
theorem run10_g33_run : run10_g33 = tru := by kernel_rfl
theorem run10_x39_run : run10_x39 = tru := by kernel_rfl
end Go.Proofs.YtmkekbogeniehaaGreatDoor
