/-
  Closed runs by the kernel: kept calls give what is said of them; no condition.
-/
import Derived.Test.YtmkekbogeniehaaGreatDoorTabsX
set_option linter.unusedVariables false
set_option linter.unusedSimpArgs false
namespace Go.Proofs.YtmkekbogeniehaaGreatDoor
open Go Go.Abs
set_option maxRecDepth 100000
set_option maxHeartbeats 0
theorem run9_g38_run : run9_g38 = tru := by kernel_rfl
theorem run9_g0_run : run9_g0 = tru := by kernel_rfl
theorem run9_g5_run : run9_g5 = tru := by kernel_rfl
theorem run9_g12_run : run9_g12 = tru := by kernel_rfl
theorem run9_x18_run : run9_x18 = tru := by kernel_rfl
theorem run9_g23_run : run9_g23 = tru := by kernel_rfl
theorem run9_g28_run : run9_g28 = tru := by kernel_rfl
theorem run9_g34_run : run9_g34 = tru := by kernel_rfl
end Go.Proofs.YtmkekbogeniehaaGreatDoor
