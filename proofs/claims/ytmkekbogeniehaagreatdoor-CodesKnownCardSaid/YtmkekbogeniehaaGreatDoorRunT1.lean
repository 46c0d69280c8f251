/-
  Closed runs by the kernel: kept calls give what is said of them; no condition.
-/
import Derived.Test.YtmkekbogeniehaaGreatDoorTabs
set_option linter.unusedVariables false
set_option linter.unusedSimpArgs false
namespace Go.Proofs.YtmkekbogeniehaaGreatDoor
open Go Go.Abs
set_option maxRecDepth 100000
set_option maxHeartbeats 0
theorem run11_g1_run : run11_g1 = tru := by kernel_rfl
theorem run11_g5_run : run11_g5 = tru := by kernel_rfl
theorem run11_g9_run : run11_g9 = tru := by kernel_rfl
theorem run11_g13_run : run11_g13 = tru := by kernel_rfl
theorem run11_g17_run : run11_g17 = tru := by kernel_rfl
theorem run11_g21_run : run11_g21 = tru := by kernel_rfl
theorem run11_g25_run : run11_g25 = tru := by kernel_rfl
theorem run11_g29_run : run11_g29 = tru := by kernel_rfl
theorem run11_g33_run : run11_g33 = tru := by kernel_rfl
theorem run11_g37_run : run11_g37 = tru := by kernel_rfl
end Go.Proofs.YtmkekbogeniehaaGreatDoor
