/-
  Closed runs by the kernel: kept calls give what is said of them; no condition.
-/
import Derived.Test.YtmkekbogeniehaaGreatDoorTabs
set_option linter.unusedVariables false
set_option linter.unusedSimpArgs false
namespace Go.Proofs.YtmkekbogeniehaaGreatDoor
open Go Go.Abs
set_option maxRecDepth 100000
set_option maxHeartbeats 0
theorem run7_g1_run : run7_g1 = tru := by kernel_rfl
theorem run7_g3_run : run7_g3 = tru := by kernel_rfl
theorem run7_g5_run : run7_g5 = tru := by kernel_rfl
theorem run7_g7_run : run7_g7 = tru := by kernel_rfl
theorem run7_g9_run : run7_g9 = tru := by kernel_rfl
theorem run7_g11_run : run7_g11 = tru := by kernel_rfl
theorem run7_g13_run : run7_g13 = tru := by kernel_rfl
theorem run7_g15_run : run7_g15 = tru := by kernel_rfl
theorem run7_g17_run : run7_g17 = tru := by kernel_rfl
theorem run7_g19_run : run7_g19 = tru := by kernel_rfl
theorem run7_g21_run : run7_g21 = tru := by kernel_rfl
theorem run7_g23_run : run7_g23 = tru := by kernel_rfl
theorem run7_g25_run : run7_g25 = tru := by kernel_rfl
theorem run7_g27_run : run7_g27 = tru := by kernel_rfl
theorem run7_g29_run : run7_g29 = tru := by kernel_rfl
theorem run7_g31_run : run7_g31 = tru := by kernel_rfl
theorem run7_g33_run : run7_g33 = tru := by kernel_rfl
theorem run7_g35_run : run7_g35 = tru := by kernel_rfl
theorem run7_g37_run : run7_g37 = tru := by kernel_rfl
theorem run7_g39_run : run7_g39 = tru := by kernel_rfl
end Go.Proofs.YtmkekbogeniehaaGreatDoor
