/-
  Closed runs by the kernel: kept calls give what is said of them; no condition.
-/
import Derived.Test.YtkadfophjfmknaaGreatDoorTabs
set_option linter.unusedVariables false
set_option linter.unusedSimpArgs false
namespace Go.Proofs.YtkadfophjfmknaaGreatDoor
open Go Go.Abs
set_option maxRecDepth 100000
set_option maxHeartbeats 0
theorem run6_g32_run : run6_g32 = tru := by kernel_rfl
theorem run6_g36_run : run6_g36 = tru := by kernel_rfl
theorem run6_g1_run : run6_g1 = tru := by kernel_rfl
theorem run6_g5_run : run6_g5 = tru := by kernel_rfl
theorem run6_g9_run : run6_g9 = tru := by kernel_rfl
theorem run6_g13_run : run6_g13 = tru := by kernel_rfl
theorem run6_g17_run : run6_g17 = tru := by kernel_rfl
theorem run6_g21_run : run6_g21 = tru := by kernel_rfl
theorem run6_g25_run : run6_g25 = tru := by kernel_rfl
theorem run6_g29_run : run6_g29 = tru := by kernel_rfl
theorem run6_g33_run : run6_g33 = tru := by kernel_rfl
theorem run6_g37_run : run6_g37 = tru := by kernel_rfl
theorem run6_g2_run : run6_g2 = tru := by kernel_rfl
theorem run6_g6_run : run6_g6 = tru := by kernel_rfl
end Go.Proofs.YtkadfophjfmknaaGreatDoor
