/-
  Closed runs by the kernel: kept calls give what is said of them; no condition.
-/
import Derived.Test.YtakohamjgilnpaaGreatDoorTabs
set_option linter.unusedVariables false
set_option linter.unusedSimpArgs false
namespace Go.Proofs.YtakohamjgilnpaaGreatDoor
open Go Go.Abs
set_option maxRecDepth 100000
set_option maxHeartbeats 0
theorem run5_g1_run : run5_g1 = tru := by kernel_rfl
theorem run5_g3_run : run5_g3 = tru := by kernel_rfl
theorem run5_g5_run : run5_g5 = tru := by kernel_rfl
theorem run5_g7_run : run5_g7 = tru := by kernel_rfl
theorem run5_g9_run : run5_g9 = tru := by kernel_rfl
theorem run5_g11_run : run5_g11 = tru := by kernel_rfl
theorem run5_g13_run : run5_g13 = tru := by kernel_rfl
theorem run5_g15_run : run5_g15 = tru := by kernel_rfl
theorem run5_g17_run : run5_g17 = tru := by kernel_rfl
theorem run5_g19_run : run5_g19 = tru := by kernel_rfl
theorem run5_g21_run : run5_g21 = tru := by kernel_rfl
theorem run5_g23_run : run5_g23 = tru := by kernel_rfl
theorem run5_g25_run : run5_g25 = tru := by kernel_rfl
theorem run5_g27_run : run5_g27 = tru := by kernel_rfl
theorem run5_g29_run : run5_g29 = tru := by kernel_rfl
end Go.Proofs.YtakohamjgilnpaaGreatDoor
