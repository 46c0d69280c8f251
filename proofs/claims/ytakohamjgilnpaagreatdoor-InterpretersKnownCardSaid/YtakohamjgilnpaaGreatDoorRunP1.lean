/-
  Closed runs by the kernel: kept calls give what is said of them; no condition.
-/
import Derived.Test.YtakohamjgilnpaaGreatDoorTabs
set_option linter.unusedVariables false
set_option linter.unusedSimpArgs false
namespace Go.Proofs.YtakohamjgilnpaaGreatDoor
open Go Go.Abs
set_option maxRecDepth 100000
set_option maxHeartbeats 0
theorem run7_g1_run : run7_g1 = tru := by kernel_rfl
theorem run7_g5_run : run7_g5 = tru := by kernel_rfl
theorem run7_g9_run : run7_g9 = tru := by kernel_rfl
theorem run7_g13_run : run7_g13 = tru := by kernel_rfl
theorem run7_g17_run : run7_g17 = tru := by kernel_rfl
theorem run7_g21_run : run7_g21 = tru := by kernel_rfl
theorem run7_g25_run : run7_g25 = tru := by kernel_rfl
theorem run7_g29_run : run7_g29 = tru := by kernel_rfl
end Go.Proofs.YtakohamjgilnpaaGreatDoor
