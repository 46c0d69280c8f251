/-
  Closed runs by the kernel: kept calls give what is said of them; no condition.
-/
import Derived.Test.YtkadfophjfmknaaGreatDoorTabs
set_option linter.unusedVariables false
set_option linter.unusedSimpArgs false
namespace Go.Proofs.YtkadfophjfmknaaGreatDoor
open Go Go.Abs
set_option maxRecDepth 100000
set_option maxHeartbeats 0
theorem run8_g0_run : run8_g0 = tru := by kernel_rfl
theorem run8_g1_run : run8_g1 = tru := by kernel_rfl
theorem run8_g2_run : run8_g2 = tru := by kernel_rfl
theorem run8_g3_run : run8_g3 = tru := by kernel_rfl
theorem run8_g4_run : run8_g4 = tru := by kernel_rfl
theorem run8_g5_run : run8_g5 = tru := by kernel_rfl
theorem run8_g6_run : run8_g6 = tru := by kernel_rfl
theorem run8_g7_run : run8_g7 = tru := by kernel_rfl
theorem run8_g8_run : run8_g8 = tru := by kernel_rfl
theorem run8_g9_run : run8_g9 = tru := by kernel_rfl
theorem run6_g34_run : run6_g34 = tru := by kernel_rfl
theorem run6_g38_run : run6_g38 = tru := by kernel_rfl
theorem run6_g3_run : run6_g3 = tru := by kernel_rfl
theorem run6_g7_run : run6_g7 = tru := by kernel_rfl
end Go.Proofs.YtkadfophjfmknaaGreatDoor
