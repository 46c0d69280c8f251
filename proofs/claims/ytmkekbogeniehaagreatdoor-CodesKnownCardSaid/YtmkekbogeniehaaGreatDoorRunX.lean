/-
  Closed runs by the kernel: kept calls give what is said of them; no condition.
-/
import Derived.Test.YtmkekbogeniehaaGreatDoorTabs
set_option linter.unusedVariables false
set_option linter.unusedSimpArgs false
namespace Go.Proofs.YtmkekbogeniehaaGreatDoor
open Go Go.Abs
set_option maxRecDepth 100000
set_option maxHeartbeats 0
theorem run2_true_run : run2_true = tru := by kernel_rfl
theorem run6_x0g0_run : run6_x0g0 = tru := by kernel_rfl
theorem run6_x0g1_run : run6_x0g1 = tru := by kernel_rfl
theorem run6_x0g2_run : run6_x0g2 = tru := by kernel_rfl
theorem run6_x0g3_run : run6_x0g3 = tru := by kernel_rfl
theorem run6_x0g4_run : run6_x0g4 = tru := by kernel_rfl
theorem run6_x0g5_run : run6_x0g5 = tru := by kernel_rfl
theorem run6_x1g0_run : run6_x1g0 = tru := by kernel_rfl
theorem run6_x1g1_run : run6_x1g1 = tru := by kernel_rfl
theorem run6_x1g2_run : run6_x1g2 = tru := by kernel_rfl
theorem run6_x1g3_run : run6_x1g3 = tru := by kernel_rfl
theorem run6_x1g4_run : run6_x1g4 = tru := by kernel_rfl
theorem run6_x1g5_run : run6_x1g5 = tru := by kernel_rfl
theorem run6_x1g6_run : run6_x1g6 = tru := by kernel_rfl
theorem run6_x1g7_run : run6_x1g7 = tru := by kernel_rfl
theorem run6_x1g8_run : run6_x1g8 = tru := by kernel_rfl
theorem run6_x1g9_run : run6_x1g9 = tru := by kernel_rfl
theorem run6_x2g0_run : run6_x2g0 = tru := by kernel_rfl
theorem run6_x2g1_run : run6_x2g1 = tru := by kernel_rfl
theorem run6_x3g0_run : run6_x3g0 = tru := by kernel_rfl
theorem run6_x3g1_run : run6_x3g1 = tru := by kernel_rfl
theorem run6_x4g0_run : run6_x4g0 = tru := by kernel_rfl
theorem run6_x4g1_run : run6_x4g1 = tru := by kernel_rfl
theorem run6_x5g0_run : run6_x5g0 = tru := by kernel_rfl
theorem run6_x5g1_run : run6_x5g1 = tru := by kernel_rfl
end Go.Proofs.YtmkekbogeniehaaGreatDoor
