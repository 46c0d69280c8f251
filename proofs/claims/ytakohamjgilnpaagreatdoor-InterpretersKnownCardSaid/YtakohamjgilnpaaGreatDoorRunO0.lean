/-
  Closed runs by the kernel: kept calls give what is said of them; no condition.
-/
import Derived.Test.YtakohamjgilnpaaGreatDoorTabs
set_option linter.unusedVariables false
set_option linter.unusedSimpArgs false
namespace Go.Proofs.YtakohamjgilnpaaGreatDoor
open Go Go.Abs
set_option maxRecDepth 100000
set_option maxHeartbeats 0
theorem run5_g0_run : run5_g0 = tru := by kernel_rfl
theorem run5_g2_run : run5_g2 = tru := by kernel_rfl
theorem run5_g4_run : run5_g4 = tru := by kernel_rfl
theorem run5_g6_run : run5_g6 = tru := by kernel_rfl
theorem run5_g8_run : run5_g8 = tru := by kernel_rfl
theorem run5_g10_run : run5_g10 = tru := by kernel_rfl
theorem run5_g12_run : run5_g12 = tru := by kernel_rfl
theorem run5_g14_run : run5_g14 = tru := by kernel_rfl
theorem run5_g16_run : run5_g16 = tru := by kernel_rfl
theorem run5_g18_run : run5_g18 = tru := by kernel_rfl
theorem run5_g20_run : run5_g20 = tru := by kernel_rfl
theorem run5_g22_run : run5_g22 = tru := by kernel_rfl
theorem run5_g24_run : run5_g24 = tru := by kernel_rfl
theorem run5_g26_run : run5_g26 = tru := by kernel_rfl
theorem run5_g28_run : run5_g28 = tru := by kernel_rfl
end Go.Proofs.YtakohamjgilnpaaGreatDoor
