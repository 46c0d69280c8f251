/-
  Closed runs by the kernel: kept calls give what is said of them; no condition.
-/
import Derived.Test.YtmkekbogeniehaaGreatDoorTabs
set_option linter.unusedVariables false
set_option linter.unusedSimpArgs false
namespace Go.Proofs.YtmkekbogeniehaaGreatDoor
open Go Go.Abs
set_option maxRecDepth 100000
set_option maxHeartbeats 0
theorem run7_g0_run : run7_g0 = tru := by kernel_rfl
theorem run7_g2_run : run7_g2 = tru := by kernel_rfl
theorem run7_g4_run : run7_g4 = tru := by kernel_rfl
theorem run7_g6_run : run7_g6 = tru := by kernel_rfl
theorem run7_g8_run : run7_g8 = tru := by kernel_rfl
theorem run7_g10_run : run7_g10 = tru := by kernel_rfl
theorem run7_g12_run : run7_g12 = tru := by kernel_rfl
theorem run7_g14_run : run7_g14 = tru := by kernel_rfl
theorem run7_g16_run : run7_g16 = tru := by kernel_rfl
theorem run7_g18_run : run7_g18 = tru := by kernel_rfl
theorem run7_g20_run : run7_g20 = tru := by kernel_rfl
theorem run7_g22_run : run7_g22 = tru := by kernel_rfl
theorem run7_g24_run : run7_g24 = tru := by kernel_rfl
theorem run7_g26_run : run7_g26 = tru := by kernel_rfl
theorem run7_g28_run : run7_g28 = tru := by kernel_rfl
theorem run7_g30_run : run7_g30 = tru := by kernel_rfl
theorem run7_g32_run : run7_g32 = tru := by kernel_rfl
theorem run7_g34_run : run7_g34 = tru := by kernel_rfl
theorem run7_g36_run : run7_g36 = tru := by kernel_rfl
theorem run7_g38_run : run7_g38 = tru := by kernel_rfl
end Go.Proofs.YtmkekbogeniehaaGreatDoor
