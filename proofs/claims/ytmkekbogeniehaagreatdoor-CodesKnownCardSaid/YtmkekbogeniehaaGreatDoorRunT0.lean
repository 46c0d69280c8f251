/-
  Closed runs by the kernel: kept calls give what is said of them; no condition.
-/
import Derived.Test.YtmkekbogeniehaaGreatDoorTabs
set_option linter.unusedVariables false
set_option linter.unusedSimpArgs false
namespace Go.Proofs.YtmkekbogeniehaaGreatDoor
open Go Go.Abs
set_option maxRecDepth 100000
set_option maxHeartbeats 0
theorem run11_g0_run : run11_g0 = tru := by kernel_rfl
theorem run11_g4_run : run11_g4 = tru := by kernel_rfl
theorem run11_g8_run : run11_g8 = tru := by kernel_rfl
theorem run11_g12_run : run11_g12 = tru := by kernel_rfl
theorem run11_g16_run : run11_g16 = tru := by kernel_rfl
theorem run11_g20_run : run11_g20 = tru := by kernel_rfl
theorem run11_g24_run : run11_g24 = tru := by kernel_rfl
theorem run11_g28_run : run11_g28 = tru := by kernel_rfl
theorem run11_g32_run : run11_g32 = tru := by kernel_rfl
theorem run11_g36_run : run11_g36 = tru := by kernel_rfl
end Go.Proofs.YtmkekbogeniehaaGreatDoor
