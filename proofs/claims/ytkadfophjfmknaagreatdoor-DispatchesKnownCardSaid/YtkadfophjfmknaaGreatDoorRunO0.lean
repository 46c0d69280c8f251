/-
  Closed runs by the kernel: kept calls give what is said of them; no condition.
-/
import Derived.Test.YtkadfophjfmknaaGreatDoorTabs
set_option linter.unusedVariables false
set_option linter.unusedSimpArgs false
namespace Go.Proofs.YtkadfophjfmknaaGreatDoor
open Go Go.Abs
set_option maxRecDepth 100000
set_option maxHeartbeats 0
theorem run6_g0_run : run6_g0 = tru := by kernel_rfl
theorem run6_g4_run : run6_g4 = tru := by kernel_rfl
theorem run6_g8_run : run6_g8 = tru := by kernel_rfl
theorem run6_g12_run : run6_g12 = tru := by kernel_rfl
theorem run6_g16_run : run6_g16 = tru := by kernel_rfl
theorem run6_g20_run : run6_g20 = tru := by kernel_rfl
theorem run6_g24_run : run6_g24 = tru := by kernel_rfl
theorem run6_g28_run : run6_g28 = tru := by kernel_rfl
theorem run6_g10_run : run6_g10 = tru := by kernel_rfl
end Go.Proofs.YtkadfophjfmknaaGreatDoor
