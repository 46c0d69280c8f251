/-
  Closed runs by the kernel: kept calls give what is said of them; no condition.
-/
import Derived.Test.YtakohamjgilnpaaGreatDoorTabs
set_option linter.unusedVariables false
set_option linter.unusedSimpArgs false
namespace Go.Proofs.YtakohamjgilnpaaGreatDoor
open Go Go.Abs
set_option maxRecDepth 100000
set_option maxHeartbeats 0
theorem run7_g0_run : run7_g0 = tru := by kernel_rfl
theorem run7_g4_run : run7_g4 = tru := by kernel_rfl
theorem run7_g8_run : run7_g8 = tru := by kernel_rfl
theorem run7_g12_run : run7_g12 = tru := by kernel_rfl
theorem run7_g16_run : run7_g16 = tru := by kernel_rfl
theorem run7_g20_run : run7_g20 = tru := by kernel_rfl
theorem run7_g24_run : run7_g24 = tru := by kernel_rfl
theorem run7_g28_run : run7_g28 = tru := by kernel_rfl
end Go.Proofs.YtakohamjgilnpaaGreatDoor
