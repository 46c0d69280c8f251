/-
  Closed runs by the kernel: look-ups, by cases of comparisons; no condition.
-/
import Derived.Test.YtkdlhhnkeocfcaaGreatDoorTabC
set_option linter.unusedVariables false
set_option linter.unusedSimpArgs false
namespace Go.Proofs.YtkdlhhnkeocfcaaGreatDoor
open Go Go.Abs
set_option maxRecDepth 100000
set_option maxHeartbeats 0
theorem cO0_0 : cubeS 8 patO0 0 0 1 = tru := by kernel_rfl
theorem cO1_0 : cubeS 8 patO1 1 0 2 = tru := by kernel_rfl
theorem cO2_0 : cubeS 8 patO2 2 0 4 = tru := by kernel_rfl
theorem cO3_0 : cubeS 8 patO3 3 0 8 = tru := by kernel_rfl
theorem cO4_0 : cubeS 8 patO4 4 0 16 = tru := by kernel_rfl
theorem cO5_0 : cubeS 8 patO5 5 0 32 = tru := by kernel_rfl
theorem cO6_0 : cubeS 8 patO6 6 0 64 = tru := by kernel_rfl
theorem cO7_0 : cubeS 8 patO7 7 0 64 = tru := by kernel_rfl
theorem cO7_64 : cubeS 8 patO7 7 64 64 = tru := by kernel_rfl
theorem cO8_0 : cubeS 8 patO8 8 0 32 = tru := by kernel_rfl
theorem cO8_32 : cubeS 8 patO8 8 32 32 = tru := by kernel_rfl
theorem cO8_64 : cubeS 8 patO8 8 64 32 = tru := by kernel_rfl
theorem cO8_96 : cubeS 8 patO8 8 96 32 = tru := by kernel_rfl
theorem cO8_128 : cubeS 8 patO8 8 128 32 = tru := by kernel_rfl
theorem cO8_160 : cubeS 8 patO8 8 160 32 = tru := by kernel_rfl
theorem cO8_192 : cubeS 8 patO8 8 192 32 = tru := by kernel_rfl
theorem cO8_224 : cubeS 8 patO8 8 224 32 = tru := by kernel_rfl
end Go.Proofs.YtkdlhhnkeocfcaaGreatDoor
