/-
  Closed runs by the kernel: look-ups, by cases of comparisons; no condition.
-/
import Derived.Test.YtkdlhhnkeocfcaaGreatDoorTabC
set_option linter.unusedVariables false
set_option linter.unusedSimpArgs false
namespace Go.Proofs.YtkdlhhnkeocfcaaGreatDoor
open Go Go.Abs
set_option maxRecDepth 100000
set_option maxHeartbeats 0
theorem cQ0_0 : cubeO 8 patQ0 0 0 1 = tru := by kernel_rfl
theorem cQ1_0 : cubeO 8 patQ1 1 0 2 = tru := by kernel_rfl
theorem cQ2_0 : cubeO 8 patQ2 2 0 4 = tru := by kernel_rfl
theorem cQ3_0 : cubeO 8 patQ3 3 0 8 = tru := by kernel_rfl
theorem cQ4_0 : cubeO 8 patQ4 4 0 16 = tru := by kernel_rfl
theorem cQ5_0 : cubeO 8 patQ5 5 0 32 = tru := by kernel_rfl
theorem cQ6_0 : cubeO 8 patQ6 6 0 32 = tru := by kernel_rfl
theorem cQ6_32 : cubeO 8 patQ6 6 32 32 = tru := by kernel_rfl
theorem cQ7_0 : cubeO 8 patQ7 7 0 32 = tru := by kernel_rfl
theorem cQ7_32 : cubeO 8 patQ7 7 32 32 = tru := by kernel_rfl
theorem cQ7_64 : cubeO 8 patQ7 7 64 32 = tru := by kernel_rfl
theorem cQ7_96 : cubeO 8 patQ7 7 96 32 = tru := by kernel_rfl
theorem cQ8_0 : cubeO 8 patQ8 8 0 16 = tru := by kernel_rfl
theorem cQ8_16 : cubeO 8 patQ8 8 16 16 = tru := by kernel_rfl
theorem cQ8_32 : cubeO 8 patQ8 8 32 16 = tru := by kernel_rfl
theorem cQ8_48 : cubeO 8 patQ8 8 48 16 = tru := by kernel_rfl
theorem cQ8_64 : cubeO 8 patQ8 8 64 16 = tru := by kernel_rfl
theorem cQ8_80 : cubeO 8 patQ8 8 80 16 = tru := by kernel_rfl
theorem cQ8_96 : cubeO 8 patQ8 8 96 16 = tru := by kernel_rfl
theorem cQ8_112 : cubeO 8 patQ8 8 112 16 = tru := by kernel_rfl
theorem cQ8_128 : cubeO 8 patQ8 8 128 16 = tru := by kernel_rfl
theorem cQ8_144 : cubeO 8 patQ8 8 144 16 = tru := by kernel_rfl
theorem cQ8_160 : cubeO 8 patQ8 8 160 16 = tru := by kernel_rfl
theorem cQ8_176 : cubeO 8 patQ8 8 176 16 = tru := by kernel_rfl
theorem cQ8_192 : cubeO 8 patQ8 8 192 16 = tru := by kernel_rfl
theorem cQ8_208 : cubeO 8 patQ8 8 208 16 = tru := by kernel_rfl
theorem cQ8_224 : cubeO 8 patQ8 8 224 16 = tru := by kernel_rfl
theorem cQ8_240 : cubeO 8 patQ8 8 240 16 = tru := by kernel_rfl
end Go.Proofs.YtkdlhhnkeocfcaaGreatDoor
