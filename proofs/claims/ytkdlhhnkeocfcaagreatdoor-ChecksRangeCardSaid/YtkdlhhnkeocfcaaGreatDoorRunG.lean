/-
  Closed runs by the kernel: look-ups, by cases of comparisons; no condition.
-/
import Derived.Test.YtkdlhhnkeocfcaaGreatDoorTabC
set_option linter.unusedVariables false
set_option linter.unusedSimpArgs false
namespace Go.Proofs.YtkdlhhnkeocfcaaGreatDoor
open Go Go.Abs
set_option maxRecDepth 100000
set_option maxHeartbeats 0
theorem cG0_0 : cubeO 9 patG0 0 0 1 = tru := by kernel_rfl
theorem cG1_0 : cubeO 9 patG1 1 0 2 = tru := by kernel_rfl
theorem cG2_0 : cubeO 9 patG2 2 0 4 = tru := by kernel_rfl
theorem cG3_0 : cubeO 9 patG3 3 0 8 = tru := by kernel_rfl
theorem cG4_0 : cubeO 9 patG4 4 0 16 = tru := by kernel_rfl
theorem cG5_0 : cubeO 9 patG5 5 0 32 = tru := by kernel_rfl
theorem cG6_0 : cubeO 9 patG6 6 0 32 = tru := by kernel_rfl
theorem cG6_32 : cubeO 9 patG6 6 32 32 = tru := by kernel_rfl
theorem cG7_0 : cubeO 9 patG7 7 0 32 = tru := by kernel_rfl
theorem cG7_32 : cubeO 9 patG7 7 32 32 = tru := by kernel_rfl
theorem cG7_64 : cubeO 9 patG7 7 64 32 = tru := by kernel_rfl
theorem cG7_96 : cubeO 9 patG7 7 96 32 = tru := by kernel_rfl
theorem cG8_0 : cubeO 9 patG8 8 0 16 = tru := by kernel_rfl
theorem cG8_16 : cubeO 9 patG8 8 16 16 = tru := by kernel_rfl
theorem cG8_32 : cubeO 9 patG8 8 32 16 = tru := by kernel_rfl
theorem cG8_48 : cubeO 9 patG8 8 48 16 = tru := by kernel_rfl
theorem cG8_64 : cubeO 9 patG8 8 64 16 = tru := by kernel_rfl
theorem cG8_80 : cubeO 9 patG8 8 80 16 = tru := by kernel_rfl
theorem cG8_96 : cubeO 9 patG8 8 96 16 = tru := by kernel_rfl
theorem cG8_112 : cubeO 9 patG8 8 112 16 = tru := by kernel_rfl
theorem cG8_128 : cubeO 9 patG8 8 128 16 = tru := by kernel_rfl
theorem cG8_144 : cubeO 9 patG8 8 144 16 = tru := by kernel_rfl
theorem cG8_160 : cubeO 9 patG8 8 160 16 = tru := by kernel_rfl
theorem cG8_176 : cubeO 9 patG8 8 176 16 = tru := by kernel_rfl
theorem cG8_192 : cubeO 9 patG8 8 192 16 = tru := by kernel_rfl
theorem cG8_208 : cubeO 9 patG8 8 208 16 = tru := by kernel_rfl
theorem cG8_224 : cubeO 9 patG8 8 224 16 = tru := by kernel_rfl
theorem cG8_240 : cubeO 9 patG8 8 240 16 = tru := by kernel_rfl
end Go.Proofs.YtkdlhhnkeocfcaaGreatDoor
