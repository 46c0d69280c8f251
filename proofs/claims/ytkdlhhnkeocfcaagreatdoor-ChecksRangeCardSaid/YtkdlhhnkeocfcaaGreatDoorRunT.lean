/-
  Closed runs by the kernel: look-ups, by cases of comparisons; no condition.
-/
import Derived.Test.YtkdlhhnkeocfcaaGreatDoorTabC
set_option linter.unusedVariables false
set_option linter.unusedSimpArgs false
namespace Go.Proofs.YtkdlhhnkeocfcaaGreatDoor
open Go Go.Abs
set_option maxRecDepth 100000
set_option maxHeartbeats 0
theorem cT0_0 : cubeS 8 patT0 0 0 1 = tru := by kernel_rfl
theorem cT1_0 : cubeS 8 patT1 1 0 2 = tru := by kernel_rfl
theorem cT2_0 : cubeS 8 patT2 2 0 4 = tru := by kernel_rfl
theorem cT3_0 : cubeS 8 patT3 3 0 8 = tru := by kernel_rfl
theorem cT4_0 : cubeS 8 patT4 4 0 16 = tru := by kernel_rfl
theorem cT5_0 : cubeS 8 patT5 5 0 32 = tru := by kernel_rfl
theorem cT6_0 : cubeS 8 patT6 6 0 64 = tru := by kernel_rfl
theorem cT7_0 : cubeS 8 patT7 7 0 64 = tru := by kernel_rfl
theorem cT7_64 : cubeS 8 patT7 7 64 64 = tru := by kernel_rfl
theorem cT8_0 : cubeS 8 patT8 8 0 32 = tru := by kernel_rfl
theorem cT8_32 : cubeS 8 patT8 8 32 32 = tru := by kernel_rfl
theorem cT8_64 : cubeS 8 patT8 8 64 32 = tru := by kernel_rfl
theorem cT8_96 : cubeS 8 patT8 8 96 32 = tru := by kernel_rfl
theorem cT8_128 : cubeS 8 patT8 8 128 32 = tru := by kernel_rfl
theorem cT8_160 : cubeS 8 patT8 8 160 32 = tru := by kernel_rfl
theorem cT8_192 : cubeS 8 patT8 8 192 32 = tru := by kernel_rfl
theorem cT8_224 : cubeS 8 patT8 8 224 32 = tru := by kernel_rfl
theorem cF0_0 : cubeS 9 patF0 0 0 1 = tru := by kernel_rfl
theorem cF1_0 : cubeS 9 patF1 1 0 2 = tru := by kernel_rfl
theorem cF2_0 : cubeS 9 patF2 2 0 4 = tru := by kernel_rfl
theorem cF3_0 : cubeS 9 patF3 3 0 8 = tru := by kernel_rfl
theorem cF4_0 : cubeS 9 patF4 4 0 16 = tru := by kernel_rfl
theorem cF5_0 : cubeS 9 patF5 5 0 32 = tru := by kernel_rfl
theorem cF6_0 : cubeS 9 patF6 6 0 64 = tru := by kernel_rfl
theorem cF7_0 : cubeS 9 patF7 7 0 64 = tru := by kernel_rfl
theorem cF7_64 : cubeS 9 patF7 7 64 64 = tru := by kernel_rfl
theorem cF8_0 : cubeS 9 patF8 8 0 32 = tru := by kernel_rfl
theorem cF8_32 : cubeS 9 patF8 8 32 32 = tru := by kernel_rfl
theorem cF8_64 : cubeS 9 patF8 8 64 32 = tru := by kernel_rfl
theorem cF8_96 : cubeS 9 patF8 8 96 32 = tru := by kernel_rfl
theorem cF8_128 : cubeS 9 patF8 8 128 32 = tru := by kernel_rfl
theorem cF8_160 : cubeS 9 patF8 8 160 32 = tru := by kernel_rfl
theorem cF8_192 : cubeS 9 patF8 8 192 32 = tru := by kernel_rfl
theorem cF8_224 : cubeS 9 patF8 8 224 32 = tru := by kernel_rfl
end Go.Proofs.YtkdlhhnkeocfcaaGreatDoor
