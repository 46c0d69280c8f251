/-
  Closed runs by the kernel: ChecksRange gives true, for classes of its names; no condition.
-/
import Derived.Test.YtkdlhhnkeocfcaaGreatDoorTabs
set_option linter.unusedVariables false
set_option linter.unusedSimpArgs false
namespace Go.Proofs.YtkdlhhnkeocfcaaGreatDoor
open Go Go.Abs
set_option maxRecDepth 100000
set_option maxHeartbeats 0
theorem r0_01_32 : rootAll patT0 patH0 patO0 patQ0 patF0 patG0 0 false true 32 32 = tru := by kernel_rfl
theorem r0_11_32 : rootAll patT0 patH0 patO0 patQ0 patF0 patG0 0 true true 32 32 = tru := by kernel_rfl
theorem r1_01_32 : rootAll patT1 patH1 patO1 patQ1 patF1 patG1 1 false true 32 32 = tru := by kernel_rfl
theorem r1_11_32 : rootAll patT1 patH1 patO1 patQ1 patF1 patG1 1 true true 32 32 = tru := by kernel_rfl
theorem r2_01_32 : rootAll patT2 patH2 patO2 patQ2 patF2 patG2 2 false true 32 32 = tru := by kernel_rfl
theorem r2_11_32 : rootAll patT2 patH2 patO2 patQ2 patF2 patG2 2 true true 32 32 = tru := by kernel_rfl
theorem r3_01_32 : rootAll patT3 patH3 patO3 patQ3 patF3 patG3 3 false true 32 32 = tru := by kernel_rfl
theorem r3_11_32 : rootAll patT3 patH3 patO3 patQ3 patF3 patG3 3 true true 32 32 = tru := by kernel_rfl
theorem r4_01_32 : rootAll patT4 patH4 patO4 patQ4 patF4 patG4 4 false true 32 32 = tru := by kernel_rfl
theorem r4_11_32 : rootAll patT4 patH4 patO4 patQ4 patF4 patG4 4 true true 32 32 = tru := by kernel_rfl
theorem r5_01_32 : rootAll patT5 patH5 patO5 patQ5 patF5 patG5 5 false true 32 32 = tru := by kernel_rfl
theorem r5_11_32 : rootAll patT5 patH5 patO5 patQ5 patF5 patG5 5 true true 32 32 = tru := by kernel_rfl
theorem r6_01_32 : rootAll patT6 patH6 patO6 patQ6 patF6 patG6 6 false true 32 32 = tru := by kernel_rfl
theorem r6_11_32 : rootAll patT6 patH6 patO6 patQ6 patF6 patG6 6 true true 32 32 = tru := by kernel_rfl
theorem r7_01_32 : rootAll patT7 patH7 patO7 patQ7 patF7 patG7 7 false true 32 32 = tru := by kernel_rfl
theorem r7_11_32 : rootAll patT7 patH7 patO7 patQ7 patF7 patG7 7 true true 32 32 = tru := by kernel_rfl
theorem r8_01_32 : rootAll patT8 patH8 patO8 patQ8 patF8 patG8 8 false true 32 32 = tru := by kernel_rfl
theorem r8_11_32 : rootAll patT8 patH8 patO8 patQ8 patF8 patG8 8 true true 32 32 = tru := by kernel_rfl
end Go.Proofs.YtkdlhhnkeocfcaaGreatDoor
