/-
  Closed runs by the kernel: ChecksFiles gives true, for classes of its numbers; no condition.
-/
import Derived.Test.YtpmknbclidomjaaGreatDoorTabs
set_option linter.unusedVariables false
set_option linter.unusedSimpArgs false
namespace Go.Proofs.YtpmknbclidomjaaGreatDoor
open Go Go.Abs
set_option maxRecDepth 100000
set_option maxHeartbeats 0
theorem sh3_6 : shape 3 6 = tru := by kernel_rfl
theorem sh3_14 : shape 3 14 = tru := by kernel_rfl
theorem sh4_36 : shape 4 36 = tru := by kernel_rfl
theorem sh4_43 : shape 4 43 = tru := by kernel_rfl
theorem sh4_64 : shape 4 64 = tru := by kernel_rfl
theorem sh5_1 : shape 5 1 = tru := by kernel_rfl
theorem sh5_38 : shape 5 38 = tru := by kernel_rfl
theorem sh5_54 : shape 5 54 = tru := by kernel_rfl
theorem sh5_79 : shape 5 79 = tru := by kernel_rfl
theorem sh5_92 : shape 5 92 = tru := by kernel_rfl
theorem sh5_101 : shape 5 101 = tru := by kernel_rfl
theorem sh5_111 : shape 5 111 = tru := by kernel_rfl
theorem sh5_142 : shape 5 142 = tru := by kernel_rfl
theorem sh5_160 : shape 5 160 = tru := by kernel_rfl
theorem sh5_177 : shape 5 177 = tru := by kernel_rfl
theorem sh5_190 : shape 5 190 = tru := by kernel_rfl
theorem sh5_213 : shape 5 213 = tru := by kernel_rfl
theorem sh5_220 : shape 5 220 = tru := by kernel_rfl
end Go.Proofs.YtpmknbclidomjaaGreatDoor
