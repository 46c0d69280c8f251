/-
  Closed runs by the kernel: ChecksFiles gives true, for classes of its numbers; no condition.
-/
import Derived.Test.YtpmknbclidomjaaGreatDoorTabs
set_option linter.unusedVariables false
set_option linter.unusedSimpArgs false
namespace Go.Proofs.YtpmknbclidomjaaGreatDoor
open Go Go.Abs
set_option maxRecDepth 100000
set_option maxHeartbeats 0
theorem sh3_12 : shape 3 12 = tru := by kernel_rfl
theorem sh3_20 : shape 3 20 = tru := by kernel_rfl
theorem sh4_5 : shape 4 5 = tru := by kernel_rfl
theorem sh4_29 : shape 4 29 = tru := by kernel_rfl
theorem sh4_59 : shape 4 59 = tru := by kernel_rfl
theorem sh5_5 : shape 5 5 = tru := by kernel_rfl
theorem sh5_17 : shape 5 17 = tru := by kernel_rfl
theorem sh5_29 : shape 5 29 = tru := by kernel_rfl
theorem sh5_41 : shape 5 41 = tru := by kernel_rfl
theorem sh5_81 : shape 5 81 = tru := by kernel_rfl
theorem sh5_110 : shape 5 110 = tru := by kernel_rfl
theorem sh5_119 : shape 5 119 = tru := by kernel_rfl
theorem sh5_143 : shape 5 143 = tru := by kernel_rfl
theorem sh5_156 : shape 5 156 = tru := by kernel_rfl
theorem sh5_165 : shape 5 165 = tru := by kernel_rfl
theorem sh5_195 : shape 5 195 = tru := by kernel_rfl
theorem sh5_224 : shape 5 224 = tru := by kernel_rfl
theorem sh5_231 : shape 5 231 = tru := by kernel_rfl
end Go.Proofs.YtpmknbclidomjaaGreatDoor
