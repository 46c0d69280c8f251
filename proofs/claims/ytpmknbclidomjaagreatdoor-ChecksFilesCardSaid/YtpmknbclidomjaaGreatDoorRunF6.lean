/-
  Closed runs by the kernel: ChecksFiles gives true, for classes of its numbers; no condition.
-/
import Derived.Test.YtpmknbclidomjaaGreatDoorTabs
set_option linter.unusedVariables false
set_option linter.unusedSimpArgs false
namespace Go.Proofs.YtpmknbclidomjaaGreatDoor
open Go Go.Abs
set_option maxRecDepth 100000
set_option maxHeartbeats 0
theorem sh2_3 : shape 2 3 = tru := by kernel_rfl
theorem sh4_4 : shape 4 4 = tru := by kernel_rfl
theorem sh4_9 : shape 4 9 = tru := by kernel_rfl
theorem sh4_20 : shape 4 20 = tru := by kernel_rfl
theorem sh4_42 : shape 4 42 = tru := by kernel_rfl
theorem sh4_70 : shape 4 70 = tru := by kernel_rfl
theorem sh5_18 : shape 5 18 = tru := by kernel_rfl
theorem sh5_22 : shape 5 22 = tru := by kernel_rfl
theorem sh5_66 : shape 5 66 = tru := by kernel_rfl
theorem sh5_74 : shape 5 74 = tru := by kernel_rfl
theorem sh5_75 : shape 5 75 = tru := by kernel_rfl
theorem sh5_80 : shape 5 80 = tru := by kernel_rfl
theorem sh5_91 : shape 5 91 = tru := by kernel_rfl
theorem sh5_128 : shape 5 128 = tru := by kernel_rfl
theorem sh5_167 : shape 5 167 = tru := by kernel_rfl
theorem sh5_168 : shape 5 168 = tru := by kernel_rfl
theorem sh5_204 : shape 5 204 = tru := by kernel_rfl
theorem sh5_240 : shape 5 240 = tru := by kernel_rfl
end Go.Proofs.YtpmknbclidomjaaGreatDoor
