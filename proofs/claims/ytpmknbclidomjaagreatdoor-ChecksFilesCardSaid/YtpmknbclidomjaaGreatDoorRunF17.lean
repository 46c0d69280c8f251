/-
  Closed runs by the kernel: ChecksFiles gives true, for classes of its numbers; no condition.
-/
import Derived.Test.YtpmknbclidomjaaGreatDoorTabs
set_option linter.unusedVariables false
set_option linter.unusedSimpArgs false
namespace Go.Proofs.YtpmknbclidomjaaGreatDoor
open Go Go.Abs
set_option maxRecDepth 100000
set_option maxHeartbeats 0
theorem sh3_0 : shape 3 0 = tru := by kernel_rfl
theorem sh4_0 : shape 4 0 = tru := by kernel_rfl
theorem sh4_23 : shape 4 23 = tru := by kernel_rfl
theorem sh4_28 : shape 4 28 = tru := by kernel_rfl
theorem sh4_41 : shape 4 41 = tru := by kernel_rfl
theorem sh4_60 : shape 4 60 = tru := by kernel_rfl
theorem sh5_11 : shape 5 11 = tru := by kernel_rfl
theorem sh5_25 : shape 5 25 = tru := by kernel_rfl
theorem sh5_33 : shape 5 33 = tru := by kernel_rfl
theorem sh5_47 : shape 5 47 = tru := by kernel_rfl
theorem sh5_114 : shape 5 114 = tru := by kernel_rfl
theorem sh5_123 : shape 5 123 = tru := by kernel_rfl
theorem sh5_151 : shape 5 151 = tru := by kernel_rfl
theorem sh5_176 : shape 5 176 = tru := by kernel_rfl
theorem sh5_189 : shape 5 189 = tru := by kernel_rfl
theorem sh5_201 : shape 5 201 = tru := by kernel_rfl
theorem sh5_232 : shape 5 232 = tru := by kernel_rfl
theorem sh5_237 : shape 5 237 = tru := by kernel_rfl
end Go.Proofs.YtpmknbclidomjaaGreatDoor
