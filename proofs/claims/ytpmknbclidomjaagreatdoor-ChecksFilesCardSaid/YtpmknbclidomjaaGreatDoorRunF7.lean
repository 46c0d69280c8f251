/-
  Closed runs by the kernel: ChecksFiles gives true, for classes of its numbers; no condition.
-/
import Derived.Test.YtpmknbclidomjaaGreatDoorTabs
set_option linter.unusedVariables false
set_option linter.unusedSimpArgs false
namespace Go.Proofs.YtpmknbclidomjaaGreatDoor
open Go Go.Abs
set_option maxRecDepth 100000
set_option maxHeartbeats 0
theorem sh1_2 : shape 1 2 = tru := by kernel_rfl
theorem sh2_0 : shape 2 0 = tru := by kernel_rfl
theorem sh4_6 : shape 4 6 = tru := by kernel_rfl
theorem sh4_22 : shape 4 22 = tru := by kernel_rfl
theorem sh4_27 : shape 4 27 = tru := by kernel_rfl
theorem sh4_46 : shape 4 46 = tru := by kernel_rfl
theorem sh4_74 : shape 4 74 = tru := by kernel_rfl
theorem sh5_24 : shape 5 24 = tru := by kernel_rfl
theorem sh5_28 : shape 5 28 = tru := by kernel_rfl
theorem sh5_53 : shape 5 53 = tru := by kernel_rfl
theorem sh5_72 : shape 5 72 = tru := by kernel_rfl
theorem sh5_89 : shape 5 89 = tru := by kernel_rfl
theorem sh5_93 : shape 5 93 = tru := by kernel_rfl
theorem sh5_130 : shape 5 130 = tru := by kernel_rfl
theorem sh5_134 : shape 5 134 = tru := by kernel_rfl
theorem sh5_169 : shape 5 169 = tru := by kernel_rfl
theorem sh5_172 : shape 5 172 = tru := by kernel_rfl
theorem sh5_205 : shape 5 205 = tru := by kernel_rfl
theorem sh5_208 : shape 5 208 = tru := by kernel_rfl
end Go.Proofs.YtpmknbclidomjaaGreatDoor
