/-
  Closed runs by the kernel: ChecksFiles gives true, for classes of its numbers; no condition.
-/
import Derived.Test.YtpmknbclidomjaaGreatDoorTabs
set_option linter.unusedVariables false
set_option linter.unusedSimpArgs false
namespace Go.Proofs.YtpmknbclidomjaaGreatDoor
open Go Go.Abs
set_option maxRecDepth 100000
set_option maxHeartbeats 0
theorem sh1_0 : shape 1 0 = tru := by kernel_rfl
theorem sh2_4 : shape 2 4 = tru := by kernel_rfl
theorem sh3_23 : shape 3 23 = tru := by kernel_rfl
theorem sh4_12 : shape 4 12 = tru := by kernel_rfl
theorem sh4_32 : shape 4 32 = tru := by kernel_rfl
theorem sh4_56 : shape 4 56 = tru := by kernel_rfl
theorem sh4_78 : shape 4 78 = tru := by kernel_rfl
theorem sh5_34 : shape 5 34 = tru := by kernel_rfl
theorem sh5_36 : shape 5 36 = tru := by kernel_rfl
theorem sh5_77 : shape 5 77 = tru := by kernel_rfl
theorem sh5_88 : shape 5 88 = tru := by kernel_rfl
theorem sh5_97 : shape 5 97 = tru := by kernel_rfl
theorem sh5_109 : shape 5 109 = tru := by kernel_rfl
theorem sh5_140 : shape 5 140 = tru := by kernel_rfl
theorem sh5_158 : shape 5 158 = tru := by kernel_rfl
theorem sh5_175 : shape 5 175 = tru := by kernel_rfl
theorem sh5_180 : shape 5 180 = tru := by kernel_rfl
theorem sh5_211 : shape 5 211 = tru := by kernel_rfl
theorem sh5_218 : shape 5 218 = tru := by kernel_rfl
end Go.Proofs.YtpmknbclidomjaaGreatDoor
