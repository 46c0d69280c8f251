/-
  Closed runs by the kernel: ChecksFiles gives true, for classes of its numbers; no condition.
-/
import Derived.Test.YtpmknbclidomjaaGreatDoorTabs
set_option linter.unusedVariables false
set_option linter.unusedSimpArgs false
namespace Go.Proofs.YtpmknbclidomjaaGreatDoor
open Go Go.Abs
set_option maxRecDepth 100000
set_option maxHeartbeats 0
theorem sh2_1 : shape 2 1 = tru := by kernel_rfl
theorem sh4_2 : shape 4 2 = tru := by kernel_rfl
theorem sh4_3 : shape 4 3 = tru := by kernel_rfl
theorem sh4_16 : shape 4 16 = tru := by kernel_rfl
theorem sh4_40 : shape 4 40 = tru := by kernel_rfl
theorem sh4_68 : shape 4 68 = tru := by kernel_rfl
theorem sh5_12 : shape 5 12 = tru := by kernel_rfl
theorem sh5_20 : shape 5 20 = tru := by kernel_rfl
theorem sh5_64 : shape 5 64 = tru := by kernel_rfl
theorem sh5_70 : shape 5 70 = tru := by kernel_rfl
theorem sh5_73 : shape 5 73 = tru := by kernel_rfl
theorem sh5_87 : shape 5 87 = tru := by kernel_rfl
theorem sh5_124 : shape 5 124 = tru := by kernel_rfl
theorem sh5_153 : shape 5 153 = tru := by kernel_rfl
theorem sh5_166 : shape 5 166 = tru := by kernel_rfl
theorem sh5_197 : shape 5 197 = tru := by kernel_rfl
theorem sh5_202 : shape 5 202 = tru := by kernel_rfl
theorem sh5_241 : shape 5 241 = tru := by kernel_rfl
end Go.Proofs.YtpmknbclidomjaaGreatDoor
