/-
  Closed runs by the kernel: ChecksFiles gives true, for classes of its numbers; no condition.
-/
import Derived.Test.YtpmknbclidomjaaGreatDoorTabs
set_option linter.unusedVariables false
set_option linter.unusedSimpArgs false
namespace Go.Proofs.YtpmknbclidomjaaGreatDoor
open Go Go.Abs
set_option maxRecDepth 100000
set_option maxHeartbeats 0
theorem sh3_2 : shape 3 2 = tru := by kernel_rfl
theorem sh3_7 : shape 3 7 = tru := by kernel_rfl
theorem sh4_15 : shape 4 15 = tru := by kernel_rfl
theorem sh4_39 : shape 4 39 = tru := by kernel_rfl
theorem sh4_69 : shape 4 69 = tru := by kernel_rfl
theorem sh4_71 : shape 4 71 = tru := by kernel_rfl
theorem sh5_15 : shape 5 15 = tru := by kernel_rfl
theorem sh5_39 : shape 5 39 = tru := by kernel_rfl
theorem sh5_44 : shape 5 44 = tru := by kernel_rfl
theorem sh5_51 : shape 5 51 = tru := by kernel_rfl
theorem sh5_98 : shape 5 98 = tru := by kernel_rfl
theorem sh5_120 : shape 5 120 = tru := by kernel_rfl
theorem sh5_129 : shape 5 129 = tru := by kernel_rfl
theorem sh5_157 : shape 5 157 = tru := by kernel_rfl
theorem sh5_162 : shape 5 162 = tru := by kernel_rfl
theorem sh5_184 : shape 5 184 = tru := by kernel_rfl
theorem sh5_217 : shape 5 217 = tru := by kernel_rfl
theorem sh5_238 : shape 5 238 = tru := by kernel_rfl
end Go.Proofs.YtpmknbclidomjaaGreatDoor
