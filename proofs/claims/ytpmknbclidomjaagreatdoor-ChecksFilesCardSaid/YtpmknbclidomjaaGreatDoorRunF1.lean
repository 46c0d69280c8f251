/-
  Closed runs by the kernel: ChecksFiles gives true, for classes of its numbers; no condition.
-/
import Derived.Test.YtpmknbclidomjaaGreatDoorTabs
set_option linter.unusedVariables false
set_option linter.unusedSimpArgs false
namespace Go.Proofs.YtpmknbclidomjaaGreatDoor
open Go Go.Abs
set_option maxRecDepth 100000
set_option maxHeartbeats 0
theorem sh3_11 : shape 3 11 = tru := by kernel_rfl
theorem sh3_18 : shape 3 18 = tru := by kernel_rfl
theorem sh4_19 : shape 4 19 = tru := by kernel_rfl
theorem sh4_44 : shape 4 44 = tru := by kernel_rfl
theorem sh4_45 : shape 4 45 = tru := by kernel_rfl
theorem sh4_73 : shape 4 73 = tru := by kernel_rfl
theorem sh5_2 : shape 5 2 = tru := by kernel_rfl
theorem sh5_21 : shape 5 21 = tru := by kernel_rfl
theorem sh5_50 : shape 5 50 = tru := by kernel_rfl
theorem sh5_57 : shape 5 57 = tru := by kernel_rfl
theorem sh5_61 : shape 5 61 = tru := by kernel_rfl
theorem sh5_104 : shape 5 104 = tru := by kernel_rfl
theorem sh5_136 : shape 5 136 = tru := by kernel_rfl
theorem sh5_139 : shape 5 139 = tru := by kernel_rfl
theorem sh5_159 : shape 5 159 = tru := by kernel_rfl
theorem sh5_161 : shape 5 161 = tru := by kernel_rfl
theorem sh5_186 : shape 5 186 = tru := by kernel_rfl
theorem sh5_225 : shape 5 225 = tru := by kernel_rfl
end Go.Proofs.YtpmknbclidomjaaGreatDoor
