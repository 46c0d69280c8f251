/-
  Closed runs by the kernel: ChecksFiles gives true, for classes of its numbers; no condition.
-/
import Derived.Test.YtpmknbclidomjaaGreatDoorTabs
set_option linter.unusedVariables false
set_option linter.unusedSimpArgs false
namespace Go.Proofs.YtpmknbclidomjaaGreatDoor
open Go Go.Abs
set_option maxRecDepth 100000
set_option maxHeartbeats 0
theorem sh3_1 : shape 3 1 = tru := by kernel_rfl
theorem sh3_13 : shape 3 13 = tru := by kernel_rfl
theorem sh4_21 : shape 4 21 = tru := by kernel_rfl
theorem sh4_50 : shape 4 50 = tru := by kernel_rfl
theorem sh4_55 : shape 4 55 = tru := by kernel_rfl
theorem sh4_75 : shape 4 75 = tru := by kernel_rfl
theorem sh5_4 : shape 5 4 = tru := by kernel_rfl
theorem sh5_8 : shape 5 8 = tru := by kernel_rfl
theorem sh5_52 : shape 5 52 = tru := by kernel_rfl
theorem sh5_56 : shape 5 56 = tru := by kernel_rfl
theorem sh5_63 : shape 5 63 = tru := by kernel_rfl
theorem sh5_65 : shape 5 65 = tru := by kernel_rfl
theorem sh5_106 : shape 5 106 = tru := by kernel_rfl
theorem sh5_138 : shape 5 138 = tru := by kernel_rfl
theorem sh5_141 : shape 5 141 = tru := by kernel_rfl
theorem sh5_179 : shape 5 179 = tru := by kernel_rfl
theorem sh5_194 : shape 5 194 = tru := by kernel_rfl
theorem sh5_215 : shape 5 215 = tru := by kernel_rfl
end Go.Proofs.YtpmknbclidomjaaGreatDoor
