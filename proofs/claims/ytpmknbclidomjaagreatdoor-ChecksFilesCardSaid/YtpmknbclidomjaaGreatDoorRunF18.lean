/-
  Closed runs by the kernel: ChecksFiles gives true, for classes of its numbers; no condition.
-/
import Derived.Test.YtpmknbclidomjaaGreatDoorTabs
set_option linter.unusedVariables false
set_option linter.unusedSimpArgs false
namespace Go.Proofs.YtpmknbclidomjaaGreatDoor
open Go Go.Abs
set_option maxRecDepth 100000
set_option maxHeartbeats 0
theorem sh3_5 : shape 3 5 = tru := by kernel_rfl
theorem sh3_21 : shape 3 21 = tru := by kernel_rfl
theorem sh4_13 : shape 4 13 = tru := by kernel_rfl
theorem sh4_37 : shape 4 37 = tru := by kernel_rfl
theorem sh4_53 : shape 4 53 = tru := by kernel_rfl
theorem sh4_67 : shape 4 67 = tru := by kernel_rfl
theorem sh5_13 : shape 5 13 = tru := by kernel_rfl
theorem sh5_26 : shape 5 26 = tru := by kernel_rfl
theorem sh5_37 : shape 5 37 = tru := by kernel_rfl
theorem sh5_49 : shape 5 49 = tru := by kernel_rfl
theorem sh5_78 : shape 5 78 = tru := by kernel_rfl
theorem sh5_108 : shape 5 108 = tru := by kernel_rfl
theorem sh5_118 : shape 5 118 = tru := by kernel_rfl
theorem sh5_127 : shape 5 127 = tru := by kernel_rfl
theorem sh5_155 : shape 5 155 = tru := by kernel_rfl
theorem sh5_182 : shape 5 182 = tru := by kernel_rfl
theorem sh5_207 : shape 5 207 = tru := by kernel_rfl
theorem sh5_236 : shape 5 236 = tru := by kernel_rfl
end Go.Proofs.YtpmknbclidomjaaGreatDoor
