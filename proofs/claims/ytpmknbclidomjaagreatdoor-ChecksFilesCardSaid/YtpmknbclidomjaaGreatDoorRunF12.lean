/-
  Closed runs by the kernel: ChecksFiles gives true, for classes of its numbers; no condition.
-/
import Derived.Test.YtpmknbclidomjaaGreatDoorTabs
set_option linter.unusedVariables false
set_option linter.unusedSimpArgs false
namespace Go.Proofs.YtpmknbclidomjaaGreatDoor
open Go Go.Abs
set_option maxRecDepth 100000
set_option maxHeartbeats 0
theorem sh2_5 : shape 2 5 = tru := by kernel_rfl
theorem sh3_26 : shape 3 26 = tru := by kernel_rfl
theorem sh4_1 : shape 4 1 = tru := by kernel_rfl
theorem sh4_49 : shape 4 49 = tru := by kernel_rfl
theorem sh4_72 : shape 4 72 = tru := by kernel_rfl
theorem sh5_9 : shape 5 9 = tru := by kernel_rfl
theorem sh5_42 : shape 5 42 = tru := by kernel_rfl
theorem sh5_84 : shape 5 84 = tru := by kernel_rfl
theorem sh5_96 : shape 5 96 = tru := by kernel_rfl
theorem sh5_105 : shape 5 105 = tru := by kernel_rfl
theorem sh5_125 : shape 5 125 = tru := by kernel_rfl
theorem sh5_135 : shape 5 135 = tru := by kernel_rfl
theorem sh5_148 : shape 5 148 = tru := by kernel_rfl
theorem sh5_183 : shape 5 183 = tru := by kernel_rfl
theorem sh5_198 : shape 5 198 = tru := by kernel_rfl
theorem sh5_206 : shape 5 206 = tru := by kernel_rfl
theorem sh5_223 : shape 5 223 = tru := by kernel_rfl
theorem sh5_226 : shape 5 226 = tru := by kernel_rfl
end Go.Proofs.YtpmknbclidomjaaGreatDoor
