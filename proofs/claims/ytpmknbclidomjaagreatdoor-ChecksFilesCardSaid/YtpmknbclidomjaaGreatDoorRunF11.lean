/-
  Closed runs by the kernel: ChecksFiles gives true, for classes of its numbers; no condition.
-/
import Derived.Test.YtpmknbclidomjaaGreatDoorTabs
set_option linter.unusedVariables false
set_option linter.unusedSimpArgs false
namespace Go.Proofs.YtpmknbclidomjaaGreatDoor
open Go Go.Abs
set_option maxRecDepth 100000
set_option maxHeartbeats 0
theorem sh3_10 : shape 3 10 = tru := by kernel_rfl
theorem sh3_16 : shape 3 16 = tru := by kernel_rfl
theorem sh4_47 : shape 4 47 = tru := by kernel_rfl
theorem sh4_54 : shape 4 54 = tru := by kernel_rfl
theorem sh4_66 : shape 4 66 = tru := by kernel_rfl
theorem sh5_3 : shape 5 3 = tru := by kernel_rfl
theorem sh5_40 : shape 5 40 = tru := by kernel_rfl
theorem sh5_82 : shape 5 82 = tru := by kernel_rfl
theorem sh5_94 : shape 5 94 = tru := by kernel_rfl
theorem sh5_103 : shape 5 103 = tru := by kernel_rfl
theorem sh5_107 : shape 5 107 = tru := by kernel_rfl
theorem sh5_117 : shape 5 117 = tru := by kernel_rfl
theorem sh5_146 : shape 5 146 = tru := by kernel_rfl
theorem sh5_181 : shape 5 181 = tru := by kernel_rfl
theorem sh5_188 : shape 5 188 = tru := by kernel_rfl
theorem sh5_192 : shape 5 192 = tru := by kernel_rfl
theorem sh5_221 : shape 5 221 = tru := by kernel_rfl
theorem sh5_222 : shape 5 222 = tru := by kernel_rfl
end Go.Proofs.YtpmknbclidomjaaGreatDoor
