/-
  Closed runs by the kernel: ChecksFiles gives true, for classes of its numbers; no condition.
-/
import Derived.Test.YtpmknbclidomjaaGreatDoorTabs
set_option linter.unusedVariables false
set_option linter.unusedSimpArgs false
namespace Go.Proofs.YtpmknbclidomjaaGreatDoor
open Go Go.Abs
set_option maxRecDepth 100000
set_option maxHeartbeats 0
theorem sh2_8 : shape 2 8 = tru := by kernel_rfl
theorem sh3_22 : shape 3 22 = tru := by kernel_rfl
theorem sh4_7 : shape 4 7 = tru := by kernel_rfl
theorem sh4_25 : shape 4 25 = tru := by kernel_rfl
theorem sh4_31 : shape 4 31 = tru := by kernel_rfl
theorem sh4_61 : shape 4 61 = tru := by kernel_rfl
theorem sh4_79 : shape 4 79 = tru := by kernel_rfl
theorem sh5_19 : shape 5 19 = tru := by kernel_rfl
theorem sh5_35 : shape 5 35 = tru := by kernel_rfl
theorem sh5_55 : shape 5 55 = tru := by kernel_rfl
theorem sh5_59 : shape 5 59 = tru := by kernel_rfl
theorem sh5_76 : shape 5 76 = tru := by kernel_rfl
theorem sh5_126 : shape 5 126 = tru := by kernel_rfl
theorem sh5_137 : shape 5 137 = tru := by kernel_rfl
theorem sh5_178 : shape 5 178 = tru := by kernel_rfl
theorem sh5_203 : shape 5 203 = tru := by kernel_rfl
theorem sh5_219 : shape 5 219 = tru := by kernel_rfl
theorem sh5_242 : shape 5 242 = tru := by kernel_rfl
end Go.Proofs.YtpmknbclidomjaaGreatDoor
