/-
  Closed runs by the kernel: ChecksFiles gives true, for classes of its numbers; no condition.
-/
import Derived.Test.YtpmknbclidomjaaGreatDoorTabs
set_option linter.unusedVariables false
set_option linter.unusedSimpArgs false
namespace Go.Proofs.YtpmknbclidomjaaGreatDoor
open Go Go.Abs
set_option maxRecDepth 100000
set_option maxHeartbeats 0
theorem sh2_7 : shape 2 7 = tru := by kernel_rfl
theorem sh3_24 : shape 3 24 = tru := by kernel_rfl
theorem sh4_11 : shape 4 11 = tru := by kernel_rfl
theorem sh4_26 : shape 4 26 = tru := by kernel_rfl
theorem sh4_33 : shape 4 33 = tru := by kernel_rfl
theorem sh4_65 : shape 4 65 = tru := by kernel_rfl
theorem sh4_77 : shape 4 77 = tru := by kernel_rfl
theorem sh4_80 : shape 4 80 = tru := by kernel_rfl
theorem sh5_45 : shape 5 45 = tru := by kernel_rfl
theorem sh5_48 : shape 5 48 = tru := by kernel_rfl
theorem sh5_102 : shape 5 102 = tru := by kernel_rfl
theorem sh5_115 : shape 5 115 = tru := by kernel_rfl
theorem sh5_133 : shape 5 133 = tru := by kernel_rfl
theorem sh5_154 : shape 5 154 = tru := by kernel_rfl
theorem sh5_193 : shape 5 193 = tru := by kernel_rfl
theorem sh5_214 : shape 5 214 = tru := by kernel_rfl
theorem sh5_229 : shape 5 229 = tru := by kernel_rfl
theorem sh5_234 : shape 5 234 = tru := by kernel_rfl
end Go.Proofs.YtpmknbclidomjaaGreatDoor
