/-
  Closed runs by the kernel: ChecksFiles gives true, for classes of its numbers; no condition.
-/
import Derived.Test.YtpmknbclidomjaaGreatDoorTabs
set_option linter.unusedVariables false
set_option linter.unusedSimpArgs false
namespace Go.Proofs.YtpmknbclidomjaaGreatDoor
open Go Go.Abs
set_option maxRecDepth 100000
set_option maxHeartbeats 0
theorem sh3_3 : shape 3 3 = tru := by kernel_rfl
theorem sh3_15 : shape 3 15 = tru := by kernel_rfl
theorem sh4_8 : shape 4 8 = tru := by kernel_rfl
theorem sh4_34 : shape 4 34 = tru := by kernel_rfl
theorem sh4_52 : shape 4 52 = tru := by kernel_rfl
theorem sh4_57 : shape 4 57 = tru := by kernel_rfl
theorem sh5_6 : shape 5 6 = tru := by kernel_rfl
theorem sh5_14 : shape 5 14 = tru := by kernel_rfl
theorem sh5_58 : shape 5 58 = tru := by kernel_rfl
theorem sh5_62 : shape 5 62 = tru := by kernel_rfl
theorem sh5_67 : shape 5 67 = tru := by kernel_rfl
theorem sh5_83 : shape 5 83 = tru := by kernel_rfl
theorem sh5_116 : shape 5 116 = tru := by kernel_rfl
theorem sh5_144 : shape 5 144 = tru := by kernel_rfl
theorem sh5_145 : shape 5 145 = tru := by kernel_rfl
theorem sh5_185 : shape 5 185 = tru := by kernel_rfl
theorem sh5_196 : shape 5 196 = tru := by kernel_rfl
theorem sh5_233 : shape 5 233 = tru := by kernel_rfl
end Go.Proofs.YtpmknbclidomjaaGreatDoor
