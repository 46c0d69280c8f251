/-
  Closed runs by the kernel: ChecksFiles gives true, for classes of its numbers; no condition.
-/
import Derived.Test.YtpmknbclidomjaaGreatDoorTabs
set_option linter.unusedVariables false
set_option linter.unusedSimpArgs false
namespace Go.Proofs.YtpmknbclidomjaaGreatDoor
open Go Go.Abs
set_option maxRecDepth 100000
set_option maxHeartbeats 0
theorem sh3_9 : shape 3 9 = tru := by kernel_rfl
theorem sh3_19 : shape 3 19 = tru := by kernel_rfl
theorem sh4_14 : shape 4 14 = tru := by kernel_rfl
theorem sh4_38 : shape 4 38 = tru := by kernel_rfl
theorem sh4_62 : shape 4 62 = tru := by kernel_rfl
theorem sh4_63 : shape 4 63 = tru := by kernel_rfl
theorem sh5_10 : shape 5 10 = tru := by kernel_rfl
theorem sh5_16 : shape 5 16 = tru := by kernel_rfl
theorem sh5_60 : shape 5 60 = tru := by kernel_rfl
theorem sh5_68 : shape 5 68 = tru := by kernel_rfl
theorem sh5_69 : shape 5 69 = tru := by kernel_rfl
theorem sh5_85 : shape 5 85 = tru := by kernel_rfl
theorem sh5_122 : shape 5 122 = tru := by kernel_rfl
theorem sh5_147 : shape 5 147 = tru := by kernel_rfl
theorem sh5_164 : shape 5 164 = tru := by kernel_rfl
theorem sh5_187 : shape 5 187 = tru := by kernel_rfl
theorem sh5_200 : shape 5 200 = tru := by kernel_rfl
theorem sh5_239 : shape 5 239 = tru := by kernel_rfl
end Go.Proofs.YtpmknbclidomjaaGreatDoor
