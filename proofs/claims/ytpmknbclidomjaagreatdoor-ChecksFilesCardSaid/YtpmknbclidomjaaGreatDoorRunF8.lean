/-
  Closed runs by the kernel: ChecksFiles gives true, for classes of its numbers; no condition.
-/
import Derived.Test.YtpmknbclidomjaaGreatDoorTabs
set_option linter.unusedVariables false
set_option linter.unusedSimpArgs false
namespace Go.Proofs.YtpmknbclidomjaaGreatDoor
open Go Go.Abs
set_option maxRecDepth 100000
set_option maxHeartbeats 0
theorem sh1_1 : shape 1 1 = tru := by kernel_rfl
theorem sh2_2 : shape 2 2 = tru := by kernel_rfl
theorem sh3_17 : shape 3 17 = tru := by kernel_rfl
theorem sh4_10 : shape 4 10 = tru := by kernel_rfl
theorem sh4_24 : shape 4 24 = tru := by kernel_rfl
theorem sh4_48 : shape 4 48 = tru := by kernel_rfl
theorem sh4_76 : shape 4 76 = tru := by kernel_rfl
theorem sh5_30 : shape 5 30 = tru := by kernel_rfl
theorem sh5_32 : shape 5 32 = tru := by kernel_rfl
theorem sh5_71 : shape 5 71 = tru := by kernel_rfl
theorem sh5_86 : shape 5 86 = tru := by kernel_rfl
theorem sh5_95 : shape 5 95 = tru := by kernel_rfl
theorem sh5_99 : shape 5 99 = tru := by kernel_rfl
theorem sh5_132 : shape 5 132 = tru := by kernel_rfl
theorem sh5_152 : shape 5 152 = tru := by kernel_rfl
theorem sh5_173 : shape 5 173 = tru := by kernel_rfl
theorem sh5_174 : shape 5 174 = tru := by kernel_rfl
theorem sh5_209 : shape 5 209 = tru := by kernel_rfl
theorem sh5_210 : shape 5 210 = tru := by kernel_rfl
end Go.Proofs.YtpmknbclidomjaaGreatDoor
