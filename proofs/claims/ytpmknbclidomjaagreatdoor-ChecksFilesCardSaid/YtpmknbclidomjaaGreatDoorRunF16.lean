/-
  Closed runs by the kernel: ChecksFiles gives true, for classes of its numbers; no condition.
-/
import Derived.Test.YtpmknbclidomjaaGreatDoorTabs
set_option linter.unusedVariables false
set_option linter.unusedSimpArgs false
namespace Go.Proofs.YtpmknbclidomjaaGreatDoor
open Go Go.Abs
set_option maxRecDepth 100000
set_option maxHeartbeats 0
theorem sh0_0 : shape 0 0 = tru := by kernel_rfl
theorem sh2_6 : shape 2 6 = tru := by kernel_rfl
theorem sh3_25 : shape 3 25 = tru := by kernel_rfl
theorem sh4_17 : shape 4 17 = tru := by kernel_rfl
theorem sh4_18 : shape 4 18 = tru := by kernel_rfl
theorem sh4_35 : shape 4 35 = tru := by kernel_rfl
theorem sh4_58 : shape 4 58 = tru := by kernel_rfl
theorem sh5_7 : shape 5 7 = tru := by kernel_rfl
theorem sh5_23 : shape 5 23 = tru := by kernel_rfl
theorem sh5_31 : shape 5 31 = tru := by kernel_rfl
theorem sh5_43 : shape 5 43 = tru := by kernel_rfl
theorem sh5_112 : shape 5 112 = tru := by kernel_rfl
theorem sh5_121 : shape 5 121 = tru := by kernel_rfl
theorem sh5_149 : shape 5 149 = tru := by kernel_rfl
theorem sh5_170 : shape 5 170 = tru := by kernel_rfl
theorem sh5_171 : shape 5 171 = tru := by kernel_rfl
theorem sh5_199 : shape 5 199 = tru := by kernel_rfl
theorem sh5_230 : shape 5 230 = tru := by kernel_rfl
theorem sh5_235 : shape 5 235 = tru := by kernel_rfl
end Go.Proofs.YtpmknbclidomjaaGreatDoor
