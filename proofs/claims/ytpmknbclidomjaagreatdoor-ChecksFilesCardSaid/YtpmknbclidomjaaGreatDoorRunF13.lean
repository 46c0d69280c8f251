/-
  Closed runs by the kernel: ChecksFiles gives true, for classes of its numbers; no condition.
-/
import Derived.Test.YtpmknbclidomjaaGreatDoorTabs
set_option linter.unusedVariables false
set_option linter.unusedSimpArgs false
namespace Go.Proofs.YtpmknbclidomjaaGreatDoor
open Go Go.Abs
set_option maxRecDepth 100000
set_option maxHeartbeats 0
theorem sh3_4 : shape 3 4 = tru := by kernel_rfl
theorem sh3_8 : shape 3 8 = tru := by kernel_rfl
theorem sh4_30 : shape 4 30 = tru := by kernel_rfl
theorem sh4_51 : shape 4 51 = tru := by kernel_rfl
theorem sh5_0 : shape 5 0 = tru := by kernel_rfl
theorem sh5_27 : shape 5 27 = tru := by kernel_rfl
theorem sh5_46 : shape 5 46 = tru := by kernel_rfl
theorem sh5_90 : shape 5 90 = tru := by kernel_rfl
theorem sh5_100 : shape 5 100 = tru := by kernel_rfl
theorem sh5_113 : shape 5 113 = tru := by kernel_rfl
theorem sh5_131 : shape 5 131 = tru := by kernel_rfl
theorem sh5_150 : shape 5 150 = tru := by kernel_rfl
theorem sh5_163 : shape 5 163 = tru := by kernel_rfl
theorem sh5_191 : shape 5 191 = tru := by kernel_rfl
theorem sh5_212 : shape 5 212 = tru := by kernel_rfl
theorem sh5_216 : shape 5 216 = tru := by kernel_rfl
theorem sh5_227 : shape 5 227 = tru := by kernel_rfl
theorem sh5_228 : shape 5 228 = tru := by kernel_rfl
end Go.Proofs.YtpmknbclidomjaaGreatDoor
