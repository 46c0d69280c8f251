/-
  Closed runs by the kernel: CodesOutside gives true, for classes of the numbers; no condition.
-/
import Derived.Test.YtjbibfedjhjdlaaGreatDoorOPack
set_option linter.unusedVariables false
set_option linter.unusedSimpArgs false
namespace Go.Proofs.YtjbibfedjhjdlaaGreatDoor
open Go Go.Abs
set_option maxRecDepth 100000
set_option maxHeartbeats 0
theorem case5 : caseJ kn5 ky5 = tru := by kernel_rfl
theorem case14 : caseJ kn14 ky14 = tru := by kernel_rfl
theorem case23 : caseJ kn23 ky23 = tru := by kernel_rfl
theorem case32 : caseJ kn32 ky32 = tru := by kernel_rfl
theorem case41 : caseJ kn41 ky41 = tru := by kernel_rfl
theorem case50 : caseJ kn50 ky50 = tru := by kernel_rfl
theorem case59 : caseJ kn59 ky59 = tru := by kernel_rfl
theorem case68 : caseJ kn68 ky68 = tru := by kernel_rfl
theorem case77 : caseJ kn77 ky77 = tru := by kernel_rfl
theorem case86 : caseJ kn86 ky86 = tru := by kernel_rfl
theorem case95 : caseJ kn95 ky95 = tru := by kernel_rfl
theorem case104 : caseJ kn104 ky104 = tru := by kernel_rfl
theorem case113 : caseJ kn113 ky113 = tru := by kernel_rfl
theorem case122 : caseJ kn122 ky122 = tru := by kernel_rfl
theorem case131 : caseJ kn131 ky131 = tru := by kernel_rfl
end Go.Proofs.YtjbibfedjhjdlaaGreatDoor
