/-
  Closed runs by the kernel: CodesOutside gives true, for classes of the numbers; no condition.
-/
import Derived.Test.YtjbibfedjhjdlaaGreatDoorOPack
set_option linter.unusedVariables false
set_option linter.unusedSimpArgs false
namespace Go.Proofs.YtjbibfedjhjdlaaGreatDoor
open Go Go.Abs
set_option maxRecDepth 100000
set_option maxHeartbeats 0
theorem case2 : caseJ kn2 ky2 = tru := by kernel_rfl
theorem case11 : caseJ kn11 ky11 = tru := by kernel_rfl
theorem case20 : caseJ kn20 ky20 = tru := by kernel_rfl
theorem case29 : caseJ kn29 ky29 = tru := by kernel_rfl
theorem case38 : caseJ kn38 ky38 = tru := by kernel_rfl
theorem case47 : caseJ kn47 ky47 = tru := by kernel_rfl
theorem case56 : caseJ kn56 ky56 = tru := by kernel_rfl
theorem case65 : caseJ kn65 ky65 = tru := by kernel_rfl
theorem case74 : caseJ kn74 ky74 = tru := by kernel_rfl
theorem case83 : caseJ kn83 ky83 = tru := by kernel_rfl
theorem case92 : caseJ kn92 ky92 = tru := by kernel_rfl
theorem case101 : caseJ kn101 ky101 = tru := by kernel_rfl
theorem case110 : caseJ kn110 ky110 = tru := by kernel_rfl
theorem case119 : caseJ kn119 ky119 = tru := by kernel_rfl
theorem case128 : caseJ kn128 ky128 = tru := by kernel_rfl
theorem case137 : caseJ kn137 ky137 = tru := by kernel_rfl
end Go.Proofs.YtjbibfedjhjdlaaGreatDoor
