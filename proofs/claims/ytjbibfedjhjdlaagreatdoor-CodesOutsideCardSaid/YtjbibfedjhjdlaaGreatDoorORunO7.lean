/-
  Closed runs by the kernel: CodesOutside gives true, for classes of the numbers; no condition.
-/
import Derived.Test.YtjbibfedjhjdlaaGreatDoorOPack
set_option linter.unusedVariables false
set_option linter.unusedSimpArgs false
namespace Go.Proofs.YtjbibfedjhjdlaaGreatDoor
open Go Go.Abs
set_option maxRecDepth 100000
set_option maxHeartbeats 0
theorem case7 : caseJ kn7 ky7 = tru := by kernel_rfl
theorem case16 : caseJ kn16 ky16 = tru := by kernel_rfl
theorem case25 : caseJ kn25 ky25 = tru := by kernel_rfl
theorem case34 : caseJ kn34 ky34 = tru := by kernel_rfl
theorem case43 : caseJ kn43 ky43 = tru := by kernel_rfl
theorem case52 : caseJ kn52 ky52 = tru := by kernel_rfl
theorem case61 : caseJ kn61 ky61 = tru := by kernel_rfl
theorem case70 : caseJ kn70 ky70 = tru := by kernel_rfl
theorem case79 : caseJ kn79 ky79 = tru := by kernel_rfl
theorem case88 : caseJ kn88 ky88 = tru := by kernel_rfl
theorem case97 : caseJ kn97 ky97 = tru := by kernel_rfl
theorem case106 : caseJ kn106 ky106 = tru := by kernel_rfl
theorem case115 : caseJ kn115 ky115 = tru := by kernel_rfl
theorem case124 : caseJ kn124 ky124 = tru := by kernel_rfl
theorem case133 : caseJ kn133 ky133 = tru := by kernel_rfl
end Go.Proofs.YtjbibfedjhjdlaaGreatDoor
