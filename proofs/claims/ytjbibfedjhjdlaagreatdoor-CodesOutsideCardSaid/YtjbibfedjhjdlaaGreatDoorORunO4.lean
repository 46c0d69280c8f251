/-
  Closed runs by the kernel: CodesOutside gives true, for classes of the numbers; no condition.
-/
import Derived.Test.YtjbibfedjhjdlaaGreatDoorOPack
set_option linter.unusedVariables false
set_option linter.unusedSimpArgs false
namespace Go.Proofs.YtjbibfedjhjdlaaGreatDoor
open Go Go.Abs
set_option maxRecDepth 100000
set_option maxHeartbeats 0
theorem case4 : caseJ kn4 ky4 = tru := by kernel_rfl
theorem case13 : caseJ kn13 ky13 = tru := by kernel_rfl
theorem case22 : caseJ kn22 ky22 = tru := by kernel_rfl
theorem case31 : caseJ kn31 ky31 = tru := by kernel_rfl
theorem case40 : caseJ kn40 ky40 = tru := by kernel_rfl
theorem case49 : caseJ kn49 ky49 = tru := by kernel_rfl
theorem case58 : caseJ kn58 ky58 = tru := by kernel_rfl
theorem case67 : caseJ kn67 ky67 = tru := by kernel_rfl
theorem case76 : caseJ kn76 ky76 = tru := by kernel_rfl
theorem case85 : caseJ kn85 ky85 = tru := by kernel_rfl
theorem case94 : caseJ kn94 ky94 = tru := by kernel_rfl
theorem case103 : caseJ kn103 ky103 = tru := by kernel_rfl
theorem case112 : caseJ kn112 ky112 = tru := by kernel_rfl
theorem case121 : caseJ kn121 ky121 = tru := by kernel_rfl
theorem case130 : caseJ kn130 ky130 = tru := by kernel_rfl
theorem case139 : caseJ kn139 ky139 = tru := by kernel_rfl
end Go.Proofs.YtjbibfedjhjdlaaGreatDoor
