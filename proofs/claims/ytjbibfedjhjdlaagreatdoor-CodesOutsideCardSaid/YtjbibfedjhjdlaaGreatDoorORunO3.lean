/-
  Closed runs by the kernel: CodesOutside gives true, for classes of the numbers; no condition.
-/
import Derived.Test.YtjbibfedjhjdlaaGreatDoorOPack
set_option linter.unusedVariables false
set_option linter.unusedSimpArgs false
namespace Go.Proofs.YtjbibfedjhjdlaaGreatDoor
open Go Go.Abs
set_option maxRecDepth 100000
set_option maxHeartbeats 0
theorem case3 : caseJ kn3 ky3 = tru := by kernel_rfl
theorem case12 : caseJ kn12 ky12 = tru := by kernel_rfl
theorem case21 : caseJ kn21 ky21 = tru := by kernel_rfl
theorem case30 : caseJ kn30 ky30 = tru := by kernel_rfl
theorem case39 : caseJ kn39 ky39 = tru := by kernel_rfl
theorem case48 : caseJ kn48 ky48 = tru := by kernel_rfl
theorem case57 : caseJ kn57 ky57 = tru := by kernel_rfl
theorem case66 : caseJ kn66 ky66 = tru := by kernel_rfl
theorem case75 : caseJ kn75 ky75 = tru := by kernel_rfl
theorem case84 : caseJ kn84 ky84 = tru := by kernel_rfl
theorem case93 : caseJ kn93 ky93 = tru := by kernel_rfl
theorem case102 : caseJ kn102 ky102 = tru := by kernel_rfl
theorem case111 : caseJ kn111 ky111 = tru := by kernel_rfl
theorem case120 : caseJ kn120 ky120 = tru := by kernel_rfl
theorem case129 : caseJ kn129 ky129 = tru := by kernel_rfl
theorem case138 : caseJ kn138 ky138 = tru := by kernel_rfl
end Go.Proofs.YtjbibfedjhjdlaaGreatDoor
