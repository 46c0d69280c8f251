/-
  Closed runs by the kernel: CodesOutside gives true, for classes of the numbers; no condition.
-/
import Derived.Test.YtjbibfedjhjdlaaGreatDoorOPack
set_option linter.unusedVariables false
set_option linter.unusedSimpArgs false
namespace Go.Proofs.YtjbibfedjhjdlaaGreatDoor
open Go Go.Abs
set_option maxRecDepth 100000
set_option maxHeartbeats 0
theorem case1 : caseJ kn1 ky1 = tru := by kernel_rfl
theorem case10 : caseJ kn10 ky10 = tru := by kernel_rfl
theorem case19 : caseJ kn19 ky19 = tru := by kernel_rfl
theorem case28 : caseJ kn28 ky28 = tru := by kernel_rfl
theorem case37 : caseJ kn37 ky37 = tru := by kernel_rfl
theorem case46 : caseJ kn46 ky46 = tru := by kernel_rfl
theorem case55 : caseJ kn55 ky55 = tru := by kernel_rfl
theorem case64 : caseJ kn64 ky64 = tru := by kernel_rfl
theorem case73 : caseJ kn73 ky73 = tru := by kernel_rfl
theorem case82 : caseJ kn82 ky82 = tru := by kernel_rfl
theorem case91 : caseJ kn91 ky91 = tru := by kernel_rfl
theorem case100 : caseJ kn100 ky100 = tru := by kernel_rfl
theorem case109 : caseJ kn109 ky109 = tru := by kernel_rfl
theorem case118 : caseJ kn118 ky118 = tru := by kernel_rfl
theorem case127 : caseJ kn127 ky127 = tru := by kernel_rfl
theorem case136 : caseJ kn136 ky136 = tru := by kernel_rfl
end Go.Proofs.YtjbibfedjhjdlaaGreatDoor
