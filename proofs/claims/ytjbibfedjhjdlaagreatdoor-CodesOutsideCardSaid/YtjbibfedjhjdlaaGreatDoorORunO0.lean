/-
  Closed runs by the kernel: CodesOutside gives true, for classes of the numbers; no condition.
-/
import Derived.Test.YtjbibfedjhjdlaaGreatDoorOPack
set_option linter.unusedVariables false
set_option linter.unusedSimpArgs false
namespace Go.Proofs.YtjbibfedjhjdlaaGreatDoor
open Go Go.Abs
set_option maxRecDepth 100000
set_option maxHeartbeats 0
theorem case0 : caseJ kn0 ky0 = tru := by kernel_rfl
theorem case9 : caseJ kn9 ky9 = tru := by kernel_rfl
theorem case18 : caseJ kn18 ky18 = tru := by kernel_rfl
theorem case27 : caseJ kn27 ky27 = tru := by kernel_rfl
theorem case36 : caseJ kn36 ky36 = tru := by kernel_rfl
theorem case45 : caseJ kn45 ky45 = tru := by kernel_rfl
theorem case54 : caseJ kn54 ky54 = tru := by kernel_rfl
theorem case63 : caseJ kn63 ky63 = tru := by kernel_rfl
theorem case72 : caseJ kn72 ky72 = tru := by kernel_rfl
theorem case81 : caseJ kn81 ky81 = tru := by kernel_rfl
theorem case90 : caseJ kn90 ky90 = tru := by kernel_rfl
theorem case99 : caseJ kn99 ky99 = tru := by kernel_rfl
theorem case108 : caseJ kn108 ky108 = tru := by kernel_rfl
theorem case117 : caseJ kn117 ky117 = tru := by kernel_rfl
theorem case126 : caseJ kn126 ky126 = tru := by kernel_rfl
theorem case135 : caseJ kn135 ky135 = tru := by kernel_rfl
end Go.Proofs.YtjbibfedjhjdlaaGreatDoor
