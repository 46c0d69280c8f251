/-
  Closed runs by the kernel: CodesOutside gives true, for classes of the numbers; no condition.
-/
import Derived.Test.YtjbibfedjhjdlaaGreatDoorOPack
set_option linter.unusedVariables false
set_option linter.unusedSimpArgs false
namespace Go.Proofs.YtjbibfedjhjdlaaGreatDoor
open Go Go.Abs
set_option maxRecDepth 100000
set_option maxHeartbeats 0
theorem case6 : caseJ kn6 ky6 = tru := by kernel_rfl
theorem case15 : caseJ kn15 ky15 = tru := by kernel_rfl
theorem case24 : caseJ kn24 ky24 = tru := by kernel_rfl
theorem case33 : caseJ kn33 ky33 = tru := by kernel_rfl
theorem case42 : caseJ kn42 ky42 = tru := by kernel_rfl
theorem case51 : caseJ kn51 ky51 = tru := by kernel_rfl
theorem case60 : caseJ kn60 ky60 = tru := by kernel_rfl
theorem case69 : caseJ kn69 ky69 = tru := by kernel_rfl
theorem case78 : caseJ kn78 ky78 = tru := by kernel_rfl
theorem case87 : caseJ kn87 ky87 = tru := by kernel_rfl
theorem case96 : caseJ kn96 ky96 = tru := by kernel_rfl
theorem case105 : caseJ kn105 ky105 = tru := by kernel_rfl
theorem case114 : caseJ kn114 ky114 = tru := by kernel_rfl
theorem case123 : caseJ kn123 ky123 = tru := by kernel_rfl
theorem case132 : caseJ kn132 ky132 = tru := by kernel_rfl
end Go.Proofs.YtjbibfedjhjdlaaGreatDoor
