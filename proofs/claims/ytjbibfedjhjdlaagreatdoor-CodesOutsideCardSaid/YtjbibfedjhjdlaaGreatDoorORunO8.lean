/-
  Closed runs by the kernel: CodesOutside gives true, for classes of the numbers; no condition.
-/
import Derived.Test.YtjbibfedjhjdlaaGreatDoorOPack
set_option linter.unusedVariables false
set_option linter.unusedSimpArgs false
namespace Go.Proofs.YtjbibfedjhjdlaaGreatDoor
open Go Go.Abs
set_option maxRecDepth 100000
set_option maxHeartbeats 0
theorem case8 : caseJ kn8 ky8 = tru := by kernel_rfl
theorem case17 : caseJ kn17 ky17 = tru := by kernel_rfl
theorem case26 : caseJ kn26 ky26 = tru := by kernel_rfl
theorem case35 : caseJ kn35 ky35 = tru := by kernel_rfl
theorem case44 : caseJ kn44 ky44 = tru := by kernel_rfl
theorem case53 : caseJ kn53 ky53 = tru := by kernel_rfl
theorem case62 : caseJ kn62 ky62 = tru := by kernel_rfl
theorem case71 : caseJ kn71 ky71 = tru := by kernel_rfl
theorem case80 : caseJ kn80 ky80 = tru := by kernel_rfl
theorem case89 : caseJ kn89 ky89 = tru := by kernel_rfl
theorem case98 : caseJ kn98 ky98 = tru := by kernel_rfl
theorem case107 : caseJ kn107 ky107 = tru := by kernel_rfl
theorem case116 : caseJ kn116 ky116 = tru := by kernel_rfl
theorem case125 : caseJ kn125 ky125 = tru := by kernel_rfl
theorem case134 : caseJ kn134 ky134 = tru := by kernel_rfl
end Go.Proofs.YtjbibfedjhjdlaaGreatDoor
