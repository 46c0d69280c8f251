/-
  Closed runs by the kernel: DispatchesOutside gives true, for classes of the numbers; no condition.
-/
import Derived.Test.YtekonojimffbhaaGreatDoorPack
set_option linter.unusedVariables false
set_option linter.unusedSimpArgs false
namespace Go.Proofs.YtekonojimffbhaaGreatDoor
open Go Go.Abs
set_option maxRecDepth 100000
set_option maxHeartbeats 0
theorem case1 : caseJ kn1 ky1 = tru := by kernel_rfl
theorem case9 : caseJ kn9 ky9 = tru := by kernel_rfl
theorem case17 : caseJ kn17 ky17 = tru := by kernel_rfl
theorem case25 : caseJ kn25 ky25 = tru := by kernel_rfl
theorem case33 : caseJ kn33 ky33 = tru := by kernel_rfl
theorem case41 : caseJ kn41 ky41 = tru := by kernel_rfl
theorem case49 : caseJ kn49 ky49 = tru := by kernel_rfl
theorem case57 : caseJ kn57 ky57 = tru := by kernel_rfl
theorem case65 : caseJ kn65 ky65 = tru := by kernel_rfl
theorem case73 : caseJ kn73 ky73 = tru := by kernel_rfl
theorem case81 : caseJ kn81 ky81 = tru := by kernel_rfl
theorem case89 : caseJ kn89 ky89 = tru := by kernel_rfl
end Go.Proofs.YtekonojimffbhaaGreatDoor
