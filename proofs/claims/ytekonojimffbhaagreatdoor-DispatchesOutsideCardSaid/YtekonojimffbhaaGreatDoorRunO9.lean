/-
  Closed runs by the kernel: DispatchesOutside gives true, for classes of the numbers; no condition.
-/
import Derived.Test.YtekonojimffbhaaGreatDoorPack
set_option linter.unusedVariables false
set_option linter.unusedSimpArgs false
namespace Go.Proofs.YtekonojimffbhaaGreatDoor
open Go Go.Abs
set_option maxRecDepth 100000
set_option maxHeartbeats 0
theorem case15 : caseJ kn15 ky15 = tru := by kernel_rfl
theorem case31 : caseJ kn31 ky31 = tru := by kernel_rfl
theorem case47 : caseJ kn47 ky47 = tru := by kernel_rfl
theorem case63 : caseJ kn63 ky63 = tru := by kernel_rfl
theorem case79 : caseJ kn79 ky79 = tru := by kernel_rfl
theorem case95 : caseJ kn95 ky95 = tru := by kernel_rfl
end Go.Proofs.YtekonojimffbhaaGreatDoor
