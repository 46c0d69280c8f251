/-
  Closed runs by the kernel: DispatchesOutside gives true, for classes of the numbers; no condition.
-/
import Derived.Test.YtekonojimffbhaaGreatDoorPack
set_option linter.unusedVariables false
set_option linter.unusedSimpArgs false
namespace Go.Proofs.YtekonojimffbhaaGreatDoor
open Go Go.Abs
set_option maxRecDepth 100000
set_option maxHeartbeats 0
theorem case14 : caseJ kn14 ky14 = tru := by kernel_rfl
theorem case30 : caseJ kn30 ky30 = tru := by kernel_rfl
theorem case46 : caseJ kn46 ky46 = tru := by kernel_rfl
theorem case62 : caseJ kn62 ky62 = tru := by kernel_rfl
theorem case78 : caseJ kn78 ky78 = tru := by kernel_rfl
theorem case94 : caseJ kn94 ky94 = tru := by kernel_rfl
end Go.Proofs.YtekonojimffbhaaGreatDoor
