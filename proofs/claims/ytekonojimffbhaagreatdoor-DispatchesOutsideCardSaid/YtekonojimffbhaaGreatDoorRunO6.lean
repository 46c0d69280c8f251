/-
  Closed runs by the kernel: DispatchesOutside gives true, for classes of the numbers; no condition.
-/
import Derived.Test.YtekonojimffbhaaGreatDoorPack
set_option linter.unusedVariables false
set_option linter.unusedSimpArgs false
namespace Go.Proofs.YtekonojimffbhaaGreatDoor
open Go Go.Abs
set_option maxRecDepth 100000
set_option maxHeartbeats 0
theorem case6 : caseJ kn6 ky6 = tru := by kernel_rfl
theorem case22 : caseJ kn22 ky22 = tru := by kernel_rfl
theorem case38 : caseJ kn38 ky38 = tru := by kernel_rfl
theorem case54 : caseJ kn54 ky54 = tru := by kernel_rfl
theorem case70 : caseJ kn70 ky70 = tru := by kernel_rfl
theorem case86 : caseJ kn86 ky86 = tru := by kernel_rfl
end Go.Proofs.YtekonojimffbhaaGreatDoor
