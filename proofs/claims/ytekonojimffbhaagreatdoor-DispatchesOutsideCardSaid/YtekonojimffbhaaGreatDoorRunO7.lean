/-
  Closed runs by the kernel: DispatchesOutside gives true, for classes of the numbers; no condition.
-/
import Derived.Test.YtekonojimffbhaaGreatDoorPack
set_option linter.unusedVariables false
set_option linter.unusedSimpArgs false
namespace Go.Proofs.YtekonojimffbhaaGreatDoor
open Go Go.Abs
set_option maxRecDepth 100000
set_option maxHeartbeats 0
theorem case7 : caseJ kn7 ky7 = tru := by kernel_rfl
theorem case23 : caseJ kn23 ky23 = tru := by kernel_rfl
theorem case39 : caseJ kn39 ky39 = tru := by kernel_rfl
theorem case55 : caseJ kn55 ky55 = tru := by kernel_rfl
theorem case71 : caseJ kn71 ky71 = tru := by kernel_rfl
theorem case87 : caseJ kn87 ky87 = tru := by kernel_rfl
end Go.Proofs.YtekonojimffbhaaGreatDoor
