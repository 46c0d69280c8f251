/-
  Closed runs by the kernel: DispatchesOutside gives true, for classes of the numbers; no condition.
-/
import Derived.Test.YtekonojimffbhaaGreatDoorPack
set_option linter.unusedVariables false
set_option linter.unusedSimpArgs false
namespace Go.Proofs.YtekonojimffbhaaGreatDoor
open Go Go.Abs
set_option maxRecDepth 100000
set_option maxHeartbeats 0
theorem case4 : caseJ kn4 ky4 = tru := by kernel_rfl
theorem case12 : caseJ kn12 ky12 = tru := by kernel_rfl
theorem case20 : caseJ kn20 ky20 = tru := by kernel_rfl
theorem case28 : caseJ kn28 ky28 = tru := by kernel_rfl
theorem case36 : caseJ kn36 ky36 = tru := by kernel_rfl
theorem case44 : caseJ kn44 ky44 = tru := by kernel_rfl
theorem case52 : caseJ kn52 ky52 = tru := by kernel_rfl
theorem case60 : caseJ kn60 ky60 = tru := by kernel_rfl
theorem case68 : caseJ kn68 ky68 = tru := by kernel_rfl
theorem case76 : caseJ kn76 ky76 = tru := by kernel_rfl
theorem case84 : caseJ kn84 ky84 = tru := by kernel_rfl
theorem case92 : caseJ kn92 ky92 = tru := by kernel_rfl
end Go.Proofs.YtekonojimffbhaaGreatDoor
