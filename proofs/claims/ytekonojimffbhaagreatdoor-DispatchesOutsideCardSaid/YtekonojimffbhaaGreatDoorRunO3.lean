/-
  Closed runs by the kernel: DispatchesOutside gives true, for classes of the numbers; no condition.
-/
import Derived.Test.YtekonojimffbhaaGreatDoorPack
set_option linter.unusedVariables false
set_option linter.unusedSimpArgs false
namespace Go.Proofs.YtekonojimffbhaaGreatDoor
open Go Go.Abs
set_option maxRecDepth 100000
set_option maxHeartbeats 0
theorem case3 : caseJ kn3 ky3 = tru := by kernel_rfl
theorem case11 : caseJ kn11 ky11 = tru := by kernel_rfl
theorem case19 : caseJ kn19 ky19 = tru := by kernel_rfl
theorem case27 : caseJ kn27 ky27 = tru := by kernel_rfl
theorem case35 : caseJ kn35 ky35 = tru := by kernel_rfl
theorem case43 : caseJ kn43 ky43 = tru := by kernel_rfl
theorem case51 : caseJ kn51 ky51 = tru := by kernel_rfl
theorem case59 : caseJ kn59 ky59 = tru := by kernel_rfl
theorem case67 : caseJ kn67 ky67 = tru := by kernel_rfl
theorem case75 : caseJ kn75 ky75 = tru := by kernel_rfl
theorem case83 : caseJ kn83 ky83 = tru := by kernel_rfl
theorem case91 : caseJ kn91 ky91 = tru := by kernel_rfl
end Go.Proofs.YtekonojimffbhaaGreatDoor
