/-
  Closed runs by the kernel: DispatchesOutside gives true, for classes of the numbers; no condition.
-/
import Derived.Test.YtekonojimffbhaaGreatDoorPack
set_option linter.unusedVariables false
set_option linter.unusedSimpArgs false
namespace Go.Proofs.YtekonojimffbhaaGreatDoor
open Go Go.Abs
set_option maxRecDepth 100000
set_option maxHeartbeats 0
theorem case2 : caseJ kn2 ky2 = tru := by kernel_rfl
theorem case10 : caseJ kn10 ky10 = tru := by kernel_rfl
theorem case18 : caseJ kn18 ky18 = tru := by kernel_rfl
theorem case26 : caseJ kn26 ky26 = tru := by kernel_rfl
theorem case34 : caseJ kn34 ky34 = tru := by kernel_rfl
theorem case42 : caseJ kn42 ky42 = tru := by kernel_rfl
theorem case50 : caseJ kn50 ky50 = tru := by kernel_rfl
theorem case58 : caseJ kn58 ky58 = tru := by kernel_rfl
theorem case66 : caseJ kn66 ky66 = tru := by kernel_rfl
theorem case74 : caseJ kn74 ky74 = tru := by kernel_rfl
theorem case82 : caseJ kn82 ky82 = tru := by kernel_rfl
theorem case90 : caseJ kn90 ky90 = tru := by kernel_rfl
end Go.Proofs.YtekonojimffbhaaGreatDoor
