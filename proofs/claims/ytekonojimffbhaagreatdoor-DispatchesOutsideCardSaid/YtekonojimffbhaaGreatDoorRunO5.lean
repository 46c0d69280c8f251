/-
  Closed runs by the kernel: DispatchesOutside gives true, for classes of the numbers; no condition.
-/
import Derived.Test.YtekonojimffbhaaGreatDoorPack
set_option linter.unusedVariables false
set_option linter.unusedSimpArgs false
namespace Go.Proofs.YtekonojimffbhaaGreatDoor
open Go Go.Abs
set_option maxRecDepth 100000
set_option maxHeartbeats 0
theorem case5 : caseJ kn5 ky5 = tru := by kernel_rfl
theorem case13 : caseJ kn13 ky13 = tru := by kernel_rfl
theorem case21 : caseJ kn21 ky21 = tru := by kernel_rfl
theorem case29 : caseJ kn29 ky29 = tru := by kernel_rfl
theorem case37 : caseJ kn37 ky37 = tru := by kernel_rfl
theorem case45 : caseJ kn45 ky45 = tru := by kernel_rfl
theorem case53 : caseJ kn53 ky53 = tru := by kernel_rfl
theorem case61 : caseJ kn61 ky61 = tru := by kernel_rfl
theorem case69 : caseJ kn69 ky69 = tru := by kernel_rfl
theorem case77 : caseJ kn77 ky77 = tru := by kernel_rfl
theorem case85 : caseJ kn85 ky85 = tru := by kernel_rfl
theorem case93 : caseJ kn93 ky93 = tru := by kernel_rfl
end Go.Proofs.YtekonojimffbhaaGreatDoor
