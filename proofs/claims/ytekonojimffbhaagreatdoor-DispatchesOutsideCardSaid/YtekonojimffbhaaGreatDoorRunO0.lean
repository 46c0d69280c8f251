/-
  Closed runs by the kernel: DispatchesOutside gives true, for classes of the numbers; no condition.
-/
import Derived.Test.YtekonojimffbhaaGreatDoorPack
set_option linter.unusedVariables false
set_option linter.unusedSimpArgs false
namespace Go.Proofs.YtekonojimffbhaaGreatDoor
open Go Go.Abs
set_option maxRecDepth 100000
set_option maxHeartbeats 0
theorem case0 : caseJ kn0 ky0 = tru := by kernel_rfl
theorem case8 : caseJ kn8 ky8 = tru := by kernel_rfl
theorem case16 : caseJ kn16 ky16 = tru := by kernel_rfl
theorem case24 : caseJ kn24 ky24 = tru := by kernel_rfl
theorem case32 : caseJ kn32 ky32 = tru := by kernel_rfl
theorem case40 : caseJ kn40 ky40 = tru := by kernel_rfl
theorem case48 : caseJ kn48 ky48 = tru := by kernel_rfl
theorem case56 : caseJ kn56 ky56 = tru := by kernel_rfl
theorem case64 : caseJ kn64 ky64 = tru := by kernel_rfl
theorem case72 : caseJ kn72 ky72 = tru := by kernel_rfl
theorem case80 : caseJ kn80 ky80 = tru := by kernel_rfl
theorem case88 : caseJ kn88 ky88 = tru := by kernel_rfl
end Go.Proofs.YtekonojimffbhaaGreatDoor
