/-
  A closed run by the kernel: DispatchesErrors gives true where no paragraph is missing and the second number has the rest 1; no condition.
-/
import Derived.Test.YtecdpkikjiaecaaGreatDoorTabs
set_option linter.unusedVariables false
set_option linter.unusedSimpArgs false
namespace Go.Proofs.YtecdpkikjiaecaaGreatDoor
open Go Go.Abs
set_option maxRecDepth 100000
set_option maxHeartbeats 0
theorem run_z1 : caseZ 1 = tru := by kernel_rfl
end Go.Proofs.YtecdpkikjiaecaaGreatDoor
