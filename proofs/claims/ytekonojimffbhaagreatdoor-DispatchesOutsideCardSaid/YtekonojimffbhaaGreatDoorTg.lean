/-
  A closed fact of the tie of the card; no condition.
-/
import Derived.Test.YtekonojimffbhaaGreatDoorTa
import Derived.KernelRfl
set_option linter.unusedVariables false
set_option linter.unusedSimpArgs false
namespace Go.Proofs.YtekonojimffbhaaGreatDoor
open Go
set_option maxRecDepth 100000
set_option maxHeartbeats 0
theorem tie_hnK : varsNamedLaterB Tryz.prog 824 tieLaid = true := by kernel_rfl
end Go.Proofs.YtekonojimffbhaaGreatDoor
