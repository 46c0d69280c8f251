/-
  Closed runs by the kernel; no condition.
-/
import Derived.Test.YtkghfmfciekbdaaGreatDoorTabs
set_option linter.unusedVariables false
set_option linter.unusedSimpArgs false
namespace Go.Proofs.YtkghfmfciekbdaaGreatDoor
open Go Go.Abs
set_option maxRecDepth 100000
set_option maxHeartbeats 0
theorem round0 : roundsK 0 = tru := by kernel_rfl
theorem round4 : roundsK 4 = tru := by kernel_rfl
end Go.Proofs.YtkghfmfciekbdaaGreatDoor
