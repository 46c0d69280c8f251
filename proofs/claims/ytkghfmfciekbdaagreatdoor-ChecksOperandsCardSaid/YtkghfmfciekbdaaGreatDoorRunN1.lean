/-
  Closed runs by the kernel; no condition.
-/
import Derived.Test.YtkghfmfciekbdaaGreatDoorTabs
set_option linter.unusedVariables false
set_option linter.unusedSimpArgs false
namespace Go.Proofs.YtkghfmfciekbdaaGreatDoor
open Go Go.Abs
set_option maxRecDepth 100000
set_option maxHeartbeats 0
theorem nil5 : runNil 5 = tru := by kernel_rfl
theorem nil6 : runNil 6 = tru := by kernel_rfl
theorem nil7 : runNil 7 = tru := by kernel_rfl
theorem nil8 : runNil 8 = tru := by kernel_rfl
theorem nil9 : runNil 9 = tru := by kernel_rfl
end Go.Proofs.YtkghfmfciekbdaaGreatDoor
