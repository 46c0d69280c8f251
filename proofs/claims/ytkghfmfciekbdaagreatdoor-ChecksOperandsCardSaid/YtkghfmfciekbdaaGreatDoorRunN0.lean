/-
  Closed runs by the kernel; no condition.
-/
import Derived.Test.YtkghfmfciekbdaaGreatDoorTabs
set_option linter.unusedVariables false
set_option linter.unusedSimpArgs false
namespace Go.Proofs.YtkghfmfciekbdaaGreatDoor
open Go Go.Abs
set_option maxRecDepth 100000
set_option maxHeartbeats 0
theorem nil0 : runNil 0 = tru := by kernel_rfl
theorem nil1 : runNil 1 = tru := by kernel_rfl
theorem nil2 : runNil 2 = tru := by kernel_rfl
theorem nil3 : runNil 3 = tru := by kernel_rfl
theorem nil4 : runNil 4 = tru := by kernel_rfl
end Go.Proofs.YtkghfmfciekbdaaGreatDoor
