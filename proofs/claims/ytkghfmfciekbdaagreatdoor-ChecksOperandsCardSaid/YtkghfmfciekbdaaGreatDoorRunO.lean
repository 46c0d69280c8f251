/-
  Closed runs by the kernel; no condition.
-/
import Derived.Test.YtkghfmfciekbdaaGreatDoorTabs
set_option linter.unusedVariables false
set_option linter.unusedSimpArgs false
namespace Go.Proofs.YtkghfmfciekbdaaGreatDoor
open Go Go.Abs
set_option maxRecDepth 100000
set_option maxHeartbeats 0
theorem opS_run : allB (fun k => allB (opS k) 9) 8 = tru := by kernel_rfl
theorem opT_run : allB (fun k => allB (opT k) 5) 4 = tru := by kernel_rfl
theorem opM_run : allB opM 4 = tru := by kernel_rfl
end Go.Proofs.YtkghfmfciekbdaaGreatDoor
