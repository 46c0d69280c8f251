/-
  The row's function by its name; no condition.
-/
import Derived.Test.YtkghfmfciekbdaaGreatDoorProg
import GoSem.Claims
import Derived.ProofKit
import Derived.KernelRfl
set_option linter.unusedVariables false
set_option linter.unusedSimpArgs false
namespace Go.Proofs.YtkghfmfciekbdaaGreatDoor
open Go
set_option maxRecDepth 100000
set_option maxHeartbeats 0
theorem fac_named0 : Tryz.prog.funcNamed "columnseven/columnsevenlaw24.ChecksOperands" = some 3 := by kernel_rfl
end Go.Proofs.YtkghfmfciekbdaaGreatDoor
