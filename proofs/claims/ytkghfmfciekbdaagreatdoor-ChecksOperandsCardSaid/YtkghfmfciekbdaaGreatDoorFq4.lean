/-
  A closed fact of the row; no condition.
-/
import Derived.Test.YtkghfmfciekbdaaGreatDoorClos
import Derived.Test.YtkghfmfciekbdaaGreatDoorProg
import Derived.Clock
import Derived.ProofKit
import Derived.JoinedOf
import Derived.KernelRfl
set_option linter.unusedVariables false
set_option linter.unusedSimpArgs false
namespace Go.Proofs.YtkghfmfciekbdaaGreatDoor
open Go Go.Abs
set_option maxRecDepth 100000
set_option maxHeartbeats 0
theorem mayEnter_eq : Tryz.prog.mayEnter = true := by kernel_rfl
end Go.Proofs.YtkghfmfciekbdaaGreatDoor
