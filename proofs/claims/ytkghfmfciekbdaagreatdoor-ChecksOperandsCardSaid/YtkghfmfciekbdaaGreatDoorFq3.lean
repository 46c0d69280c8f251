/-
  A closed fact of the row; no condition.
-/
import Derived.Test.YtkghfmfciekbdaaGreatDoorClos
import Derived.Test.YtkghfmfciekbdaaGreatDoorProg
import Derived.Clock
import Derived.ProofKit
import Derived.JoinedOf
import Derived.KernelRfl
import Derived.SevenTiedAt
set_option linter.unusedVariables false
set_option linter.unusedSimpArgs false
namespace Go.Proofs.YtkghfmfciekbdaaGreatDoor
open Go Go.Abs
set_option maxRecDepth 100000
set_option maxHeartbeats 0
theorem stopsHeard_eq : Tryz.prog.stopsHeard = true := by kernel_rfl
theorem no_goes : Tryz.prog.funcs.any Func.goes = false := by kernel_rfl
end Go.Proofs.YtkghfmfciekbdaaGreatDoor
