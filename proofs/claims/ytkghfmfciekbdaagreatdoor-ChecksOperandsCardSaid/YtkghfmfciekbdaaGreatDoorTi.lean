/-
  A closed fact of the tie of the card; no condition.
-/
import Derived.Test.YtkghfmfciekbdaaGreatDoorTa
import Derived.KernelRfl
set_option linter.unusedVariables false
set_option linter.unusedSimpArgs false
namespace Go.Proofs.YtkghfmfciekbdaaGreatDoor
open Go
set_option maxRecDepth 100000
set_option maxHeartbeats 0
theorem tie_h1K : ∀ os tape, (DataW.laidRun Tryz.prog (varsWorld Tryz.prog 400 515 os tape).memory 8 (tieLaid.map (·.1))).map (·.1) = some tieLaid := fun _ _ => by kernel_rfl
end Go.Proofs.YtkghfmfciekbdaaGreatDoor
