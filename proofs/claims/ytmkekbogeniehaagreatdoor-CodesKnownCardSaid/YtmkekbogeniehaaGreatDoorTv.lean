/-
  A closed fact of the tie of the card; no condition.
-/
import Derived.Test.YtmkekbogeniehaaGreatDoorProg
import Derived.LaidByTextLater
import Derived.SevenTiedAt
import Derived.KernelRfl
set_option linter.unusedVariables false
set_option linter.unusedSimpArgs false
namespace Go.Proofs.YtmkekbogeniehaaGreatDoor
open Go
set_option maxRecDepth 100000
set_option maxHeartbeats 0
theorem tie_v : varsId Tryz.prog = 875 := by kernel_rfl
end Go.Proofs.YtmkekbogeniehaaGreatDoor
