/-
  Closed runs by the kernel: words.table() gives its table; what the call of build leaves for the statement's own program; no condition.
-/
import Derived.Test.YtgadddljaneilaaGreatDoorITabs
set_option linter.unusedVariables false
set_option linter.unusedSimpArgs false
namespace Go.Proofs.YtgadddljaneilaaGreatDoor
open Go Go.Abs
set_option maxRecDepth 100000
set_option maxHeartbeats 0
theorem words_run : runW = tru := by kernel_rfl
theorem build0_run : run2_ib0 = tru := by kernel_rfl
theorem build1_run : run2_ib1 = tru := by kernel_rfl
end Go.Proofs.YtgadddljaneilaaGreatDoor
