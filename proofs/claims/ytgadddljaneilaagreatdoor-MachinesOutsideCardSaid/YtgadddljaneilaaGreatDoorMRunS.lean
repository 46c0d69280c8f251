/-
  Two closed runs by the kernel: what the two calls of State leave; no condition.
-/
import Derived.Test.YtgadddljaneilaaGreatDoorMTabs
set_option linter.unusedVariables false
set_option linter.unusedSimpArgs false
namespace Go.Proofs.YtgadddljaneilaaGreatDoor
open Go Go.Abs
set_option maxRecDepth 100000
set_option maxHeartbeats 0
theorem state1_run : run3_mm1 = tru := by kernel_rfl
theorem state2_run : run3_mm2 = tru := by kernel_rfl
end Go.Proofs.YtgadddljaneilaaGreatDoor
