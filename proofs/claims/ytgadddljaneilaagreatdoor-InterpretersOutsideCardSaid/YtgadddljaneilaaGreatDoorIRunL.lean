/-
  Closed runs by the kernel: what calls of build leave; lives() gives true; no condition.
-/
import Derived.Test.YtgadddljaneilaaGreatDoorITabsL
set_option linter.unusedVariables false
set_option linter.unusedSimpArgs false
namespace Go.Proofs.YtgadddljaneilaaGreatDoor
open Go Go.Abs
set_option maxRecDepth 100000
set_option maxHeartbeats 0
theorem build2_run : run2_ib2 = tru := by kernel_rfl
theorem build3_run : run2_ib3 = tru := by kernel_rfl
theorem build4_run : run3_ib4 = tru := by kernel_rfl
theorem lives_run : run3_trueL = tru := by kernel_rfl
end Go.Proofs.YtgadddljaneilaaGreatDoor
