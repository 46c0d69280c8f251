/-
  Closed runs by the kernel: MachinesOutside gives true at every verb of some ranges, every stage, the Outside answering false; no condition.
-/
import Derived.Test.YtgadddljaneilaaGreatDoorMTabs
set_option linter.unusedVariables false
set_option linter.unusedSimpArgs false
namespace Go.Proofs.YtgadddljaneilaaGreatDoor
open Go Go.Abs
set_option maxRecDepth 100000
set_option maxHeartbeats 0
theorem run_F0 : caseV false verbs0 = tru := by kernel_rfl
theorem run_F2 : caseV false verbs2 = tru := by kernel_rfl
theorem run_F4 : caseV false verbs4 = tru := by kernel_rfl
end Go.Proofs.YtgadddljaneilaaGreatDoor
