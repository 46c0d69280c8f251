/-
  Closed runs by the kernel: MachinesOutside gives true at every verb of some ranges, every stage, the Outside answering true; no condition.
-/
import Derived.Test.YtgadddljaneilaaGreatDoorMTabs
set_option linter.unusedVariables false
set_option linter.unusedSimpArgs false
namespace Go.Proofs.YtgadddljaneilaaGreatDoor
open Go Go.Abs
set_option maxRecDepth 100000
set_option maxHeartbeats 0
theorem run_T0 : caseV true verbs0 = tru := by kernel_rfl
theorem run_T2 : caseV true verbs2 = tru := by kernel_rfl
theorem run_T4 : caseV true verbs4 = tru := by kernel_rfl
end Go.Proofs.YtgadddljaneilaaGreatDoor
