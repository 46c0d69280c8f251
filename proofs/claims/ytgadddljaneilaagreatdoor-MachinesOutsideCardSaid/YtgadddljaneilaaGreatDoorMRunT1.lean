/-
  Closed runs by the kernel: MachinesOutside gives true at every verb of some ranges, every stage, the Outside answering true; no condition.
-/
import Derived.Test.YtgadddljaneilaaGreatDoorMTabs
set_option linter.unusedVariables false
set_option linter.unusedSimpArgs false
namespace Go.Proofs.YtgadddljaneilaaGreatDoor
open Go Go.Abs
set_option maxRecDepth 100000
set_option maxHeartbeats 0
theorem run_T1 : caseV true verbs1 = tru := by kernel_rfl
theorem run_T3 : caseV true verbs3 = tru := by kernel_rfl
theorem run_T5 : caseV true verbs5 = tru := by kernel_rfl
end Go.Proofs.YtgadddljaneilaaGreatDoor
