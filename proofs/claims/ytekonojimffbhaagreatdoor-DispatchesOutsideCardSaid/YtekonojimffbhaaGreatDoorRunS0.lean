/-
  Closed runs by the kernel: what the kept calls leave; lives() gives true; no condition.
-/
import Derived.Test.YtekonojimffbhaaGreatDoorTabs
set_option linter.unusedVariables false
set_option linter.unusedSimpArgs false
namespace Go.Proofs.YtekonojimffbhaaGreatDoor
open Go Go.Abs
set_option maxRecDepth 100000
set_option maxHeartbeats 0
theorem run5_bld_run : run5_bld = tru := by kernel_rfl
end Go.Proofs.YtekonojimffbhaaGreatDoor
