/-
  Closed runs by the kernel: what the kept calls leave; lives() gives true; no condition.
-/
import Derived.Test.YtjbibfedjhjdlaaGreatDoorOTabs
set_option linter.unusedVariables false
set_option linter.unusedSimpArgs false
namespace Go.Proofs.YtjbibfedjhjdlaaGreatDoor
open Go Go.Abs
set_option maxRecDepth 100000
set_option maxHeartbeats 0
theorem runW_run : runW = tru := by kernel_rfl
theorem run3_bld_run : run3_bld = tru := by kernel_rfl
theorem run4_prv_run : run4_prv = tru := by kernel_rfl
theorem run5_val_run : run5_val = tru := by kernel_rfl
end Go.Proofs.YtjbibfedjhjdlaaGreatDoor
