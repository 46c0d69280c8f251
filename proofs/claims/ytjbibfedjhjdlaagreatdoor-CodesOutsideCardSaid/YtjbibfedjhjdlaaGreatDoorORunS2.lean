/-
  Closed runs by the kernel: what the kept calls leave; lives() gives true; no condition.
-/
import Derived.Test.YtjbibfedjhjdlaaGreatDoorOTabs
set_option linter.unusedVariables false
set_option linter.unusedSimpArgs false
namespace Go.Proofs.YtjbibfedjhjdlaaGreatDoor
open Go Go.Abs
set_option maxRecDepth 100000
set_option maxHeartbeats 0
theorem run7_ck0_run : run7_ck0 = tru := by kernel_rfl
theorem run7_ck1_run : run7_ck1 = tru := by kernel_rfl
theorem run7_ck2_run : run7_ck2 = tru := by kernel_rfl
theorem run7_ck3_run : run7_ck3 = tru := by kernel_rfl
theorem run7_ck4_run : run7_ck4 = tru := by kernel_rfl
end Go.Proofs.YtjbibfedjhjdlaaGreatDoor
