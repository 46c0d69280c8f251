/-
  Closed runs by the kernel: what the kept calls leave; lives() gives true; no condition.
-/
import Derived.Test.YtjbibfedjhjdlaaGreatDoorOTabs
set_option linter.unusedVariables false
set_option linter.unusedSimpArgs false
namespace Go.Proofs.YtjbibfedjhjdlaaGreatDoor
open Go Go.Abs
set_option maxRecDepth 100000
set_option maxHeartbeats 0
theorem run2_true_run : run2_true = tru := by kernel_rfl
theorem run6_mac_run : run6_mac = tru := by kernel_rfl
theorem run6_mac2_run : run6_mac2 = tru := by kernel_rfl
end Go.Proofs.YtjbibfedjhjdlaaGreatDoor
