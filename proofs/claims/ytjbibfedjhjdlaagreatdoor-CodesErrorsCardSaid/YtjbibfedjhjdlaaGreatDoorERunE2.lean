/-
  Closed runs by the kernel: CodesErrors gives true, for kinds of proofs; no condition.
-/
import Derived.Test.YtjbibfedjhjdlaaGreatDoorETabs
set_option linter.unusedVariables false
set_option linter.unusedSimpArgs false
namespace Go.Proofs.YtjbibfedjhjdlaaGreatDoor
open Go Go.Abs
set_option maxRecDepth 100000
set_option maxHeartbeats 0
theorem cL0_run : runE (rulesLen 0) (.sym .u8 1000) = tru := by kernel_rfl
theorem cL4_run : runE (rulesLen 4) (.sym .u8 1000) = tru := by kernel_rfl
theorem cB_run : runE rulesB (.sym .u8 1000) = tru := by kernel_rfl
theorem cE_run : runE rulesE (.sym .u8 1000) = tru := by kernel_rfl
end Go.Proofs.YtjbibfedjhjdlaaGreatDoor
