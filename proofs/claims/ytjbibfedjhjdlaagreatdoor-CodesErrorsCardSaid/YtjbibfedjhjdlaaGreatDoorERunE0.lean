/-
  Closed runs by the kernel: CodesErrors gives true, for kinds of proofs; no condition.
-/
import Derived.Test.YtjbibfedjhjdlaaGreatDoorETabs
set_option linter.unusedVariables false
set_option linter.unusedSimpArgs false
namespace Go.Proofs.YtjbibfedjhjdlaaGreatDoor
open Go Go.Abs
set_option maxRecDepth 100000
set_option maxHeartbeats 0
theorem cN_run : runE [] .nils = tru := by kernel_rfl
theorem cL2_run : runE (rulesLen 2) (.sym .u8 1000) = tru := by kernel_rfl
theorem cL5_run : runE (rulesLen 5) (.sym .u8 1000) = tru := by kernel_rfl
theorem cC_run : runE rulesC (.sym .u8 1000) = tru := by kernel_rfl
end Go.Proofs.YtjbibfedjhjdlaaGreatDoor
