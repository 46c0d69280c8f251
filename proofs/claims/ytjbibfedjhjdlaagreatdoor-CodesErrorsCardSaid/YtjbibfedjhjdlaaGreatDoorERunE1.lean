/-
  Closed runs by the kernel: CodesErrors gives true, for kinds of proofs; no condition.
-/
import Derived.Test.YtjbibfedjhjdlaaGreatDoorETabs
set_option linter.unusedVariables false
set_option linter.unusedSimpArgs false
namespace Go.Proofs.YtjbibfedjhjdlaaGreatDoor
open Go Go.Abs
set_option maxRecDepth 100000
set_option maxHeartbeats 0
theorem cBig_run : runE rulesBig (.sym .u8 1000) = tru := by kernel_rfl
theorem cL3_run : runE (rulesLen 3) (.sym .u8 1000) = tru := by kernel_rfl
theorem cA_run : runE rulesA (.sym .u8 1000) = tru := by kernel_rfl
theorem cD_run : runE rulesD (.sym .u8 1000) = tru := by kernel_rfl
end Go.Proofs.YtjbibfedjhjdlaaGreatDoor
