/-
  What the functions that the row's function leads to name (text 2 of 2); no condition.
-/
import Derived.Test.YtkdlhhnkeocfcaaGreatDoorLc
set_option linter.unusedVariables false
set_option linter.unusedSimpArgs false
namespace Go.Proofs.YtkdlhhnkeocfcaaGreatDoor
open Go Go.Abs
set_option maxRecDepth 100000
set_option maxHeartbeats 0
theorem ip2 : CL2.filterMap (inPlaceF Tryz.prog) = [] := by kernel_rfl
theorem gl2 : CL2.flatMap (globalsF Tryz.prog) = [7, 10] := by kernel_rfl
theorem rd2 : CL2.filterMap (readsF Tryz.prog) = [] := by kernel_rfl
end Go.Proofs.YtkdlhhnkeocfcaaGreatDoor
