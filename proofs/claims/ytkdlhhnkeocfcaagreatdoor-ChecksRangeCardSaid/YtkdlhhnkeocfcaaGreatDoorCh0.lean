/-
  What the functions that the row's function leads to name (text 1 of 2); no condition.
-/
import Derived.Test.YtkdlhhnkeocfcaaGreatDoorLc
set_option linter.unusedVariables false
set_option linter.unusedSimpArgs false
namespace Go.Proofs.YtkdlhhnkeocfcaaGreatDoor
open Go Go.Abs
set_option maxRecDepth 100000
set_option maxHeartbeats 0
theorem ip0 : CL0.filterMap (inPlaceF Tryz.prog) = ["internal/bytealg.IndexByteString", "internal/bytealg.IndexString", "internal/abi.NoEscape", "internal/bytealg.MakeNoZero", "internal/bytealg.CountString"] := by kernel_rfl
theorem gl0 : CL0.flatMap (globalsF Tryz.prog) = [0, 0, 0, 0, 1, 3, 4, 2, 2, 2, 8, 9, 11, 12, 13, 5] := by kernel_rfl
theorem rd0 : CL0.filterMap (readsF Tryz.prog) = ["internal/bytealg.MaxLen"] := by kernel_rfl
theorem ip1 : CL1.filterMap (inPlaceF Tryz.prog) = [] := by kernel_rfl
theorem gl1 : CL1.flatMap (globalsF Tryz.prog) = [6] := by kernel_rfl
theorem rd1 : CL1.filterMap (readsF Tryz.prog) = [] := by kernel_rfl
end Go.Proofs.YtkdlhhnkeocfcaaGreatDoor
