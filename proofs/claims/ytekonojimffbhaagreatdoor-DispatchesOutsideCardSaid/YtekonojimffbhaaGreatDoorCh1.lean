/-
  What the functions that the row's function leads to name (text 2 of 2); no condition.
-/
import Derived.Test.YtekonojimffbhaaGreatDoorLc
set_option linter.unusedVariables false
set_option linter.unusedSimpArgs false
namespace Go.Proofs.YtekonojimffbhaaGreatDoor
open Go Go.Abs
set_option maxRecDepth 100000
set_option maxHeartbeats 0
theorem ip3 : CL3.filterMap (inPlaceF Tryz.prog) = ["internal/bytealg.IndexByte", "internal/bytealg.Index"] := by kernel_rfl
theorem gl3 : CL3.flatMap (globalsF Tryz.prog) = [2] := by kernel_rfl
theorem rd3 : CL3.filterMap (readsF Tryz.prog) = ["internal/bytealg.MaxLen"] := by kernel_rfl
theorem ip4 : CL4.filterMap (inPlaceF Tryz.prog) = [] := by kernel_rfl
theorem gl4 : CL4.flatMap (globalsF Tryz.prog) = [] := by kernel_rfl
theorem rd4 : CL4.filterMap (readsF Tryz.prog) = [] := by kernel_rfl
end Go.Proofs.YtekonojimffbhaaGreatDoor
