/-
  What the functions that the row's function leads to name (text 2 of 2); no condition.
-/
import Derived.Test.YtgadddljaneilaaGreatDoorILc
set_option linter.unusedVariables false
set_option linter.unusedSimpArgs false
namespace Go.Proofs.YtgadddljaneilaaGreatDoor
open Go Go.Abs
set_option maxRecDepth 100000
set_option maxHeartbeats 0
theorem ip2 : CL2.filterMap (inPlaceF Tryz.prog) = [Tryz.f663.name] := by kernel_rfl
theorem gl2 : CL2.flatMap (globalsF Tryz.prog) = [3, 7] := by kernel_rfl
theorem rd2 : CL2.filterMap (readsF Tryz.prog) = [] := by kernel_rfl
theorem ip3 : CL3.filterMap (inPlaceF Tryz.prog) = ["internal/bytealg.IndexByte", "internal/bytealg.Index"] := by kernel_rfl
theorem gl3 : CL3.flatMap (globalsF Tryz.prog) = [2] := by kernel_rfl
theorem rd3 : CL3.filterMap (readsF Tryz.prog) = ["internal/bytealg.MaxLen"] := by kernel_rfl
end Go.Proofs.YtgadddljaneilaaGreatDoor
