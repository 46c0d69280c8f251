/-
  A closed fact of the tie of RangesOutside's card (text b); no condition.
-/
import Derived.Test.YtefnobgpfbcloaaGreatDoorTa
namespace Go.Proofs.YtefnobgpfbcloaaGreatDoor
open Go
theorem tie_hw : Tryz.prog.worded (varsWordLater true) = true := by kernel_rfl
end Go.Proofs.YtefnobgpfbcloaaGreatDoor
