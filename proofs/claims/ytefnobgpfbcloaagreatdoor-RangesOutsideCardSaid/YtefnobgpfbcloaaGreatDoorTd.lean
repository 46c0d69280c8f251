/-
  A closed fact of the tie of RangesOutside's card (text d); no condition.
-/
import Derived.Test.YtefnobgpfbcloaaGreatDoorTa
namespace Go.Proofs.YtefnobgpfbcloaaGreatDoor
open Go
theorem tie_hroot : Tryz.prog.worded rootWordLater = true := by kernel_rfl
end Go.Proofs.YtefnobgpfbcloaaGreatDoor
