/-
  A closed fact of the tie of RangesOutside's card (text e); no condition.
-/
import Derived.Test.YtefnobgpfbcloaaGreatDoorTa
namespace Go.Proofs.YtefnobgpfbcloaaGreatDoor
open Go
theorem tie_hk : tieLaid.map (fun x => Tryz.prog.kindOfLater x.1) = tieKinds.map some := by kernel_rfl
end Go.Proofs.YtefnobgpfbcloaaGreatDoor
