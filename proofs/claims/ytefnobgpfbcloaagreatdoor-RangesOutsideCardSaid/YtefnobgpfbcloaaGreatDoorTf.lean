/-
  A closed fact of the tie of RangesOutside's card (text f); no condition.
-/
import Derived.Test.YtefnobgpfbcloaaGreatDoorTa
namespace Go.Proofs.YtefnobgpfbcloaaGreatDoor
open Go
theorem tie_hg : (Tryz.prog.funcNamed "gosem.cut.vars").isSome = true := by kernel_rfl
end Go.Proofs.YtefnobgpfbcloaaGreatDoor
