/-
  The witness's closed facts (text 3 of 4): a world in which the listed variables lie as the row lists them; no condition.
-/
import Derived.Test.YtefnobgpfbcloaaGreatDoorRows
import Derived.Clock
import Derived.LaidMore
import Derived.Lay
set_option linter.unusedVariables false
set_option linter.unusedSimpArgs false
namespace Go.Proofs.YtefnobgpfbcloaaGreatDoor
open Go
set_option maxRecDepth 100000
theorem lay_shaped1 : ∀ os : Os, ((World.laidAll Tryz.prog os Rows.rangesOutsideRow.laid).forCall (fun _ _ => 0) ⟨#[], #[.int .u8 0, .int .u8 0], []⟩).variablesZipB Tryz.prog = true := fun os => by kernel_rfl
end Go.Proofs.YtefnobgpfbcloaaGreatDoor
