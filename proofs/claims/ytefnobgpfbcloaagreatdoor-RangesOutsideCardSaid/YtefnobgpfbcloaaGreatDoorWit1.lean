/-
  The witness's closed facts (text 1 of 4): a world in which the listed variables lie as the row lists them; no condition.
-/
import Derived.Test.YtefnobgpfbcloaaGreatDoorRows
import Derived.Clock
import Derived.LaidMore
import Derived.Lay
set_option linter.unusedVariables false
set_option linter.unusedSimpArgs false

namespace Go.Proofs.YtefnobgpfbcloaaGreatDoor
open Go
set_option maxRecDepth 100000
theorem lay_fits : ∀ os : Os, (World.holding Tryz.prog os ⟨#[], #[], []⟩).layFits Tryz.prog Rows.rangesOutsideRow.laid [] = true := fun os => by kernel_rfl
end Go.Proofs.YtefnobgpfbcloaaGreatDoor
