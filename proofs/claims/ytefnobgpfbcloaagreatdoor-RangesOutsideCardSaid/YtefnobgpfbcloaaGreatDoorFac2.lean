/-
  The row's closed facts (text 2 of 4); no condition.
-/
import Derived.Test.YtefnobgpfbcloaaGreatDoorRows
import Derived.Clock
import Derived.ProofKit
set_option linter.unusedVariables false
set_option linter.unusedSimpArgs false
namespace Go.Proofs.YtefnobgpfbcloaaGreatDoor
open Go
set_option maxRecDepth 100000
set_option maxHeartbeats 0
theorem fac_closed : joinedFacts Tryz.pinned.checked.prog 3 Tryz.f3 Rows.rangesOutsideSpec Rows.rangesOutsideRow = true := by
  unfold joinedFacts
  simp only [Bool.and_eq_true]
  and_intros <;> as_aux_lemma => kernel_rfl
end Go.Proofs.YtefnobgpfbcloaaGreatDoor
