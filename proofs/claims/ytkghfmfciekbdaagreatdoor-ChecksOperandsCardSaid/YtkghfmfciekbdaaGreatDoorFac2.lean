/-
  The row's closed facts, but for what goes over the functions that it leads to (Cf) and over all types; no condition.
-/
import Derived.Test.YtkghfmfciekbdaaGreatDoorClos
import Derived.Test.YtkghfmfciekbdaaGreatDoorProg
import Derived.Clock
import Derived.ProofKit
import Derived.JoinedOf
import Derived.KernelRfl
import Derived.Test.YtkghfmfciekbdaaGreatDoorRows
import Derived.Test.YtkghfmfciekbdaaGreatDoorCf
import Derived.Test.YtkghfmfciekbdaaGreatDoorFq1
import Derived.Test.YtkghfmfciekbdaaGreatDoorFq2
import Derived.Test.YtkghfmfciekbdaaGreatDoorFq3
import Derived.Test.YtkghfmfciekbdaaGreatDoorFq4
set_option linter.unusedVariables false
set_option linter.unusedSimpArgs false
namespace Go.Proofs.YtkghfmfciekbdaaGreatDoor
open Go
set_option maxRecDepth 100000
set_option maxHeartbeats 0
theorem fac_closed : joinedFacts Tryz.pinned.checked.prog 3 Tryz.f3 Rows.checksOperandsSpec Rows.checksOperandsRow = true := by
  unfold joinedFacts
  rw [show Tryz.pinned.checked.prog = Tryz.prog from rfl, inPlace_eq, unfollowed_eq, recurses_eq, varsNamed_eq, laidOut_eq, mapsRowed_eq, plainKeys_eq, stopsHeard_eq, mayEnter_eq]
  simp only [Bool.and_eq_true]
  and_intros <;> first | exact True.intro | (as_aux_lemma => kernel_rfl)
end Go.Proofs.YtkghfmfciekbdaaGreatDoor
