/-
  A closed fact of the row; no condition.
-/
import Derived.Test.YtkghfmfciekbdaaGreatDoorClos
import Derived.Test.YtkghfmfciekbdaaGreatDoorProg
import Derived.Clock
import Derived.ProofKit
import Derived.JoinedOf
import Derived.KernelRfl
set_option linter.unusedVariables false
set_option linter.unusedSimpArgs false
namespace Go.Proofs.YtkghfmfciekbdaaGreatDoor
open Go Go.Abs
set_option maxRecDepth 100000
set_option maxHeartbeats 0
theorem types_size : Tryz.prog.types.size = 602 := by kernel_rfl
theorem rowsFine : (List.range 602).all (rowFine Tryz.prog) = true := by
  refine range_all_zero (range_all_cut (k := 121) (n := 481) ?_ (range_all_cut (k := 121) (n := 360) ?_ (range_all_cut (k := 121) (n := 239) ?_ (range_all_cut (k := 121) (n := 118) ?_ ?_ rfl) rfl) rfl) rfl)
  all_goals as_aux_lemma => kernel_rfl
theorem laidOut_eq : laidOutB Tryz.prog = true := by
  unfold laidOutB
  rw [types_size, rowsFine, Bool.true_and, Bool.and_eq_true]
  refine ⟨?_, ?_⟩
  all_goals as_aux_lemma => kernel_rfl
end Go.Proofs.YtkghfmfciekbdaaGreatDoor
