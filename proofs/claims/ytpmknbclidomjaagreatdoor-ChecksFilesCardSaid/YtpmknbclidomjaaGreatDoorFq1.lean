/-
  A closed fact of the row; no condition.
-/
import Derived.Test.YtpmknbclidomjaaGreatDoorClos
import Derived.Test.YtpmknbclidomjaaGreatDoorProg
import Derived.Clock
import Derived.ProofKit
import Derived.JoinedOf
import Derived.KernelRfl
set_option linter.unusedVariables false
set_option linter.unusedSimpArgs false
namespace Go.Proofs.YtpmknbclidomjaaGreatDoor
open Go Go.Abs
set_option maxRecDepth 100000
set_option maxHeartbeats 0
theorem types_size : Tryz.prog.types.size = 594 := by kernel_rfl
theorem rowsFine : (List.range 594).all (rowFine Tryz.prog) = true := by
  refine range_all_zero (range_all_cut (k := 119) (n := 475) ?_ (range_all_cut (k := 119) (n := 356) ?_ (range_all_cut (k := 119) (n := 237) ?_ (range_all_cut (k := 119) (n := 118) ?_ ?_ rfl) rfl) rfl) rfl)
  all_goals as_aux_lemma => kernel_rfl
theorem laidOut_eq : laidOutB Tryz.prog = true := by
  unfold laidOutB
  rw [types_size, rowsFine, Bool.true_and, Bool.and_eq_true]
  refine ⟨?_, ?_⟩
  all_goals as_aux_lemma => kernel_rfl
end Go.Proofs.YtpmknbclidomjaaGreatDoor
namespace Go.Proofs.YtpmknbclidomjaaGreatDoor
open Go Go.Abs
set_option maxRecDepth 100000
set_option maxHeartbeats 0
theorem mapsRowed_eq : mapsRowed Tryz.prog = true := by
  unfold mapsRowed
  rw [types_size]
  refine range_all_zero (range_all_cut (k := 119) (n := 475) ?_ (range_all_cut (k := 119) (n := 356) ?_ (range_all_cut (k := 119) (n := 237) ?_ (range_all_cut (k := 119) (n := 118) ?_ ?_ rfl) rfl) rfl) rfl)
  all_goals as_aux_lemma => kernel_rfl
theorem plainKeys_eq : Tryz.prog.plainKeys = true := by
  unfold Program.plainKeys
  rw [types_size]
  refine range_all_zero (range_all_cut (k := 119) (n := 475) ?_ (range_all_cut (k := 119) (n := 356) ?_ (range_all_cut (k := 119) (n := 237) ?_ (range_all_cut (k := 119) (n := 118) ?_ ?_ rfl) rfl) rfl) rfl)
  all_goals as_aux_lemma => kernel_rfl
end Go.Proofs.YtpmknbclidomjaaGreatDoor
