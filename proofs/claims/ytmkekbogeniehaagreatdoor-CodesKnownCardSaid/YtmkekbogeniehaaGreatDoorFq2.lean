/-
  A closed fact of the row; no condition.
-/
import Derived.Test.YtmkekbogeniehaaGreatDoorClos
import Derived.Test.YtmkekbogeniehaaGreatDoorProg
import Derived.Clock
import Derived.ProofKit
import Derived.JoinedOf
import Derived.KernelRfl
import Derived.Test.YtmkekbogeniehaaGreatDoorFq1
set_option linter.unusedVariables false
set_option linter.unusedSimpArgs false
namespace Go.Proofs.YtmkekbogeniehaaGreatDoor
open Go Go.Abs
set_option maxRecDepth 100000
set_option maxHeartbeats 0
theorem mapsRowed_eq : mapsRowed Tryz.prog = true := by
  unfold mapsRowed
  rw [types_size]
  refine range_all_zero (range_all_cut (k := 199) (n := 796) ?_ (range_all_cut (k := 199) (n := 597) ?_ (range_all_cut (k := 199) (n := 398) ?_ (range_all_cut (k := 199) (n := 199) ?_ ?_ rfl) rfl) rfl) rfl)
  all_goals as_aux_lemma => kernel_rfl
theorem plainKeys_eq : Tryz.prog.plainKeys = true := by
  unfold Program.plainKeys
  rw [types_size]
  refine range_all_zero (range_all_cut (k := 199) (n := 796) ?_ (range_all_cut (k := 199) (n := 597) ?_ (range_all_cut (k := 199) (n := 398) ?_ (range_all_cut (k := 199) (n := 199) ?_ ?_ rfl) rfl) rfl) rfl)
  all_goals as_aux_lemma => kernel_rfl
end Go.Proofs.YtmkekbogeniehaaGreatDoor
