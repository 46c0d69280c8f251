/-
  A closed fact of the row; no condition.
-/
import Derived.Test.YtecdpkikjiaecaaGreatDoorClos
import Derived.Test.YtecdpkikjiaecaaGreatDoorProg
import Derived.Clock
import Derived.ProofKit
import Derived.JoinedOf
import Derived.KernelRfl
import Derived.Test.YtecdpkikjiaecaaGreatDoorFq1
set_option linter.unusedVariables false
set_option linter.unusedSimpArgs false
namespace Go.Proofs.YtecdpkikjiaecaaGreatDoor
open Go Go.Abs
set_option maxRecDepth 100000
set_option maxHeartbeats 0
theorem mapsRowed_eq : mapsRowed Tryz.prog = true := by
  unfold mapsRowed
  rw [types_size]
  refine range_all_zero (range_all_cut (k := 183) (n := 731) ?_ (range_all_cut (k := 183) (n := 548) ?_ (range_all_cut (k := 183) (n := 365) ?_ (range_all_cut (k := 183) (n := 182) ?_ ?_ rfl) rfl) rfl) rfl)
  all_goals as_aux_lemma => kernel_rfl
theorem plainKeys_eq : Tryz.prog.plainKeys = true := by
  unfold Program.plainKeys
  rw [types_size]
  refine range_all_zero (range_all_cut (k := 183) (n := 731) ?_ (range_all_cut (k := 183) (n := 548) ?_ (range_all_cut (k := 183) (n := 365) ?_ (range_all_cut (k := 183) (n := 182) ?_ ?_ rfl) rfl) rfl) rfl)
  all_goals as_aux_lemma => kernel_rfl
end Go.Proofs.YtecdpkikjiaecaaGreatDoor
