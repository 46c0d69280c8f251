/-
  A closed fact of the witness: a world in which the listed variables lie as the row lists them (text 1); no condition.
-/
import Derived.Test.YtkdlhhnkeocfcaaGreatDoorClos
import Derived.Test.YtkdlhhnkeocfcaaGreatDoorProg
import Derived.Clock
import Derived.LaidMore
import Derived.Lay
import Derived.KernelRfl
set_option linter.unusedVariables false
set_option linter.unusedSimpArgs false
namespace Go.Proofs.YtkdlhhnkeocfcaaGreatDoor
open Go Go.Abs
set_option maxRecDepth 100000
set_option maxHeartbeats 0
theorem ready_none : Tryz.prog.funcs.toList.flatMap (fun f => (f.body.map readies).getD []) = [] := by kernel_rfl
theorem globs : Tryz.prog.globals.size = 15 := by kernel_rfl
theorem waiting_eq : waiting Tryz.prog = Array.replicate 15 false := by rw [waiting_of ready_none rfl, globs]
theorem hold_size : ∀ os : Os, (World.holding Tryz.prog os ⟨#[], #[], []⟩).heap.size = 20 := fun os => by
  unfold World.holding World.settled begin
  rw [waiting_eq]
  kernel_rfl
end Go.Proofs.YtkdlhhnkeocfcaaGreatDoor
