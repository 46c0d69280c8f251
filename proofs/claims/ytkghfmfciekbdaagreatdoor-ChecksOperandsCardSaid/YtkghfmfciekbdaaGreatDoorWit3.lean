/-
  A closed fact of the witness: a world in which the listed variables lie as the row lists them (text 3); no condition.
-/
import Derived.Test.YtkghfmfciekbdaaGreatDoorWit2
import Derived.Test.YtkghfmfciekbdaaGreatDoorRows
import Derived.Test.YtkghfmfciekbdaaGreatDoorClos
import Derived.Test.YtkghfmfciekbdaaGreatDoorProg
import Derived.Clock
import Derived.LaidMore
import Derived.Lay
import Derived.KernelRfl
set_option linter.unusedVariables false
set_option linter.unusedSimpArgs false
namespace Go.Proofs.YtkghfmfciekbdaaGreatDoor
open Go Go.Abs
set_option maxRecDepth 100000
set_option maxHeartbeats 0
theorem lay_fits : ∀ os : Os, (World.holding Tryz.prog os ⟨#[], #[], []⟩).layFits Tryz.prog Rows.checksOperandsRow.laid [] = true := fun os => by
  refine layFits_of (layed os) ?_
  unfold World.holding World.settled begin
  rw [waiting_eq]
  kernel_rfl
theorem lay_ifaces : ∀ os : Os, (World.holding Tryz.prog os ⟨#[], #[], []⟩).layIfaces Tryz.prog Rows.checksOperandsRow.laid (World.laidAll Tryz.prog os Rows.checksOperandsRow.laid) = true := fun os => by
  refine layIfaces_of (layed os) ?_
  unfold World.laidAll
  rw [layVars_of (layed os)]
  unfold World.holding World.settled begin
  rw [waiting_eq]
  kernel_rfl
theorem lay_shaped1 : ∀ os : Os, ((World.laidAll Tryz.prog os Rows.checksOperandsRow.laid).forCall (fun _ _ => 0) ⟨#[], #[.slice none 0 0, .int .u8 0], []⟩).variablesZipB Tryz.prog = true := fun os => by
  unfold World.laidAll
  rw [layVars_of (layed os)]
  unfold World.variablesZipB World.holding World.settled begin
  rw [waiting_eq]
  kernel_rfl
theorem lay_shaped2 : ∀ os : Os, (((World.laidAll Tryz.prog os Rows.checksOperandsRow.laid).forCall (fun _ _ => 0) ⟨#[], #[.slice none 0 0, .int .u8 0], []⟩).heap.toList.drop Tryz.prog.globals.size).take ((begin Tryz.prog (fun _ _ => 0) default).world.heap.size - Tryz.prog.globals.size) = (begin Tryz.prog (fun _ _ => 0) default).world.heap.toList.drop Tryz.prog.globals.size := fun os => by
  unfold World.laidAll
  rw [layVars_of (layed os)]
  unfold World.holding World.settled begin
  rw [waiting_eq]
  kernel_rfl
end Go.Proofs.YtkghfmfciekbdaaGreatDoor
