/-
  A closed fact of the witness: a world in which the listed variables lie as the row lists them (text 0); no condition.
-/
import Derived.Test.YtkghfmfciekbdaaGreatDoorClos
import Derived.Test.YtkghfmfciekbdaaGreatDoorProg
import Derived.Clock
import Derived.LaidMore
import Derived.Lay
import Derived.KernelRfl
set_option linter.unusedVariables false
set_option linter.unusedSimpArgs false
namespace Go.Proofs.YtkghfmfciekbdaaGreatDoor
open Go Go.Abs
set_option maxRecDepth 100000
set_option maxHeartbeats 0
theorem nn0_0 : ((List.range 300).all fun v => notNamed Tryz.prog "*errors.errorString" "errors.errorString" (0 + v)) = true := by kernel_rfl
theorem nn0_1 : ((List.range 260).all fun v => notNamed Tryz.prog "*errors.errorString" "errors.errorString" (300 + v)) = true := by kernel_rfl
theorem typ0 : (Tryz.prog.typeName? 3 560 == some "*errors.errorString") = true := by kernel_rfl
theorem find0 : (List.range Tryz.prog.types.size).find? (fun u => Tryz.prog.typeName? 3 u == some "*errors.errorString") = some 560 :=
  find_type (by rw [show Tryz.prog.types.size = 602 by kernel_rfl]; omega) typ0 fun v hv => notNamed_no (s := "*errors.errorString") (r := "errors.errorString") (by decide) (star_ne (by decide)) (by
    rcases Nat.lt_or_ge v 300 with h | h
    · have := List.all_eq_true.1 nn0_0 (v - 0) (List.mem_range.2 (by omega)); rwa [show 0 + (v - 0) = v by omega] at this
    · skip
      have := List.all_eq_true.1 nn0_1 (v - 300) (List.mem_range.2 (by omega)); rwa [show 300 + (v - 300) = v by omega] at this)
end Go.Proofs.YtkghfmfciekbdaaGreatDoor
namespace Go.Proofs.YtkghfmfciekbdaaGreatDoor
open Go Go.Abs
set_option maxRecDepth 100000
set_option maxHeartbeats 0
theorem ready_none : Tryz.prog.funcs.toList.flatMap (fun f => (f.body.map readies).getD []) = [] := by kernel_rfl
theorem globs : Tryz.prog.globals.size = 15 := by kernel_rfl
theorem waiting_eq : waiting Tryz.prog = Array.replicate 15 false := by rw [waiting_of ready_none rfl, globs]
theorem hold_size : ∀ os : Os, (World.holding Tryz.prog os ⟨#[], #[], []⟩).heap.size = 20 := fun os => by
  unfold World.holding World.settled begin
  rw [waiting_eq]
  kernel_rfl
end Go.Proofs.YtkghfmfciekbdaaGreatDoor
