/-
  A closed fact of the tie of the card; no condition.
-/
import Derived.Test.YtkghfmfciekbdaaGreatDoorTa
import Derived.KernelRfl
import Derived.Test.YtkghfmfciekbdaaGreatDoorTl
import Derived.Test.YtkghfmfciekbdaaGreatDoorTm
set_option linter.unusedVariables false
set_option linter.unusedSimpArgs false
namespace Go.Proofs.YtkghfmfciekbdaaGreatDoor
open Go
set_option maxRecDepth 100000
set_option maxHeartbeats 0
theorem checksOperands_row_tie : Rows.checksOperandsRow.laidByTextAt .later Tryz.pinned [.data, .data, .data, .data, .sentinel, .sentinel, .listed, .data, .data, .widerDeep, .data, .data, .pinned] true :=
  OpenClaim.laidByTextAt_pinned rfl rfl tie rfl rfl rfl rfl (fun y hy _e => by
    simp only [Rows.checksOperandsRow, List.zip_cons_cons, List.zip_nil_right, List.mem_cons, List.mem_nil_iff, or_false] at hy
    rcases hy with rfl | rfl | rfl | rfl | rfl | rfl | rfl | rfl | rfl | rfl | rfl | rfl | rfl
    · cases _e
    · cases _e
    · cases _e
    · cases _e
    · cases _e
    · cases _e
    · cases _e
    · cases _e
    · cases _e
    · cases _e
    · cases _e
    · cases _e
    · exact ⟨pin_laid_unicode_utf8_first, by kernel_rfl⟩) fits1

end Go.Proofs.YtkghfmfciekbdaaGreatDoor
