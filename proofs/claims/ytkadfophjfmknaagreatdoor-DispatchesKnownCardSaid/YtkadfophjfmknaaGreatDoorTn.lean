/-
  A closed fact of the tie of the card; no condition.
-/
import Derived.Test.YtkadfophjfmknaaGreatDoorTa
import Derived.KernelRfl
import Derived.Test.YtkadfophjfmknaaGreatDoorTl
import Derived.Test.YtkadfophjfmknaaGreatDoorTm
set_option linter.unusedVariables false
set_option linter.unusedSimpArgs false
namespace Go.Proofs.YtkadfophjfmknaaGreatDoor
open Go
set_option maxRecDepth 100000
set_option maxHeartbeats 0
theorem dispatchesKnown_row_tie : Rows.dispatchesKnownRow.laidByTextAt .later Tryz.pinned [.data, .data, .data, .data, .sentinel, .sentinel, .listed, .data, .data, .widerDeep, .data, .data, .pinned] true :=
  OpenClaim.laidByTextAt_pinned rfl rfl tie rfl rfl rfl rfl (fun y hy _e => by
    simp only [Rows.dispatchesKnownRow, List.zip_cons_cons, List.zip_nil_right, List.mem_cons, List.mem_nil_iff, or_false] at hy
    rcases hy with rfl | rfl | rfl | rfl | rfl | rfl | rfl | rfl | rfl | rfl | rfl | rfl | rfl
    · cases _e
    · cases _e
    · cases _e
    · cases _e
    · cases _e
    · cases _e
    · cases _e
    · cases _e
    · cases _e
    · cases _e
    · cases _e
    · cases _e
    · exact ⟨pin_laid_unicode_utf8_first, by kernel_rfl⟩) fits1

end Go.Proofs.YtkadfophjfmknaaGreatDoor
