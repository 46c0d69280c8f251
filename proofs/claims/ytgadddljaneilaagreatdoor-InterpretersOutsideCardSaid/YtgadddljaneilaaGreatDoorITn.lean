/-
  A closed fact of the tie of the card; no condition.
-/
import Derived.Test.YtgadddljaneilaaGreatDoorITa
import Derived.KernelRfl
import Derived.Test.YtgadddljaneilaaGreatDoorITl
import Derived.Test.YtgadddljaneilaaGreatDoorITm
set_option linter.unusedVariables false
set_option linter.unusedSimpArgs false
namespace Go.Proofs.YtgadddljaneilaaGreatDoor
open Go
set_option maxRecDepth 100000
set_option maxHeartbeats 0
theorem interpretersOutside_row_tie : Rows.interpretersOutsideRow.laidByTextAt .later Tryz.pinned [.data, .data, .data, .data, .listed, .pinned, .data, .sentinel, .sentinel, .data, .data, .data] true :=
  OpenClaim.laidByTextAt_pinned rfl rfl tie rfl rfl rfl rfl (fun y hy _e => by
    simp only [Rows.interpretersOutsideRow, List.zip_cons_cons, List.zip_nil_right, List.mem_cons, List.mem_nil_iff, or_false] at hy
    rcases hy with rfl | rfl | rfl | rfl | rfl | rfl | rfl | rfl | rfl | rfl | rfl | rfl
    · cases _e
    · cases _e
    · cases _e
    · cases _e
    · cases _e
    · exact ⟨pin_laid_unicode_utf8_first, by kernel_rfl⟩
    · cases _e
    · cases _e
    · cases _e
    · cases _e
    · cases _e
    · cases _e) fits2

end Go.Proofs.YtgadddljaneilaaGreatDoor
