/-
  A closed fact of the tie of the card; no condition.
-/
import Derived.Test.YtpmknbclidomjaaGreatDoorTa
import Derived.KernelRfl
import Derived.Test.YtpmknbclidomjaaGreatDoorTl
import Derived.Test.YtpmknbclidomjaaGreatDoorTm
set_option linter.unusedVariables false
set_option linter.unusedSimpArgs false
namespace Go.Proofs.YtpmknbclidomjaaGreatDoor
open Go
set_option maxRecDepth 100000
set_option maxHeartbeats 0
theorem checksFiles_row_tie : Rows.checksFilesRow.laidByTextAt .later Tryz.pinned [.data, .listed, .pinned, .data, .sentinel, .sentinel, .data, .data, .data, .data, .data, .data] true :=
  OpenClaim.laidByTextAt_pinned rfl rfl tie rfl rfl rfl rfl (fun y hy _e => by
    simp only [Rows.checksFilesRow, List.zip_cons_cons, List.zip_nil_right, List.mem_cons, List.mem_nil_iff, or_false] at hy
    rcases hy with rfl | rfl | rfl | rfl | rfl | rfl | rfl | rfl | rfl | rfl | rfl | rfl
    · cases _e
    · cases _e
    · exact ⟨pin_laid_unicode_utf8_first, by kernel_rfl⟩
    · cases _e
    · cases _e
    · cases _e
    · cases _e
    · cases _e
    · cases _e
    · cases _e
    · cases _e
    · cases _e) fits1

end Go.Proofs.YtpmknbclidomjaaGreatDoor
