/-
  The tie of the row of RangesOutside; no condition.
-/
import Derived.Test.YtefnobgpfbcloaaGreatDoorTl
import Derived.Test.YtefnobgpfbcloaaGreatDoorTm
namespace Go.Proofs.YtefnobgpfbcloaaGreatDoor
open Go
theorem rangesOutside_row_tie : Rows.rangesOutsideRow.laidByTextAt .later Tryz.pinned [.data, .listed, .pinned, .data, .data, .data, .data, .sentinel, .sentinel, .data, .data, .data] true :=
  OpenClaim.laidByTextAt_pinned rfl rfl tie rfl rfl rfl rfl (fun y hy _e => by
    simp only [Rows.rangesOutsideRow, List.zip_cons_cons, List.zip_nil_right, List.mem_cons, List.mem_nil_iff, or_false] at hy
    rcases hy with rfl | rfl | rfl | rfl | rfl | rfl | rfl | rfl | rfl | rfl | rfl | rfl
    · cases _e
    · cases _e
    · exact ⟨pin_laid_unicode_utf8_first, by kernel_rfl⟩
    · cases _e
    · cases _e
    · cases _e
    · cases _e
    · cases _e
    · cases _e
    · cases _e
    · cases _e
    · cases _e) fits1
end Go.Proofs.YtefnobgpfbcloaaGreatDoor
