/-
  The tie's last facts, joined; no condition.
-/
import Derived.Test.YtmkekbogeniehaaGreatDoorTa
import Derived.KernelRfl
import Derived.Test.YtmkekbogeniehaaGreatDoorTb
import Derived.Test.YtmkekbogeniehaaGreatDoorTc
import Derived.Test.YtmkekbogeniehaaGreatDoorTd
import Derived.Test.YtmkekbogeniehaaGreatDoorTe
import Derived.Test.YtmkekbogeniehaaGreatDoorTf
import Derived.Test.YtmkekbogeniehaaGreatDoorTg
import Derived.Test.YtmkekbogeniehaaGreatDoorTh
import Derived.Test.YtmkekbogeniehaaGreatDoorTi
import Derived.Test.YtmkekbogeniehaaGreatDoorTj
import Derived.Test.YtmkekbogeniehaaGreatDoorTk
import Derived.Test.YtmkekbogeniehaaGreatDoorTv
set_option linter.unusedVariables false
set_option linter.unusedSimpArgs false
namespace Go.Proofs.YtmkekbogeniehaaGreatDoor
open Go
set_option maxRecDepth 100000
set_option maxHeartbeats 0
theorem tie_hk : tieLaid.map (fun x => Tryz.prog.kindOfLater x.1) = tieKinds.map some := by
  unfold tieLaid tieKinds
  simp only [List.map_cons, List.map_nil, tie_k0, tie_k1, tie_k2, tie_k3, tie_k4, tie_k5, tie_k6, tie_k7, tie_k8, tie_k9, tie_k10, tie_k11]
theorem tie_h2 : ∀ os tape, (DataW.laidRun Tryz.prog (varsWorld Tryz.prog 400 875 os tape).memory 8 (tieLaid.map (·.1))).map (fun x => decide x.2.Nodup && laidRowsB Tryz.prog (varsWorld Tryz.prog 400 875 os tape).memory x.2) = some true := fun os tape => by
  have h1 := tie_h2a os tape
  have h2 := tie_h2b os tape
  generalize (DataW.laidRun Tryz.prog (varsWorld Tryz.prog 400 875 os tape).memory 8 (tieLaid.map (·.1))) = r at h1 h2 ⊢
  cases r with
  | none => cases h1
  | some x =>
    have h1 : some (decide x.2.Nodup) = some true := h1
    have h2 : some (laidRowsB Tryz.prog (varsWorld Tryz.prog 400 875 os tape).memory x.2) = some true := h2
    show some (decide x.2.Nodup && laidRowsB Tryz.prog (varsWorld Tryz.prog 400 875 os tape).memory x.2) = some true
    rw [Option.some.inj h1, Option.some.inj h2]
    rfl
theorem tie_of (n : FuncId) (hv : varsId Tryz.prog = n) (hn : varsNamedLaterB Tryz.prog n tieLaid = true) (hd : ∀ os tape, varsDone Tryz.prog 400 n os tape = true)
    (h1 : ∀ os tape, (DataW.laidRun Tryz.prog (varsWorld Tryz.prog 400 n os tape).memory 8 (tieLaid.map (·.1))).map (·.1) = some tieLaid)
    (h2 : ∀ os tape, (DataW.laidRun Tryz.prog (varsWorld Tryz.prog 400 n os tape).memory 8 (tieLaid.map (·.1))).map (fun x => decide x.2.Nodup && laidRowsB Tryz.prog (varsWorld Tryz.prog 400 n os tape).memory x.2) = some true) :
    Tryz.prog.laidByTextLater tieLaid tieKinds true := by
  subst hv
  exact Program.laidByTextLater_by_run 400 8 tie_hw tie_hw' tie_hroot tie_hk tie_hg hn hd h1 h2
theorem tie : Tryz.prog.laidByTextLater tieLaid tieKinds true := tie_of 875 tie_v tie_hnK tie_hdK tie_h1K tie_h2
end Go.Proofs.YtmkekbogeniehaaGreatDoor
set_option linter.unusedVariables false
set_option linter.unusedSimpArgs false
namespace Go.Proofs.YtmkekbogeniehaaGreatDoor
open Go
set_option maxRecDepth 100000
set_option maxHeartbeats 0
theorem pin_laid_unicode_utf8_first : Tryz.pinned.checked.prog.pinnedFits "unicode/utf8.first" = true := by kernel_rfl
theorem noOwnUnsafe : Tryz.pinned.checked.prog.headLifts.contains "ownunsafe" = false := by kernel_rfl
theorem fits1 : Tryz.pinned.checked.prog.listedFits [("math/bits.deBruijn32tab", Rows.laid_math_bits_deBruijn32tab), ("math/bits.deBruijn64tab", Rows.laid_math_bits_deBruijn64tab), ("internal/strconv.uint64pow10", Rows.laid_internal_strconv_uint64pow10), ("unicode/utf8.acceptRanges", Rows.laid_unicode_utf8_acceptRanges), ("strconv.ErrRange", Rows.laid_strconv_ErrRange), ("strconv.ErrSyntax", Rows.laid_strconv_ErrSyntax), ("unicode.White_Space", Rows.laid_unicode_White_Space), ("strings.asciiSpace", Rows.laid_strings_asciiSpace), ("columnseven/pictures.floats", Rows.laid_columnseven_pictures_floats), ("columnseven/roundings.names", Rows.laid_columnseven_roundings_names), ("columnseven/edits.shows", Rows.laid_columnseven_edits_shows), ("columnseven/moves.legal", Rows.laid_columnseven_moves_legal), ("unicode/utf8.first", Rows.laid_unicode_utf8_first)] = true := by
  unfold Program.listedFits
  rw [noOwnUnsafe]
  kernel_rfl
end Go.Proofs.YtmkekbogeniehaaGreatDoor
set_option linter.unusedVariables false
set_option linter.unusedSimpArgs false
namespace Go.Proofs.YtmkekbogeniehaaGreatDoor
open Go
set_option maxRecDepth 100000
set_option maxHeartbeats 0
theorem codesKnown_row_tie : Rows.codesKnownRow.laidByTextAt .later Tryz.pinned [.data, .data, .data, .data, .sentinel, .sentinel, .listed, .data, .data, .widerDeep, .data, .data, .pinned] true :=
  OpenClaim.laidByTextAt_pinned rfl rfl tie rfl rfl rfl rfl (fun y hy _e => by
    simp only [Rows.codesKnownRow, List.zip_cons_cons, List.zip_nil_right, List.mem_cons, List.mem_nil_iff, or_false] at hy
    rcases hy with rfl | rfl | rfl | rfl | rfl | rfl | rfl | rfl | rfl | rfl | rfl | rfl | rfl
    · cases _e
    · cases _e
    · cases _e
    · cases _e
    · cases _e
    · cases _e
    · cases _e
    · cases _e
    · cases _e
    · cases _e
    · cases _e
    · cases _e
    · exact ⟨pin_laid_unicode_utf8_first, by kernel_rfl⟩) fits1

end Go.Proofs.YtmkekbogeniehaaGreatDoor
