/-
  A closed fact of the tie of the card; no condition.
-/
import Derived.Test.YtkghfmfciekbdaaGreatDoorProg
import Derived.LaidByTextLater
import Derived.SevenTiedAt
import Derived.KernelRfl
set_option linter.unusedVariables false
set_option linter.unusedSimpArgs false
namespace Go.Proofs.YtkghfmfciekbdaaGreatDoor
open Go
set_option maxRecDepth 100000
set_option maxHeartbeats 0
theorem tie_k0 : Tryz.prog.kindOfLater "math/bits.deBruijn32tab" = some LaidKind.data := by kernel_rfl
theorem tie_k1 : Tryz.prog.kindOfLater "math/bits.deBruijn64tab" = some LaidKind.data := by kernel_rfl
theorem tie_k2 : Tryz.prog.kindOfLater "internal/strconv.uint64pow10" = some LaidKind.data := by kernel_rfl
theorem tie_k3 : Tryz.prog.kindOfLater "unicode/utf8.acceptRanges" = some LaidKind.data := by kernel_rfl
theorem tie_k4 : Tryz.prog.kindOfLater "strconv.ErrRange" = some LaidKind.sentinel := by kernel_rfl
theorem tie_k5 : Tryz.prog.kindOfLater "strconv.ErrSyntax" = some LaidKind.sentinel := by kernel_rfl
theorem tie_k6 : Tryz.prog.kindOfLater "unicode.White_Space" = some LaidKind.listed := by kernel_rfl
theorem tie_k7 : Tryz.prog.kindOfLater "strings.asciiSpace" = some LaidKind.data := by kernel_rfl
theorem tie_k8 : Tryz.prog.kindOfLater "columnseven/pictures.floats" = some LaidKind.data := by kernel_rfl
theorem tie_k9 : Tryz.prog.kindOfLater "columnseven/roundings.names" = some LaidKind.widerDeep := by kernel_rfl
theorem tie_k10 : Tryz.prog.kindOfLater "columnseven/edits.shows" = some LaidKind.data := by kernel_rfl
theorem tie_k11 : Tryz.prog.kindOfLater "columnseven/moves.legal" = some LaidKind.data := by kernel_rfl
end Go.Proofs.YtkghfmfciekbdaaGreatDoor
