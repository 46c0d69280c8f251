/-
  What the row's function reaches: the externs, the variables; no condition.
-/
import Derived.Test.YtkdlhhnkeocfcaaGreatDoorCh0
import Derived.Test.YtkdlhhnkeocfcaaGreatDoorCh1
import Derived.KernelRfl
set_option linter.unusedVariables false
set_option linter.unusedSimpArgs false
namespace Go.Proofs.YtkdlhhnkeocfcaaGreatDoor
open Go Go.Abs
set_option maxRecDepth 100000
set_option maxHeartbeats 0
theorem inPlace_eq : Tryz.prog.inPlace 3 = ["internal/bytealg.IndexByteString", "internal/bytealg.IndexString", "internal/abi.NoEscape", "internal/bytealg.MakeNoZero", "internal/bytealg.CountString"] := (inPlace_of (A := CL) closure_eq ((filterMap_app ip0 (filterMap_app ip1 ip2)))).trans (by kernel_rfl)
theorem varsNamed_eq : Tryz.prog.varsNamed 3 = ["strings.asciiSpace", "unicode.White_Space", "unicode/utf8.first", "unicode/utf8.acceptRanges", "internal/bytealg.MaxLen", "strconv.ErrSyntax", "strconv.ErrRange", "internal/strconv.uint64pow10", "math/bits.deBruijn32tab", "math/bits.deBruijn64tab", "columnseven/pictures.floats", "columnseven/roundings.names", "columnseven/moves.legal", "columnseven/edits.shows"] := varsNamed_of (A := CL) closure_eq ((flatMap_app gl0 (flatMap_app gl1 gl2))) ((filterMap_app rd0 (filterMap_app rd1 rd2))) (by kernel_rfl)
theorem unfollowed_eq : Tryz.prog.unfollowed 3 = true := unfollowed_of (A := CL) closure_eq (g := 39) (by kernel_rfl) (by kernel_rfl)
theorem recurses_eq : Tryz.prog.recurses 3 = true := recurses_of unfollowed_eq
end Go.Proofs.YtkdlhhnkeocfcaaGreatDoor
