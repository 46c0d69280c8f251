/-
  The list of the variables that the card ties, and their kinds: definitions alone.
-/
import Derived.Test.YtpmknbclidomjaaGreatDoorRows
import Derived.LaidByTextLater
import Derived.SevenTiedAt
set_option linter.unusedVariables false
set_option linter.unusedSimpArgs false
namespace Go.Proofs.YtpmknbclidomjaaGreatDoor
open Go
set_option maxRecDepth 100000
set_option maxHeartbeats 0
def tieLaid : List (String × DataW Unit) := [("strings.asciiSpace", Rows.laid_strings_asciiSpace), ("unicode.White_Space", Rows.laid_unicode_White_Space), ("unicode/utf8.acceptRanges", Rows.laid_unicode_utf8_acceptRanges), ("strconv.ErrSyntax", Rows.laid_strconv_ErrSyntax), ("strconv.ErrRange", Rows.laid_strconv_ErrRange), ("internal/strconv.uint64pow10", Rows.laid_internal_strconv_uint64pow10), ("math/bits.deBruijn32tab", Rows.laid_math_bits_deBruijn32tab), ("math/bits.deBruijn64tab", Rows.laid_math_bits_deBruijn64tab), ("columnseven/pictures.floats", Rows.laid_columnseven_pictures_floats), ("columnseven/moves.legal", Rows.laid_columnseven_moves_legal), ("columnseven/edits.shows", Rows.laid_columnseven_edits_shows)]
def tieKinds : List LaidKind := [.data, .listed, .data, .sentinel, .sentinel, .data, .data, .data, .data, .data, .data]
end Go.Proofs.YtpmknbclidomjaaGreatDoor
