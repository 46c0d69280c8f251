/-
  The list of the variables that the card ties, and their kinds: definitions alone.
-/
import Derived.Test.YtkghfmfciekbdaaGreatDoorRows
import Derived.LaidByTextLater
import Derived.SevenTiedAt
set_option linter.unusedVariables false
set_option linter.unusedSimpArgs false
namespace Go.Proofs.YtkghfmfciekbdaaGreatDoor
open Go
set_option maxRecDepth 100000
set_option maxHeartbeats 0
def tieLaid : List (String × DataW Unit) := [("math/bits.deBruijn32tab", Rows.laid_math_bits_deBruijn32tab), ("math/bits.deBruijn64tab", Rows.laid_math_bits_deBruijn64tab), ("internal/strconv.uint64pow10", Rows.laid_internal_strconv_uint64pow10), ("unicode/utf8.acceptRanges", Rows.laid_unicode_utf8_acceptRanges), ("strconv.ErrRange", Rows.laid_strconv_ErrRange), ("strconv.ErrSyntax", Rows.laid_strconv_ErrSyntax), ("unicode.White_Space", Rows.laid_unicode_White_Space), ("strings.asciiSpace", Rows.laid_strings_asciiSpace), ("columnseven/pictures.floats", Rows.laid_columnseven_pictures_floats), ("columnseven/roundings.names", Rows.laid_columnseven_roundings_names), ("columnseven/edits.shows", Rows.laid_columnseven_edits_shows), ("columnseven/moves.legal", Rows.laid_columnseven_moves_legal)]
def tieKinds : List LaidKind := [.data, .data, .data, .data, .sentinel, .sentinel, .listed, .data, .data, .widerDeep, .data, .data]
end Go.Proofs.YtkghfmfciekbdaaGreatDoor
