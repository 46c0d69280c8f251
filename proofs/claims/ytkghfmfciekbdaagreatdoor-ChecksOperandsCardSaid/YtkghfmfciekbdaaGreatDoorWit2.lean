/-
  A closed fact of the witness: a world in which the listed variables lie as the row lists them (text 2); no condition.
-/
import Derived.Test.YtkghfmfciekbdaaGreatDoorWit0
import Derived.Test.YtkghfmfciekbdaaGreatDoorRows
import Derived.Test.YtkghfmfciekbdaaGreatDoorClos
import Derived.Test.YtkghfmfciekbdaaGreatDoorProg
import Derived.Clock
import Derived.LaidMore
import Derived.Lay
import Derived.KernelRfl
set_option linter.unusedVariables false
set_option linter.unusedSimpArgs false
namespace Go.Proofs.YtkghfmfciekbdaaGreatDoor
open Go Go.Abs
set_option maxRecDepth 100000
set_option maxHeartbeats 0
noncomputable section
def lay0 : List Value × List Obj := ((Rows.laid_math_bits_deBruijn32tab : DataW Unit).lay Tryz.prog 586 20).getD ([], [])
theorem lay0_eq : (Rows.laid_math_bits_deBruijn32tab : DataW Unit).lay Tryz.prog 586 20 = some lay0 := some_getD (by kernel_rfl)
theorem glo0 : Tryz.prog.globalNamed "math/bits.deBruijn32tab" = some 12 := by kernel_rfl
theorem gty0 : (Tryz.prog.globals[12]?).map (·.type) = some 586 := by kernel_rfl
def lay1 : List Value × List Obj := ((Rows.laid_math_bits_deBruijn64tab : DataW Unit).lay Tryz.prog 587 20).getD ([], [])
theorem lay1_eq : (Rows.laid_math_bits_deBruijn64tab : DataW Unit).lay Tryz.prog 587 20 = some lay1 := some_getD (by kernel_rfl)
theorem glo1 : Tryz.prog.globalNamed "math/bits.deBruijn64tab" = some 13 := by kernel_rfl
theorem gty1 : (Tryz.prog.globals[13]?).map (·.type) = some 587 := by kernel_rfl
def lay2 : List Value × List Obj := ((Rows.laid_internal_strconv_uint64pow10 : DataW Unit).lay Tryz.prog 582 20).getD ([], [])
theorem lay2_eq : (Rows.laid_internal_strconv_uint64pow10 : DataW Unit).lay Tryz.prog 582 20 = some lay2 := some_getD (by kernel_rfl)
theorem glo2 : Tryz.prog.globalNamed "internal/strconv.uint64pow10" = some 11 := by kernel_rfl
theorem gty2 : (Tryz.prog.globals[11]?).map (·.type) = some 582 := by kernel_rfl
def lay3 : List Value × List Obj := ((Rows.laid_unicode_utf8_acceptRanges : DataW Unit).lay Tryz.prog 330 20).getD ([], [])
theorem lay3_eq : (Rows.laid_unicode_utf8_acceptRanges : DataW Unit).lay Tryz.prog 330 20 = some lay3 := some_getD (by kernel_rfl)
theorem glo3 : Tryz.prog.globalNamed "unicode/utf8.acceptRanges" = some 5 := by kernel_rfl
theorem gty3 : (Tryz.prog.globals[5]?).map (·.type) = some 330 := by kernel_rfl
def dat4 : DataW Unit := (.ptr (.agg [.lit (.string [118, 97, 108, 117, 101, 32, 111, 117, 116, 32, 111, 102, 32, 114, 97, 110, 103, 101])]))
def inn4 : List Value × List Obj := (dat4.lay Tryz.prog 560 20).getD ([], [])
theorem inn4_eq : dat4.lay Tryz.prog 560 20 = some inn4 := some_getD (by kernel_rfl)
def val4 : Value := (Lay.pack Tryz.prog 560 inn4.1).getD .nilIface
theorem val4_eq : Lay.pack Tryz.prog 560 inn4.1 = some val4 := some_getD (by kernel_rfl)
def lay4 : List Value × List Obj := ([.iface 560 val4], inn4.2)
theorem lay4_eq : (Rows.laid_strconv_ErrRange : DataW Unit).lay Tryz.prog 179 20 = some lay4 := lay_iface ⟨_, Tryz.underlying179⟩ find0 inn4_eq val4_eq
theorem glo4 : Tryz.prog.globalNamed "strconv.ErrRange" = some 9 := by kernel_rfl
theorem gty4 : (Tryz.prog.globals[9]?).map (·.type) = some 179 := by kernel_rfl
def dat5 : DataW Unit := (.ptr (.agg [.lit (.string [105, 110, 118, 97, 108, 105, 100, 32, 115, 121, 110, 116, 97, 120])]))
def inn5 : List Value × List Obj := (dat5.lay Tryz.prog 560 21).getD ([], [])
theorem inn5_eq : dat5.lay Tryz.prog 560 21 = some inn5 := some_getD (by kernel_rfl)
def val5 : Value := (Lay.pack Tryz.prog 560 inn5.1).getD .nilIface
theorem val5_eq : Lay.pack Tryz.prog 560 inn5.1 = some val5 := some_getD (by kernel_rfl)
def lay5 : List Value × List Obj := ([.iface 560 val5], inn5.2)
theorem lay5_eq : (Rows.laid_strconv_ErrSyntax : DataW Unit).lay Tryz.prog 179 21 = some lay5 := lay_iface ⟨_, Tryz.underlying179⟩ find0 inn5_eq val5_eq
theorem glo5 : Tryz.prog.globalNamed "strconv.ErrSyntax" = some 8 := by kernel_rfl
theorem gty5 : (Tryz.prog.globals[8]?).map (·.type) = some 179 := by kernel_rfl
def lay6 : List Value × List Obj := ((Rows.laid_unicode_White_Space : DataW Unit).lay Tryz.prog 170 22).getD ([], [])
theorem lay6_eq : (Rows.laid_unicode_White_Space : DataW Unit).lay Tryz.prog 170 22 = some lay6 := some_getD (by kernel_rfl)
theorem glo6 : Tryz.prog.globalNamed "unicode.White_Space" = some 1 := by kernel_rfl
theorem gty6 : (Tryz.prog.globals[1]?).map (·.type) = some 170 := by kernel_rfl
def lay7 : List Value × List Obj := ((Rows.laid_strings_asciiSpace : DataW Unit).lay Tryz.prog 94 24).getD ([], [])
theorem lay7_eq : (Rows.laid_strings_asciiSpace : DataW Unit).lay Tryz.prog 94 24 = some lay7 := some_getD (by kernel_rfl)
theorem glo7 : Tryz.prog.globalNamed "strings.asciiSpace" = some 0 := by kernel_rfl
theorem gty7 : (Tryz.prog.globals[0]?).map (·.type) = some 94 := by kernel_rfl
def lay8 : List Value × List Obj := ((Rows.laid_columnseven_pictures_floats : DataW Unit).lay Tryz.prog 443 24).getD ([], [])
theorem lay8_eq : (Rows.laid_columnseven_pictures_floats : DataW Unit).lay Tryz.prog 443 24 = some lay8 := some_getD (by kernel_rfl)
theorem glo8 : Tryz.prog.globalNamed "columnseven/pictures.floats" = some 6 := by kernel_rfl
theorem gty8 : (Tryz.prog.globals[6]?).map (·.type) = some 443 := by kernel_rfl
def lay9 : List Value × List Obj := ((Rows.laid_columnseven_roundings_names : DataW Unit).lay Tryz.prog 184 24).getD ([], [])
theorem lay9_eq : (Rows.laid_columnseven_roundings_names : DataW Unit).lay Tryz.prog 184 24 = some lay9 := some_getD (by kernel_rfl)
theorem glo9 : Tryz.prog.globalNamed "columnseven/roundings.names" = some 2 := by kernel_rfl
theorem gty9 : (Tryz.prog.globals[2]?).map (·.type) = some 184 := by kernel_rfl
def lay10 : List Value × List Obj := ((Rows.laid_columnseven_edits_shows : DataW Unit).lay Tryz.prog 547 24).getD ([], [])
theorem lay10_eq : (Rows.laid_columnseven_edits_shows : DataW Unit).lay Tryz.prog 547 24 = some lay10 := some_getD (by kernel_rfl)
theorem glo10 : Tryz.prog.globalNamed "columnseven/edits.shows" = some 10 := by kernel_rfl
theorem gty10 : (Tryz.prog.globals[10]?).map (·.type) = some 547 := by kernel_rfl
def lay11 : List Value × List Obj := ((Rows.laid_columnseven_moves_legal : DataW Unit).lay Tryz.prog 479 24).getD ([], [])
theorem lay11_eq : (Rows.laid_columnseven_moves_legal : DataW Unit).lay Tryz.prog 479 24 = some lay11 := some_getD (by kernel_rfl)
theorem glo11 : Tryz.prog.globalNamed "columnseven/moves.legal" = some 7 := by kernel_rfl
theorem gty11 : (Tryz.prog.globals[7]?).map (·.type) = some 479 := by kernel_rfl
def lay12 : List Value × List Obj := ((Rows.laid_unicode_utf8_first : DataW Unit).lay Tryz.prog 94 24).getD ([], [])
theorem lay12_eq : (Rows.laid_unicode_utf8_first : DataW Unit).lay Tryz.prog 94 24 = some lay12 := some_getD (by kernel_rfl)
theorem glo12 : Tryz.prog.globalNamed "unicode/utf8.first" = some 4 := by kernel_rfl
theorem gty12 : (Tryz.prog.globals[4]?).map (·.type) = some 94 := by kernel_rfl
def rest13 : List (Nat × List Value) × List Obj := ([], [])
def rest12 : List (Nat × List Value) × List Obj := ((4, lay12.1) :: rest13.1, lay12.2 ++ rest13.2)
def rest11 : List (Nat × List Value) × List Obj := ((7, lay11.1) :: rest12.1, lay11.2 ++ rest12.2)
def rest10 : List (Nat × List Value) × List Obj := ((10, lay10.1) :: rest11.1, lay10.2 ++ rest11.2)
def rest9 : List (Nat × List Value) × List Obj := ((2, lay9.1) :: rest10.1, lay9.2 ++ rest10.2)
def rest8 : List (Nat × List Value) × List Obj := ((6, lay8.1) :: rest9.1, lay8.2 ++ rest9.2)
def rest7 : List (Nat × List Value) × List Obj := ((0, lay7.1) :: rest8.1, lay7.2 ++ rest8.2)
def rest6 : List (Nat × List Value) × List Obj := ((1, lay6.1) :: rest7.1, lay6.2 ++ rest7.2)
def rest5 : List (Nat × List Value) × List Obj := ((8, lay5.1) :: rest6.1, lay5.2 ++ rest6.2)
def rest4 : List (Nat × List Value) × List Obj := ((9, lay4.1) :: rest5.1, lay4.2 ++ rest5.2)
def rest3 : List (Nat × List Value) × List Obj := ((5, lay3.1) :: rest4.1, lay3.2 ++ rest4.2)
def rest2 : List (Nat × List Value) × List Obj := ((11, lay2.1) :: rest3.1, lay2.2 ++ rest3.2)
def rest1 : List (Nat × List Value) × List Obj := ((13, lay1.1) :: rest2.1, lay1.2 ++ rest2.2)
def rest0 : List (Nat × List Value) × List Obj := ((12, lay0.1) :: rest1.1, lay0.2 ++ rest1.2)
def laidY : List (Nat × List Value) × List Obj := rest0
theorem layed0 : Lay.layList Tryz.prog 20 Rows.checksOperandsRow.laid = some laidY :=
  layList_cons glo0 gty0 lay0_eq (n' := 20) (by kernel_rfl) (layList_cons glo1 gty1 lay1_eq (n' := 20) (by kernel_rfl) (layList_cons glo2 gty2 lay2_eq (n' := 20) (by kernel_rfl) (layList_cons glo3 gty3 lay3_eq (n' := 20) (by kernel_rfl) (layList_cons glo4 gty4 lay4_eq (n' := 21) (by kernel_rfl) (layList_cons glo5 gty5 lay5_eq (n' := 22) (by kernel_rfl) (layList_cons glo6 gty6 lay6_eq (n' := 24) (by kernel_rfl) (layList_cons glo7 gty7 lay7_eq (n' := 24) (by kernel_rfl) (layList_cons glo8 gty8 lay8_eq (n' := 24) (by kernel_rfl) (layList_cons glo9 gty9 lay9_eq (n' := 24) (by kernel_rfl) (layList_cons glo10 gty10 lay10_eq (n' := 24) (by kernel_rfl) (layList_cons glo11 gty11 lay11_eq (n' := 24) (by kernel_rfl) (layList_cons glo12 gty12 lay12_eq (n' := 24) (by kernel_rfl) (rfl)))))))))))))
theorem layed (os : Os) : Lay.layList Tryz.prog (World.holding Tryz.prog os ⟨#[], #[], []⟩).heap.size Rows.checksOperandsRow.laid = some laidY := by rw [hold_size]; exact layed0
end
end Go.Proofs.YtkghfmfciekbdaaGreatDoor
