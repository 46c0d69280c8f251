/-
  Closed facts of the witness: a world in which the listed variables lie as the row lists them; no condition.
-/
import Derived.Test.YtmkekbogeniehaaGreatDoorClos
import Derived.Test.YtmkekbogeniehaaGreatDoorProg
import Derived.Clock
import Derived.LaidMore
import Derived.Lay
import Derived.KernelRfl
import Derived.Test.YtmkekbogeniehaaGreatDoorRows
set_option linter.unusedVariables false
set_option linter.unusedSimpArgs false
namespace Go.Proofs.YtmkekbogeniehaaGreatDoor
open Go Go.Abs
set_option maxRecDepth 100000
set_option maxHeartbeats 0
theorem nn0_0 : ((List.range 300).all fun v => notNamed Tryz.prog "*errors.errorString" "errors.errorString" (0 + v)) = true := by kernel_rfl
theorem nn0_1 : ((List.range 300).all fun v => notNamed Tryz.prog "*errors.errorString" "errors.errorString" (300 + v)) = true := by kernel_rfl
theorem nn0_2 : ((List.range 300).all fun v => notNamed Tryz.prog "*errors.errorString" "errors.errorString" (600 + v)) = true := by kernel_rfl
theorem nn0_3 : ((List.range 57).all fun v => notNamed Tryz.prog "*errors.errorString" "errors.errorString" (900 + v)) = true := by kernel_rfl
theorem typ0 : (Tryz.prog.typeName? 3 957 == some "*errors.errorString") = true := by kernel_rfl
theorem find0 : (List.range Tryz.prog.types.size).find? (fun u => Tryz.prog.typeName? 3 u == some "*errors.errorString") = some 957 :=
  find_type (by rw [show Tryz.prog.types.size = 995 by kernel_rfl]; omega) typ0 fun v hv => notNamed_no (s := "*errors.errorString") (r := "errors.errorString") (by decide) (star_ne (by decide)) (by
    rcases Nat.lt_or_ge v 300 with h | h
    · have := List.all_eq_true.1 nn0_0 (v - 0) (List.mem_range.2 (by omega)); rwa [show 0 + (v - 0) = v by omega] at this
    · skip
      rcases Nat.lt_or_ge v 600 with h | h
      · have := List.all_eq_true.1 nn0_1 (v - 300) (List.mem_range.2 (by omega)); rwa [show 300 + (v - 300) = v by omega] at this
      · skip
        rcases Nat.lt_or_ge v 900 with h | h
        · have := List.all_eq_true.1 nn0_2 (v - 600) (List.mem_range.2 (by omega)); rwa [show 600 + (v - 600) = v by omega] at this
        · skip
          have := List.all_eq_true.1 nn0_3 (v - 900) (List.mem_range.2 (by omega)); rwa [show 900 + (v - 900) = v by omega] at this)
end Go.Proofs.YtmkekbogeniehaaGreatDoor
namespace Go.Proofs.YtmkekbogeniehaaGreatDoor
open Go Go.Abs
set_option maxRecDepth 100000
set_option maxHeartbeats 0
theorem ready_none : Tryz.prog.funcs.toList.flatMap (fun f => (f.body.map readies).getD []) = [] := by kernel_rfl
theorem globs : Tryz.prog.globals.size = 15 := by kernel_rfl
theorem waiting_eq : waiting Tryz.prog = Array.replicate 15 false := by rw [waiting_of ready_none rfl, globs]
theorem hold_size : ∀ os : Os, (World.holding Tryz.prog os ⟨#[], #[], []⟩).heap.size = 20 := fun os => by
  unfold World.holding World.settled begin
  rw [waiting_eq]
  kernel_rfl
end Go.Proofs.YtmkekbogeniehaaGreatDoor
set_option linter.unusedVariables false
set_option linter.unusedSimpArgs false
namespace Go.Proofs.YtmkekbogeniehaaGreatDoor
open Go Go.Abs
set_option maxRecDepth 100000
set_option maxHeartbeats 0
noncomputable section
def lay0 : List Value × List Obj := ((Rows.laid_math_bits_deBruijn32tab : DataW Unit).lay Tryz.prog 788 20).getD ([], [])
theorem lay0_eq : (Rows.laid_math_bits_deBruijn32tab : DataW Unit).lay Tryz.prog 788 20 = some lay0 := some_getD (by kernel_rfl)
theorem glo0 : Tryz.prog.globalNamed "math/bits.deBruijn32tab" = some 6 := by kernel_rfl
theorem gty0 : (Tryz.prog.globals[6]?).map (·.type) = some 788 := by kernel_rfl
def lay1 : List Value × List Obj := ((Rows.laid_math_bits_deBruijn64tab : DataW Unit).lay Tryz.prog 789 20).getD ([], [])
theorem lay1_eq : (Rows.laid_math_bits_deBruijn64tab : DataW Unit).lay Tryz.prog 789 20 = some lay1 := some_getD (by kernel_rfl)
theorem glo1 : Tryz.prog.globalNamed "math/bits.deBruijn64tab" = some 7 := by kernel_rfl
theorem gty1 : (Tryz.prog.globals[7]?).map (·.type) = some 789 := by kernel_rfl
def lay2 : List Value × List Obj := ((Rows.laid_internal_strconv_uint64pow10 : DataW Unit).lay Tryz.prog 439 20).getD ([], [])
theorem lay2_eq : (Rows.laid_internal_strconv_uint64pow10 : DataW Unit).lay Tryz.prog 439 20 = some lay2 := some_getD (by kernel_rfl)
theorem glo2 : Tryz.prog.globalNamed "internal/strconv.uint64pow10" = some 2 := by kernel_rfl
theorem gty2 : (Tryz.prog.globals[2]?).map (·.type) = some 439 := by kernel_rfl
def lay3 : List Value × List Obj := ((Rows.laid_unicode_utf8_acceptRanges : DataW Unit).lay Tryz.prog 623 20).getD ([], [])
theorem lay3_eq : (Rows.laid_unicode_utf8_acceptRanges : DataW Unit).lay Tryz.prog 623 20 = some lay3 := some_getD (by kernel_rfl)
theorem glo3 : Tryz.prog.globalNamed "unicode/utf8.acceptRanges" = some 5 := by kernel_rfl
theorem gty3 : (Tryz.prog.globals[5]?).map (·.type) = some 623 := by kernel_rfl
def dat4 : DataW Unit := (.ptr (.agg [.lit (.string [118, 97, 108, 117, 101, 32, 111, 117, 116, 32, 111, 102, 32, 114, 97, 110, 103, 101])]))
def inn4 : List Value × List Obj := (dat4.lay Tryz.prog 957 20).getD ([], [])
theorem inn4_eq : dat4.lay Tryz.prog 957 20 = some inn4 := some_getD (by kernel_rfl)
def val4 : Value := (Lay.pack Tryz.prog 957 inn4.1).getD .nilIface
theorem val4_eq : Lay.pack Tryz.prog 957 inn4.1 = some val4 := some_getD (by kernel_rfl)
def lay4 : List Value × List Obj := ([.iface 957 val4], inn4.2)
theorem lay4_eq : (Rows.laid_strconv_ErrRange : DataW Unit).lay Tryz.prog 156 20 = some lay4 := lay_iface ⟨_, Tryz.underlying156⟩ find0 inn4_eq val4_eq
theorem glo4 : Tryz.prog.globalNamed "strconv.ErrRange" = some 12 := by kernel_rfl
theorem gty4 : (Tryz.prog.globals[12]?).map (·.type) = some 156 := by kernel_rfl
def dat5 : DataW Unit := (.ptr (.agg [.lit (.string [105, 110, 118, 97, 108, 105, 100, 32, 115, 121, 110, 116, 97, 120])]))
def inn5 : List Value × List Obj := (dat5.lay Tryz.prog 957 21).getD ([], [])
theorem inn5_eq : dat5.lay Tryz.prog 957 21 = some inn5 := some_getD (by kernel_rfl)
def val5 : Value := (Lay.pack Tryz.prog 957 inn5.1).getD .nilIface
theorem val5_eq : Lay.pack Tryz.prog 957 inn5.1 = some val5 := some_getD (by kernel_rfl)
def lay5 : List Value × List Obj := ([.iface 957 val5], inn5.2)
theorem lay5_eq : (Rows.laid_strconv_ErrSyntax : DataW Unit).lay Tryz.prog 156 21 = some lay5 := lay_iface ⟨_, Tryz.underlying156⟩ find0 inn5_eq val5_eq
theorem glo5 : Tryz.prog.globalNamed "strconv.ErrSyntax" = some 11 := by kernel_rfl
theorem gty5 : (Tryz.prog.globals[11]?).map (·.type) = some 156 := by kernel_rfl
def lay6 : List Value × List Obj := ((Rows.laid_unicode_White_Space : DataW Unit).lay Tryz.prog 343 22).getD ([], [])
theorem lay6_eq : (Rows.laid_unicode_White_Space : DataW Unit).lay Tryz.prog 343 22 = some lay6 := some_getD (by kernel_rfl)
theorem glo6 : Tryz.prog.globalNamed "unicode.White_Space" = some 1 := by kernel_rfl
theorem gty6 : (Tryz.prog.globals[1]?).map (·.type) = some 343 := by kernel_rfl
def lay7 : List Value × List Obj := ((Rows.laid_strings_asciiSpace : DataW Unit).lay Tryz.prog 243 24).getD ([], [])
theorem lay7_eq : (Rows.laid_strings_asciiSpace : DataW Unit).lay Tryz.prog 243 24 = some lay7 := some_getD (by kernel_rfl)
theorem glo7 : Tryz.prog.globalNamed "strings.asciiSpace" = some 0 := by kernel_rfl
theorem gty7 : (Tryz.prog.globals[0]?).map (·.type) = some 243 := by kernel_rfl
def lay8 : List Value × List Obj := ((Rows.laid_columnseven_pictures_floats : DataW Unit).lay Tryz.prog 795 24).getD ([], [])
theorem lay8_eq : (Rows.laid_columnseven_pictures_floats : DataW Unit).lay Tryz.prog 795 24 = some lay8 := some_getD (by kernel_rfl)
theorem glo8 : Tryz.prog.globalNamed "columnseven/pictures.floats" = some 8 := by kernel_rfl
theorem gty8 : (Tryz.prog.globals[8]?).map (·.type) = some 795 := by kernel_rfl
def lay9 : List Value × List Obj := ((Rows.laid_columnseven_roundings_names : DataW Unit).lay Tryz.prog 911 24).getD ([], [])
theorem lay9_eq : (Rows.laid_columnseven_roundings_names : DataW Unit).lay Tryz.prog 911 24 = some lay9 := some_getD (by kernel_rfl)
theorem glo9 : Tryz.prog.globalNamed "columnseven/roundings.names" = some 10 := by kernel_rfl
theorem gty9 : (Tryz.prog.globals[10]?).map (·.type) = some 911 := by kernel_rfl
def lay10 : List Value × List Obj := ((Rows.laid_columnseven_edits_shows : DataW Unit).lay Tryz.prog 940 24).getD ([], [])
theorem lay10_eq : (Rows.laid_columnseven_edits_shows : DataW Unit).lay Tryz.prog 940 24 = some lay10 := some_getD (by kernel_rfl)
theorem glo10 : Tryz.prog.globalNamed "columnseven/edits.shows" = some 13 := by kernel_rfl
theorem gty10 : (Tryz.prog.globals[13]?).map (·.type) = some 940 := by kernel_rfl
def lay11 : List Value × List Obj := ((Rows.laid_columnseven_moves_legal : DataW Unit).lay Tryz.prog 869 24).getD ([], [])
theorem lay11_eq : (Rows.laid_columnseven_moves_legal : DataW Unit).lay Tryz.prog 869 24 = some lay11 := some_getD (by kernel_rfl)
theorem glo11 : Tryz.prog.globalNamed "columnseven/moves.legal" = some 9 := by kernel_rfl
theorem gty11 : (Tryz.prog.globals[9]?).map (·.type) = some 869 := by kernel_rfl
def lay12 : List Value × List Obj := ((Rows.laid_unicode_utf8_first : DataW Unit).lay Tryz.prog 243 24).getD ([], [])
theorem lay12_eq : (Rows.laid_unicode_utf8_first : DataW Unit).lay Tryz.prog 243 24 = some lay12 := some_getD (by kernel_rfl)
theorem glo12 : Tryz.prog.globalNamed "unicode/utf8.first" = some 4 := by kernel_rfl
theorem gty12 : (Tryz.prog.globals[4]?).map (·.type) = some 243 := by kernel_rfl
def rest13 : List (Nat × List Value) × List Obj := ([], [])
def rest12 : List (Nat × List Value) × List Obj := ((4, lay12.1) :: rest13.1, lay12.2 ++ rest13.2)
def rest11 : List (Nat × List Value) × List Obj := ((9, lay11.1) :: rest12.1, lay11.2 ++ rest12.2)
def rest10 : List (Nat × List Value) × List Obj := ((13, lay10.1) :: rest11.1, lay10.2 ++ rest11.2)
def rest9 : List (Nat × List Value) × List Obj := ((10, lay9.1) :: rest10.1, lay9.2 ++ rest10.2)
def rest8 : List (Nat × List Value) × List Obj := ((8, lay8.1) :: rest9.1, lay8.2 ++ rest9.2)
def rest7 : List (Nat × List Value) × List Obj := ((0, lay7.1) :: rest8.1, lay7.2 ++ rest8.2)
def rest6 : List (Nat × List Value) × List Obj := ((1, lay6.1) :: rest7.1, lay6.2 ++ rest7.2)
def rest5 : List (Nat × List Value) × List Obj := ((11, lay5.1) :: rest6.1, lay5.2 ++ rest6.2)
def rest4 : List (Nat × List Value) × List Obj := ((12, lay4.1) :: rest5.1, lay4.2 ++ rest5.2)
def rest3 : List (Nat × List Value) × List Obj := ((5, lay3.1) :: rest4.1, lay3.2 ++ rest4.2)
def rest2 : List (Nat × List Value) × List Obj := ((2, lay2.1) :: rest3.1, lay2.2 ++ rest3.2)
def rest1 : List (Nat × List Value) × List Obj := ((7, lay1.1) :: rest2.1, lay1.2 ++ rest2.2)
def rest0 : List (Nat × List Value) × List Obj := ((6, lay0.1) :: rest1.1, lay0.2 ++ rest1.2)
def laidY : List (Nat × List Value) × List Obj := rest0
theorem layed0 : Lay.layList Tryz.prog 20 Rows.codesKnownRow.laid = some laidY :=
  layList_cons glo0 gty0 lay0_eq (n' := 20) (by kernel_rfl) (layList_cons glo1 gty1 lay1_eq (n' := 20) (by kernel_rfl) (layList_cons glo2 gty2 lay2_eq (n' := 20) (by kernel_rfl) (layList_cons glo3 gty3 lay3_eq (n' := 20) (by kernel_rfl) (layList_cons glo4 gty4 lay4_eq (n' := 21) (by kernel_rfl) (layList_cons glo5 gty5 lay5_eq (n' := 22) (by kernel_rfl) (layList_cons glo6 gty6 lay6_eq (n' := 24) (by kernel_rfl) (layList_cons glo7 gty7 lay7_eq (n' := 24) (by kernel_rfl) (layList_cons glo8 gty8 lay8_eq (n' := 24) (by kernel_rfl) (layList_cons glo9 gty9 lay9_eq (n' := 24) (by kernel_rfl) (layList_cons glo10 gty10 lay10_eq (n' := 24) (by kernel_rfl) (layList_cons glo11 gty11 lay11_eq (n' := 24) (by kernel_rfl) (layList_cons glo12 gty12 lay12_eq (n' := 24) (by kernel_rfl) (rfl)))))))))))))
theorem layed (os : Os) : Lay.layList Tryz.prog (World.holding Tryz.prog os ⟨#[], #[], []⟩).heap.size Rows.codesKnownRow.laid = some laidY := by rw [hold_size]; exact layed0
end
theorem lay_fits : ∀ os : Os, (World.holding Tryz.prog os ⟨#[], #[], []⟩).layFits Tryz.prog Rows.codesKnownRow.laid [] = true := fun os => by
  refine layFits_of (layed os) ?_
  unfold World.holding World.settled begin
  rw [waiting_eq]
  kernel_rfl
theorem lay_ifaces : ∀ os : Os, (World.holding Tryz.prog os ⟨#[], #[], []⟩).layIfaces Tryz.prog Rows.codesKnownRow.laid (World.laidAll Tryz.prog os Rows.codesKnownRow.laid) = true := fun os => by
  refine layIfaces_of (layed os) ?_
  unfold World.laidAll
  rw [layVars_of (layed os)]
  unfold World.holding World.settled begin
  rw [waiting_eq]
  kernel_rfl
theorem lay_shaped1 : ∀ os : Os, ((World.laidAll Tryz.prog os Rows.codesKnownRow.laid).forCall (fun _ _ => 0) ⟨#[], #[], []⟩).variablesZipB Tryz.prog = true := fun os => by
  unfold World.laidAll
  rw [layVars_of (layed os)]
  unfold World.variablesZipB World.holding World.settled begin
  rw [waiting_eq]
  kernel_rfl
theorem lay_shaped2 : ∀ os : Os, (((World.laidAll Tryz.prog os Rows.codesKnownRow.laid).forCall (fun _ _ => 0) ⟨#[], #[], []⟩).heap.toList.drop Tryz.prog.globals.size).take ((begin Tryz.prog (fun _ _ => 0) default).world.heap.size - Tryz.prog.globals.size) = (begin Tryz.prog (fun _ _ => 0) default).world.heap.toList.drop Tryz.prog.globals.size := fun os => by
  unfold World.laidAll
  rw [layVars_of (layed os)]
  unfold World.holding World.settled begin
  rw [waiting_eq]
  kernel_rfl
end Go.Proofs.YtmkekbogeniehaaGreatDoor
