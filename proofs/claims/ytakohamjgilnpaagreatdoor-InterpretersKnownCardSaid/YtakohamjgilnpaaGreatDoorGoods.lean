/-
  The contracts of the library functions that the evaluator takes as given, at this translation; no condition but what each states.
-/
import Derived.Test.YtakohamjgilnpaaGreatDoorAbs4
import Derived.Test.YtakohamjgilnpaaGreatDoorAbsBu
import Derived.Test.YtakohamjgilnpaaGreatDoorShelf
import Derived.Test.YtakohamjgilnpaaGreatDoorProg
import Derived.Shelf.Strings.SlTrimAscii
import Derived.Shelf.Strings.Builder1
import Derived.KernelRfl
set_option linter.unusedVariables false
set_option linter.unusedSimpArgs false
namespace Go.Proofs.YtakohamjgilnpaaGreatDoor
open Go Go.Abs
set_option maxRecDepth 100000
set_option maxHeartbeats 0
theorem split_shape : SplitShape Tryz.prog 660 9 3 4 53 := by
  refine ⟨⟨Tryz.f660, _, _, _, _, _, _, _, _, _, _, _, _, _, _, _, Tryz.func660, by kernel_rfl, Tryz.ntmps660, by kernel_rfl, rfl, by kernel_rfl, by kernel_rfl, by kernel_rfl, by kernel_rfl, by kernel_rfl, by kernel_rfl, by kernel_rfl⟩, by kernel_rfl, by kernel_rfl, Option.map_eq_some_iff.1 (show (Tryz.prog.info? 9).map (·.size) = some 1 by kernel_rfl), by kernel_rfl⟩
theorem back_shape : BackShape Tryz.prog 420 44 3 4 := by
  refine ⟨⟨Tryz.f420, _, _, _, _, _, _, _, _, Tryz.func420, by kernel_rfl, Tryz.ntmps420, by kernel_rfl, rfl, by kernel_rfl, by kernel_rfl, by kernel_rfl, by kernel_rfl⟩, by kernel_rfl, by kernel_rfl, Option.map_eq_some_iff.1 (show (Tryz.prog.info? 3).map (·.size) = some 1 by kernel_rfl)⟩
section
open Go.RowKit
theorem sizeB : (Tryz.prog.info? 127).map (·.size) = some 2 := by kernel_rfl
theorem entNe (x : Value) (w : World) : (callFunc 123 #[x]).run Tryz.prog w = .ok (.value x) w := by
  rw [run_callFunc_extern Tryz.func123 (by kernel_rfl) (by kernel_rfl) (by kernel_rfl) (e := Extern.AbiNoEscape.same) (by kernel_rfl)]
  rw [Lib.run_noEscape]
  rfl
theorem copyCheck_used (b : Nat) (w : World) (h0 : w.cell? ⟨b, 0, none⟩ = some (.pointer (some ⟨b, 0, none⟩))) :
    Calls Tryz.prog 73 #[.pointer (some ⟨b, 0, none⟩)] w fun e w' => e = .returned (.tuple #[]) ∧ w' = w := by
  obtain ⟨j, hj, _⟩ := Option.map_eq_some_iff.1 sizeB
  go_enter Tryz.func73, Tryz.ntmps73
  go_wp2
  rw [Lib.run_neq_ptr_same w _ Tryz.underlying125 hj]
  go_wp2
  go_end0
  exact ⟨rfl, rfl⟩
theorem copyCheck_fresh (b : Nat) (w : World) (h0 : w.cell? ⟨b, 0, none⟩ = some (.pointer none)) (hsh : w.shape? b = some (127, 2)) (hfz : w.frozen? ⟨b, 0, none⟩ = false) :
    Calls Tryz.prog 73 #[.pointer (some ⟨b, 0, none⟩)] w fun e w' => e = .returned (.tuple #[]) ∧ w' = w.setCell ⟨b, 0, none⟩ (.pointer (some ⟨b, 0, none⟩)) := by
  obtain ⟨j, hj, hjs⟩ := Option.map_eq_some_iff.1 sizeB
  have u164 : Tryz.prog.underlying 258 = some .unsafePointer := by kernel_rfl
  go_enter Tryz.func73, Tryz.ntmps73
  go_wp2
  rw [Lib.run_to_unsafe w ⟨b, 0, none⟩ Tryz.underlying125 u164 hj (by rw [hjs]; decide) hsh (Nat.zero_lt_succ 1)]
  simp only [Result.andThen]
  try rw [Oper.upon_value]
  go_wp2
  rw [entNe]
  try simp only [Result.andThen]
  try rw [Oper.upon_value]
  go_wp2
  rw [Lib.run_from_unsafe w ⟨b, 0, none⟩ u164 Tryz.underlying125 hj hsh (by kernel_rfl)]
  simp only [Result.andThen]
  try rw [Oper.upon_value]
  go_wp2
  go_end0
  exact ⟨rfl, rfl⟩
end
theorem good53 {ν : Nu} (h : IntCell ν 2) : FnGood Tryz.prog ν 53 (indexD) := index_good (g := 2) (by kernel_rfl) h Tryz.strings_Index
theorem good81 {ν : Nu} (h : IntCell ν 2) : FnGood Tryz.prog ν 81 (indexD) := index_good (g := 2) (by kernel_rfl) h Tryz.stringslite_Index
theorem good26 {ν : Nu} (h : IntCell ν 2) : FnGood Tryz.prog ν 26 (containsD) := contains_good (g := 2) (by kernel_rfl) h Tryz.strings_Contains
theorem good243 {ν : Nu} : FnGood Tryz.prog ν 243 (countD) := count_good (by kernel_rfl) Tryz.strings_Count_one
theorem good73 {ν : Nu} : FnGood Tryz.prog ν 73 (copyCheckD 127) := copyCheck_good (by kernel_rfl) copyCheck_used copyCheck_fresh
theorem good42 {ν : Nu} : FnGood Tryz.prog ν 42 (stringD 127 5) := string_good (by kernel_rfl) (Any.Builder_String_nil_ex Tryz.lays169 Tryz.Builder_Extra_169)
  (fun B b g cap p fr w => Any.Builder_String_room_ex Tryz.lays169 Tryz.Builder_Extra_169 B b g cap p fr w)
  (fun b g cap p cur fr fr2 l w h1 h2 h3 h4 h5 h6 h7 => Any.Builder_String_ex Tryz.lays169 Tryz.Builder_Extra_169 b g cap p cur fr fr2 l w h1 h2 h3 h4 h5 h6 h7)
theorem good74 {ν : Nu} : FnGood Tryz.prog ν 74 (growD 127 5) := grow_good (by kernel_rfl) fun b n q fr w h1 h2 h3 =>
  let ⟨cs, g1, _, g3⟩ := Any.Builder_grow_ex Tryz.lays241 Tryz.Builder_Extra_241 b n q fr w h1 h2 h3
  ⟨cs, g1, g3⟩
theorem good24 {ν : Nu} (h : TabCell Tryz.prog ν "strings.asciiSpace" .u8 Lib.asciiSpaceTab) : FnGood Tryz.prog ν 24 (fieldsD 9) := fields_good (by kernel_rfl) h Tryz.strings_Fields
theorem good350 {ν : Nu} : FnGood Tryz.prog ν 350 (repeatD) := repeat_good (by kernel_rfl) Tryz.strings_Repeat
theorem good134 {ν : Nu} : FnGood Tryz.prog ν 134 (indexByteD .u8 256) := indexByte_good (by kernel_rfl) (by omega) fun s n w _ => Tryz.stringslite_IndexByte s n w
theorem good222 {ν : Nu} : FnGood Tryz.prog ν 222 (indexByteD .u8 256) := indexByte_good (by kernel_rfl) (by omega) fun s n w _ => Tryz.strings_IndexByte s n w
theorem good25 {ν : Nu} : FnGood Tryz.prog ν 25 (bothD Lib.trimS) := both_good (by kernel_rfl) fun s t w h1 h2 h3 => Any.strings_Trim_laid Tryz.lays160 (by kernel_rfl) s t w (by omega) h2 h3
theorem good276 {ν : Nu} : FnGood Tryz.prog ν 276 (bothD Lib.trimLeftS) := both_good (by kernel_rfl) fun s t w h1 h2 h3 => Any.strings_TrimLeft_laid Tryz.lays161 (by kernel_rfl) s t w h2 h3
theorem splitOk {ν : Nu} (h : IntCell ν 2) : SplitOk Tryz.prog ν (660, 420) := ⟨⟨by kernel_rfl, 9, 3, 4, 53, split_shape, fun _ _ W s sep hr hs => let ⟨m, hm⟩ := h.cell hr; Tryz.strings_Index s sep m W hs hm⟩, fun _ => ⟨by kernel_rfl, 44, 3, 4, back_shape⟩⟩
theorem good19 {ν : Nu} (h : TabCell Tryz.prog ν "internal/strconv.uint64pow10" .u64 Lib.pow10Tab) : FnGood Tryz.prog ν 19 itoaD :=
  itoa_good (by kernel_rfl) h fun n w h0 h1 ht => (Tryz.strconv_Itoa n h0 h1 w ht).mono fun e w' ⟨he, k, os, hw⟩ => ⟨he, by
    rw [hw]
    exact ⟨rfl, rfl, rfl, by show w.heap.size ≤ (w.heap ++ os).size; rw [Array.size_append]; omega, fun j hj => by show (w.heap ++ os)[j]? = w.heap[j]?; exact Array.getElem?_append_left hj⟩⟩
end Go.Proofs.YtakohamjgilnpaaGreatDoor
