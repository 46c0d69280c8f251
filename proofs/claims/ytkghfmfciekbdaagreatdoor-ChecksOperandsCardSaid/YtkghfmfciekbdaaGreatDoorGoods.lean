/-
  The contracts of the library functions that the evaluator takes as given, at this translation; no condition but what each states.
-/
import Derived.Test.YtkghfmfciekbdaaGreatDoorAbs4
import Derived.Test.YtkghfmfciekbdaaGreatDoorAbsBu
import Derived.Test.YtkghfmfciekbdaaGreatDoorShelf
import Derived.Test.YtkghfmfciekbdaaGreatDoorProg
import Derived.Shelf.Strings.SlTrimAscii
import Derived.Shelf.Strings.Builder1
import Derived.KernelRfl
set_option linter.unusedVariables false
set_option linter.unusedSimpArgs false
namespace Go.Proofs.YtkghfmfciekbdaaGreatDoor
open Go Go.Abs
set_option maxRecDepth 100000
set_option maxHeartbeats 0
theorem split_shape : SplitShape Tryz.prog 358 9 3 4 71 := by
  refine ⟨⟨Tryz.f358, _, _, _, _, _, _, _, _, _, _, _, _, _, _, _, Tryz.func358, by kernel_rfl, Tryz.ntmps358, by kernel_rfl, rfl, by kernel_rfl, by kernel_rfl, by kernel_rfl, by kernel_rfl, by kernel_rfl, by kernel_rfl, by kernel_rfl⟩, by kernel_rfl, by kernel_rfl, Option.map_eq_some_iff.1 (show (Tryz.prog.info? 9).map (·.size) = some 1 by kernel_rfl), by kernel_rfl⟩
section
open Go.RowKit
theorem sizeB : (Tryz.prog.info? 176).map (·.size) = some 2 := by kernel_rfl
theorem entNe (x : Value) (w : World) : (callFunc 213 #[x]).run Tryz.prog w = .ok (.value x) w := by
  rw [run_callFunc_extern Tryz.func213 (by kernel_rfl) (by kernel_rfl) (by kernel_rfl) (e := Extern.AbiNoEscape.same) (by kernel_rfl)]
  rw [Lib.run_noEscape]
  rfl
theorem copyCheck_used (b : Nat) (w : World) (h0 : w.cell? ⟨b, 0, none⟩ = some (.pointer (some ⟨b, 0, none⟩))) :
    Calls Tryz.prog 149 #[.pointer (some ⟨b, 0, none⟩)] w fun e w' => e = .returned (.tuple #[]) ∧ w' = w := by
  obtain ⟨j, hj, _⟩ := Option.map_eq_some_iff.1 sizeB
  go_enter Tryz.func149, Tryz.ntmps149
  go_wp2
  rw [Lib.run_neq_ptr_same w _ Tryz.underlying174 hj]
  go_wp2
  go_end0
  exact ⟨rfl, rfl⟩
theorem copyCheck_fresh (b : Nat) (w : World) (h0 : w.cell? ⟨b, 0, none⟩ = some (.pointer none)) (hsh : w.shape? b = some (176, 2)) (hfz : w.frozen? ⟨b, 0, none⟩ = false) :
    Calls Tryz.prog 149 #[.pointer (some ⟨b, 0, none⟩)] w fun e w' => e = .returned (.tuple #[]) ∧ w' = w.setCell ⟨b, 0, none⟩ (.pointer (some ⟨b, 0, none⟩)) := by
  obtain ⟨j, hj, hjs⟩ := Option.map_eq_some_iff.1 sizeB
  have u164 : Tryz.prog.underlying 331 = some .unsafePointer := by kernel_rfl
  go_enter Tryz.func149, Tryz.ntmps149
  go_wp2
  rw [Lib.run_to_unsafe w ⟨b, 0, none⟩ Tryz.underlying174 u164 hj (by rw [hjs]; decide) hsh (Nat.zero_lt_succ 1)]
  simp only [Result.andThen]
  try rw [Oper.upon_value]
  go_wp2
  rw [entNe]
  try simp only [Result.andThen]
  try rw [Oper.upon_value]
  go_wp2
  rw [Lib.run_from_unsafe w ⟨b, 0, none⟩ u164 Tryz.underlying174 hj hsh (by kernel_rfl)]
  simp only [Result.andThen]
  try rw [Oper.upon_value]
  go_wp2
  go_end0
  exact ⟨rfl, rfl⟩
end
theorem good71 {ν : Nu} (h : IntCell ν 3) : FnGood Tryz.prog ν 71 (indexD) := index_good (g := 3) (by kernel_rfl) h Tryz.strings_Index
theorem good133 {ν : Nu} (h : IntCell ν 3) : FnGood Tryz.prog ν 133 (indexD) := index_good (g := 3) (by kernel_rfl) h Tryz.stringslite_Index
theorem good25 {ν : Nu} (h : IntCell ν 3) : FnGood Tryz.prog ν 25 (containsD) := contains_good (g := 3) (by kernel_rfl) h Tryz.strings_Contains
theorem good81 {ν : Nu} : FnGood Tryz.prog ν 81 (countD) := count_good (by kernel_rfl) Tryz.strings_Count_one
theorem good149 {ν : Nu} : FnGood Tryz.prog ν 149 (copyCheckD 176) := copyCheck_good (by kernel_rfl) copyCheck_used copyCheck_fresh
theorem good84 {ν : Nu} : FnGood Tryz.prog ν 84 (stringD 176 5) := string_good (by kernel_rfl) (Any.Builder_String_nil_ex Tryz.lays169 Tryz.Builder_Extra_169)
  (fun B b g cap p fr w => Any.Builder_String_room_ex Tryz.lays169 Tryz.Builder_Extra_169 B b g cap p fr w)
  (fun b g cap p cur fr fr2 l w h1 h2 h3 h4 h5 h6 h7 => Any.Builder_String_ex Tryz.lays169 Tryz.Builder_Extra_169 b g cap p cur fr fr2 l w h1 h2 h3 h4 h5 h6 h7)
theorem good150 {ν : Nu} : FnGood Tryz.prog ν 150 (growD 176 5) := grow_good (by kernel_rfl) fun b n q fr w h1 h2 h3 =>
  let ⟨cs, g1, _, g3⟩ := Any.Builder_grow_ex Tryz.lays241 Tryz.Builder_Extra_241 b n q fr w h1 h2 h3
  ⟨cs, g1, g3⟩
theorem good23 {ν : Nu} (h : TabCell Tryz.prog ν "strings.asciiSpace" .u8 Lib.asciiSpaceTab) : FnGood Tryz.prog ν 23 (fieldsD 9) := fields_good (by kernel_rfl) h Tryz.strings_Fields
theorem good222 {ν : Nu} : FnGood Tryz.prog ν 222 (repeatD) := repeat_good (by kernel_rfl) Tryz.strings_Repeat
theorem good197 {ν : Nu} : FnGood Tryz.prog ν 197 (indexByteD .u8 256) := indexByte_good (by kernel_rfl) (by omega) fun s n w _ => Tryz.stringslite_IndexByte s n w
theorem good288 {ν : Nu} : FnGood Tryz.prog ν 288 (indexByteD .u8 256) := indexByte_good (by kernel_rfl) (by omega) fun s n w _ => Tryz.strings_IndexByte s n w
theorem good24 {ν : Nu} : FnGood Tryz.prog ν 24 (bothD Lib.trimS) := both_good (by kernel_rfl) fun s t w h1 h2 h3 => Any.strings_Trim_laid Tryz.lays160 (by kernel_rfl) s t w (by omega) h2 h3
theorem good228 {ν : Nu} : FnGood Tryz.prog ν 228 (bothD Lib.trimLeftS) := both_good (by kernel_rfl) fun s t w h1 h2 h3 => Any.strings_TrimLeft_laid Tryz.lays161 (by kernel_rfl) s t w h2 h3
theorem splitOk {ν : Nu} (h : IntCell ν 3) : SplitOk Tryz.prog ν (358, 0) := ⟨⟨by kernel_rfl, 9, 3, 4, 71, split_shape, fun _ _ W s sep hr hs => let ⟨m, hm⟩ := h.cell hr; Tryz.strings_Index s sep m W hs hm⟩, fun h => by cases h⟩
end Go.Proofs.YtkghfmfciekbdaaGreatDoor
