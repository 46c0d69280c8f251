/-
  The contracts of the library functions that the evaluator takes as given, at this translation; no condition but what each states.
-/
import Derived.Test.YtmkekbogeniehaaGreatDoorAbs4
import Derived.Test.YtmkekbogeniehaaGreatDoorAbsBu
import Derived.Test.YtmkekbogeniehaaGreatDoorShelf
import Derived.Test.YtmkekbogeniehaaGreatDoorProg
import Derived.Shelf.Strings.SlTrimAscii
import Derived.Shelf.Strings.Builder1
import Derived.KernelRfl
set_option linter.unusedVariables false
set_option linter.unusedSimpArgs false
namespace Go.Proofs.YtmkekbogeniehaaGreatDoor
open Go Go.Abs
set_option maxRecDepth 100000
set_option maxHeartbeats 0
theorem split_shape : SplitShape Tryz.prog 743 9 3 4 112 := by
  refine ⟨⟨Tryz.f743, _, _, _, _, _, _, _, _, _, _, _, _, _, _, _, Tryz.func743, by kernel_rfl, Tryz.ntmps743, by kernel_rfl, rfl, by kernel_rfl, by kernel_rfl, by kernel_rfl, by kernel_rfl, by kernel_rfl, by kernel_rfl, by kernel_rfl⟩, by kernel_rfl, by kernel_rfl, Option.map_eq_some_iff.1 (show (Tryz.prog.info? 9).map (·.size) = some 1 by kernel_rfl), by kernel_rfl⟩
theorem back_shape : BackShape Tryz.prog 348 27 3 4 := by
  refine ⟨⟨Tryz.f348, _, _, _, _, _, _, _, _, Tryz.func348, by kernel_rfl, Tryz.ntmps348, by kernel_rfl, rfl, by kernel_rfl, by kernel_rfl, by kernel_rfl, by kernel_rfl⟩, by kernel_rfl, by kernel_rfl, Option.map_eq_some_iff.1 (show (Tryz.prog.info? 3).map (·.size) = some 1 by kernel_rfl)⟩
section
open Go.RowKit
theorem sizeB : (Tryz.prog.info? 154).map (·.size) = some 2 := by kernel_rfl
theorem entNe (x : Value) (w : World) : (callFunc 152 #[x]).run Tryz.prog w = .ok (.value x) w := by
  rw [run_callFunc_extern Tryz.func152 (by kernel_rfl) (by kernel_rfl) (by kernel_rfl) (e := Extern.AbiNoEscape.same) (by kernel_rfl)]
  rw [Lib.run_noEscape]
  rfl
theorem copyCheck_used (b : Nat) (w : World) (h0 : w.cell? ⟨b, 0, none⟩ = some (.pointer (some ⟨b, 0, none⟩))) :
    Calls Tryz.prog 93 #[.pointer (some ⟨b, 0, none⟩)] w fun e w' => e = .returned (.tuple #[]) ∧ w' = w := by
  obtain ⟨j, hj, _⟩ := Option.map_eq_some_iff.1 sizeB
  go_enter Tryz.func93, Tryz.ntmps93
  go_wp2
  rw [Lib.run_neq_ptr_same w _ Tryz.underlying152 hj]
  go_wp2
  go_end0
  exact ⟨rfl, rfl⟩
theorem copyCheck_fresh (b : Nat) (w : World) (h0 : w.cell? ⟨b, 0, none⟩ = some (.pointer none)) (hsh : w.shape? b = some (154, 2)) (hfz : w.frozen? ⟨b, 0, none⟩ = false) :
    Calls Tryz.prog 93 #[.pointer (some ⟨b, 0, none⟩)] w fun e w' => e = .returned (.tuple #[]) ∧ w' = w.setCell ⟨b, 0, none⟩ (.pointer (some ⟨b, 0, none⟩)) := by
  obtain ⟨j, hj, hjs⟩ := Option.map_eq_some_iff.1 sizeB
  have u164 : Tryz.prog.underlying 303 = some .unsafePointer := by kernel_rfl
  go_enter Tryz.func93, Tryz.ntmps93
  go_wp2
  rw [Lib.run_to_unsafe w ⟨b, 0, none⟩ Tryz.underlying152 u164 hj (by rw [hjs]; decide) hsh (Nat.zero_lt_succ 1)]
  simp only [Result.andThen]
  try rw [Oper.upon_value]
  go_wp2
  rw [entNe]
  try simp only [Result.andThen]
  try rw [Oper.upon_value]
  go_wp2
  rw [Lib.run_from_unsafe w ⟨b, 0, none⟩ u164 Tryz.underlying152 hj hsh (by kernel_rfl)]
  simp only [Result.andThen]
  try rw [Oper.upon_value]
  go_wp2
  go_end0
  exact ⟨rfl, rfl⟩
end
theorem good112 {ν : Nu} (h : IntCell ν 3) : FnGood Tryz.prog ν 112 (indexD) := index_good (g := 3) (by kernel_rfl) h Tryz.strings_Index
theorem good182 {ν : Nu} (h : IntCell ν 3) : FnGood Tryz.prog ν 182 (indexD) := index_good (g := 3) (by kernel_rfl) h Tryz.stringslite_Index
theorem good63 {ν : Nu} (h : IntCell ν 3) : FnGood Tryz.prog ν 63 (containsD) := contains_good (g := 3) (by kernel_rfl) h Tryz.strings_Contains
theorem good313 {ν : Nu} : FnGood Tryz.prog ν 313 (countD) := count_good (by kernel_rfl) Tryz.strings_Count_one
theorem good93 {ν : Nu} : FnGood Tryz.prog ν 93 (copyCheckD 154) := copyCheck_good (by kernel_rfl) copyCheck_used copyCheck_fresh
theorem good52 {ν : Nu} : FnGood Tryz.prog ν 52 (stringD 154 5) := string_good (by kernel_rfl) (Any.Builder_String_nil_ex Tryz.lays169 Tryz.Builder_Extra_169)
  (fun B b g cap p fr w => Any.Builder_String_room_ex Tryz.lays169 Tryz.Builder_Extra_169 B b g cap p fr w)
  (fun b g cap p cur fr fr2 l w h1 h2 h3 h4 h5 h6 h7 => Any.Builder_String_ex Tryz.lays169 Tryz.Builder_Extra_169 b g cap p cur fr fr2 l w h1 h2 h3 h4 h5 h6 h7)
theorem good127 {ν : Nu} : FnGood Tryz.prog ν 127 (growD 154 5) := grow_good (by kernel_rfl) fun b n q fr w h1 h2 h3 =>
  let ⟨cs, g1, _, g3⟩ := Any.Builder_grow_ex Tryz.lays241 Tryz.Builder_Extra_241 b n q fr w h1 h2 h3
  ⟨cs, g1, g3⟩
theorem good61 {ν : Nu} (h : TabCell Tryz.prog ν "strings.asciiSpace" .u8 Lib.asciiSpaceTab) : FnGood Tryz.prog ν 61 (fieldsD 9) := fields_good (by kernel_rfl) h Tryz.strings_Fields
theorem good349 {ν : Nu} : FnGood Tryz.prog ν 349 (repeatD) := repeat_good (by kernel_rfl) Tryz.strings_Repeat
theorem good292 {ν : Nu} : FnGood Tryz.prog ν 292 (indexByteD .u8 256) := indexByte_good (by kernel_rfl) (by omega) fun s n w _ => Tryz.stringslite_IndexByte s n w
theorem good436 {ν : Nu} : FnGood Tryz.prog ν 436 (indexByteD .u8 256) := indexByte_good (by kernel_rfl) (by omega) fun s n w _ => Tryz.strings_IndexByte s n w
theorem good62 {ν : Nu} : FnGood Tryz.prog ν 62 (bothD Lib.trimS) := both_good (by kernel_rfl) fun s t w h1 h2 h3 => Any.strings_Trim_laid Tryz.lays160 (by kernel_rfl) s t w (by omega) h2 h3
theorem good238 {ν : Nu} : FnGood Tryz.prog ν 238 (bothD Lib.trimLeftS) := both_good (by kernel_rfl) fun s t w h1 h2 h3 => Any.strings_TrimLeft_laid Tryz.lays161 (by kernel_rfl) s t w h2 h3
theorem splitOk {ν : Nu} (h : IntCell ν 3) : SplitOk Tryz.prog ν (743, 348) := ⟨⟨by kernel_rfl, 9, 3, 4, 112, split_shape, fun _ _ W s sep hr hs => let ⟨m, hm⟩ := h.cell hr; Tryz.strings_Index s sep m W hs hm⟩, fun _ => ⟨by kernel_rfl, 27, 3, 4, back_shape⟩⟩
theorem sum_shape : SumShape Tryz.prog 101 66 144 72 5 110 3 1 2 := by
  refine ⟨⟨Tryz.f101, _, _, _, _, _, _, _, _, _, _, _, _, _, _, _, _, _, _, _, _, Tryz.func101, by kernel_rfl, Tryz.ntmps101, by kernel_rfl, rfl, by kernel_rfl, by kernel_rfl, by kernel_rfl, by kernel_rfl, by kernel_rfl, by kernel_rfl, by kernel_rfl, by kernel_rfl, by kernel_rfl⟩, ⟨_, Tryz.underlying66⟩, ⟨_, _, Tryz.underlying144, rfl, rfl, by kernel_rfl⟩, Tryz.underlying72, Tryz.underlying5, Tryz.underlying110, Option.map_eq_some_iff.1 (show (Tryz.prog.info? 5).map (·.size) = some 1 by kernel_rfl)⟩
theorem good101 {ν : Nu} : FnGood Tryz.prog ν 101 (sumD 2) := sumD_good (by kernel_rfl) sum_shape
theorem good22 {ν : Nu} (h : TabCell Tryz.prog ν "internal/strconv.uint64pow10" .u64 Lib.pow10Tab) : FnGood Tryz.prog ν 22 itoaD :=
  itoa_good (by kernel_rfl) h fun n w h0 h1 ht => (Tryz.strconv_Itoa n h0 h1 w ht).mono fun e w' ⟨he, k, os, hw⟩ => ⟨he, by
    rw [hw]
    exact ⟨rfl, rfl, rfl, by show w.heap.size ≤ (w.heap ++ os).size; rw [Array.size_append]; omega, fun j hj => by show (w.heap ++ os)[j]? = w.heap[j]?; exact Array.getElem?_append_left hj⟩⟩
end Go.Proofs.YtmkekbogeniehaaGreatDoor
