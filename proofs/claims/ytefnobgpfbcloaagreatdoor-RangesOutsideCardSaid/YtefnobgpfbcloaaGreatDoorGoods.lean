/-
  The contracts of the library functions that the evaluator takes as given, at this translation; no condition but what each states.
-/
import Derived.Test.YtefnobgpfbcloaaGreatDoorAbs4
import Derived.Test.YtefnobgpfbcloaaGreatDoorAbsBu
import Derived.Test.YtefnobgpfbcloaaGreatDoorShelf
import Derived.Test.YtefnobgpfbcloaaGreatDoorProg
import Derived.Shelf.Strings.SlTrimAscii
import Derived.Shelf.Strings.Builder1
set_option linter.unusedVariables false
set_option linter.unusedSimpArgs false

namespace Go.Proofs.YtefnobgpfbcloaaGreatDoor
open Go Go.Abs
set_option maxRecDepth 100000
theorem split_shape : SplitShape Tryz.prog 434 9 3 4 50 := by
  refine ⟨⟨Tryz.f434, _, _, _, _, _, _, _, _, _, _, _, _, _, _, _, Tryz.func434, by kernel_rfl, Tryz.ntmps434, by kernel_rfl, rfl, by kernel_rfl, by kernel_rfl, by kernel_rfl, by kernel_rfl, by kernel_rfl, by kernel_rfl, by kernel_rfl⟩, by kernel_rfl, by kernel_rfl, Option.map_eq_some_iff.1 (show (Tryz.prog.info? 9).map (·.size) = some 1 by kernel_rfl), by kernel_rfl⟩
end Go.Proofs.YtefnobgpfbcloaaGreatDoor

namespace Go.Proofs.YtefnobgpfbcloaaGreatDoor
open Go Go.RowKit
theorem sizeB : (Tryz.prog.info? 222).map (·.size) = some 2 := by kernel_rfl
theorem ent350 (x : Value) (w : World) : (callFunc 350 #[x]).run Tryz.prog w = .ok (.value x) w := by
  rw [run_callFunc_extern Tryz.func350 (by kernel_rfl) (by kernel_rfl) (by kernel_rfl) (e := Extern.AbiNoEscape.same) (by kernel_rfl)]
  rw [Lib.run_noEscape]
  rfl
set_option maxHeartbeats 1000000 in
set_option maxRecDepth 100000 in
theorem copyCheck_used (b : Nat) (w : World) (h0 : w.cell? ⟨b, 0, none⟩ = some (.pointer (some ⟨b, 0, none⟩))) :
    Calls Tryz.prog 229 #[.pointer (some ⟨b, 0, none⟩)] w fun e w' => e = .returned (.tuple #[]) ∧ w' = w := by
  obtain ⟨j, hj, _⟩ := Option.map_eq_some_iff.1 sizeB
  go_enter Tryz.func229, Tryz.ntmps229
  go_wp2
  rw [Lib.run_neq_ptr_same w _ Tryz.underlying220 hj]
  go_wp2
  go_end0
  exact ⟨rfl, rfl⟩
set_option maxHeartbeats 1000000 in
set_option maxRecDepth 100000 in
theorem copyCheck_fresh (b : Nat) (w : World) (h0 : w.cell? ⟨b, 0, none⟩ = some (.pointer none)) (hsh : w.shape? b = some (222, 2)) (hfz : w.frozen? ⟨b, 0, none⟩ = false) :
    Calls Tryz.prog 229 #[.pointer (some ⟨b, 0, none⟩)] w fun e w' => e = .returned (.tuple #[]) ∧ w' = w.setCell ⟨b, 0, none⟩ (.pointer (some ⟨b, 0, none⟩)) := by
  obtain ⟨j, hj, hjs⟩ := Option.map_eq_some_iff.1 sizeB
  have u164 : Tryz.prog.underlying 473 = some .unsafePointer := by kernel_rfl
  go_enter Tryz.func229, Tryz.ntmps229
  go_wp2
  rw [Lib.run_to_unsafe w ⟨b, 0, none⟩ Tryz.underlying220 u164 hj (by rw [hjs]; decide) hsh (Nat.zero_lt_succ 1)]
  simp only [Result.andThen]
  try rw [Oper.upon_value]
  go_wp2
  rw [ent350]
  try simp only [Result.andThen]
  try rw [Oper.upon_value]
  go_wp2
  rw [Lib.run_from_unsafe w ⟨b, 0, none⟩ u164 Tryz.underlying220 hj hsh (by kernel_rfl)]
  simp only [Result.andThen]
  try rw [Oper.upon_value]
  go_wp2
  go_end0
  exact ⟨rfl, rfl⟩
end Go.Proofs.YtefnobgpfbcloaaGreatDoor

namespace Go.Proofs.YtefnobgpfbcloaaGreatDoor
open Go Go.Abs
theorem good50 {ν : Nu} (h : IntCell ν 3) : FnGood Tryz.prog ν 50 indexD := index_good (g := 3) (by kernel_rfl) h Tryz.strings_Index
theorem good97 {ν : Nu} (h : IntCell ν 3) : FnGood Tryz.prog ν 97 indexD := index_good (g := 3) (by kernel_rfl) h Tryz.stringslite_Index
theorem good16 {ν : Nu} (h : IntCell ν 3) : FnGood Tryz.prog ν 16 containsD := contains_good (g := 3) (by kernel_rfl) h Tryz.strings_Contains
theorem good195 {ν : Nu} : FnGood Tryz.prog ν 195 countD := count_good (by kernel_rfl) Tryz.strings_Count_one
theorem good229 {ν : Nu} : FnGood Tryz.prog ν 229 (copyCheckD 222) := copyCheck_good (by kernel_rfl) copyCheck_used copyCheck_fresh
theorem good146 {ν : Nu} : FnGood Tryz.prog ν 146 (stringD 222 5) := string_good (by kernel_rfl) (Any.Builder_String_nil_ex Tryz.lays169 Tryz.Builder_Extra_169)
  (fun B b g cap p fr w => Any.Builder_String_room_ex Tryz.lays169 Tryz.Builder_Extra_169 B b g cap p fr w)
  (fun b g cap p cur fr fr2 l w h1 h2 h3 h4 h5 h6 h7 => Any.Builder_String_ex Tryz.lays169 Tryz.Builder_Extra_169 b g cap p cur fr fr2 l w h1 h2 h3 h4 h5 h6 h7)
theorem good230 {ν : Nu} : FnGood Tryz.prog ν 230 (growD 222 5) := grow_good (by kernel_rfl) fun b n q fr w h1 h2 h3 =>
  let ⟨cs, g1, _, g3⟩ := Any.Builder_grow_ex Tryz.lays241 Tryz.Builder_Extra_241 b n q fr w h1 h2 h3
  ⟨cs, g1, g3⟩
theorem good14 {ν : Nu} (h : TabCell Tryz.prog ν "strings.asciiSpace" .u8 Lib.asciiSpaceTab) : FnGood Tryz.prog ν 14 (fieldsD 9) := fields_good (by kernel_rfl) h Tryz.strings_Fields
theorem good254 {ν : Nu} : FnGood Tryz.prog ν 254 repeatD := repeat_good (by kernel_rfl) Tryz.strings_Repeat
theorem good174 {ν : Nu} : FnGood Tryz.prog ν 174 (indexByteD .u8 256) := indexByte_good (by kernel_rfl) (by omega) fun s n w _ => Tryz.stringslite_IndexByte s n w
theorem good241 {ν : Nu} : FnGood Tryz.prog ν 241 (indexByteD .u8 256) := indexByte_good (by kernel_rfl) (by omega) fun s n w _ => Tryz.strings_IndexByte s n w
end Go.Proofs.YtefnobgpfbcloaaGreatDoor

namespace Go.Proofs.YtefnobgpfbcloaaGreatDoor
open Go Go.Abs
theorem splitOk {ν : Nu} (h : IntCell ν 3) : SplitOk Tryz.prog ν 434 :=
  ⟨by kernel_rfl, 9, 3, 4, 50, split_shape, fun _ _ W s sep hr hs => let ⟨m, hm⟩ := h.cell hr; Tryz.strings_Index s sep m W hs hm⟩
end Go.Proofs.YtefnobgpfbcloaaGreatDoor

namespace Go.Proofs.YtefnobgpfbcloaaGreatDoor
open Go Go.Abs
theorem good15 {ν : Nu} : FnGood Tryz.prog ν 15 (bothD Lib.trimS) := both_good (by kernel_rfl) fun s t w h1 h2 h3 => Any.strings_Trim_laid Tryz.lays160 (by kernel_rfl) s t w (by omega) h2 h3
theorem good260 {ν : Nu} : FnGood Tryz.prog ν 260 (bothD Lib.trimLeftS) := both_good (by kernel_rfl) fun s t w h1 h2 h3 => Any.strings_TrimLeft_laid Tryz.lays161 (by kernel_rfl) s t w h2 h3
end Go.Proofs.YtefnobgpfbcloaaGreatDoor
