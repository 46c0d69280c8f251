/-
  The facts on the world that the row's premises give; no other condition.
-/
import Derived.Test.YtkdlhhnkeocfcaaGreatDoorWalk
import Derived.Test.YtkdlhhnkeocfcaaGreatDoorRows
import Derived.Test.YtkdlhhnkeocfcaaGreatDoorWit1
import Derived.OpenVars
import Derived.LaidMore
import Derived.ProofKit
set_option linter.unusedVariables false
set_option linter.unusedSimpArgs false
namespace Go.Proofs.YtkdlhhnkeocfcaaGreatDoor
open Go Go.Abs
set_option maxRecDepth 100000
set_option maxHeartbeats 0
open Go.ChangeShapes Go.WideShapes Go.ChangeAt Go.RowKit Go.Clock
abbrev LAIDb : List (String × DataW Unit) := Rows.checksRangeRow.laid
theorem facts {W : World} (hL : laidMetH Tryz.prog LAIDb W) (hsh : W.ShapedOpen Tryz.prog) : Facts W := by
  rw [MakeChecks.laidMetH_plain _ _ _ (by kernel_rfl)] at hL
  have TA : Lib.TabIs Tryz.prog W "strings.asciiSpace" .u8 Lib.asciiSpaceTab := Lib.tabIs_of_head (g := 0) (t := 109) (e := 5) (n := 256) (by kernel_rfl) (by kernel_rfl) (by kernel_rfl) (by kernel_rfl) (by kernel_rfl) (by kernel_rfl) hL
  have T0 : Lib.TabIs Tryz.prog W "columnseven/pictures.floats" .u8 [36, 43, 45] := Lib.tabIs_of_head (g := 5) (t := 23) (e := 5) (n := 3) (by kernel_rfl) (by kernel_rfl) (by kernel_rfl) (by kernel_rfl) (by kernel_rfl) (by kernel_rfl) hL.tail.tail.tail.tail.tail.tail.tail.tail.tail
  have T1 : Lib.TabIs Tryz.prog W "columnseven/moves.legal" .u8 [63, 15, 63, 15, 61, 61] := Lib.tabIs_of_head (g := 7) (t := 476) (e := 5) (n := 6) (by kernel_rfl) (by kernel_rfl) (by kernel_rfl) (by kernel_rfl) (by kernel_rfl) (by kernel_rfl) hL.tail.tail.tail.tail.tail.tail.tail.tail.tail.tail
  have hrow : ∀ g t, g < 15 → ((((begin Tryz.prog (fun _ _ => 0) default).world.heap[g]?).bind Obj.row?).map (·.2) = some t) → ∃ cs, W.heap[g]? = some (.cells cs t) := fun g t hg h => shaped_at hsh g t (by rw [globsW]; exact hg) h
  obtain ⟨c0, h0⟩ := hrow 0 109 (by omega) (by unfold begin; rw [waiting_eq]; kernel_rfl)
  obtain ⟨c3, h3⟩ := hrow 2 3 (by omega) (by unfold begin; rw [waiting_eq]; kernel_rfl)
  obtain ⟨d0, k0⟩ := hrow 5 23 (by omega) (by unfold begin; rw [waiting_eq]; kernel_rfl)
  obtain ⟨d1, k1⟩ := hrow 7 476 (by omega) (by unfold begin; rw [waiting_eq]; kernel_rfl)
  obtain ⟨m, hm⟩ := cell_of_shapedOpen_int (P := Tryz.prog) (g := 2) (t := 3) (zero := #[.int .i64 0]) hsh (by rw [globsW]; omega) (by unfold begin; rw [waiting_eq]; kernel_rfl) rfl (by kernel_rfl) (by kernel_rfl) Tryz.underlying3
  have hsz : c3.size = 1 := by
    obtain ⟨cs, hc, hs, _⟩ := hsh.1 2 #[.int .i64 0] 3 (by rw [globsW]; omega) (by unfold begin; rw [waiting_eq]; kernel_rfl)
    rw [h3] at hc
    cases hc
    exact hs
  refine ⟨⟨(0, 0), by rw [h0, obj_of named0 h0 TA]⟩, ⟨m, (0, 0), ?_⟩, ⟨(0, 0), by rw [k0, obj_of (by kernel_rfl) k0 T0]; rfl⟩, ⟨(0, 0), by rw [k1, obj_of (by kernel_rfl) k1 T1]; rfl⟩⟩
  rw [h3]
  have : c3 = #[.int .i64 m] := by
    have h2 : c3[0]? = some (.int .i64 m) := by
      have := hm
      simp [World.cell?, h3] at this
      simpa using this
    apply Array.ext_getElem?
    intro i
    cases i with
    | zero => rw [h2]; rfl
    | succ i => rw [Array.getElem?_eq_none (by omega), Array.getElem?_eq_none (by simp)]
  rw [this]
end Go.Proofs.YtkdlhhnkeocfcaaGreatDoor
