/-
  What RangesOutside gives in a world of the row: true; from the closed runs (hypotheses here).
-/
import Derived.Test.YtefnobgpfbcloaaGreatDoorWalk
import Derived.Test.YtefnobgpfbcloaaGreatDoorRows
import Derived.OpenVars
import Derived.LaidMore
import Derived.ProofKit
set_option linter.unusedVariables false
set_option linter.unusedSimpArgs false
namespace Go.Proofs.YtefnobgpfbcloaaGreatDoor
open Go.ChangeShapes Go.WideShapes Go.ChangeAt Go.RowKit Go.Clock
open Go.Abs (Gl)
abbrev LAIDb : List (String × DataW Unit) := Rows.rangesOutsideRow.laid
set_option maxRecDepth 100000 in
theorem facts {W : World} (hL : laidMetH Tryz.prog LAIDb W) (hsh : W.ShapedOpen Tryz.prog) : Facts W := by
  rw [MakeChecks.laidMetH_plain _ _ _ (by kernel_rfl)] at hL
  have T0 : Lib.TabIs Tryz.prog W "strings.asciiSpace" .u8 Lib.asciiSpaceTab :=
    Lib.tabIs_of_head (g := 0) (t := 115) (e := 5) (n := 256) (by kernel_rfl) (by kernel_rfl) (by kernel_rfl) (by kernel_rfl) (by kernel_rfl) (by kernel_rfl) hL
  have hL9 := hL.tail.tail.tail.tail.tail.tail.tail.tail.tail
  have T8 : Lib.TabIs Tryz.prog W "columnseven/pictures.floats" .u8 [36, 43, 45] :=
    Lib.tabIs_of_head (g := 8) (t := 492) (e := 5) (n := 3) (by kernel_rfl) (by kernel_rfl) (by kernel_rfl) (by kernel_rfl) (by kernel_rfl) (by kernel_rfl) hL9
  obtain ⟨c0, h0⟩ := shaped_at hsh 0 115 (by rw [globs]; omega) (by kernel_rfl)
  obtain ⟨c3, h3⟩ := shaped_at hsh 3 3 (by rw [globs]; omega) (by kernel_rfl)
  obtain ⟨c8, h8⟩ := shaped_at hsh 8 492 (by rw [globs]; omega) (by kernel_rfl)
  obtain ⟨m, hm⟩ := cell_of_shapedOpen_int (P := Tryz.prog) (g := 3) (t := 3) (zero := #[.int .i64 0]) hsh (by rw [globs]; omega) (by kernel_rfl) rfl (by kernel_rfl) (by kernel_rfl) Tryz.underlying3
  have hsz : c3.size = 1 := by
    obtain ⟨cs, hc, hs, _⟩ := hsh.1 3 #[.int .i64 0] 3 (by rw [globs]; omega) (by kernel_rfl)
    rw [h3] at hc
    cases hc
    exact hs
  refine ⟨⟨(0, 0), by rw [h0, obj_of named0 h0 T0]⟩, ⟨m, (0, 0), ?_⟩, ⟨(0, 0), by rw [h8, obj_of (by kernel_rfl) h8 T8]; rfl⟩⟩
  rw [h3]
  have : c3 = #[.int .i64 m] := by
    have h2 : c3[0]? = some (.int .i64 m) := by
      have := hm
      simp [World.cell?, h3] at this
      simpa using this
    apply Array.ext_getElem?
    intro i
    cases i with
    | zero => rw [h2]; rfl
    | succ i => rw [Array.getElem?_eq_none (by omega), Array.getElem?_eq_none (by simp)]
  rw [this]

/-- what the kernel ran -/
structure Runs : Prop where
  words : Go.Abs.mkTblW Tryz.prog [] 434 127 fnsW tab0 (fun t => Go.Abs.runF t 50 358 [] hs (Go.Abs.isMapK Go.Abs.wordsMs Go.Abs.wordsClock) (fun _ _ => false)) = true
  lives : Go.Abs.mkTblW Tryz.prog [] 434 127 fnsL tab1 (fun t => Go.Abs.runF t 60 9 [] hs Go.Abs.isTrueK (fun _ _ => false)) = true
  zero : ∀ w : Nat, w < 3 → caseZ w = true
  more : ∀ m w v : Nat, 0 < m → m < 4 → w < 3 → v < 2 → caseB m w v = true

theorem walk (R : Runs) (a0 a1 : Int) (w0 : (Lit.int .u8 a0).wf = true) (w1 : (Lit.int .u8 a1).wf = true) {W : World} (hF : Facts W) :
    Calls Tryz.prog 3 #[.int .u8 a0, .int .u8 a1] W fun e w' => e = .returned (.bool true) ∧ Below W.heap.size W w' := by
  have h0 : 0 ≤ a0 ∧ a0 ≤ 255 := by simpa [Lit.wf, IntKind.min, IntKind.max, IntKind.signed, IntKind.bits] using w0
  have h1 : 0 ≤ a1 ∧ a1 ≤ 255 := by simpa [Lit.wf, IntKind.min, IntKind.max, IntKind.signed, IntKind.bits] using w1
  have e1 : a1 % 3 = ((a1 % 3).toNat : Int) := by omega
  have e2 : a1 / 3 % 2 = ((a1 / 3 % 2).toNat : Int) := by omega
  by_cases hz : a0 % 4 = 0
  · exact zero_walk h0 h1 hz e1 (R.zero _ (by omega)) R.words R.lives hF
  · have e0 : a0 % 4 = ((a0 % 4).toNat : Int) := by omega
    exact case_walk h0 h1 e0 e1 e2 (R.more _ _ _ (by omega) (by omega) (by omega) (by omega)) R.words R.lives hF

theorem walkW (R : Runs) : ∀ (a0 a1 : Int), (Lit.int .u8 a0).wf = true → (Lit.int .u8 a1).wf = true → ∀ W : World, laidMetH Tryz.prog LAIDb W → W.ShapedOpen Tryz.prog →
    Calls Tryz.prog 3 #[.int .u8 a0, .int .u8 a1] W fun e w' => e = .returned (.bool true) ∧ Below W.heap.size W w' :=
  fun a0 a1 w0 w1 W hL hsh => walk R a0 a1 w0 w1 (facts hL hsh)
end Go.Proofs.YtefnobgpfbcloaaGreatDoor
