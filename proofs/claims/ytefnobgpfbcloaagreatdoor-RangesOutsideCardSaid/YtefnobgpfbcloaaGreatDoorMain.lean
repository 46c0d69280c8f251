/-
  RangesOutside (columnsevenlaw27): for every two numbers the call returns true and leaves its arguments as they were. Conditions: those of the given card (the listed variables lie as the text lays them, and that is tied; calm; time passes).
-/
import Derived.Test.YtefnobgpfbcloaaGreatDoorRow
import Derived.Test.YtefnobgpfbcloaaGreatDoorWalkW
import Derived.Test.YtefnobgpfbcloaaGreatDoorCards
import Derived.Test.YtefnobgpfbcloaaGreatDoorRunL
import Derived.Test.YtefnobgpfbcloaaGreatDoorFac5
import Derived.Test.YtefnobgpfbcloaaGreatDoorFac6
import Derived.Test.YtefnobgpfbcloaaGreatDoorFac7
import Derived.Test.YtefnobgpfbcloaaGreatDoorRunC1
import Derived.Test.YtefnobgpfbcloaaGreatDoorRunC2
import Derived.Test.YtefnobgpfbcloaaGreatDoorRunC3
import Derived.Test.YtefnobgpfbcloaaGreatDoorRunC4
import Derived.Test.YtefnobgpfbcloaaGreatDoorRunC5
import Derived.Test.YtefnobgpfbcloaaGreatDoorRunC6
import Derived.Test.YtefnobgpfbcloaaGreatDoorRunC7
import Derived.Test.YtefnobgpfbcloaaGreatDoorTn
import Derived.SevenTiedAt
set_option linter.unusedVariables false
set_option linter.unusedSimpArgs false
namespace Go.Proofs.YtefnobgpfbcloaaGreatDoor
open Go Go.Abs
theorem runs : Runs where
  words := words_run
  lives := lives_run
  zero := fun w hw => by
    match w, hw with
    | 0, _ => exact run_caseZ_0
    | 1, _ => exact run_caseZ_1
    | 2, _ => exact run_caseZ_2
    | w + 3, hw => omega
  more := fun m w v h1 h2 h3 h4 => by
    match m, w, v, h1, h2, h3, h4 with
    | 0, _, _, h1, _, _, _ => omega
    | 1, 0, 0, _, _, _, _ => exact run_caseB_1_0_0
    | 1, 0, 1, _, _, _, _ => exact run_caseB_1_0_1
    | 1, 1, 0, _, _, _, _ => exact run_caseB_1_1_0
    | 1, 1, 1, _, _, _, _ => exact run_caseB_1_1_1
    | 1, 2, 0, _, _, _, _ => exact run_caseB_1_2_0
    | 1, 2, 1, _, _, _, _ => exact run_caseB_1_2_1
    | 2, 0, 0, _, _, _, _ => exact run_caseB_2_0_0
    | 2, 0, 1, _, _, _, _ => exact run_caseB_2_0_1
    | 2, 1, 0, _, _, _, _ => exact run_caseB_2_1_0
    | 2, 1, 1, _, _, _, _ => exact run_caseB_2_1_1
    | 2, 2, 0, _, _, _, _ => exact run_caseB_2_2_0
    | 2, 2, 1, _, _, _, _ => exact run_caseB_2_2_1
    | 3, 0, 0, _, _, _, _ => exact run_caseB_3_0_0
    | 3, 0, 1, _, _, _, _ => exact run_caseB_3_0_1
    | 3, 1, 0, _, _, _, _ => exact run_caseB_3_1_0
    | 3, 1, 1, _, _, _, _ => exact run_caseB_3_1_1
    | 3, 2, 0, _, _, _, _ => exact run_caseB_3_2_0
    | 3, 2, 1, _, _, _, _ => exact run_caseB_3_2_1
    | m + 4, _, _, _, h2, _, _ => omega
    | 1, w + 3, _, _, _, h3, _ => omega
    | 2, w + 3, _, _, _, h3, _ => omega
    | 3, w + 3, _, _, _, h3, _ => omega
    | 1, 0, v + 2, _, _, _, h4 => omega
    | 1, 1, v + 2, _, _, _, h4 => omega
    | 1, 2, v + 2, _, _, _, h4 => omega
    | 2, 0, v + 2, _, _, _, h4 => omega
    | 2, 1, v + 2, _, _, _, h4 => omega
    | 2, 2, v + 2, _, _, _, h4 => omega
    | 3, 0, v + 2, _, _, _, h4 => omega
    | 3, 1, v + 2, _, _, _, h4 => omega
    | 3, 2, v + 2, _, _, _, h4 => omega

theorem ranges_outside : Rows.rangesOutsideRow.holds Tryz.pinned (OpenSpec.ofChange Rows.rangesOutsideSpec) := over (walkW runs)
theorem ranges_outside_card : Rows.RangesOutsideCardSaid :=
  Claim7.holds_tied_plain_at .later [] [.data, .listed, .pinned, .data, .data, .data, .data, .sentinel, .sentinel, .data, .data, .data] true (true, "d66975ecf74eb2f28f1f6a82839b8447912a00f79ead62ce6917a4c9c881216c") true ranges_outside (fun _ h => by cases h) card_wf (fun _ h => by cases h) rangesOutside_row_tie rfl ⟨rfl, rfl⟩ card_main rfl
    (fun f fn hf hfn => by
      obtain rfl : f = 3 := (Option.some.inj (fac_named.symm.trans hf)).symm
      obtain rfl : fn = Tryz.f3 := (Option.some.inj (Tryz.func3.symm.trans hfn)).symm
      exact ⟨card_looks, fun j t ht => by
        rw [Tryz.params3] at ht
        have hm : t ∈ [5, 5] := by simpa using Array.mem_of_getElem? ht
        exact (show Tryz.prog.wantsStandIn t = false by simpa using List.all_eq_true.1 card_wants t hm)⟩)
    card_goes
end Go.Proofs.YtefnobgpfbcloaaGreatDoor
