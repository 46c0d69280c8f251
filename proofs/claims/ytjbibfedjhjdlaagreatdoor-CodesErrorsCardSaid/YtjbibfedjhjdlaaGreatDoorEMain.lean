/-
  CodesErrors (columnsevenlaw28): for every proof, of whatever length and whatever ranges, the call returns true and leaves its argument as it was. Conditions: those of the given card (the listed variables lie as the text lays them, and that is tied; calm; time passes).
-/
import Derived.Test.YtjbibfedjhjdlaaGreatDoorERow
import Derived.Test.YtjbibfedjhjdlaaGreatDoorEWalkW
import Derived.Test.YtjbibfedjhjdlaaGreatDoorCards
import Derived.Test.YtjbibfedjhjdlaaGreatDoorERunS
import Derived.Test.YtjbibfedjhjdlaaGreatDoorERunE0
import Derived.Test.YtjbibfedjhjdlaaGreatDoorERunE1
import Derived.Test.YtjbibfedjhjdlaaGreatDoorERunE2
import Derived.Test.YtjbibfedjhjdlaaGreatDoorEFac4
import Derived.Test.YtjbibfedjhjdlaaGreatDoorETn
import Derived.SevenTiedAt
set_option linter.unusedVariables false
set_option linter.unusedSimpArgs false
namespace Go.Proofs.YtjbibfedjhjdlaaGreatDoor
open Go Go.Abs
theorem runs : Runs where
  words := runW_run
  s2_true := run2_true_run
  cN := cN_run
  cBig := cBig_run
  cA := cA_run
  cB := cB_run
  cC := cC_run
  cD := cD_run
  cE := cE_run
  cL := fun n hn => by
    rcases hn with rfl | rfl | rfl | rfl | rfl
    · exact cL0_run
    · exact cL2_run
    · exact cL3_run
    · exact cL4_run
    · exact cL5_run
theorem codesErrors_proved : Rows.codesErrorsRow.holds Tryz.pinned (OpenSpec.ofChange Rows.codesErrorsSpec) := over fun v W hp hL hsh => walk runs v hp (facts hL hsh)

theorem codes_errors_card : Rows.CodesErrorsCardSaid :=
  Claim7.holds_tied_plain_at .later [] [.data, .listed, .pinned, .data, .sentinel, .sentinel, .data, .data, .data, .data, .data, .data] true (true, "150a2771c79d1c9eb91114329e4c3cfa7d511ab3c25821d00096c6dafa1c0a07") true codesErrors_proved (fun _ h => by cases h) card_wf (fun _ h => by cases h) codesErrors_row_tie rfl ⟨rfl, rfl⟩ card_main rfl
    (fun f fn hf hfn => by
      obtain rfl : f = 3 := (Option.some.inj (fac_named.symm.trans hf)).symm
      obtain rfl : fn = Tryz.f3 := (Option.some.inj (Tryz.func3.symm.trans hfn)).symm
      exact ⟨card_looks, fun j t ht => by
        rw [Tryz.params3] at ht
        have hm : t ∈ [24] := by simpa using Array.mem_of_getElem? ht
        exact (show Tryz.prog.wantsStandIn t = false by simpa using List.all_eq_true.1 card_wants t hm)⟩)
    card_goes
end Go.Proofs.YtjbibfedjhjdlaaGreatDoor
