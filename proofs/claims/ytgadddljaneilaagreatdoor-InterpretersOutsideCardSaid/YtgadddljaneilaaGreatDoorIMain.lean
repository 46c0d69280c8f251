/-
  InterpretersOutside (columnsevenlaw26): for every number of times, every two numbers and every last number the call returns true and leaves its arguments as they were. Conditions: those of the given card (the listed variables lie as the text lays them, and that is tied; calm; time passes).
-/
import Derived.Test.YtgadddljaneilaaGreatDoorIRow
import Derived.Test.YtgadddljaneilaaGreatDoorIWalkW
import Derived.Test.YtgadddljaneilaaGreatDoorCards
import Derived.Test.YtgadddljaneilaaGreatDoorIRunL
import Derived.Test.YtgadddljaneilaaGreatDoorIRunS
import Derived.Test.YtgadddljaneilaaGreatDoorIRunI0
import Derived.Test.YtgadddljaneilaaGreatDoorIRunI1
import Derived.Test.YtgadddljaneilaaGreatDoorIRunI2
import Derived.Test.YtgadddljaneilaaGreatDoorIRunI3
import Derived.Test.YtgadddljaneilaaGreatDoorIRunI4
import Derived.Test.YtgadddljaneilaaGreatDoorIRunI5
import Derived.Test.YtgadddljaneilaaGreatDoorIFac4
import Derived.Test.YtgadddljaneilaaGreatDoorITn
import Derived.SevenTiedAt
set_option linter.unusedVariables false
set_option linter.unusedSimpArgs false
namespace Go.Proofs.YtgadddljaneilaaGreatDoor
open Go Go.Abs
theorem runs : Runs where
  words := words_run
  s2_ib0 := build0_run
  s2_ib1 := build1_run
  s2_ib2 := build2_run
  s2_ib3 := build3_run
  s3_ib4 := build4_run
  s3_trueL := lives_run
  cases := fun x a l hx ha hl => by
    match l, hl with
    | 0, _ => exact runs_0 x a hx ha
    | 1, _ => exact runs_1 x a hx ha
    | 2, _ => exact runs_2 x a hx ha
    | 3, _ => exact runs_3 x a hx ha
    | 4, _ => exact runs_4 x a hx ha
    | 5, _ => exact runs_5 x a hx ha
    | l + 6, hl => omega
theorem interpretersOutside_proved : Rows.interpretersOutsideRow.holds Tryz.pinned (OpenSpec.ofChange Rows.interpretersOutsideSpec) := over fun a0 b0 b1 c0 w0 w1 w2 w3 W hL hsh => walk runs a0 b0 b1 c0 w0 w1 w2 w3 (facts hL hsh)

theorem interpreters_outside_card : Rows.InterpretersOutsideCardSaid :=
  Claim7.holds_tied_plain_at .later [] [.data, .data, .data, .data, .listed, .pinned, .data, .sentinel, .sentinel, .data, .data, .data] true (true, "8d75547715a4c17782b5d8d77eecc7732500609e67af49444bae7e42b6ec9170") true interpretersOutside_proved (fun _ h => by cases h) card_wf (fun _ h => by cases h) interpretersOutside_row_tie rfl ⟨rfl, rfl⟩ card_main rfl
    (fun f fn hf hfn => by
      obtain rfl : f = 4 := (Option.some.inj (fac_named.symm.trans hf)).symm
      obtain rfl : fn = Tryz.f4 := (Option.some.inj (Tryz.func4.symm.trans hfn)).symm
      exact ⟨card_looks, fun j t ht => by
        rw [Tryz.params4] at ht
        have hm : t ∈ [5, 60, 5] := by simpa using Array.mem_of_getElem? ht
        exact (show Tryz.prog.wantsStandIn t = false by simpa using List.all_eq_true.1 card_wants t hm)⟩)
    card_goes
end Go.Proofs.YtgadddljaneilaaGreatDoor
