/-
  MachinesOutside (columnsevenlaw25): for every verb number, stage and answer the call returns true and leaves its arguments as they were. Conditions: those of the given card (the listed variables lie as the text lays them, and that is tied; calm; time passes).
-/
import Derived.Test.YtgadddljaneilaaGreatDoorMRow
import Derived.Test.YtgadddljaneilaaGreatDoorMWalkW
import Derived.Test.YtgadddljaneilaaGreatDoorCards
import Derived.Test.YtgadddljaneilaaGreatDoorMRunL
import Derived.Test.YtgadddljaneilaaGreatDoorMRunS
import Derived.Test.YtgadddljaneilaaGreatDoorMRunT0
import Derived.Test.YtgadddljaneilaaGreatDoorMRunT1
import Derived.Test.YtgadddljaneilaaGreatDoorMRunF0
import Derived.Test.YtgadddljaneilaaGreatDoorMRunF1
import Derived.Test.YtgadddljaneilaaGreatDoorMFac4
import Derived.Test.YtgadddljaneilaaGreatDoorMTn
import Derived.SevenTiedAt
set_option linter.unusedVariables false
set_option linter.unusedSimpArgs false
namespace Go.Proofs.YtgadddljaneilaaGreatDoor
open Go Go.Abs
theorem verbs0_eq : verbs0 = List.range' 0 43 := by decide +kernel
theorem verbs1_eq : verbs1 = List.range' 43 43 := by decide +kernel
theorem verbs2_eq : verbs2 = List.range' 86 43 := by decide +kernel
theorem verbs3_eq : verbs3 = List.range' 129 43 := by decide +kernel
theorem verbs4_eq : verbs4 = List.range' 172 43 := by decide +kernel
theorem verbs5_eq : verbs5 = List.range' 215 41 := by decide +kernel
theorem runs : Runs where
  words := words_run
  s2_true := lives_run
  s3_mm1 := state1_run
  s3_mm2 := state2_run
  cases := fun h v hv => by
    by_cases h0 : v < 43
    · exact ⟨verbs0, by rw [verbs0_eq, List.mem_range'_1]; omega, match h with | false => run_F0 | true => run_T0⟩
    by_cases h1 : v < 86
    · exact ⟨verbs1, by rw [verbs1_eq, List.mem_range'_1]; omega, match h with | false => run_F1 | true => run_T1⟩
    by_cases h2 : v < 129
    · exact ⟨verbs2, by rw [verbs2_eq, List.mem_range'_1]; omega, match h with | false => run_F2 | true => run_T2⟩
    by_cases h3 : v < 172
    · exact ⟨verbs3, by rw [verbs3_eq, List.mem_range'_1]; omega, match h with | false => run_F3 | true => run_T3⟩
    by_cases h4 : v < 215
    · exact ⟨verbs4, by rw [verbs4_eq, List.mem_range'_1]; omega, match h with | false => run_F4 | true => run_T4⟩
    exact ⟨verbs5, by rw [verbs5_eq, List.mem_range'_1]; omega, match h with | false => run_F5 | true => run_T5⟩
theorem machinesOutside_proved : Rows.machinesOutsideRow.holds Tryz.pinned (OpenSpec.ofChange Rows.machinesOutsideSpec) := over fun a0 a1 b2 w0 w1 W hL hsh => walk runs a0 a1 b2 w0 w1 (facts hL hsh)

theorem machines_outside_card : Rows.MachinesOutsideCardSaid :=
  Claim7.holds_tied_plain_at .later [] [.data, .listed, .pinned, .data, .sentinel, .sentinel, .data, .data, .data, .data, .data, .data] true (true, "8d75547715a4c17782b5d8d77eecc7732500609e67af49444bae7e42b6ec9170") true machinesOutside_proved (fun _ h => by cases h) card_wf (fun _ h => by cases h) machinesOutside_row_tie rfl ⟨rfl, rfl⟩ card_main rfl
    (fun f fn hf hfn => by
      obtain rfl : f = 3 := (Option.some.inj (fac_named.symm.trans hf)).symm
      obtain rfl : fn = Tryz.f3 := (Option.some.inj (Tryz.func3.symm.trans hfn)).symm
      exact ⟨card_looks, fun j t ht => by
        rw [Tryz.params3] at ht
        have hm : t ∈ [5, 3, 4] := by simpa using Array.mem_of_getElem? ht
        exact (show Tryz.prog.wantsStandIn t = false by simpa using List.all_eq_true.1 card_wants t hm)⟩)
    card_goes
end Go.Proofs.YtgadddljaneilaaGreatDoor
