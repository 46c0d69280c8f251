/-
  DispatchesOutside (columnsevenlaw29): for every number of times, every range, every number of steps and every last answer the call returns true and leaves its arguments as they were. Conditions: those of the given card (the listed variables lie as the text lays them, and that is tied; calm; time passes).
-/
import Derived.Test.YtekonojimffbhaaGreatDoorRow
import Derived.Test.YtekonojimffbhaaGreatDoorWalkW
import Derived.Test.YtekonojimffbhaaGreatDoorCards
import Derived.Test.YtekonojimffbhaaGreatDoorRunS0
import Derived.Test.YtekonojimffbhaaGreatDoorRunS1
import Derived.Test.YtekonojimffbhaaGreatDoorRunO0
import Derived.Test.YtekonojimffbhaaGreatDoorRunO1
import Derived.Test.YtekonojimffbhaaGreatDoorRunO2
import Derived.Test.YtekonojimffbhaaGreatDoorRunO3
import Derived.Test.YtekonojimffbhaaGreatDoorRunO4
import Derived.Test.YtekonojimffbhaaGreatDoorRunO5
import Derived.Test.YtekonojimffbhaaGreatDoorRunO6
import Derived.Test.YtekonojimffbhaaGreatDoorRunO7
import Derived.Test.YtekonojimffbhaaGreatDoorRunO8
import Derived.Test.YtekonojimffbhaaGreatDoorRunO9
import Derived.Test.YtekonojimffbhaaGreatDoorFac4
import Derived.Test.YtekonojimffbhaaGreatDoorTn
import Derived.SevenTiedAt
set_option linter.unusedVariables false
set_option linter.unusedSimpArgs false
namespace Go.Proofs.YtekonojimffbhaaGreatDoor
open Go Go.Abs
theorem runs : Runs where
  words := runW_run
  s2_true := run2_true_run
  s3_prg := run3_prg_run
  s4_tk0 := run4_tk0_run
  s4_tk1 := run4_tk1_run
  s5_bld := run5_bld_run
  s6_mac := run6_mac_run
  s6_mac2 := run6_mac2_run
  s7_ck0 := run7_ck0_run
  s7_ck1 := run7_ck1_run
  s7_ck2 := run7_ck2_run
  s7_ck3 := run7_ck3_run
  s7_ck4 := run7_ck4_run
  s8_sum := run8_sum_run
  s8_sum1 := run8_sum1_run
  s9_num0 := run9_num0_run
  s9_num1 := run9_num1_run
  s10_ctd := run10_ctd_run
  s10_ctc := run10_ctc_run
  cases := fun i hi => by
    have hi : i < 96 := Nat.lt_of_lt_of_eq hi (by decide +kernel)
    match i, hi with
    | 0, _ => exact case0
    | 1, _ => exact case1
    | 2, _ => exact case2
    | 3, _ => exact case3
    | 4, _ => exact case4
    | 5, _ => exact case5
    | 6, _ => exact case6
    | 7, _ => exact case7
    | 8, _ => exact case8
    | 9, _ => exact case9
    | 10, _ => exact case10
    | 11, _ => exact case11
    | 12, _ => exact case12
    | 13, _ => exact case13
    | 14, _ => exact case14
    | 15, _ => exact case15
    | 16, _ => exact case16
    | 17, _ => exact case17
    | 18, _ => exact case18
    | 19, _ => exact case19
    | 20, _ => exact case20
    | 21, _ => exact case21
    | 22, _ => exact case22
    | 23, _ => exact case23
    | 24, _ => exact case24
    | 25, _ => exact case25
    | 26, _ => exact case26
    | 27, _ => exact case27
    | 28, _ => exact case28
    | 29, _ => exact case29
    | 30, _ => exact case30
    | 31, _ => exact case31
    | 32, _ => exact case32
    | 33, _ => exact case33
    | 34, _ => exact case34
    | 35, _ => exact case35
    | 36, _ => exact case36
    | 37, _ => exact case37
    | 38, _ => exact case38
    | 39, _ => exact case39
    | 40, _ => exact case40
    | 41, _ => exact case41
    | 42, _ => exact case42
    | 43, _ => exact case43
    | 44, _ => exact case44
    | 45, _ => exact case45
    | 46, _ => exact case46
    | 47, _ => exact case47
    | 48, _ => exact case48
    | 49, _ => exact case49
    | 50, _ => exact case50
    | 51, _ => exact case51
    | 52, _ => exact case52
    | 53, _ => exact case53
    | 54, _ => exact case54
    | 55, _ => exact case55
    | 56, _ => exact case56
    | 57, _ => exact case57
    | 58, _ => exact case58
    | 59, _ => exact case59
    | 60, _ => exact case60
    | 61, _ => exact case61
    | 62, _ => exact case62
    | 63, _ => exact case63
    | 64, _ => exact case64
    | 65, _ => exact case65
    | 66, _ => exact case66
    | 67, _ => exact case67
    | 68, _ => exact case68
    | 69, _ => exact case69
    | 70, _ => exact case70
    | 71, _ => exact case71
    | 72, _ => exact case72
    | 73, _ => exact case73
    | 74, _ => exact case74
    | 75, _ => exact case75
    | 76, _ => exact case76
    | 77, _ => exact case77
    | 78, _ => exact case78
    | 79, _ => exact case79
    | 80, _ => exact case80
    | 81, _ => exact case81
    | 82, _ => exact case82
    | 83, _ => exact case83
    | 84, _ => exact case84
    | 85, _ => exact case85
    | 86, _ => exact case86
    | 87, _ => exact case87
    | 88, _ => exact case88
    | 89, _ => exact case89
    | 90, _ => exact case90
    | 91, _ => exact case91
    | 92, _ => exact case92
    | 93, _ => exact case93
    | 94, _ => exact case94
    | 95, _ => exact case95
    | n + 96, h => exact absurd h (by omega)
theorem dispatchesOutside_proved : Rows.dispatchesOutsideRow.holds Tryz.pinned (OpenSpec.ofChange Rows.dispatchesOutsideSpec) := over fun a0 b0 b1 c0 w0 w1 w2 w3 W hL hsh => walk runs a0 b0 b1 c0 w0 w1 w2 w3 (facts hL hsh)

theorem dispatches_outside_card : Rows.DispatchesOutsideCardSaid :=
  Claim7.holds_tied_plain_at .later [] [.data, .listed, .pinned, .data, .sentinel, .sentinel, .data, .data, .data, .data, .data, .data] true (true, "98c8338aeb9877b4bc8c070af55dbdb99749c4dbe255186e9c6af4591f696c91") true dispatchesOutside_proved (fun _ h => by cases h) card_wf (fun _ h => by cases h) dispatchesOutside_row_tie rfl ⟨rfl, rfl⟩ card_main rfl
    (fun f fn hf hfn => by
      obtain rfl : f = 3 := (Option.some.inj (fac_named.symm.trans hf)).symm
      obtain rfl : fn = Tryz.f3 := (Option.some.inj (Tryz.func3.symm.trans hfn)).symm
      exact ⟨card_looks, fun j t ht => by
        rw [Tryz.params3] at ht
        have hm : t ∈ [5, 22, 5] := by simpa using Array.mem_of_getElem? ht
        exact (show Tryz.prog.wantsStandIn t = false by simpa using List.all_eq_true.1 card_wants t hm)⟩)
    card_goes
end Go.Proofs.YtekonojimffbhaaGreatDoor
