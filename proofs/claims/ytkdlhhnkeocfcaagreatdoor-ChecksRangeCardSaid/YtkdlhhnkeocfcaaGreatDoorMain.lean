/-
  ChecksRange (columnsevenlaw24): for every slice of pairs of small numbers, whatever its length and what lies in it, and every array of three small numbers the call returns true and leaves its arguments as they were. Conditions: those of the given card (the listed variables lie as the text lays them, and that is tied; calm; time passes).
-/
import Derived.Test.YtkdlhhnkeocfcaaGreatDoorRow
import Derived.Test.YtkdlhhnkeocfcaaGreatDoorWalkW
import Derived.Test.YtkdlhhnkeocfcaaGreatDoorCards
import Derived.Test.YtkdlhhnkeocfcaaGreatDoorRunS
import Derived.Test.YtkdlhhnkeocfcaaGreatDoorRunP
import Derived.Test.YtkdlhhnkeocfcaaGreatDoorRunT
import Derived.Test.YtkdlhhnkeocfcaaGreatDoorRunHa
import Derived.Test.YtkdlhhnkeocfcaaGreatDoorRunHb
import Derived.Test.YtkdlhhnkeocfcaaGreatDoorRunQ
import Derived.Test.YtkdlhhnkeocfcaaGreatDoorRunG
import Derived.Test.YtkdlhhnkeocfcaaGreatDoorRunR0
import Derived.Test.YtkdlhhnkeocfcaaGreatDoorRunR1
import Derived.Test.YtkdlhhnkeocfcaaGreatDoorRunR2
import Derived.Test.YtkdlhhnkeocfcaaGreatDoorRunR3
import Derived.Test.YtkdlhhnkeocfcaaGreatDoorFac4
import Derived.Test.YtkdlhhnkeocfcaaGreatDoorTn
import Derived.SevenTiedAt
set_option linter.unusedVariables false
set_option linter.unusedSimpArgs false
namespace Go.Proofs.YtkdlhhnkeocfcaaGreatDoor
open Go Go.Abs
theorem runs : Runs where
  words := runW_run
  s2_true := run2_true_run
  s3_ps00 := run3_ps00_run
  s3_ps01 := run3_ps01_run
  s3_ps02 := run3_ps02_run
  s3_ps03 := run3_ps03_run
  s3_ps10 := run3_ps10_run
  s3_ps11 := run3_ps11_run
  s3_ps12 := run3_ps12_run
  s3_ps13 := run3_ps13_run
  s3_ps20 := run3_ps20_run
  s3_ps21 := run3_ps21_run
  s3_ps22 := run3_ps22_run
  s3_ps23 := run3_ps23_run
  s3_ps30 := run3_ps30_run
  s3_ps31 := run3_ps31_run
  s3_ps32 := run3_ps32_run
  s3_ps33 := run3_ps33_run
  cT := fun q hq => by
    simp only [segsS, List.mem_cons, List.mem_nil_iff, or_false] at hq
    rcases hq with rfl | rfl | rfl | rfl | rfl | rfl | rfl | rfl | rfl | rfl | rfl | rfl | rfl | rfl | rfl | rfl | rfl
    · exact cT0_0
    · exact cT1_0
    · exact cT2_0
    · exact cT3_0
    · exact cT4_0
    · exact cT5_0
    · exact cT6_0
    · exact cT7_0
    · exact cT7_64
    · exact cT8_0
    · exact cT8_32
    · exact cT8_64
    · exact cT8_96
    · exact cT8_128
    · exact cT8_160
    · exact cT8_192
    · exact cT8_224
  cH := fun q hq => by
    simp only [segsS, List.mem_cons, List.mem_nil_iff, or_false] at hq
    rcases hq with rfl | rfl | rfl | rfl | rfl | rfl | rfl | rfl | rfl | rfl | rfl | rfl | rfl | rfl | rfl | rfl | rfl
    · exact cH0_0
    · exact cH1_0
    · exact cH2_0
    · exact cH3_0
    · exact cH4_0
    · exact cH5_0
    · exact cH6_0
    · exact cH7_0
    · exact cH7_64
    · exact cH8_0
    · exact cH8_32
    · exact cH8_64
    · exact cH8_96
    · exact cH8_128
    · exact cH8_160
    · exact cH8_192
    · exact cH8_224
  cO := fun q hq => by
    simp only [segsS, List.mem_cons, List.mem_nil_iff, or_false] at hq
    rcases hq with rfl | rfl | rfl | rfl | rfl | rfl | rfl | rfl | rfl | rfl | rfl | rfl | rfl | rfl | rfl | rfl | rfl
    · exact cO0_0
    · exact cO1_0
    · exact cO2_0
    · exact cO3_0
    · exact cO4_0
    · exact cO5_0
    · exact cO6_0
    · exact cO7_0
    · exact cO7_64
    · exact cO8_0
    · exact cO8_32
    · exact cO8_64
    · exact cO8_96
    · exact cO8_128
    · exact cO8_160
    · exact cO8_192
    · exact cO8_224
  cF := fun q hq => by
    simp only [segsS, List.mem_cons, List.mem_nil_iff, or_false] at hq
    rcases hq with rfl | rfl | rfl | rfl | rfl | rfl | rfl | rfl | rfl | rfl | rfl | rfl | rfl | rfl | rfl | rfl | rfl
    · exact cF0_0
    · exact cF1_0
    · exact cF2_0
    · exact cF3_0
    · exact cF4_0
    · exact cF5_0
    · exact cF6_0
    · exact cF7_0
    · exact cF7_64
    · exact cF8_0
    · exact cF8_32
    · exact cF8_64
    · exact cF8_96
    · exact cF8_128
    · exact cF8_160
    · exact cF8_192
    · exact cF8_224
  cQ := fun q hq => by
    simp only [segsO, List.mem_cons, List.mem_nil_iff, or_false] at hq
    rcases hq with rfl | rfl | rfl | rfl | rfl | rfl | rfl | rfl | rfl | rfl | rfl | rfl | rfl | rfl | rfl | rfl | rfl | rfl | rfl | rfl | rfl | rfl | rfl | rfl | rfl | rfl | rfl | rfl
    · exact cQ0_0
    · exact cQ1_0
    · exact cQ2_0
    · exact cQ3_0
    · exact cQ4_0
    · exact cQ5_0
    · exact cQ6_0
    · exact cQ6_32
    · exact cQ7_0
    · exact cQ7_32
    · exact cQ7_64
    · exact cQ7_96
    · exact cQ8_0
    · exact cQ8_16
    · exact cQ8_32
    · exact cQ8_48
    · exact cQ8_64
    · exact cQ8_80
    · exact cQ8_96
    · exact cQ8_112
    · exact cQ8_128
    · exact cQ8_144
    · exact cQ8_160
    · exact cQ8_176
    · exact cQ8_192
    · exact cQ8_208
    · exact cQ8_224
    · exact cQ8_240
  cG := fun q hq => by
    simp only [segsO, List.mem_cons, List.mem_nil_iff, or_false] at hq
    rcases hq with rfl | rfl | rfl | rfl | rfl | rfl | rfl | rfl | rfl | rfl | rfl | rfl | rfl | rfl | rfl | rfl | rfl | rfl | rfl | rfl | rfl | rfl | rfl | rfl | rfl | rfl | rfl | rfl
    · exact cG0_0
    · exact cG1_0
    · exact cG2_0
    · exact cG3_0
    · exact cG4_0
    · exact cG5_0
    · exact cG6_0
    · exact cG6_32
    · exact cG7_0
    · exact cG7_32
    · exact cG7_64
    · exact cG7_96
    · exact cG8_0
    · exact cG8_16
    · exact cG8_32
    · exact cG8_48
    · exact cG8_64
    · exact cG8_80
    · exact cG8_96
    · exact cG8_112
    · exact cG8_128
    · exact cG8_144
    · exact cG8_160
    · exact cG8_176
    · exact cG8_192
    · exact cG8_208
    · exact cG8_224
    · exact cG8_240
  nm := fun c hc => by
    match c, hc with
    | 0, _ => exact nm0
    | 1, _ => exact nm1
    | 2, _ => exact nm2
    | 3, _ => exact nm3
  sc := fun c hc => by
    match c, hc with
    | 0, _ => exact sc0
    | 1, _ => exact sc1
    | 2, _ => exact sc2
    | 3, _ => exact sc3
  big := big_run
  root := fun n hn o0 o2 c hc => by
    match n, hn, o0, o2 with
    | 0, _, false, false =>
      rcases Nat.lt_or_ge c 32 with q | q
      · exact ⟨0, 32, by omega, by omega, r0_00_0⟩
      · exact ⟨32, 32, by omega, by omega, r0_00_32⟩
    | 0, _, false, true =>
      rcases Nat.lt_or_ge c 32 with q | q
      · exact ⟨0, 32, by omega, by omega, r0_01_0⟩
      · exact ⟨32, 32, by omega, by omega, r0_01_32⟩
    | 0, _, true, false =>
      rcases Nat.lt_or_ge c 32 with q | q
      · exact ⟨0, 32, by omega, by omega, r0_10_0⟩
      · exact ⟨32, 32, by omega, by omega, r0_10_32⟩
    | 0, _, true, true =>
      rcases Nat.lt_or_ge c 32 with q | q
      · exact ⟨0, 32, by omega, by omega, r0_11_0⟩
      · exact ⟨32, 32, by omega, by omega, r0_11_32⟩
    | 1, _, false, false =>
      rcases Nat.lt_or_ge c 32 with q | q
      · exact ⟨0, 32, by omega, by omega, r1_00_0⟩
      · exact ⟨32, 32, by omega, by omega, r1_00_32⟩
    | 1, _, false, true =>
      rcases Nat.lt_or_ge c 32 with q | q
      · exact ⟨0, 32, by omega, by omega, r1_01_0⟩
      · exact ⟨32, 32, by omega, by omega, r1_01_32⟩
    | 1, _, true, false =>
      rcases Nat.lt_or_ge c 32 with q | q
      · exact ⟨0, 32, by omega, by omega, r1_10_0⟩
      · exact ⟨32, 32, by omega, by omega, r1_10_32⟩
    | 1, _, true, true =>
      rcases Nat.lt_or_ge c 32 with q | q
      · exact ⟨0, 32, by omega, by omega, r1_11_0⟩
      · exact ⟨32, 32, by omega, by omega, r1_11_32⟩
    | 2, _, false, false =>
      rcases Nat.lt_or_ge c 32 with q | q
      · exact ⟨0, 32, by omega, by omega, r2_00_0⟩
      · exact ⟨32, 32, by omega, by omega, r2_00_32⟩
    | 2, _, false, true =>
      rcases Nat.lt_or_ge c 32 with q | q
      · exact ⟨0, 32, by omega, by omega, r2_01_0⟩
      · exact ⟨32, 32, by omega, by omega, r2_01_32⟩
    | 2, _, true, false =>
      rcases Nat.lt_or_ge c 32 with q | q
      · exact ⟨0, 32, by omega, by omega, r2_10_0⟩
      · exact ⟨32, 32, by omega, by omega, r2_10_32⟩
    | 2, _, true, true =>
      rcases Nat.lt_or_ge c 32 with q | q
      · exact ⟨0, 32, by omega, by omega, r2_11_0⟩
      · exact ⟨32, 32, by omega, by omega, r2_11_32⟩
    | 3, _, false, false =>
      rcases Nat.lt_or_ge c 32 with q | q
      · exact ⟨0, 32, by omega, by omega, r3_00_0⟩
      · exact ⟨32, 32, by omega, by omega, r3_00_32⟩
    | 3, _, false, true =>
      rcases Nat.lt_or_ge c 32 with q | q
      · exact ⟨0, 32, by omega, by omega, r3_01_0⟩
      · exact ⟨32, 32, by omega, by omega, r3_01_32⟩
    | 3, _, true, false =>
      rcases Nat.lt_or_ge c 32 with q | q
      · exact ⟨0, 32, by omega, by omega, r3_10_0⟩
      · exact ⟨32, 32, by omega, by omega, r3_10_32⟩
    | 3, _, true, true =>
      rcases Nat.lt_or_ge c 32 with q | q
      · exact ⟨0, 32, by omega, by omega, r3_11_0⟩
      · exact ⟨32, 32, by omega, by omega, r3_11_32⟩
    | 4, _, false, false =>
      rcases Nat.lt_or_ge c 32 with q | q
      · exact ⟨0, 32, by omega, by omega, r4_00_0⟩
      · exact ⟨32, 32, by omega, by omega, r4_00_32⟩
    | 4, _, false, true =>
      rcases Nat.lt_or_ge c 32 with q | q
      · exact ⟨0, 32, by omega, by omega, r4_01_0⟩
      · exact ⟨32, 32, by omega, by omega, r4_01_32⟩
    | 4, _, true, false =>
      rcases Nat.lt_or_ge c 32 with q | q
      · exact ⟨0, 32, by omega, by omega, r4_10_0⟩
      · exact ⟨32, 32, by omega, by omega, r4_10_32⟩
    | 4, _, true, true =>
      rcases Nat.lt_or_ge c 32 with q | q
      · exact ⟨0, 32, by omega, by omega, r4_11_0⟩
      · exact ⟨32, 32, by omega, by omega, r4_11_32⟩
    | 5, _, false, false =>
      rcases Nat.lt_or_ge c 32 with q | q
      · exact ⟨0, 32, by omega, by omega, r5_00_0⟩
      · exact ⟨32, 32, by omega, by omega, r5_00_32⟩
    | 5, _, false, true =>
      rcases Nat.lt_or_ge c 32 with q | q
      · exact ⟨0, 32, by omega, by omega, r5_01_0⟩
      · exact ⟨32, 32, by omega, by omega, r5_01_32⟩
    | 5, _, true, false =>
      rcases Nat.lt_or_ge c 32 with q | q
      · exact ⟨0, 32, by omega, by omega, r5_10_0⟩
      · exact ⟨32, 32, by omega, by omega, r5_10_32⟩
    | 5, _, true, true =>
      rcases Nat.lt_or_ge c 32 with q | q
      · exact ⟨0, 32, by omega, by omega, r5_11_0⟩
      · exact ⟨32, 32, by omega, by omega, r5_11_32⟩
    | 6, _, false, false =>
      rcases Nat.lt_or_ge c 32 with q | q
      · exact ⟨0, 32, by omega, by omega, r6_00_0⟩
      · exact ⟨32, 32, by omega, by omega, r6_00_32⟩
    | 6, _, false, true =>
      rcases Nat.lt_or_ge c 32 with q | q
      · exact ⟨0, 32, by omega, by omega, r6_01_0⟩
      · exact ⟨32, 32, by omega, by omega, r6_01_32⟩
    | 6, _, true, false =>
      rcases Nat.lt_or_ge c 32 with q | q
      · exact ⟨0, 32, by omega, by omega, r6_10_0⟩
      · exact ⟨32, 32, by omega, by omega, r6_10_32⟩
    | 6, _, true, true =>
      rcases Nat.lt_or_ge c 32 with q | q
      · exact ⟨0, 32, by omega, by omega, r6_11_0⟩
      · exact ⟨32, 32, by omega, by omega, r6_11_32⟩
    | 7, _, false, false =>
      rcases Nat.lt_or_ge c 32 with q | q
      · exact ⟨0, 32, by omega, by omega, r7_00_0⟩
      · exact ⟨32, 32, by omega, by omega, r7_00_32⟩
    | 7, _, false, true =>
      rcases Nat.lt_or_ge c 32 with q | q
      · exact ⟨0, 32, by omega, by omega, r7_01_0⟩
      · exact ⟨32, 32, by omega, by omega, r7_01_32⟩
    | 7, _, true, false =>
      rcases Nat.lt_or_ge c 32 with q | q
      · exact ⟨0, 32, by omega, by omega, r7_10_0⟩
      · exact ⟨32, 32, by omega, by omega, r7_10_32⟩
    | 7, _, true, true =>
      rcases Nat.lt_or_ge c 32 with q | q
      · exact ⟨0, 32, by omega, by omega, r7_11_0⟩
      · exact ⟨32, 32, by omega, by omega, r7_11_32⟩
    | 8, _, false, false =>
      rcases Nat.lt_or_ge c 32 with q | q
      · exact ⟨0, 32, by omega, by omega, r8_00_0⟩
      · exact ⟨32, 32, by omega, by omega, r8_00_32⟩
    | 8, _, false, true =>
      rcases Nat.lt_or_ge c 32 with q | q
      · exact ⟨0, 32, by omega, by omega, r8_01_0⟩
      · exact ⟨32, 32, by omega, by omega, r8_01_32⟩
    | 8, _, true, false =>
      rcases Nat.lt_or_ge c 32 with q | q
      · exact ⟨0, 32, by omega, by omega, r8_10_0⟩
      · exact ⟨32, 32, by omega, by omega, r8_10_32⟩
    | 8, _, true, true =>
      rcases Nat.lt_or_ge c 32 with q | q
      · exact ⟨0, 32, by omega, by omega, r8_11_0⟩
      · exact ⟨32, 32, by omega, by omega, r8_11_32⟩
theorem checksRange_proved : Rows.checksRangeRow.holds Tryz.pinned (OpenSpec.ofChange Rows.checksRangeSpec) := over fun v x y z W hx hy hz hp hL hsh => walk runs v x y z hx hy hz hp (facts hL hsh)

theorem checks_range_card : Rows.ChecksRangeCardSaid :=
  Claim7.holds_tied_plain_at .later [] [.data, .listed, .pinned, .data, .sentinel, .sentinel, .data, .data, .data, .data, .data, .data] true (true, "12acb51af21a75aea7c359db76e664c1d58f4142b23a8dea9ccf108561361404") true checksRange_proved (fun _ h => by cases h) card_wf (fun _ h => by cases h) checksRange_row_tie rfl ⟨rfl, rfl⟩ card_main rfl
    (fun f fn hf hfn => by
      obtain rfl : f = 3 := (Option.some.inj (fac_named.symm.trans hf)).symm
      obtain rfl : fn = Tryz.f3 := (Option.some.inj (Tryz.func3.symm.trans hfn)).symm
      exact ⟨card_looks, fun j t ht => by
        rw [Tryz.params3] at ht
        have hm : t ∈ [22, 23] := by simpa using Array.mem_of_getElem? ht
        exact (show Tryz.prog.wantsStandIn t = false by simpa using List.all_eq_true.1 card_wants t hm)⟩)
    card_goes
end Go.Proofs.YtkdlhhnkeocfcaaGreatDoor
