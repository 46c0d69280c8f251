/-
  DispatchesErrors (columnsevenlaw29): for every two numbers the call returns true and leaves its arguments as they were. Conditions: those of the given card (the listed variables lie as the text lays them, and that is tied; calm; time passes).
-/
import Derived.Test.YtecdpkikjiaecaaGreatDoorRow
import Derived.Test.YtecdpkikjiaecaaGreatDoorWalkW
import Derived.Test.YtecdpkikjiaecaaGreatDoorCards
import Derived.Test.YtecdpkikjiaecaaGreatDoorRunL
import Derived.Test.YtecdpkikjiaecaaGreatDoorRunC0
import Derived.Test.YtecdpkikjiaecaaGreatDoorRunC1
import Derived.Test.YtecdpkikjiaecaaGreatDoorRunC2
import Derived.Test.YtecdpkikjiaecaaGreatDoorRunC3
import Derived.Test.YtecdpkikjiaecaaGreatDoorRunD1
import Derived.Test.YtecdpkikjiaecaaGreatDoorRunD2
import Derived.Test.YtecdpkikjiaecaaGreatDoorRunD3
import Derived.Test.YtecdpkikjiaecaaGreatDoorFac4
import Derived.Test.YtecdpkikjiaecaaGreatDoorTn
import Derived.SevenTiedAt
set_option linter.unusedVariables false
set_option linter.unusedSimpArgs false
namespace Go.Proofs.YtecdpkikjiaecaaGreatDoor
open Go Go.Abs
theorem runs : Runs where
  words := words_run
  lives := lives_run
  zero := fun b hb => by
    match b, hb with
    | 0, _ => exact run_z0
    | 1, _ => exact run_z1
    | 2, _ => exact run_z2
    | 3, _ => exact run_z3
    | b + 4, hb => omega
  more := fun m h1 h2 => by
    match m, h1, h2 with
    | 0, h1, _ => omega
    | 1, _, _ => exact run_m1
    | 2, _, _ => exact run_m2
    | 3, _, _ => exact run_m3
    | m + 4, _, h2 => omega
theorem dispatchesErrors_proved : Rows.dispatchesErrorsRow.holds Tryz.pinned (OpenSpec.ofChange Rows.dispatchesErrorsSpec) := over fun a0 a1 w0 w1 W hL hsh => walk runs a0 a1 w0 w1 (facts hL hsh)

theorem dispatches_errors_card : Rows.DispatchesErrorsCardSaid :=
  Claim7.holds_tied_plain_at .later [] [.data, .listed, .pinned, .data, .sentinel, .sentinel, .data, .data, .data, .data, .data, .data] true (true, "a2c6adf50cbed171779696d02f70b91d06d0ab67b77ffbb157cf2e4f07dacc06") true dispatchesErrors_proved (fun _ h => by cases h) card_wf (fun _ h => by cases h) dispatchesErrors_row_tie rfl ⟨rfl, rfl⟩ card_main rfl
    (fun f fn hf hfn => by
      obtain rfl : f = 3 := (Option.some.inj (fac_named.symm.trans hf)).symm
      obtain rfl : fn = Tryz.f3 := (Option.some.inj (Tryz.func3.symm.trans hfn)).symm
      exact ⟨card_looks, fun j t ht => by
        rw [Tryz.params3] at ht
        have hm : t ∈ [5, 5] := by simpa using Array.mem_of_getElem? ht
        exact (show Tryz.prog.wantsStandIn t = false by simpa using List.all_eq_true.1 card_wants t hm)⟩)
    card_goes
end Go.Proofs.YtecdpkikjiaecaaGreatDoor
