/-
  The given row, from what the walk says (a hypothesis here).
-/
import Derived.Test.YtkdlhhnkeocfcaaGreatDoorArg
import Derived.Test.YtkdlhhnkeocfcaaGreatDoorRows
import Derived.Test.YtkdlhhnkeocfcaaGreatDoorWit3
import Derived.Test.YtkdlhhnkeocfcaaGreatDoorFac1
import Derived.Test.YtkdlhhnkeocfcaaGreatDoorFac2
import Derived.Test.YtkdlhhnkeocfcaaGreatDoorFac3
import Derived.Test.YtkdlhhnkeocfcaaGreatDoorFq1
import Derived.Clock
import Derived.OpenVars
import Derived.OpenShut
import Derived.Carry
import Derived.LaidMore
import Derived.Lay
import Derived.LaidOnce
import Derived.ProofKit
set_option linter.unusedVariables false
set_option linter.unusedSimpArgs false
namespace Go.Proofs.YtkdlhhnkeocfcaaGreatDoor
open Go Go.Abs
set_option maxRecDepth 100000
set_option maxHeartbeats 0
open Go.ChangeShapes Go.WideShapes Go.ChangeAt Go.RowKit Go.Clock
theorem own : ownKnob Tryz.prog.godebug = none := by kernel_rfl
abbrev LAID : List (String × DataW Unit) := Rows.checksRangeRow.laid
/-- what the walk says -/
abbrev WalkSaid : Prop := ∀ (v : Value) (x y z : Int) (W : World), (0 ≤ x ∧ x ≤ 255) → (0 ≤ y ∧ y ≤ 255) → (0 ≤ z ∧ z ≤ 255) → Go.Abs.PairsOk W v → laidMetH Tryz.prog LAID W → W.ShapedOpen Tryz.prog →
    Calls Tryz.prog 3 #[v, .agg #[.int .u8 x, .int .u8 y, .int .u8 z]] W fun e w' => e = .returned (.bool true) ∧ Below W.heap.size W w'
theorem lifted (R : WalkSaid) (os : Os) (started : os.Started) (H : Type) (enc : TypeId × Value → H) (F : Stop.Interp) :
    ReturnsInHanded { calm := true } Tryz.checked os 3 .any (fun w args => (Rows.checksRangeSpec.pre enc Tryz.prog Tryz.f3 [] false w args ∧ laidMetH Tryz.prog LAID w) ∧ sizedMet enc Tryz.prog Tryz.f3 (OpenSpec.ofChange Rows.checksRangeSpec) false w args)
      ((OpenSpec.ofChange Rows.checksRangeSpec).postWith enc Tryz.prog Tryz.f3 F (outsideKept [.timePasses]) false true false) := by
  refine returns_of_change (C := Tryz.checked) (X := fun w _ => laidMetH Tryz.prog LAID w) (fun _ _ _ hh h => h.of_heap hh) own started (by kernel_rfl) Tryz.func3
    (witness_at (enc := enc) (C := Tryz.checked) (X := fun w _ => laidMetH Tryz.prog LAID w) (World.laidAll Tryz.prog os LAID) #[.slice none 0 0, .agg #[.int .u8 0, .int .u8 0, .int .u8 0]] 8 (World.laidAll_os _ _ _) (World.shaped_of_ZipB (lay_shaped1 os) (lay_shaped2 os)) (by kernel_rfl) (by kernel_rfl) (by kernel_rfl)
      (by rw [MakeChecks.laidMetH_plain _ _ _ (by kernel_rfl)]; exact laidMet_laidAll _ (lay_fits os) (lay_ifaces os))) ?_
  intro W base args ds gs before hval0 hW _ _ hL hsh
  have hval : ∀ (j : Nat) t v, Tryz.f3.params[j]? = some t → args[j]? = some v → Value.okWide Tryz.prog W .any base t v := hval0
  have hW' := hW
  have hlt := hW.lt
  obtain ⟨p, q, hA0, hV, rfl, _, _⟩ := hW
  obtain ⟨rfl, rfl⟩ := trodVars_none hV
  have hA : DataW.TrodAll enc Tryz.prog W 0 (fun _ => true) true Tryz.f3.params.toList args.toList ds p := hA0
  rw [Tryz.params3] at hA hval
  obtain ⟨v0, vs0, d0, ds0, p0, q0, hargs, rfl, rfl, h0, r0⟩ := trodAll_cons hA
  obtain ⟨v1, vs1, d1, ds1, p1, q1, rfl, rfl, rfl, h1, r1⟩ := trodAll_cons r0
  obtain ⟨rfl, rfl, rfl⟩ := trodAll_nil r1
  obtain rfl : args = #[v0, v1] := by cases args; simp_all
  have hp := Go.Abs.open_pairs' Tryz.underlying22 Tryz.underlying40 (by kernel_rfl) Tryz.underlying5 (by kernel_rfl) (hval 0 22 v0 rfl rfl) h0
  obtain ⟨x, y, z, rfl, hx, hy, hz⟩ := Go.Abs.open_three Tryz.underlying23 Tryz.underlying5 (by kernel_rfl) (by kernel_rfl) (hval 1 23 v1 rfl rfl) h1
  refine (R v0 x y z W hx hy hz hp hL hsh).mono fun e W' ⟨he, hb⟩ => ?_
  subst he
  have hsince := Since.of_below hb
  have hV0 : DataW.TrodVars enc Tryz.prog ({ W' with os := W.os } : World) (fun b => decide (b < W.heap.size)) [] [] [] := rfl
  have h0' := Below.trod laidOut_eq (by kernel_rfl) (of_decide_eq_true (by kernel_rfl)) h0 hsince.2 (fun x hx => hlt x (by simp [hx]))
  have h1' := Below.trod laidOut_eq (by kernel_rfl) (of_decide_eq_true (by kernel_rfl)) h1 hsince.2 (fun x hx => hlt x (by simp [hx]))
  exact ⟨_, rfl, ⟨_, _, _, [], _, [], hW', trodAll_mk1 (shut_bool Tryz.underlying4 _), by rw [Tryz.params3]; exact trodAll_cons_mk h0' (trodAll_cons_mk h1' trodAll_mk0), hV0, hsince.2.frame _, fun h => by cases h⟩, hsince.1⟩
theorem over (R : WalkSaid) : Rows.checksRangeRow.holds Tryz.pinned (OpenSpec.ofChange Rows.checksRangeSpec) :=
  holds_of_wide_time 3 Tryz.f3 rfl rfl rfl rfl rfl rfl rfl ⟨rfl, rfl, rfl, rfl, rfl⟩ rfl rfl rfl rfl rfl fac_named Tryz.func3 fac_closed fac_inst fac_wrap
    (fun os started H enc _ F => lifted R os started H enc F)
end Go.Proofs.YtkdlhhnkeocfcaaGreatDoor
