/-
  The given row, from what the walk says (a hypothesis here).
-/
import Derived.Test.YtjbibfedjhjdlaaGreatDoorEArg
import Derived.Test.YtjbibfedjhjdlaaGreatDoorRows
import Derived.Test.YtjbibfedjhjdlaaGreatDoorEWit3
import Derived.Test.YtjbibfedjhjdlaaGreatDoorEFac1
import Derived.Test.YtjbibfedjhjdlaaGreatDoorEFac2
import Derived.Test.YtjbibfedjhjdlaaGreatDoorEFac3
import Derived.Test.YtjbibfedjhjdlaaGreatDoorFq1
import Derived.Clock
import Derived.OpenVars
import Derived.OpenShut
import Derived.Carry
import Derived.LaidMore
import Derived.Lay
import Derived.LaidOnce
import Derived.ProofKit
set_option linter.unusedVariables false
set_option linter.unusedSimpArgs false
namespace Go.Proofs.YtjbibfedjhjdlaaGreatDoor
open Go Go.Abs
set_option maxRecDepth 100000
set_option maxHeartbeats 0
open Go.ChangeShapes Go.WideShapes Go.ChangeAt Go.RowKit Go.Clock
theorem own : ownKnob Tryz.prog.godebug = none := by kernel_rfl
abbrev LAID : List (String × DataW Unit) := Rows.codesErrorsRow.laid
/-- what the walk says -/
abbrev WalkSaid : Prop := ∀ (v : Value) (W : World), Go.Abs.ProofOk W v → laidMetH Tryz.prog LAID W → W.ShapedOpen Tryz.prog →
    Calls Tryz.prog 3 #[v] W fun e w' => e = .returned (.bool true) ∧ Below W.heap.size W w'
theorem lifted (R : WalkSaid) (os : Os) (started : os.Started) (H : Type) (enc : TypeId × Value → H) (F : Stop.Interp) :
    ReturnsInHanded { calm := true } Tryz.checked os 3 .any (fun w args => (Rows.codesErrorsSpec.pre enc Tryz.prog Tryz.f3 [] false w args ∧ laidMetH Tryz.prog LAID w) ∧ sizedMet enc Tryz.prog Tryz.f3 (OpenSpec.ofChange Rows.codesErrorsSpec) false w args)
      ((OpenSpec.ofChange Rows.codesErrorsSpec).postWith enc Tryz.prog Tryz.f3 F (outsideKept [.timePasses]) false true false) := by
  refine returns_of_change (C := Tryz.checked) (X := fun w _ => laidMetH Tryz.prog LAID w) (fun _ _ _ hh h => h.of_heap hh) own started (by kernel_rfl) Tryz.func3
    (witness_at (enc := enc) (C := Tryz.checked) (X := fun w _ => laidMetH Tryz.prog LAID w) (World.laidAll Tryz.prog os LAID) #[.agg #[.slice none 0 0]] 8 (World.laidAll_os _ _ _) (World.shaped_of_ZipB (lay_shaped1 os) (lay_shaped2 os)) (by kernel_rfl) (by kernel_rfl) (by kernel_rfl)
      (by rw [MakeChecks.laidMetH_plain _ _ _ (by kernel_rfl)]; exact laidMet_laidAll _ (lay_fits os) (lay_ifaces os))) ?_
  intro W base args ds gs before hval0 hW _ _ hL hsh
  have hval : ∀ (j : Nat) t v, Tryz.f3.params[j]? = some t → args[j]? = some v → Value.okWide Tryz.prog W .any base t v := hval0
  have hW' := hW
  have hlt := hW.lt
  obtain ⟨p, q, hA0, hV, rfl, _, _⟩ := hW
  obtain ⟨rfl, rfl⟩ := trodVars_none hV
  have hA : DataW.TrodAll enc Tryz.prog W 0 (fun _ => true) true Tryz.f3.params.toList args.toList ds p := hA0
  rw [Tryz.params3] at hA hval
  obtain ⟨v0, vs0, d0, ds0, p0, q0, hargs, rfl, rfl, h0, r0⟩ := trodAll_cons hA
  obtain ⟨rfl, rfl, rfl⟩ := trodAll_nil r0
  obtain rfl : args = #[v0] := by cases args; simp_all
  have hp := Go.Abs.open_proof Tryz.underlying24 rfl (by kernel_rfl) (by kernel_rfl) Tryz.underlying22 (by kernel_rfl) Tryz.underlying102 rfl rfl rfl rfl Tryz.underlying3 Tryz.underlying3 Tryz.underlying83 Tryz.underlying3
    (by kernel_rfl) (by kernel_rfl) (by kernel_rfl) (by kernel_rfl) (hval 0 24 v0 rfl rfl) h0
  refine (R v0 W hp hL hsh).mono fun e W' ⟨he, hb⟩ => ?_
  subst he
  have hsince := Since.of_below hb
  have hV0 : DataW.TrodVars enc Tryz.prog ({ W' with os := W.os } : World) (fun b => decide (b < W.heap.size)) [] [] [] := rfl
  have h0' := Below.trod laidOut_eq (by kernel_rfl) (of_decide_eq_true (by kernel_rfl)) h0 hsince.2 (fun x hx => hlt x (by simp [hx]))
  exact ⟨_, rfl, ⟨_, _, _, [], _, [], hW', trodAll_mk1 (shut_bool Tryz.underlying4 _), by rw [Tryz.params3]; exact trodAll_cons_mk h0' trodAll_mk0, hV0, hsince.2.frame _, fun h => by cases h⟩, hsince.1⟩
theorem over (R : WalkSaid) : Rows.codesErrorsRow.holds Tryz.pinned (OpenSpec.ofChange Rows.codesErrorsSpec) :=
  holds_of_wide_time 3 Tryz.f3 rfl rfl rfl rfl rfl rfl rfl ⟨rfl, rfl, rfl, rfl, rfl⟩ rfl rfl rfl rfl rfl fac_named Tryz.func3 fac_closed fac_inst fac_wrap
    (fun os started H enc _ F => lifted R os started H enc F)
end Go.Proofs.YtjbibfedjhjdlaaGreatDoor
