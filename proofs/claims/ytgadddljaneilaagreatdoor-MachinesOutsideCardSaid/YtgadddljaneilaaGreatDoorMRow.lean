/-
  The given row, from what the walk says (a hypothesis here).
-/
import Derived.Test.YtgadddljaneilaaGreatDoorRows
import Derived.Test.YtgadddljaneilaaGreatDoorMWit3
import Derived.Test.YtgadddljaneilaaGreatDoorMFac1
import Derived.Test.YtgadddljaneilaaGreatDoorMFac2
import Derived.Test.YtgadddljaneilaaGreatDoorMFac3
import Derived.Clock
import Derived.OpenVars
import Derived.OpenShut
import Derived.LaidMore
import Derived.Lay
import Derived.LaidOnce
import Derived.ProofKit
set_option linter.unusedVariables false
set_option linter.unusedSimpArgs false
namespace Go.Proofs.YtgadddljaneilaaGreatDoor
open Go Go.Abs
set_option maxRecDepth 100000
set_option maxHeartbeats 0
open Go.ChangeShapes Go.WideShapes Go.ChangeAt Go.RowKit Go.Clock
theorem own : ownKnob Tryz.prog.godebug = none := by kernel_rfl
abbrev LAID : List (String × DataW Unit) := Rows.machinesOutsideRow.laid
/-- what the walk says -/
abbrev WalkSaid : Prop := ∀ (a0 : Int) (a1 : Int) (b2 : Bool), (Lit.int .u8 a0).wf = true → (Lit.int .i64 a1).wf = true → ∀ W : World, laidMetH Tryz.prog LAID W → W.ShapedOpen Tryz.prog →
    Calls Tryz.prog 3 #[.int .u8 a0, .int .i64 a1, .bool b2] W fun e w' => e = .returned (.bool true) ∧ Below W.heap.size W w'
theorem lifted (R : WalkSaid) (os : Os) (started : os.Started) (H : Type) (enc : TypeId × Value → H) (F : Stop.Interp) :
    ReturnsInHanded { calm := true } Tryz.checked os 3 .any (fun w args => (Rows.machinesOutsideSpec.pre enc Tryz.prog Tryz.f3 [] false w args ∧ laidMetH Tryz.prog LAID w) ∧ sizedMet enc Tryz.prog Tryz.f3 (OpenSpec.ofChange Rows.machinesOutsideSpec) false w args)
      ((OpenSpec.ofChange Rows.machinesOutsideSpec).postWith enc Tryz.prog Tryz.f3 F (outsideKept [.timePasses]) false true false) := by
  refine returns_of_change (C := Tryz.checked) (X := fun w _ => laidMetH Tryz.prog LAID w) (fun _ _ _ hh h => h.of_heap hh) own started (by kernel_rfl) Tryz.func3
    (witness_at (enc := enc) (C := Tryz.checked) (X := fun w _ => laidMetH Tryz.prog LAID w) (World.laidAll Tryz.prog os LAID) #[.int .u8 0, .int .i64 0, .bool false] 8 (World.laidAll_os _ _ _) (World.shaped_of_ZipB (lay_shaped1 os) (lay_shaped2 os)) (by kernel_rfl) (by kernel_rfl) (by kernel_rfl)
      (by rw [MakeChecks.laidMetH_plain _ _ _ (by kernel_rfl)]; exact laidMet_laidAll _ (lay_fits os) (lay_ifaces os))) ?_
  intro W base args ds gs before hval0 hW _ _ hL hsh
  have hval : ∀ (j : Nat) t v, Tryz.f3.params[j]? = some t → args[j]? = some v → Value.okWide Tryz.prog W .any base t v := hval0
  have hW' := hW
  obtain ⟨p, q, hA0, hV, rfl, _, _⟩ := hW
  obtain ⟨rfl, rfl⟩ := trodVars_none hV
  have hA : DataW.TrodAll enc Tryz.prog W 0 (fun _ => true) true Tryz.f3.params.toList args.toList ds p := hA0
  rw [Tryz.params3] at hA hval
  obtain ⟨v0, vs0, d0, ds0, p0, q0, hargs, rfl, rfl, h0, r0⟩ := trodAll_cons hA
  obtain ⟨v1, vs1, d1, ds1, p1, q1, rfl, rfl, rfl, h1, r1⟩ := trodAll_cons r0
  obtain ⟨v2, vs2, d2, ds2, p2, q2, rfl, rfl, rfl, h2, r2⟩ := trodAll_cons r1
  obtain ⟨rfl, rfl, rfl⟩ := trodAll_nil r2
  obtain rfl : args = #[v0, v1, v2] := by cases args; simp_all
  obtain ⟨a0, rfl, rfl, rfl, w0⟩ := open_int Tryz.underlying5 (hval 0 5 v0 rfl rfl) h0
  obtain ⟨a1, rfl, rfl, rfl, w1⟩ := open_int Tryz.underlying3 (hval 1 3 v1 rfl rfl) h1
  obtain ⟨b2, rfl, rfl, rfl⟩ := open_bool Tryz.underlying4 (hval 2 4 v2 rfl rfl) h2
  refine (R a0 a1 b2 w0 w1 W hL hsh).mono fun e W' ⟨he, hb⟩ => ?_
  subst he
  have hsince := Since.of_below hb
  have hV0 : DataW.TrodVars enc Tryz.prog ({ W' with os := W.os } : World) (fun b => decide (b < W.heap.size)) [] [] [] := rfl
  exact ⟨_, rfl, ⟨_, _, _, [], [], [], hW', trodAll_mk1 (shut_bool Tryz.underlying4 _), by rw [Tryz.params3]; exact (trodAll_cons_mk (shut_int Tryz.underlying5 w0) (trodAll_cons_mk (shut_int Tryz.underlying3 w1) (trodAll_cons_mk (shut_bool Tryz.underlying4 b2) trodAll_mk0))), hV0, hsince.2.frame _, fun h => by cases h⟩, hsince.1⟩
theorem over (R : WalkSaid) : Rows.machinesOutsideRow.holds Tryz.pinned (OpenSpec.ofChange Rows.machinesOutsideSpec) :=
  holds_of_wide_time 3 Tryz.f3 rfl rfl rfl rfl rfl rfl rfl ⟨rfl, rfl, rfl, rfl, rfl⟩ rfl rfl rfl rfl rfl fac_named Tryz.func3 fac_closed fac_inst fac_wrap
    (fun os started H enc _ F => lifted R os started H enc F)
end Go.Proofs.YtgadddljaneilaaGreatDoor
