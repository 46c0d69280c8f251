/-
  The given row, from what the walk says (a hypothesis here).
-/
import Derived.Test.YtekonojimffbhaaGreatDoorRows
import Derived.Test.YtekonojimffbhaaGreatDoorWit3
import Derived.Test.YtekonojimffbhaaGreatDoorFac1
import Derived.Test.YtekonojimffbhaaGreatDoorFac2
import Derived.Test.YtekonojimffbhaaGreatDoorFac3
import Derived.Clock
import Derived.OpenVars
import Derived.OpenShut
import Derived.LaidMore
import Derived.Lay
import Derived.LaidOnce
import Derived.ProofKit
set_option linter.unusedVariables false
set_option linter.unusedSimpArgs false

namespace Go.Abs
open Go.ChangeShapes Go.WideShapes Go.RowKit
variable {H : Type} {enc : TypeId × Value → H} {P : Program} {w : World} {base : Nat} {spare : Nat → Bool} {held : Bool}
theorem arr2 {α : Type} {cs : Array α} (h : cs.size = 2) : ∃ c0 c1, cs = #[c0, c1] := by
  obtain ⟨l⟩ := cs
  match l, h with
  | [c0, c1], _ => exact ⟨c0, c1, rfl⟩
theorem trod_arr2 {t e : TypeId} {fuel : Nat} {c0 c1 : Value} {x : DataW H × List MemPlace} (ht : P.underlying t = some (.array 2 e)) (hce : P.cellsOf e = 1)
    (h : DataW.trod enc P w base spare held fuel t [c0, c1] = some x) :
    ∃ y0 y1 n, x = (.agg [y0.1, y1.1], y0.2 ++ y1.2) ∧ DataW.trod enc P w base spare held n e [c0] = some y0 ∧ DataW.trod enc P w base spare held n e [c1] = some y1 := by
  cases fuel with
  | zero => simp [DataW.trod] at h
  | succ n =>
    unfold DataW.trod at h
    rw [ht] at h
    have r2 : List.range 2 = [0, 1] := rfl
    simp [r2, hce] at h
    obtain ⟨_, h⟩ := h
    cases h0 : DataW.trod enc P w base spare held n e [c0] with
    | none => simp [h0] at h
    | some y0 =>
      cases h1 : DataW.trod enc P w base spare held n e [c1] with
      | none => simp [h0, h1] at h
      | some y1 =>
        simp [h0, h1] at h
        exact ⟨y0, y1, n, h.symm, h0, h1⟩
theorem trod_num {e : TypeId} {k : IntKind} {n : Nat} {c : Value} {y : DataW H × List MemPlace} (he : P.underlying e = some (.int k)) (h : DataW.trod enc P w base spare held n e [c] = some y) :
    ∃ m : Int, c = .int k m ∧ y = (.lit (.int k m), []) ∧ (Lit.int k m).wf = true := by
  cases n with
  | zero => simp [DataW.trod] at h
  | succ n =>
    unfold DataW.trod at h
    rw [he] at h
    cases c <;> simp at h
    obtain ⟨⟨rfl, h1⟩, rfl⟩ := h
    exact ⟨_, rfl, rfl, h1⟩
theorem open_pair {r : Reach} {b0 : Nat} {t e : TypeId} {k : IntKind} {v : Value} {d : DataW H} {p : List MemPlace} (ht : P.underlying t = some (.array 2 e)) (he : P.underlying e = some (.int k)) (hce : P.cellsOf e = 1) (hct : P.cellsOf t = 2)
    (hval : Value.okWide P w r b0 t v) (hd : DataW.Trod enc P w base spare held t v d p) :
    ∃ n m : Int, v = .agg #[.int k n, .int k m] ∧ d = .agg [.lit (.int k n), .lit (.int k m)] ∧ p = [] ∧ (Lit.int k n).wf = true ∧ (Lit.int k m).wf = true := by
  unfold Value.okWide at hval
  rw [ht] at hval
  obtain ⟨cs, rfl, hsz, _⟩ := hval
  obtain ⟨c0, c1, rfl⟩ := arr2 (hsz.trans hct)
  obtain ⟨fuel, hf⟩ := hd
  obtain ⟨y0, y1, n, hx, h0, h1⟩ := trod_arr2 ht hce (show DataW.trod enc P w base spare held fuel t [c0, c1] = some (d, p) from hf)
  obtain ⟨a, rfl, rfl, w0⟩ := trod_num he h0
  obtain ⟨b, rfl, rfl, w1⟩ := trod_num he h1
  simp only [Prod.mk.injEq] at hx
  exact ⟨a, b, rfl, hx.1, by simpa using hx.2, w0, w1⟩
theorem shut_pair {t e : TypeId} {k : IntKind} {n m : Int} (ht : P.underlying t = some (.array 2 e)) (he : P.underlying e = some (.int k)) (hce : P.cellsOf e = 1) (hct : P.cellsOf t = 2) (w0 : (Lit.int k n).wf = true) (w1 : (Lit.int k m).wf = true) :
    DataW.Trod enc P w base spare held t (.agg #[.int k n, .int k m]) (.agg [.lit (.int k n), .lit (.int k m)]) [] := by
  refine ⟨2, ?_⟩
  have r2 : List.range 2 = [0, 1] := rfl
  simp [Value.cells, DataW.trod, ht, he, r2, hce, hct, w0, w1]
end Go.Abs

namespace Go.Proofs.YtekonojimffbhaaGreatDoor
open Go Go.Abs
set_option maxRecDepth 100000
set_option maxHeartbeats 0
open Go.ChangeShapes Go.WideShapes Go.ChangeAt Go.RowKit Go.Clock
theorem own : ownKnob Tryz.prog.godebug = none := by kernel_rfl
abbrev LAID : List (String × DataW Unit) := Rows.dispatchesOutsideRow.laid
/-- what the walk says -/
abbrev WalkSaid : Prop := ∀ (a0 : Int) (b0 b1 : Int) (c0 : Int), (Lit.int .u8 a0).wf = true → (Lit.int .u8 b0).wf = true → (Lit.int .u8 b1).wf = true → (Lit.int .u8 c0).wf = true → ∀ W : World, laidMetH Tryz.prog LAID W → W.ShapedOpen Tryz.prog →
    Calls Tryz.prog 3 #[.int .u8 a0, .agg #[.int .u8 b0, .int .u8 b1], .int .u8 c0] W fun e w' => e = .returned (.bool true) ∧ Below W.heap.size W w'
theorem lifted (R : WalkSaid) (os : Os) (started : os.Started) (H : Type) (enc : TypeId × Value → H) (F : Stop.Interp) :
    ReturnsInHanded { calm := true } Tryz.checked os 3 .any (fun w args => (Rows.dispatchesOutsideSpec.pre enc Tryz.prog Tryz.f3 [] false w args ∧ laidMetH Tryz.prog LAID w) ∧ sizedMet enc Tryz.prog Tryz.f3 (OpenSpec.ofChange Rows.dispatchesOutsideSpec) false w args)
      ((OpenSpec.ofChange Rows.dispatchesOutsideSpec).postWith enc Tryz.prog Tryz.f3 F (outsideKept [.timePasses]) false true false) := by
  refine returns_of_change (C := Tryz.checked) (X := fun w _ => laidMetH Tryz.prog LAID w) (fun _ _ _ hh h => h.of_heap hh) own started (by kernel_rfl) Tryz.func3
    (witness_at (enc := enc) (C := Tryz.checked) (X := fun w _ => laidMetH Tryz.prog LAID w) (World.laidAll Tryz.prog os LAID) #[.int .u8 0, .agg #[.int .u8 0, .int .u8 0], .int .u8 0] 8 (World.laidAll_os _ _ _) (World.shaped_of_ZipB (lay_shaped1 os) (lay_shaped2 os)) (by kernel_rfl) (by kernel_rfl) (by kernel_rfl)
      (by rw [MakeChecks.laidMetH_plain _ _ _ (by kernel_rfl)]; exact laidMet_laidAll _ (lay_fits os) (lay_ifaces os))) ?_
  intro W base args ds gs before hval0 hW _ _ hL hsh
  have hval : ∀ (j : Nat) t v, Tryz.f3.params[j]? = some t → args[j]? = some v → Value.okWide Tryz.prog W .any base t v := hval0
  have hW' := hW
  obtain ⟨p, q, hA0, hV, rfl, _, _⟩ := hW
  obtain ⟨rfl, rfl⟩ := trodVars_none hV
  have hA : DataW.TrodAll enc Tryz.prog W 0 (fun _ => true) true Tryz.f3.params.toList args.toList ds p := hA0
  rw [Tryz.params3] at hA hval
  obtain ⟨v0, vs0, d0, ds0, p0, q0, hargs, rfl, rfl, h0, r0⟩ := trodAll_cons hA
  obtain ⟨v1, vs1, d1, ds1, p1, q1, rfl, rfl, rfl, h1, r1⟩ := trodAll_cons r0
  obtain ⟨v2, vs2, d2, ds2, p2, q2, rfl, rfl, rfl, h2, r2⟩ := trodAll_cons r1
  obtain ⟨rfl, rfl, rfl⟩ := trodAll_nil r2
  obtain rfl : args = #[v0, v1, v2] := by cases args; simp_all
  obtain ⟨a0, rfl, rfl, rfl, w0⟩ := open_int Tryz.underlying5 (hval 0 5 v0 rfl rfl) h0
  obtain ⟨b0, b1, rfl, rfl, rfl, w1, w1'⟩ := Go.Abs.open_pair Tryz.underlying22 Tryz.underlying5 (by kernel_rfl) (by kernel_rfl) (hval 1 22 v1 rfl rfl) h1
  obtain ⟨c0, rfl, rfl, rfl, w2⟩ := open_int Tryz.underlying5 (hval 2 5 v2 rfl rfl) h2
  refine (R a0 b0 b1 c0 w0 w1 w1' w2 W hL hsh).mono fun e W' ⟨he, hb⟩ => ?_
  subst he
  have hsince := Since.of_below hb
  have hV0 : DataW.TrodVars enc Tryz.prog ({ W' with os := W.os } : World) (fun b => decide (b < W.heap.size)) [] [] [] := rfl
  exact ⟨_, rfl, ⟨_, _, _, [], [], [], hW', trodAll_mk1 (shut_bool Tryz.underlying4 _), by rw [Tryz.params3]; exact (trodAll_cons_mk (shut_int Tryz.underlying5 w0) (trodAll_cons_mk (Go.Abs.shut_pair Tryz.underlying22 Tryz.underlying5 (by kernel_rfl) (by kernel_rfl) w1 w1') (trodAll_cons_mk (shut_int Tryz.underlying5 w2) trodAll_mk0))), hV0, hsince.2.frame _, fun h => by cases h⟩, hsince.1⟩
theorem over (R : WalkSaid) : Rows.dispatchesOutsideRow.holds Tryz.pinned (OpenSpec.ofChange Rows.dispatchesOutsideSpec) :=
  holds_of_wide_time 3 Tryz.f3 rfl rfl rfl rfl rfl rfl rfl ⟨rfl, rfl, rfl, rfl, rfl⟩ rfl rfl rfl rfl rfl fac_named Tryz.func3 fac_closed fac_inst fac_wrap
    (fun os started H enc _ F => lifted R os started H enc F)
end Go.Proofs.YtekonojimffbhaaGreatDoor
