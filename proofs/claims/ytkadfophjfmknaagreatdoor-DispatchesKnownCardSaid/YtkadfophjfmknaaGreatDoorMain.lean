/-
  The facts on the world that the row's premises give; no other condition.
-/
import Derived.Test.YtkadfophjfmknaaGreatDoorWalk
import Derived.Test.YtkadfophjfmknaaGreatDoorRows
import Derived.Test.YtkadfophjfmknaaGreatDoorWit0
import Derived.OpenVars
import Derived.LaidMore
import Derived.ProofKit
import Derived.Test.YtkadfophjfmknaaGreatDoorWit3
import Derived.Test.YtkadfophjfmknaaGreatDoorFac1
import Derived.Test.YtkadfophjfmknaaGreatDoorFac2
import Derived.Test.YtkadfophjfmknaaGreatDoorFac3
import Derived.Test.YtkadfophjfmknaaGreatDoorFq1
import Derived.OpenShut
import Derived.Carry
import Derived.Lay
import Derived.LaidLaws
import Derived.LaidOnce
import Derived.Test.YtkadfophjfmknaaGreatDoorCards
import Derived.Test.YtkadfophjfmknaaGreatDoorRunS
import Derived.Test.YtkadfophjfmknaaGreatDoorRunO4
import Derived.Test.YtkadfophjfmknaaGreatDoorRunC0
import Derived.Test.YtkadfophjfmknaaGreatDoorRunC9
import Derived.Test.YtkadfophjfmknaaGreatDoorRunC6
import Derived.Test.YtkadfophjfmknaaGreatDoorRunC8
import Derived.Test.YtkadfophjfmknaaGreatDoorRunC1
import Derived.Test.YtkadfophjfmknaaGreatDoorRunC5
import Derived.Test.YtkadfophjfmknaaGreatDoorRunC2
import Derived.Test.YtkadfophjfmknaaGreatDoorRunC7
import Derived.Test.YtkadfophjfmknaaGreatDoorRunC4
import Derived.Test.YtkadfophjfmknaaGreatDoorRunC3
import Derived.Test.YtkadfophjfmknaaGreatDoorRunO0
import Derived.Test.YtkadfophjfmknaaGreatDoorRunO1
import Derived.Test.YtkadfophjfmknaaGreatDoorTn
import Derived.SevenTiedAt
set_option linter.unusedVariables false
set_option linter.unusedSimpArgs false
namespace Go.Proofs.YtkadfophjfmknaaGreatDoor
open Go Go.Abs
set_option maxRecDepth 100000
set_option maxHeartbeats 0
open Go.ChangeShapes Go.WideShapes Go.ChangeAt Go.RowKit Go.Clock
abbrev LAIDb : List (String × DataW Unit) := Rows.dispatchesKnownRow.laid
theorem facts {W : World} (hL : laidMetH Tryz.prog LAIDb W) (hsh : W.ShapedOpen Tryz.prog) : Facts W := by
  rw [MakeChecks.laidMetH_plain _ _ _ (by kernel_rfl)] at hL
  have TA : Lib.TabIs Tryz.prog W "strings.asciiSpace" .u8 Lib.asciiSpaceTab := Lib.tabIs_of_head (g := 0) (t := 151) (e := 5) (n := 256) (by kernel_rfl) (by kernel_rfl) (by kernel_rfl) (by kernel_rfl) (by kernel_rfl) (by kernel_rfl) hL.tail.tail.tail.tail.tail.tail.tail
  have T0 : Lib.TabIs Tryz.prog W "columnseven/pictures.floats" .u8 [36, 43, 45] := Lib.tabIs_of_head (g := 8) (t := 658) (e := 5) (n := 3) (by kernel_rfl) (by kernel_rfl) (by kernel_rfl) (by kernel_rfl) (by kernel_rfl) (by kernel_rfl) hL.tail.tail.tail.tail.tail.tail.tail.tail
  have T1 : Lib.TabIs Tryz.prog W "columnseven/moves.legal" .u8 [63, 15, 63, 15, 61, 61] := Lib.tabIs_of_head (g := 10) (t := 792) (e := 5) (n := 6) (by kernel_rfl) (by kernel_rfl) (by kernel_rfl) (by kernel_rfl) (by kernel_rfl) (by kernel_rfl) hL.tail.tail.tail.tail.tail.tail.tail.tail.tail.tail.tail
  have TP : Lib.TabIs Tryz.prog W "internal/strconv.uint64pow10" .u64 Lib.pow10Tab := Lib.tabIs_of_head (g := 2) (t := 327) (e := 92) (n := 20) (by kernel_rfl) (by kernel_rfl) (by kernel_rfl) (by kernel_rfl) (by kernel_rfl) (by kernel_rfl) hL.tail.tail
  have hrow : ∀ g t, g < 15 → ((((begin Tryz.prog (fun _ _ => 0) default).world.heap[g]?).bind Obj.row?).map (·.2) = some t) → ∃ cs, W.heap[g]? = some (.cells cs t) := fun g t hg h => shaped_at hsh g t (by rw [globsW]; exact hg) h
  obtain ⟨c0, h0⟩ := hrow 0 151 (by omega) (by unfold begin; rw [waiting_eq]; kernel_rfl)
  obtain ⟨c3, h3⟩ := hrow 3 3 (by omega) (by unfold begin; rw [waiting_eq]; kernel_rfl)
  obtain ⟨d0, k0⟩ := hrow 8 658 (by omega) (by unfold begin; rw [waiting_eq]; kernel_rfl)
  obtain ⟨d1, k1⟩ := hrow 10 792 (by omega) (by unfold begin; rw [waiting_eq]; kernel_rfl)
  obtain ⟨cP, kP⟩ := hrow 2 327 (by omega) (by unfold begin; rw [waiting_eq]; kernel_rfl)
  obtain ⟨m, hm⟩ := cell_of_shapedOpen_int (P := Tryz.prog) (g := 3) (t := 3) (zero := #[.int .i64 0]) hsh (by rw [globsW]; omega) (by unfold begin; rw [waiting_eq]; kernel_rfl) rfl (by kernel_rfl) (by kernel_rfl) Tryz.underlying3
  have hsz : c3.size = 1 := by
    obtain ⟨cs, hc, hs, _⟩ := hsh.1 3 #[.int .i64 0] 3 (by rw [globsW]; omega) (by unfold begin; rw [waiting_eq]; kernel_rfl)
    rw [h3] at hc
    cases hc
    exact hs
  refine ⟨⟨(0, 0), by rw [h0, obj_of named0 h0 TA]⟩, ⟨m, (0, 0), ?_⟩, ⟨(0, 0), by rw [k0, obj_of (by kernel_rfl) k0 T0]; rfl⟩, ⟨(0, 0), by rw [k1, obj_of (by kernel_rfl) k1 T1]; rfl⟩, ⟨(0, 0), by rw [kP, obj_of namedP kP TP]⟩⟩
  rw [h3]
  have : c3 = #[.int .i64 m] := by
    have h2 : c3[0]? = some (.int .i64 m) := by
      have := hm
      simp [World.cell?, h3] at this
      simpa using this
    apply Array.ext_getElem?
    intro i
    cases i with
    | zero => rw [h2]; rfl
    | succ i => rw [Array.getElem?_eq_none (by omega), Array.getElem?_eq_none (by simp)]
  rw [this]
end Go.Proofs.YtkadfophjfmknaaGreatDoor
namespace Go.Proofs.YtkadfophjfmknaaGreatDoor
open Go Go.Abs
set_option maxRecDepth 100000
set_option maxHeartbeats 0
open Go.ChangeShapes Go.WideShapes Go.ChangeAt Go.RowKit
theorem own : ownKnob Tryz.prog.godebug = none := by kernel_rfl
abbrev LAID : List (String × DataW Unit) := Rows.dispatchesKnownRow.laid
section
variable {H : Type} {enc : TypeId × Value → H}
/-- the plain wrap, with what the row lists and the world's shape kept -/
theorem returns_listed {a : Assume} {C : Checked} {os : Os} {f : FuncId} {fn : Func} {s : ChangeSpec} {conds : List PathCond} {apart fresh handsOn again : Bool} {X : World → Array Value → Prop}
    (hX : ∀ (w w' : World) (args : Array Value), w.heap = w'.heap → X w args → X w' args)
    (own : ownKnob C.prog.godebug = none) (started : os.Started) (noInit : C.prog.inits.idxOf? f = none) (hfn : C.prog.funcs[f]? = some fn)
    (witness : ∃ (w : World) (tape : Tape) (i : Input), w.os = os ∧ (w.forCall tape i).Shaped C.prog ∧ i.vars = [] ∧ Input.okWide C.prog (w.forCall tape i) .any w.heap.size f i ∧
      ((s.pre enc C.prog fn conds apart (w.forCall tape i).memory i.args ∧ X (w.forCall tape i).memory i.args) ∧ sizedMet enc C.prog fn (OpenSpec.ofChange s) apart (w.forCall tape i).memory i.args) ∧ a.holds C.prog (lone (Frame.enter C.prog f i.args .normal) [] (w.forCall tape i)))
    (contract : ∀ (W : World) (base : Nat) (args : Array Value) (ds gs : List (DataW H)) (before : List MemPlace),
      (∀ (j : Nat) t v, fn.params[j]? = some t → args[j]? = some v → Value.okWide C.prog W .any base t v) →
      DataW.Whole enc C.prog fn.params.toList s.vars apart W args.toList ds gs before →
      conds.all (PathCond.test C.prog ⟨fn.params.toList, ds, s.plain.varTypes C.prog, gs⟩) = true → X W args → W.ShapedOpen C.prog →
      Calls C.prog f args W fun e W' => ∃ v, e = .returned v ∧ s.post enc C.prog fn apart fresh handsOn again W args v W') :
    ReturnsInHanded a C os f .any (fun w args => (s.pre enc C.prog fn conds apart w args ∧ X w args) ∧ sizedMet enc C.prog fn (OpenSpec.ofChange s) apart w args) (s.post enc C.prog fn apart fresh handsOn again) := by
  refine returnsInHanded_of_calls own started noInit witness ?_
  intro w tape i _ hsh _ hok hpre _
  obtain ⟨_, _, _, fn', hfn', _, _, _, _, hval⟩ := hok
  have e : fn' = fn := Option.some.inj (hfn'.symm.trans hfn)
  subst e
  obtain ⟨⟨⟨ds, gs, before, hw, hc⟩, hx⟩, _⟩ := hpre
  have hw' := DataW.Whole.of_heap (w' := w.forCall tape i) (by rfl) hw
  refine (contract (w.forCall tape i) w.heap.size i.args ds gs before hval hw' hc (hX _ _ _ (by rfl) hx) hsh).mono fun e W' ⟨v, he, hp⟩ => ?_
  subst he
  exact ChangeSpec.post_blind hp
end
/-- what the walk says -/
abbrev WalkSaid : Prop := ∀ W : World, laidMetH Tryz.prog LAID W → W.ShapedOpen Tryz.prog → Calls Tryz.prog 3 #[] W fun e w' => e = .returned (.bool true) ∧ Below W.heap.size W w'
theorem lifted (R : WalkSaid) (os : Os) (started : os.Started) (H : Type) (enc : TypeId × Value → H) :
    ReturnsInHanded {} Tryz.checked os 3 .any (fun w args => (Rows.dispatchesKnownSpec.pre enc Tryz.prog Tryz.f3 [] false w args ∧ laidMetH Tryz.prog LAID w) ∧ sizedMet enc Tryz.prog Tryz.f3 (OpenSpec.ofChange Rows.dispatchesKnownSpec) false w args)
      (Rows.dispatchesKnownSpec.post enc Tryz.prog Tryz.f3 false true false false) := by
  refine returns_listed (C := Tryz.checked) (X := fun w _ => laidMetH Tryz.prog LAID w) (fun _ _ _ hh h => h.of_heap hh) own started (by kernel_rfl) Tryz.func3
    (ChangeSpec.witness_shaped (enc := enc) (C := Tryz.checked) (X := fun w _ => laidMetH Tryz.prog LAID w) false (World.laidAll Tryz.prog os LAID) #[] 8 (World.laidAll_os _ _ _) (World.shaped_of_ZipB (lay_shaped1 os) (lay_shaped2 os)) (by kernel_rfl) (by kernel_rfl) (by kernel_rfl)
      (by rw [MakeChecks.laidMetH_plain _ _ _ (by kernel_rfl)]; exact laidMet_laidAll _ (lay_fits os) (lay_ifaces os))) ?_
  intro W base args ds gs before hval0 hW _ hL hsh
  have hW' := hW
  obtain ⟨p, q, hA0, hV, rfl, _, _⟩ := hW
  obtain ⟨rfl, rfl⟩ := trodVars_none hV
  have hA : DataW.TrodAll enc Tryz.prog W 0 (fun _ => true) true Tryz.f3.params.toList args.toList ds p := hA0
  rw [Tryz.params3] at hA
  obtain ⟨hargs, rfl, rfl⟩ := trodAll_nil hA
  obtain rfl : args = #[] := by cases args; simp_all
  refine (R W hL hsh).mono fun e W' ⟨he, hb⟩ => ?_
  subst he
  have hV0 : DataW.TrodVars enc Tryz.prog W' (fun b => decide (b < W.heap.size)) [] [] [] := rfl
  exact ⟨_, rfl, ⟨_, _, _, [], [], [], hW', trodAll_mk1 (shut_bool Tryz.underlying4 _), by rw [Tryz.params3]; exact trodAll_mk0, hV0, hb.frame _, fun h => by cases h⟩⟩
theorem over (R : WalkSaid) : Rows.dispatchesKnownRow.holds Tryz.pinned (OpenSpec.ofChange Rows.dispatchesKnownSpec) :=
  OpenClaim.holds_of_wide 3 Tryz.f3 rfl rfl rfl rfl rfl rfl rfl ⟨rfl, rfl, rfl, rfl, rfl⟩ rfl rfl rfl rfl rfl fac_named Tryz.func3 fac_closed fac_inst fac_wrap
    (fun os started H enc _ => lifted R os started H enc)
end Go.Proofs.YtkadfophjfmknaaGreatDoor
namespace Go.Proofs.YtkadfophjfmknaaGreatDoor
open Go Go.Abs
theorem runs : Runs where
  words := runW_run
  s2_true := run2_true_run
  s3_doa0 := run3_doa0_run
  s3_dom0 := run3_dom0_run
  s3_doa1 := run3_doa1_run
  s3_dom1 := run3_dom1_run
  s3_doa2 := run3_doa2_run
  s3_dom2 := run3_dom2_run
  s3_doa3 := run3_doa3_run
  s3_dom3 := run3_dom3_run
  s3_doa4 := run3_doa4_run
  s3_dom4 := run3_dom4_run
  s4_dat := run4_dat_run
  s5_lay := run5_lay_run
  s6_g0 := run6_g0_run
  s6_g1 := run6_g1_run
  s6_g2 := run6_g2_run
  s6_g3 := run6_g3_run
  s6_g4 := run6_g4_run
  s6_g5 := run6_g5_run
  s6_g6 := run6_g6_run
  s6_g7 := run6_g7_run
  s6_g8 := run6_g8_run
  s6_g9 := run6_g9_run
  s6_g10 := run6_g10_run
  s6_g11 := run6_g11_run
  s6_g12 := run6_g12_run
  s6_g13 := run6_g13_run
  s6_g14 := run6_g14_run
  s6_g15 := run6_g15_run
  s6_g16 := run6_g16_run
  s6_g17 := run6_g17_run
  s6_g18 := run6_g18_run
  s6_g19 := run6_g19_run
  s6_g20 := run6_g20_run
  s6_g21 := run6_g21_run
  s6_g22 := run6_g22_run
  s6_g23 := run6_g23_run
  s6_g24 := run6_g24_run
  s6_g25 := run6_g25_run
  s6_g26 := run6_g26_run
  s6_g27 := run6_g27_run
  s6_g28 := run6_g28_run
  s6_g29 := run6_g29_run
  s6_g30 := run6_g30_run
  s6_g31 := run6_g31_run
  s6_g32 := run6_g32_run
  s6_g33 := run6_g33_run
  s6_g34 := run6_g34_run
  s6_g35 := run6_g35_run
  s6_g36 := run6_g36_run
  s6_g37 := run6_g37_run
  s6_g38 := run6_g38_run
  s6_g39 := run6_g39_run
  s7_unE := run7_unE_run
  s8_g0 := run8_g0_run
  s8_g1 := run8_g1_run
  s8_g2 := run8_g2_run
  s8_g3 := run8_g3_run
  s8_g4 := run8_g4_run
  s8_g5 := run8_g5_run
  s8_g6 := run8_g6_run
  s8_g7 := run8_g7_run
  s8_g8 := run8_g8_run
  s8_g9 := run8_g9_run
  s9_mac := run9_mac_run
  s9_mac2 := run9_mac2_run
  s10_g0 := run10_g0_run
  s11_g0 := run11_g0_run
  s12_g0 := run12_g0_run
  s12_g1 := run12_g1_run
  s13_g0 := run13_g0_run
  s14_g0 := run14_g0_run
  s14_g1 := run14_g1_run
  s14_g2 := run14_g2_run
  s14_g3 := run14_g3_run
  s14_g4 := run14_g4_run
  s14_g5 := run14_g5_run
  s14_g6 := run14_g6_run
  s14_g7 := run14_g7_run
  s14_g8 := run14_g8_run
  s14_g9 := run14_g9_run
  s14_g10 := run14_g10_run
  s14_g11 := run14_g11_run
  s14_g12 := run14_g12_run
  s14_g13 := run14_g13_run
  s14_g14 := run14_g14_run
  s14_g15 := run14_g15_run
  s14_g16 := run14_g16_run
  s14_g17 := run14_g17_run
  s14_g18 := run14_g18_run
  s14_g19 := run14_g19_run
  s14_g20 := run14_g20_run
  s14_g21 := run14_g21_run
  s14_g22 := run14_g22_run
  s14_g23 := run14_g23_run
  s14_g24 := run14_g24_run
  s14_g25 := run14_g25_run
  s14_g26 := run14_g26_run
  s14_g27 := run14_g27_run
  s14_g28 := run14_g28_run
  s14_g29 := run14_g29_run
  s14_g30 := run14_g30_run
  s14_g31 := run14_g31_run
  s14_g32 := run14_g32_run
  s14_g33 := run14_g33_run
  s14_g34 := run14_g34_run
  s14_g35 := run14_g35_run
  s14_g36 := run14_g36_run
  s14_g37 := run14_g37_run
  s14_g38 := run14_g38_run
  s14_g39 := run14_g39_run
  root := runRoot_run
theorem dispatchesKnown_proved : Rows.dispatchesKnownRow.holds Tryz.pinned (OpenSpec.ofChange Rows.dispatchesKnownSpec) := over fun W hL hsh => walk runs (facts hL hsh)

theorem dispatches_known_card : Rows.DispatchesKnownCardSaid :=
  Claim7.holds_tied_plain_at .later [] [.data, .data, .data, .data, .sentinel, .sentinel, .listed, .data, .data, .widerDeep, .data, .data, .pinned] true (true, "c88d70299aec994afcc0803d90dcff7256d8dfdb575998142dee64ae27f8f42c") true dispatchesKnown_proved (fun _ h => by cases h) card_wf (fun _ h => by cases h) dispatchesKnown_row_tie rfl ⟨rfl, rfl⟩ card_main rfl
    (fun f fn hf hfn => by
      obtain rfl : f = 3 := (Option.some.inj (fac_named.symm.trans hf)).symm
      obtain rfl : fn = Tryz.f3 := (Option.some.inj (Tryz.func3.symm.trans hfn)).symm
      exact ⟨card_looks, fun j t ht => by
        rw [Tryz.params3] at ht
        have hm : t ∈ [] := by simpa using Array.mem_of_getElem? ht
        exact (show Tryz.prog.wantsStandIn t = false by simpa using List.all_eq_true.1 card_wants t hm)⟩)
    card_goes
end Go.Proofs.YtkadfophjfmknaaGreatDoor
