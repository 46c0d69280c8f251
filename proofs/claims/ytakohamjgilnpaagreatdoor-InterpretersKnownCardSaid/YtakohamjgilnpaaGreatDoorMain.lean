/-
  The facts on the world that the row's premises give; no other condition.
-/
import Derived.Test.YtakohamjgilnpaaGreatDoorWalk
import Derived.Test.YtakohamjgilnpaaGreatDoorRows
import Derived.Test.YtakohamjgilnpaaGreatDoorWit0
import Derived.OpenVars
import Derived.LaidMore
import Derived.ProofKit
import Derived.Test.YtakohamjgilnpaaGreatDoorWit3
import Derived.Test.YtakohamjgilnpaaGreatDoorFac1
import Derived.Test.YtakohamjgilnpaaGreatDoorFac2
import Derived.Test.YtakohamjgilnpaaGreatDoorFac3
import Derived.Test.YtakohamjgilnpaaGreatDoorFq1
import Derived.OpenShut
import Derived.Carry
import Derived.Lay
import Derived.LaidLaws
import Derived.LaidOnce
import Derived.Test.YtakohamjgilnpaaGreatDoorCards
import Derived.Test.YtakohamjgilnpaaGreatDoorRunS
import Derived.Test.YtakohamjgilnpaaGreatDoorRunO0
import Derived.Test.YtakohamjgilnpaaGreatDoorRunO1
import Derived.Test.YtakohamjgilnpaaGreatDoorRunP0
import Derived.Test.YtakohamjgilnpaaGreatDoorRunP1
import Derived.Test.YtakohamjgilnpaaGreatDoorRunP2
import Derived.Test.YtakohamjgilnpaaGreatDoorRunP3
import Derived.Test.YtakohamjgilnpaaGreatDoorRunC1
import Derived.Test.YtakohamjgilnpaaGreatDoorRunC4
import Derived.Test.YtakohamjgilnpaaGreatDoorRunC2
import Derived.Test.YtakohamjgilnpaaGreatDoorRunC3
import Derived.Test.YtakohamjgilnpaaGreatDoorRunC5
import Derived.Test.YtakohamjgilnpaaGreatDoorRunC0
import Derived.Test.YtakohamjgilnpaaGreatDoorTn
import Derived.SevenTiedAt
set_option linter.unusedVariables false
set_option linter.unusedSimpArgs false
namespace Go.Proofs.YtakohamjgilnpaaGreatDoor
open Go Go.Abs
set_option maxRecDepth 100000
set_option maxHeartbeats 0
open Go.ChangeShapes Go.WideShapes Go.ChangeAt Go.RowKit Go.Clock
abbrev LAIDb : List (String × DataW Unit) := Rows.interpretersKnownRow.laid
theorem facts {W : World} (hL : laidMetH Tryz.prog LAIDb W) (hsh : W.ShapedOpen Tryz.prog) : Facts W := by
  rw [MakeChecks.laidMetH_plain _ _ _ (by kernel_rfl)] at hL
  have TA : Lib.TabIs Tryz.prog W "strings.asciiSpace" .u8 Lib.asciiSpaceTab := Lib.tabIs_of_head (g := 0) (t := 134) (e := 5) (n := 256) (by kernel_rfl) (by kernel_rfl) (by kernel_rfl) (by kernel_rfl) (by kernel_rfl) (by kernel_rfl) hL.tail.tail.tail.tail.tail.tail.tail
  have T0 : Lib.TabIs Tryz.prog W "columnseven/pictures.floats" .u8 [36, 43, 45] := Lib.tabIs_of_head (g := 8) (t := 716) (e := 5) (n := 3) (by kernel_rfl) (by kernel_rfl) (by kernel_rfl) (by kernel_rfl) (by kernel_rfl) (by kernel_rfl) hL.tail.tail.tail.tail.tail.tail.tail.tail
  have T1 : Lib.TabIs Tryz.prog W "columnseven/moves.legal" .u8 [63, 15, 63, 15, 61, 61] := Lib.tabIs_of_head (g := 9) (t := 792) (e := 5) (n := 6) (by kernel_rfl) (by kernel_rfl) (by kernel_rfl) (by kernel_rfl) (by kernel_rfl) (by kernel_rfl) hL.tail.tail.tail.tail.tail.tail.tail.tail.tail.tail.tail
  have TP : Lib.TabIs Tryz.prog W "internal/strconv.uint64pow10" .u64 Lib.pow10Tab := Lib.tabIs_of_head (g := 3) (t := 366) (e := 77) (n := 20) (by kernel_rfl) (by kernel_rfl) (by kernel_rfl) (by kernel_rfl) (by kernel_rfl) (by kernel_rfl) hL.tail.tail
  have hrow : ∀ g t, g < 15 → ((((begin Tryz.prog (fun _ _ => 0) default).world.heap[g]?).bind Obj.row?).map (·.2) = some t) → ∃ cs, W.heap[g]? = some (.cells cs t) := fun g t hg h => shaped_at hsh g t (by rw [globsW]; exact hg) h
  obtain ⟨c0, h0⟩ := hrow 0 134 (by omega) (by unfold begin; rw [waiting_eq]; kernel_rfl)
  obtain ⟨c3, h3⟩ := hrow 2 3 (by omega) (by unfold begin; rw [waiting_eq]; kernel_rfl)
  obtain ⟨d0, k0⟩ := hrow 8 716 (by omega) (by unfold begin; rw [waiting_eq]; kernel_rfl)
  obtain ⟨d1, k1⟩ := hrow 9 792 (by omega) (by unfold begin; rw [waiting_eq]; kernel_rfl)
  obtain ⟨cP, kP⟩ := hrow 3 366 (by omega) (by unfold begin; rw [waiting_eq]; kernel_rfl)
  obtain ⟨m, hm⟩ := cell_of_shapedOpen_int (P := Tryz.prog) (g := 2) (t := 3) (zero := #[.int .i64 0]) hsh (by rw [globsW]; omega) (by unfold begin; rw [waiting_eq]; kernel_rfl) rfl (by kernel_rfl) (by kernel_rfl) Tryz.underlying3
  have hsz : c3.size = 1 := by
    obtain ⟨cs, hc, hs, _⟩ := hsh.1 2 #[.int .i64 0] 3 (by rw [globsW]; omega) (by unfold begin; rw [waiting_eq]; kernel_rfl)
    rw [h3] at hc
    cases hc
    exact hs
  refine ⟨⟨(0, 0), by rw [h0, obj_of named0 h0 TA]⟩, ⟨m, (0, 0), ?_⟩, ⟨(0, 0), by rw [k0, obj_of (by kernel_rfl) k0 T0]; rfl⟩, ⟨(0, 0), by rw [k1, obj_of (by kernel_rfl) k1 T1]; rfl⟩, ⟨(0, 0), by rw [kP, obj_of namedP kP TP]⟩⟩
  rw [h3]
  have : c3 = #[.int .i64 m] := by
    have h2 : c3[0]? = some (.int .i64 m) := by
      have := hm
      simp [World.cell?, h3] at this
      simpa using this
    apply Array.ext_getElem?
    intro i
    cases i with
    | zero => rw [h2]; rfl
    | succ i => rw [Array.getElem?_eq_none (by omega), Array.getElem?_eq_none (by simp)]
  rw [this]
end Go.Proofs.YtakohamjgilnpaaGreatDoor
namespace Go.Proofs.YtakohamjgilnpaaGreatDoor
open Go Go.Abs
set_option maxRecDepth 100000
set_option maxHeartbeats 0
open Go.ChangeShapes Go.WideShapes Go.ChangeAt Go.RowKit
theorem own : ownKnob Tryz.prog.godebug = none := by kernel_rfl
abbrev LAID : List (String × DataW Unit) := Rows.interpretersKnownRow.laid
section
variable {H : Type} {enc : TypeId × Value → H}
/-- the plain wrap, with what the row lists and the world's shape kept -/
theorem returns_listed {a : Assume} {C : Checked} {os : Os} {f : FuncId} {fn : Func} {s : ChangeSpec} {conds : List PathCond} {apart fresh handsOn again : Bool} {X : World → Array Value → Prop}
    (hX : ∀ (w w' : World) (args : Array Value), w.heap = w'.heap → X w args → X w' args)
    (own : ownKnob C.prog.godebug = none) (started : os.Started) (noInit : C.prog.inits.idxOf? f = none) (hfn : C.prog.funcs[f]? = some fn)
    (witness : ∃ (w : World) (tape : Tape) (i : Input), w.os = os ∧ (w.forCall tape i).Shaped C.prog ∧ i.vars = [] ∧ Input.okWide C.prog (w.forCall tape i) .any w.heap.size f i ∧
      ((s.pre enc C.prog fn conds apart (w.forCall tape i).memory i.args ∧ X (w.forCall tape i).memory i.args) ∧ sizedMet enc C.prog fn (OpenSpec.ofChange s) apart (w.forCall tape i).memory i.args) ∧ a.holds C.prog (lone (Frame.enter C.prog f i.args .normal) [] (w.forCall tape i)))
    (contract : ∀ (W : World) (base : Nat) (args : Array Value) (ds gs : List (DataW H)) (before : List MemPlace),
      (∀ (j : Nat) t v, fn.params[j]? = some t → args[j]? = some v → Value.okWide C.prog W .any base t v) →
      DataW.Whole enc C.prog fn.params.toList s.vars apart W args.toList ds gs before →
      conds.all (PathCond.test C.prog ⟨fn.params.toList, ds, s.plain.varTypes C.prog, gs⟩) = true → X W args → W.ShapedOpen C.prog →
      Calls C.prog f args W fun e W' => ∃ v, e = .returned v ∧ s.post enc C.prog fn apart fresh handsOn again W args v W') :
    ReturnsInHanded a C os f .any (fun w args => (s.pre enc C.prog fn conds apart w args ∧ X w args) ∧ sizedMet enc C.prog fn (OpenSpec.ofChange s) apart w args) (s.post enc C.prog fn apart fresh handsOn again) := by
  refine returnsInHanded_of_calls own started noInit witness ?_
  intro w tape i _ hsh _ hok hpre _
  obtain ⟨_, _, _, fn', hfn', _, _, _, _, hval⟩ := hok
  have e : fn' = fn := Option.some.inj (hfn'.symm.trans hfn)
  subst e
  obtain ⟨⟨⟨ds, gs, before, hw, hc⟩, hx⟩, _⟩ := hpre
  have hw' := DataW.Whole.of_heap (w' := w.forCall tape i) (by rfl) hw
  refine (contract (w.forCall tape i) w.heap.size i.args ds gs before hval hw' hc (hX _ _ _ (by rfl) hx) hsh).mono fun e W' ⟨v, he, hp⟩ => ?_
  subst he
  exact ChangeSpec.post_blind hp
end
/-- what the walk says -/
abbrev WalkSaid : Prop := ∀ W : World, laidMetH Tryz.prog LAID W → W.ShapedOpen Tryz.prog → Calls Tryz.prog 3 #[] W fun e w' => e = .returned (.bool true) ∧ Below W.heap.size W w'
theorem lifted (R : WalkSaid) (os : Os) (started : os.Started) (H : Type) (enc : TypeId × Value → H) :
    ReturnsInHanded {} Tryz.checked os 3 .any (fun w args => (Rows.interpretersKnownSpec.pre enc Tryz.prog Tryz.f3 [] false w args ∧ laidMetH Tryz.prog LAID w) ∧ sizedMet enc Tryz.prog Tryz.f3 (OpenSpec.ofChange Rows.interpretersKnownSpec) false w args)
      (Rows.interpretersKnownSpec.post enc Tryz.prog Tryz.f3 false true false false) := by
  refine returns_listed (C := Tryz.checked) (X := fun w _ => laidMetH Tryz.prog LAID w) (fun _ _ _ hh h => h.of_heap hh) own started (by kernel_rfl) Tryz.func3
    (ChangeSpec.witness_shaped (enc := enc) (C := Tryz.checked) (X := fun w _ => laidMetH Tryz.prog LAID w) false (World.laidAll Tryz.prog os LAID) #[] 8 (World.laidAll_os _ _ _) (World.shaped_of_ZipB (lay_shaped1 os) (lay_shaped2 os)) (by kernel_rfl) (by kernel_rfl) (by kernel_rfl)
      (by rw [MakeChecks.laidMetH_plain _ _ _ (by kernel_rfl)]; exact laidMet_laidAll _ (lay_fits os) (lay_ifaces os))) ?_
  intro W base args ds gs before hval0 hW _ hL hsh
  have hW' := hW
  obtain ⟨p, q, hA0, hV, rfl, _, _⟩ := hW
  obtain ⟨rfl, rfl⟩ := trodVars_none hV
  have hA : DataW.TrodAll enc Tryz.prog W 0 (fun _ => true) true Tryz.f3.params.toList args.toList ds p := hA0
  rw [Tryz.params3] at hA
  obtain ⟨hargs, rfl, rfl⟩ := trodAll_nil hA
  obtain rfl : args = #[] := by cases args; simp_all
  refine (R W hL hsh).mono fun e W' ⟨he, hb⟩ => ?_
  subst he
  have hV0 : DataW.TrodVars enc Tryz.prog W' (fun b => decide (b < W.heap.size)) [] [] [] := rfl
  exact ⟨_, rfl, ⟨_, _, _, [], [], [], hW', trodAll_mk1 (shut_bool Tryz.underlying4 _), by rw [Tryz.params3]; exact trodAll_mk0, hV0, hb.frame _, fun h => by cases h⟩⟩
theorem over (R : WalkSaid) : Rows.interpretersKnownRow.holds Tryz.pinned (OpenSpec.ofChange Rows.interpretersKnownSpec) :=
  OpenClaim.holds_of_wide 3 Tryz.f3 rfl rfl rfl rfl rfl rfl rfl ⟨rfl, rfl, rfl, rfl, rfl⟩ rfl rfl rfl rfl rfl fac_named Tryz.func3 fac_closed fac_inst fac_wrap
    (fun os started H enc _ => lifted R os started H enc)
end Go.Proofs.YtakohamjgilnpaaGreatDoor
namespace Go.Proofs.YtakohamjgilnpaaGreatDoor
open Go Go.Abs
theorem runs : Runs where
  words := runW_run
  s2_true := run2_true_run
  s3_dat := run3_dat_run
  s4_lay := run4_lay_run
  s5_g0 := run5_g0_run
  s5_g1 := run5_g1_run
  s5_g2 := run5_g2_run
  s5_g3 := run5_g3_run
  s5_g4 := run5_g4_run
  s5_g5 := run5_g5_run
  s5_g6 := run5_g6_run
  s5_g7 := run5_g7_run
  s5_g8 := run5_g8_run
  s5_g9 := run5_g9_run
  s5_g10 := run5_g10_run
  s5_g11 := run5_g11_run
  s5_g12 := run5_g12_run
  s5_g13 := run5_g13_run
  s5_g14 := run5_g14_run
  s5_g15 := run5_g15_run
  s5_g16 := run5_g16_run
  s5_g17 := run5_g17_run
  s5_g18 := run5_g18_run
  s5_g19 := run5_g19_run
  s5_g20 := run5_g20_run
  s5_g21 := run5_g21_run
  s5_g22 := run5_g22_run
  s5_g23 := run5_g23_run
  s5_g24 := run5_g24_run
  s5_g25 := run5_g25_run
  s5_g26 := run5_g26_run
  s5_g27 := run5_g27_run
  s5_g28 := run5_g28_run
  s5_g29 := run5_g29_run
  s6_mac := run6_mac_run
  s7_g0 := run7_g0_run
  s7_g1 := run7_g1_run
  s7_g2 := run7_g2_run
  s7_g3 := run7_g3_run
  s7_g4 := run7_g4_run
  s7_g5 := run7_g5_run
  s7_g6 := run7_g6_run
  s7_g7 := run7_g7_run
  s7_g8 := run7_g8_run
  s7_g9 := run7_g9_run
  s7_g10 := run7_g10_run
  s7_g11 := run7_g11_run
  s7_g12 := run7_g12_run
  s7_g13 := run7_g13_run
  s7_g14 := run7_g14_run
  s7_g15 := run7_g15_run
  s7_g16 := run7_g16_run
  s7_g17 := run7_g17_run
  s7_g18 := run7_g18_run
  s7_g19 := run7_g19_run
  s7_g20 := run7_g20_run
  s7_g21 := run7_g21_run
  s7_g22 := run7_g22_run
  s7_g23 := run7_g23_run
  s7_g24 := run7_g24_run
  s7_g25 := run7_g25_run
  s7_g26 := run7_g26_run
  s7_g27 := run7_g27_run
  s7_g28 := run7_g28_run
  s7_g29 := run7_g29_run
  s8_g0 := run8_g0_run
  s9_g0 := run9_g0_run
  s10_g0 := run10_g0_run
  s11_g0 := run11_g0_run
  s11_g1 := run11_g1_run
  s11_g2 := run11_g2_run
  s11_g3 := run11_g3_run
  s11_g4 := run11_g4_run
  s11_g5 := run11_g5_run
  s11_g6 := run11_g6_run
  s11_g7 := run11_g7_run
  s11_g8 := run11_g8_run
  s11_g9 := run11_g9_run
  s11_g10 := run11_g10_run
  s11_g11 := run11_g11_run
  s11_g12 := run11_g12_run
  s11_g13 := run11_g13_run
  s11_g14 := run11_g14_run
  s11_g15 := run11_g15_run
  s11_g16 := run11_g16_run
  s11_g17 := run11_g17_run
  s11_g18 := run11_g18_run
  s11_g19 := run11_x19_run
  s11_g20 := run11_g20_run
  s11_g21 := run11_g21_run
  s11_g22 := run11_g22_run
  s11_g23 := run11_g23_run
  s11_g24 := run11_x24_run
  s11_g25 := run11_g25_run
  s11_g26 := run11_g26_run
  s11_g27 := run11_g27_run
  s11_g28 := run11_g28_run
  s11_g29 := run11_g29_run
  root := runRoot_run
theorem interpretersKnown_proved : Rows.interpretersKnownRow.holds Tryz.pinned (OpenSpec.ofChange Rows.interpretersKnownSpec) := over fun W hL hsh => walk runs (facts hL hsh)

theorem interpreters_known_card : Rows.InterpretersKnownCardSaid :=
  Claim7.holds_tied_plain_at .later [] [.data, .data, .data, .data, .sentinel, .sentinel, .listed, .data, .data, .widerDeep, .data, .data, .pinned] true (true, "bc75877abcb45bfca931938edc00dd2a81dc77981b5ab9b2b96092d5a9756061") true interpretersKnown_proved (fun _ h => by cases h) card_wf (fun _ h => by cases h) interpretersKnown_row_tie rfl ⟨rfl, rfl⟩ card_main rfl
    (fun f fn hf hfn => by
      obtain rfl : f = 3 := (Option.some.inj (fac_named.symm.trans hf)).symm
      obtain rfl : fn = Tryz.f3 := (Option.some.inj (Tryz.func3.symm.trans hfn)).symm
      exact ⟨card_looks, fun j t ht => by
        rw [Tryz.params3] at ht
        have hm : t ∈ [] := by simpa using Array.mem_of_getElem? ht
        exact (show Tryz.prog.wantsStandIn t = false by simpa using List.all_eq_true.1 card_wants t hm)⟩)
    card_goes
end Go.Proofs.YtakohamjgilnpaaGreatDoor
