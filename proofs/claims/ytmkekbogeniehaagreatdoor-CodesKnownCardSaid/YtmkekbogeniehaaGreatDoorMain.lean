/-
  The facts on the world that the row's premises give; no other condition.
-/
import Derived.Test.YtmkekbogeniehaaGreatDoorWalk
import Derived.Test.YtmkekbogeniehaaGreatDoorRows
import Derived.Test.YtmkekbogeniehaaGreatDoorWit2
import Derived.OpenVars
import Derived.LaidMore
import Derived.ProofKit
import Derived.Test.YtmkekbogeniehaaGreatDoorFac2
import Derived.Test.YtmkekbogeniehaaGreatDoorFq1
import Derived.OpenShut
import Derived.Carry
import Derived.Lay
import Derived.LaidLaws
import Derived.LaidOnce
import Derived.Test.YtmkekbogeniehaaGreatDoorCards
import Derived.Test.YtmkekbogeniehaaGreatDoorRunX
import Derived.Test.YtmkekbogeniehaaGreatDoorRunS
import Derived.Test.YtmkekbogeniehaaGreatDoorRunO0
import Derived.Test.YtmkekbogeniehaaGreatDoorRunO1
import Derived.Test.YtmkekbogeniehaaGreatDoorRunC0
import Derived.Test.YtmkekbogeniehaaGreatDoorRunC1
import Derived.Test.YtmkekbogeniehaaGreatDoorRunC2
import Derived.Test.YtmkekbogeniehaaGreatDoorRunC3
import Derived.Test.YtmkekbogeniehaaGreatDoorRunC4
import Derived.Test.YtmkekbogeniehaaGreatDoorRunC6
import Derived.Test.YtmkekbogeniehaaGreatDoorRunC8
import Derived.Test.YtmkekbogeniehaaGreatDoorRunC7
import Derived.Test.YtmkekbogeniehaaGreatDoorRunC5
import Derived.Test.YtmkekbogeniehaaGreatDoorRunA0
import Derived.Test.YtmkekbogeniehaaGreatDoorRunA1
import Derived.Test.YtmkekbogeniehaaGreatDoorRunA2
import Derived.Test.YtmkekbogeniehaaGreatDoorRunA3
import Derived.Test.YtmkekbogeniehaaGreatDoorRunA4
import Derived.Test.YtmkekbogeniehaaGreatDoorRunA5
import Derived.Test.YtmkekbogeniehaaGreatDoorRunT0
import Derived.Test.YtmkekbogeniehaaGreatDoorRunT1
import Derived.Test.YtmkekbogeniehaaGreatDoorRunT2
import Derived.Test.YtmkekbogeniehaaGreatDoorRunT3
import Derived.Test.YtmkekbogeniehaaGreatDoorTn
import Derived.SevenTiedAt
set_option linter.unusedVariables false
set_option linter.unusedSimpArgs false
namespace Go.Proofs.YtmkekbogeniehaaGreatDoor
open Go Go.Abs
set_option maxRecDepth 100000
set_option maxHeartbeats 0
open Go.ChangeShapes Go.WideShapes Go.ChangeAt Go.RowKit Go.Clock
abbrev LAIDb : List (String × DataW Unit) := Rows.codesKnownRow.laid
theorem cells_of_texts {H : Type} {enc : TypeId × Value → H} {P : Program} {w : World} {base : Nat} {sp : Nat → Bool} {held : Bool} {fuel : Nat} {t e : TypeId} {n : Nat} {cs : List Value} {zs : List (List UInt8)} {p : List MemPlace}
    (ht : P.underlying t = some (.array n e)) (he : P.underlying e = some .string) (hce : P.cellsOf e = 1) (hct : P.cellsOf t = n)
    (h : DataW.trod enc P w base sp held fuel t cs = some (.agg (zs.map fun z => .lit (.string z)), p)) : cs = zs.map fun z => Value.string ⟨z.toArray⟩ := by
  cases fuel with
  | zero => simp [DataW.trod] at h
  | succ fuel =>
    simp only [DataW.trod, ht, hce, hct, Nat.mul_one] at h
    split at h
    · rename_i hl
      obtain ⟨xs, hm, hx⟩ := Option.map_eq_some_iff.1 h
      have hxs : xs.map (·.1) = zs.map fun z => (DataW.lit (.string z) : DataW H) := by
        have := congrArg Prod.fst hx
        simpa using this
      have hxl : xs.length = n := by simpa using Lib.mapM_length hm
      have hzl : zs.length = n := by
        have := congrArg List.length hxs
        simp at this
        omega
      apply List.ext_getElem?
      intro i
      by_cases hi : i < n
      · obtain ⟨b, hb, hf⟩ := Lib.mapM_at hm i i (by simp [hi])
        obtain ⟨z, hc, rfl, _⟩ := DataW.trod_string he hf
        have h1 : cs[i]? = some (.string z) := by
          have := congrArg (·[0]?) hc
          simpa [List.getElem?_take, List.getElem?_drop] using this
        have h2 : (xs.map (·.1))[i]? = some (DataW.lit (.string z.data.toList) : DataW H) := by simp [hb]
        rw [hxs] at h2
        simp only [List.getElem?_map, Option.map_eq_some_iff, DataW.lit.injEq, Lit.string.injEq] at h2
        obtain ⟨z', hz', h3⟩ := h2
        subst h3
        simp [h1, hz']
      · rw [List.getElem?_eq_none (by omega), List.getElem?_eq_none (by simp; omega)]
    · cases h
theorem texts_of_head {P : Program} {W : World} {name : String} {zs : List (List UInt8)} {rest : List (String × DataW Unit)} {g : Nat} {t e : TypeId} {n : Nat}
    (hg : P.globalNamed name = some g) (hty : (P.globals[g]?).map (·.type) = some t) (ht : P.underlying t = some (.array n e)) (he : P.underlying e = some .string) (hce : P.cellsOf e = 1) (hct : P.cellsOf t = n)
    (h : laidMet P ((name, .agg (zs.map fun z => .lit (.string z))) :: rest) W) : W.var? P name = some (zs.map fun z => Value.string ⟨z.toArray⟩).toArray := by
  obtain ⟨ps, ⟨g', t', cs, fuel, p, q, hg', ht', hvar, hd, _, _⟩, _⟩ := h
  obtain rfl := Option.some.inj (hg.symm.trans hg')
  obtain rfl := Option.some.inj (hty.symm.trans ht')
  rw [hvar, ← cells_of_texts ht he hce hct hd]
theorem obj_ofT {W : World} {name : String} {g : Nat} {zs : List Value} {cs : Array Value} {t : TypeId} {fr : Nat × Nat} (hn : Tryz.prog.globalNamed name = some g) (hh : W.heap[g]? = some (.cells cs t fr)) (hT : W.var? Tryz.prog name = some zs.toArray) :
    cs = zs.toArray := by
  unfold World.var? at hT
  rw [hn] at hT
  simpa [hh] using hT
theorem facts {W : World} (hL : laidMetH Tryz.prog LAIDb W) (hsh : W.ShapedOpen Tryz.prog) : Facts W := by
  rw [MakeChecks.laidMetH_plain _ _ _ (by kernel_rfl)] at hL
  have TA : Lib.TabIs Tryz.prog W "strings.asciiSpace" .u8 Lib.asciiSpaceTab := Lib.tabIs_of_head (g := 0) (t := 243) (e := 5) (n := 256) (by kernel_rfl) (by kernel_rfl) (by kernel_rfl) (by kernel_rfl) (by kernel_rfl) (by kernel_rfl) hL.tail.tail.tail.tail.tail.tail.tail
  have T0 : Lib.TabIs Tryz.prog W "columnseven/pictures.floats" .u8 [36, 43, 45] := Lib.tabIs_of_head (g := 8) (t := 795) (e := 5) (n := 3) (by kernel_rfl) (by kernel_rfl) (by kernel_rfl) (by kernel_rfl) (by kernel_rfl) (by kernel_rfl) hL.tail.tail.tail.tail.tail.tail.tail.tail
  have T1 : Lib.TabIs Tryz.prog W "columnseven/moves.legal" .u8 [63, 15, 63, 15, 61, 61] := Lib.tabIs_of_head (g := 9) (t := 869) (e := 5) (n := 6) (by kernel_rfl) (by kernel_rfl) (by kernel_rfl) (by kernel_rfl) (by kernel_rfl) (by kernel_rfl) hL.tail.tail.tail.tail.tail.tail.tail.tail.tail.tail.tail
  have T2 : Tryz.prog |> fun P => W.var? P "columnseven/roundings.names" = some (([[84, 82, 85, 78, 67, 65, 84, 73, 79, 78], [78, 69, 65, 82, 69, 83, 84, 45, 65, 87, 65, 89, 45, 70, 82, 79, 77, 45, 90, 69, 82, 79], [78, 69, 65, 82, 69, 83, 84, 45, 69, 86, 69, 78], [78, 69, 65, 82, 69, 83, 84, 45, 84, 79, 87, 65, 82, 68, 45, 90, 69, 82, 79], [65, 87, 65, 89, 45, 70, 82, 79, 77, 45, 90, 69, 82, 79], [84, 79, 87, 65, 82, 68, 45, 71, 82, 69, 65, 84, 69, 82], [84, 79, 87, 65, 82, 68, 45, 76, 69, 83, 83, 69, 82], [80, 82, 79, 72, 73, 66, 73, 84, 69, 68]] : List (List UInt8)).map fun b => Value.string ⟨b.toArray⟩).toArray := texts_of_head (g := 10) (t := 911) (e := 9) (n := 8) (by kernel_rfl) (by kernel_rfl) (by kernel_rfl) (by kernel_rfl) (by kernel_rfl) (by kernel_rfl) hL.tail.tail.tail.tail.tail.tail.tail.tail.tail
  have TP : Lib.TabIs Tryz.prog W "internal/strconv.uint64pow10" .u64 Lib.pow10Tab := Lib.tabIs_of_head (g := 2) (t := 439) (e := 110) (n := 20) (by kernel_rfl) (by kernel_rfl) (by kernel_rfl) (by kernel_rfl) (by kernel_rfl) (by kernel_rfl) hL.tail.tail
  have hrow : ∀ g t, g < 15 → ((((begin Tryz.prog (fun _ _ => 0) default).world.heap[g]?).bind Obj.row?).map (·.2) = some t) → ∃ cs, W.heap[g]? = some (.cells cs t) := fun g t hg h => shaped_at hsh g t (by rw [globsW]; exact hg) h
  obtain ⟨c0, h0⟩ := hrow 0 243 (by omega) (by unfold begin; rw [waiting_eq]; kernel_rfl)
  obtain ⟨c3, h3⟩ := hrow 3 3 (by omega) (by unfold begin; rw [waiting_eq]; kernel_rfl)
  obtain ⟨d0, k0⟩ := hrow 8 795 (by omega) (by unfold begin; rw [waiting_eq]; kernel_rfl)
  obtain ⟨d1, k1⟩ := hrow 9 869 (by omega) (by unfold begin; rw [waiting_eq]; kernel_rfl)
  obtain ⟨d2, k2⟩ := hrow 10 911 (by omega) (by unfold begin; rw [waiting_eq]; kernel_rfl)
  obtain ⟨cP, kP⟩ := hrow 2 439 (by omega) (by unfold begin; rw [waiting_eq]; kernel_rfl)
  obtain ⟨m, hm⟩ := cell_of_shapedOpen_int (P := Tryz.prog) (g := 3) (t := 3) (zero := #[.int .i64 0]) hsh (by rw [globsW]; omega) (by unfold begin; rw [waiting_eq]; kernel_rfl) rfl (by kernel_rfl) (by kernel_rfl) Tryz.underlying3
  have hsz : c3.size = 1 := by
    obtain ⟨cs, hc, hs, _⟩ := hsh.1 3 #[.int .i64 0] 3 (by rw [globsW]; omega) (by unfold begin; rw [waiting_eq]; kernel_rfl)
    rw [h3] at hc
    cases hc
    exact hs
  refine ⟨⟨(0, 0), by rw [h0, obj_of named0 h0 TA]⟩, ⟨m, (0, 0), ?_⟩, ⟨(0, 0), by rw [k0, obj_of (by kernel_rfl) k0 T0]; rfl⟩, ⟨(0, 0), by rw [k1, obj_of (by kernel_rfl) k1 T1]; rfl⟩, ⟨(0, 0), by rw [k2, obj_ofT (by kernel_rfl) k2 T2]; rfl⟩, ⟨(0, 0), by rw [kP, obj_of namedP kP TP]⟩⟩
  rw [h3]
  have : c3 = #[.int .i64 m] := by
    have h2 : c3[0]? = some (.int .i64 m) := by
      have := hm
      simp [World.cell?, h3] at this
      simpa using this
    apply Array.ext_getElem?
    intro i
    cases i with
    | zero => rw [h2]; rfl
    | succ i => rw [Array.getElem?_eq_none (by omega), Array.getElem?_eq_none (by simp)]
  rw [this]
end Go.Proofs.YtmkekbogeniehaaGreatDoor
namespace Go.Proofs.YtmkekbogeniehaaGreatDoor
open Go Go.Abs
set_option maxRecDepth 100000
set_option maxHeartbeats 0
open Go.ChangeShapes Go.WideShapes Go.ChangeAt Go.RowKit
theorem own : ownKnob Tryz.prog.godebug = none := by kernel_rfl
abbrev LAID : List (String × DataW Unit) := Rows.codesKnownRow.laid
section
variable {H : Type} {enc : TypeId × Value → H}
/-- the plain wrap, with what the row lists and the world's shape kept -/
theorem returns_listed {a : Assume} {C : Checked} {os : Os} {f : FuncId} {fn : Func} {s : ChangeSpec} {conds : List PathCond} {apart fresh handsOn again : Bool} {X : World → Array Value → Prop}
    (hX : ∀ (w w' : World) (args : Array Value), w.heap = w'.heap → X w args → X w' args)
    (own : ownKnob C.prog.godebug = none) (started : os.Started) (noInit : C.prog.inits.idxOf? f = none) (hfn : C.prog.funcs[f]? = some fn)
    (witness : ∃ (w : World) (tape : Tape) (i : Input), w.os = os ∧ (w.forCall tape i).Shaped C.prog ∧ i.vars = [] ∧ Input.okWide C.prog (w.forCall tape i) .any w.heap.size f i ∧
      ((s.pre enc C.prog fn conds apart (w.forCall tape i).memory i.args ∧ X (w.forCall tape i).memory i.args) ∧ sizedMet enc C.prog fn (OpenSpec.ofChange s) apart (w.forCall tape i).memory i.args) ∧ a.holds C.prog (lone (Frame.enter C.prog f i.args .normal) [] (w.forCall tape i)))
    (contract : ∀ (W : World) (base : Nat) (args : Array Value) (ds gs : List (DataW H)) (before : List MemPlace),
      (∀ (j : Nat) t v, fn.params[j]? = some t → args[j]? = some v → Value.okWide C.prog W .any base t v) →
      DataW.Whole enc C.prog fn.params.toList s.vars apart W args.toList ds gs before →
      conds.all (PathCond.test C.prog ⟨fn.params.toList, ds, s.plain.varTypes C.prog, gs⟩) = true → X W args → W.ShapedOpen C.prog →
      Calls C.prog f args W fun e W' => ∃ v, e = .returned v ∧ s.post enc C.prog fn apart fresh handsOn again W args v W') :
    ReturnsInHanded a C os f .any (fun w args => (s.pre enc C.prog fn conds apart w args ∧ X w args) ∧ sizedMet enc C.prog fn (OpenSpec.ofChange s) apart w args) (s.post enc C.prog fn apart fresh handsOn again) := by
  refine returnsInHanded_of_calls own started noInit witness ?_
  intro w tape i _ hsh _ hok hpre _
  obtain ⟨_, _, _, fn', hfn', _, _, _, _, hval⟩ := hok
  have e : fn' = fn := Option.some.inj (hfn'.symm.trans hfn)
  subst e
  obtain ⟨⟨⟨ds, gs, before, hw, hc⟩, hx⟩, _⟩ := hpre
  have hw' := DataW.Whole.of_heap (w' := w.forCall tape i) (by rfl) hw
  refine (contract (w.forCall tape i) w.heap.size i.args ds gs before hval hw' hc (hX _ _ _ (by rfl) hx) hsh).mono fun e W' ⟨v, he, hp⟩ => ?_
  subst he
  exact ChangeSpec.post_blind hp
end
/-- what the walk says -/
abbrev WalkSaid : Prop := ∀ W : World, laidMetH Tryz.prog LAID W → W.ShapedOpen Tryz.prog → Calls Tryz.prog 3 #[] W fun e w' => e = .returned (.bool true) ∧ Below W.heap.size W w'
theorem lifted (R : WalkSaid) (os : Os) (started : os.Started) (H : Type) (enc : TypeId × Value → H) :
    ReturnsInHanded {} Tryz.checked os 3 .any (fun w args => (Rows.codesKnownSpec.pre enc Tryz.prog Tryz.f3 [] false w args ∧ laidMetH Tryz.prog LAID w) ∧ sizedMet enc Tryz.prog Tryz.f3 (OpenSpec.ofChange Rows.codesKnownSpec) false w args)
      (Rows.codesKnownSpec.post enc Tryz.prog Tryz.f3 false true false false) := by
  refine returns_listed (C := Tryz.checked) (X := fun w _ => laidMetH Tryz.prog LAID w) (fun _ _ _ hh h => h.of_heap hh) own started (by kernel_rfl) Tryz.func3
    (ChangeSpec.witness_shaped (enc := enc) (C := Tryz.checked) (X := fun w _ => laidMetH Tryz.prog LAID w) false (World.laidAll Tryz.prog os LAID) #[] 8 (World.laidAll_os _ _ _) (World.shaped_of_ZipB (lay_shaped1 os) (lay_shaped2 os)) (by kernel_rfl) (by kernel_rfl) (by kernel_rfl)
      (by rw [MakeChecks.laidMetH_plain _ _ _ (by kernel_rfl)]; exact laidMet_laidAll _ (lay_fits os) (lay_ifaces os))) ?_
  intro W base args ds gs before hval0 hW _ hL hsh
  have hW' := hW
  obtain ⟨p, q, hA0, hV, rfl, _, _⟩ := hW
  obtain ⟨rfl, rfl⟩ := trodVars_none hV
  have hA : DataW.TrodAll enc Tryz.prog W 0 (fun _ => true) true Tryz.f3.params.toList args.toList ds p := hA0
  rw [Tryz.params3] at hA
  obtain ⟨hargs, rfl, rfl⟩ := trodAll_nil hA
  obtain rfl : args = #[] := by cases args; simp_all
  refine (R W hL hsh).mono fun e W' ⟨he, hb⟩ => ?_
  subst he
  have hV0 : DataW.TrodVars enc Tryz.prog W' (fun b => decide (b < W.heap.size)) [] [] [] := rfl
  exact ⟨_, rfl, ⟨_, _, _, [], [], [], hW', trodAll_mk1 (shut_bool Tryz.underlying4 _), by rw [Tryz.params3]; exact trodAll_mk0, hV0, hb.frame _, fun h => by cases h⟩⟩
theorem over (R : WalkSaid) : Rows.codesKnownRow.holds Tryz.pinned (OpenSpec.ofChange Rows.codesKnownSpec) :=
  OpenClaim.holds_of_wide 3 Tryz.f3 rfl rfl rfl rfl rfl rfl rfl ⟨rfl, rfl, rfl, rfl, rfl⟩ rfl rfl rfl rfl rfl fac_named Tryz.func3 fac_closed fac_inst fac_wrap
    (fun os started H enc _ => lifted R os started H enc)
end Go.Proofs.YtmkekbogeniehaaGreatDoor
namespace Go.Proofs.YtmkekbogeniehaaGreatDoor
open Go Go.Abs
theorem runs : Runs where
  words := runW_run
  s2_true := run2_true_run
  s3_dat := run3_dat_run
  s4_lay := run4_lay_run
  s5_tabPic := run5_tabPic_run
  s6_x0g0 := run6_x0g0_run
  s6_x0g1 := run6_x0g1_run
  s6_x0g2 := run6_x0g2_run
  s6_x0g3 := run6_x0g3_run
  s6_x0g4 := run6_x0g4_run
  s6_x0g5 := run6_x0g5_run
  s6_x1g0 := run6_x1g0_run
  s6_x1g1 := run6_x1g1_run
  s6_x1g2 := run6_x1g2_run
  s6_x1g3 := run6_x1g3_run
  s6_x1g4 := run6_x1g4_run
  s6_x1g5 := run6_x1g5_run
  s6_x1g6 := run6_x1g6_run
  s6_x1g7 := run6_x1g7_run
  s6_x1g8 := run6_x1g8_run
  s6_x1g9 := run6_x1g9_run
  s6_x2g0 := run6_x2g0_run
  s6_x2g1 := run6_x2g1_run
  s6_x3g0 := run6_x3g0_run
  s6_x3g1 := run6_x3g1_run
  s6_x4g0 := run6_x4g0_run
  s6_x4g1 := run6_x4g1_run
  s6_x5g0 := run6_x5g0_run
  s6_x5g1 := run6_x5g1_run
  s7_g0 := run7_g0_run
  s7_g1 := run7_g1_run
  s7_g2 := run7_g2_run
  s7_g3 := run7_g3_run
  s7_g4 := run7_g4_run
  s7_g5 := run7_g5_run
  s7_g6 := run7_g6_run
  s7_g7 := run7_g7_run
  s7_g8 := run7_g8_run
  s7_g9 := run7_g9_run
  s7_g10 := run7_g10_run
  s7_g11 := run7_g11_run
  s7_g12 := run7_g12_run
  s7_g13 := run7_g13_run
  s7_g14 := run7_g14_run
  s7_g15 := run7_g15_run
  s7_g16 := run7_g16_run
  s7_g17 := run7_g17_run
  s7_g18 := run7_g18_run
  s7_g19 := run7_g19_run
  s7_g20 := run7_g20_run
  s7_g21 := run7_g21_run
  s7_g22 := run7_g22_run
  s7_g23 := run7_g23_run
  s7_g24 := run7_g24_run
  s7_g25 := run7_g25_run
  s7_g26 := run7_g26_run
  s7_g27 := run7_g27_run
  s7_g28 := run7_g28_run
  s7_g29 := run7_g29_run
  s7_g30 := run7_g30_run
  s7_g31 := run7_g31_run
  s7_g32 := run7_g32_run
  s7_g33 := run7_g33_run
  s7_g34 := run7_g34_run
  s7_g35 := run7_g35_run
  s7_g36 := run7_g36_run
  s7_g37 := run7_g37_run
  s7_g38 := run7_g38_run
  s7_g39 := run7_g39_run
  s8_mac := run8_mac_run
  s8_mac2 := run8_mac2_run
  s9_g0 := run9_g0_run
  s9_g1 := run9_g1_run
  s9_g2 := run9_g2_run
  s9_g3 := run9_g3_run
  s9_g4 := run9_g4_run
  s9_g5 := run9_g5_run
  s9_g6 := run9_g6_run
  s9_g7 := run9_g7_run
  s9_g8 := run9_g8_run
  s9_g9 := run9_g9_run
  s9_g10 := run9_g10_run
  s9_g11 := run9_g11_run
  s9_g12 := run9_g12_run
  s9_g13 := run9_x13_run
  s9_g14 := run9_g14_run
  s9_g15 := run9_g15_run
  s9_g16 := run9_g16_run
  s9_g17 := run9_g17_run
  s9_g18 := run9_x18_run
  s9_g19 := run9_g19_run
  s9_g20 := run9_g20_run
  s9_g21 := run9_g21_run
  s9_g22 := run9_g22_run
  s9_g23 := run9_g23_run
  s9_g24 := run9_g24_run
  s9_g25 := run9_g25_run
  s9_g26 := run9_g26_run
  s9_g27 := run9_g27_run
  s9_g28 := run9_g28_run
  s9_g29 := run9_g29_run
  s9_g30 := run9_g30_run
  s9_g31 := run9_g31_run
  s9_g32 := run9_g32_run
  s9_g33 := run9_g33_run
  s9_g34 := run9_g34_run
  s9_g35 := run9_g35_run
  s9_g36 := run9_g36_run
  s9_g37 := run9_x37_run
  s9_g38 := run9_g38_run
  s9_g39 := run9_x39_run
  s10_g0 := run10_g0_run
  s10_g1 := run10_g1_run
  s10_g2 := run10_g2_run
  s10_g3 := run10_g3_run
  s10_g4 := run10_g4_run
  s10_g5 := run10_g5_run
  s10_g6 := run10_g6_run
  s10_g7 := run10_g7_run
  s10_g8 := run10_g8_run
  s10_g9 := run10_g9_run
  s10_g10 := run10_g10_run
  s10_g11 := run10_g11_run
  s10_g12 := run10_g12_run
  s10_g13 := run10_x13_run
  s10_g14 := run10_g14_run
  s10_g15 := run10_g15_run
  s10_g16 := run10_g16_run
  s10_g17 := run10_g17_run
  s10_g18 := run10_x18_run
  s10_g19 := run10_g19_run
  s10_g20 := run10_g20_run
  s10_g21 := run10_g21_run
  s10_g22 := run10_g22_run
  s10_g23 := run10_g23_run
  s10_g24 := run10_g24_run
  s10_g25 := run10_g25_run
  s10_g26 := run10_g26_run
  s10_g27 := run10_g27_run
  s10_g28 := run10_g28_run
  s10_g29 := run10_g29_run
  s10_g30 := run10_g30_run
  s10_g31 := run10_g31_run
  s10_g32 := run10_g32_run
  s10_g33 := run10_g33_run
  s10_g34 := run10_g34_run
  s10_g35 := run10_g35_run
  s10_g36 := run10_g36_run
  s10_g37 := run10_x37_run
  s10_g38 := run10_g38_run
  s10_g39 := run10_x39_run
  s11_g0 := run11_g0_run
  s11_g1 := run11_g1_run
  s11_g2 := run11_g2_run
  s11_g3 := run11_g3_run
  s11_g4 := run11_g4_run
  s11_g5 := run11_g5_run
  s11_g6 := run11_g6_run
  s11_g7 := run11_g7_run
  s11_g8 := run11_g8_run
  s11_g9 := run11_g9_run
  s11_g10 := run11_g10_run
  s11_g11 := run11_g11_run
  s11_g12 := run11_g12_run
  s11_g13 := run11_g13_run
  s11_g14 := run11_g14_run
  s11_g15 := run11_g15_run
  s11_g16 := run11_g16_run
  s11_g17 := run11_g17_run
  s11_g18 := run11_g18_run
  s11_g19 := run11_g19_run
  s11_g20 := run11_g20_run
  s11_g21 := run11_g21_run
  s11_g22 := run11_g22_run
  s11_g23 := run11_g23_run
  s11_g24 := run11_g24_run
  s11_g25 := run11_g25_run
  s11_g26 := run11_g26_run
  s11_g27 := run11_g27_run
  s11_g28 := run11_g28_run
  s11_g29 := run11_g29_run
  s11_g30 := run11_g30_run
  s11_g31 := run11_g31_run
  s11_g32 := run11_g32_run
  s11_g33 := run11_g33_run
  s11_g34 := run11_g34_run
  s11_g35 := run11_g35_run
  s11_g36 := run11_g36_run
  s11_g37 := run11_g37_run
  s11_g38 := run11_g38_run
  s11_g39 := run11_g39_run
  root := runRoot_run
theorem codesKnown_proved : Rows.codesKnownRow.holds Tryz.pinned (OpenSpec.ofChange Rows.codesKnownSpec) := over fun W hL hsh => walk runs (facts hL hsh)

theorem codes_known_card : Rows.CodesKnownCardSaid :=
  Claim7.holds_tied_plain_at .later [] [.data, .data, .data, .data, .sentinel, .sentinel, .listed, .data, .data, .widerDeep, .data, .data, .pinned] true (true, "18aed9cc94196939d513a1ff3e71020ee8f9622373dc9fb2f74bdfde9ab48bed") true codesKnown_proved (fun _ h => by cases h) card_wf (fun _ h => by cases h) codesKnown_row_tie rfl ⟨rfl, rfl⟩ card_main rfl
    (fun f fn hf hfn => by
      obtain rfl : f = 3 := (Option.some.inj (fac_named.symm.trans hf)).symm
      obtain rfl : fn = Tryz.f3 := (Option.some.inj (Tryz.func3.symm.trans hfn)).symm
      exact ⟨card_looks, fun j t ht => by
        rw [Tryz.params3] at ht
        have hm : t ∈ [] := by simpa using Array.mem_of_getElem? ht
        exact (show Tryz.prog.wantsStandIn t = false by simpa using List.all_eq_true.1 card_wants t hm)⟩)
    card_goes
end Go.Proofs.YtmkekbogeniehaaGreatDoor
