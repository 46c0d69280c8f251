/-
  What the function gives in a world that holds the listed tables: true; the closed runs are hypotheses here.
-/
import Derived.Test.YtekonojimffbhaaGreatDoorTabsOk
import Derived.Clock
import Derived.Stop.LaidErr
import Derived.Test.YtekonojimffbhaaGreatDoorPack
set_option linter.unusedVariables false
set_option linter.unusedSimpArgs false
namespace Go.Proofs.YtekonojimffbhaaGreatDoor
open Go Go.Abs
set_option maxRecDepth 100000
set_option maxHeartbeats 0
open Go.RowKit (Below)
theorem rem_ok (t : TypeId) (w : World) (x c : Int) (hx : 0 ≤ x) (hx2 : x ≤ 255) (hc : 0 < c) (hc2 : c ≤ 255) : (binOp .rem t (.int .u8 x) (.int .u8 c)).run Tryz.prog w = .ok (.int .u8 (x % c)) w := by
  have h1 : ¬ (c = 0) := by omega
  simp [binOp, Op.intDiv, h1, Int.tmod_eq_emod_of_nonneg hx]
theorem quo_ok (t : TypeId) (w : World) (x c : Int) (hx : 0 ≤ x) (hx2 : x ≤ 255) (hc : 0 < c) (hc2 : c ≤ 255) : (binOp .quo t (.int .u8 x) (.int .u8 c)).run Tryz.prog w = .ok (.int .u8 (x / c)) w := by
  have h1 : ¬ (c = 0) := by omega
  have h2 : 0 ≤ x / c := Int.ediv_nonneg hx (by omega)
  have h3 : x / c ≤ x := Int.ediv_le_self c hx
  have h4 : IntKind.u8.wrap (x / c) = x / c := Go.Abs.wrap_small IntKind.u8 _ (by simp [loK]; omega) (by simp [hiK]; omega)
  simp [binOp, Op.intDiv, h1, Int.tdiv_eq_ediv_of_nonneg hx, h4]
theorem sym_nil {ν : Nu} : SymOk Tryz.prog ν [] := fun q hq => by cases hq

/-! ### what the world holds -/
theorem shaped_at {W : World} (h : W.ShapedOpen Tryz.prog) (g : Nat) (t : TypeId) (hg : g < Tryz.prog.globals.size) (h0 : (((begin Tryz.prog (fun _ _ => 0) default).world.heap[g]?).bind Obj.row?).map (·.2) = some t) :
    ∃ cs, W.heap[g]? = some (.cells cs t) := by
  obtain ⟨⟨zero, t'⟩, hz, rfl⟩ := Option.map_eq_some_iff.1 h0
  obtain ⟨cs, hc, _⟩ := h.1 g zero t' hg hz
  exact ⟨cs, hc⟩
theorem obj_of {W : World} {name : String} {g : Nat} {k : IntKind} {zs : List Int} {cs : Array Value} {t : TypeId} {fr : Nat × Nat} (hn : Tryz.prog.globalNamed name = some g) (hh : W.heap[g]? = some (.cells cs t fr)) (hT : Lib.TabIs Tryz.prog W name k zs) :
    cs = (zs.map fun z => Value.int k z).toArray := by
  unfold Lib.TabIs World.var? at hT
  rw [hn] at hT
  simpa [hh] using hT
/-- the blocks that the run reads -/
structure Facts (W : World) : Prop where
  gA : ∃ fr, W.heap[0]? = some (.cells (Lib.asciiSpaceTab.map fun z => Value.int .u8 z).toArray 100 fr)
  gM : ∃ m fr, W.heap[2]? = some (.cells #[.int .i64 m] 3 fr)
  t0 : ∃ fr, W.heap[5]? = some ((⟨5, [36, 43, 45], 581⟩ : Gl).obj fr)
  t1 : ∃ fr, W.heap[8]? = some ((⟨8, [63, 15, 63, 15, 61, 61], 698⟩ : Gl).obj fr)
theorem named0 : Tryz.prog.globalNamed "strings.asciiSpace" = some 0 := by kernel_rfl
theorem globsW : Tryz.prog.globals.size = 15 := by kernel_rfl
theorem nu_of {W : World} (hF : Facts W) (X : List (Nat × Obj)) (hX : ∀ b o, (b, o) ∈ X → W.heap[b]? = some o) : ∃ G : List (Nat × Obj), (∀ b o, (b, o) ∈ G → W.heap[b]? = some o) ∧ (∀ f V, TabCell Tryz.prog ⟨f, G, V⟩ "strings.asciiSpace" .u8 Lib.asciiSpaceTab) ∧ (∀ f V, IntCell ⟨f, G, V⟩ 2) ∧
    (∀ q ∈ gls, ∃ fr, (q.g, q.obj fr) ∈ G) ∧ ∀ q ∈ X, q ∈ G := by
  obtain ⟨⟨f0, h0⟩, ⟨m, f3, h3⟩, ⟨e0, k0⟩, ⟨e1, k1⟩⟩ := hF
  refine ⟨(0, Obj.cells (Lib.asciiSpaceTab.map fun z => Value.int .u8 z).toArray 100 f0) :: (2, Obj.cells #[.int .i64 m] 3 f3) :: (5, (⟨5, [36, 43, 45], 581⟩ : Gl).obj e0) :: (8, (⟨8, [63, 15, 63, 15, 61, 61], 698⟩ : Gl).obj e1) :: X, fun b o hb => ?_, fun f _ => ⟨0, 100, f0, named0, ?_⟩, fun f _ => ⟨m, 3, f3, ?_⟩, fun q hq => ?_, fun q hq => List.mem_cons_of_mem _ (List.mem_cons_of_mem _ (List.mem_cons_of_mem _ (List.mem_cons_of_mem _ hq)))⟩
  rotate_left
  · exact List.mem_cons_self
  · exact List.mem_cons_of_mem _ List.mem_cons_self
  · simp only [gls, List.mem_cons, List.mem_nil_iff, or_false] at hq
    rcases hq with rfl | rfl
    · exact ⟨e0, List.mem_cons_of_mem _ (List.mem_cons_of_mem _ (List.mem_cons_self))⟩
    · exact ⟨e1, List.mem_cons_of_mem _ (List.mem_cons_of_mem _ (List.mem_cons_of_mem _ (List.mem_cons_self)))⟩
  · simp only [List.mem_cons, Prod.mk.injEq] at hb
    rcases hb with ⟨rfl, rfl⟩ | ⟨rfl, rfl⟩ | ⟨rfl, rfl⟩ | ⟨rfl, rfl⟩ | hb
    · exact h0
    · exact h3
    · exact k0
    · exact k1
    · exact hX b o hb
theorem hs_HR {ν : Nu} (hG : ∀ q ∈ gls, ∃ fr, (q.g, q.obj fr) ∈ ν.G) {w : World} (hw : ∀ b o, (b, o) ∈ ν.G → w.heap[b]? = some o) : HR (phiOf gls) ν hs w := by
  refine h0_HR (by decide) ?_ ?_ ?_ ?_ hG hw
  · intro q hq; simp only [gls, List.mem_cons, List.mem_nil_iff, or_false] at hq; rcases hq with rfl | rfl <;> decide
  · intro q hq; simp only [gls, List.mem_cons, List.mem_nil_iff, or_false] at hq; rcases hq with rfl | rfl <;> decide
  · decide +kernel
  · intro g hg
    unfold gver at hg
    cases hb0 : Nat.beq g 5 with
    | true =>
      have e := Nat.eq_of_beq_eq_true hb0
      subst e
      exact ⟨⟨5, [36, 43, 45], 581⟩, by simp [gls], rfl, rfl⟩
    | false =>
      first | rw [hb0, cond_false] at hg | rw [cond_false] at hg
      cases hb1 : Nat.beq g 8 with
      | true =>
        have e := Nat.eq_of_beq_eq_true hb1
        subst e
        exact ⟨⟨8, [63, 15, 63, 15, 61, 61], 698⟩, by simp [gls], rfl, rfl⟩
      | false =>
        first | rw [hb1, cond_false] at hg | rw [cond_false] at hg
        exact absurd hg (Nat.lt_irrefl 0)
theorem phi_lim : ∀ id ver p, phiOf gls id ver = some p → id < hs.ro.lim := by
  intro id ver p h
  obtain ⟨q, hq, h1, _, _⟩ := phiOf_some h
  simp only [gls, List.mem_cons, List.mem_nil_iff, or_false] at hq
  show id < 16
  rw [← h1]
  rcases hq with rfl | rfl <;> decide
theorem phi_in {ν : Nu} (hG : ∀ q ∈ gls, ∃ fr, (q.g, q.obj fr) ∈ ν.G) : ∀ id ver p, phiOf gls id ver = some p → ∃ o, (p.blk, o) ∈ ν.G := by
  intro id ver p h
  obtain ⟨q, hq, h1, h2, rfl⟩ := phiOf_some h
  obtain ⟨fr, hm⟩ := hG q hq
  exact ⟨_, hm⟩

/-! ### the runs, put to use -/
/-- what the kernel ran, but for the cases -/
structure Stages : Prop where
  words : runW = true
  s2_true : run2_true = true
  s3_prg : run3_prg = true
  s4_tk0 : run4_tk0 = true
  s4_tk1 : run4_tk1 = true
  s5_bld : run5_bld = true
  s6_mac : run6_mac = true
  s6_mac2 : run6_mac2 = true
  s7_ck0 : run7_ck0 = true
  s7_ck1 : run7_ck1 = true
  s7_ck2 : run7_ck2 = true
  s7_ck3 : run7_ck3 = true
  s7_ck4 : run7_ck4 = true
  s8_sum : run8_sum = true
  s8_sum1 : run8_sum1 = true
  s9_num0 : run9_num0 = true
  s9_num1 : run9_num1 = true
  s10_ctd : run10_ctd = true
  s10_ctc : run10_ctc = true
theorem tab1_ok {ν : Nu} (ht : TblOk Tryz.prog ν tab0) (h3 : IntCell ν 2) (hG : ∀ q ∈ gls, ∃ fr, (q.g, q.obj fr) ∈ ν.G) (R : Stages) : TblOk Tryz.prog ν tab1 := by
  obtain ⟨t', ht', h⟩ := mkTblZ_true noNG sym_nil (splitOk h3) fnsW_ok ht R.words
  unfold tab1
  exact ht.set (f := 387) (by omega) (FnGood.closed_map ht' h (fun w hw => hs_HR hG hw) phi_lim)
theorem tab2_ok {ν : Nu} (ht : TblOk Tryz.prog ν tab1) (h3 : IntCell ν 2) (hG : ∀ q ∈ gls, ∃ fr, (q.g, q.obj fr) ∈ ν.G) (R : Stages) : TblOk Tryz.prog ν tab2 := by
  obtain ⟨t', ht', h⟩ := mkTblZ_true noNG sym_nil (splitOk h3) fnsL_ok ht R.s2_true
  unfold tab2
  exact ht.set (f := 8) (by omega) (FnGood.closed_true ht' h (fun w hw => hs_HR hG hw) phi_lim)
theorem tab3_ok {ν : Nu} (ht : TblOk Tryz.prog ν tab2) (h3 : IntCell ν 2) (hG : ∀ q ∈ gls, ∃ fr, (q.g, q.obj fr) ∈ ν.G) (R : Stages) : TblOk Tryz.prog ν tab3 := by
  obtain ⟨u0, hu0, e0⟩ := mkTblZ_true noNG sym_nil (splitOk h3) fnsU_ok ht R.s3_prg
  unfold tab3
  exact ht.set (f := 4) (by omega) (FnGood.memo2 hu0 prg e0 (fun w hw => hs_HR hG hw) (phi_in hG) (by decide +kernel) (by decide +kernel) (by decide +kernel) failD_good)
theorem tab4_ok {ν : Nu} (ht : TblOk Tryz.prog ν tab3) (h3 : IntCell ν 2) (hG : ∀ q ∈ gls, ∃ fr, (q.g, q.obj fr) ∈ ν.G) (R : Stages) : TblOk Tryz.prog ν tab4 := by
  obtain ⟨u0, hu0, e0⟩ := mkTblZ_true noNG sym_nil (splitOk h3) fnsU_ok ht R.s4_tk0
  obtain ⟨u1, hu1, e1⟩ := mkTblZ_true noNG sym_nil (splitOk h3) fnsU_ok ht R.s4_tk1
  unfold tab4
  exact ht.set (f := 5) (by omega) (FnGood.memo2 hu0 tk0 e0 (fun w hw => hs_HR hG hw) (phi_in hG) (by decide +kernel) (by decide +kernel) (by decide +kernel) (FnGood.memo2 hu1 tk1 e1 (fun w hw => hs_HR hG hw) (phi_in hG) (by decide +kernel) (by decide +kernel) (by decide +kernel) failD_good))
theorem tab5_ok {ν : Nu} (ht : TblOk Tryz.prog ν tab4) (h3 : IntCell ν 2) (hG : ∀ q ∈ gls, ∃ fr, (q.g, q.obj fr) ∈ ν.G) (R : Stages) : TblOk Tryz.prog ν tab5 := by
  obtain ⟨u0, hu0, e0⟩ := mkTblZ_true noNG sym_nil (splitOk h3) fnsB_ok ht R.s5_bld
  unfold tab5
  exact ht.set (f := 6) (by omega) (FnGood.memo2 hu0 bld e0 (fun w hw => hs_HR hG hw) (phi_in hG) (by decide +kernel) (by decide +kernel) (by decide +kernel) failD_good)
theorem tab6_ok {ν : Nu} (ht : TblOk Tryz.prog ν tab5) (h3 : IntCell ν 2) (hG : ∀ q ∈ gls, ∃ fr, (q.g, q.obj fr) ∈ ν.G) (R : Stages) : TblOk Tryz.prog ν tab6 := by
  obtain ⟨u0, hu0, e0⟩ := mkTblZ_true noNG sym_nil (splitOk h3) fnsM_ok ht R.s6_mac
  obtain ⟨u1, hu1, e1⟩ := mkTblZ_true noNG sym_nil (splitOk h3) fnsM_ok ht R.s6_mac2
  unfold tab6
  exact ht.set (f := 18) (by omega) (FnGood.memo2 hu0 mac e0 (fun w hw => hs_HR hG hw) (phi_in hG) (by decide +kernel) (by decide +kernel) (by decide +kernel) (FnGood.memo2 hu1 mac2 e1 (fun w hw => hs_HR hG hw) (phi_in hG) (by decide +kernel) (by decide +kernel) (by decide +kernel) failD_good))
theorem tab7_ok {ν : Nu} (ht : TblOk Tryz.prog ν tab6) (h3 : IntCell ν 2) (hG : ∀ q ∈ gls, ∃ fr, (q.g, q.obj fr) ∈ ν.G) (R : Stages) : TblOk Tryz.prog ν tab7 := by
  obtain ⟨u0, hu0, e0⟩ := mkTblZ_true noNG sym_nil (splitOk h3) fnsK_ok ht R.s7_ck0
  obtain ⟨u1, hu1, e1⟩ := mkTblZ_true noNG sym_nil (splitOk h3) fnsK_ok ht R.s7_ck1
  obtain ⟨u2, hu2, e2⟩ := mkTblZ_true noNG sym_nil (splitOk h3) fnsK_ok ht R.s7_ck2
  obtain ⟨u3, hu3, e3⟩ := mkTblZ_true noNG sym_nil (splitOk h3) fnsK_ok ht R.s7_ck3
  obtain ⟨u4, hu4, e4⟩ := mkTblZ_true noNG sym_nil (splitOk h3) fnsK_ok ht R.s7_ck4
  unfold tab7
  exact ht.set (f := 49) (by omega) (FnGood.memo0 hu0 ck0 e0 (fun w hw => hs_HR hG hw) (phi_in hG) (by decide +kernel) (FnGood.memo0 hu1 ck1 e1 (fun w hw => hs_HR hG hw) (phi_in hG) (by decide +kernel) (FnGood.memo0 hu2 ck2 e2 (fun w hw => hs_HR hG hw) (phi_in hG) (by decide +kernel) (FnGood.memo0 hu3 ck3 e3 (fun w hw => hs_HR hG hw) (phi_in hG) (by decide +kernel) (FnGood.memo0 hu4 ck4 e4 (fun w hw => hs_HR hG hw) (phi_in hG) (by decide +kernel) failD_good)))))
theorem tab8_ok {ν : Nu} (ht : TblOk Tryz.prog ν tab7) (h3 : IntCell ν 2) (hG : ∀ q ∈ gls, ∃ fr, (q.g, q.obj fr) ∈ ν.G) (R : Stages) : TblOk Tryz.prog ν tab8 := by
  obtain ⟨u0, hu0, e0⟩ := mkTblZ_true noNG sym_nil (splitOk h3) fnsU_ok ht R.s8_sum
  obtain ⟨u1, hu1, e1⟩ := mkTblZ_true noNG sym_nil (splitOk h3) fnsU_ok ht R.s8_sum1
  unfold tab8
  exact ht.set (f := 58) (by omega) (FnGood.memo0 hu0 sum e0 (fun w hw => hs_HR hG hw) (phi_in hG) (by decide +kernel) (FnGood.memo0 hu1 sum1 e1 (fun w hw => hs_HR hG hw) (phi_in hG) (by decide +kernel) failD_good))
theorem tab9_ok {ν : Nu} (ht : TblOk Tryz.prog ν tab8) (h3 : IntCell ν 2) (hG : ∀ q ∈ gls, ∃ fr, (q.g, q.obj fr) ∈ ν.G) (R : Stages) : TblOk Tryz.prog ν tab9 := by
  obtain ⟨u0, hu0, e0⟩ := mkTblZ_true noNG sym_nil (splitOk h3) fnsQ_ok ht R.s9_num0
  obtain ⟨u1, hu1, e1⟩ := mkTblZ_true noNG sym_nil (splitOk h3) fnsQ_ok ht R.s9_num1
  unfold tab9
  exact ht.set (f := 219) (by omega) (FnGood.memo0 hu0 num0 e0 (fun w hw => hs_HR hG hw) (phi_in hG) (by decide +kernel) (FnGood.memo0 hu1 num1 e1 (fun w hw => hs_HR hG hw) (phi_in hG) (by decide +kernel) failD_good))
theorem tab10_ok {ν : Nu} (ht : TblOk Tryz.prog ν tab9) (h3 : IntCell ν 2) (hG : ∀ q ∈ gls, ∃ fr, (q.g, q.obj fr) ∈ ν.G) (R : Stages) : TblOk Tryz.prog ν tab10 := by
  obtain ⟨u0, hu0, e0⟩ := mkTblZ_true noNG sym_nil (splitOk h3) fnsU_ok ht R.s10_ctd
  obtain ⟨u1, hu1, e1⟩ := mkTblZ_true noNG sym_nil (splitOk h3) fnsU_ok ht R.s10_ctc
  unfold tab10
  exact ht.set (f := 347) (by omega) (FnGood.memo0 hu0 ctd e0 (fun w hw => hs_HR hG hw) (phi_in hG) (by decide +kernel) (FnGood.memo0 hu1 ctc e1 (fun w hw => hs_HR hG hw) (phi_in hG) (by decide +kernel) failD_good))
theorem tabF_ok {ν : Nu} (h0 : TabCell Tryz.prog ν "strings.asciiSpace" .u8 Lib.asciiSpaceTab) (h3 : IntCell ν 2) (hG : ∀ q ∈ gls, ∃ fr, (q.g, q.obj fr) ∈ ν.G) (R : Stages) : TblOk Tryz.prog ν tab10 :=
  (tab10_ok (tab9_ok (tab8_ok (tab7_ok (tab6_ok (tab5_ok (tab4_ok (tab3_ok (tab2_ok (tab1_ok (tab0_ok h0 h3) h3 hG R) h3 hG R) h3 hG R) h3 hG R) h3 hG R) h3 hG R) h3 hG R) h3 hG R) h3 hG R) h3 hG R)
/-- a run by a table that is good, put to use -/
theorem run_said {f : Nat → Int} {G : List (Nat × Obj)} {V : Nat → Value} {t : T4 FnD TD} (ht : TblOk Tryz.prog ⟨f, G, V⟩ t) (g4 : ∀ q ∈ gls, ∃ fr, (q.g, q.obj fr) ∈ G) {W : World} (g1 : ∀ b o, (b, o) ∈ G → W.heap[b]? = some o) {avs : List AV} {vs : List Value} (hv : VRs (phiOf gls) ⟨f, G, V⟩ avs vs)
    (h : runF t 60 3 avs hs isTrueK (fun _ _ => false) = true) : Calls Tryz.prog 3 vs.toArray W fun e w' => e = .returned (.bool true) ∧ Below W.heap.size W w' := by
  have hr := hs_HR (ν := ⟨f, G, V⟩) g4 (w := W) g1
  have hco := runF_ok ht 60 3 _ hs isTrueK (fun _ _ => false) h (phiOf gls) W vs hr hv
  have key : ∀ e w', FPost (phiOf gls) ⟨f, G, V⟩ hs.ro W hs.ds isTrueK (fun _ _ => false) e w' → e = .returned (.bool true) ∧ Below W.heap.size W w' := by
    intro e w' hp
    cases e with
    | returned x =>
      obtain ⟨φ', av, h', hvr, hr', hx, _, _, hav⟩ := hp
      obtain ⟨b, e2, hb2⟩ := vBool_true (show vBool av (fun b => b) = true from hav)
      subst e2 hb2
      cases hvr
      exact ⟨rfl, below_of_ext hx phi_lim⟩
    | panicked chain =>
      obtain ⟨φ', av, h', v, _, _, _, _, _, _, hav⟩ := hp
      cases hav
    | outgrown => exact hp.elim
  rcases hco with ⟨_, h2⟩ | ⟨x, w', h2, _⟩
  · exact h2.mono key
  · exfalso
    have hb : hasBody Tryz.prog 3 = true := by kernel_rfl
    rw [hasBody_true hb] at h2
    cases h2
/-- the symbols' values: class c has the numbers at hand, every other class its own rests; the number of steps of a class is never too small for the run with a symbol -/
def fOf (c : Nat) (a0 b0 b1 c0 : Int) : Nat → Int := fun s =>
  if s / 5 = c then (if s % 5 = 0 then a0 else if s % 5 = 1 then b0 else if s % 5 = 3 then c0 else if (Sf c : Int) ≤ b1 then b1 else Sf c)
  else (if s % 5 = 0 then (s / 5 % 4 : Nat) else if s % 5 = 1 then (s / 5 / 4 % 6 : Nat) else if s % 5 = 3 then (s / 5 / 24 : Nat) else (Sf (s / 5) : Nat))
def allj : List (Nat × Nat × Nat) := kns.flatten
def covB : Bool := (List.range 120).all fun c => (fun js : List (Nat × Nat × Nat) => (List.range (Sf c)).all fun n => js.any fun j => Nat.ble j.2.1 n && Nat.blt n (j.2.1 + j.2.2)) (allj.filter fun j => Nat.beq j.1 c)
theorem covB_run : covB = true := by decide +kernel
theorem covN (c : Nat) (hc : c < 120) (n : Nat) (hn : n < Sf c) : ∃ l ∈ kns, ∃ j ∈ l, j.1 = c ∧ j.2.1 ≤ n ∧ n < j.2.1 + j.2.2 := by
  have h := List.all_eq_true.1 (List.all_eq_true.1 covB_run c (List.mem_range.2 hc)) n (List.mem_range.2 hn)
  obtain ⟨j, hj, h⟩ := List.any_eq_true.1 h
  obtain ⟨hj, h0⟩ := List.mem_filter.1 hj
  obtain ⟨h1, h2⟩ := Bool.and_eq_true_iff.1 h
  obtain ⟨l, hl, hj⟩ := List.mem_flatten.1 hj
  exact ⟨l, hl, j, hj, Nat.eq_of_beq_eq_true h0, Nat.le_of_ble_eq_true h1, by simpa [Nat.blt_eq] using h2⟩
theorem covY : ∀ c < 120, (∃ m ∈ kys, (c, Sf c) ∈ m) ∧ Sf c ≤ 255 := by decide +kernel
theorem lowN : ∀ l ∈ kns, ∀ j ∈ l, j.1 < 120 := by decide +kernel
theorem lowY : ∀ m ∈ kys, ∀ j ∈ m, j.1 < 120 ∧ j.2 = Sf j.1 := by decide +kernel
/-- the symbols' values fit a class -/
structure ClsOk (F : Nat → Int) (c : Nat) : Prop where
  r0 : 0 ≤ F (5 * c) ∧ F (5 * c) ≤ 255
  r1 : 0 ≤ F (5 * c + 1) ∧ F (5 * c + 1) ≤ 255
  r2 : 0 ≤ F (5 * c + 2) ∧ F (5 * c + 2) ≤ 255
  r3 : 0 ≤ F (5 * c + 3) ∧ F (5 * c + 3) ≤ 255
  e0 : F (5 * c) % 4 = ((c % 4 : Nat) : Int)
  e1 : F (5 * c + 1) % 6 = ((c / 4 % 6 : Nat) : Int)
  e3 : F (5 * c + 3) % 5 = ((c / 24 : Nat) : Int)
  e4 : F (5 * c + 4) = F (5 * c + 2)
  big : (Sf c : Int) ≤ F (5 * c + 2)
section
variable {V : Nat → Value} {G : List (Nat × Obj)} {F : Nat → Int} {c : Nat}
theorem sym_o (h : ClsOk F c) (hc : c < 120) : SymOk Tryz.prog ⟨F, G, V⟩ (rulesO (5 * c) (c % 4) (c / 4 % 6) (c / 24)) := by
  intro q hq
  simp only [rulesO, List.mem_cons, List.mem_nil_iff, or_false] at hq
  rcases hq with rfl | rfl | rfl
  · exact Rule.rem_ok (by omega) h.r0.1 h.r0.2 (by decide) (by decide) h.e0
  · exact Rule.rem_ok (show 5 * c + 1 < 1000 by omega) h.r1.1 h.r1.2 (by decide) (by decide) h.e1
  · exact Rule.rem_ok (show 5 * c + 3 < 1000 by omega) h.r3.1 h.r3.2 (by decide) (by decide) h.e3
theorem sym_y (h : ClsOk F c) (hc : c < 120) : SymOk Tryz.prog ⟨F, G, V⟩ (rulesY (5 * c) (c % 4) (c / 4 % 6) (c / 24) (Sf c)) := by
  intro q hq
  have e4 : F (5 * c + 4) = F (5 * c + 2) := h.e4
  unfold rulesY at hq
  rcases List.mem_cons.1 hq with rfl | hq
  · exact Rule.conv_ok (show 5 * c + 2 < 1000 by omega) (show 5 * c + 4 < 1000 by omega) h.r2.1 h.r2.2 h.e4
  rcases List.mem_cons.1 hq with rfl | hq
  · exact ⟨show 5 * c + 4 < 1000 by omega, show F (5 * c + 4) ≤ 1048576 by have := h.r2; omega⟩
  rcases List.mem_cons.1 hq with rfl | hq
  · exact Rule.geq_ok (show 5 * c + 4 < 1000 by omega) (show (Sf c : Int) ≤ F (5 * c + 4) by have := h.big; omega)
  exact sym_o h hc q hq
end
theorem cls_ok {c : Nat} {a0 b0 b1 c0 : Int} (h0 : 0 ≤ a0 ∧ a0 ≤ 255) (h1 : 0 ≤ b0 ∧ b0 ≤ 255) (h2 : 0 ≤ b1 ∧ b1 ≤ 255) (h3 : 0 ≤ c0 ∧ c0 ≤ 255) (ex : a0 % 4 = ((c % 4 : Nat) : Int)) (ea : b0 % 6 = ((c / 4 % 6 : Nat) : Int)) (el : c0 % 5 = ((c / 24 : Nat) : Int)) (d : Nat) (hd : d < 120) : ClsOk (fOf c a0 b0 b1 c0) d := by
  have hS := (covY d hd).2
  have q : ∀ i, i < 5 → (5 * d + i) / 5 = d ∧ (5 * d + i) % 5 = i := fun i hi => by omega
  have q0 := q 0 (by omega)
  have q1 := q 1 (by omega)
  have q2 := q 2 (by omega)
  have q3 := q 3 (by omega)
  have q4 := q 4 (by omega)
  rw [Nat.add_zero] at q0
  have v0 : fOf c a0 b0 b1 c0 (5 * d) = if d = c then a0 else ((d % 4 : Nat) : Int) := by simp only [fOf, q0.1, q0.2]; rfl
  have v1 : fOf c a0 b0 b1 c0 (5 * d + 1) = if d = c then b0 else ((d / 4 % 6 : Nat) : Int) := by simp only [fOf, q1.1, q1.2]; rfl
  have v2 : fOf c a0 b0 b1 c0 (5 * d + 2) = if d = c then (if (Sf c : Int) ≤ b1 then b1 else Sf c) else (Sf d : Int) := by simp only [fOf, q2.1, q2.2]; rfl
  have v3 : fOf c a0 b0 b1 c0 (5 * d + 3) = if d = c then c0 else ((d / 24 : Nat) : Int) := by simp only [fOf, q3.1, q3.2]; rfl
  have v4 : fOf c a0 b0 b1 c0 (5 * d + 4) = if d = c then (if (Sf c : Int) ≤ b1 then b1 else Sf c) else (Sf d : Int) := by simp only [fOf, q4.1, q4.2]; rfl
  by_cases e : d = c
  · subst e
    rw [if_pos rfl] at v0 v1 v2 v3 v4
    have v5 : (Sf d : Int) ≤ (if (Sf d : Int) ≤ b1 then b1 else Sf d) ∧ (if (Sf d : Int) ≤ b1 then b1 else Sf d) ≤ 255 := by split <;> omega
    exact ⟨by rw [v0]; exact h0, by rw [v1]; exact h1, by rw [v2]; omega, by rw [v3]; exact h3, by rw [v0]; exact ex, by rw [v1]; exact ea, by rw [v3]; exact el, by rw [v2, v4], by rw [v2]; exact v5.1⟩
  · rw [if_neg e] at v0 v1 v2 v3 v4
    exact ⟨by rw [v0]; omega, by rw [v1]; omega, by rw [v2]; omega, by rw [v3]; omega, by rw [v0]; omega, by rw [v1]; omega, by rw [v3]; omega, by rw [v2, v4], by rw [v2]; omega⟩
theorem calls_ex {P : Program} {f : FuncId} {args : Array Value} {w : World} {R : Ending → World → Prop} (h : Calls P f args w R) : ∃ e w', R e w' := by
  obtain ⟨e, w', _, hR, _⟩ := h []
  exact ⟨e, w', hR⟩
/-- a run by a table that is good, put to use; then the next -/
theorem run_next {f : Nat → Int} {G : List (Nat × Obj)} {V : Nat → Value} {t : T4 FnD TD} (ht : TblOk Tryz.prog ⟨f, G, V⟩ t) (g4 : ∀ q ∈ gls, ∃ fr, (q.g, q.obj fr) ∈ G) {W : World} (g1 : ∀ b o, (b, o) ∈ G → W.heap[b]? = some o) {avs : List AV} {vs : List Value} (hv : VRs (phiOf gls) ⟨f, G, V⟩ avs vs) {next : Bool}
    (h : runF t 60 3 avs hs (contK next) (fun _ _ => false) = true) : (Calls Tryz.prog 3 vs.toArray W fun e w' => e = .returned (.bool true) ∧ Below W.heap.size W w') ∧ next = true := by
  have hr := hs_HR (ν := ⟨f, G, V⟩) g4 (w := W) g1
  have hco := runF_ok ht 60 3 _ hs (contK next) (fun _ _ => false) h (phiOf gls) W vs hr hv
  have key : ∀ e w', FPost (phiOf gls) ⟨f, G, V⟩ hs.ro W hs.ds (contK next) (fun _ _ => false) e w' → (e = .returned (.bool true) ∧ Below W.heap.size W w') ∧ next = true := by
    intro e w' hp
    cases e with
    | returned x =>
      obtain ⟨φ', av, h', hvr, hr', hx, _, _, hav⟩ := hp
      obtain ⟨b, e2, hb2⟩ := vBool_true (show vBool av (fun b => Bool.rec (motive := fun _ => Bool) false next b) = true from hav)
      subst e2
      cases b with
      | false => cases hb2
      | true =>
        cases hvr
        exact ⟨⟨rfl, below_of_ext hx phi_lim⟩, hb2⟩
    | panicked chain =>
      obtain ⟨φ', av, h', v, _, _, _, _, _, _, hav⟩ := hp
      cases hav
    | outgrown => exact hp.elim
  rcases hco with ⟨_, h2⟩ | ⟨x, w', h2, _⟩
  · have h3 := h2.mono key
    obtain ⟨e, w', _, hn⟩ := calls_ex h3
    exact ⟨h3.mono fun e w' q => q.1, hn⟩
  · exfalso
    have hb : hasBody Tryz.prog 3 = true := by kernel_rfl
    rw [hasBody_true hb] at h2
    cases h2
section
variable {V : Nat → Value} {G : List (Nat × Obj)} {F : Nat → Int} {W : World}
/-- what a call gives -/
abbrev Gives (W : World) (a0 b0 b1 c0 : Int) : Prop := Calls Tryz.prog 3 #[.int .u8 a0, .agg #[.int .u8 b0, .int .u8 b1], .int .u8 c0] W fun e w' => e = .returned (.bool true) ∧ Below W.heap.size W w'
theorem one2 (b0 b1 : Int) : ∀ v ∈ [Value.int .u8 b0, Value.int .u8 b1], v.oneCell' = true := by
  intro v hv
  simp only [List.mem_cons, List.mem_nil_iff, or_false] at hv
  rcases hv with rfl | rfl <;> rfl
theorem symV {z : Nat} (hz : z < 1000) : VR (phiOf gls) ⟨F, G, V⟩ (.sym .u8 z) (.int .u8 (F z)) := by
  have := VR.sym (φ := phiOf gls) (ν := ⟨F, G, V⟩) .u8 z
  rwa [Nu.val_num _ _ hz] at this
theorem runsN_said {t : T4 FnD TD} (ht : TblOk Tryz.prog ⟨F, G, V⟩ t) (g4 : ∀ q ∈ gls, ∃ fr, (q.g, q.obj fr) ∈ G) (g1 : ∀ b o, (b, o) ∈ G → W.heap[b]? = some o) {z lo : Nat} (hz : z + 4 < 1000) {next : Bool} : ∀ {cnt : Nat}, runsN t z lo cnt next = true →
    (∀ n, lo ≤ n → n < lo + cnt → Gives W (F z) (F (z + 1)) n (F (z + 3))) ∧ next = true
  | 0, h => ⟨fun n h1 h2 => by omega, h⟩
  | cnt + 1, h => by
    have h : forceN (lo + cnt) (fun n => runN t z n (runsN t z lo cnt next)) = true := h
    rw [forceN_eq] at h
    obtain ⟨k1, k2⟩ := run_next ht g4 g1 (vs := [.int .u8 (F z), .agg #[.int .u8 (F (z + 1)), .int .u8 (.ofNat (lo + cnt))], .int .u8 (F (z + 3))]) (.cons (symV (by omega)) (.cons (VR.agg (.cons (symV (by omega)) (.cons (VR.int _ _) .nil)) (one2 _ _)) (.cons (symV (by omega)) .nil))) (show runF t 60 3 [.sym .u8 z, .agg [.sym .u8 (z + 1), .int .u8 (.ofNat (lo + cnt))], .sym .u8 (z + 3)] hs (contK (runsN t z lo cnt next)) (fun _ _ => false) = true from h)
    obtain ⟨k3, k4⟩ := runsN_said ht g4 g1 hz k2
    refine ⟨fun n h1 h2 => ?_, k4⟩
    rcases Nat.lt_or_ge n (lo + cnt) with q | q
    · exact k3 n h1 q
    · have : n = lo + cnt := by omega
      subst this
      exact k1
theorem jobN_said {t : T4 FnD TD} (h3 : IntCell ⟨F, G, V⟩ 2) (ht : TblOk Tryz.prog ⟨F, G, V⟩ t) (g4 : ∀ q ∈ gls, ∃ fr, (q.g, q.obj fr) ∈ G) (g1 : ∀ b o, (b, o) ∈ G → W.heap[b]? = some o) {c lo cnt : Nat} (hc : c < 120) (hF : ClsOk F c) {next : Bool} (h : jobN t c lo cnt next = true) :
    (∀ n, lo ≤ n → n < lo + cnt → Gives W (F (5 * c)) (F (5 * c + 1)) n (F (5 * c + 3))) ∧ next = true := by
  unfold jobN at h
  simp only [forceN_eq] at h
  obtain ⟨t2, ht2, hr⟩ := mkTblZ_true noNG (sym_o hF hc) (splitOk h3) fnsR_ok ht (show mkTblZ Tryz.prog (rulesO (5 * c) (c % 4) (c / 4 % 6) (c / 24)) (515, 438) 102 fnsR t (fun t => runsN t (5 * c) lo cnt next) = true from h)
  exact runsN_said ht2 g4 g1 (by omega) hr
theorem jobY_said {t : T4 FnD TD} (h3 : IntCell ⟨F, G, V⟩ 2) (ht : TblOk Tryz.prog ⟨F, G, V⟩ t) (g4 : ∀ q ∈ gls, ∃ fr, (q.g, q.obj fr) ∈ G) (g1 : ∀ b o, (b, o) ∈ G → W.heap[b]? = some o) {c S : Nat} (hc : c < 120) (hS : S = Sf c) (hF : ClsOk F c) {next : Bool} (h : jobY t c S next = true) :
    Gives W (F (5 * c)) (F (5 * c + 1)) (F (5 * c + 2)) (F (5 * c + 3)) ∧ next = true := by
  subst hS
  unfold jobY at h
  simp only [forceN_eq] at h
  obtain ⟨t2, ht2, hr⟩ := mkTblZ_true noNG (sym_y hF hc) (splitOk h3) fnsR_ok ht (show mkTblZ Tryz.prog (rulesY (5 * c) (c % 4) (c / 4 % 6) (c / 24) (Sf c)) (515, 438) 102 fnsR t (fun t => runY t (5 * c) next) = true from h)
  exact run_next ht2 g4 g1 (vs := [.int .u8 (F (5 * c)), .agg #[.int .u8 (F (5 * c + 1)), .int .u8 (F (5 * c + 2))], .int .u8 (F (5 * c + 3))]) (.cons (symV (by omega)) (.cons (VR.agg (.cons (symV (by omega)) (.cons (symV (by omega)) .nil)) (one2 _ _)) (.cons (symV (by omega)) .nil))) hr
theorem allN_said {t : T4 FnD TD} (h3 : IntCell ⟨F, G, V⟩ 2) (ht : TblOk Tryz.prog ⟨F, G, V⟩ t) (g4 : ∀ q ∈ gls, ∃ fr, (q.g, q.obj fr) ∈ G) (g1 : ∀ b o, (b, o) ∈ G → W.heap[b]? = some o) (hF : ∀ c, c < 120 → ClsOk F c) {next : Bool} : ∀ {l : List (Nat × Nat × Nat)}, (∀ j ∈ l, j.1 < 120) → allN t l next = true →
    (∀ j ∈ l, ∀ n, j.2.1 ≤ n → n < j.2.1 + j.2.2 → Gives W (F (5 * j.1)) (F (5 * j.1 + 1)) n (F (5 * j.1 + 3))) ∧ next = true
  | [], _, h => ⟨fun j hj => by (cases hj), h⟩
  | i :: l, hl, h => by
    have hi := hl i List.mem_cons_self
    obtain ⟨k1, k2⟩ := jobN_said h3 ht g4 g1 hi (hF _ hi) (show jobN t i.1 i.2.1 i.2.2 (allN t l next) = true from h)
    obtain ⟨k3, k4⟩ := allN_said h3 ht g4 g1 hF (fun j hj => hl j (List.mem_cons_of_mem _ hj)) k2
    refine ⟨fun j hj => ?_, k4⟩
    rcases List.mem_cons.1 hj with rfl | hj
    · exact k1
    · exact k3 j hj
theorem allY_said {t : T4 FnD TD} (h3 : IntCell ⟨F, G, V⟩ 2) (ht : TblOk Tryz.prog ⟨F, G, V⟩ t) (g4 : ∀ q ∈ gls, ∃ fr, (q.g, q.obj fr) ∈ G) (g1 : ∀ b o, (b, o) ∈ G → W.heap[b]? = some o) (hF : ∀ c, c < 120 → ClsOk F c) {next : Bool} : ∀ {l : List (Nat × Nat)}, (∀ j ∈ l, j.1 < 120 ∧ j.2 = Sf j.1) → allY t l next = true →
    (∀ j ∈ l, Gives W (F (5 * j.1)) (F (5 * j.1 + 1)) (F (5 * j.1 + 2)) (F (5 * j.1 + 3))) ∧ next = true
  | [], _, h => ⟨fun j hj => by (cases hj), h⟩
  | i :: l, hl, h => by
    have hi := hl i List.mem_cons_self
    obtain ⟨k1, k2⟩ := jobY_said h3 ht g4 g1 hi.1 hi.2 (hF _ hi.1) (show jobY t i.1 i.2 (allY t l next) = true from h)
    obtain ⟨k3, k4⟩ := allY_said h3 ht g4 g1 hF (fun j hj => hl j (List.mem_cons_of_mem _ hj)) k2
    refine ⟨fun j hj => ?_, k4⟩
    rcases List.mem_cons.1 hj with rfl | hj
    · exact k1
    · exact k3 j hj
end
/-- what the kernel ran -/
structure Runs : Prop extends Stages where
  cases : ∀ i < kns.length, caseJ (kns.getD i []) (kys.getD i []) = true
theorem same : kns.length = kys.length := by decide +kernel
theorem walk (R : Runs) (a0 b0 b1 c0 : Int) (w0 : (Lit.int .u8 a0).wf = true) (w1 : (Lit.int .u8 b0).wf = true) (w2 : (Lit.int .u8 b1).wf = true) (w3 : (Lit.int .u8 c0).wf = true) {W : World} (hF : Facts W) :
    Calls Tryz.prog 3 #[.int .u8 a0, .agg #[.int .u8 b0, .int .u8 b1], .int .u8 c0] W fun e w' => e = .returned (.bool true) ∧ Below W.heap.size W w' := by
  have hh : ∀ n : Int, (Lit.int .u8 n).wf = true → 0 ≤ n ∧ n ≤ 255 := fun n w => by simpa [Lit.wf, IntKind.min, IntKind.max, IntKind.signed, IntKind.bits] using w
  have h0 := hh a0 w0
  have h1 := hh b0 w1
  have h2 := hh b1 w2
  have h3 := hh c0 w3
  obtain ⟨x, ex⟩ : ∃ x : Nat, a0 % 4 = (x : Int) := ⟨(a0 % 4).toNat, by omega⟩
  obtain ⟨a, ea⟩ : ∃ x : Nat, b0 % 6 = (x : Int) := ⟨(b0 % 6).toNat, by omega⟩
  obtain ⟨l, el⟩ : ∃ x : Nat, c0 % 5 = (x : Int) := ⟨(c0 % 5).toNat, by omega⟩
  obtain ⟨n, en⟩ : ∃ n : Nat, b1 = (n : Int) := ⟨b1.toNat, by omega⟩
  obtain ⟨c, hc⟩ : ∃ c, c = x + 4 * a + 24 * l := ⟨_, rfl⟩
  have hc120 : c < 120 := by omega
  have c1 : c % 4 = x := by omega
  have c2 : c / 4 % 6 = a := by omega
  have c3 : c / 24 = l := by omega
  have hcls : ∀ d, d < 120 → ClsOk (fOf c a0 b0 b1 c0) d := cls_ok h0 h1 h2 h3 (by rw [c1]; exact ex) (by rw [c2]; exact ea) (by rw [c3]; exact el)
  have q : ∀ i, i < 5 → (5 * c + i) / 5 = c ∧ (5 * c + i) % 5 = i := fun i hi => by omega
  have f0 : fOf c a0 b0 b1 c0 (5 * c) = a0 := by
    have q0 := q 0 (by omega)
    rw [Nat.add_zero] at q0
    simp only [fOf, q0.1, q0.2, if_true]
  have f1 : fOf c a0 b0 b1 c0 (5 * c + 1) = b0 := by simp [fOf, (q 1 (by omega)).1, (q 1 (by omega)).2]
  have f3 : fOf c a0 b0 b1 c0 (5 * c + 3) = c0 := by simp [fOf, (q 3 (by omega)).1, (q 3 (by omega)).2]
  obtain ⟨G, g1, g2, g3, g4, _⟩ := nu_of hF [] (fun b o h => by cases h)
  have V : Nat → Value := fun _ => .nilFunc
  have k3 := g3 (fOf c a0 b0 b1 c0) V
  have tF := tabF_ok (g2 (fOf c a0 b0 b1 c0) V) k3 g4 R.toStages
  have at_ : ∀ i, i < kns.length → (∀ j ∈ kns.getD i [], ∀ n, j.2.1 ≤ n → n < j.2.1 + j.2.2 → Gives W (fOf c a0 b0 b1 c0 (5 * j.1)) (fOf c a0 b0 b1 c0 (5 * j.1 + 1)) n (fOf c a0 b0 b1 c0 (5 * j.1 + 3))) ∧
      ∀ j ∈ kys.getD i [], Gives W (fOf c a0 b0 b1 c0 (5 * j.1)) (fOf c a0 b0 b1 c0 (5 * j.1 + 1)) (fOf c a0 b0 b1 c0 (5 * j.1 + 2)) (fOf c a0 b0 b1 c0 (5 * j.1 + 3)) := by
    intro i hi
    obtain ⟨t1, ht1, h⟩ := mkTblZ_true noNG sym_nil (splitOk k3) fnsC_ok tF (R.cases i hi)
    have hi2 : i < kys.length := by have := same; omega
    obtain ⟨m1, m2⟩ := allN_said k3 ht1 g4 g1 hcls (fun j hj => lowN _ (by rw [List.getD_eq_getElem?_getD, List.getElem?_eq_getElem hi] at *; exact List.getElem_mem hi) j hj) h
    obtain ⟨m3, _⟩ := allY_said k3 ht1 g4 g1 hcls (fun j hj => lowY _ (by rw [List.getD_eq_getElem?_getD, List.getElem?_eq_getElem hi2] at *; exact List.getElem_mem hi2) j hj) m2
    exact ⟨m1, m3⟩
  by_cases hn : n < Sf c
  · obtain ⟨L, hL, j, hj, j0, j1, j2⟩ := covN c hc120 n hn
    obtain ⟨i, hi, e⟩ := List.getElem_of_mem hL
    have h := (at_ i hi).1 j (by rw [List.getD_eq_getElem?_getD, List.getElem?_eq_getElem hi]; simpa [e] using hj) n j1 j2
    rw [j0, f0, f1, f3, ← en] at h
    exact h
  · obtain ⟨⟨M, hM, hj⟩, s5⟩ := covY c hc120
    obtain ⟨i, hi, e⟩ := List.getElem_of_mem hM
    have h := (at_ i (by have := same; omega)).2 _ (by rw [List.getD_eq_getElem?_getD, List.getElem?_eq_getElem hi]; simpa [e] using hj)
    have f2 : fOf c a0 b0 b1 c0 (5 * c + 2) = b1 := by
      simp only [fOf, (q 2 (by omega)).1, (q 2 (by omega)).2, if_true]
      have : (Sf c : Int) ≤ b1 := by omega
      simp [this]
    dsimp only at h
    rw [f0, f1, f2, f3] at h
    exact h
end Go.Proofs.YtekonojimffbhaaGreatDoor
