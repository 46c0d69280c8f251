/-
  What the function gives in a world that holds the listed tables: true; the closed runs are hypotheses here.
-/
import Derived.Test.YtkdlhhnkeocfcaaGreatDoorTabsOk
import Derived.Clock
import Derived.Stop.LaidErr
import Derived.Test.YtkdlhhnkeocfcaaGreatDoorArg
set_option linter.unusedVariables false
set_option linter.unusedSimpArgs false
namespace Go.Proofs.YtkdlhhnkeocfcaaGreatDoor
open Go Go.Abs
set_option maxRecDepth 100000
set_option maxHeartbeats 0
open Go.RowKit (Below)
theorem rem_ok (t : TypeId) (w : World) (x c : Int) (hx : 0 ≤ x) (hx2 : x ≤ 255) (hc : 0 < c) (hc2 : c ≤ 255) : (binOp .rem t (.int .u8 x) (.int .u8 c)).run Tryz.prog w = .ok (.int .u8 (x % c)) w := by
  have h1 : ¬ (c = 0) := by omega
  simp [binOp, Op.intDiv, h1, Int.tmod_eq_emod_of_nonneg hx]
theorem quo_ok (t : TypeId) (w : World) (x c : Int) (hx : 0 ≤ x) (hx2 : x ≤ 255) (hc : 0 < c) (hc2 : c ≤ 255) : (binOp .quo t (.int .u8 x) (.int .u8 c)).run Tryz.prog w = .ok (.int .u8 (x / c)) w := by
  have h1 : ¬ (c = 0) := by omega
  have h2 : 0 ≤ x / c := Int.ediv_nonneg hx (by omega)
  have h3 : x / c ≤ x := Int.ediv_le_self c hx
  have h4 : IntKind.u8.wrap (x / c) = x / c := Go.Abs.wrap_small IntKind.u8 _ (by simp [loK]; omega) (by simp [hiK]; omega)
  simp [binOp, Op.intDiv, h1, Int.tdiv_eq_ediv_of_nonneg hx, h4]
theorem sym_nil {ν : Nu} : SymOk Tryz.prog ν [] := fun q hq => by cases hq

/-! ### what the world holds -/
theorem shaped_at {W : World} (h : W.ShapedOpen Tryz.prog) (g : Nat) (t : TypeId) (hg : g < Tryz.prog.globals.size) (h0 : (((begin Tryz.prog (fun _ _ => 0) default).world.heap[g]?).bind Obj.row?).map (·.2) = some t) :
    ∃ cs, W.heap[g]? = some (.cells cs t) := by
  obtain ⟨⟨zero, t'⟩, hz, rfl⟩ := Option.map_eq_some_iff.1 h0
  obtain ⟨cs, hc, _⟩ := h.1 g zero t' hg hz
  exact ⟨cs, hc⟩
theorem obj_of {W : World} {name : String} {g : Nat} {k : IntKind} {zs : List Int} {cs : Array Value} {t : TypeId} {fr : Nat × Nat} (hn : Tryz.prog.globalNamed name = some g) (hh : W.heap[g]? = some (.cells cs t fr)) (hT : Lib.TabIs Tryz.prog W name k zs) :
    cs = (zs.map fun z => Value.int k z).toArray := by
  unfold Lib.TabIs World.var? at hT
  rw [hn] at hT
  simpa [hh] using hT
/-- the blocks that the run reads -/
structure Facts (W : World) : Prop where
  gA : ∃ fr, W.heap[0]? = some (.cells (Lib.asciiSpaceTab.map fun z => Value.int .u8 z).toArray 109 fr)
  gM : ∃ m fr, W.heap[2]? = some (.cells #[.int .i64 m] 3 fr)
  t0 : ∃ fr, W.heap[5]? = some ((⟨5, [36, 43, 45], 23⟩ : Gl).obj fr)
  t1 : ∃ fr, W.heap[7]? = some ((⟨7, [63, 15, 63, 15, 61, 61], 476⟩ : Gl).obj fr)
theorem named0 : Tryz.prog.globalNamed "strings.asciiSpace" = some 0 := by kernel_rfl
theorem globsW : Tryz.prog.globals.size = 15 := by kernel_rfl
theorem nu_of {W : World} (hF : Facts W) (X : List (Nat × Obj)) (hX : ∀ b o, (b, o) ∈ X → W.heap[b]? = some o) : ∃ G : List (Nat × Obj), (∀ b o, (b, o) ∈ G → W.heap[b]? = some o) ∧ (∀ f V, TabCell Tryz.prog ⟨f, G, V⟩ "strings.asciiSpace" .u8 Lib.asciiSpaceTab) ∧ (∀ f V, IntCell ⟨f, G, V⟩ 2) ∧
    (∀ q ∈ gls, ∃ fr, (q.g, q.obj fr) ∈ G) ∧ ∀ q ∈ X, q ∈ G := by
  obtain ⟨⟨f0, h0⟩, ⟨m, f3, h3⟩, ⟨e0, k0⟩, ⟨e1, k1⟩⟩ := hF
  refine ⟨(0, Obj.cells (Lib.asciiSpaceTab.map fun z => Value.int .u8 z).toArray 109 f0) :: (2, Obj.cells #[.int .i64 m] 3 f3) :: (5, (⟨5, [36, 43, 45], 23⟩ : Gl).obj e0) :: (7, (⟨7, [63, 15, 63, 15, 61, 61], 476⟩ : Gl).obj e1) :: X, fun b o hb => ?_, fun f _ => ⟨0, 109, f0, named0, ?_⟩, fun f _ => ⟨m, 3, f3, ?_⟩, fun q hq => ?_, fun q hq => List.mem_cons_of_mem _ (List.mem_cons_of_mem _ (List.mem_cons_of_mem _ (List.mem_cons_of_mem _ hq)))⟩
  rotate_left
  · exact List.mem_cons_self
  · exact List.mem_cons_of_mem _ List.mem_cons_self
  · simp only [gls, List.mem_cons, List.mem_nil_iff, or_false] at hq
    rcases hq with rfl | rfl
    · exact ⟨e0, List.mem_cons_of_mem _ (List.mem_cons_of_mem _ (List.mem_cons_self))⟩
    · exact ⟨e1, List.mem_cons_of_mem _ (List.mem_cons_of_mem _ (List.mem_cons_of_mem _ (List.mem_cons_self)))⟩
  · simp only [List.mem_cons, Prod.mk.injEq] at hb
    rcases hb with ⟨rfl, rfl⟩ | ⟨rfl, rfl⟩ | ⟨rfl, rfl⟩ | ⟨rfl, rfl⟩ | hb
    · exact h0
    · exact h3
    · exact k0
    · exact k1
    · exact hX b o hb
theorem hs_HR {ν : Nu} (hG : ∀ q ∈ gls, ∃ fr, (q.g, q.obj fr) ∈ ν.G) {w : World} (hw : ∀ b o, (b, o) ∈ ν.G → w.heap[b]? = some o) : HR (phiOf gls) ν hs w := by
  refine h0_HR (by decide) ?_ ?_ ?_ ?_ hG hw
  · intro q hq; simp only [gls, List.mem_cons, List.mem_nil_iff, or_false] at hq; rcases hq with rfl | rfl <;> decide
  · intro q hq; simp only [gls, List.mem_cons, List.mem_nil_iff, or_false] at hq; rcases hq with rfl | rfl <;> decide
  · decide +kernel
  · intro g hg
    unfold gver at hg
    cases hb0 : Nat.beq g 5 with
    | true =>
      have e := Nat.eq_of_beq_eq_true hb0
      subst e
      exact ⟨⟨5, [36, 43, 45], 23⟩, by simp [gls], rfl, rfl⟩
    | false =>
      first | rw [hb0, cond_false] at hg | rw [cond_false] at hg
      cases hb1 : Nat.beq g 7 with
      | true =>
        have e := Nat.eq_of_beq_eq_true hb1
        subst e
        exact ⟨⟨7, [63, 15, 63, 15, 61, 61], 476⟩, by simp [gls], rfl, rfl⟩
      | false =>
        first | rw [hb1, cond_false] at hg | rw [cond_false] at hg
        exact absurd hg (Nat.lt_irrefl 0)
theorem phi_lim : ∀ id ver p, phiOf gls id ver = some p → id < hs.ro.lim := by
  intro id ver p h
  obtain ⟨q, hq, h1, _, _⟩ := phiOf_some h
  simp only [gls, List.mem_cons, List.mem_nil_iff, or_false] at hq
  show id < 16
  rw [← h1]
  rcases hq with rfl | rfl <;> decide
theorem phi_in {ν : Nu} (hG : ∀ q ∈ gls, ∃ fr, (q.g, q.obj fr) ∈ ν.G) : ∀ id ver p, phiOf gls id ver = some p → ∃ o, (p.blk, o) ∈ ν.G := by
  intro id ver p h
  obtain ⟨q, hq, h1, h2, rfl⟩ := phiOf_some h
  obtain ⟨fr, hm⟩ := hG q hq
  exact ⟨_, hm⟩

/-! ### the runs, put to use -/
/-- what the kernel ran, but for the cases -/
structure Stages : Prop where
  words : runW = true
  s2_true : run2_true = true
  s3_ps00 : run3_ps00 = true
  s3_ps01 : run3_ps01 = true
  s3_ps02 : run3_ps02 = true
  s3_ps03 : run3_ps03 = true
  s3_ps10 : run3_ps10 = true
  s3_ps11 : run3_ps11 = true
  s3_ps12 : run3_ps12 = true
  s3_ps13 : run3_ps13 = true
  s3_ps20 : run3_ps20 = true
  s3_ps21 : run3_ps21 = true
  s3_ps22 : run3_ps22 = true
  s3_ps23 : run3_ps23 = true
  s3_ps30 : run3_ps30 = true
  s3_ps31 : run3_ps31 = true
  s3_ps32 : run3_ps32 = true
  s3_ps33 : run3_ps33 = true
theorem tab1_ok {ν : Nu} (ht : TblOk Tryz.prog ν tab0) (h3 : IntCell ν 2) (hG : ∀ q ∈ gls, ∃ fr, (q.g, q.obj fr) ∈ ν.G) (R : Stages) : TblOk Tryz.prog ν tab1 := by
  obtain ⟨t', ht', h⟩ := mkTblZ_true noNG sym_nil (splitOk h3) fnsW_ok ht R.words
  unfold tab1
  exact ht.set (f := 198) (by omega) (FnGood.closed_map ht' h (fun w hw => hs_HR hG hw) phi_lim)
theorem tab2_ok {ν : Nu} (ht : TblOk Tryz.prog ν tab1) (h3 : IntCell ν 2) (hG : ∀ q ∈ gls, ∃ fr, (q.g, q.obj fr) ∈ ν.G) (R : Stages) : TblOk Tryz.prog ν tab2 := by
  obtain ⟨t', ht', h⟩ := mkTblZ_true noNG sym_nil (splitOk h3) fnsL_ok ht R.s2_true
  unfold tab2
  exact ht.set (f := 4) (by omega) (FnGood.closed_true ht' h (fun w hw => hs_HR hG hw) phi_lim)
theorem tab3_ok {ν : Nu} (ht : TblOk Tryz.prog ν tab2) (h3 : IntCell ν 2) (hG : ∀ q ∈ gls, ∃ fr, (q.g, q.obj fr) ∈ ν.G) (R : Stages) : TblOk Tryz.prog ν tab3 := by
  obtain ⟨u0, hu0, e0⟩ := mkTblZ_true noNG sym_nil (splitOk h3) fnsS_ok ht R.s3_ps00
  obtain ⟨u1, hu1, e1⟩ := mkTblZ_true noNG sym_nil (splitOk h3) fnsS_ok ht R.s3_ps01
  obtain ⟨u2, hu2, e2⟩ := mkTblZ_true noNG sym_nil (splitOk h3) fnsS_ok ht R.s3_ps02
  obtain ⟨u3, hu3, e3⟩ := mkTblZ_true noNG sym_nil (splitOk h3) fnsS_ok ht R.s3_ps03
  obtain ⟨u4, hu4, e4⟩ := mkTblZ_true noNG sym_nil (splitOk h3) fnsS_ok ht R.s3_ps10
  obtain ⟨u5, hu5, e5⟩ := mkTblZ_true noNG sym_nil (splitOk h3) fnsS_ok ht R.s3_ps11
  obtain ⟨u6, hu6, e6⟩ := mkTblZ_true noNG sym_nil (splitOk h3) fnsS_ok ht R.s3_ps12
  obtain ⟨u7, hu7, e7⟩ := mkTblZ_true noNG sym_nil (splitOk h3) fnsS_ok ht R.s3_ps13
  obtain ⟨u8, hu8, e8⟩ := mkTblZ_true noNG sym_nil (splitOk h3) fnsS_ok ht R.s3_ps20
  obtain ⟨u9, hu9, e9⟩ := mkTblZ_true noNG sym_nil (splitOk h3) fnsS_ok ht R.s3_ps21
  obtain ⟨u10, hu10, e10⟩ := mkTblZ_true noNG sym_nil (splitOk h3) fnsS_ok ht R.s3_ps22
  obtain ⟨u11, hu11, e11⟩ := mkTblZ_true noNG sym_nil (splitOk h3) fnsS_ok ht R.s3_ps23
  obtain ⟨u12, hu12, e12⟩ := mkTblZ_true noNG sym_nil (splitOk h3) fnsS_ok ht R.s3_ps30
  obtain ⟨u13, hu13, e13⟩ := mkTblZ_true noNG sym_nil (splitOk h3) fnsS_ok ht R.s3_ps31
  obtain ⟨u14, hu14, e14⟩ := mkTblZ_true noNG sym_nil (splitOk h3) fnsS_ok ht R.s3_ps32
  obtain ⟨u15, hu15, e15⟩ := mkTblZ_true noNG sym_nil (splitOk h3) fnsS_ok ht R.s3_ps33
  unfold tab3
  exact ht.set (f := 10) (by omega) (FnGood.memo2 hu0 ps00 e0 (fun w hw => hs_HR hG hw) (phi_in hG) (by decide +kernel) (by decide +kernel) (by decide +kernel) (FnGood.memo2 hu1 ps01 e1 (fun w hw => hs_HR hG hw) (phi_in hG) (by decide +kernel) (by decide +kernel) (by decide +kernel) (FnGood.memo2 hu2 ps02 e2 (fun w hw => hs_HR hG hw) (phi_in hG) (by decide +kernel) (by decide +kernel) (by decide +kernel) (FnGood.memo2 hu3 ps03 e3 (fun w hw => hs_HR hG hw) (phi_in hG) (by decide +kernel) (by decide +kernel) (by decide +kernel) (FnGood.memo2 hu4 ps10 e4 (fun w hw => hs_HR hG hw) (phi_in hG) (by decide +kernel) (by decide +kernel) (by decide +kernel) (FnGood.memo2 hu5 ps11 e5 (fun w hw => hs_HR hG hw) (phi_in hG) (by decide +kernel) (by decide +kernel) (by decide +kernel) (FnGood.memo2 hu6 ps12 e6 (fun w hw => hs_HR hG hw) (phi_in hG) (by decide +kernel) (by decide +kernel) (by decide +kernel) (FnGood.memo2 hu7 ps13 e7 (fun w hw => hs_HR hG hw) (phi_in hG) (by decide +kernel) (by decide +kernel) (by decide +kernel) (FnGood.memo2 hu8 ps20 e8 (fun w hw => hs_HR hG hw) (phi_in hG) (by decide +kernel) (by decide +kernel) (by decide +kernel) (FnGood.memo2 hu9 ps21 e9 (fun w hw => hs_HR hG hw) (phi_in hG) (by decide +kernel) (by decide +kernel) (by decide +kernel) (FnGood.memo2 hu10 ps22 e10 (fun w hw => hs_HR hG hw) (phi_in hG) (by decide +kernel) (by decide +kernel) (by decide +kernel) (FnGood.memo2 hu11 ps23 e11 (fun w hw => hs_HR hG hw) (phi_in hG) (by decide +kernel) (by decide +kernel) (by decide +kernel) (FnGood.memo2 hu12 ps30 e12 (fun w hw => hs_HR hG hw) (phi_in hG) (by decide +kernel) (by decide +kernel) (by decide +kernel) (FnGood.memo2 hu13 ps31 e13 (fun w hw => hs_HR hG hw) (phi_in hG) (by decide +kernel) (by decide +kernel) (by decide +kernel) (FnGood.memo2 hu14 ps32 e14 (fun w hw => hs_HR hG hw) (phi_in hG) (by decide +kernel) (by decide +kernel) (by decide +kernel) (FnGood.memo2 hu15 ps33 e15 (fun w hw => hs_HR hG hw) (phi_in hG) (by decide +kernel) (by decide +kernel) (by decide +kernel) failD_good))))))))))))))))
theorem tabF_ok {ν : Nu} (h0 : TabCell Tryz.prog ν "strings.asciiSpace" .u8 Lib.asciiSpaceTab) (h3 : IntCell ν 2) (hG : ∀ q ∈ gls, ∃ fr, (q.g, q.obj fr) ∈ ν.G) (R : Stages) : TblOk Tryz.prog ν tab3 :=
  (tab3_ok (tab2_ok (tab1_ok (tab0_ok h0 h3) h3 hG R) h3 hG R) h3 hG R)
/-- a run by a table that is good, put to use -/
theorem run_said {f : Nat → Int} {G : List (Nat × Obj)} {V : Nat → Value} {t : T4 FnD TD} (ht : TblOk Tryz.prog ⟨f, G, V⟩ t) (g4 : ∀ q ∈ gls, ∃ fr, (q.g, q.obj fr) ∈ G) {W : World} (g1 : ∀ b o, (b, o) ∈ G → W.heap[b]? = some o) {avs : List AV} {vs : List Value} (hv : VRs (phiOf gls) ⟨f, G, V⟩ avs vs)
    (h : runF t 60 3 avs hs isTrueK (fun _ _ => false) = true) : Calls Tryz.prog 3 vs.toArray W fun e w' => e = .returned (.bool true) ∧ Below W.heap.size W w' := by
  have hr := hs_HR (ν := ⟨f, G, V⟩) g4 (w := W) g1
  have hco := runF_ok ht 60 3 _ hs isTrueK (fun _ _ => false) h (phiOf gls) W vs hr hv
  have key : ∀ e w', FPost (phiOf gls) ⟨f, G, V⟩ hs.ro W hs.ds isTrueK (fun _ _ => false) e w' → e = .returned (.bool true) ∧ Below W.heap.size W w' := by
    intro e w' hp
    cases e with
    | returned x =>
      obtain ⟨φ', av, h', hvr, hr', hx, _, _, hav⟩ := hp
      obtain ⟨b, e2, hb2⟩ := vBool_true (show vBool av (fun b => b) = true from hav)
      subst e2 hb2
      cases hvr
      exact ⟨rfl, below_of_ext hx phi_lim⟩
    | panicked chain =>
      obtain ⟨φ', av, h', v, _, _, _, _, _, _, hav⟩ := hp
      cases hav
    | outgrown => exact hp.elim
  rcases hco with ⟨_, h2⟩ | ⟨x, w', h2, _⟩
  · exact h2.mono key
  · exfalso
    have hb : hasBody Tryz.prog 3 = true := by kernel_rfl
    rw [hasBody_true hb] at h2
    cases h2
theorem inf_of {t n : Nat} (h : (Tryz.prog.info? t).map (·.size) = some n) : ∃ i, Tryz.prog.info? t = some i ∧ i.size = n := Option.map_eq_some_iff.1 h
/-- the values of the symbols -/
def vT (n : Nat) (xs : Nat → Int) (V0 : Nat → Value) : Nat → Value := fun s => if s < 2000 then V0 s else if s < 2000 + 2 * n then .string (if s % 2 = 0 then nmB (xs (s - 2000)) else scB (xs (s - 2000))) else .nilFunc
def fT (n : Nat) (xs : Nat → Int) (V : Nat → Value) (z0 z1 z2 : Int) (c0 c1 c2 : Nat) : Nat → Int := fun s =>
  if s < 16 then xs s else if s = 16 then z0 else if s = 17 then z1 else if s = 18 then z2
  else if s = 100 then ((spS V n (tx 2 (nmC c0))).1 : Nat) else if s = 101 then ((spS V n (tx 2 (nmC c0))).2.1 : Nat) else if s = 102 then ((spS V n (tx 2 (nmC c0))).2.2 : Nat)
  else if s = 103 then ((spO V n (tx 2 (nmC c0)) (tx 2 (nmC c1))).1 : Nat) else if s = 104 then ((spO V n (tx 2 (nmC c0)) (tx 2 (nmC c1))).2.1 : Nat) else if s = 105 then ((spO V n (tx 2 (nmC c0)) (tx 2 (nmC c1))).2.2 : Nat)
  else if s = 106 then ((spS V n (tx 2 (nmC c2))).1 : Nat) else if s = 107 then ((spS V n (tx 2 (nmC c2))).2.1 : Nat) else if s = 108 then ((spS V n (tx 2 (nmC c2))).2.2 : Nat)
  else 0
theorem vT_nil {n : Nat} {xs : Nat → Int} {V0 : Nat → Value} : ∀ s, 2000 + 2 * n ≤ s → s < 2032 → vT n xs V0 s = .nilFunc := fun s h1 h2 => by
  unfold vT
  rw [if_neg (by omega), if_neg (by omega)]
theorem vT_str {n : Nat} {xs : Nat → Int} {V0 : Nat → Value} {f : Nat → Int} {G : List (Nat × Obj)} {s : Nat} (h : s < 2 * n) (hn : n < 9) : (⟨f, G, vT n xs V0⟩ : Nu).str (2000 + s) = if s % 2 = 0 then nmB (xs s) else scB (xs s) := by
  have e : (⟨f, G, vT n xs V0⟩ : Nu).v (2000 + s) = .string (if s % 2 = 0 then nmB (xs s) else scB (xs s)) := by
    show vT n xs V0 (2000 + s) = _
    unfold vT
    rw [if_neg (by omega), if_pos (by omega), show 2000 + s - 2000 = s by omega, show (2000 + s) % 2 = s % 2 by omega]
  unfold Nu.str
  rw [e]
  show (if 9000 ≤ 2000 + s ∧ _ then (⟨#[65]⟩ : ByteArray) else _) = _
  rw [if_neg fun q => absurd q.1 (by omega)]
theorem covS : ∀ n < 9, ∀ A < 2 ^ n, ∃ q ∈ segsS, q.1 = n ∧ q.2.1 ≤ A ∧ A < q.2.1 + q.2.2 := by decide +kernel
theorem covO : ∀ n < 9, ∀ A < 2 ^ n, ∃ q ∈ segsO, q.1 = n ∧ q.2.1 ≤ A ∧ A < q.2.1 + q.2.2 := by decide +kernel
/-- what the kernel ran -/
structure Runs : Prop extends Stages where
  cT : ∀ q ∈ segsS, cubeS 8 (patT q.1) q.1 q.2.1 q.2.2 = true
  cH : ∀ q ∈ segsS, cubeS 8 (patH q.1) q.1 q.2.1 q.2.2 = true
  cO : ∀ q ∈ segsS, cubeS 8 (patO q.1) q.1 q.2.1 q.2.2 = true
  cF : ∀ q ∈ segsS, cubeS 9 (patF q.1) q.1 q.2.1 q.2.2 = true
  cQ : ∀ q ∈ segsO, cubeO 8 (patQ q.1) q.1 q.2.1 q.2.2 = true
  cG : ∀ q ∈ segsO, cubeO 9 (patG q.1) q.1 q.2.1 q.2.2 = true
  nm : ∀ c < 4, runN c = true
  sc : ∀ d < 4, runD d = true
  big : runBig = true
  root : ∀ n < 9, ∀ o0 o2, ∀ c < 64, ∃ lo k, lo ≤ c ∧ c < lo + k ∧ rootAll (patT n) (patH n) (patO n) (patQ n) (patF n) (patG n) n o0 o2 lo k = true
section
variable {W : World} {G : List (Nat × Obj)}
theorem name_said (R : Runs) (g3 : ∀ f V, IntCell ⟨f, G, V⟩ 2) (g4 : ∀ q ∈ gls, ∃ fr, (q.g, q.obj fr) ∈ G) (x : Int) (w : World) (h0 : 0 ≤ x) (h1 : x ≤ 255) (hw : ∀ b o, (b, o) ∈ G → w.heap[b]? = some o) :
    Calls Tryz.prog 5 #[.int .u8 x] w fun e w' => e = .returned (.string (nmB x)) ∧ Below w.heap.size w w' := by
  obtain ⟨c, hc⟩ : ∃ c : Nat, x % 4 = (c : Int) := ⟨(x % 4).toNat, by omega⟩
  have hc4 : c < 4 := by omega
  have hS : SymOk Tryz.prog ⟨fun _ => x, G, fun _ => .nilFunc⟩ [.mk .rem .u8 0 .u8 4 (.int .u8 (.ofNat c))] := fun q hq => by
    simp only [List.mem_cons, List.mem_nil_iff, or_false] at hq
    subst hq
    exact Rule.rem_ok (by decide) h0 h1 (by decide) (by decide) hc
  obtain ⟨t, ht, h⟩ := mkTblZ_true noNG hS (splitOk (g3 _ _)) fnsN_ok TblOk.empty (R.nm c hc4)
  have := byte_said ht (by kernel_rfl) h (hs_HR (ν := ⟨fun _ => x, G, fun _ => .nilFunc⟩) g4 (w := w) hw) phi_lim
  unfold nmB
  rw [hc]
  exact this
theorem sect_said (R : Runs) (g3 : ∀ f V, IntCell ⟨f, G, V⟩ 2) (g4 : ∀ q ∈ gls, ∃ fr, (q.g, q.obj fr) ∈ G) (x : Int) (w : World) (h0 : 0 ≤ x) (h1 : x ≤ 255) (hw : ∀ b o, (b, o) ∈ G → w.heap[b]? = some o) :
    Calls Tryz.prog 6 #[.int .u8 x] w fun e w' => e = .returned (.string (scB x)) ∧ Below w.heap.size w w' := by
  obtain ⟨c, hc⟩ : ∃ c : Nat, x / 64 = (c : Int) := ⟨(x / 64).toNat, by omega⟩
  have hc4 : c < 4 := by omega
  have hS : SymOk Tryz.prog ⟨fun _ => x, G, fun _ => .nilFunc⟩ [.mk .quo .u8 0 .u8 64 (.int .u8 (.ofNat c))] := fun q hq => by
    simp only [List.mem_cons, List.mem_nil_iff, or_false] at hq
    subst hq
    exact Rule.quo_ok (by decide) h0 h1 (by decide) (by decide) hc
  obtain ⟨t, ht, h⟩ := mkTblZ_true noNG hS (splitOk (g3 _ _)) fnsN_ok TblOk.empty (R.sc c hc4)
  have := byte_said ht (by kernel_rfl) h (hs_HR (ν := ⟨fun _ => x, G, fun _ => .nilFunc⟩) g4 (w := w) hw) phi_lim
  unfold scB
  rw [hc]
  exact this
theorem cube_s {f : Nat} {p : Nat → P3} (h : ∀ q ∈ segsS, cubeS f (p q.1) q.1 q.2.1 q.2.2 = true) (g3 : ∀ f V, IntCell ⟨f, G, V⟩ 2) (fv : Nat → Int) (V : Nat → Value) {n A : Nat} (hn : n < 9) (hA : A < 2 ^ n) :
    ∃ t, TblOk Tryz.prog ⟨fv, G, V⟩ t ∧ okA t f (mkPat (p n) .unk) gls 16 n A (cubes n) = true := by
  obtain ⟨q, hq, rfl, h1, h2⟩ := covS n hn A hA
  obtain ⟨t, ht, hr⟩ := mkTblZ_true noNG sym_nil (splitOk (g3 fv V)) fnsX_ok TblOk.empty (h q hq)
  exact ⟨t, ht, allS_true hr A h1 h2⟩
theorem cube_o {f : Nat} {p : Nat → P3} (h : ∀ q ∈ segsO, cubeO f (p q.1) q.1 q.2.1 q.2.2 = true) (g3 : ∀ f V, IntCell ⟨f, G, V⟩ 2) (fv : Nat → Int) (V : Nat → Value) {n A : Nat} (hn : n < 9) (hA : A < 2 ^ n) :
    ∃ t, TblOk Tryz.prog ⟨fv, G, V⟩ t ∧ okO1 t f (mkPat (p n) .unk) gls 16 A n = true ∧ okO2 t f (mkPat (p n) .unk) gls 16 A (pairs n) = true := by
  obtain ⟨q, hq, rfl, h1, h2⟩ := covO n hn A hA
  obtain ⟨t, ht, hr⟩ := mkTblZ_true noNG sym_nil (splitOk (g3 fv V)) fnsX_ok TblOk.empty (h q hq)
  exact ⟨t, ht, allO_true hr A h1 h2⟩
theorem clsAll_true {pT pH pO pQ pF pG : P3} {n : Nat} {t : T4 FnD TD} {lo : Nat} : ∀ {k : Nat}, clsAll pT pH pO pQ pF pG n t lo k = true → ∀ c, lo ≤ c → c < lo + k → rootT pT pH pO pQ pF pG n (c % 4) (c / 4 % 4) (c / 16) (if c % 4 = c / 16 then 100 else 106) t = true
  | 0, _, c, h1, h2 => by omega
  | k + 1, h, c, h1, h2 => by
    have h : andB (forceN (lo + k) fun c => forceN (c % 4) fun c0 => forceN (c / 4 % 4) fun c1 => forceN (c / 16) fun c2 => forceN (bif Nat.beq c0 c2 then 100 else 106) fun s2 => rootT pT pH pO pQ pF pG n c0 c1 c2 s2 t) (clsAll pT pH pO pQ pF pG n t lo k) = true := h
    obtain ⟨g1, g2⟩ := andB_true h
    rcases Nat.lt_or_ge c (lo + k) with q | q
    · exact clsAll_true g2 c h1 q
    · have : c = lo + k := by omega
      rw [this]
      simp only [forceN_eq] at g1
      have e : (bif Nat.beq ((lo + k) % 4) ((lo + k) / 16) then 100 else 106) = (if (lo + k) % 4 = (lo + k) / 16 then 100 else 106 : Nat) := by
        by_cases q : (lo + k) % 4 = (lo + k) / 16
        · rw [if_pos q, q, Nat.beq_refl]; rfl
        · have e0 : Nat.beq ((lo + k) % 4) ((lo + k) / 16) = false := Bool.eq_false_iff.2 fun h => q (Nat.eq_of_beq_eq_true h)
          rw [if_neg q, e0]; rfl
      rw [e] at g1
      exact g1
theorem rulesF_ok {ν : Nu} {s : Nat} (hs : s < 1000) : SymOk Tryz.prog ν (rulesF s (decide (ν.f s = 0))) := by
  intro q hq
  simp only [rulesF, List.mem_cons, List.mem_nil_iff, or_false] at hq
  rcases hq with rfl | rfl
  · exact Rule.ne0_ok hs rfl
  · exact Rule.eq0_ok hs rfl
theorem pat_ins {k : Nat → P3} (h : ∀ n < 9, (k n).ins.length ≤ 2) {n : Nat} (hn : n < 9) : 16 + (k n).ins.length ≤ 1024 := by have := h n hn; omega
theorem insT : ∀ n < 9, (patT n).ins.length ≤ 2 := by decide +kernel
theorem insH : ∀ n < 9, (patH n).ins.length ≤ 2 := by decide +kernel
theorem insO : ∀ n < 9, (patO n).ins.length ≤ 2 := by decide +kernel
theorem insQ : ∀ n < 9, (patQ n).ins.length ≤ 2 := by decide +kernel
theorem insF : ∀ n < 9, (patF n).ins.length ≤ 2 := by decide +kernel
theorem insG : ∀ n < 9, (patG n).ins.length ≤ 2 := by decide +kernel
theorem root_said (R : Runs) (hF : Facts W) {n : Nat} (hn : n < 9) {xs : Nat → Int} (hx : ∀ s, 0 ≤ xs s ∧ xs s ≤ 255) {V0 : Nat → Value} {z0 z1 z2 : Int} (h0 : 0 ≤ z0 ∧ z0 ≤ 255) (h1 : 0 ≤ z1 ∧ z1 ≤ 255) (h2 : 0 ≤ z2 ∧ z2 ≤ 255)
    (X : List (Nat × Obj)) (hX : ∀ b o, (b, o) ∈ X → W.heap[b]? = some o) {a : Option Addr} {len cap : Nat} (hv : V0 1000 = .slice a len cap)
    (hS : ∀ f G, (∀ q ∈ X, q ∈ G) → (∀ s, s < 16 → f s = xs s) → SymOk Tryz.prog ⟨f, G, vT n xs V0⟩ (rulesL n)) :
    Calls Tryz.prog 3 #[.slice a len cap, .agg #[.int .u8 z0, .int .u8 z1, .int .u8 z2]] W fun e w' => e = .returned (.bool true) ∧ Below W.heap.size W w' := by
  obtain ⟨c0, e0⟩ : ∃ c : Nat, z0 % 4 = (c : Int) := ⟨(z0 % 4).toNat, by omega⟩
  obtain ⟨c1, e1⟩ : ∃ c : Nat, z1 % 4 = (c : Int) := ⟨(z1 % 4).toNat, by omega⟩
  obtain ⟨c2, e2⟩ : ∃ c : Nat, z2 % 4 = (c : Int) := ⟨(z2 % 4).toNat, by omega⟩
  have k0 : c0 < 4 := by omega
  have k1 : c1 < 4 := by omega
  have k2 : c2 < 4 := by omega
  obtain ⟨V, hVe⟩ : ∃ V, V = vT n xs V0 := ⟨_, rfl⟩
  obtain ⟨f, hfe⟩ : ∃ f, f = fT n xs V z0 z1 z2 c0 c1 c2 := ⟨_, rfl⟩
  obtain ⟨G, g1, g2, g3, g4, g5⟩ := nu_of hF X hX
  have hV : ∀ s, 2000 + 2 * n ≤ s → s < 2032 → V s = .nilFunc := hVe ▸ vT_nil
  have tF := tabF_ok (g2 f V) (g3 f V) g4 R.toStages
  have hfx : ∀ s, s < 16 → f s = xs s := fun s h => by rw [hfe]; unfold fT; rw [if_pos h]
  have hf16 : f 16 = z0 := by rw [hfe]; rfl
  have hf17 : f 17 = z1 := by rw [hfe]; rfl
  have hf18 : f 18 = z2 := by rw [hfe]; rfl
  have hb : ∀ s, s < 19 → 0 ≤ f s ∧ f s ≤ 255 := fun s h => by
    by_cases q : s < 16
    · rw [hfx s q]; exact hx s
    · rcases (by omega : s = 16 ∨ s = 17 ∨ s = 18) with rfl | rfl | rfl
      · rw [hf16]; exact h0
      · rw [hf17]; exact h1
      · rw [hf18]; exact h2
  obtain ⟨lo, k, l1, l2, hrun⟩ := R.root n hn (decide (f 102 = 0)) (decide (f 108 = 0)) (c0 + 4 * c1 + 16 * c2) (by omega)
  obtain ⟨t', ht', h⟩ := mkTblZ_true noNG sym_nil (splitOk (g3 f V)) fnsC_ok tF hrun
  have hrules : SymOk Tryz.prog ⟨f, G, V⟩ (rulesR n (decide (f 102 = 0)) (decide (f 108 = 0))) := by
    intro q hq
    unfold rulesR at hq
    rcases List.mem_append.1 hq with hq | hq
    · exact rulesF_ok (ν := ⟨f, G, V⟩) (s := 102) (by decide) q hq
    rcases List.mem_append.1 hq with hq | hq
    · exact rulesF_ok (ν := ⟨f, G, V⟩) (s := 108) (by decide) q hq
    · have := hS f G g5 hfx
      rw [← hVe] at this
      exact this q hq
  obtain ⟨t2, ht2, h⟩ := mkTblZ_true noNG hrules (splitOk (g3 f V)) fnsR_ok ht' h
  have h := clsAll_true h _ l1 l2
  rw [show (c0 + 4 * c1 + 16 * c2) % 4 = c0 by omega, show (c0 + 4 * c1 + 16 * c2) / 4 % 4 = c1 by omega, show (c0 + 4 * c1 + 16 * c2) / 16 = c2 by omega] at h
  obtain ⟨s2, hs2⟩ : ∃ s2, s2 = (if c0 = c2 then 100 else 106 : Nat) := ⟨_, rfl⟩
  rw [← hs2] at h
  unfold rootT at h
  obtain ⟨d, hd, h⟩ := T4.getK_true _ _ _ _ h
  simp only [T4.setK_eq] at h
  have hG : ∀ f V (w : World), (∀ b o, (b, o) ∈ G → w.heap[b]? = some o) → HR (phiOf gls) ⟨f, G, V⟩ (h0Of gls 16) w := fun f V w hw => hs_HR (ν := ⟨f, G, V⟩) g4 hw
  have hgG := phi_in (ν := ⟨f, G, V⟩) g4
  have s2lt : s2 + 2 < 1000 := by rw [hs2]; split <;> omega
  have q0 : f 100 = ((spS V n (tx 2 (nmC c0))).1 : Nat) ∧ f 101 = ((spS V n (tx 2 (nmC c0))).2.1 : Nat) ∧ f 102 = ((spS V n (tx 2 (nmC c0))).2.2 : Nat) := by rw [hfe]; exact ⟨rfl, rfl, rfl⟩
  have qo : f 103 = ((spO V n (tx 2 (nmC c0)) (tx 2 (nmC c1))).1 : Nat) ∧ f 104 = ((spO V n (tx 2 (nmC c0)) (tx 2 (nmC c1))).2.1 : Nat) ∧ f 105 = ((spO V n (tx 2 (nmC c0)) (tx 2 (nmC c1))).2.2 : Nat) := by rw [hfe]; exact ⟨rfl, rfl, rfl⟩
  have q6 : f 106 = ((spS V n (tx 2 (nmC c2))).1 : Nat) ∧ f 107 = ((spS V n (tx 2 (nmC c2))).2.1 : Nat) ∧ f 108 = ((spS V n (tx 2 (nmC c2))).2.2 : Nat) := by rw [hfe]; exact ⟨rfl, rfl, rfl⟩
  have q2 : f s2 = ((spS V n (tx 2 (nmC c2))).1 : Nat) ∧ f (s2 + 1) = ((spS V n (tx 2 (nmC c2))).2.1 : Nat) ∧ f (s2 + 2) = ((spS V n (tx 2 (nmC c2))).2.2 : Nat) := by
    by_cases q : c0 = c2
    · rw [hs2, if_pos q, ← q]; exact q0
    · rw [hs2, if_neg q]; exact q6
  have gd := ht2 8 d (show 8 < 4096 by omega) hd
  have gO := goodS (p := patO n) hn hV k2 (fun A hA => cube_s (p := patO) R.cO g3 f _ hn hA) s2lt q2.1 q2.2.1 q2.2.2 (hG _ _) hgG (pat_ins insO hn) gd
  have gH := goodS (p := patH n) (s := 100) hn hV k0 (fun A hA => cube_s (p := patH) R.cH g3 f _ hn hA) (by decide) q0.1 q0.2.1 q0.2.2 (hG _ _) hgG (pat_ins insH hn) gO
  have gQ := goodO (p := patQ n) (s := 103) hn hV k0 k1 (fun A hA => cube_o (p := patQ) R.cQ g3 f _ hn hA) (by decide) qo.1 qo.2.1 qo.2.2 (hG _ _) hgG (pat_ins insQ hn) gH
  have gT := goodS (p := patT n) (s := 100) hn hV k0 (fun A hA => cube_s (p := patT) R.cT g3 f _ hn hA) (by decide) q0.1 q0.2.1 q0.2.2 (hG _ _) hgG (pat_ins insT hn) gQ
  have gF2 := goodS (p := patF n) hn hV k2 (fun A hA => cube_s (p := patF) R.cF g3 f _ hn hA) s2lt q2.1 q2.2.1 q2.2.2 (hG _ _) hgG (pat_ins insF hn) (failD_good (ν := ⟨f, G, V⟩) (f := 9))
  have gG := goodO (p := patG n) (s := 103) hn hV k0 k1 (fun A hA => cube_o (p := patG) R.cG g3 f _ hn hA) (by decide) qo.1 qo.2.1 qo.2.2 (hG _ _) hgG (pat_ins insG hn) gF2
  have gF := goodS (p := patF n) (s := 100) hn hV k0 (fun A hA => cube_s (p := patF) R.cF g3 f _ hn hA) (by decide) q0.1 q0.2.1 q0.2.2 (hG _ _) hgG (pat_ins insF hn) gG
  have gN : FnGood Tryz.prog ⟨f, G, V⟩ 5 (byteT n 0 (nameZ c0 c1 c2)) := FnGood.byteT (by kernel_rfl) hn nmB hb (fun x w h0 h1 hw => name_said R g3 g4 x w h0 h1 hw)
    (fun s q1 q2 => by rw [hVe, vT_str q1 hn, if_pos q2]; show nmB (xs s) = nmB (f s); rw [hfx s (by omega)]) (nameZ_true k0 k1 k2 (show f 16 % 4 = (c0 : Int) by rw [hf16]; exact e0) (show f 17 % 4 = (c1 : Int) by rw [hf17]; exact e1) (show f 18 % 4 = (c2 : Int) by rw [hf18]; exact e2))
  have gS : FnGood Tryz.prog ⟨f, G, V⟩ 6 (byteT n 1 noZ) := FnGood.byteT (by kernel_rfl) hn scB hb (fun x w h0 h1 hw => sect_said R g3 g4 x w h0 h1 hw)
    (fun s q1 q2 => by rw [hVe, vT_str q1 hn, if_neg (by omega)]; show scB (xs s) = scB (f s); rw [hfx s (by omega)]) (fun s k hk => by cases hk)
  have T1 := (((ht2.set (f := 8) (by omega) gT).set (f := 9) (by omega) gF).set (f := 5) (by omega) gN).set (f := 6) (by omega) gS
  refine run_said T1 g4 g1 (vs := [.slice a len cap, .agg #[.int .u8 z0, .int .u8 z1, .int .u8 z2]]) ?_ h
  refine .cons (.sym _ _ (Nu.val_slice (by decide) ?_).symm) (.cons (VR.agg (.cons (.sym _ _ ?_) (.cons (.sym _ _ ?_) (.cons (.sym _ _ ?_) .nil))) ?_) .nil)
  · show V 1000 = _
    rw [hVe]
    unfold vT
    rw [if_pos (by decide)]
    exact hv
  · rw [Nu.val_num _ _ (by decide)]; show Value.int .u8 z0 = .int .u8 (f 16); rw [hf16]
  · rw [Nu.val_num _ _ (by decide)]; show Value.int .u8 z1 = .int .u8 (f 17); rw [hf17]
  · rw [Nu.val_num _ _ (by decide)]; show Value.int .u8 z2 = .int .u8 (f 18); rw [hf18]
  · intro v hv
    simp only [List.mem_cons, List.mem_nil_iff, or_false] at hv
    rcases hv with rfl | rfl | rfl <;> rfl
end
/-- the places of a slice's cells -/
def vA (a : Addr) (len cap : Nat) : Nat → Value := fun s => if s = 1000 then .slice (some a) len cap else if s < 1100 then .pointer (some (a.add ((s - 1001) * 2))) else .pointer (some (a.add (s - 1100)))
theorem rulesI_ok {a : Addr} {len cap n : Nat} {xs : Nat → Int} {f : Nat → Int} {G : List (Nat × Obj)} {W : World} {o : Obj} (hn : n < 9) (hln : n ≤ len) (ho : 0 < n → (a.block, o) ∈ G ∧ W.heap[a.block]? = some o)
    (hc : ∀ j, j < 2 * n → W.cell? (a.add j) = some (.int .u8 (xs j))) (hf : ∀ s, s < 16 → f s = xs s) : ∀ i, i ≤ n → SymOk Tryz.prog ⟨f, G, vT n xs (vA a len cap)⟩ (rulesI i)
  | 0, _ => fun q hq => by cases hq
  | i + 1, hi => by
    obtain ⟨inf, hin, hsz⟩ := inf_of (t := 40) (n := 2) (by kernel_rfl)
    obtain ⟨inu, hiu, hsu⟩ := inf_of (t := 5) (n := 1) (by kernel_rfl)
    have hv : ∀ s, s < 2000 → (⟨f, G, vT n xs (vA a len cap)⟩ : Nu).v s = vA a len cap s := fun s h => by show vT n xs (vA a len cap) s = _; unfold vT; rw [if_pos h]
    have vP : ∀ j, j < 9 → (⟨f, G, vT n xs (vA a len cap)⟩ : Nu).v (1001 + j) = .pointer (some (a.add (j * 2))) := fun j hj => by
      rw [hv _ (by omega)]; unfold vA; rw [if_neg (by omega), if_pos (by omega), show 1001 + j - 1001 = j by omega]
    have vC : ∀ j, j < 32 → (⟨f, G, vT n xs (vA a len cap)⟩ : Nu).v (1100 + j) = .pointer (some (a.add j)) := fun j hj => by
      rw [hv _ (by omega)]; unfold vA; rw [if_neg (by omega), if_neg (by omega), show 1100 + j - 1100 = j by omega]
    have v0 : (⟨f, G, vT n xs (vA a len cap)⟩ : Nu).v 1000 = .slice (some a) len cap := by rw [hv _ (by omega)]; rfl
    have hcell : ∀ j, j < 2 * n → ∀ w : World, (∀ b o, (b, o) ∈ G → w.heap[b]? = some o) → w.cell? (a.add j) = some (.int .u8 (xs j)) := fun j hj w hw => by
      obtain ⟨h1, h2⟩ := ho (by omega)
      rw [cell?_of_block h2 (hw _ _ h1)]
      exact hc j hj
    have hval : ∀ j, j < 2 * n → ∀ φ, VR φ ⟨f, G, vT n xs (vA a len cap)⟩ (.sym .u8 j) (.int .u8 (xs j)) := fun j hj φ => .sym _ _ (by rw [Nu.val_num _ _ (by omega)]; show Value.int .u8 (xs j) = .int .u8 (f j); rw [hf j (by omega)])
    intro q hq
    have hq : q ∈ Rule.ix .u8 1000 22 i (1001 + i) :: Rule.ix .u8 (1001 + i) 40 0 (1100 + 2 * i) :: Rule.ix .u8 (1001 + i) 40 1 (1101 + 2 * i) :: Rule.ld .u8 (1100 + 2 * i) 5 (.sym .u8 (2 * i)) :: Rule.ld .u8 (1101 + 2 * i) 5 (.sym .u8 (1 + 2 * i)) :: rulesI i := hq
    have e1 : 1101 + 2 * i = 1100 + (1 + 2 * i) := by omega
    rcases List.mem_cons.1 hq with rfl | hq
    · exact Rule.ixs_ok (by decide) (by omega) v0 (by omega) (by rw [vP i (by omega), hsz]) Tryz.underlying22 hin
    rcases List.mem_cons.1 hq with rfl | hq
    · exact Rule.ixa_ok (l := 2) (by omega) (by omega) (vP i (by omega)) (by decide) (by rw [vC (2 * i) (by omega), hsu, add_add, show i * 2 + 0 * 1 = 2 * i by omega]) Tryz.underlying40 hiu
    rcases List.mem_cons.1 hq with rfl | hq
    · exact Rule.ixa_ok (l := 2) (by omega) (by omega) (vP i (by omega)) (by decide) (by rw [e1, vC (1 + 2 * i) (by omega), hsu, add_add, show i * 2 + 1 * 1 = 1 + 2 * i by omega]) Tryz.underlying40 hiu
    rcases List.mem_cons.1 hq with rfl | hq
    · exact Rule.ld1_ok (by omega) (vC (2 * i) (by omega)) Tryz.underlying5 rfl (hcell (2 * i) (by omega)) (hval (2 * i) (by omega))
    rcases List.mem_cons.1 hq with rfl | hq
    · exact Rule.ld1_ok (by omega) (by rw [e1]; exact vC (1 + 2 * i) (by omega)) Tryz.underlying5 rfl (hcell (1 + 2 * i) (by omega)) (hval (1 + 2 * i) (by omega))
    · exact rulesI_ok hn hln ho hc hf i (by omega) q hq
theorem walk (R : Runs) (v : Value) (z0 z1 z2 : Int) (h0 : 0 ≤ z0 ∧ z0 ≤ 255) (h1 : 0 ≤ z1 ∧ z1 ≤ 255) (h2 : 0 ≤ z2 ∧ z2 ≤ 255) {W : World} (hp : PairsOk W v) (hF : Facts W) :
    Calls Tryz.prog 3 #[v, .agg #[.int .u8 z0, .int .u8 z1, .int .u8 z2]] W fun e w' => e = .returned (.bool true) ∧ Below W.heap.size W w' := by
  rcases hp with rfl | ⟨a, len, cap, rfl, hc⟩
  · refine root_said R hF (n := 0) (by decide) (xs := fun _ => 0) (fun _ => by omega) (V0 := fun s => if s = 1000 then .slice none 0 0 else .nilFunc) h0 h1 h2 [] (fun b o h => by cases h) rfl (fun f G _ _ q hq => ?_)
    have hq : q ∈ [Rule.len .u8 1000 22 (.int .i64 (.ofNat 0))] := hq
    simp only [List.mem_cons, List.mem_nil_iff, or_false] at hq
    subst hq
    exact Rule.len_ok (by decide) (show vT 0 (fun _ => 0) (fun s => if s = 1000 then .slice none 0 0 else .nilFunc) 1000 = .slice none 0 0 from rfl) Tryz.underlying22 fun φ => VR.int _ _
  by_cases hb : 8 < len
  · obtain ⟨G, g1, g2, g3, g4, _⟩ := nu_of hF [] (fun b o h => by cases h)
    obtain ⟨f, hfe⟩ : ∃ f : Nat → Int, f = fun s => if s = 0 then (len : Int) else if s = 16 then z0 else if s = 17 then z1 else z2 := ⟨_, rfl⟩
    obtain ⟨V, hVe⟩ : ∃ V : Nat → Value, V = fun _ => .slice (some a) len cap := ⟨_, rfl⟩
    have tF := tabF_ok (g2 f V) (g3 f V) g4 R.toStages
    obtain ⟨t', ht', h⟩ := mkTblZ_true noNG sym_nil (splitOk (g3 f V)) fnsC_ok tF R.big
    have hrules : SymOk Tryz.prog ⟨f, G, V⟩ rulesBig := by
      intro q hq
      simp only [rulesBig, List.mem_cons, List.mem_nil_iff, or_false] at hq
      rcases hq with rfl | rfl
      · exact Rule.len_ok (by decide) (show V 1000 = .slice (some a) len cap by rw [hVe]) Tryz.underlying22 fun φ => .sym _ _ (by rw [Nu.val_num _ _ (by decide)]; show Value.int .i64 _ = .int .i64 (f 0); rw [hfe]; rfl)
      · exact Rule.gtr_ok (by decide) (show (8 : Int) < f 0 by rw [hfe]; show (8 : Int) < (len : Int); omega)
    obtain ⟨t2, ht2, h⟩ := mkTblZ_true noNG hrules (splitOk (g3 f V)) fnsR_ok ht' h
    refine run_said ht2 g4 g1 (vs := [.slice (some a) len cap, .agg #[.int .u8 z0, .int .u8 z1, .int .u8 z2]]) ?_ h
    refine .cons (.sym _ _ (Nu.val_slice (by decide) ?_).symm) (.cons (VR.agg (.cons (.sym _ _ ?_) (.cons (.sym _ _ ?_) (.cons (.sym _ _ ?_) .nil))) ?_) .nil)
    · show V 1000 = _; rw [hVe]
    · rw [Nu.val_num _ _ (by decide)]; show Value.int .u8 z0 = .int .u8 (f 16); rw [hfe]; rfl
    · rw [Nu.val_num _ _ (by decide)]; show Value.int .u8 z1 = .int .u8 (f 17); rw [hfe]; rfl
    · rw [Nu.val_num _ _ (by decide)]; show Value.int .u8 z2 = .int .u8 (f 18); rw [hfe]; rfl
    · intro v hv
      simp only [List.mem_cons, List.mem_nil_iff, or_false] at hv
      rcases hv with rfl | rfl | rfl <;> rfl
  obtain ⟨xs, hxs⟩ : ∃ xs : Nat → Int, ∀ j, (0 ≤ xs j ∧ xs j ≤ 255) ∧ (j < 2 * len → W.cell? (a.add j) = some (.int .u8 (xs j))) := by
    refine ⟨fun j => if h : j < 2 * len then (hc j h).choose else 0, fun j => ?_⟩
    by_cases h : j < 2 * len
    · have := (hc j h).choose_spec
      simp only [dif_pos h]
      exact ⟨⟨this.1, this.2.1⟩, fun _ => this.2.2⟩
    · simp only [dif_neg h]
      exact ⟨⟨by omega, by omega⟩, fun q => absurd q h⟩
  obtain ⟨X, o, hX, hXo⟩ : ∃ (X : List (Nat × Obj)) (o : Obj), (∀ b o', (b, o') ∈ X → W.heap[b]? = some o') ∧ (0 < len → (a.block, o) ∈ X) := by
    by_cases h : 0 < len
    · obtain ⟨o, ho⟩ := block_of_cell ((hxs 0).2 (by omega))
      have ho : W.heap[a.block]? = some o := by rw [block_add] at ho; exact ho
      refine ⟨[(a.block, o)], o, fun b o' hm => ?_, fun _ => List.mem_cons_self⟩
      simp only [List.mem_cons, List.mem_nil_iff, or_false, Prod.mk.injEq] at hm
      obtain ⟨rfl, rfl⟩ := hm
      exact ho
    · exact ⟨[], .stringIter .empty 0, fun b o' hm => (by cases hm), fun q => absurd q h⟩
  refine root_said R hF (n := len) (by omega) (xs := xs) (fun s => (hxs s).1) (V0 := vA a len cap) h0 h1 h2 X hX (show vA a len cap 1000 = _ from rfl) (fun f G hXG hf q hq => ?_)
  unfold rulesL at hq
  rcases List.mem_cons.1 hq with rfl | hq
  · exact Rule.len_ok (by decide) (show vT len xs (vA a len cap) 1000 = .slice (some a) len cap from rfl) Tryz.underlying22 fun φ => VR.int _ _
  · exact rulesI_ok (o := o) (by omega) (Nat.le_refl _) (fun q => ⟨hXG _ (hXo q), hX _ _ (hXo q)⟩) (fun j hj => (hxs j).2 hj) hf len (Nat.le_refl _) q hq
end Go.Proofs.YtkdlhhnkeocfcaaGreatDoor
