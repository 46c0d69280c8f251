/-
  What the function gives in a world that holds the listed tables: true; the closed runs are hypotheses here.
-/
import Derived.Test.YtjbibfedjhjdlaaGreatDoorOTabsOk
import Derived.Clock
import Derived.Stop.LaidErr
import Derived.Test.YtjbibfedjhjdlaaGreatDoorOPack
set_option linter.unusedVariables false
set_option linter.unusedSimpArgs false
namespace Go.Proofs.YtjbibfedjhjdlaaGreatDoor
open Go Go.Abs
set_option maxRecDepth 100000
set_option maxHeartbeats 0
open Go.RowKit (Below)
theorem rem_ok (t : TypeId) (w : World) (x c : Int) (hx : 0 ≤ x) (hx2 : x ≤ 255) (hc : 0 < c) (hc2 : c ≤ 255) : (binOp .rem t (.int .u8 x) (.int .u8 c)).run Tryz.prog w = .ok (.int .u8 (x % c)) w := by
  have h1 : ¬ (c = 0) := by omega
  simp [binOp, Op.intDiv, h1, Int.tmod_eq_emod_of_nonneg hx]
theorem quo_ok (t : TypeId) (w : World) (x c : Int) (hx : 0 ≤ x) (hx2 : x ≤ 255) (hc : 0 < c) (hc2 : c ≤ 255) : (binOp .quo t (.int .u8 x) (.int .u8 c)).run Tryz.prog w = .ok (.int .u8 (x / c)) w := by
  have h1 : ¬ (c = 0) := by omega
  have h2 : 0 ≤ x / c := Int.ediv_nonneg hx (by omega)
  have h3 : x / c ≤ x := Int.ediv_le_self c hx
  have h4 : IntKind.u8.wrap (x / c) = x / c := Go.Abs.wrap_small IntKind.u8 _ (by simp [loK]; omega) (by simp [hiK]; omega)
  simp [binOp, Op.intDiv, h1, Int.tdiv_eq_ediv_of_nonneg hx, h4]
theorem sym_nil {ν : Nu} : SymOk Tryz.prog ν [] := fun q hq => by cases hq

/-! ### what the world holds -/
theorem shaped_at {W : World} (h : W.ShapedOpen Tryz.prog) (g : Nat) (t : TypeId) (hg : g < Tryz.prog.globals.size) (h0 : (((begin Tryz.prog (fun _ _ => 0) default).world.heap[g]?).bind Obj.row?).map (·.2) = some t) :
    ∃ cs, W.heap[g]? = some (.cells cs t) := by
  obtain ⟨⟨zero, t'⟩, hz, rfl⟩ := Option.map_eq_some_iff.1 h0
  obtain ⟨cs, hc, _⟩ := h.1 g zero t' hg hz
  exact ⟨cs, hc⟩
theorem obj_of {W : World} {name : String} {g : Nat} {k : IntKind} {zs : List Int} {cs : Array Value} {t : TypeId} {fr : Nat × Nat} (hn : Tryz.prog.globalNamed name = some g) (hh : W.heap[g]? = some (.cells cs t fr)) (hT : Lib.TabIs Tryz.prog W name k zs) :
    cs = (zs.map fun z => Value.int k z).toArray := by
  unfold Lib.TabIs World.var? at hT
  rw [hn] at hT
  simpa [hh] using hT
/-- the blocks that the run reads -/
structure Facts (W : World) : Prop where
  gA : ∃ fr, W.heap[0]? = some (.cells (Lib.asciiSpaceTab.map fun z => Value.int .u8 z).toArray 196 fr)
  gM : ∃ m fr, W.heap[2]? = some (.cells #[.int .i64 m] 3 fr)
  t0 : ∃ fr, W.heap[6]? = some ((⟨6, [36, 43, 45], 649⟩ : Gl).obj fr)
  t1 : ∃ fr, W.heap[10]? = some ((⟨10, [63, 15, 63, 15, 61, 61], 763⟩ : Gl).obj fr)
theorem named0 : Tryz.prog.globalNamed "strings.asciiSpace" = some 0 := by kernel_rfl
theorem globsW : Tryz.prog.globals.size = 15 := by kernel_rfl
theorem nu_of {W : World} (hF : Facts W) (X : List (Nat × Obj)) (hX : ∀ b o, (b, o) ∈ X → W.heap[b]? = some o) : ∃ G : List (Nat × Obj), (∀ b o, (b, o) ∈ G → W.heap[b]? = some o) ∧ (∀ f V, TabCell Tryz.prog ⟨f, G, V⟩ "strings.asciiSpace" .u8 Lib.asciiSpaceTab) ∧ (∀ f V, IntCell ⟨f, G, V⟩ 2) ∧
    (∀ q ∈ gls, ∃ fr, (q.g, q.obj fr) ∈ G) ∧ ∀ q ∈ X, q ∈ G := by
  obtain ⟨⟨f0, h0⟩, ⟨m, f3, h3⟩, ⟨e0, k0⟩, ⟨e1, k1⟩⟩ := hF
  refine ⟨(0, Obj.cells (Lib.asciiSpaceTab.map fun z => Value.int .u8 z).toArray 196 f0) :: (2, Obj.cells #[.int .i64 m] 3 f3) :: (6, (⟨6, [36, 43, 45], 649⟩ : Gl).obj e0) :: (10, (⟨10, [63, 15, 63, 15, 61, 61], 763⟩ : Gl).obj e1) :: X, fun b o hb => ?_, fun f _ => ⟨0, 196, f0, named0, ?_⟩, fun f _ => ⟨m, 3, f3, ?_⟩, fun q hq => ?_, fun q hq => List.mem_cons_of_mem _ (List.mem_cons_of_mem _ (List.mem_cons_of_mem _ (List.mem_cons_of_mem _ hq)))⟩
  rotate_left
  · exact List.mem_cons_self
  · exact List.mem_cons_of_mem _ List.mem_cons_self
  · simp only [gls, List.mem_cons, List.mem_nil_iff, or_false] at hq
    rcases hq with rfl | rfl
    · exact ⟨e0, List.mem_cons_of_mem _ (List.mem_cons_of_mem _ (List.mem_cons_self))⟩
    · exact ⟨e1, List.mem_cons_of_mem _ (List.mem_cons_of_mem _ (List.mem_cons_of_mem _ (List.mem_cons_self)))⟩
  · simp only [List.mem_cons, Prod.mk.injEq] at hb
    rcases hb with ⟨rfl, rfl⟩ | ⟨rfl, rfl⟩ | ⟨rfl, rfl⟩ | ⟨rfl, rfl⟩ | hb
    · exact h0
    · exact h3
    · exact k0
    · exact k1
    · exact hX b o hb
theorem hs_HR {ν : Nu} (hG : ∀ q ∈ gls, ∃ fr, (q.g, q.obj fr) ∈ ν.G) {w : World} (hw : ∀ b o, (b, o) ∈ ν.G → w.heap[b]? = some o) : HR (phiOf gls) ν hs w := by
  refine h0_HR (by decide) ?_ ?_ ?_ ?_ hG hw
  · intro q hq; simp only [gls, List.mem_cons, List.mem_nil_iff, or_false] at hq; rcases hq with rfl | rfl <;> decide
  · intro q hq; simp only [gls, List.mem_cons, List.mem_nil_iff, or_false] at hq; rcases hq with rfl | rfl <;> decide
  · decide +kernel
  · intro g hg
    unfold gver at hg
    cases hb0 : Nat.beq g 6 with
    | true =>
      have e := Nat.eq_of_beq_eq_true hb0
      subst e
      exact ⟨⟨6, [36, 43, 45], 649⟩, by simp [gls], rfl, rfl⟩
    | false =>
      first | rw [hb0, cond_false] at hg | rw [cond_false] at hg
      cases hb1 : Nat.beq g 10 with
      | true =>
        have e := Nat.eq_of_beq_eq_true hb1
        subst e
        exact ⟨⟨10, [63, 15, 63, 15, 61, 61], 763⟩, by simp [gls], rfl, rfl⟩
      | false =>
        first | rw [hb1, cond_false] at hg | rw [cond_false] at hg
        exact absurd hg (Nat.lt_irrefl 0)
theorem phi_lim : ∀ id ver p, phiOf gls id ver = some p → id < hs.ro.lim := by
  intro id ver p h
  obtain ⟨q, hq, h1, _, _⟩ := phiOf_some h
  simp only [gls, List.mem_cons, List.mem_nil_iff, or_false] at hq
  show id < 16
  rw [← h1]
  rcases hq with rfl | rfl <;> decide
theorem phi_in {ν : Nu} (hG : ∀ q ∈ gls, ∃ fr, (q.g, q.obj fr) ∈ ν.G) : ∀ id ver p, phiOf gls id ver = some p → ∃ o, (p.blk, o) ∈ ν.G := by
  intro id ver p h
  obtain ⟨q, hq, h1, h2, rfl⟩ := phiOf_some h
  obtain ⟨fr, hm⟩ := hG q hq
  exact ⟨_, hm⟩

/-! ### the runs, put to use -/
/-- what the kernel ran, but for the cases -/
structure Stages : Prop where
  words : runW = true
  s2_true : run2_true = true
  s3_bld : run3_bld = true
  s4_prv : run4_prv = true
  s5_val : run5_val = true
  s6_mac : run6_mac = true
  s6_mac2 : run6_mac2 = true
  s7_ck0 : run7_ck0 = true
  s7_ck1 : run7_ck1 = true
  s7_ck2 : run7_ck2 = true
  s7_ck3 : run7_ck3 = true
  s7_ck4 : run7_ck4 = true
theorem tab1_ok {ν : Nu} (ht : TblOk Tryz.prog ν tab0) (h3 : IntCell ν 2) (hG : ∀ q ∈ gls, ∃ fr, (q.g, q.obj fr) ∈ ν.G) (R : Stages) : TblOk Tryz.prog ν tab1 := by
  obtain ⟨t', ht', h⟩ := mkTblZ_true noNG sym_nil (splitOk h3) fnsW_ok ht R.words
  unfold tab1
  exact ht.set (f := 477) (by omega) (FnGood.closed_map ht' h (fun w hw => hs_HR hG hw) phi_lim)
theorem tab2_ok {ν : Nu} (ht : TblOk Tryz.prog ν tab1) (h3 : IntCell ν 2) (hG : ∀ q ∈ gls, ∃ fr, (q.g, q.obj fr) ∈ ν.G) (R : Stages) : TblOk Tryz.prog ν tab2 := by
  obtain ⟨t', ht', h⟩ := mkTblZ_true noNG sym_nil (splitOk h3) fnsL_ok ht R.s2_true
  unfold tab2
  exact ht.set (f := 5) (by omega) (FnGood.closed_true ht' h (fun w hw => hs_HR hG hw) phi_lim)
theorem tab3_ok {ν : Nu} (ht : TblOk Tryz.prog ν tab2) (h3 : IntCell ν 2) (hG : ∀ q ∈ gls, ∃ fr, (q.g, q.obj fr) ∈ ν.G) (R : Stages) : TblOk Tryz.prog ν tab3 := by
  obtain ⟨u0, hu0, e0⟩ := mkTblZ_true noNG sym_nil (splitOk h3) fnsS_ok ht R.s3_bld
  unfold tab3
  exact ht.set (f := 15) (by omega) (FnGood.memo2 hu0 bld e0 (fun w hw => hs_HR hG hw) (phi_in hG) (by decide +kernel) (by decide +kernel) (by decide +kernel) failD_good)
theorem tab4_ok {ν : Nu} (ht : TblOk Tryz.prog ν tab3) (h3 : IntCell ν 2) (hG : ∀ q ∈ gls, ∃ fr, (q.g, q.obj fr) ∈ ν.G) (R : Stages) : TblOk Tryz.prog ν tab4 := by
  obtain ⟨u0, hu0, e0⟩ := mkTblZ_true noNG sym_nil (splitOk h3) fnsS_ok ht R.s4_prv
  unfold tab4
  exact ht.set (f := 12) (by omega) (FnGood.memo2 hu0 prv e0 (fun w hw => hs_HR hG hw) (phi_in hG) (by decide +kernel) (by decide +kernel) (by decide +kernel) failD_good)
theorem tab5_ok {ν : Nu} (ht : TblOk Tryz.prog ν tab4) (h3 : IntCell ν 2) (hG : ∀ q ∈ gls, ∃ fr, (q.g, q.obj fr) ∈ ν.G) (R : Stages) : TblOk Tryz.prog ν tab5 := by
  obtain ⟨u0, hu0, e0⟩ := mkTblZ_true noNG sym_nil (splitOk h3) fnsS_ok ht R.s5_val
  unfold tab5
  exact ht.set (f := 10) (by omega) (FnGood.memo2 hu0 val e0 (fun w hw => hs_HR hG hw) (phi_in hG) (by decide +kernel) (by decide +kernel) (by decide +kernel) failD_good)
theorem tab6_ok {ν : Nu} (ht : TblOk Tryz.prog ν tab5) (h3 : IntCell ν 2) (hG : ∀ q ∈ gls, ∃ fr, (q.g, q.obj fr) ∈ ν.G) (R : Stages) : TblOk Tryz.prog ν tab6 := by
  obtain ⟨u0, hu0, e0⟩ := mkTblZ_true noNG sym_nil (splitOk h3) fnsS_ok ht R.s6_mac
  obtain ⟨u1, hu1, e1⟩ := mkTblZ_true noNG sym_nil (splitOk h3) fnsS_ok ht R.s6_mac2
  unfold tab6
  exact ht.set (f := 8) (by omega) (FnGood.memo2 hu0 mac e0 (fun w hw => hs_HR hG hw) (phi_in hG) (by decide +kernel) (by decide +kernel) (by decide +kernel) (FnGood.memo2 hu1 mac2 e1 (fun w hw => hs_HR hG hw) (phi_in hG) (by decide +kernel) (by decide +kernel) (by decide +kernel) failD_good))
theorem tab7_ok {ν : Nu} (ht : TblOk Tryz.prog ν tab6) (h3 : IntCell ν 2) (hG : ∀ q ∈ gls, ∃ fr, (q.g, q.obj fr) ∈ ν.G) (R : Stages) : TblOk Tryz.prog ν tab7 := by
  obtain ⟨u0, hu0, e0⟩ := mkTblZ_true noNG sym_nil (splitOk h3) fnsS_ok ht R.s7_ck0
  obtain ⟨u1, hu1, e1⟩ := mkTblZ_true noNG sym_nil (splitOk h3) fnsS_ok ht R.s7_ck1
  obtain ⟨u2, hu2, e2⟩ := mkTblZ_true noNG sym_nil (splitOk h3) fnsS_ok ht R.s7_ck2
  obtain ⟨u3, hu3, e3⟩ := mkTblZ_true noNG sym_nil (splitOk h3) fnsS_ok ht R.s7_ck3
  obtain ⟨u4, hu4, e4⟩ := mkTblZ_true noNG sym_nil (splitOk h3) fnsS_ok ht R.s7_ck4
  unfold tab7
  exact ht.set (f := 61) (by omega) (FnGood.memo2 hu0 ck0 e0 (fun w hw => hs_HR hG hw) (phi_in hG) (by decide +kernel) (by decide +kernel) (by decide +kernel) (FnGood.memo2 hu1 ck1 e1 (fun w hw => hs_HR hG hw) (phi_in hG) (by decide +kernel) (by decide +kernel) (by decide +kernel) (FnGood.memo2 hu2 ck2 e2 (fun w hw => hs_HR hG hw) (phi_in hG) (by decide +kernel) (by decide +kernel) (by decide +kernel) (FnGood.memo2 hu3 ck3 e3 (fun w hw => hs_HR hG hw) (phi_in hG) (by decide +kernel) (by decide +kernel) (by decide +kernel) (FnGood.memo2 hu4 ck4 e4 (fun w hw => hs_HR hG hw) (phi_in hG) (by decide +kernel) (by decide +kernel) (by decide +kernel) failD_good)))))
theorem tabF_ok {ν : Nu} (h0 : TabCell Tryz.prog ν "strings.asciiSpace" .u8 Lib.asciiSpaceTab) (h3 : IntCell ν 2) (hG : ∀ q ∈ gls, ∃ fr, (q.g, q.obj fr) ∈ ν.G) (R : Stages) : TblOk Tryz.prog ν tab7 :=
  (tab7_ok (tab6_ok (tab5_ok (tab4_ok (tab3_ok (tab2_ok (tab1_ok (tab0_ok h0 h3) h3 hG R) h3 hG R) h3 hG R) h3 hG R) h3 hG R) h3 hG R) h3 hG R)
/-- a run by a table that is good, put to use -/
theorem run_said {f : Nat → Int} {G : List (Nat × Obj)} {V : Nat → Value} {t : T4 FnD TD} (ht : TblOk Tryz.prog ⟨f, G, V⟩ t) (g4 : ∀ q ∈ gls, ∃ fr, (q.g, q.obj fr) ∈ G) {W : World} (g1 : ∀ b o, (b, o) ∈ G → W.heap[b]? = some o) {avs : List AV} {vs : List Value} (hv : VRs (phiOf gls) ⟨f, G, V⟩ avs vs)
    (h : runF t 60 4 avs hs isTrueK (fun _ _ => false) = true) : Calls Tryz.prog 4 vs.toArray W fun e w' => e = .returned (.bool true) ∧ Below W.heap.size W w' := by
  have hr := hs_HR (ν := ⟨f, G, V⟩) g4 (w := W) g1
  have hco := runF_ok ht 60 4 _ hs isTrueK (fun _ _ => false) h (phiOf gls) W vs hr hv
  have key : ∀ e w', FPost (phiOf gls) ⟨f, G, V⟩ hs.ro W hs.ds isTrueK (fun _ _ => false) e w' → e = .returned (.bool true) ∧ Below W.heap.size W w' := by
    intro e w' hp
    cases e with
    | returned x =>
      obtain ⟨φ', av, h', hvr, hr', hx, _, _, hav⟩ := hp
      obtain ⟨b, e2, hb2⟩ := vBool_true (show vBool av (fun b => b) = true from hav)
      subst e2 hb2
      cases hvr
      exact ⟨rfl, below_of_ext hx phi_lim⟩
    | panicked chain =>
      obtain ⟨φ', av, h', v, _, _, _, _, _, _, hav⟩ := hp
      cases hav
    | outgrown => exact hp.elim
  rcases hco with ⟨_, h2⟩ | ⟨x, w', h2, _⟩
  · exact h2.mono key
  · exfalso
    have hb : hasBody Tryz.prog 4 = true := by kernel_rfl
    rw [hasBody_true hb] at h2
    cases h2
def fOf (a0 b0 b1 c0 : Int) : Nat → Int := fun s => if s = 0 then a0 else if s = 1 then b0 else if s = 2 then b1 else if s = 3 then c0 else b1 - ((s : Int) - 100)
theorem covN : ∀ c < 96, ∀ n < Sf c, ∃ l ∈ kns, ∃ j ∈ l, j.1 = c ∧ j.2.1 ≤ n ∧ n < j.2.1 + j.2.2 := by decide +kernel
theorem covY : ∀ c < 96, (∃ m ∈ kys, (c, Sf c) ∈ m) ∧ 0 < Sf c ∧ Sf c ≤ 255 := by decide +kernel
section
variable {V : Nat → Value} {a0 b0 b1 c0 : Int} {x a l : Nat}
theorem sym_o (h0 : 0 ≤ a0 ∧ a0 ≤ 255) (h1 : 0 ≤ b0 ∧ b0 ≤ 255) (h3 : 0 ≤ c0 ∧ c0 ≤ 255) (ex : a0 % 4 = (x : Int)) (ea : b0 % 6 = (a : Int)) (el : c0 % 4 = (l : Int)) {G : List (Nat × Obj)} : SymOk Tryz.prog ⟨fOf a0 b0 b1 c0, G, V⟩ (rulesO x a l) := by
  intro q hq
  simp only [rulesO, List.mem_cons, List.mem_nil_iff, or_false] at hq
  rcases hq with rfl | rfl | rfl
  · exact Rule.rem_ok (by decide) h0.1 h0.2 (by decide) (by decide) ex
  · exact Rule.rem_ok (by decide) h1.1 h1.2 (by decide) (by decide) ea
  · exact Rule.rem_ok (by decide) h3.1 h3.2 (by decide) (by decide) el
theorem f_at (j : Nat) : fOf a0 b0 b1 c0 (100 + j) = b1 - j := by
  unfold fOf
  rw [if_neg (by omega), if_neg (by omega), if_neg (by omega), if_neg (by omega)]
  omega
theorem sym_step (h2 : 0 ≤ b1 ∧ b1 ≤ 255) {G : List (Nat × Obj)} : ∀ S : Nat, S ≤ 255 → (S : Int) ≤ b1 → SymOk Tryz.prog ⟨fOf a0 b0 b1 c0, G, V⟩ (stepR S)
  | 0, _, _ => fun q hq => by cases hq
  | S + 1, h5, hS => by
    intro q hq
    have hq : q ∈ Rule.mk .leq .i64 (100 + S) .i64 0 (.bool false) :: Rule.mk .sub .i64 (100 + S) .i64 1 (.sym .i64 (101 + S)) :: stepR S := hq
    have e1 : fOf a0 b0 b1 c0 (100 + S) = b1 - S := f_at S
    have e2 : fOf a0 b0 b1 c0 (101 + S) = b1 - (S + 1 : Nat) := by rw [show 101 + S = 100 + (S + 1) by omega]; exact f_at (S + 1)
    rcases List.mem_cons.1 hq with rfl | hq
    · exact Rule.leq_ok (by omega) (show (0 : Int) < fOf a0 b0 b1 c0 (100 + S) by rw [e1]; omega)
    · rcases List.mem_cons.1 hq with rfl | hq
      · exact Rule.sub_ok (by omega) (by omega) (show 0 < fOf a0 b0 b1 c0 (100 + S) by rw [e1]; omega) (show fOf a0 b0 b1 c0 (100 + S) ≤ 255 by rw [e1]; omega)
          (show fOf a0 b0 b1 c0 (101 + S) = fOf a0 b0 b1 c0 (100 + S) - 1 by rw [e1, e2]; omega)
      · exact sym_step h2 S (by omega) (by omega) q hq
theorem sym_y {S : Nat} (h0 : 0 ≤ a0 ∧ a0 ≤ 255) (h1 : 0 ≤ b0 ∧ b0 ≤ 255) (h2 : 0 ≤ b1 ∧ b1 ≤ 255) (h3 : 0 ≤ c0 ∧ c0 ≤ 255) (ex : a0 % 4 = (x : Int)) (ea : b0 % 6 = (a : Int)) (el : c0 % 4 = (l : Int)) (hS0 : 0 < S) (hS5 : S ≤ 255) (hS : (S : Int) ≤ b1)
    {G : List (Nat × Obj)} : SymOk Tryz.prog ⟨fOf a0 b0 b1 c0, G, V⟩ (rulesY x a l S) := by
  intro q hq
  have e0 : fOf a0 b0 b1 c0 100 = b1 := by have := f_at (a0 := a0) (b0 := b0) (b1 := b1) (c0 := c0) 0; simpa using this
  have e2 : fOf a0 b0 b1 c0 2 = b1 := rfl
  unfold rulesY at hq
  rcases List.mem_cons.1 hq with rfl | hq
  · exact Rule.conv_ok (by decide) (by decide) h2.1 h2.2 (e0.trans e2.symm)
  rcases List.mem_cons.1 hq with rfl | hq
  · exact Rule.gtr_ok (by decide) (show (0 : Int) < b1 by omega)
  rcases List.mem_cons.1 hq with rfl | hq
  · exact ⟨by decide, show fOf a0 b0 b1 c0 100 ≤ 1048576 by rw [e0]; omega⟩
  rcases List.mem_cons.1 hq with rfl | hq
  · exact Rule.geq_ok (by decide) (show (S : Int) ≤ fOf a0 b0 b1 c0 100 by rw [e0]; exact hS)
  rcases List.mem_append.1 hq with hq | hq
  · exact sym_o h0 h1 h3 ex ea el q hq
  · exact sym_step h2 S hS5 hS q hq
end
theorem runsN_true {t : T4 FnD TD} {lo : Nat} : ∀ {cnt : Nat}, runsN t lo cnt = true → ∀ n, lo ≤ n → n < lo + cnt → runN t n = true
  | 0, _, n, h1, h2 => by omega
  | cnt + 1, h, n, h1, h2 => by
    have h : forceN (lo + cnt) (fun n => andB (runN t n) (runsN t lo cnt)) = true := h
    rw [forceN_eq] at h
    obtain ⟨g1, g2⟩ := andB_true h
    rcases Nat.lt_or_ge n (lo + cnt) with q | q
    · exact runsN_true g2 n h1 q
    · have : n = lo + cnt := by omega
      subst this
      exact g1
theorem allN_true {t : T4 FnD TD} : ∀ {l : List (Nat × Nat × Nat)}, allN t l = true → ∀ j ∈ l, jobN t j.1 j.2.1 j.2.2 = true
  | [], _, j, hj => by cases hj
  | i :: l, h, j, hj => by
    obtain ⟨g1, g2⟩ := andB_true (show andB (jobN t i.1 i.2.1 i.2.2) (allN t l) = true from h)
    rcases List.mem_cons.1 hj with rfl | hj
    · exact g1
    · exact allN_true g2 j hj
theorem allY_true {t : T4 FnD TD} : ∀ {l : List (Nat × Nat)}, allY t l = true → ∀ j ∈ l, jobY t j.1 j.2 = true
  | [], _, j, hj => by cases hj
  | i :: l, h, j, hj => by
    obtain ⟨g1, g2⟩ := andB_true (show andB (jobY t i.1 i.2) (allY t l) = true from h)
    rcases List.mem_cons.1 hj with rfl | hj
    · exact g1
    · exact allY_true g2 j hj
/-- what the kernel ran -/
structure Runs : Prop extends Stages where
  casesN : ∀ l ∈ kns, ∃ m, caseJ l m = true
  casesY : ∀ m ∈ kys, ∃ l, caseJ l m = true
theorem walk (R : Runs) (a0 b0 b1 c0 : Int) (w0 : (Lit.int .u8 a0).wf = true) (w1 : (Lit.int .u8 b0).wf = true) (w2 : (Lit.int .u8 b1).wf = true) (w3 : (Lit.int .u8 c0).wf = true) {W : World} (hF : Facts W) :
    Calls Tryz.prog 4 #[.int .u8 a0, .agg #[.int .u8 b0, .int .u8 b1], .int .u8 c0] W fun e w' => e = .returned (.bool true) ∧ Below W.heap.size W w' := by
  have hh : ∀ n : Int, (Lit.int .u8 n).wf = true → 0 ≤ n ∧ n ≤ 255 := fun n w => by simpa [Lit.wf, IntKind.min, IntKind.max, IntKind.signed, IntKind.bits] using w
  have h0 := hh a0 w0
  have h1 := hh b0 w1
  have h2 := hh b1 w2
  have h3 := hh c0 w3
  obtain ⟨x, ex⟩ : ∃ x : Nat, a0 % 4 = (x : Int) := ⟨(a0 % 4).toNat, by omega⟩
  obtain ⟨a, ea⟩ : ∃ x : Nat, b0 % 6 = (x : Int) := ⟨(b0 % 6).toNat, by omega⟩
  obtain ⟨l, el⟩ : ∃ x : Nat, c0 % 4 = (x : Int) := ⟨(c0 % 4).toNat, by omega⟩
  obtain ⟨n, en⟩ : ∃ n : Nat, b1 = (n : Int) := ⟨b1.toNat, by omega⟩
  obtain ⟨c, hc⟩ : ∃ c, c = x + 4 * a + 24 * l := ⟨_, rfl⟩
  have hx : x < 4 := by omega
  have ha : a < 6 := by omega
  have hl : l < 4 := by omega
  have hc96 : c < 96 := by omega
  have c1 : Nat.mod c 4 = x := by show c % 4 = x; omega
  have c2 : Nat.mod (Nat.div c 4) 6 = a := by show c / 4 % 6 = a; omega
  have c3 : Nat.div c 24 = l := by show c / 24 = l; omega
  obtain ⟨G, g1, g2, g3, g4, _⟩ := nu_of hF [] (fun b o h => by cases h)
  have V : Nat → Value := fun _ => .nilFunc
  have tF := tabF_ok (g2 (fOf a0 b0 b1 c0) V) (g3 (fOf a0 b0 b1 c0) V) g4 R.toStages
  have hv1 : ∀ v ∈ [Value.int .u8 b0, Value.int .u8 b1], v.oneCell' = true := by
    intro v hv
    simp only [List.mem_cons, List.mem_nil_iff, or_false] at hv
    rcases hv with rfl | rfl <;> rfl
  by_cases hn : n < Sf c
  · obtain ⟨L, hL, j, hj, rfl, j1, j2⟩ := covN c hc96 n hn
    obtain ⟨M, hM⟩ := R.casesN L hL
    obtain ⟨t', ht', h⟩ := mkTblZ_true noNG sym_nil (splitOk (g3 (fOf a0 b0 b1 c0) V)) fnsC_ok tF hM
    have h := allN_true (andB_true h).1 j hj
    unfold jobN at h
    simp only [forceN_eq, c1, c2, c3] at h
    obtain ⟨t2, ht2, hr⟩ := mkTblZ_true noNG (sym_o h0 h1 h3 ex ea el) (splitOk (g3 (fOf a0 b0 b1 c0) V)) fnsR_ok ht' h
    have hr := runsN_true hr n j1 j2
    have e1 : Value.int .u8 b1 = .int .u8 (.ofNat n) := by rw [en]; rfl
    refine run_said ht2 g4 g1 (vs := [.int .u8 a0, .agg #[.int .u8 b0, .int .u8 b1], .int .u8 c0]) (.cons (VR.sym .u8 0) (.cons (VR.agg (.cons (VR.sym .u8 1) (.cons ?_ .nil)) hv1) (.cons (VR.sym .u8 3) .nil))) hr
    rw [e1]
    exact VR.int _ _
  · obtain ⟨⟨M, hM, hj⟩, s0, s5⟩ := covY c hc96
    obtain ⟨L, hL⟩ := R.casesY M hM
    obtain ⟨t', ht', h⟩ := mkTblZ_true noNG sym_nil (splitOk (g3 (fOf a0 b0 b1 c0) V)) fnsC_ok tF hL
    have h := allY_true (andB_true h).2 _ hj
    unfold jobY at h
    simp only [forceN_eq, c1, c2, c3] at h
    obtain ⟨t2, ht2, hr⟩ := mkTblZ_true noNG (sym_y h0 h1 h2 h3 ex ea el s0 s5 (by omega)) (splitOk (g3 (fOf a0 b0 b1 c0) V)) fnsR_ok ht' h
    exact run_said ht2 g4 g1 (vs := [.int .u8 a0, .agg #[.int .u8 b0, .int .u8 b1], .int .u8 c0]) (.cons (VR.sym .u8 0) (.cons (VR.agg (.cons (VR.sym .u8 1) (.cons (VR.sym .u8 2) .nil)) hv1) (.cons (VR.sym .u8 3) .nil))) hr
end Go.Proofs.YtjbibfedjhjdlaaGreatDoor
