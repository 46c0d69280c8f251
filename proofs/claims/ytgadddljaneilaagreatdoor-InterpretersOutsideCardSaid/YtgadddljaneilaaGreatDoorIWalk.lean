/-
  What the function gives in a world that holds the listed tables: true; the closed runs are hypotheses here.
-/
import Derived.Test.YtgadddljaneilaaGreatDoorITabsOk
import Derived.Test.YtgadddljaneilaaGreatDoorITabsL
import Derived.Clock
import Derived.Stop.LaidErr
set_option linter.unusedVariables false
set_option linter.unusedSimpArgs false
namespace Go.Proofs.YtgadddljaneilaaGreatDoor
open Go Go.Abs
set_option maxRecDepth 100000
set_option maxHeartbeats 0
open Go.RowKit (Below)
theorem rem_ok (t : TypeId) (w : World) (x c : Int) (hx : 0 ≤ x) (hx2 : x ≤ 255) (hc : 0 < c) (hc2 : c ≤ 255) : (binOp .rem t (.int .u8 x) (.int .u8 c)).run Tryz.prog w = .ok (.int .u8 (x % c)) w := by
  have h1 : ¬ (c = 0) := by omega
  simp [binOp, Op.intDiv, h1, Int.tmod_eq_emod_of_nonneg hx]
theorem quo_ok (t : TypeId) (w : World) (x c : Int) (hx : 0 ≤ x) (hx2 : x ≤ 255) (hc : 0 < c) (hc2 : c ≤ 255) : (binOp .quo t (.int .u8 x) (.int .u8 c)).run Tryz.prog w = .ok (.int .u8 (x / c)) w := by
  have h1 : ¬ (c = 0) := by omega
  have h2 : 0 ≤ x / c := Int.ediv_nonneg hx (by omega)
  have h3 : x / c ≤ x := Int.ediv_le_self c hx
  have h4 : IntKind.u8.wrap (x / c) = x / c := Go.Abs.wrap_small IntKind.u8 _ (by simp [loK]; omega) (by simp [hiK]; omega)
  simp [binOp, Op.intDiv, h1, Int.tdiv_eq_ediv_of_nonneg hx, h4]
theorem sym_nil {ν : Nu} : SymOk Tryz.prog ν [] := fun q hq => by cases hq

/-! ### what the world holds -/
theorem shaped_at {W : World} (h : W.ShapedOpen Tryz.prog) (g : Nat) (t : TypeId) (hg : g < Tryz.prog.globals.size) (h0 : (((begin Tryz.prog (fun _ _ => 0) default).world.heap[g]?).bind Obj.row?).map (·.2) = some t) :
    ∃ cs, W.heap[g]? = some (.cells cs t) := by
  obtain ⟨⟨zero, t'⟩, hz, rfl⟩ := Option.map_eq_some_iff.1 h0
  obtain ⟨cs, hc, _⟩ := h.1 g zero t' hg hz
  exact ⟨cs, hc⟩
theorem obj_of {W : World} {name : String} {g : Nat} {k : IntKind} {zs : List Int} {cs : Array Value} {t : TypeId} {fr : Nat × Nat} (hn : Tryz.prog.globalNamed name = some g) (hh : W.heap[g]? = some (.cells cs t fr)) (hT : Lib.TabIs Tryz.prog W name k zs) :
    cs = (zs.map fun z => Value.int k z).toArray := by
  unfold Lib.TabIs World.var? at hT
  rw [hn] at hT
  simpa [hh] using hT
/-- the blocks that the run reads -/
structure Facts (W : World) : Prop where
  gA : ∃ fr, W.heap[0]? = some (.cells (Lib.asciiSpaceTab.map fun z => Value.int .u8 z).toArray 136 fr)
  gM : ∃ m fr, W.heap[2]? = some (.cells #[.int .i64 m] 3 fr)
  t0 : ∃ fr, W.heap[9]? = some ((⟨9, [36, 43, 45], 784⟩ : Gl).obj fr)
  t1 : ∃ fr, W.heap[3]? = some ((⟨3, [63, 15, 63, 15, 61, 61], 560⟩ : Gl).obj fr)
theorem named0 : Tryz.prog.globalNamed "strings.asciiSpace" = some 0 := by kernel_rfl
theorem globsW : Tryz.prog.globals.size = 15 := by kernel_rfl
theorem nu_of {W : World} (hF : Facts W) : ∃ G : List (Nat × Obj), (∀ b o, (b, o) ∈ G → W.heap[b]? = some o) ∧ (∀ f, TabCell Tryz.prog ⟨f, G⟩ "strings.asciiSpace" .u8 Lib.asciiSpaceTab) ∧ (∀ f, IntCell ⟨f, G⟩ 2) ∧
    ∀ q ∈ gls, ∃ fr, (q.g, q.obj fr) ∈ G := by
  obtain ⟨⟨f0, h0⟩, ⟨m, f3, h3⟩, ⟨e0, k0⟩, ⟨e1, k1⟩⟩ := hF
  refine ⟨[(0, Obj.cells (Lib.asciiSpaceTab.map fun z => Value.int .u8 z).toArray 136 f0), (2, Obj.cells #[.int .i64 m] 3 f3), (9, (⟨9, [36, 43, 45], 784⟩ : Gl).obj e0), (3, (⟨3, [63, 15, 63, 15, 61, 61], 560⟩ : Gl).obj e1)], fun b o hb => ?_, fun f => ⟨0, 136, f0, named0, ?_⟩, fun f => ⟨m, 3, f3, ?_⟩, fun q hq => ?_⟩
  rotate_left
  · exact List.mem_cons_self
  · exact List.mem_cons_of_mem _ List.mem_cons_self
  · simp only [gls, List.mem_cons, List.mem_nil_iff, or_false] at hq
    rcases hq with rfl | rfl
    · exact ⟨e0, List.mem_cons_of_mem _ (List.mem_cons_of_mem _ (List.mem_cons_self))⟩
    · exact ⟨e1, List.mem_cons_of_mem _ (List.mem_cons_of_mem _ (List.mem_cons_of_mem _ (List.mem_cons_self)))⟩
  · simp only [List.mem_cons, List.mem_nil_iff, or_false, Prod.mk.injEq] at hb
    rcases hb with ⟨rfl, rfl⟩ | ⟨rfl, rfl⟩ | ⟨rfl, rfl⟩ | ⟨rfl, rfl⟩
    · exact h0
    · exact h3
    · exact k0
    · exact k1
theorem hs_HR {ν : Nu} (hG : ∀ q ∈ gls, ∃ fr, (q.g, q.obj fr) ∈ ν.G) {w : World} (hw : ∀ b o, (b, o) ∈ ν.G → w.heap[b]? = some o) : HR (phiOf gls) ν hs w := by
  refine h0_HR (by decide) ?_ ?_ ?_ ?_ hG hw
  · intro q hq; simp only [gls, List.mem_cons, List.mem_nil_iff, or_false] at hq; rcases hq with rfl | rfl <;> decide
  · intro q hq; simp only [gls, List.mem_cons, List.mem_nil_iff, or_false] at hq; rcases hq with rfl | rfl <;> decide
  · decide +kernel
  · intro g hg
    unfold gver at hg
    cases hb0 : Nat.beq g 9 with
    | true =>
      have e := Nat.eq_of_beq_eq_true hb0
      subst e
      exact ⟨⟨9, [36, 43, 45], 784⟩, by simp [gls], rfl, rfl⟩
    | false =>
      first | rw [hb0, cond_false] at hg | rw [cond_false] at hg
      cases hb1 : Nat.beq g 3 with
      | true =>
        have e := Nat.eq_of_beq_eq_true hb1
        subst e
        exact ⟨⟨3, [63, 15, 63, 15, 61, 61], 560⟩, by simp [gls], rfl, rfl⟩
      | false =>
        first | rw [hb1, cond_false] at hg | rw [cond_false] at hg
        exact absurd hg (Nat.lt_irrefl 0)
theorem phi_lim : ∀ id ver p, phiOf gls id ver = some p → id < hs.ro.lim := by
  intro id ver p h
  obtain ⟨q, hq, h1, _, _⟩ := phiOf_some h
  simp only [gls, List.mem_cons, List.mem_nil_iff, or_false] at hq
  show id < 16
  rw [← h1]
  rcases hq with rfl | rfl <;> decide
theorem phi_in {ν : Nu} (hG : ∀ q ∈ gls, ∃ fr, (q.g, q.obj fr) ∈ ν.G) : ∀ id ver p, phiOf gls id ver = some p → ∃ o, (p.blk, o) ∈ ν.G := by
  intro id ver p h
  obtain ⟨q, hq, h1, h2, rfl⟩ := phiOf_some h
  obtain ⟨fr, hm⟩ := hG q hq
  exact ⟨_, hm⟩

/-! ### the runs, put to use -/
/-- what the kernel ran, but for the cases -/
structure Stages : Prop where
  words : runW = true
  s2_ib0 : run2_ib0 = true
  s2_ib1 : run2_ib1 = true
  s2_ib2 : run2_ib2 = true
  s2_ib3 : run2_ib3 = true
  s3_ib4 : run3_ib4 = true
  s3_trueL : run3_trueL = true
theorem tab1_ok {ν : Nu} (ht : TblOk Tryz.prog ν tab0) (h3 : IntCell ν 2) (hG : ∀ q ∈ gls, ∃ fr, (q.g, q.obj fr) ∈ ν.G) (R : Stages) : TblOk Tryz.prog ν tab1 := by
  obtain ⟨t', ht', h⟩ := mkTblZ_true noNG sym_nil (splitOk h3) fnsW_ok ht R.words
  unfold tab1
  exact ht.set (f := 369) (by omega) (FnGood.closed_map ht' h (fun w hw => hs_HR hG hw) phi_lim)
theorem tab2_ok {ν : Nu} (ht : TblOk Tryz.prog ν tab1) (h3 : IntCell ν 2) (hG : ∀ q ∈ gls, ∃ fr, (q.g, q.obj fr) ∈ ν.G) (R : Stages) : TblOk Tryz.prog ν tab2 := by
  obtain ⟨u0, hu0, e0⟩ := mkTblZ_true noNG sym_nil (splitOk h3) fnsS_ok ht R.s2_ib0
  obtain ⟨u1, hu1, e1⟩ := mkTblZ_true noNG sym_nil (splitOk h3) fnsS_ok ht R.s2_ib1
  obtain ⟨u2, hu2, e2⟩ := mkTblZ_true noNG sym_nil (splitOk h3) fnsS_ok ht R.s2_ib2
  obtain ⟨u3, hu3, e3⟩ := mkTblZ_true noNG sym_nil (splitOk h3) fnsS_ok ht R.s2_ib3
  unfold tab2
  exact ht.set (f := 38) (by omega) (FnGood.memo2 hu0 ib0 e0 (fun w hw => hs_HR hG hw) (phi_in hG) (by decide +kernel) (by decide +kernel) (by decide +kernel) (FnGood.memo2 hu1 ib1 e1 (fun w hw => hs_HR hG hw) (phi_in hG) (by decide +kernel) (by decide +kernel) (by decide +kernel) (FnGood.memo2 hu2 ib2 e2 (fun w hw => hs_HR hG hw) (phi_in hG) (by decide +kernel) (by decide +kernel) (by decide +kernel) (FnGood.memo2 hu3 ib3 e3 (fun w hw => hs_HR hG hw) (phi_in hG) (by decide +kernel) (by decide +kernel) (by decide +kernel) failD_good))))
theorem tab3_ok {ν : Nu} (ht : TblOk Tryz.prog ν tab2) (h3 : IntCell ν 2) (hG : ∀ q ∈ gls, ∃ fr, (q.g, q.obj fr) ∈ ν.G) (R : Stages) : TblOk Tryz.prog ν tab3 := by
  obtain ⟨u0, hu0, e0⟩ := mkTblZ_true noNG sym_nil (splitOk h3) fnsS_ok ht R.s3_ib4
  have hB : FnGood Tryz.prog ν 38 chain3 := ht 38 _ (show 38 < 4096 by omega) (by unfold tab2 chain3; rw [T4.get_set TD 38 38 (show 38 < 4096 by omega) (show 38 < 4096 by omega), if_pos rfl])
  have htL : TblOk Tryz.prog ν tab3L := by
    unfold tab3L
    exact ht.set (f := 38) (by omega) (FnGood.memo2 hu0 ib4 e0 (fun w hw => hs_HR hG hw) (phi_in hG) (by decide +kernel) (by decide +kernel) (by decide +kernel) hB)
  obtain ⟨t', ht', h⟩ := mkTblZ_true noNG sym_nil (splitOk h3) fnsL_ok htL R.s3_trueL
  unfold tab3
  exact ht.set (f := 14) (by omega) (FnGood.closed_true ht' h (fun w hw => hs_HR hG hw) phi_lim)
theorem tabF_ok {ν : Nu} (h0 : TabCell Tryz.prog ν "strings.asciiSpace" .u8 Lib.asciiSpaceTab) (h3 : IntCell ν 2) (hG : ∀ q ∈ gls, ∃ fr, (q.g, q.obj fr) ∈ ν.G) (R : Stages) : TblOk Tryz.prog ν tab3 :=
  (tab3_ok (tab2_ok (tab1_ok (tab0_ok h0 h3) h3 hG R) h3 hG R) h3 hG R)
/-- a run by a table that is good, put to use -/
theorem run_said {f : Nat → Int} {G : List (Nat × Obj)} {t : T4 FnD TD} (ht : TblOk Tryz.prog ⟨f, G⟩ t) (g4 : ∀ q ∈ gls, ∃ fr, (q.g, q.obj fr) ∈ G) {W : World} (g1 : ∀ b o, (b, o) ∈ G → W.heap[b]? = some o) {avs : List AV} {vs : List Value} (hv : VRs (phiOf gls) ⟨f, G⟩ avs vs)
    (h : runF t 60 4 avs hs isTrueK (fun _ _ => false) = true) : Calls Tryz.prog 4 vs.toArray W fun e w' => e = .returned (.bool true) ∧ Below W.heap.size W w' := by
  have hr := hs_HR (ν := ⟨f, G⟩) g4 (w := W) g1
  have hco := runF_ok ht 60 4 _ hs isTrueK (fun _ _ => false) h (phiOf gls) W vs hr hv
  have key : ∀ e w', FPost (phiOf gls) ⟨f, G⟩ hs.ro W hs.ds isTrueK (fun _ _ => false) e w' → e = .returned (.bool true) ∧ Below W.heap.size W w' := by
    intro e w' hp
    cases e with
    | returned x =>
      obtain ⟨φ', av, h', hvr, hr', hx, _, _, hav⟩ := hp
      obtain ⟨b, e2, hb2⟩ := vBool_true (show vBool av (fun b => b) = true from hav)
      subst e2 hb2
      cases hvr
      exact ⟨rfl, below_of_ext hx phi_lim⟩
    | panicked chain =>
      obtain ⟨φ', av, h', v, _, _, _, _, _, _, hav⟩ := hp
      cases hav
    | outgrown => exact hp.elim
  rcases hco with ⟨_, h2⟩ | ⟨x, w', h2, _⟩
  · exact h2.mono key
  · exfalso
    have hb : hasBody Tryz.prog 4 = true := by kernel_rfl
    rw [hasBody_true hb] at h2
    cases h2
def fOf (a0 b0 b1 c0 : Int) : Nat → Int := fun s => if s = 0 then a0 else if s = 1 then b0 else if s = 2 then b1 else c0
theorem sym_i {a0 b0 b1 c0 : Int} {x a b l : Nat} (h0 : 0 ≤ a0 ∧ a0 ≤ 255) (h1 : 0 ≤ b0 ∧ b0 ≤ 255) (h2 : 0 ≤ b1 ∧ b1 ≤ 255) (h3 : 0 ≤ c0 ∧ c0 ≤ 255) (ex : a0 % 4 = Int.ofNat x) (ea : b0 % 4 = Int.ofNat a) (eb : b1 % 4 = Int.ofNat b) (el : c0 % 6 = Int.ofNat l)
    {G : List (Nat × Obj)} : SymOk Tryz.prog ⟨fOf a0 b0 b1 c0, G⟩ (rulesI x a b l) := by
  have e2 : c0 % 2 = Int.ofNat (Nat.mod l 2) := by
    have h : Int.ofNat (Nat.mod l 2) = ((l % 2 : Nat) : Int) := rfl
    have h' : c0 % 6 = (l : Int) := el
    rw [h]; omega
  intro q hq t W
  simp only [rulesI, List.mem_cons, List.mem_nil_iff, or_false] at hq
  rcases hq with rfl | rfl | rfl | rfl | rfl
  · exact ⟨_, rem_ok t W a0 4 h0.1 h0.2 (by omega) (by omega), fun φ => by rw [ex]; exact .int _ _⟩
  · exact ⟨_, rem_ok t W b0 4 h1.1 h1.2 (by omega) (by omega), fun φ => by rw [ea]; exact .int _ _⟩
  · exact ⟨_, rem_ok t W b1 4 h2.1 h2.2 (by omega) (by omega), fun φ => by rw [eb]; exact .int _ _⟩
  · exact ⟨_, rem_ok t W c0 6 h3.1 h3.2 (by omega) (by omega), fun φ => by rw [el]; exact .int _ _⟩
  · exact ⟨_, rem_ok t W c0 2 h3.1 h3.2 (by omega) (by omega), fun φ => by rw [e2]; exact .int _ _⟩
/-- what the kernel ran -/
structure Runs : Prop extends Stages where
  cases : ∀ x a l : Nat, x < 4 → a < 4 → l < 6 → caseI x a l = true
theorem caseI_one {x a l : Nat} {t : T4 FnD TD} (h : andB (oneI t x a 0 l) (andB (oneI t x a 1 l) (andB (oneI t x a 2 l) (oneI t x a 3 l))) = true) (b : Nat) (hb : b < 4) : oneI t x a b l = true := by
  obtain ⟨h0, h⟩ := andB_true h
  obtain ⟨h1, h⟩ := andB_true h
  obtain ⟨h2, h3⟩ := andB_true h
  match b, hb with
  | 0, _ => exact h0
  | 1, _ => exact h1
  | 2, _ => exact h2
  | 3, _ => exact h3
  | b + 4, hb => omega
theorem walk (R : Runs) (a0 b0 b1 c0 : Int) (w0 : (Lit.int .u8 a0).wf = true) (w1 : (Lit.int .u8 b0).wf = true) (w2 : (Lit.int .u8 b1).wf = true) (w3 : (Lit.int .u8 c0).wf = true) {W : World} (hF : Facts W) :
    Calls Tryz.prog 4 #[.int .u8 a0, .agg #[.int .u8 b0, .int .u8 b1], .int .u8 c0] W fun e w' => e = .returned (.bool true) ∧ Below W.heap.size W w' := by
  have hh : ∀ n : Int, (Lit.int .u8 n).wf = true → 0 ≤ n ∧ n ≤ 255 := fun n w => by simpa [Lit.wf, IntKind.min, IntKind.max, IntKind.signed, IntKind.bits] using w
  have h0 := hh a0 w0
  have h1 := hh b0 w1
  have h2 := hh b1 w2
  have h3 := hh c0 w3
  obtain ⟨x, ex⟩ : ∃ x : Nat, a0 % 4 = (x : Int) := ⟨(a0 % 4).toNat, by omega⟩
  obtain ⟨a, ea⟩ : ∃ x : Nat, b0 % 4 = (x : Int) := ⟨(b0 % 4).toNat, by omega⟩
  obtain ⟨b, eb⟩ : ∃ x : Nat, b1 % 4 = (x : Int) := ⟨(b1 % 4).toNat, by omega⟩
  obtain ⟨l, el⟩ : ∃ x : Nat, c0 % 6 = (x : Int) := ⟨(c0 % 6).toNat, by omega⟩
  obtain ⟨G, g1, g2, g3, g4⟩ := nu_of hF
  have tF := tabF_ok (g2 (fOf a0 b0 b1 c0)) (g3 (fOf a0 b0 b1 c0)) g4 R.toStages
  obtain ⟨t', ht', h⟩ := mkTblZ_true noNG sym_nil (splitOk (g3 (fOf a0 b0 b1 c0))) fnsC_ok tF (R.cases x a l (by omega) (by omega) (by omega))
  have h' := caseI_one h b (by omega)
  obtain ⟨t2, ht2, hr⟩ := mkTblZ_true noNG (sym_i h0 h1 h2 h3 ex ea eb el) (splitOk (g3 (fOf a0 b0 b1 c0))) fnsR_ok ht' h'
  refine run_said ht2 g4 g1 (vs := [.int .u8 a0, .agg #[.int .u8 b0, .int .u8 b1], .int .u8 c0]) (.cons (VR.sym .u8 0) (.cons (VR.agg (.cons (VR.sym .u8 1) (.cons (VR.sym .u8 2) .nil)) ?_) (.cons (VR.sym .u8 3) .nil))) hr
  intro v hv
  simp only [List.mem_cons, List.mem_nil_iff, or_false] at hv
  rcases hv with rfl | rfl <;> rfl
end Go.Proofs.YtgadddljaneilaaGreatDoor
