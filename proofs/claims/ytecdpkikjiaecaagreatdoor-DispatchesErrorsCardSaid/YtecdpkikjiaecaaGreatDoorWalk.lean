/-
  What the function gives in a world that holds the listed tables: true; the closed runs are hypotheses here.
-/
import Derived.Test.YtecdpkikjiaecaaGreatDoorTabsOk
import Derived.Clock
import Derived.Stop.LaidErr
set_option linter.unusedVariables false
set_option linter.unusedSimpArgs false
namespace Go.Proofs.YtecdpkikjiaecaaGreatDoor
open Go Go.Abs
set_option maxRecDepth 100000
set_option maxHeartbeats 0
def fOf (a0 a1 : Int) : Nat → Int := fun s => if s = 0 then a0 else a1
open Go.RowKit (Below)
theorem rem_ok (t : TypeId) (w : World) (x c : Int) (hx : 0 ≤ x) (hx2 : x ≤ 255) (hc : 0 < c) (hc2 : c ≤ 255) : (binOp .rem t (.int .u8 x) (.int .u8 c)).run Tryz.prog w = .ok (.int .u8 (x % c)) w := by
  have h1 : ¬ (c = 0) := by omega
  simp [binOp, Op.intDiv, h1, Int.tmod_eq_emod_of_nonneg hx]
theorem quo_ok (t : TypeId) (w : World) (x c : Int) (hx : 0 ≤ x) (hx2 : x ≤ 255) (hc : 0 < c) (hc2 : c ≤ 255) : (binOp .quo t (.int .u8 x) (.int .u8 c)).run Tryz.prog w = .ok (.int .u8 (x / c)) w := by
  have h1 : ¬ (c = 0) := by omega
  have h2 : 0 ≤ x / c := Int.ediv_nonneg hx (by omega)
  have h3 : x / c ≤ x := Int.ediv_le_self c hx
  have h4 : IntKind.u8.wrap (x / c) = x / c := Go.Abs.wrap_small IntKind.u8 _ (by simp [loK]; omega) (by simp [hiK]; omega)
  simp [binOp, Op.intDiv, h1, Int.tdiv_eq_ediv_of_nonneg hx, h4]
theorem sym_nil {ν : Nu} : SymOk Tryz.prog ν [] := fun q hq => by cases hq

/-! ### what the world holds -/
theorem shaped_at {W : World} (h : W.ShapedOpen Tryz.prog) (g : Nat) (t : TypeId) (hg : g < Tryz.prog.globals.size) (h0 : (((begin Tryz.prog (fun _ _ => 0) default).world.heap[g]?).bind Obj.row?).map (·.2) = some t) :
    ∃ cs, W.heap[g]? = some (.cells cs t) := by
  obtain ⟨⟨zero, t'⟩, hz, rfl⟩ := Option.map_eq_some_iff.1 h0
  obtain ⟨cs, hc, _⟩ := h.1 g zero t' hg hz
  exact ⟨cs, hc⟩
theorem obj_of {W : World} {name : String} {g : Nat} {k : IntKind} {zs : List Int} {cs : Array Value} {t : TypeId} {fr : Nat × Nat} (hn : Tryz.prog.globalNamed name = some g) (hh : W.heap[g]? = some (.cells cs t fr)) (hT : Lib.TabIs Tryz.prog W name k zs) :
    cs = (zs.map fun z => Value.int k z).toArray := by
  unfold Lib.TabIs World.var? at hT
  rw [hn] at hT
  simpa [hh] using hT
/-- the blocks that the run reads -/
structure Facts (W : World) : Prop where
  g0 : ∃ fr, W.heap[0]? = some (.cells (Lib.asciiSpaceTab.map fun z => Value.int .u8 z).toArray 271 fr)
  g3 : ∃ m fr, W.heap[3]? = some (.cells #[.int .i64 m] 3 fr)
  g8 : ∃ fr, W.heap[4]? = some ((⟨4, [36, 43, 45], 712⟩ : Gl).obj fr)
theorem named0 : Tryz.prog.globalNamed "strings.asciiSpace" = some 0 := by kernel_rfl
theorem globsW : Tryz.prog.globals.size = 15 := by kernel_rfl
theorem nu_of {W : World} (hF : Facts W) : ∃ G : List (Nat × Obj), (∀ b o, (b, o) ∈ G → W.heap[b]? = some o) ∧ (∀ f, TabCell Tryz.prog ⟨f, G⟩ "strings.asciiSpace" .u8 Lib.asciiSpaceTab) ∧ (∀ f, IntCell ⟨f, G⟩ 3) ∧
    ∀ q ∈ gls, ∃ fr, (q.g, q.obj fr) ∈ G := by
  obtain ⟨⟨f0, h0⟩, ⟨m, f3, h3⟩, ⟨f8, h8⟩⟩ := hF
  refine ⟨[(0, Obj.cells (Lib.asciiSpaceTab.map fun z => Value.int .u8 z).toArray 271 f0), (3, Obj.cells #[.int .i64 m] 3 f3), (4, (⟨4, [36, 43, 45], 712⟩ : Gl).obj f8)], fun b o hb => ?_, fun f => ⟨0, 271, f0, named0, ?_⟩, fun f => ⟨m, 3, f3, ?_⟩, fun q hq => ?_⟩
  rotate_left
  · exact List.mem_cons_self
  · exact List.mem_cons_of_mem _ List.mem_cons_self
  · simp only [gls, List.mem_cons, List.mem_nil_iff, or_false] at hq
    subst hq
    exact ⟨f8, List.mem_cons_of_mem _ (List.mem_cons_of_mem _ List.mem_cons_self)⟩
  · simp only [List.mem_cons, List.mem_nil_iff, or_false, Prod.mk.injEq] at hb
    rcases hb with ⟨rfl, rfl⟩ | ⟨rfl, rfl⟩ | ⟨rfl, rfl⟩
    · exact h0
    · exact h3
    · exact h8
theorem hs_HR {ν : Nu} (hG : ∀ q ∈ gls, ∃ fr, (q.g, q.obj fr) ∈ ν.G) {w : World} (hw : ∀ b o, (b, o) ∈ ν.G → w.heap[b]? = some o) : HR (phiOf gls) ν hs w := by
  refine h0_HR (by decide) ?_ ?_ ?_ ?_ hG hw
  · intro q hq; simp only [gls, List.mem_cons, List.mem_nil_iff, or_false] at hq; subst hq; decide
  · intro q hq; simp only [gls, List.mem_cons, List.mem_nil_iff, or_false] at hq; subst hq; decide
  · simp [gls]
  · intro g hg
    unfold gver at hg
    cases hb : Nat.beq g 4 with
    | false => rw [hb] at hg; exact absurd hg (by simp)
    | true =>
      have := Nat.eq_of_beq_eq_true hb
      subst this
      exact ⟨⟨4, [36, 43, 45], 712⟩, by simp [gls], rfl, rfl⟩
theorem phi_lim : ∀ id ver p, phiOf gls id ver = some p → id < hs.ro.lim := by
  intro id ver p h
  obtain ⟨q, hq, h1, _, _⟩ := phiOf_some h
  simp only [gls, List.mem_cons, List.mem_nil_iff, or_false] at hq
  subst hq
  show id < 16
  rw [← h1]; decide

/-! ### the runs, put to use -/
theorem tab1_ok {ν : Nu} (ht : TblOk Tryz.prog ν tab0) (h3 : IntCell ν 3) (hG : ∀ q ∈ gls, ∃ fr, (q.g, q.obj fr) ∈ ν.G) (hrun : mkTblZ Tryz.prog [] (668, 270) 77 fnsW tab0 (fun t => runF t 50 540 [] hs (isMapK wordsMs wordsClock) (fun _ _ => false)) = true) : TblOk Tryz.prog ν tab1 := by
  obtain ⟨t', ht', h⟩ := mkTblZ_true noNG sym_nil (splitOk h3) fnsW_ok ht hrun
  unfold tab1
  exact ht.set (f := 540) (by omega) (FnGood.closed_map ht' h (fun w hw => hs_HR hG hw) phi_lim)
theorem tab2_ok {ν : Nu} (ht : TblOk Tryz.prog ν tab1) (h3 : IntCell ν 3) (hG : ∀ q ∈ gls, ∃ fr, (q.g, q.obj fr) ∈ ν.G) (hrun : mkTblZ Tryz.prog [] (668, 270) 77 fnsL tab1 (fun t => runF t 60 10 [] hs isTrueK (fun _ _ => false)) = true) : TblOk Tryz.prog ν tab2 := by
  obtain ⟨t', ht', h⟩ := mkTblZ_true noNG sym_nil (splitOk h3) fnsL_ok ht hrun
  unfold tab2
  exact ht.set (f := 10) (by omega) (FnGood.closed_true ht' h (fun w hw => hs_HR hG hw) phi_lim)
theorem rules_walk {a0 a1 : Int} {S : List Rule} {l : List FnE} (hl : FnsOkZ Tryz.prog l) (hS : ∀ G, SymOk Tryz.prog ⟨fOf a0 a1, G⟩ S) (hc : mkTblZ Tryz.prog S (668, 270) 77 l tab2 (fun t => runF t 60 3 [.sym .u8 0, .sym .u8 1] hs isTrueK (fun _ _ => false)) = true)
    (hwords : mkTblZ Tryz.prog [] (668, 270) 77 fnsW tab0 (fun t => runF t 50 540 [] hs (isMapK wordsMs wordsClock) (fun _ _ => false)) = true) (hlives : mkTblZ Tryz.prog [] (668, 270) 77 fnsL tab1 (fun t => runF t 60 10 [] hs isTrueK (fun _ _ => false)) = true) {W : World} (hF : Facts W) :
    Calls Tryz.prog 3 #[.int .u8 a0, .int .u8 a1] W fun e w' => e = .returned (.bool true) ∧ Below W.heap.size W w' := by
  obtain ⟨G, g1, g2, g3, g4⟩ := nu_of hF
  have t0 := tab0_ok (g2 (fOf a0 a1)) (g3 (fOf a0 a1))
  have t1 := tab1_ok t0 (g3 (fOf a0 a1)) g4 hwords
  have t2 := tab2_ok t1 (g3 (fOf a0 a1)) g4 hlives
  obtain ⟨t', ht', h⟩ := mkTblZ_true noNG (hS G) (splitOk (g3 (fOf a0 a1))) hl t2 hc
  have hr := hs_HR (ν := ⟨fOf a0 a1, G⟩) g4 (w := W) g1
  have hco := runF_ok ht' 60 3 _ hs isTrueK (fun _ _ => false) h (phiOf gls) W [.int .u8 a0, .int .u8 a1] hr (.cons (VR.sym .u8 0) (.cons (VR.sym .u8 1) .nil))
  have key : ∀ e w', FPost (phiOf gls) ⟨fOf a0 a1, G⟩ hs.ro W hs.ds isTrueK (fun _ _ => false) e w' → e = .returned (.bool true) ∧ Below W.heap.size W w' := by
    intro e w' hp
    cases e with
    | returned x =>
      obtain ⟨φ', av, h', hvr, hr', hx, _, _, hav⟩ := hp
      obtain ⟨b, e2, hb2⟩ := vBool_true (show vBool av (fun b => b) = true from hav)
      subst e2 hb2
      cases hvr
      exact ⟨rfl, below_of_ext hx phi_lim⟩
    | panicked chain =>
      obtain ⟨φ', av, h', v, _, _, _, _, _, _, hav⟩ := hp
      cases hav
    | outgrown => exact hp.elim
  rcases hco with ⟨_, h2⟩ | ⟨x, w', h2, _⟩
  · exact h2.mono key
  · exfalso
    have hb : hasBody Tryz.prog 3 = true := by kernel_rfl
    rw [hasBody_true hb] at h2
    cases h2
theorem sym_m {a0 a1 m : Int} (h0 : 0 ≤ a0 ∧ a0 ≤ 255) (hm : a0 % 4 = m) {G : List (Nat × Obj)} : SymOk Tryz.prog ⟨fOf a0 a1, G⟩ (rulesM m) := by
  intro q hq t W
  simp only [rulesM, List.mem_cons, List.mem_nil_iff, or_false] at hq
  subst hq
  exact ⟨_, rem_ok t W a0 4 h0.1 h0.2 (by omega) (by omega), fun φ => by rw [hm]; exact .int _ _⟩
theorem sym_z {a0 a1 b : Int} (h0 : 0 ≤ a0 ∧ a0 ≤ 255) (h1 : 0 ≤ a1 ∧ a1 ≤ 255) (hm : a0 % 4 = 0) (hb : a1 % 4 = b) {G : List (Nat × Obj)} : SymOk Tryz.prog ⟨fOf a0 a1, G⟩ (rulesZ b) := by
  intro q hq t W
  simp only [rulesZ, List.mem_cons, List.mem_nil_iff, or_false] at hq
  rcases hq with rfl | rfl
  · exact ⟨_, rem_ok t W a0 4 h0.1 h0.2 (by omega) (by omega), fun φ => by rw [hm]; exact .int _ _⟩
  · exact ⟨_, rem_ok t W a1 4 h1.1 h1.2 (by omega) (by omega), fun φ => by rw [hb]; exact .int _ _⟩
/-- what the kernel ran -/
structure Runs : Prop where
  words : mkTblZ Tryz.prog [] (668, 270) 77 fnsW tab0 (fun t => runF t 50 540 [] hs (isMapK wordsMs wordsClock) (fun _ _ => false)) = true
  lives : mkTblZ Tryz.prog [] (668, 270) 77 fnsL tab1 (fun t => runF t 60 10 [] hs isTrueK (fun _ _ => false)) = true
  zero : ∀ b : Nat, b < 4 → caseZ b = true
  more : ∀ m : Nat, 0 < m → m < 4 → caseM m = true
theorem walk (R : Runs) (a0 a1 : Int) (w0 : (Lit.int .u8 a0).wf = true) (w1 : (Lit.int .u8 a1).wf = true) {W : World} (hF : Facts W) :
    Calls Tryz.prog 3 #[.int .u8 a0, .int .u8 a1] W fun e w' => e = .returned (.bool true) ∧ Below W.heap.size W w' := by
  have h0 : 0 ≤ a0 ∧ a0 ≤ 255 := by simpa [Lit.wf, IntKind.min, IntKind.max, IntKind.signed, IntKind.bits] using w0
  have h1 : 0 ≤ a1 ∧ a1 ≤ 255 := by simpa [Lit.wf, IntKind.min, IntKind.max, IntKind.signed, IntKind.bits] using w1
  by_cases hz : a0 % 4 = 0
  · have e1 : a1 % 4 = ((a1 % 4).toNat : Int) := by omega
    exact rules_walk fnsC_ok (fun G => sym_z h0 h1 hz e1) (R.zero _ (by omega)) R.words R.lives hF
  · have e0 : a0 % 4 = ((a0 % 4).toNat : Int) := by omega
    exact rules_walk fnsD_ok (fun G => sym_m h0 e0) (R.more _ (by omega) (by omega)) R.words R.lives hF
end Go.Proofs.YtecdpkikjiaecaaGreatDoor
