/-
  What the function gives in a world that holds the listed tables: true; the closed runs are hypotheses here.
-/
import Derived.Test.YtkghfmfciekbdaaGreatDoorTabsOk
import Derived.Clock
import Derived.Stop.LaidErr
set_option linter.unusedVariables false
set_option linter.unusedSimpArgs false
namespace Go.Proofs.YtkghfmfciekbdaaGreatDoor
open Go Go.Abs
set_option maxRecDepth 100000
set_option maxHeartbeats 0
open Go.RowKit (Below)
theorem rem_ok (t : TypeId) (w : World) (x c : Int) (hx : 0 ≤ x) (hx2 : x ≤ 255) (hc : 0 < c) (hc2 : c ≤ 255) : (binOp .rem t (.int .u8 x) (.int .u8 c)).run Tryz.prog w = .ok (.int .u8 (x % c)) w := by
  have h1 : ¬ (c = 0) := by omega
  simp [binOp, Op.intDiv, h1, Int.tmod_eq_emod_of_nonneg hx]
theorem quo_ok (t : TypeId) (w : World) (x c : Int) (hx : 0 ≤ x) (hx2 : x ≤ 255) (hc : 0 < c) (hc2 : c ≤ 255) : (binOp .quo t (.int .u8 x) (.int .u8 c)).run Tryz.prog w = .ok (.int .u8 (x / c)) w := by
  have h1 : ¬ (c = 0) := by omega
  have h2 : 0 ≤ x / c := Int.ediv_nonneg hx (by omega)
  have h3 : x / c ≤ x := Int.ediv_le_self c hx
  have h4 : IntKind.u8.wrap (x / c) = x / c := Go.Abs.wrap_small IntKind.u8 _ (by simp [loK]; omega) (by simp [hiK]; omega)
  simp [binOp, Op.intDiv, h1, Int.tdiv_eq_ediv_of_nonneg hx, h4]
theorem sym_nil {ν : Nu} : SymOk Tryz.prog ν [] := fun q hq => by cases hq

/-! ### what the world holds -/
theorem shaped_at {W : World} (h : W.ShapedOpen Tryz.prog) (g : Nat) (t : TypeId) (hg : g < Tryz.prog.globals.size) (h0 : (((begin Tryz.prog (fun _ _ => 0) default).world.heap[g]?).bind Obj.row?).map (·.2) = some t) :
    ∃ cs, W.heap[g]? = some (.cells cs t) := by
  obtain ⟨⟨zero, t'⟩, hz, rfl⟩ := Option.map_eq_some_iff.1 h0
  obtain ⟨cs, hc, _⟩ := h.1 g zero t' hg hz
  exact ⟨cs, hc⟩
theorem obj_of {W : World} {name : String} {g : Nat} {k : IntKind} {zs : List Int} {cs : Array Value} {t : TypeId} {fr : Nat × Nat} (hn : Tryz.prog.globalNamed name = some g) (hh : W.heap[g]? = some (.cells cs t fr)) (hT : Lib.TabIs Tryz.prog W name k zs) :
    cs = (zs.map fun z => Value.int k z).toArray := by
  unfold Lib.TabIs World.var? at hT
  rw [hn] at hT
  simpa [hh] using hT
/-- the blocks that the run reads -/
structure Facts (W : World) : Prop where
  gA : ∃ fr, W.heap[0]? = some (.cells (Lib.asciiSpaceTab.map fun z => Value.int .u8 z).toArray 94 fr)
  gM : ∃ m fr, W.heap[3]? = some (.cells #[.int .i64 m] 3 fr)
  t0 : ∃ fr, W.heap[6]? = some ((⟨6, gU [36, 43, 45], 443⟩ : Gl).obj fr)
  t1 : ∃ fr, W.heap[7]? = some ((⟨7, gU [63, 15, 63, 15, 61, 61], 479⟩ : Gl).obj fr)
  t2 : ∃ fr, W.heap[2]? = some ((⟨2, [.t [84, 82, 85, 78, 67, 65, 84, 73, 79, 78], .t [78, 69, 65, 82, 69, 83, 84, 45, 65, 87, 65, 89, 45, 70, 82, 79, 77, 45, 90, 69, 82, 79], .t [78, 69, 65, 82, 69, 83, 84, 45, 69, 86, 69, 78], .t [78, 69, 65, 82, 69, 83, 84, 45, 84, 79, 87, 65, 82, 68, 45, 90, 69, 82, 79], .t [65, 87, 65, 89, 45, 70, 82, 79, 77, 45, 90, 69, 82, 79], .t [84, 79, 87, 65, 82, 68, 45, 71, 82, 69, 65, 84, 69, 82], .t [84, 79, 87, 65, 82, 68, 45, 76, 69, 83, 83, 69, 82], .t [80, 82, 79, 72, 73, 66, 73, 84, 69, 68]], 184⟩ : Gl).obj fr)
  t3 : ∃ fr, W.heap[0]? = some ((⟨0, gU [0, 0, 0, 0, 0, 0, 0, 0, 0, 1, 1, 1, 1, 1, 0, 0, 0, 0, 0, 0, 0, 0, 0, 0, 0, 0, 0, 0, 0, 0, 0, 0, 1, 0, 0, 0, 0, 0, 0, 0, 0, 0, 0, 0, 0, 0, 0, 0, 0, 0, 0, 0, 0, 0, 0, 0, 0, 0, 0, 0, 0, 0, 0, 0, 0, 0, 0, 0, 0, 0, 0, 0, 0, 0, 0, 0, 0, 0, 0, 0, 0, 0, 0, 0, 0, 0, 0, 0, 0, 0, 0, 0, 0, 0, 0, 0, 0, 0, 0, 0, 0, 0, 0, 0, 0, 0, 0, 0, 0, 0, 0, 0, 0, 0, 0, 0, 0, 0, 0, 0, 0, 0, 0, 0, 0, 0, 0, 0, 0, 0, 0, 0, 0, 0, 0, 0, 0, 0, 0, 0, 0, 0, 0, 0, 0, 0, 0, 0, 0, 0, 0, 0, 0, 0, 0, 0, 0, 0, 0, 0, 0, 0, 0, 0, 0, 0, 0, 0, 0, 0, 0, 0, 0, 0, 0, 0, 0, 0, 0, 0, 0, 0, 0, 0, 0, 0, 0, 0, 0, 0, 0, 0, 0, 0, 0, 0, 0, 0, 0, 0, 0, 0, 0, 0, 0, 0, 0, 0, 0, 0, 0, 0, 0, 0, 0, 0, 0, 0, 0, 0, 0, 0, 0, 0, 0, 0, 0, 0, 0, 0, 0, 0, 0, 0, 0, 0, 0, 0, 0, 0, 0, 0, 0, 0, 0, 0, 0, 0, 0, 0, 0, 0, 0, 0, 0, 0], 94⟩ : Gl).obj fr)
theorem named0 : Tryz.prog.globalNamed "strings.asciiSpace" = some 0 := by kernel_rfl
theorem globsW : Tryz.prog.globals.size = 15 := by kernel_rfl
theorem nu_of {W : World} (hF : Facts W) (X : List (Nat × Obj)) (hX : ∀ b o, (b, o) ∈ X → W.heap[b]? = some o) : ∃ G : List (Nat × Obj), (∀ b o, (b, o) ∈ G → W.heap[b]? = some o) ∧ (∀ f V, TabCell Tryz.prog ⟨f, G, V⟩ "strings.asciiSpace" .u8 Lib.asciiSpaceTab) ∧ (∀ f V, IntCell ⟨f, G, V⟩ 3) ∧
    (∀ q ∈ gls, ∃ fr, (q.g, q.obj fr) ∈ G) ∧ ∀ q ∈ X, q ∈ G := by
  obtain ⟨⟨f0, h0⟩, ⟨m, f3, h3⟩, ⟨e0, k0⟩, ⟨e1, k1⟩, ⟨e2, k2⟩, ⟨e3, k3⟩⟩ := hF
  refine ⟨(0, Obj.cells (Lib.asciiSpaceTab.map fun z => Value.int .u8 z).toArray 94 f0) :: (3, Obj.cells #[.int .i64 m] 3 f3) :: (6, (⟨6, gU [36, 43, 45], 443⟩ : Gl).obj e0) :: (7, (⟨7, gU [63, 15, 63, 15, 61, 61], 479⟩ : Gl).obj e1) :: (2, (⟨2, [.t [84, 82, 85, 78, 67, 65, 84, 73, 79, 78], .t [78, 69, 65, 82, 69, 83, 84, 45, 65, 87, 65, 89, 45, 70, 82, 79, 77, 45, 90, 69, 82, 79], .t [78, 69, 65, 82, 69, 83, 84, 45, 69, 86, 69, 78], .t [78, 69, 65, 82, 69, 83, 84, 45, 84, 79, 87, 65, 82, 68, 45, 90, 69, 82, 79], .t [65, 87, 65, 89, 45, 70, 82, 79, 77, 45, 90, 69, 82, 79], .t [84, 79, 87, 65, 82, 68, 45, 71, 82, 69, 65, 84, 69, 82], .t [84, 79, 87, 65, 82, 68, 45, 76, 69, 83, 83, 69, 82], .t [80, 82, 79, 72, 73, 66, 73, 84, 69, 68]], 184⟩ : Gl).obj e2) :: (0, (⟨0, gU [0, 0, 0, 0, 0, 0, 0, 0, 0, 1, 1, 1, 1, 1, 0, 0, 0, 0, 0, 0, 0, 0, 0, 0, 0, 0, 0, 0, 0, 0, 0, 0, 1, 0, 0, 0, 0, 0, 0, 0, 0, 0, 0, 0, 0, 0, 0, 0, 0, 0, 0, 0, 0, 0, 0, 0, 0, 0, 0, 0, 0, 0, 0, 0, 0, 0, 0, 0, 0, 0, 0, 0, 0, 0, 0, 0, 0, 0, 0, 0, 0, 0, 0, 0, 0, 0, 0, 0, 0, 0, 0, 0, 0, 0, 0, 0, 0, 0, 0, 0, 0, 0, 0, 0, 0, 0, 0, 0, 0, 0, 0, 0, 0, 0, 0, 0, 0, 0, 0, 0, 0, 0, 0, 0, 0, 0, 0, 0, 0, 0, 0, 0, 0, 0, 0, 0, 0, 0, 0, 0, 0, 0, 0, 0, 0, 0, 0, 0, 0, 0, 0, 0, 0, 0, 0, 0, 0, 0, 0, 0, 0, 0, 0, 0, 0, 0, 0, 0, 0, 0, 0, 0, 0, 0, 0, 0, 0, 0, 0, 0, 0, 0, 0, 0, 0, 0, 0, 0, 0, 0, 0, 0, 0, 0, 0, 0, 0, 0, 0, 0, 0, 0, 0, 0, 0, 0, 0, 0, 0, 0, 0, 0, 0, 0, 0, 0, 0, 0, 0, 0, 0, 0, 0, 0, 0, 0, 0, 0, 0, 0, 0, 0, 0, 0, 0, 0, 0, 0, 0, 0, 0, 0, 0, 0, 0, 0, 0, 0, 0, 0, 0, 0, 0, 0, 0, 0], 94⟩ : Gl).obj e3) :: X, fun b o hb => ?_, fun f _ => ⟨0, 94, f0, named0, ?_⟩, fun f _ => ⟨m, 3, f3, ?_⟩, fun q hq => ?_, fun q hq => List.mem_cons_of_mem _ (List.mem_cons_of_mem _ (List.mem_cons_of_mem _ (List.mem_cons_of_mem _ (List.mem_cons_of_mem _ (List.mem_cons_of_mem _ hq)))))⟩
  rotate_left
  · exact List.mem_cons_self
  · exact List.mem_cons_of_mem _ List.mem_cons_self
  · simp only [gls, List.mem_cons, List.mem_nil_iff, or_false] at hq
    rcases hq with rfl | rfl | rfl | rfl
    · exact ⟨e0, List.mem_cons_of_mem _ (List.mem_cons_of_mem _ (List.mem_cons_self))⟩
    · exact ⟨e1, List.mem_cons_of_mem _ (List.mem_cons_of_mem _ (List.mem_cons_of_mem _ (List.mem_cons_self)))⟩
    · exact ⟨e2, List.mem_cons_of_mem _ (List.mem_cons_of_mem _ (List.mem_cons_of_mem _ (List.mem_cons_of_mem _ (List.mem_cons_self))))⟩
    · exact ⟨e3, List.mem_cons_of_mem _ (List.mem_cons_of_mem _ (List.mem_cons_of_mem _ (List.mem_cons_of_mem _ (List.mem_cons_of_mem _ (List.mem_cons_self)))))⟩
  · simp only [List.mem_cons, Prod.mk.injEq] at hb
    rcases hb with ⟨rfl, rfl⟩ | ⟨rfl, rfl⟩ | ⟨rfl, rfl⟩ | ⟨rfl, rfl⟩ | ⟨rfl, rfl⟩ | ⟨rfl, rfl⟩ | hb
    · exact h0
    · exact h3
    · exact k0
    · exact k1
    · exact k2
    · exact k3
    · exact hX b o hb
theorem hs_HR {ν : Nu} (hG : ∀ q ∈ gls, ∃ fr, (q.g, q.obj fr) ∈ ν.G) {w : World} (hw : ∀ b o, (b, o) ∈ ν.G → w.heap[b]? = some o) : HR (phiOf gls) ν hs w := by
  refine h0_HR (by decide) ?_ ?_ ?_ ?_ hG hw
  · intro q hq; simp only [gls, List.mem_cons, List.mem_nil_iff, or_false] at hq; rcases hq with rfl | rfl | rfl | rfl <;> decide
  · intro q hq; simp only [gls, List.mem_cons, List.mem_nil_iff, or_false] at hq; rcases hq with rfl | rfl | rfl | rfl <;> decide
  · decide +kernel
  · intro g hg
    unfold gver at hg
    cases hb0 : Nat.beq g 6 with
    | true =>
      have e := Nat.eq_of_beq_eq_true hb0
      subst e
      exact ⟨⟨6, gU [36, 43, 45], 443⟩, by simp [gls], rfl, rfl⟩
    | false =>
      first | rw [hb0, cond_false] at hg | rw [cond_false] at hg
      cases hb1 : Nat.beq g 7 with
      | true =>
        have e := Nat.eq_of_beq_eq_true hb1
        subst e
        exact ⟨⟨7, gU [63, 15, 63, 15, 61, 61], 479⟩, by simp [gls], rfl, rfl⟩
      | false =>
        first | rw [hb1, cond_false] at hg | rw [cond_false] at hg
        cases hb2 : Nat.beq g 2 with
        | true =>
          have e := Nat.eq_of_beq_eq_true hb2
          subst e
          exact ⟨⟨2, [.t [84, 82, 85, 78, 67, 65, 84, 73, 79, 78], .t [78, 69, 65, 82, 69, 83, 84, 45, 65, 87, 65, 89, 45, 70, 82, 79, 77, 45, 90, 69, 82, 79], .t [78, 69, 65, 82, 69, 83, 84, 45, 69, 86, 69, 78], .t [78, 69, 65, 82, 69, 83, 84, 45, 84, 79, 87, 65, 82, 68, 45, 90, 69, 82, 79], .t [65, 87, 65, 89, 45, 70, 82, 79, 77, 45, 90, 69, 82, 79], .t [84, 79, 87, 65, 82, 68, 45, 71, 82, 69, 65, 84, 69, 82], .t [84, 79, 87, 65, 82, 68, 45, 76, 69, 83, 83, 69, 82], .t [80, 82, 79, 72, 73, 66, 73, 84, 69, 68]], 184⟩, by simp [gls], rfl, rfl⟩
        | false =>
          first | rw [hb2, cond_false] at hg | rw [cond_false] at hg
          cases hb3 : Nat.beq g 0 with
          | true =>
            have e := Nat.eq_of_beq_eq_true hb3
            subst e
            exact ⟨⟨0, gU [0, 0, 0, 0, 0, 0, 0, 0, 0, 1, 1, 1, 1, 1, 0, 0, 0, 0, 0, 0, 0, 0, 0, 0, 0, 0, 0, 0, 0, 0, 0, 0, 1, 0, 0, 0, 0, 0, 0, 0, 0, 0, 0, 0, 0, 0, 0, 0, 0, 0, 0, 0, 0, 0, 0, 0, 0, 0, 0, 0, 0, 0, 0, 0, 0, 0, 0, 0, 0, 0, 0, 0, 0, 0, 0, 0, 0, 0, 0, 0, 0, 0, 0, 0, 0, 0, 0, 0, 0, 0, 0, 0, 0, 0, 0, 0, 0, 0, 0, 0, 0, 0, 0, 0, 0, 0, 0, 0, 0, 0, 0, 0, 0, 0, 0, 0, 0, 0, 0, 0, 0, 0, 0, 0, 0, 0, 0, 0, 0, 0, 0, 0, 0, 0, 0, 0, 0, 0, 0, 0, 0, 0, 0, 0, 0, 0, 0, 0, 0, 0, 0, 0, 0, 0, 0, 0, 0, 0, 0, 0, 0, 0, 0, 0, 0, 0, 0, 0, 0, 0, 0, 0, 0, 0, 0, 0, 0, 0, 0, 0, 0, 0, 0, 0, 0, 0, 0, 0, 0, 0, 0, 0, 0, 0, 0, 0, 0, 0, 0, 0, 0, 0, 0, 0, 0, 0, 0, 0, 0, 0, 0, 0, 0, 0, 0, 0, 0, 0, 0, 0, 0, 0, 0, 0, 0, 0, 0, 0, 0, 0, 0, 0, 0, 0, 0, 0, 0, 0, 0, 0, 0, 0, 0, 0, 0, 0, 0, 0, 0, 0, 0, 0, 0, 0, 0, 0], 94⟩, by simp [gls], rfl, rfl⟩
          | false =>
            first | rw [hb3, cond_false] at hg | rw [cond_false] at hg
            exact absurd hg (Nat.lt_irrefl 0)
theorem phi_lim : ∀ id ver p, phiOf gls id ver = some p → id < hs.ro.lim := by
  intro id ver p h
  obtain ⟨q, hq, h1, _, _⟩ := phiOf_some h
  simp only [gls, List.mem_cons, List.mem_nil_iff, or_false] at hq
  show id < 16
  rw [← h1]
  rcases hq with rfl | rfl | rfl | rfl <;> decide
theorem phi_in {ν : Nu} (hG : ∀ q ∈ gls, ∃ fr, (q.g, q.obj fr) ∈ ν.G) : ∀ id ver p, phiOf gls id ver = some p → ∃ o, (p.blk, o) ∈ ν.G := by
  intro id ver p h
  obtain ⟨q, hq, h1, h2, rfl⟩ := phiOf_some h
  obtain ⟨fr, hm⟩ := hG q hq
  exact ⟨_, hm⟩

/-! ### the runs, put to use -/
/-- what the kernel ran, but for the cases -/
structure Stages : Prop where
  words : runW = true
  s2_true : run2_true = true
theorem tab1_ok {ν : Nu} (ht : TblOk Tryz.prog ν tab0) (h3 : IntCell ν 3) (hG : ∀ q ∈ gls, ∃ fr, (q.g, q.obj fr) ∈ ν.G) (R : Stages) : TblOk Tryz.prog ν tab1 := by
  obtain ⟨t', ht', h⟩ := mkTblZ_true noNG sym_nil (splitOk h3) fnsW_ok ht R.words
  unfold tab1
  exact ht.set (f := 201) (by omega) (FnGood.closed_map ht' h (fun w hw => hs_HR hG hw) phi_lim)
theorem tab2_ok {ν : Nu} (ht : TblOk Tryz.prog ν tab1) (h3 : IntCell ν 3) (hG : ∀ q ∈ gls, ∃ fr, (q.g, q.obj fr) ∈ ν.G) (R : Stages) : TblOk Tryz.prog ν tab2 := by
  obtain ⟨t', ht', h⟩ := mkTblZ_true noNG sym_nil (splitOk h3) fnsL_ok ht R.s2_true
  unfold tab2
  exact ht.set (f := 4) (by omega) (FnGood.closed_true ht' h (fun w hw => hs_HR hG hw) phi_lim)
theorem tabF_ok {ν : Nu} (h0 : TabCell Tryz.prog ν "strings.asciiSpace" .u8 Lib.asciiSpaceTab) (h3 : IntCell ν 3) (hG : ∀ q ∈ gls, ∃ fr, (q.g, q.obj fr) ∈ ν.G) (R : Stages) : TblOk Tryz.prog ν tab2 :=
  (tab2_ok (tab1_ok (tab0_ok h0 h3) h3 hG R) h3 hG R)
/-- a run by a table that is good, put to use -/
theorem run_said {f : Nat → Int} {G : List (Nat × Obj)} {V : Nat → Value} {t : T4 FnD TD} (ht : TblOk Tryz.prog ⟨f, G, V⟩ t) (g4 : ∀ q ∈ gls, ∃ fr, (q.g, q.obj fr) ∈ G) {W : World} (g1 : ∀ b o, (b, o) ∈ G → W.heap[b]? = some o) {avs : List AV} {vs : List Value} (hv : VRs (phiOf gls) ⟨f, G, V⟩ avs vs)
    (h : runF t 60 3 avs hs isTrueK (fun _ _ => false) = true) : Calls Tryz.prog 3 vs.toArray W fun e w' => e = .returned (.bool true) ∧ Below W.heap.size W w' := by
  have hr := hs_HR (ν := ⟨f, G, V⟩) g4 (w := W) g1
  have hco := runF_ok ht 60 3 _ hs isTrueK (fun _ _ => false) h (phiOf gls) W vs hr hv
  have key : ∀ e w', FPost (phiOf gls) ⟨f, G, V⟩ hs.ro W hs.ds isTrueK (fun _ _ => false) e w' → e = .returned (.bool true) ∧ Below W.heap.size W w' := by
    intro e w' hp
    cases e with
    | returned x =>
      obtain ⟨φ', av, h', hvr, hr', hx, _, _, hav⟩ := hp
      obtain ⟨b, e2, hb2⟩ := vBool_true (show vBool av (fun b => b) = true from hav)
      subst e2 hb2
      cases hvr
      exact ⟨rfl, below_of_ext hx phi_lim⟩
    | panicked chain =>
      obtain ⟨φ', av, h', v, _, _, _, _, _, _, hav⟩ := hp
      cases hav
    | outgrown => exact hp.elim
  rcases hco with ⟨_, h2⟩ | ⟨x, w', h2, _⟩
  · exact h2.mono key
  · exfalso
    have hb : hasBody Tryz.prog 3 = true := by kernel_rfl
    rw [hasBody_true hb] at h2
    cases h2
end Go.Proofs.YtkghfmfciekbdaaGreatDoor
