/-
  What the function gives in a world that holds the listed tables: true; the closed runs are hypotheses here.
-/
import Derived.Test.YtjbibfedjhjdlaaGreatDoorETabsOk
import Derived.Clock
import Derived.Stop.LaidErr
import Derived.Test.YtjbibfedjhjdlaaGreatDoorEArg
set_option linter.unusedVariables false
set_option linter.unusedSimpArgs false
namespace Go.Proofs.YtjbibfedjhjdlaaGreatDoor
open Go Go.Abs
set_option maxRecDepth 100000
set_option maxHeartbeats 0
open Go.RowKit (Below)
theorem rem_ok (t : TypeId) (w : World) (x c : Int) (hx : 0 ≤ x) (hx2 : x ≤ 255) (hc : 0 < c) (hc2 : c ≤ 255) : (binOp .rem t (.int .u8 x) (.int .u8 c)).run Tryz.prog w = .ok (.int .u8 (x % c)) w := by
  have h1 : ¬ (c = 0) := by omega
  simp [binOp, Op.intDiv, h1, Int.tmod_eq_emod_of_nonneg hx]
theorem quo_ok (t : TypeId) (w : World) (x c : Int) (hx : 0 ≤ x) (hx2 : x ≤ 255) (hc : 0 < c) (hc2 : c ≤ 255) : (binOp .quo t (.int .u8 x) (.int .u8 c)).run Tryz.prog w = .ok (.int .u8 (x / c)) w := by
  have h1 : ¬ (c = 0) := by omega
  have h2 : 0 ≤ x / c := Int.ediv_nonneg hx (by omega)
  have h3 : x / c ≤ x := Int.ediv_le_self c hx
  have h4 : IntKind.u8.wrap (x / c) = x / c := Go.Abs.wrap_small IntKind.u8 _ (by simp [loK]; omega) (by simp [hiK]; omega)
  simp [binOp, Op.intDiv, h1, Int.tdiv_eq_ediv_of_nonneg hx, h4]
theorem sym_nil {ν : Nu} : SymOk Tryz.prog ν [] := fun q hq => by cases hq

/-! ### what the world holds -/
theorem shaped_at {W : World} (h : W.ShapedOpen Tryz.prog) (g : Nat) (t : TypeId) (hg : g < Tryz.prog.globals.size) (h0 : (((begin Tryz.prog (fun _ _ => 0) default).world.heap[g]?).bind Obj.row?).map (·.2) = some t) :
    ∃ cs, W.heap[g]? = some (.cells cs t) := by
  obtain ⟨⟨zero, t'⟩, hz, rfl⟩ := Option.map_eq_some_iff.1 h0
  obtain ⟨cs, hc, _⟩ := h.1 g zero t' hg hz
  exact ⟨cs, hc⟩
theorem obj_of {W : World} {name : String} {g : Nat} {k : IntKind} {zs : List Int} {cs : Array Value} {t : TypeId} {fr : Nat × Nat} (hn : Tryz.prog.globalNamed name = some g) (hh : W.heap[g]? = some (.cells cs t fr)) (hT : Lib.TabIs Tryz.prog W name k zs) :
    cs = (zs.map fun z => Value.int k z).toArray := by
  unfold Lib.TabIs World.var? at hT
  rw [hn] at hT
  simpa [hh] using hT
/-- the blocks that the run reads -/
structure Facts (W : World) : Prop where
  gA : ∃ fr, W.heap[0]? = some (.cells (Lib.asciiSpaceTab.map fun z => Value.int .u8 z).toArray 196 fr)
  gM : ∃ m fr, W.heap[2]? = some (.cells #[.int .i64 m] 3 fr)
  t0 : ∃ fr, W.heap[6]? = some ((⟨6, [36, 43, 45], 649⟩ : Gl).obj fr)
  t1 : ∃ fr, W.heap[10]? = some ((⟨10, [63, 15, 63, 15, 61, 61], 763⟩ : Gl).obj fr)
theorem named0 : Tryz.prog.globalNamed "strings.asciiSpace" = some 0 := by kernel_rfl
theorem globsW : Tryz.prog.globals.size = 15 := by kernel_rfl
theorem nu_of {W : World} (hF : Facts W) (X : List (Nat × Obj)) (hX : ∀ b o, (b, o) ∈ X → W.heap[b]? = some o) : ∃ G : List (Nat × Obj), (∀ b o, (b, o) ∈ G → W.heap[b]? = some o) ∧ (∀ f V, TabCell Tryz.prog ⟨f, G, V⟩ "strings.asciiSpace" .u8 Lib.asciiSpaceTab) ∧ (∀ f V, IntCell ⟨f, G, V⟩ 2) ∧
    (∀ q ∈ gls, ∃ fr, (q.g, q.obj fr) ∈ G) ∧ ∀ q ∈ X, q ∈ G := by
  obtain ⟨⟨f0, h0⟩, ⟨m, f3, h3⟩, ⟨e0, k0⟩, ⟨e1, k1⟩⟩ := hF
  refine ⟨(0, Obj.cells (Lib.asciiSpaceTab.map fun z => Value.int .u8 z).toArray 196 f0) :: (2, Obj.cells #[.int .i64 m] 3 f3) :: (6, (⟨6, [36, 43, 45], 649⟩ : Gl).obj e0) :: (10, (⟨10, [63, 15, 63, 15, 61, 61], 763⟩ : Gl).obj e1) :: X, fun b o hb => ?_, fun f _ => ⟨0, 196, f0, named0, ?_⟩, fun f _ => ⟨m, 3, f3, ?_⟩, fun q hq => ?_, fun q hq => List.mem_cons_of_mem _ (List.mem_cons_of_mem _ (List.mem_cons_of_mem _ (List.mem_cons_of_mem _ hq)))⟩
  rotate_left
  · exact List.mem_cons_self
  · exact List.mem_cons_of_mem _ List.mem_cons_self
  · simp only [gls, List.mem_cons, List.mem_nil_iff, or_false] at hq
    rcases hq with rfl | rfl
    · exact ⟨e0, List.mem_cons_of_mem _ (List.mem_cons_of_mem _ (List.mem_cons_self))⟩
    · exact ⟨e1, List.mem_cons_of_mem _ (List.mem_cons_of_mem _ (List.mem_cons_of_mem _ (List.mem_cons_self)))⟩
  · simp only [List.mem_cons, Prod.mk.injEq] at hb
    rcases hb with ⟨rfl, rfl⟩ | ⟨rfl, rfl⟩ | ⟨rfl, rfl⟩ | ⟨rfl, rfl⟩ | hb
    · exact h0
    · exact h3
    · exact k0
    · exact k1
    · exact hX b o hb
theorem hs_HR {ν : Nu} (hG : ∀ q ∈ gls, ∃ fr, (q.g, q.obj fr) ∈ ν.G) {w : World} (hw : ∀ b o, (b, o) ∈ ν.G → w.heap[b]? = some o) : HR (phiOf gls) ν hs w := by
  refine h0_HR (by decide) ?_ ?_ ?_ ?_ hG hw
  · intro q hq; simp only [gls, List.mem_cons, List.mem_nil_iff, or_false] at hq; rcases hq with rfl | rfl <;> decide
  · intro q hq; simp only [gls, List.mem_cons, List.mem_nil_iff, or_false] at hq; rcases hq with rfl | rfl <;> decide
  · decide +kernel
  · intro g hg
    unfold gver at hg
    cases hb0 : Nat.beq g 6 with
    | true =>
      have e := Nat.eq_of_beq_eq_true hb0
      subst e
      exact ⟨⟨6, [36, 43, 45], 649⟩, by simp [gls], rfl, rfl⟩
    | false =>
      first | rw [hb0, cond_false] at hg | rw [cond_false] at hg
      cases hb1 : Nat.beq g 10 with
      | true =>
        have e := Nat.eq_of_beq_eq_true hb1
        subst e
        exact ⟨⟨10, [63, 15, 63, 15, 61, 61], 763⟩, by simp [gls], rfl, rfl⟩
      | false =>
        first | rw [hb1, cond_false] at hg | rw [cond_false] at hg
        exact absurd hg (Nat.lt_irrefl 0)
theorem phi_lim : ∀ id ver p, phiOf gls id ver = some p → id < hs.ro.lim := by
  intro id ver p h
  obtain ⟨q, hq, h1, _, _⟩ := phiOf_some h
  simp only [gls, List.mem_cons, List.mem_nil_iff, or_false] at hq
  show id < 16
  rw [← h1]
  rcases hq with rfl | rfl <;> decide
theorem phi_in {ν : Nu} (hG : ∀ q ∈ gls, ∃ fr, (q.g, q.obj fr) ∈ ν.G) : ∀ id ver p, phiOf gls id ver = some p → ∃ o, (p.blk, o) ∈ ν.G := by
  intro id ver p h
  obtain ⟨q, hq, h1, h2, rfl⟩ := phiOf_some h
  obtain ⟨fr, hm⟩ := hG q hq
  exact ⟨_, hm⟩

/-! ### the runs, put to use -/
/-- what the kernel ran, but for the cases -/
structure Stages : Prop where
  words : runW = true
  s2_true : run2_true = true
theorem tab1_ok {ν : Nu} (ht : TblOk Tryz.prog ν tab0) (h3 : IntCell ν 2) (hG : ∀ q ∈ gls, ∃ fr, (q.g, q.obj fr) ∈ ν.G) (R : Stages) : TblOk Tryz.prog ν tab1 := by
  obtain ⟨t', ht', h⟩ := mkTblZ_true noNG sym_nil (splitOk h3) fnsW_ok ht R.words
  unfold tab1
  exact ht.set (f := 477) (by omega) (FnGood.closed_map ht' h (fun w hw => hs_HR hG hw) phi_lim)
theorem tab2_ok {ν : Nu} (ht : TblOk Tryz.prog ν tab1) (h3 : IntCell ν 2) (hG : ∀ q ∈ gls, ∃ fr, (q.g, q.obj fr) ∈ ν.G) (R : Stages) : TblOk Tryz.prog ν tab2 := by
  obtain ⟨t', ht', h⟩ := mkTblZ_true noNG sym_nil (splitOk h3) fnsL_ok ht R.s2_true
  unfold tab2
  exact ht.set (f := 5) (by omega) (FnGood.closed_true ht' h (fun w hw => hs_HR hG hw) phi_lim)
theorem tabF_ok {ν : Nu} (h0 : TabCell Tryz.prog ν "strings.asciiSpace" .u8 Lib.asciiSpaceTab) (h3 : IntCell ν 2) (hG : ∀ q ∈ gls, ∃ fr, (q.g, q.obj fr) ∈ ν.G) (R : Stages) : TblOk Tryz.prog ν tab2 :=
  (tab2_ok (tab1_ok (tab0_ok h0 h3) h3 hG R) h3 hG R)
/-- a run by a table that is good, put to use -/
theorem run_said {f : Nat → Int} {G : List (Nat × Obj)} {V : Nat → Value} {t : T4 FnD TD} (ht : TblOk Tryz.prog ⟨f, G, V⟩ t) (g4 : ∀ q ∈ gls, ∃ fr, (q.g, q.obj fr) ∈ G) {W : World} (g1 : ∀ b o, (b, o) ∈ G → W.heap[b]? = some o) {avs : List AV} {vs : List Value} (hv : VRs (phiOf gls) ⟨f, G, V⟩ avs vs)
    (h : runF t 60 3 avs hs isTrueK (fun _ _ => false) = true) : Calls Tryz.prog 3 vs.toArray W fun e w' => e = .returned (.bool true) ∧ Below W.heap.size W w' := by
  have hr := hs_HR (ν := ⟨f, G, V⟩) g4 (w := W) g1
  have hco := runF_ok ht 60 3 _ hs isTrueK (fun _ _ => false) h (phiOf gls) W vs hr hv
  have key : ∀ e w', FPost (phiOf gls) ⟨f, G, V⟩ hs.ro W hs.ds isTrueK (fun _ _ => false) e w' → e = .returned (.bool true) ∧ Below W.heap.size W w' := by
    intro e w' hp
    cases e with
    | returned x =>
      obtain ⟨φ', av, h', hvr, hr', hx, _, _, hav⟩ := hp
      obtain ⟨b, e2, hb2⟩ := vBool_true (show vBool av (fun b => b) = true from hav)
      subst e2 hb2
      cases hvr
      exact ⟨rfl, below_of_ext hx phi_lim⟩
    | panicked chain =>
      obtain ⟨φ', av, h', v, _, _, _, _, _, _, hav⟩ := hp
      cases hav
    | outgrown => exact hp.elim
  rcases hco with ⟨_, h2⟩ | ⟨x, w', h2, _⟩
  · exact h2.mono key
  · exfalso
    have hb : hasBody Tryz.prog 3 = true := by kernel_rfl
    rw [hasBody_true hb] at h2
    cases h2
theorem inf_of {t n : Nat} (h : (Tryz.prog.info? t).map (·.size) = some n) : ∃ i, Tryz.prog.info? t = some i ∧ i.size = n := Option.map_eq_some_iff.1 h
/-- the values of the symbols -/
def fE (m k : Nat) (n : Int) : Nat → Int := fun s => if s = 0 then m else if s = 10 then n else k
def vE (a : Addr) (len cap : Nat) (cl : Value) : Nat → Value := fun s => if s = 1000 then .slice (some a) len cap else if s = 1001 then .pointer (some a) else cl
/-- what the kernel ran -/
structure Runs : Prop extends Stages where
  cN : runE [] .nils = true
  cL : ∀ n, n = 0 ∨ n = 2 ∨ n = 3 ∨ n = 4 ∨ n = 5 → runE (rulesLen n) (.sym .u8 1000) = true
  cBig : runE rulesBig (.sym .u8 1000) = true
  cA : runE rulesA (.sym .u8 1000) = true
  cB : runE rulesB (.sym .u8 1000) = true
  cC : runE rulesC (.sym .u8 1000) = true
  cD : runE rulesD (.sym .u8 1000) = true
  cE : runE rulesE (.sym .u8 1000) = true
theorem runE_said {S : List Rule} {a : AV} {v : Value} (R : Stages) (h : runE S a = true) {W : World} (hF : Facts W) (X : List (Nat × Obj)) (hX : ∀ b o, (b, o) ∈ X → W.heap[b]? = some o) {f : Nat → Int} {V : Nat → Value}
    (hS : ∀ G, (∀ q ∈ X, q ∈ G) → SymOk Tryz.prog ⟨f, G, V⟩ S) (hv : ∀ G φ, VR φ ⟨f, G, V⟩ a v) (h1 : v.oneCell' = true) :
    Calls Tryz.prog 3 #[.agg #[v]] W fun e w' => e = .returned (.bool true) ∧ Below W.heap.size W w' := by
  obtain ⟨G, g1, g2, g3, g4, g5⟩ := nu_of hF X hX
  have tF := tabF_ok (g2 f V) (g3 f V) g4 R
  obtain ⟨t', ht', h⟩ := mkTblZ_true noNG sym_nil (splitOk (g3 f V)) fnsC_ok tF h
  obtain ⟨t2, ht2, hr⟩ := mkTblZ_true noNG (hS G g5) (splitOk (g3 f V)) fnsR_ok ht' h
  refine run_said ht2 g4 g1 (vs := [.agg #[v]]) (.cons (VR.agg (.cons (hv G _) .nil) ?_) .nil) hr
  intro u hu
  simp only [List.mem_cons, List.mem_nil_iff, or_false] at hu
  subst hu
  exact h1
section
variable {W : World} {a : Addr} {len cap : Nat} {cl : Value}
theorem sl_ok (f : Nat → Int) (G : List (Nat × Obj)) (φ : Phi) : VR φ ⟨f, G, vE a len cap cl⟩ (.sym .u8 1000) (.slice (some a) len cap) := .sym _ _ (Nu.val_slice (by decide) rfl).symm
theorem len_rule {f : Nat → Int} {G : List (Nat × Obj)} {av : AV} (hv : ∀ φ, VR φ ⟨f, G, vE a len cap cl⟩ av (goInt len)) : (Rule.len .u8 1000 22 av).Ok Tryz.prog ⟨f, G, vE a len cap cl⟩ :=
  Rule.len_ok (by decide) rfl Tryz.underlying22 hv
theorem one_rules {f : Nat → Int} {G : List (Nat × Obj)} {o : Obj} (hG : (a.block, o) ∈ G) (hW : W.heap[a.block]? = some o) {u0 u1 u2 u3 : Value} (hc : ∀ i, i < 4 → W.cell? (a.add i) = [u0, u1, u2, u3][i]?) (e0 : u0.oneCell' = true) (e1 : u1.oneCell' = true)
    (e2 : u2.oneCell' = true) (e3 : u3.oneCell' = true) {A B C : AV} (hA : ∀ φ, VR φ ⟨f, G, vE a 1 cap cl⟩ A u0) (hB : ∀ φ, VR φ ⟨f, G, vE a 1 cap cl⟩ B u1) (hC : ∀ φ, VR φ ⟨f, G, vE a 1 cap cl⟩ C u2) {l : List Rule}
    (hl : SymOk Tryz.prog ⟨f, G, vE a 1 cap cl⟩ l) : SymOk Tryz.prog ⟨f, G, vE a 1 cap cl⟩ (rulesOne A B C l) := by
  obtain ⟨inf, hi, hsz⟩ := inf_of (t := 102) (n := 4) (by kernel_rfl)
  intro q hq
  unfold rulesOne at hq
  rcases List.mem_cons.1 hq with rfl | hq
  · exact len_rule fun φ => VR.int _ _
  rcases List.mem_cons.1 hq with rfl | hq
  · exact Rule.ix_ok (by decide) (by decide) rfl (by decide) rfl Tryz.underlying22 hi
  rcases List.mem_cons.1 hq with rfl | hq
  · refine Rule.ld_ok (vs := [u0, u1, u2, u3]) (by decide) rfl Tryz.underlying102 hi rfl hsz.symm (fun w hw i v hv => ?_) (fun φ => .cons (hA φ) (.cons (hB φ) (.cons (hC φ) (.cons (.unk _) .nil)))) ?_
    · have hi4 : i < 4 := (List.getElem?_eq_some_iff.1 hv).1
      rw [Go.Abs.cell?_of_block hW (hw _ _ hG), hc i hi4]
      exact hv
    · intro v hv
      simp only [List.mem_cons, List.mem_nil_iff, or_false] at hv
      rcases hv with rfl | rfl | rfl | rfl <;> assumption
  · exact hl q hq
end
theorem walk (R : Runs) (v : Value) {W : World} (hp : Go.Abs.ProofOk W v) (hF : Facts W) :
    Calls Tryz.prog 3 #[v] W fun e w' => e = .returned (.bool true) ∧ Below W.heap.size W w' := by
  obtain ⟨sl, rfl, hsl⟩ := hp
  rcases hsl with rfl | ⟨a, len, cap, rfl, h1⟩
  · exact runE_said R.toStages R.cN hF [] (fun b o h => by cases h) (f := fun _ => 0) (V := fun _ => .nilFunc) (fun G _ => sym_nil) (fun G φ => .nils) rfl
  by_cases hb : 5 < len
  · refine runE_said R.toStages R.cBig hF [] (fun b o h => by cases h) (f := fE len 0 0) (V := vE a len cap .nilFunc) (fun G _ q hq => ?_) (fun G φ => sl_ok _ G φ) rfl
    simp only [rulesBig, List.mem_cons, List.mem_nil_iff, or_false] at hq
    rcases hq with rfl | rfl
    · exact len_rule fun φ => .sym _ _ rfl
    · exact Rule.gtr_ok (by decide) (show (5 : Int) < (len : Int) by omega)
  by_cases h1' : len = 1
  · subst h1'
    obtain ⟨n0, n1, n3, cl, hcl, hc⟩ := h1 rfl
    obtain ⟨o, ho⟩ := Go.Abs.block_of_cell (show W.cell? a = some (.int .i64 n0) by have := hc 0 (by omega); simpa [Addr.add] using this)
    have hX : ∀ b o', (b, o') ∈ [(a.block, o)] → W.heap[b]? = some o' := fun b o' h => by
      simp only [List.mem_cons, List.mem_nil_iff, or_false, Prod.mk.injEq] at h
      obtain ⟨rfl, rfl⟩ := h
      exact ho
    have hin : ∀ G : List (Nat × Obj), (∀ q ∈ [(a.block, o)], q ∈ G) → (a.block, o) ∈ G := fun G h => h _ List.mem_cons_self
    have ecl : cl.oneCell' = true := by
      rcases hcl with rfl | ⟨_, _, _, rfl⟩ <;> rfl
    by_cases e0 : n0 = 1
    · subst e0
      by_cases e1 : n1 = 1
      · subst e1
        rcases hcl with rfl | ⟨a2, l2, c2, rfl⟩
        · refine runE_said R.toStages R.cE hF _ hX (f := fE 1 0 0) (V := vE a 1 cap .nilFunc) (fun G hG => ?_) (fun G φ => sl_ok _ G φ) rfl
          exact one_rules (hin G hG) ho hc rfl rfl rfl rfl (fun φ => VR.int _ _) (fun φ => VR.int _ _) (fun φ => .nils) sym_nil
        · by_cases e2 : l2 = 0
          · subst e2
            refine runE_said R.toStages R.cD hF _ hX (f := fE 1 0 0) (V := vE a 1 cap (.slice (some a2) 0 c2)) (fun G hG => ?_) (fun G φ => sl_ok _ G φ) rfl
            refine one_rules (hin G hG) ho hc rfl rfl rfl rfl (fun φ => VR.int _ _) (fun φ => VR.int _ _) (fun φ => .sym _ _ (Nu.val_slice (by decide) rfl).symm) ?_
            intro q hq
            simp only [List.mem_cons, List.mem_nil_iff, or_false] at hq
            subst hq
            exact Rule.len_ok (by decide) rfl Tryz.underlying83 fun φ => VR.int _ _
          · refine runE_said R.toStages R.cC hF _ hX (f := fE 1 0 l2) (V := vE a 1 cap (.slice (some a2) l2 c2)) (fun G hG => ?_) (fun G φ => sl_ok _ G φ) rfl
            refine one_rules (hin G hG) ho hc rfl rfl rfl rfl (fun φ => VR.int _ _) (fun φ => VR.int _ _) (fun φ => .sym _ _ (Nu.val_slice (by decide) rfl).symm) ?_
            intro q hq
            simp only [List.mem_cons, List.mem_nil_iff, or_false] at hq
            rcases hq with rfl | rfl
            · exact Rule.len_ok (by decide) rfl Tryz.underlying83 fun φ => .sym _ _ rfl
            · exact Rule.neq_ok (by decide) (show (l2 : Int) ≠ ((0 : Nat) : Int) by omega)
      · refine runE_said R.toStages R.cB hF _ hX (f := fE 1 0 n1) (V := vE a 1 cap .nilFunc) (fun G hG => ?_) (fun G φ => sl_ok _ G φ) rfl
        refine one_rules (hin G hG) ho hc rfl rfl ecl rfl (fun φ => VR.int _ _) (fun φ => .sym _ _ rfl) (fun φ => .unk _) ?_
        intro q hq
        simp only [List.mem_cons, List.mem_nil_iff, or_false] at hq
        subst hq
        exact Rule.neq_ok (by decide) (show n1 ≠ ((1 : Nat) : Int) from e1)
    · refine runE_said R.toStages R.cA hF _ hX (f := fE 1 0 n0) (V := vE a 1 cap .nilFunc) (fun G hG => ?_) (fun G φ => sl_ok _ G φ) rfl
      refine one_rules (hin G hG) ho hc rfl rfl ecl rfl (fun φ => .sym _ _ rfl) (fun φ => .unk _) (fun φ => .unk _) ?_
      intro q hq
      simp only [List.mem_cons, List.mem_nil_iff, or_false] at hq
      subst hq
      exact Rule.neq_ok (by decide) (show n0 ≠ ((1 : Nat) : Int) from e0)
  · refine runE_said R.toStages (R.cL len (by omega)) hF [] (fun b o h => by cases h) (f := fE len 0 0) (V := vE a len cap .nilFunc) (fun G _ q hq => ?_) (fun G φ => sl_ok _ G φ) rfl
    simp only [rulesLen, List.mem_cons, List.mem_nil_iff, or_false] at hq
    subst hq
    exact len_rule fun φ => VR.int _ _
end Go.Proofs.YtjbibfedjhjdlaaGreatDoor
