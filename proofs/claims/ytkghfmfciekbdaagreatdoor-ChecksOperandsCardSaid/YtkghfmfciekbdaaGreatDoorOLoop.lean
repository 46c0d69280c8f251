/-
  The root's second loop and what stands behind it: rounds and the end by the evaluator's runs (hypotheses here), put to use on any frame and world that hold what is listed.
-/
import Derived.Test.YtkghfmfciekbdaaGreatDoorOPl
set_option linter.unusedVariables false
set_option linter.unusedSimpArgs false
namespace Go.Proofs.YtkghfmfciekbdaaGreatDoor
open Go Go.Abs Go.RowKit
set_option linter.unusedVariables false
set_option maxRecDepth 100000
/-- what the kernel ran -/
structure Runs : Prop extends Stages where
  rounds : ∀ k, k < 8 → roundsK k = true
  exits : ∀ n, n < 9 → 0 < n → exitR n = true
  tails : tailRs = true

theorem allB_true {f : Nat → Bool} : ∀ {n : Nat}, allB f n = true → ∀ i, i < n → f i = true
  | 0, _, i, h => by omega
  | n + 1, h, i, hi => by
    obtain ⟨h1, h2⟩ := andB_true (show andB (f n) (allB f n) = true from h)
    by_cases e : i = n
    · subst e; exact h1
    · exact allB_true h2 i (by omega)
theorem isSymB_true {K : IntKind} {s : Nat} {v : AV} (h : isSymB K s v = true) : v = .sym K s := by
  rcases symOr_true (show symOr v (fun K' s' => andB (isIntK K' K) (Nat.beq s' s)) false = true from h) with ⟨K', s', e, h2⟩ | h2
  · obtain ⟨h3, h4⟩ := andB_true h2
    have h3 := isIntK_true h3
    have h4 := Nat.eq_of_beq_eq_true h4
    subst h3 h4
    exact e
  · cases h2
theorem fr_slots {φ : Phi} {ν : Nu} {tmps : Array Value} {ts : FT 5} (h : FR φ ν 5 414 ts tmps) : ∀ {l : List (Nat × IntKind × Nat)}, (∀ p ∈ l, p.1 < 414 ∧ tmps.getD p.1 undef = ν.val p.2.1 p.2.2) → FR φ ν 5 414 (tsOf l ts) tmps
  | [], _ => h
  | (d, K, s) :: l, hl => by
    obtain ⟨h1, h2⟩ := hl _ List.mem_cons_self
    exact (fr_slots h fun p hp => hl p (List.mem_cons_of_mem _ hp)).know (by decide) h1 h2 (.sym _ _ rfl)
theorem slots_true {φ : Phi} {ν : Nu} {tmps : Array Value} {ts : FT 5} (h : FR φ ν 5 414 ts tmps) : ∀ {l : List (Nat × IntKind × Nat)}, slotsB l ts = true → ∀ p ∈ l, p.1 < 414 → tmps.getD p.1 undef = ν.val p.2.1 p.2.2
  | [], _, p, hp, _ => by cases hp
  | (d, K, s) :: l, hb, p, hp, hlt => by
    obtain ⟨h1, h2⟩ := andB_true (show andB (isSymB K s (FT.get 5 d ts)) (slotsB l ts) = true from hb)
    rcases List.mem_cons.1 hp with rfl | hp
    · have hv := h.getD (i := d) hlt
      rw [isSymB_true h1] at hv
      generalize tmps.getD d undef = v at hv
      cases hv with
      | sym _ _ e => exact e
    · exact slots_true h h2 p hp hlt
theorem int_slot {φ : Phi} {ν : Nu} {tmps : Array Value} {ts : FT 5} (h : FR φ ν 5 414 ts tmps) {n d : Nat} (hb : intB n (FT.get 5 d ts) = true) (hd : d < 414) : tmps.getD d undef = .int .i64 n := by
  have hv := h.getD (i := d) hd
  exact closed3_VR (a := .int .i64 (.ofNat n)) rfl (eqR_VR (φ0 := φ) (fun i j hij => by cases hij) (show eqR noB (.int .i64 (.ofNat n)) (FT.get 5 d ts) = true from hb) hv)
theorem defers_nil {φ : Phi} {ν : Nu} {h : H} {ds : List Deferred} (hn : noDs h = true) (hd : DR φ ν h.ds ds) : ds = [] := by
  unfold noDs at hn
  split at hn
  · rename_i e
    rw [e] at hd
    cases ds with
    | nil => rfl
    | cons d l => exact hd.elim
  · cases hn
/-- a piece of code by the evaluator -/
theorem piece {ν : Nu} {S : List Rule} (hS : SymOk Tryz.prog ν S) (h3 : IntCell ν 3) {tb : T4 FnD TD} (ht : TblOk Tryz.prog ν tb) {c : Code} {ts : FT 5} {h : H} {K : FT 5 → H → Bool} {ks : Ks 5}
    (hrun : mkCodeZ Tryz.prog S false (358, 0) false 5 414 c (fun d => d (runF tb 60) ts h K ks) = true) {φ : Phi} {a : Act} {w : World} (hs : St φ ν 5 414 ts h a w) : Code.wp Tryz.prog c (Post φ ν 5 414 h.ro w K ks) a w := by
  obtain ⟨d, hd, h2⟩ := mkCodeZ_good Tryz.prog S false ν hS (358, 0) (splitOk h3) false 5 414 c _ hrun
  exact wpW_none.1 (hd (runF tb 60) (runF_ok ht 60) none (.inl rfl) φ ts h a w K ks hs h2)

/-- the values that the loop reads: places and numbers -/
structure LV where
  b : Nat
  q : Nat
  n : Nat
  cap : Nat
  z : Int
  t9 : Nat
  t10 : Nat
  t11 : Nat
  t12 : Nat
  t13 : Nat
  t14 : Nat
  g16 : Nat
  g18 : Nat
  x : Nat → Int
  GA : Nat → Nat
  GB : Nat → Nat
  CA : Nat → Nat → Value
  CB : Nat → Nat → Value
/-- a frame in the loop -/
structure LoopA (V : LV) (i : Nat) (a : Act) : Prop where
  size : a.tmps.size = 414
  dfs : a.defers = []
  s0 : a.tmps.getD 0 undef = .slice (some ⟨V.b, V.q, none⟩) V.n V.cap
  s1 : a.tmps.getD 1 undef = .int .u8 V.z
  s9 : a.tmps.getD 9 undef = .slice (some ⟨V.t9, 0, none⟩) 8 8
  s10 : a.tmps.getD 10 undef = .slice (some ⟨V.t10, 0, none⟩) 8 8
  s11 : a.tmps.getD 11 undef = .slice (some ⟨V.t11, 0, none⟩) 4 4
  s12 : a.tmps.getD 12 undef = .slice (some ⟨V.t12, 0, none⟩) 4 4
  s13 : a.tmps.getD 13 undef = .slice (some ⟨V.t13, 0, none⟩) 5 5
  s14 : a.tmps.getD 14 undef = .slice (some ⟨V.t14, 0, none⟩) 5 5
  s16 : a.tmps.getD 16 undef = .slice (some ⟨V.g16, 0, none⟩) V.n V.n
  s18 : a.tmps.getD 18 undef = .slice (some ⟨V.g18, 0, none⟩) V.n V.n
  s20 : a.tmps.getD 20 undef = .int .i64 i
/-- a world in the loop -/
structure LoopW (V : LV) (W : World) : Prop where
  facts : Facts W
  l : ∀ j, j < 2 * V.n → 0 ≤ V.x j ∧ V.x j ≤ 255 ∧ W.cell? ⟨V.b, V.q + j, none⟩ = some (.int .u8 (V.x j))
  t9 : ∀ k, k < 8 → W.cell? ⟨V.t9, k, none⟩ = some (.string (sndB k))
  t10 : ∀ k, k < 8 → W.cell? ⟨V.t10, k, none⟩ = some (.int .i64 (itmI k))
  t11 : ∀ k, k < 4 → W.cell? ⟨V.t11, k, none⟩ = some (.string (tgtB k))
  t12 : ∀ k, k < 4 → W.cell? ⟨V.t12, k, none⟩ = some (.int .i64 (sptI k))
  t13 : ∀ k, k < 5 → W.cell? ⟨V.t13, k, none⟩ = some (.string (modB k))
  t14 : ∀ k, k < 5 → W.cell? ⟨V.t14, k, none⟩ = some (.int .u8 (kndI k))
  ra : ∀ i, i < V.n → W.cell? ⟨V.g16, i * 2, none⟩ = some (.slice (some ⟨V.GA i, 0, none⟩) (nS (kS V.x i)) (nS (kS V.x i))) ∧ W.cell? ⟨V.g16, i * 2 + 1, none⟩ = some (.int .i64 (itmI (kS V.x i)))
  rb : ∀ i, i < V.n → W.cell? ⟨V.g18, i * 3, none⟩ = some (.slice (some ⟨V.GB i, 0, none⟩) (nT (kT V.x i)) (nT (kT V.x i))) ∧ W.cell? ⟨V.g18, i * 3 + 1, none⟩ = some (.int .i64 (sptI (kT V.x i))) ∧ W.cell? ⟨V.g18, i * 3 + 2, none⟩ = some (.int .u8 (kndI (kM V.x i)))
  ta : ∀ i, i < V.n → TokCells (V.CA i) (sndA (kS V.x i)) ∧ ∀ j, j < 5 * nS (kS V.x i) → W.cell? ⟨V.GA i, 0 + j, none⟩ = some (V.CA i j)
  tb : ∀ i, i < V.n → TokCells (V.CB i) (tgtA (kT V.x i)) ∧ ∀ j, j < 5 * nT (kT V.x i) → W.cell? ⟨V.GB i, 0 + j, none⟩ = some (V.CB i j)
theorem LoopW.below {V : LV} {W W' : World} (h : LoopW V W) (hb : Below W.heap.size W W') : LoopW V W' :=
  ⟨h.facts.below hb, fun j hj => let ⟨a, b, c⟩ := h.l j hj; ⟨a, b, cell_below c hb⟩, fun k hk => cell_below (h.t9 k hk) hb, fun k hk => cell_below (h.t10 k hk) hb, fun k hk => cell_below (h.t11 k hk) hb, fun k hk => cell_below (h.t12 k hk) hb, fun k hk => cell_below (h.t13 k hk) hb,
    fun k hk => cell_below (h.t14 k hk) hb, fun i hi => let ⟨a, b⟩ := h.ra i hi; ⟨cell_below a hb, cell_below b hb⟩, fun i hi => let ⟨a, b, c⟩ := h.rb i hi; ⟨cell_below a hb, cell_below b hb, cell_below c hb⟩,
    fun i hi => let ⟨a, b⟩ := h.ta i hi; ⟨a, fun j hj => cell_below (b j hj) hb⟩, fun i hi => let ⟨a, b⟩ := h.tb i hi; ⟨a, fun j hj => cell_below (b j hj) hb⟩⟩

/-- the valuation of a round -/
def vL (V : LV) (i : Nat) : List (Nat × Value) := [(1700, .slice (some ⟨V.b, V.q, none⟩) V.n V.cap), (1710, .pointer (some ⟨V.b, V.q + i * 2, none⟩)), (1711, .pointer (some ⟨V.b, V.q + i * 2, none⟩)), (1712, .pointer (some ⟨V.b, V.q + i * 2 + 1, none⟩)),
  (1720, .slice (some ⟨V.t9, 0, none⟩) 8 8), (1721, .pointer (some ⟨V.t9, kS V.x i, none⟩)), (1722, .slice (some ⟨V.t10, 0, none⟩) 8 8), (1723, .pointer (some ⟨V.t10, kS V.x i, none⟩)),
  (1724, .slice (some ⟨V.t11, 0, none⟩) 4 4), (1725, .pointer (some ⟨V.t11, kT V.x i, none⟩)), (1726, .slice (some ⟨V.t12, 0, none⟩) 4 4), (1727, .pointer (some ⟨V.t12, kT V.x i, none⟩)),
  (1728, .slice (some ⟨V.t13, 0, none⟩) 5 5), (1729, .pointer (some ⟨V.t13, kM V.x i, none⟩)), (1730, .slice (some ⟨V.t14, 0, none⟩) 5 5), (1731, .pointer (some ⟨V.t14, kM V.x i, none⟩)),
  (1740, .slice (some ⟨V.g16, 0, none⟩) V.n V.n), (1741, .pointer (some ⟨V.g16, i * 2, none⟩)), (1742, .pointer (some ⟨V.g16, i * 2, none⟩)), (1743, .pointer (some ⟨V.g16, i * 2 + 1, none⟩)),
  (1750, .slice (some ⟨V.g18, 0, none⟩) V.n V.n), (1751, .pointer (some ⟨V.g18, i * 3, none⟩)), (1752, .pointer (some ⟨V.g18, i * 3, none⟩)), (1753, .pointer (some ⟨V.g18, i * 3, none⟩)), (1754, .pointer (some ⟨V.g18, i * 3 + 1, none⟩)), (1755, .pointer (some ⟨V.g18, i * 3 + 2, none⟩))]
def vOf (V : LV) (i s : Nat) : Value := if s < 1300 then tokV 1000 (V.GA i) 0 (nS (kS V.x i)) (nS (kS V.x i)) s else if s < 1600 then tokV 1300 (V.GB i) 0 (nT (kT V.x i)) (nT (kT V.x i)) s else
  match (vL V i).find? (fun p => Nat.beq p.1 s) with
  | some p => p.2
  | none => undef
def fOf (V : LV) (i s : Nat) : Int := if s = 0 then V.x (2 * i) else if s = 1 then V.x (2 * i + 1) else if s = 2 then V.z else if s = 20 then V.n else if s < 55 then tokF 30 (nS (kS V.x i)) s else tokF 60 (nT (kT V.x i)) s
def bL (V : LV) (i : Nat) : List Nat := [V.b, V.t9, V.t10, V.t11, V.t12, V.t13, V.t14, V.g16, V.g18, V.GA i, V.GB i]

theorem tokTy : TokTy Tryz.prog 26 83 81 9 :=
  ⟨Tryz.underlying26, Option.map_eq_some_iff.1 (show (Tryz.prog.info? 83).map (·.size) = some 5 by kernel_rfl), ⟨_, _, _, Tryz.underlying83, rfl, rfl, rfl, rfl, by kernel_rfl, by kernel_rfl⟩, ⟨_, Tryz.underlying81, rfl⟩, ⟨_, Tryz.underlying9, rfl⟩⟩

theorem symCons {ν : Nu} {r : Rule} {S : List Rule} (h : r.Ok Tryz.prog ν) (h' : SymOk Tryz.prog ν S) : SymOk Tryz.prog ν (r :: S) := by
  intro q hq
  rcases List.mem_cons.1 hq with rfl | hq
  · exact h
  · exact h' q hq
theorem ixs1 {ν : Nu} {s s' n b q l c sz : Nat} {t e : TypeId} (hs : 1000 ≤ s ∧ s < 2000) (hs' : 1000 ≤ s' ∧ s' < 2000) (h : ν.v s = .slice (some ⟨b, q, none⟩) l c) (hl : n < l) (h' : ν.v s' = .pointer (some ⟨b, q + n * sz, none⟩))
    (hd : Tryz.prog.underlying t = some (.slice e)) (hi : (Tryz.prog.info? e).map (·.size) = some sz) : (Rule.ix .i64 s t n s').Ok Tryz.prog ν := by
  obtain ⟨inf, h1, h2⟩ := Option.map_eq_some_iff.1 hi
  exact Rule.ixs_ok hs hs' h hl (inf := inf) (by rw [h', addr_add, h2]) hd h1
theorem ixa1 {ν : Nu} {s s' n b q l sz : Nat} {t e : TypeId} (hs : 1000 ≤ s ∧ s < 2000) (hs' : 1000 ≤ s' ∧ s' < 2000) (h : ν.v s = .pointer (some ⟨b, q, none⟩)) (hl : n < l) (h' : ν.v s' = .pointer (some ⟨b, q + n * sz, none⟩))
    (hd : Tryz.prog.underlying t = some (.array l e)) (hi : (Tryz.prog.info? e).map (·.size) = some sz) : (Rule.ix .i64 s t n s').Ok Tryz.prog ν := by
  obtain ⟨inf, h1, h2⟩ := Option.map_eq_some_iff.1 hi
  exact Rule.ixa_ok hs hs' h hl (inf := inf) (by rw [h', addr_add, h2]) hd h1
section
variable {V : LV} {i : Nat} {W : World} {G : List (Nat × Obj)}
theorem kS_lt (x : Nat → Int) (i : Nat) : kS x i < 8 := by unfold kS; omega
theorem kT_lt (x : Nat → Int) (i : Nat) : kT x i < 4 := by unfold kT; omega
theorem kM_lt (x : Nat → Int) (i : Nat) : kM x i < 5 := by unfold kM; omega
theorem rulesK_ok (hW : LoopW V W) (hi : i < V.n) (hG : ∀ q ∈ blks W (bL V i), q ∈ G) : SymOk Tryz.prog ⟨fOf V i, G, vOf V i⟩ (rulesK (kS V.x i) (kT V.x i)) := by
  have l1 := lenS (kS_lt V.x i)
  have l2 := lenT (kT_lt V.x i)
  have z1 := nS_le (kS V.x i)
  have z2 := nT_le (kT V.x i)
  obtain ⟨a1, a2⟩ := hW.ta i hi
  obtain ⟨b1, b2⟩ := hW.tb i hi
  refine SymOk.append (tokRules_ok tokTy (b := V.GA i) (q := 0) (L := nS (kS V.x i)) (cap := nS (kS V.x i)) (tokAt_of (by omega) (by omega) (by omega) (fun s h1 h2 => ?_) (fun s h1 h2 => ?_)) a1 (fun _ => l1.symm) (fun w hw j hj => ?_))
    (tokRules_ok tokTy (b := V.GB i) (q := 0) (L := nT (kT V.x i)) (cap := nT (kT V.x i)) (tokAt_of (by omega) (by omega) (by omega) (fun s h1 h2 => ?_) (fun s h1 h2 => ?_)) b1 (fun _ => l2.symm) (fun w hw j hj => ?_))
  · show vOf V i s = _
    unfold vOf; rw [if_pos (by omega)]
  · show fOf V i s = _
    unfold fOf; rw [if_neg (by omega), if_neg (by omega), if_neg (by omega), if_neg (by omega), if_pos (by omega)]
  · exact blks_cell hG (by simp [bL]) (a2 j (by omega)) w hw
  · show vOf V i s = _
    unfold vOf; rw [if_neg (by omega), if_pos (by omega)]
  · show fOf V i s = _
    unfold fOf; rw [if_neg (by omega), if_neg (by omega), if_neg (by omega), if_neg (by omega), if_neg (by omega)]
  · exact blks_cell hG (by simp [bL]) (b2 j (by omega)) w hw
theorem rulesE_ok (hW : LoopW V W) (hi : i < V.n) (hG : ∀ q ∈ blks W (bL V i), q ∈ G) : SymOk Tryz.prog ⟨fOf V i, G, vOf V i⟩ (rulesE i (kS V.x i) (kT V.x i) (kM V.x i)) := by
  have hk := kS_lt V.x i
  have ht := kT_lt V.x i
  have hm := kM_lt V.x i
  obtain ⟨x0, x1, c0⟩ := hW.l (2 * i) (by omega)
  obtain ⟨y0, y1, c1⟩ := hW.l (2 * i + 1) (by omega)
  obtain ⟨a0, a1⟩ := hW.ra i hi
  obtain ⟨b0, b1, b2⟩ := hW.rb i hi
  have hc : ∀ b ∈ bL V i, ∀ off v, W.cell? ⟨b, off, none⟩ = some v → ∀ w : World, (∀ b o, (b, o) ∈ G → w.heap[b]? = some o) → w.cell? ⟨b, off, none⟩ = some v := fun b hb off v h w hw => blks_cell hG hb h w hw
  unfold rulesE
  refine symCons (Rule.len_ok (by omega) (show vOf V i 1700 = _ from rfl) Tryz.underlying22 (fun φ => .sym _ _ (by rw [Nu.val_num _ _ (by omega)]; rfl))) ?_
  refine symCons (Rule.lss_ok (by omega) (show ((Nat.succ i : Nat) : Int) ≤ V.n by omega)) ?_
  refine symCons (ixs1 (by omega) (by omega) (show vOf V i 1700 = _ from rfl) hi (show vOf V i 1710 = _ from rfl) Tryz.underlying22 (by kernel_rfl)) ?_
  refine symCons (ixa1 (sz := 1) (by omega) (by omega) (show vOf V i 1710 = _ from rfl) (by omega) (show vOf V i 1711 = _ from rfl) Tryz.underlying49 (by kernel_rfl)) ?_
  refine symCons (ixa1 (sz := 1) (by omega) (by omega) (show vOf V i 1710 = _ from rfl) (by omega) (show vOf V i 1712 = _ from rfl) Tryz.underlying49 (by kernel_rfl)) ?_
  refine symCons (Rule.ld1_ok (by omega) (show vOf V i 1711 = _ from rfl) Tryz.underlying5 rfl (hc V.b (by simp [bL]) _ _ (by rw [show V.q + i * 2 = V.q + 2 * i by omega]; exact c0)) (fun φ => .sym _ _ (by rw [Nu.val_num _ _ (by omega)]; rfl))) ?_
  refine symCons (Rule.ld1_ok (by omega) (show vOf V i 1712 = _ from rfl) Tryz.underlying5 rfl (hc V.b (by simp [bL]) _ _ (by rw [show V.q + i * 2 + 1 = V.q + (2 * i + 1) by omega]; exact c1)) (fun φ => .sym _ _ (by rw [Nu.val_num _ _ (by omega)]; rfl))) ?_
  refine symCons (Rule.rem_ok (by omega) x0 x1 (by omega) (by omega) (show V.x (2 * i) % 8 = ((kS V.x i : Nat) : Int) by unfold kS; omega)) ?_
  refine symCons (Rule.rem_ok (by omega) x0 x1 (by omega) (by omega) (show V.x (2 * i) % 4 = ((kT V.x i : Nat) : Int) by unfold kT; omega)) ?_
  refine symCons (Rule.rem_ok (by omega) y0 y1 (by omega) (by omega) (show V.x (2 * i + 1) % 5 = ((kM V.x i : Nat) : Int) by unfold kM; omega)) ?_
  have e1 : ∀ k : Nat, 0 + k * 1 = k := fun k => by omega
  refine symCons (ixs1 (sz := 1) (by omega) (by omega) (show vOf V i 1720 = _ from rfl) hk (by rw [e1]; rfl) Tryz.underlying27 (by kernel_rfl)) ?_
  refine symCons (Rule.ld1_ok (by omega) (show vOf V i 1721 = _ from rfl) Tryz.underlying9 rfl (hc V.t9 (by simp [bL]) _ _ (hW.t9 _ hk)) (fun φ => vrA hk)) ?_
  refine symCons (ixs1 (sz := 1) (by omega) (by omega) (show vOf V i 1722 = _ from rfl) hk (by rw [e1]; rfl) Tryz.underlying46 (by kernel_rfl)) ?_
  refine symCons (Rule.ld1_ok (by omega) (show vOf V i 1723 = _ from rfl) Tryz.underlying3 rfl (hc V.t10 (by simp [bL]) _ _ (hW.t10 _ hk)) (fun φ => vrI hk)) ?_
  refine symCons (ixs1 (sz := 1) (by omega) (by omega) (show vOf V i 1724 = _ from rfl) ht (by rw [e1]; rfl) Tryz.underlying27 (by kernel_rfl)) ?_
  refine symCons (Rule.ld1_ok (by omega) (show vOf V i 1725 = _ from rfl) Tryz.underlying9 rfl (hc V.t11 (by simp [bL]) _ _ (hW.t11 _ ht)) (fun φ => vrS ht)) ?_
  refine symCons (ixs1 (sz := 1) (by omega) (by omega) (show vOf V i 1726 = _ from rfl) ht (by rw [e1]; rfl) Tryz.underlying46 (by kernel_rfl)) ?_
  refine symCons (Rule.ld1_ok (by omega) (show vOf V i 1727 = _ from rfl) Tryz.underlying3 rfl (hc V.t12 (by simp [bL]) _ _ (hW.t12 _ ht)) (fun φ => vrP ht)) ?_
  refine symCons (ixs1 (sz := 1) (by omega) (by omega) (show vOf V i 1728 = _ from rfl) hm (by rw [e1]; rfl) Tryz.underlying27 (by kernel_rfl)) ?_
  refine symCons (Rule.ld1_ok (by omega) (show vOf V i 1729 = _ from rfl) Tryz.underlying9 rfl (hc V.t13 (by simp [bL]) _ _ (hW.t13 _ hm)) (fun φ => vrM hm)) ?_
  refine symCons (ixs1 (sz := 1) (by omega) (by omega) (show vOf V i 1730 = _ from rfl) hm (by rw [e1]; rfl) Tryz.underlying48 (by kernel_rfl)) ?_
  refine symCons (Rule.ld1_ok (by omega) (show vOf V i 1731 = _ from rfl) Tryz.underlying47 rfl (hc V.t14 (by simp [bL]) _ _ (hW.t14 _ hm)) (fun φ => vrK hm)) ?_
  refine symCons (ixs1 (by omega) (by omega) (show vOf V i 1740 = _ from rfl) hi (by rw [Nat.zero_add]; rfl) Tryz.underlying50 (by kernel_rfl)) ?_
  refine symCons (Rule.fa_ok (by omega) (by omega) (show vOf V i 1741 = _ from rfl) (show vOf V i 1742 = _ from rfl) Tryz.underlying58 rfl (by kernel_rfl)) ?_
  refine symCons (Rule.fa_ok (by omega) (by omega) (show vOf V i 1741 = _ from rfl) (show vOf V i 1743 = _ from rfl) Tryz.underlying58 rfl (by kernel_rfl)) ?_
  refine symCons (Rule.ld1_ok (by omega) (show vOf V i 1742 = _ from rfl) Tryz.underlying26 rfl (hc V.g16 (by simp [bL]) _ _ a0) (fun φ => .sym _ _ (by rw [Nu.val_slice (by omega) (show vOf V i 1000 = _ from rfl)]; rfl))) ?_
  refine symCons (Rule.ld1_ok (by omega) (show vOf V i 1743 = _ from rfl) Tryz.underlying3 rfl (hc V.g16 (by simp [bL]) _ _ a1) (fun φ => vrI hk)) ?_
  refine symCons (ixs1 (by omega) (by omega) (show vOf V i 1750 = _ from rfl) hi (by rw [Nat.zero_add]; rfl) Tryz.underlying54 (by kernel_rfl)) ?_
  refine symCons (Rule.fa_ok (by omega) (by omega) (show vOf V i 1751 = _ from rfl) (show vOf V i 1752 = _ from rfl) Tryz.underlying63 rfl (by kernel_rfl)) ?_
  refine symCons (Rule.fa_ok (by omega) (by omega) (show vOf V i 1751 = _ from rfl) (show vOf V i 1755 = _ from rfl) Tryz.underlying63 rfl (by kernel_rfl)) ?_
  refine symCons (Rule.fa_ok (by omega) (by omega) (show vOf V i 1752 = _ from rfl) (show vOf V i 1753 = _ from rfl) Tryz.underlying58 rfl (by kernel_rfl)) ?_
  refine symCons (Rule.fa_ok (by omega) (by omega) (show vOf V i 1752 = _ from rfl) (show vOf V i 1754 = _ from rfl) Tryz.underlying58 rfl (by kernel_rfl)) ?_
  refine symCons (Rule.ld1_ok (by omega) (show vOf V i 1753 = _ from rfl) Tryz.underlying26 rfl (hc V.g18 (by simp [bL]) _ _ b0) (fun φ => .sym _ _ (by rw [Nu.val_slice (by omega) (show vOf V i 1300 = _ from rfl)]; rfl))) ?_
  refine symCons (Rule.ld1_ok (by omega) (show vOf V i 1754 = _ from rfl) Tryz.underlying3 rfl (hc V.g18 (by simp [bL]) _ _ b1) (fun φ => vrP ht)) ?_
  refine symCons (Rule.ld1_ok (by omega) (show vOf V i 1755 = _ from rfl) Tryz.underlying47 rfl (hc V.g18 (by simp [bL]) _ _ b2) (fun φ => vrK hm)) ?_
  exact SymOk.nil
end

/-! ### the loop -/
theorem slotV {V : LV} {i : Nat} {G : List (Nat × Obj)} {a : Act} (hA : LoopA V i a) : ∀ p ∈ slots, p.1 < 414 ∧ a.tmps.getD p.1 undef = (⟨fOf V i, G, vOf V i⟩ : Nu).val p.2.1 p.2.2 := by
  intro p hp
  simp only [slots, List.mem_cons, List.mem_nil_iff, or_false] at hp
  rcases hp with rfl | rfl | rfl | rfl | rfl | rfl | rfl | rfl | rfl | rfl
  · exact ⟨by omega, by rw [hA.s0]; exact (Nu.val_slice (ν := ⟨fOf V i, G, vOf V i⟩) (s := 1700) (by omega) (show vOf V i 1700 = _ from rfl)).symm⟩
  · exact ⟨by omega, by rw [hA.s1]; rfl⟩
  · exact ⟨by omega, by rw [hA.s9]; exact (Nu.val_slice (ν := ⟨fOf V i, G, vOf V i⟩) (s := 1720) (by omega) (show vOf V i 1720 = _ from rfl)).symm⟩
  · exact ⟨by omega, by rw [hA.s10]; exact (Nu.val_slice (ν := ⟨fOf V i, G, vOf V i⟩) (s := 1722) (by omega) (show vOf V i 1722 = _ from rfl)).symm⟩
  · exact ⟨by omega, by rw [hA.s11]; exact (Nu.val_slice (ν := ⟨fOf V i, G, vOf V i⟩) (s := 1724) (by omega) (show vOf V i 1724 = _ from rfl)).symm⟩
  · exact ⟨by omega, by rw [hA.s12]; exact (Nu.val_slice (ν := ⟨fOf V i, G, vOf V i⟩) (s := 1726) (by omega) (show vOf V i 1726 = _ from rfl)).symm⟩
  · exact ⟨by omega, by rw [hA.s13]; exact (Nu.val_slice (ν := ⟨fOf V i, G, vOf V i⟩) (s := 1728) (by omega) (show vOf V i 1728 = _ from rfl)).symm⟩
  · exact ⟨by omega, by rw [hA.s14]; exact (Nu.val_slice (ν := ⟨fOf V i, G, vOf V i⟩) (s := 1730) (by omega) (show vOf V i 1730 = _ from rfl)).symm⟩
  · exact ⟨by omega, by rw [hA.s16]; exact (Nu.val_slice (ν := ⟨fOf V i, G, vOf V i⟩) (s := 1740) (by omega) (show vOf V i 1740 = _ from rfl)).symm⟩
  · exact ⟨by omega, by rw [hA.s18]; exact (Nu.val_slice (ν := ⟨fOf V i, G, vOf V i⟩) (s := 1750) (by omega) (show vOf V i 1750 = _ from rfl)).symm⟩
theorem start_st {V : LV} {i : Nat} {G : List (Nat × Obj)} {a : Act} {W : World} (hA : LoopA V i a) (g4 : ∀ q ∈ gls, ∃ fr, (q.g, q.obj fr) ∈ G) (g1 : ∀ b o, (b, o) ∈ G → W.heap[b]? = some o) : St (phiOf gls) ⟨fOf V i, G, vOf V i⟩ 5 414 (tsI i) hs a W := by
  have hr := hs_HR (ν := ⟨fOf V i, G, vOf V i⟩) g4 (w := W) g1
  refine ⟨?_, hr, by rw [hA.dfs]; exact trivial⟩
  exact (fr_slots (FR.ofUnk hA.size hr.gp) (slotV hA)).know (by decide) (by omega) hA.s20 (.int _ _)
theorem LoopA.next {V : LV} {i j : Nat} {G : List (Nat × Obj)} {a : Act} (hsz : a.tmps.size = 414) (hd : a.defers = []) (h : ∀ p ∈ slots, p.1 < 414 → a.tmps.getD p.1 undef = (⟨fOf V i, G, vOf V i⟩ : Nu).val p.2.1 p.2.2) (h20 : a.tmps.getD 20 undef = .int .i64 j) : LoopA V j a := by
  have key : ∀ (d : Nat) (K : IntKind) (s : Nat) (v : Value), (d, K, s) ∈ slots → d < 414 → (⟨fOf V i, G, vOf V i⟩ : Nu).val K s = v → a.tmps.getD d undef = v := fun d K s v hm hlt e => (h _ hm hlt).trans e
  exact ⟨hsz, hd, key 0 .i64 1700 _ (by simp [slots]) (by omega) (Nu.val_slice (by omega) (show vOf V i 1700 = _ from rfl)), key 1 .u8 2 _ (by simp [slots]) (by omega) rfl,
    key 9 .i64 1720 _ (by simp [slots]) (by omega) (Nu.val_slice (by omega) (show vOf V i 1720 = _ from rfl)), key 10 .i64 1722 _ (by simp [slots]) (by omega) (Nu.val_slice (by omega) (show vOf V i 1722 = _ from rfl)),
    key 11 .i64 1724 _ (by simp [slots]) (by omega) (Nu.val_slice (by omega) (show vOf V i 1724 = _ from rfl)), key 12 .i64 1726 _ (by simp [slots]) (by omega) (Nu.val_slice (by omega) (show vOf V i 1726 = _ from rfl)),
    key 13 .i64 1728 _ (by simp [slots]) (by omega) (Nu.val_slice (by omega) (show vOf V i 1728 = _ from rfl)), key 14 .i64 1730 _ (by simp [slots]) (by omega) (Nu.val_slice (by omega) (show vOf V i 1730 = _ from rfl)),
    key 16 .i64 1740 _ (by simp [slots]) (by omega) (Nu.val_slice (by omega) (show vOf V i 1740 = _ from rfl)), key 18 .i64 1750 _ (by simp [slots]) (by omega) (Nu.val_slice (by omega) (show vOf V i 1750 = _ from rfl)), h20⟩
theorem tab1_at (R : Stages) {ν : Nu} (g2 : TabCell Tryz.prog ν "strings.asciiSpace" .u8 Lib.asciiSpaceTab) (g3 : IntCell ν 3) (g4 : ∀ q ∈ gls, ∃ fr, (q.g, q.obj fr) ∈ ν.G) : TblOk Tryz.prog ν tab1 := tab1_ok (tab0_ok g2 g3) g3 g4 R
theorem tab2_at (R : Stages) {ν : Nu} (g2 : TabCell Tryz.prog ν "strings.asciiSpace" .u8 Lib.asciiSpaceTab) (g3 : IntCell ν 3) (g4 : ∀ q ∈ gls, ∃ fr, (q.g, q.obj fr) ∈ ν.G) : TblOk Tryz.prog ν tab2 := tab2_ok (tab1_at R g2 g3 g4) g3 g4 R
/-- a round -/
theorem round_wp (R : Runs) {V : LV} {i : Nat} (hi : i < V.n) (hn : V.n ≤ 8) {a : Act} {W : World} (hA : LoopA V i a) (hW : LoopW V W) {Q : Exit → Act → World → Prop} (hQ : ∀ a' W', LoopA V (i + 1) a' → Below W.heap.size W W' → Q .normal a' W') : Code.wp Tryz.prog loopC Q a W := by
  obtain ⟨G, g1, g2, g3, g4, g5⟩ := nu_of hW.facts (blks W (bL V i)) blks_ok
  have h1 := rulesK_ok hW hi g5
  have h2 := rulesE_ok hW hi g5
  have hmod : Nat.mod (kS V.x i) 4 = kT V.x i := by show kS V.x i % 4 = _; unfold kS kT; omega
  have hr := R.rounds (kS V.x i) (kS_lt V.x i)
  unfold roundsK at hr
  rw [forceN_eq, hmod] at hr
  obtain ⟨tb, ht, hr⟩ := mkTblZ_true noNG h1 (splitOk (g3 _ _)) fnsQ_ok (tab1_at R.toStages (g2 _ _) (g3 _ _) g4) hr
  have hr := allB_true (allB_true hr i (by omega)) (kM V.x i) (kM_lt V.x i)
  refine wp_mono (piece (h2.append h1) (g3 _ _) ht hr (start_st hA g4 g1)) ?_
  intro e a' W' hp
  cases e with
  | normal =>
    obtain ⟨φ', ts', h', hst, hx, _, hk⟩ := hp
    obtain ⟨k1, k2⟩ := andB_true hk
    obtain ⟨k2, k3⟩ := andB_true k2
    exact hQ a' W' (LoopA.next (i := i) (G := G) hst.fr.size (defers_nil k1 hst.dr) (slots_true hst.fr k3) (int_slot hst.fr k2 (by omega))) (below_of_ext hx phi_lim)
  | exit id =>
    obtain ⟨φ', ts', h', hst, hx, _, hk⟩ := hp
    cases hk
  | ret =>
    obtain ⟨φ', ts', h', hst, hx, _, hk⟩ := hp
    cases hk
  | panic chain =>
    obtain ⟨φ', ts', h', v, av, _, _, _, _, _, hk⟩ := hp
    cases hk
  | goto l => exact hp.elim
  | outgrown => exact hp.elim
/-- the last round -/
theorem exit_wp (R : Runs) {V : LV} (h0 : 0 < V.n) (hn : V.n ≤ 8) {a : Act} {W : World} (hA : LoopA V V.n a) (hF : Facts W) {Q : Exit → Act → World → Prop} (hQ : ∀ a' W', a'.tmps.size = 414 → a'.defers = [] → a'.tmps.getD 1 undef = .int .u8 V.z → Below W.heap.size W W' → Q (.exit 2) a' W') : Code.wp Tryz.prog loopC Q a W := by
  obtain ⟨G, g1, g2, g3, g4, g5⟩ := nu_of hF [] (fun b o h => by cases h)
  have hr := R.exits V.n (by omega) h0
  unfold exitR at hr
  obtain ⟨tb, ht, hr⟩ := mkTblZ_true noNG sym_nil (splitOk (g3 (fOf V V.n) (vOf V V.n))) (show FnsOkZ Tryz.prog [] from trivial) (tab1_at R.toStages (g2 _ _) (g3 _ _) g4) hr
  have hS : SymOk Tryz.prog ⟨fOf V V.n, G, vOf V V.n⟩ (rulesX V.n) := by
    unfold rulesX
    refine symCons (Rule.len_ok (by omega) (show vOf V V.n 1700 = _ from rfl) Tryz.underlying22 (fun φ => .sym _ _ (by rw [Nu.val_num _ _ (by omega)]; rfl))) ?_
    refine symCons ⟨by omega, fun t w m h1 h2 => ⟨.bool false, ?_, fun φ => .bool _⟩⟩ SymOk.nil
    have e : m = V.n := by omega
    subst e
    have e : (⟨fOf V V.n, G, vOf V V.n⟩ : Nu).f 20 = Int.ofNat V.n := rfl
    rw [e]
    simp [binOp, Op.intCmp]
  refine wp_mono (piece hS (g3 _ _) ht hr (start_st hA g4 g1)) ?_
  intro e a' W' hp
  cases e with
  | normal =>
    obtain ⟨φ', ts', h', hst, hx, _, hk⟩ := hp
    cases hk
  | exit id =>
    obtain ⟨φ', ts', h', hst, hx, _, hk⟩ := hp
    obtain ⟨k1, k2⟩ := andB_true (show andB (Nat.beq id 2) (andB (noDs h') (slotsB [(1, .u8, 2)] ts')) = true from hk)
    obtain ⟨k2, k3⟩ := andB_true k2
    have e := Nat.eq_of_beq_eq_true k1
    subst e
    exact hQ a' W' hst.fr.size (defers_nil k2 hst.dr) (slots_true hst.fr k3 (1, .u8, 2) List.mem_cons_self (by omega)) (below_of_ext hx phi_lim)
  | ret =>
    obtain ⟨φ', ts', h', hst, hx, _, hk⟩ := hp
    cases hk
  | panic chain =>
    obtain ⟨φ', ts', h', v, av, _, _, _, _, _, hk⟩ := hp
    cases hk
  | goto l => exact hp.elim
  | outgrown => exact hp.elim
/-- the loop -/
theorem loop_wp (R : Runs) {V : LV} (h0 : 0 < V.n) (hn : V.n ≤ 8) {a : Act} {W : World} (hA : LoopA V 0 a) (hW : LoopW V W) {Q : Exit → Act → World → Prop} (hQ : ∀ a' W', a'.tmps.size = 414 → a'.defers = [] → a'.tmps.getD 1 undef = .int .u8 V.z → Below W.heap.size W W' → Q (.exit 2) a' W') : Code.wp Tryz.prog (.loop loopC) Q a W := by
  refine wp_loop (fun a' W' => ∃ i, i ≤ V.n ∧ LoopA V i a' ∧ Below W.heap.size W W') (fun a' _ => V.n - (match a'.tmps.getD 20 undef with | .int _ k => k.toNat | _ => 0)) ⟨0, Nat.zero_le _, hA, Below.refl _ _⟩ ?_
  rintro a1 W1 ⟨i, hi, hA1, hb⟩
  by_cases hlt : i < V.n
  · refine round_wp R hlt hn hA1 (hW.below hb) fun a' W' hA' hb' => ⟨⟨i + 1, hlt, hA', hb.trans (hb'.mono hb.size)⟩, ?_⟩
    rw [hA1.s20, hA'.s20]
    show V.n - ((i + 1 : Nat) : Int).toNat < V.n - (i : Int).toNat
    omega
  · have e : i = V.n := by omega
    subst e
    refine exit_wp R h0 hn hA1 (hW.facts.below hb) fun a' W' q1 q2 q3 hb' => hQ a' W' q1 q2 q3 (hb.trans (hb'.mono hb.size))
/-- behind the loops -/
theorem tail_wp (R : Runs) {a : Act} {W : World} {z : Int} (hz : 0 ≤ z ∧ z ≤ 255) (hsz : a.tmps.size = 414) (hd : a.defers = []) (h1 : a.tmps.getD 1 undef = .int .u8 z) (hF : Facts W) {Rf : Ending → World → Prop} (hR : ∀ W', Below W.heap.size W W' → Rf (.returned (.bool true)) W') : Code.wp Tryz.prog tailC (bodyPost Tryz.prog Tryz.f3 Rf) a W := by
  obtain ⟨G, g1, g2, g3, g4, g5⟩ := nu_of hF [] (fun b o h => by cases h)
  obtain ⟨ν, hν⟩ : ∃ ν : Nu, ν = ⟨fun _ => z, G, fun _ => undef⟩ := ⟨_, rfl⟩
  have g3 : IntCell ν 3 := by rw [hν]; exact g3 _ _
  have g2 : TabCell Tryz.prog ν "strings.asciiSpace" .u8 Lib.asciiSpaceTab := by rw [hν]; exact g2 _ _
  have g4 : ∀ q ∈ gls, ∃ fr, (q.g, q.obj fr) ∈ ν.G := by rw [hν]; exact g4
  have g1 : ∀ b o, (b, o) ∈ ν.G → W.heap[b]? = some o := by rw [hν]; exact g1
  have hf : ∀ s, ν.f s = z := fun s => by rw [hν]
  have hr := R.tails
  unfold tailRs at hr
  obtain ⟨tb, ht, hr⟩ := mkTblZ_true noNG sym_nil (splitOk g3) fnsZ_ok (tab2_at R.toStages g2 g3 g4) hr
  have hr := allB_true hr (z % 10).toNat (by omega)
  have hS : SymOk Tryz.prog ν (rulesZ (z % 10).toNat) := by
    unfold rulesZ
    refine symCons (Rule.conv_ok (by omega) (by omega) (by rw [hf]; exact hz.1) (by rw [hf]; exact hz.2) (by rw [hf, hf])) ?_
    refine symCons ⟨by omega, fun t w m h1 h2 => ⟨.int .i64 (.ofNat (z % 10).toNat), ?_, fun φ => .int _ _⟩⟩ SymOk.nil
    have e : m = 10 := by omega
    subst e
    rw [hf]
    have e2 : z % 10 = ((z % 10).toNat : Int) := by omega
    simp [binOp, Op.intDiv, Int.tmod_eq_emod_of_nonneg hz.1]
    omega
  have hrr := hs_HR (ν := ν) g4 (w := W) g1
  have hst : St (phiOf gls) ν 5 414 (tsOf [(1, .u8, 2)] (FT.unk 5)) hs a W := ⟨fr_slots (FR.ofUnk hsz hrr.gp) (fun p hp => by
    rcases List.mem_singleton.1 hp with rfl
    exact ⟨by show (1 : Nat) < 414; omega, by show a.tmps.getD 1 undef = ν.val .u8 2; rw [h1, Nu.val_num _ _ (by omega), hf]⟩), hrr, by rw [hd]; exact trivial⟩
  refine wp_mono (piece hS g3 ht hr hst) ?_
  intro e a' W' hp
  cases e with
  | normal =>
    obtain ⟨φ', ts', h', hst, hx, _, hk⟩ := hp
    cases hk
  | exit id =>
    obtain ⟨φ', ts', h', hst, hx, _, hk⟩ := hp
    cases hk
  | ret =>
    obtain ⟨φ', ts', h', hst, hx, _, hk⟩ := hp
    obtain ⟨k1, k2⟩ := andB_true (show andB (noDs h') (eqR noB (.bool true) (FT.get 5 4 ts')) = true from hk)
    have hv := closed3_VR (a := .bool true) (v := .bool true) rfl (eqR_VR (φ0 := φ') (fun i j hij => by cases hij) k2 (hst.fr.getD (i := 4) (by omega)))
    refine bodyPost_ret (v := .bool true) ?_ (defers_nil k1 hst.dr) (hR W' (below_of_ext hx phi_lim))
    show (results Tryz.f3 a'.tmps).run Tryz.prog W' = _
    have hres : Tryz.f3.results = #[.tmp 4] := rfl
    simp only [results, hres]
    have hv' : a'.tmps[4]?.getD undef = .bool true := by rw [← hv]; simp
    simp [hv']
  | panic chain =>
    obtain ⟨φ', ts', h', v, av, _, _, _, _, _, hk⟩ := hp
    cases hk
  | goto l => exact hp.elim
  | outgrown => exact hp.elim
end Go.Proofs.YtkghfmfciekbdaaGreatDoor
