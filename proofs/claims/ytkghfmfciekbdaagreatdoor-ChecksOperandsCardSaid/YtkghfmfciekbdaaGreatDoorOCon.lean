/-
  The calls at slices of tokens and at the layout, out of the evaluator's runs (hypotheses here): for any world that holds the listed tables, and any place of the slice.
-/
import Derived.Test.YtkghfmfciekbdaaGreatDoorOTok
import Derived.Test.YtkghfmfciekbdaaGreatDoorWTgt
set_option linter.unusedVariables false
set_option linter.unusedSimpArgs false
namespace Go.Proofs.YtkghfmfciekbdaaGreatDoor
open Go Go.Abs Go.RowKit
set_option linter.unusedVariables false
set_option linter.unusedSimpArgs false
set_option maxRecDepth 100000
/-- what the kernel ran, of the calls -/
structure RunsC : Prop extends Runs where
  opS : ∀ k j, k < 8 → j < 9 → opS k j = true
  opT : ∀ k j, k < 4 → j < 5 → opT k j = true
  opM : ∀ k, k < 4 → opM k = true
  rd0 : ∀ j, j < 4 → rd0 j = true
  rd1 : rd1 = true
  rd1n : ∀ j, j < 4 → rd1n j = true
  rd2 : rd2 = true
  lt : ∀ k, k < 4 → ltR k = true
  ident : ∀ k, k < 4 → idR k = true
  opnd : ∀ k, k < 8 → onR k = true
  shp : ∀ k, k < 4 → shR k = true
  unit : runB = true

/-- a heap at the start that speaks of a world -/
def HeapAt (W : World) (h0 : H) (pre : List AV) (pvs : List Value) : Prop :=
  ∀ ν : Nu, (∀ q ∈ gls, ∃ fr, (q.g, q.obj fr) ∈ ν.G) → (∀ b o, (b, o) ∈ ν.G → W.heap[b]? = some o) → ∃ φ0, HR φ0 ν h0 W ∧ (∀ id ver p, φ0 id ver = some p → id < h0.ro.lim) ∧ VRs φ0 ν pre pvs
theorem heapHs (W : World) : HeapAt W hs [] [] := fun ν g4 g1 => ⟨phiOf gls, hs_HR g4 g1, phi_lim, .nil⟩
theorem tok_said (R : Stages) {fns : List FnE} (hfns : FnsOkZ Tryz.prog fns) {f : Nat} (hb : hasBody Tryz.prog f = true) {h0 : H} {pre : List AV} {pvs : List Value} {ex : Bool} {l : List (Nat × Nat × Nat)} {av : AV} {v : Value} (hav : closed3 av = some v)
    (hrun : tokRun fns h0 pre f ex l av = true) {W : World} (hF : Facts W) (hH : HeapAt W h0 pre pvs) {b q L cap : Nat} (hL : l.length ≤ L) (hcap : L ≤ cap) (h20 : l.length ≤ 20) (hex : ex = true → L = l.length) {C : Nat → Value} (hC : TokCells C l)
    (hc : ∀ j, j < 5 * l.length → W.cell? ⟨b, q + j, none⟩ = some (C j)) : Calls Tryz.prog f ⟨pvs ++ [.slice (some ⟨b, q, none⟩) L cap]⟩ W fun e w' => e = .returned v ∧ Below W.heap.size W w' := by
  obtain ⟨G, g1, g2, g3, g4, g5⟩ := nu_of hF (blks W [b]) blks_ok
  obtain ⟨ν, hν⟩ : ∃ ν : Nu, ν = ⟨tokF 10 L, G, tokV 1000 b q L cap⟩ := ⟨_, rfl⟩
  have g3 : IntCell ν 3 := by rw [hν]; exact g3 _ _
  have g2 : TabCell Tryz.prog ν "strings.asciiSpace" .u8 Lib.asciiSpaceTab := by rw [hν]; exact g2 _ _
  have hS : SymOk Tryz.prog ν (tR ex l) := by
    refine tokRules_ok tokTy (tokAt_of (b := b) (q := q) (L := L) (cap := cap) (by omega) ⟨h20, hL, hcap⟩ (by omega) (fun s _ _ => by rw [hν]) (fun s _ _ => by rw [hν])) hC hex (fun w hw j hj => ?_)
    exact blks_cell (G := ν.G) (fun p hp => by rw [hν]; exact g5 p hp) (by simp) (hc j hj) w hw
  have hr := hrun
  unfold tokRun at hr
  obtain ⟨t, ht, hr⟩ := mkTblZ_true noNG hS (splitOk g3) hfns (tab1_at R g2 g3 (by rw [hν]; exact g4)) hr
  obtain ⟨φ0, h1, h2, h3⟩ := hH ν (by rw [hν]; exact g4) (by rw [hν]; exact g1)
  refine said ht hb hav hr h1 h2 (VRs.append h3 (.cons (.sym _ _ ?_) .nil))
  rw [Nu.val_slice (a := some ⟨b, q, none⟩) (l := L) (c := cap) (by omega) (by rw [hν]; rfl)]
/-- the layout -/
def LayAt (B : Nat) (W : World) : Prop := layX.At W B ∧ ∀ q ∈ gls, q.g ≠ B
theorem LayAt.below {B : Nat} {W W' : World} (h : LayAt B W) (hb : Below W.heap.size W W') : LayAt B W' := ⟨h.1.below hb, h.2⟩
def layV (B : Nat) : Value := .agg #[.slice (some ⟨B, 0, none⟩) 20 20, .int .i64 57]
theorem gls_lt : ∀ q ∈ gls, q.g < 16 := by
  intro q hq
  simp only [gls, List.mem_cons, List.mem_nil_iff, or_false] at hq
  rcases hq with rfl | rfl | rfl | rfl <;> decide
theorem heapHl {W : World} {B : Nat} (hl : LayAt B W) {pre : List AV} {pvs : List Value} (hp : ∀ φ ν, VRs φ ν pre pvs) : HeapAt W Go.Proofs.YtkghfmfciekbdaaGreatDoor.hl (layA :: pre) (layV B :: pvs) := by
  intro ν g4 g1
  obtain ⟨sz, h1, h2, h3⟩ := h1_HR (x := layX) (hs_HR (ν := ν) g4 g1) hl.1 (by decide) (by decide) (fun q hq => ⟨gls_lt q hq, hl.2 q hq⟩)
  refine ⟨_, h1, h2, .cons ?_ (hp _ _)⟩
  exact .agg (.cons (.sl (cap := 20) (off' := 0) h3 (Nat.le_refl _) (Nat.le_refl _) (fun _ => rfl) (fun e => by cases e)) (.cons (.int _ _) .nil)) (fun v hv => by
    simp only [List.mem_cons, List.mem_nil_iff, or_false] at hv
    rcases hv with rfl | rfl <;> rfl)

/-! ### tokens of a list, from a place on -/
theorem tok_at (R : Stages) {fns : List FnE} (hfns : FnsOkZ Tryz.prog fns) {f : Nat} (hb : hasBody Tryz.prog f = true) {h0 : H} {pre : List AV} {pvs : List Value} {ex : Bool} {tks : List (Nat × Nat × Nat)} {av : AV} {v : Value} (hav : closed3 av = some v)
    (hrun : tokRun fns h0 pre f ex tks av = true) {W : World} (hF : Facts W) (hH : HeapAt W h0 pre pvs) {b q L cap : Nat} (hL : tks.length ≤ L) (hcap : L ≤ cap) (h20 : tks.length ≤ 20) (hex : ex = true → L = tks.length) {l : List (Int × ByteArray)} {o : Nat}
    (h : ∀ i t, tks[i]? = some t → l[o + i]? = some (tokOf t)) (hs : ∀ t ∈ tks, StrOk t) (hc : ∀ j, j < 5 * tks.length → W.cell? ⟨b, q + j, none⟩ = some (cellsC l (o * 5 + j))) :
    Calls Tryz.prog f ⟨pvs ++ [.slice (some ⟨b, q, none⟩) L cap]⟩ W fun e w' => e = .returned v ∧ Below W.heap.size W w' := tok_said R hfns hb hav hrun hF hH hL hcap h20 hex (tokCells_of h hs) hc
theorem idx_app {A B : List (Nat × Nat × Nat)} {l : List (Int × ByteArray)} {o : Nat} (h1 : ∀ i t, A[i]? = some t → l[o + i]? = some (tokOf t)) (h2 : ∀ i t, B[i]? = some t → l[o + A.length + i]? = some (tokOf t)) : ∀ i t, (A ++ B)[i]? = some t → l[o + i]? = some (tokOf t) := by
  intro i t h
  by_cases hi : i < A.length
  · rw [List.getElem?_append_left hi] at h; exact h1 i t h
  · rw [List.getElem?_append_right (by omega)] at h
    have := h2 _ t h
    rwa [show o + A.length + (i - A.length) = o + i by omega] at this
theorem idx_of {E : Nat → List (Int × ByteArray)} {m k : Nat} (hk : k < m) {P Q : List (Int × ByteArray)} {A : List (Nat × Nat × Nat)} (hE : E k = P ++ (A.map tokOf ++ Q)) : ∀ i t, A[i]? = some t → (cat E m)[(cat E k).length + P.length + i]? = some (tokOf t) := by
  intro i t h
  have hi := (List.getElem?_eq_some_iff.1 h).1
  have hi2 : P.length + i < (E k).length := by rw [hE]; simp; omega
  rw [Nat.add_assoc, cat_get hk hi2, hE, List.getElem?_append_right (by omega), show P.length + i - P.length = i by omega, List.getElem?_append_left (by simpa using hi)]
  simp [h]
theorem idx_take {A : List (Nat × Nat × Nat)} {n : Nat} {l : List (Int × ByteArray)} {o : Nat} (h : ∀ i t, A[i]? = some t → l[o + i]? = some (tokOf t)) : ∀ i t, (A.take n)[i]? = some t → l[o + i]? = some (tokOf t) := by
  intro i t ht
  rw [List.getElem?_take] at ht
  split at ht
  · exact h i t ht
  · cases ht
theorem idx_nil {l : List (Int × ByteArray)} {o : Nat} : ∀ i t, ([] : List (Nat × Nat × Nat))[i]? = some t → l[o + i]? = some (tokOf t) := fun i t h => by simp at h
theorem str_app {A B : List (Nat × Nat × Nat)} (h1 : ∀ t ∈ A, StrOk t) (h2 : ∀ t ∈ B, StrOk t) : ∀ t ∈ A ++ B, StrOk t := fun t ht => (List.mem_append.1 ht).elim (h1 t) (h2 t)
theorem str_take {A : List (Nat × Nat × Nat)} {n : Nat} (h1 : ∀ t ∈ A, StrOk t) : ∀ t ∈ A.take n, StrOk t := fun t ht => h1 t (List.mem_of_mem_take ht)
theorem str_nil : ∀ t ∈ ([] : List (Nat × Nat × Nat)), StrOk t := fun t ht => by cases ht
theorem sndK_len {k : Nat} (hk : k < 8) : (sndK k).length = nS k := by rw [sndK, List.length_map, lenS hk]
theorem tgtK_len {k : Nat} (hk : k < 4) : (tgtK k).length = nT k := by rw [tgtK, List.length_map, lenT hk]
def nM (k : Nat) : Nat := [0, 1, 4, 3, 4].getD k 0
theorem lenM {k : Nat} (hk : k < 5) : (modA k).length = nM k := by
  match k, hk with
  | 0, _ | 1, _ | 2, _ | 3, _ | 4, _ => rfl
theorem modK_len {k : Nat} (hk : k < 5) : (modK k).length = nM k := by rw [modK, List.length_map, lenM hk]
theorem nS_pos {k : Nat} (hk : k < 8) : 0 < nS k := by
  match k, hk with
  | 0, _ | 1, _ | 2, _ | 3, _ | 4, _ | 5, _ | 6, _ | 7, _ => decide
theorem nT_pos {k : Nat} (hk : k < 4) : 0 < nT k := by
  match k, hk with
  | 0, _ | 1, _ | 2, _ | 3, _ => decide

/-! ### the senders -/
theorem nextS_len {j : Nat} (hj : j < 8) : (nextS j).length = 1 := by
  have h1 := lenS hj
  have h2 := nS_pos hj
  unfold nextS
  rw [List.length_take]; omega
theorem opcall_S (R : RunsC) {w : World} (hF : Facts w) (x : Nat → Int) (m b off : Nat) {k : Nat} (hk : k < m) : OpCall w b off (cat (eS x) m).length (cellsC (cat (eS x) m)) (cat (eS x) k).length (nS (kS x k)) := by
  intro W cap hB hcap hb hc
  have hκ := kS_lt x k
  have l1 := lenS hκ
  have l2 : (eS x k).length = nS (kS x k) := sndK_len hκ
  have l3 := cat_len (eS x) k
  have l4 := cat_le (eS x) (show k + 1 ≤ m from hk)
  have z6 := nS_le (kS x k)
  have hav : ∀ n : Nat, closed3 (.tup [.int .i64 (.ofNat n), .int .i64 (.ofNat 0)]) = some (.tuple #[.int .i64 n, .int .i64 0]) := fun n => rfl
  have i1 : ∀ i t, (sndA (kS x k))[i]? = some t → (cat (eS x) m)[(cat (eS x) k).length + i]? = some (tokOf t) := idx_of hk (P := []) (Q := []) (by simp [eS, sndK])
  by_cases h : k + 1 < m
  · have hκ' := kS_lt x (k + 1)
    have l5 := nextS_len hκ'
    have l6 : (eS x (k + 1)).length = nS (kS x (k + 1)) := sndK_len hκ'
    have l7 := cat_len (eS x) (k + 1)
    have l8 := cat_le (eS x) (show k + 1 + 1 ≤ m from h)
    have l9 := nS_pos hκ'
    have hr := R.opS (kS x k) (kS x (k + 1)) hκ (by omega)
    unfold opS opR at hr
    have he : (nextS (kS x (k + 1))).isEmpty = false := by cases hn : nextS (kS x (k + 1)) with | nil => rw [hn] at l5; cases l5 | cons a l => rfl
    rw [he] at hr
    have hl' : (sndA (kS x k) ++ nextS (kS x (k + 1))).length = nS (kS x k) + 1 := by rw [List.length_append, l1, l5]
    have := tok_at R.toStages fnsA_ok (by kernel_rfl) (hav _) hr (hF.below hB) (heapHs W) (b := b) (q := off + (cat (eS x) k).length * 5) (L := (cat (eS x) m).length - (cat (eS x) k).length) (cap := cap) (by omega) hcap (by omega) (fun e => by cases e) (l := cat (eS x) m) (o := (cat (eS x) k).length)
      (idx_app i1 (by
        have := idx_take (n := 1) (idx_of h (E := eS x) (P := []) (Q := []) (A := sndA (kS x (k + 1))) (by simp [eS, sndK]))
        intro i t ht
        have := this i t ht
        simpa [l3, l2, l1] using this)) (str_app (strS hκ) (str_take (strS hκ'))) (fun j hj => hc j (by omega))
    rw [l1] at this
    exact this
  · have e : k + 1 = m := by omega
    subst e
    have hr := R.opS (kS x k) 8 hκ (by omega)
    unfold opS opR at hr
    have he : nextS 8 = [] := rfl
    rw [he, List.append_nil] at hr
    have := tok_at R.toStages fnsA_ok (by kernel_rfl) (hav _) hr (hF.below hB) (heapHs W) (b := b) (q := off + (cat (eS x) k).length * 5) (L := (cat (eS x) (k + 1)).length - (cat (eS x) k).length) (cap := cap) (by omega) hcap (by omega) (fun _ => by omega) (l := cat (eS x) (k + 1)) (o := (cat (eS x) k).length)
      i1 (strS hκ) (fun j hj => hc j (by omega))
    rw [l1] at this
    exact this
theorem operc_S (R : RunsC) {w : World} (hF : Facts w) {B : Nat} (hL : LayAt B w) (x : Nat → Int) (m : Nat) {k : Nat} (hk : k < m) : OperC (layV B) 83 w (nS (kS x k)) (fun j => cellsC (cat (eS x) m) ((cat (eS x) k).length * 5 + j)) (itmI (kS x k)) := by
  intro W g hB hg hc
  have hκ := kS_lt x k
  have l1 := lenS hκ
  have z6 := nS_le (kS x k)
  have hr := R.opnd (kS x k) hκ
  unfold onR at hr
  have hav : ∀ κ, κ < 8 → closed3 (.tup [itmA κ, z3]) = some (.tuple #[.int .i64 (itmI κ), .agg #[.int .i64 0, .int .i64 0, .int .i64 0]]) := by
    intro κ hκ
    match κ, hκ with
    | 0, _ | 1, _ | 2, _ | 3, _ | 4, _ | 5, _ | 6, _ | 7, _ => rfl
  have i1 : ∀ i t, (sndA (kS x k))[i]? = some t → (cat (eS x) m)[(cat (eS x) k).length + i]? = some (tokOf t) := idx_of hk (P := []) (Q := []) (by simp [eS, sndK])
  have := tok_at R.toStages fnsI_ok (by kernel_rfl) (hav _ hκ) hr (hF.below hB) (heapHl (hL.below hB) (pre := [.int .u8 (.ofNat 83)]) (pvs := [.int .u8 83]) (fun φ ν => .cons (.int _ _) .nil)) (b := g) (q := 0) (L := nS (kS x k)) (cap := nS (kS x k)) (by omega) (Nat.le_refl _) (by omega) (fun _ => by omega) (l := cat (eS x) m) (o := (cat (eS x) k).length)
    i1 (strS hκ) (fun j hj => by rw [Nat.zero_add]; exact hc j (by omega))
  exact this

/-! ### the targets -/
theorem results_tmp_tmp_cell {fn : Func} {p u v : Tmp} {ty : TypeId} (h : fn.results = #[.tmp u, .tmp v, .cell p ty]) (tmps : Array Value) (P : Program) (w : World) :
    (results fn tmps).run P w = ((asAddr (tmps.getD p undef)).run P w).andThen fun a w₁ => ((loadVar ty a).run P w₁).andThen fun x w₂ => .ok (.tuple #[tmps.getD u undef, tmps.getD v undef, x]) w₂ := by
  simp only [results, h]
  simp [Sem.run_bind, Result.andThen]
set_option maxHeartbeats 400000 in
set_option maxRecDepth 1000000 in
/-- Rounded where nothing is left -/
theorem rounded_none (ad : Option Addr) (cap : Nat) (w : World) : Calls Tryz.prog 13 #[.slice ad 0 cap] w fun e w' => e = .returned (.tuple #[.int .u8 0, .int .i64 0, .agg #[.int .i64 0, .int .i64 0, .int .i64 0]]) ∧ Below w.heap.size w w' := by
  go_enter Tryz.func13, Tryz.ntmps13
  go_wp2
  (try simp only [Exit.inBlock, Exit.then]); refine bodyPost_ret (v := .tuple #[.int .u8 0, .int .i64 0, .agg #[.int .i64 0, .int .i64 0, .int .i64 0]]) ((results_tmp_tmp_cell rfl _ _ _).trans ?_) rfl ?_
  · go_simp
  · exact ⟨rfl, (Below.refl _ _).alloc (Nat.le_refl _) _⟩
def kndN (k : Nat) : Nat := [0, 1, 2, 0, 6].getD k 0
def catN (k : Nat) : Nat := [4, 5, 4, 4].getD k 4
noncomputable def shV (k i : Nat) : Value := match closed3 (shpA k) with
  | some (.agg cs) => cs.getD i undef
  | _ => undef
def ShpOk (k : Nat) : Prop := closed3 (shpA k) = some (.agg #[.int .u8 (catN k), shV k 1, shV k 2, shV k 3, shV k 4, shV k 5, shV k 6, shV k 7, shV k 8, shV k 9, shV k 10])
theorem shp0 : closed3 (shpA 0) = some (.agg #[.int .u8 (catN 0), shV 0 1, shV 0 2, shV 0 3, shV 0 4, shV 0 5, shV 0 6, shV 0 7, shV 0 8, shV 0 9, shV 0 10]) := by kernel_rfl
theorem shp1 : closed3 (shpA 1) = some (.agg #[.int .u8 (catN 1), shV 1 1, shV 1 2, shV 1 3, shV 1 4, shV 1 5, shV 1 6, shV 1 7, shV 1 8, shV 1 9, shV 1 10]) := by kernel_rfl
theorem shp2 : closed3 (shpA 2) = some (.agg #[.int .u8 (catN 2), shV 2 1, shV 2 2, shV 2 3, shV 2 4, shV 2 5, shV 2 6, shV 2 7, shV 2 8, shV 2 9, shV 2 10]) := by kernel_rfl
theorem shp3 : closed3 (shpA 3) = some (.agg #[.int .u8 (catN 3), shV 3 1, shV 3 2, shV 3 3, shV 3 4, shV 3 5, shV 3 6, shV 3 7, shV 3 8, shV 3 9, shV 3 10]) := by kernel_rfl
theorem shp_closed {k : Nat} (hk : k < 4) : closed3 (shpA k) = some (.agg #[.int .u8 (catN k), shV k 1, shV k 2, shV k 3, shV k 4, shV k 5, shV k 6, shV k 7, shV k 8, shV k 9, shV k 10]) := by
  match k, hk with
  | 0, _ => exact shp0
  | 1, _ => exact shp1
  | 2, _ => exact shp2
  | 3, _ => exact shp3
theorem nextT_len {j : Nat} (hj : j < 4) : (nextT j).length = 1 := by
  have h1 := lenT hj
  have h2 := nT_pos hj
  unfold nextT
  rw [List.length_take]; omega
theorem mod_head {μ : Nat} (h0 : μ ≠ 0) (hμ : μ < 5) : ∃ r, modA μ = (modA 1).take 1 ++ r := by
  match μ, hμ with
  | 0, _ => exact absurd rfl h0
  | 1, _ => exact ⟨[], rfl⟩
  | 2, _ => exact ⟨_, rfl⟩
  | 3, _ => exact ⟨_, rfl⟩
  | 4, _ => exact ⟨_, rfl⟩
theorem tgtc (R : RunsC) {w : World} (hF : Facts w) {B : Nat} (hLa : LayAt B w) (x : Nat → Int) (m b off : Nat) {k : Nat} (hk : k < m) :
    TgtC (layV B) w b (off + (cat (eT x) k).length * 5) ((cat (eT x) m).length - (cat (eT x) k).length) (nT (kT x k)) (nM (kM x k)) (fun j => cellsC (cat (eT x) m) ((cat (eT x) k).length * 5 + j)) (sptI (kT x k)) false (catN (kT x k)) (shV (kT x k)) (kndN (kM x k)) := by
  have hτ := kT_lt x k
  have hμ := kM_lt x k
  have l1 := lenT hτ
  have l1m := lenM hμ
  have l2 : (eT x k).length = nT (kT x k) + nM (kM x k) := by simp [eT, tgtK_len hτ, modK_len hμ]
  have l3 := cat_len (eT x) k
  have l4 := cat_le (eT x) (show k + 1 ≤ m from hk)
  have z4 := nT_le (kT x k)
  have zp := nT_pos hτ
  have i1 : ∀ i t, (tgtA (kT x k))[i]? = some t → (cat (eT x) m)[(cat (eT x) k).length + i]? = some (tokOf t) := idx_of hk (P := []) (Q := modK (kM x k)) (by simp [eT, tgtK])
  have i2 : ∀ i t, (modA (kM x k))[i]? = some t → (cat (eT x) m)[(cat (eT x) k).length + (tgtA (kT x k)).length + i]? = some (tokOf t) := by
    have := idx_of hk (E := eT x) (P := tgtK (kT x k)) (Q := []) (A := modA (kM x k)) (by simp [eT, modK])
    rw [tgtK_len hτ] at this
    rw [l1]; exact this
  -- the next one's first word
  have i3 : k + 1 < m → ∀ i t, (nextT (kT x (k + 1)))[i]? = some t → (cat (eT x) m)[(cat (eT x) (k + 1)).length + i]? = some (tokOf t) := fun h => idx_take (n := 1) (idx_of h (E := eT x) (P := []) (Q := modK (kM x (k + 1))) (A := tgtA (kT x (k + 1))) (by simp [eT, tgtK]))
  have l6 : k + 1 < m → (cat (eT x) (k + 1)).length + 1 ≤ (cat (eT x) m).length := fun h => by
    have h1 := cat_len (eT x) (k + 1)
    have h2 := cat_le (eT x) (show k + 1 + 1 ≤ m from h)
    have h3 : (eT x (k + 1)).length = nT (kT x (k + 1)) + nM (kM x (k + 1)) := by simp [eT, tgtK_len (kT_lt x _), modK_len (kM_lt x _)]
    have h4 := nT_pos (kT_lt x (k + 1))
    omega
  have l7 : ¬ k + 1 < m → (cat (eT x) (k + 1)).length = (cat (eT x) m).length := fun h => by rw [show k + 1 = m by omega]
  have hav : ∀ n : Nat, closed3 (.tup [.int .i64 (.ofNat n), .int .i64 (.ofNat 0)]) = some (.tuple #[.int .i64 n, .int .i64 0]) := fun n => rfl
  have hne : ∀ {l : List (Nat × Nat × Nat)}, l.length = 1 → l.isEmpty = false := fun {l} h => by cases l with | nil => cases h | cons a l => rfl
  have hm0 : kM x k = 0 → nM (kM x k) = 0 := fun e => by rw [e]; rfl
  refine ⟨?_, ?_, ?_, ?_, ?_⟩
  · -- the operand
    intro W cap hB hcap hc
    by_cases h0 : kM x k = 0
    · have hn0 := hm0 h0
      by_cases h : k + 1 < m
      · have hτ' := kT_lt x (k + 1)
        have l5 := nextT_len hτ'
        have hr := R.opT (kT x k) (kT x (k + 1)) hτ (by omega)
        unfold opT opR at hr
        rw [hne l5] at hr
        have hl' : (tgtA (kT x k) ++ nextT (kT x (k + 1))).length = nT (kT x k) + 1 := by rw [List.length_append, l1, l5]
        have l8 := l6 h
        have := tok_at R.toStages fnsA_ok (by kernel_rfl) (hav _) hr (hF.below hB) (heapHs W) (b := b) (q := off + (cat (eT x) k).length * 5) (L := (cat (eT x) m).length - (cat (eT x) k).length) (cap := cap) (by omega) hcap (by omega) (fun e => by cases e) (l := cat (eT x) m) (o := (cat (eT x) k).length)
          (idx_app i1 (by intro i t ht; have := i3 h i t ht; rwa [l3, l2, hn0, Nat.add_zero, ← l1] at this)) (str_app (strT hτ) (str_take (strT hτ'))) (fun j hj => hc j (by omega))
        rw [l1] at this
        exact this
      · have l8 := l7 h
        have hr := R.opT (kT x k) 4 hτ (by omega)
        unfold opT opR at hr
        rw [show nextT 4 = [] from rfl, List.append_nil] at hr
        have := tok_at R.toStages fnsA_ok (by kernel_rfl) (hav _) hr (hF.below hB) (heapHs W) (b := b) (q := off + (cat (eT x) k).length * 5) (L := (cat (eT x) m).length - (cat (eT x) k).length) (cap := cap) (by omega) hcap (by omega) (fun _ => by omega) (l := cat (eT x) m) (o := (cat (eT x) k).length)
          i1 (strT hτ) (fun j hj => hc j (by omega))
        rw [l1] at this
        exact this
    · obtain ⟨r, hrr⟩ := mod_head h0 hμ
      have l5 : ((modA 1).take 1).length = 1 := rfl
      have l9 : 1 ≤ nM (kM x k) := by rw [← l1m, hrr, List.length_append, l5]; omega
      have hr := R.opM (kT x k) hτ
      unfold opM opR at hr
      rw [hne l5] at hr
      have hl' : (tgtA (kT x k) ++ (modA 1).take 1).length = nT (kT x k) + 1 := by rw [List.length_append, l1, l5]
      have := tok_at R.toStages fnsA_ok (by kernel_rfl) (hav _) hr (hF.below hB) (heapHs W) (b := b) (q := off + (cat (eT x) k).length * 5) (L := (cat (eT x) m).length - (cat (eT x) k).length) (cap := cap) (by omega) hcap (by omega) (fun e => by cases e) (l := cat (eT x) m) (o := (cat (eT x) k).length)
        (idx_app i1 (by intro i t ht; exact i2 i t (by rw [hrr, List.getElem?_append_left (List.getElem?_eq_some_iff.1 ht).1]; exact ht))) (str_app (strT hτ) (str_take (strM (by omega)))) (fun j hj => hc j (by omega))
      rw [l1] at this
      exact this
  · -- no literal
    intro W cap hB hcap hc
    have hr := R.lt (kT x k) hτ
    unfold ltR at hr
    exact tok_at R.toStages fnsA_ok (by kernel_rfl) (v := .bool false) rfl hr (hF.below hB) (heapHs W) (b := b) (q := off + (cat (eT x) k).length * 5) (L := nT (kT x k)) (cap := cap) (by omega) (by omega) (by omega) (fun _ => by omega) (l := cat (eT x) m) (o := (cat (eT x) k).length)
      i1 (strT hτ) (fun j hj => hc j (by omega))
  · -- the item
    intro W cap hB hcap hc
    have hr := R.ident (kT x k) hτ
    unfold idR at hr
    have hav2 : ∀ τ, τ < 4 → closed3 (.tup [sptA τ, .bool false, .int .i64 (.ofNat 0)]) = some (.tuple #[.int .i64 (sptI τ), .bool false, .int .i64 0]) := by
      intro τ hτ
      match τ, hτ with
      | 0, _ | 1, _ | 2, _ | 3, _ => rfl
    exact tok_at R.toStages fnsI_ok (by kernel_rfl) (hav2 _ hτ) hr (hF.below hB) (heapHl (hLa.below hB) (pre := []) (pvs := []) (fun φ ν => .nil)) (b := b) (q := off + (cat (eT x) k).length * 5) (L := nT (kT x k)) (cap := cap) (by omega) (by omega) (by omega) (fun _ => by omega) (l := cat (eT x) m) (o := (cat (eT x) k).length)
      i1 (strT hτ) (fun j hj => hc j (by omega))
  · -- its shape
    intro W hB
    have hr := R.shp (kT x k) hτ
    unfold shR at hr
    obtain ⟨G, g1, g2, g3, g4, g5⟩ := nu_of (hF.below hB) [] (fun b o h => by cases h)
    have g3 := g3 (fun _ => 0) (fun _ => undef)
    have g2 := g2 (fun _ => 0) (fun _ => undef)
    obtain ⟨t, ht, hr⟩ := mkTblZ_true noNG sym_nil (splitOk g3) fnsI_ok (tab1_at R.toStages g2 g3 g4) hr
    obtain ⟨φ0, h1, h2, h3⟩ := heapHl (hLa.below hB) (pre := [sptA (kT x k), .bool false]) (pvs := [.int .i64 (sptI (kT x k)), .bool false]) (fun φ ν => .cons (vrP hτ) (.cons (.bool _) .nil)) ⟨fun _ => 0, G, fun _ => undef⟩ g4 g1
    exact said ht (by kernel_rfl) (shp_closed hτ) hr h1 h2 h3
  · -- the mode
    intro W ad cap hB hcap had hc
    have hav3 : ∀ a n : Nat, closed3 (.tup [.int .u8 (.ofNat a), .int .i64 (.ofNat n), z3]) = some (.tuple #[.int .u8 a, .int .i64 n, .agg #[.int .i64 0, .int .i64 0, .int .i64 0]]) := fun a n => rfl
    have hcc : ∀ j, j < ((cat (eT x) m).length - (cat (eT x) k).length - nT (kT x k)) * 5 → W.cell? ⟨b, off + (cat (eT x) k).length * 5 + nT (kT x k) * 5 + j, none⟩ = some (cellsC (cat (eT x) m) (((cat (eT x) k).length + nT (kT x k)) * 5 + j)) := fun j hj => by
      have := hc (nT (kT x k) * 5 + j) (by omega)
      rw [← Nat.add_assoc] at this
      rw [this, show ((cat (eT x) k).length + nT (kT x k)) * 5 + j = (cat (eT x) k).length * 5 + (nT (kT x k) * 5 + j) by omega]
    have i2' : ∀ i t, (modA (kM x k))[i]? = some t → (cat (eT x) m)[(cat (eT x) k).length + nT (kT x k) + i]? = some (tokOf t) := by rw [← l1]; exact i2
    have go : ∀ (ex : Bool) (tks : List (Nat × Nat × Nat)) (a n : Nat), rdR ex tks a n = true → 0 < tks.length → tks.length ≤ (cat (eT x) m).length - (cat (eT x) k).length - nT (kT x k) → tks.length ≤ 20 → (ex = true → (cat (eT x) m).length - (cat (eT x) k).length - nT (kT x k) = tks.length) →
        (∀ i t, tks[i]? = some t → (cat (eT x) m)[(cat (eT x) k).length + nT (kT x k) + i]? = some (tokOf t)) → (∀ t ∈ tks, StrOk t) →
        Calls Tryz.prog 13 #[.slice ad ((cat (eT x) m).length - (cat (eT x) k).length - nT (kT x k)) cap] W fun e w' => e = .returned (.tuple #[.int .u8 a, .int .i64 n, .agg #[.int .i64 0, .int .i64 0, .int .i64 0]]) ∧ Below W.heap.size W w' := by
      intro ex tks a n hr hp hL h20 hex hi hs
      rw [had (by omega)]
      unfold rdR at hr
      exact tok_at R.toStages fnsA_ok (by kernel_rfl) (hav3 _ _) hr (hF.below hB) (heapHs W) (by omega) hcap h20 hex (l := cat (eT x) m) (o := (cat (eT x) k).length + nT (kT x k)) hi hs (fun j hj => hcc j (by omega))
    have hsM := strM hμ
    have hlt5 : ∀ μ, kM x k = μ → modA (kM x k) = modA μ := fun μ e => by rw [e]
    match hμe : kM x k, hμ with
    | 0, _ =>
      have hn0 : nM (kM x k) = 0 := hm0 hμe
      by_cases h : k + 1 < m
      · have hτ' := kT_lt x (k + 1)
        have l5 := nextT_len hτ'
        have l8 := l6 h
        exact go false (nextT (kT x (k + 1))) 0 0 (R.rd0 _ hτ') (by omega) (by omega) (by omega) (fun e => by cases e) (by intro i t ht; have := i3 h i t ht; rwa [l3, l2, hn0, Nat.add_zero] at this) (str_take (strT hτ'))
      · have l8 := l7 h
        rw [show (cat (eT x) m).length - (cat (eT x) k).length - nT (kT x k) = 0 by omega]
        exact rounded_none ad cap W
    | 1, _ =>
      have hn1 : nM (kM x k) = 1 := by rw [hμe]; rfl
      rw [hμe] at i2' hsM
      by_cases h : k + 1 < m
      · have hτ' := kT_lt x (k + 1)
        have l5 := nextT_len hτ'
        have l8 := l6 h
        have l9 : (modA 1 ++ nextT (kT x (k + 1))).length = 2 := by rw [List.length_append, l5]; rfl
        exact go false (modA 1 ++ nextT (kT x (k + 1))) 1 1 (R.rd1n _ hτ') (by omega) (by omega) (by omega) (fun e => by cases e)
          (idx_app i2' (by intro i t ht; have := i3 h i t ht; rwa [l3, l2, hn1, ← Nat.add_assoc] at this)) (str_app hsM (str_take (strT hτ')))
      · have l8 := l7 h
        have l9 : (modA 1).length = 1 := rfl
        exact go true (modA 1) 1 1 R.rd1 (by omega) (by omega) (by omega) (fun _ => by omega) i2' hsM
    | 2, _ =>
      have hn1 : nM (kM x k) = 4 := by rw [hμe]; rfl
      rw [hμe] at i2' hsM
      have l9 : (modA 2).length = 4 := rfl
      exact go false (modA 2) 2 4 (andB_true R.rd2).1 (by omega) (by omega) (by omega) (fun e => by cases e) i2' hsM
    | 3, _ =>
      have hn1 : nM (kM x k) = 3 := by rw [hμe]; rfl
      rw [hμe] at i2' hsM
      have l9 : (modA 3).length = 3 := rfl
      exact go false (modA 3) 0 3 (andB_true (andB_true R.rd2).2).1 (by omega) (by omega) (by omega) (fun e => by cases e) i2' hsM
    | 4, _ =>
      have hn1 : nM (kM x k) = 4 := by rw [hμe]; rfl
      rw [hμe] at i2' hsM
      have l9 : (modA 4).length = 4 := rfl
      exact go false (modA 4) 6 4 (andB_true (andB_true R.rd2).2).2 (by omega) (by omega) (by omega) (fun e => by cases e) i2' hsM
end Go.Proofs.YtkghfmfciekbdaaGreatDoor
