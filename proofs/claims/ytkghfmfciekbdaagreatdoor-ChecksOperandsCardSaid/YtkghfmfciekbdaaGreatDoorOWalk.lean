/-
  What the function gives in a world that holds the listed tables: true, for every slice of pairs and every number; the closed runs are hypotheses here.
-/
import Derived.Test.YtkghfmfciekbdaaGreatDoorOCon
import Derived.Test.YtkghfmfciekbdaaGreatDoorArg
set_option linter.unusedVariables false
set_option linter.unusedSimpArgs false
namespace Go.Proofs.YtkghfmfciekbdaaGreatDoor
open Go Go.Abs Go.RowKit Go.Proofs
set_option linter.unusedVariables false
set_option linter.unusedSimpArgs false
set_option maxRecDepth 100000
/-- what the kernel ran -/
structure RunsAll : Prop extends RunsC where
  nil : ∀ c, c < 10 → runNil c = true
  big : runBig = true

/-! ### Tokens -/
theorem tabIs_of {W : World} (hF : Facts W) : Lib.TabIs Tryz.prog W "strings.asciiSpace" .u8 Lib.asciiSpaceTab := by
  obtain ⟨fr, h⟩ := hF.gA
  unfold Lib.TabIs World.var?
  rw [named0]
  simp [h]
/-- a slice of all of these tokens -/
def TokAtW (l : List (Int × ByteArray)) (W : World) (v : Value) : Prop :=
  Facts W ∧ ∃ g cap, v = .slice (some ⟨g, 0, none⟩) l.length cap ∧ l.length ≤ cap ∧ ∀ j, j < l.length * 5 → W.cell? ⟨g, 0 + j, none⟩ = some (cellsC l j)
theorem TokAtW.below {l : List (Int × ByteArray)} {v : Value} {W W' : World} (h : TokAtW l W v) (hb : Below W.heap.size W W') : TokAtW l W' v :=
  let ⟨h1, g, cap, h2, h3, h4⟩ := h; ⟨h1.below hb, g, cap, h2, h3, fun j hj => cell_below (h4 j hj) hb⟩
theorem tokens_call {W : World} (hF : Facts W) {s : ByteArray} {l : List (Int × ByteArray)} (h2 : All2 WT (Lib.fields s.data.toList) l) (hs : s.size < 4294967281) (hlen : l.length < 65536) (ha : AsciiB s) (hpos : 0 < l.length) :
    Calls Tryz.prog 8 #[.string s] W fun e w' => ∃ v, e = .returned v ∧ TokAtW l w' v ∧ Below W.heap.size W w' := by
  obtain ⟨m, fr, hm⟩ := hF.gM
  have h3 : 3 < W.heap.size := (Array.getElem?_eq_some_iff.1 hm).1
  refine (tokens_any s W m l h2.length.symm (fun k hk => h2.getD [] (1, ByteArray.empty) k hk) hs hlen ha (tabIs_of hF) (by simp [World.cell?, hm]) h3).mono ?_
  rintro e w' ⟨v, rfl, ⟨hl, ⟨_, h0⟩ | ⟨g, cap, cur, rfl, hg, hb, hn, _, hsz, ht⟩⟩, hB⟩
  · omega
  · refine ⟨_, rfl, ⟨hF.below hB, g, cap, rfl, hn, fun j hj => ?_⟩, hB⟩
    have hj2 := congrArg (·[j]?) ht
    simp only [List.getElem?_take, if_pos hj, Array.getElem?_toList] at hj2
    have hlt : j < (toksC l l.length).length := by rw [toksC_len]; omega
    have e1 : cur[j]? = some (cellsC l j) := by
      rw [hj2]
      unfold cellsC
      rw [List.getD_eq_getElem?_getD, List.getElem?_eq_getElem hlt]
      rfl
    simp [World.cell?, hb, e1]

/-! ### rows -/
theorem flat_len {α : Type} {f : Nat → List α} {sz : Nat} (hf : ∀ i, (f i).length = sz) : ∀ k, ((List.range k).flatMap f).length = k * sz
  | 0 => by simp
  | k + 1 => by rw [List.range_succ, List.flatMap_append, List.length_append, flat_len hf k, List.flatMap_singleton, hf, Nat.succ_mul]
theorem flat_get {α : Type} {f : Nat → List α} {sz : Nat} (hf : ∀ i, (f i).length = sz) : ∀ {k i e : Nat}, i < k → e < sz → ((List.range k).flatMap f)[i * sz + e]? = (f i)[e]?
  | k + 1, i, e, hi, he => by
    have hl := flat_len hf k
    rw [List.range_succ, List.flatMap_append, List.flatMap_singleton]
    by_cases h : i = k
    · subst h
      rw [List.getElem?_append_right (by omega), hl, show i * sz + e - i * sz = e by omega]
    · have h1 : (i + 1) * sz ≤ k * sz := Nat.mul_le_mul_right _ (by omega)
      have h2 : (i + 1) * sz = i * sz + sz := Nat.succ_mul i sz
      rw [List.getElem?_append_left (by omega)]
      exact flat_get hf (by omega) he
theorem cell_take {W : World} {g : Nat} {cur : Array Value} {e : TypeId} {vs : List Value} {N j : Nat} {v : Value} (hb : W.heap[g]? = some (.cells cur e (0, 0))) (ht : cur.toList.take N = vs) (hj : j < N) (hv : vs[j]? = some v) : W.cell? ⟨g, j, none⟩ = some v := by
  have h := congrArg (·[j]?) ht
  simp only [List.getElem?_take, if_pos hj, Array.getElem?_toList] at h
  rw [hv] at h
  simp [World.cell?, hb, h]

/-! ### Senders -/
def RowS (x : Nat → Int) (n : Nat) (W : World) (g : Nat) : Prop := ∃ (GA : Nat → Nat) (CA : Nat → Nat → Value), ∀ i, i < n → W.cell? ⟨g, i * 2, none⟩ = some (.slice (some ⟨GA i, 0, none⟩) (nS (kS x i)) (nS (kS x i))) ∧ W.cell? ⟨g, i * 2 + 1, none⟩ = some (.int .i64 (itmI (kS x i))) ∧ TokCells (CA i) (sndA (kS x i)) ∧ ∀ j, j < 5 * nS (kS x i) → W.cell? ⟨GA i, 0 + j, none⟩ = some (CA i j)
theorem RowS.below {x : Nat → Int} {n g : Nat} {W W' : World} (h : RowS x n W g) (hb : Below W.heap.size W W') : RowS x n W' g :=
  let ⟨GA, CA, h⟩ := h; ⟨GA, CA, fun i hi => let ⟨a, b, c, d⟩ := h i hi; ⟨cell_below a hb, cell_below b hb, c, fun j hj => cell_below (d j hj) hb⟩⟩
theorem lenES {x : Nat → Int} : ∀ m, m ≤ 8 → (cat (eS x) m).length ≤ 6 * m
  | 0, _ => Nat.le_refl _
  | m + 1, h => by
    have h1 := lenES (x := x) m (by omega)
    have h2 : (eS x m).length = nS (kS x m) := sndK_len (kS_lt x m)
    have h3 := nS_le (kS x m)
    rw [cat_len]; omega
theorem posES {x : Nat → Int} {m : Nat} (h : 0 < m) : 0 < (cat (eS x) m).length := by
  have h1 := cat_le (eS x) (show 0 + 1 ≤ m from h)
  have h2 := cat_len (eS x) 0
  have h3 : (eS x 0).length = nS (kS x 0) := sndK_len (kS_lt x 0)
  have h4 := nS_pos (kS_lt x 0)
  omega
theorem block_of {W : World} {g off : Nat} {v : Value} (h : W.cell? ⟨g, off, none⟩ = some v) : g < W.heap.size := by
  unfold World.cell? at h
  split at h
  · rename_i hh; exact (Array.getElem?_eq_some_iff.1 hh).1
  · cases h
theorem operands_call (R : RunsC) {W : World} {B : Nat} (hL : LayAt B W) (x : Nat → Int) {m : Nat} (hm : 0 < m) (hm8 : m ≤ 8) {v : Value} (hv : TokAtW (cat (eS x) m) W v) :
    Calls Tryz.prog 22 #[layV B, .int .u8 83, v] W fun e w' => ∃ g, e = .returned (.tuple #[.slice (some ⟨g, 0, none⟩) m m, .agg #[.int .i64 0, .int .i64 0, .int .i64 0]]) ∧ RowS x m w' g ∧ Below W.heap.size W w' := by
  obtain ⟨hF, g, cap, rfl, hcap, hc⟩ := hv
  have l1 := lenES (x := x) m hm8
  have l2 := posES (x := x) hm
  have hb := block_of (hc 0 (by omega))
  have hlen : ∀ k, (eS x k).length = nS (kS x k) := fun k => sndK_len (kS_lt x k)
  refine Calls.mono (operandsC_any g 0 (cat (eS x) m).length cap m (fun k => nS (kS x k)) (fun k => (cat (eS x) k).length) (cellsC (cat (eS x) m)) (fun k => itmI (kS x k)) (some ⟨B, 0, none⟩) 20 20 57 83 W hb (by omega) hcap (by omega) rfl
    (fun k _ => by rw [cat_len, hlen]) rfl (fun k _ => nS_pos (kS_lt x k)) (fun k hk => cat_le _ hk) hc (cellsC_one _) (fun k hk => opcall_S R hF x m g 0 hk) (fun k hk => operc_S R hF hL x m hk)) ?_
  rintro e w' ⟨v', G, rfl, hout, hpc, hB⟩
  rcases hout with ⟨h0, _, _⟩ | ⟨g', cur, rfl, hg, hbk, ht, hsz⟩
  · omega
  · refine ⟨g', rfl, ⟨G, fun i j => cellsC (cat (eS x) m) ((cat (eS x) i).length * 5 + j), fun i hi => ?_⟩, hB⟩
    have f2 : ∀ j, ([sliceOf (fun k => nS (kS x k)) G j, Value.int .i64 (itmI (kS x j))] : List Value).length = 2 := fun _ => rfl
    have q0 := flat_get f2 (k := m) (i := i) (e := 0) hi (by omega)
    have q1 := flat_get f2 (k := m) (i := i) (e := 1) hi (by omega)
    obtain ⟨_, cu, hcu, hcc⟩ := hpc i hi
    refine ⟨cell_take hbk ht (by omega) (by rw [Nat.add_zero] at q0; exact q0), cell_take hbk ht (by omega) q1, tokCells_of (idx_of hi (P := []) (Q := []) (by simp [eS, sndK])) (strS (kS_lt x i)), fun j hj => ?_⟩
    have := hcc j (by show j < nS (kS x i) * 5; omega)
    simp [World.cell?, hcu, this]
theorem results_tmp_cell2 {fn : Func} {p u : Tmp} {ty : TypeId} (h : fn.results = #[.tmp u, .cell p ty]) (tmps : Array Value) (P : Program) (w : World) :
    (results fn tmps).run P w = ((asAddr (tmps.getD p undef)).run P w).andThen fun a w₁ => ((loadVar ty a).run P w₁).andThen fun v w₂ => .ok (.tuple #[tmps.getD u undef, v]) w₂ := results_tmp_cell h tmps P w
set_option maxHeartbeats 400000 in
set_option maxRecDepth 1000000 in
theorem senders_wp {w : World} {B m N cap gv : Nat} {RS : World → Nat → Prop}
    (h : ∀ W, Below w.heap.size w W → Calls Tryz.prog 22 #[.agg #[.slice (some ⟨B, 0, none⟩) 20 20, .int .i64 57], .int .u8 83, .slice (some ⟨gv, 0, none⟩) N cap] W fun e w' => ∃ g, e = .returned (.tuple #[.slice (some ⟨g, 0, none⟩) m m, .agg #[.int .i64 0, .int .i64 0, .int .i64 0]]) ∧ RS w' g ∧ Below W.heap.size W w') :
    Calls Tryz.prog 7 #[.agg #[.slice (some ⟨B, 0, none⟩) 20 20, .int .i64 57], .slice (some ⟨gv, 0, none⟩) N cap] w fun e w' => ∃ g, e = .returned (.tuple #[.slice (some ⟨g, 0, none⟩) m m, .agg #[.int .i64 0, .int .i64 0, .int .i64 0]]) ∧ RS w' g ∧ Below w.heap.size w w' := by
  go_enter Tryz.func7, Tryz.ntmps7
  go_wp2_with (go_at_call 22; refine Calls.mono (h _ (((Below.refl _ _).alloc (Nat.le_refl _) _).alloc (by simp) _)) ?_; rintro e w2 ⟨g, rfl, hR, hB⟩; have hB0 : Below w.heap.size w w2 := (((Below.refl w.heap.size w).alloc (Nat.le_refl _) _).alloc (by simp) _).trans (hB.mono (by simp; omega)); have y0 : w2.cell? ⟨w.heap.size + 1, 0, none⟩ = some (.int .i64 0) := (hB.cell (by simp)).trans (by simp); have y1 : w2.cell? ⟨w.heap.size + 1, 1, none⟩ = some (.int .i64 0) := (hB.cell (by simp)).trans (by simp); have y2 : w2.cell? ⟨w.heap.size + 1, 2, none⟩ = some (.int .i64 0) := (hB.cell (by simp)).trans (by simp); have yf : ∀ i, w2.frozen? ⟨w.heap.size + 1, i, none⟩ = false := fun i => (hB.frozen (by simp)).trans (by simp))
  (try simp only [Exit.inBlock, Exit.then]); refine bodyPost_ret (v := .tuple #[.slice (some ⟨g, 0, none⟩) m m, .agg #[.int .i64 0, .int .i64 0, .int .i64 0]]) ((results_tmp_cell2 rfl _ _ _).trans ?_) rfl ?_
  · go_simp
  · rw [setCell_id y0, setCell_id y1, setCell_id y2]
    exact ⟨g, rfl, hR, hB0⟩
theorem senders_call (R : RunsC) {w : World} {B : Nat} (hL : LayAt B w) (x : Nat → Int) {m : Nat} (hm : 0 < m) (hm8 : m ≤ 8) {v : Value} (hv : TokAtW (cat (eS x) m) w v) :
    Calls Tryz.prog 7 #[layV B, v] w fun e w' => ∃ g, e = .returned (.tuple #[.slice (some ⟨g, 0, none⟩) m m, .agg #[.int .i64 0, .int .i64 0, .int .i64 0]]) ∧ RowS x m w' g ∧ Below w.heap.size w w' := by
  have hv2 := hv
  obtain ⟨hF, g, cap, rfl, hcap, hc⟩ := hv2
  exact senders_wp (RS := RowS x m) fun W hB => operands_call R (hL.below hB) x hm hm8 (hv.below hB)

/-! ### Targets -/
def RowT (x : Nat → Int) (n : Nat) (W : World) (g : Nat) : Prop := ∃ (GB : Nat → Nat) (CB : Nat → Nat → Value), ∀ i, i < n → W.cell? ⟨g, i * 3, none⟩ = some (.slice (some ⟨GB i, 0, none⟩) (nT (kT x i)) (nT (kT x i))) ∧ W.cell? ⟨g, i * 3 + 1, none⟩ = some (.int .i64 (sptI (kT x i))) ∧ W.cell? ⟨g, i * 3 + 2, none⟩ = some (.int .u8 (kndI (kM x i))) ∧ TokCells (CB i) (tgtA (kT x i)) ∧ ∀ j, j < 5 * nT (kT x i) → W.cell? ⟨GB i, 0 + j, none⟩ = some (CB i j)
theorem RowT.below {x : Nat → Int} {n g : Nat} {W W' : World} (h : RowT x n W g) (hb : Below W.heap.size W W') : RowT x n W' g :=
  let ⟨GA, CA, h⟩ := h; ⟨GA, CA, fun i hi => let ⟨a, b, c, d, f⟩ := h i hi; ⟨cell_below a hb, cell_below b hb, cell_below c hb, d, fun j hj => cell_below (f j hj) hb⟩⟩
theorem eT_len (x : Nat → Int) (k : Nat) : (eT x k).length = nT (kT x k) + nM (kM x k) := by simp [eT, tgtK_len (kT_lt x k), modK_len (kM_lt x k)]
theorem nM_le (k : Nat) : nM k ≤ 4 := by
  match k with
  | 0 | 1 | 2 | 3 | 4 => decide
  | k + 5 => exact Nat.zero_le _
theorem lenET {x : Nat → Int} : ∀ m, m ≤ 8 → (cat (eT x) m).length ≤ 8 * m
  | 0, _ => Nat.le_refl _
  | m + 1, h => by
    have h1 := lenET (x := x) m (by omega)
    have h2 := eT_len x m
    have h3 := nT_le (kT x m)
    have h4 := nM_le (kM x m)
    rw [cat_len]; omega
theorem posET {x : Nat → Int} {m : Nat} (h : 0 < m) : 0 < (cat (eT x) m).length := by
  have h1 := cat_le (eT x) (show 0 + 1 ≤ m from h)
  have h2 := cat_len (eT x) 0
  have h3 := eT_len x 0
  have h4 := nT_pos (kT_lt x 0)
  omega
theorem knd_eq {k : Nat} (hk : k < 5) : ((kndN k : Nat) : Int) = kndI k := by
  match k, hk with
  | 0, _ | 1, _ | 2, _ | 3, _ | 4, _ => rfl
theorem catN_or {k : Nat} (hk : k < 4) : catN k = 4 ∨ catN k = 5 := by
  match k, hk with
  | 0, _ => exact .inl rfl
  | 1, _ => exact .inr rfl
  | 2, _ => exact .inl rfl
  | 3, _ => exact .inl rfl
theorem targets_in (R : RunsC) {W : World} {B : Nat} (hL : LayAt B W) (x : Nat → Int) {m : Nat} (hm : 0 < m) (hm8 : m ≤ 8) {v : Value} (hv : TokAtW (cat (eT x) m) W v) :
    Calls Tryz.prog 26 #[layV B, v, .bool true] W fun e w' => ∃ g, e = .returned (.tuple #[.slice (some ⟨g, 0, none⟩) m m, .agg #[.int .i64 0, .int .i64 0, .int .i64 0]]) ∧ RowT x m w' g ∧ Below W.heap.size W w' := by
  obtain ⟨hF, g, cap, rfl, hcap, hc⟩ := hv
  have l1 := lenET (x := x) m hm8
  have l2 := posET (x := x) hm
  have hb := block_of (hc 0 (by omega))
  refine Calls.mono (targets_any g 0 (cat (eT x) m).length cap m (fun k => nT (kT x k)) (fun k => (cat (eT x) k).length) (fun k => nM (kM x k)) (cellsC (cat (eT x) m)) (fun k => sptI (kT x k)) (fun _ => false) (fun k => catN (kT x k)) (fun k => shV (kT x k)) (fun k => kndN (kM x k)) (some ⟨B, 0, none⟩) 20 20 57 W hb (by omega) hcap (by omega) rfl
    (fun k _ => by rw [cat_len, eT_len]) rfl (fun k _ => nT_pos (kT_lt x k)) (fun k hk => cat_le _ hk) (fun k _ => catN_or (kT_lt x k)) hc (cellsC_one _) (fun k hk => tgtc R hF hL x m g 0 hk)) ?_
  rintro e w' ⟨v', G, rfl, hout, hpc, hB⟩
  rcases hout with ⟨h0, _, _⟩ | ⟨g', cur, rfl, hg, hbk, ht, hsz⟩
  · omega
  · refine ⟨g', rfl, ⟨G, fun i j => cellsC (cat (eT x) m) ((cat (eT x) i).length * 5 + j), fun i hi => ?_⟩, hB⟩
    have f3 : ∀ j, ([sliceOf (fun k => nT (kT x k)) G j, Value.int .i64 (sptI (kT x j)), Value.int .u8 ((kndN (kM x j) : Nat) : Int)] : List Value).length = 3 := fun _ => rfl
    have q0 := flat_get f3 (k := m) (i := i) (e := 0) hi (by omega)
    have q1 := flat_get f3 (k := m) (i := i) (e := 1) hi (by omega)
    have q2 := flat_get f3 (k := m) (i := i) (e := 2) hi (by omega)
    obtain ⟨_, cu, hcu, hcc⟩ := hpc i hi
    refine ⟨cell_take hbk ht (by omega) (by rw [Nat.add_zero] at q0; exact q0), cell_take hbk ht (by omega) q1, ?_, tokCells_of (idx_of hi (P := []) (Q := modK (kM x i)) (by simp [eT, tgtK])) (strT (kT_lt x i)), fun j hj => ?_⟩
    · rw [← knd_eq (kM_lt x i)]
      exact cell_take hbk ht (by omega) q2
    · have := hcc j (by show j < nT (kT x i) * 5; omega)
      simp [World.cell?, hcu, this]
set_option maxHeartbeats 400000 in
set_option maxRecDepth 1000000 in
theorem targets_wp {w : World} {B m N cap gv : Nat} {RT : World → Nat → Prop}
    (h : ∀ W, Below w.heap.size w W → Calls Tryz.prog 26 #[.agg #[.slice (some ⟨B, 0, none⟩) 20 20, .int .i64 57], .slice (some ⟨gv, 0, none⟩) N cap, .bool true] W fun e w' => ∃ g, e = .returned (.tuple #[.slice (some ⟨g, 0, none⟩) m m, .agg #[.int .i64 0, .int .i64 0, .int .i64 0]]) ∧ RT w' g ∧ Below W.heap.size W w') :
    Calls Tryz.prog 9 #[.agg #[.slice (some ⟨B, 0, none⟩) 20 20, .int .i64 57], .slice (some ⟨gv, 0, none⟩) N cap] w fun e w' => ∃ g, e = .returned (.tuple #[.slice (some ⟨g, 0, none⟩) m m, .agg #[.int .i64 0, .int .i64 0, .int .i64 0]]) ∧ RT w' g ∧ Below w.heap.size w w' := by
  go_enter Tryz.func9, Tryz.ntmps9
  go_wp2_with (go_at_call 26; refine Calls.mono (h _ (((Below.refl _ _).alloc (Nat.le_refl _) _).alloc (by simp) _)) ?_; rintro e w2 ⟨g, rfl, hR, hB⟩; have hB0 : Below w.heap.size w w2 := (((Below.refl w.heap.size w).alloc (Nat.le_refl _) _).alloc (by simp) _).trans (hB.mono (by simp; omega)); have y0 : w2.cell? ⟨w.heap.size + 1, 0, none⟩ = some (.int .i64 0) := (hB.cell (by simp)).trans (by simp); have y1 : w2.cell? ⟨w.heap.size + 1, 1, none⟩ = some (.int .i64 0) := (hB.cell (by simp)).trans (by simp); have y2 : w2.cell? ⟨w.heap.size + 1, 2, none⟩ = some (.int .i64 0) := (hB.cell (by simp)).trans (by simp); have yf : ∀ i, w2.frozen? ⟨w.heap.size + 1, i, none⟩ = false := fun i => (hB.frozen (by simp)).trans (by simp))
  (try simp only [Exit.inBlock, Exit.then]); refine bodyPost_ret (v := .tuple #[.slice (some ⟨g, 0, none⟩) m m, .agg #[.int .i64 0, .int .i64 0, .int .i64 0]]) ((results_tmp_cell2 rfl _ _ _).trans ?_) rfl ?_
  · go_simp
  · rw [setCell_id y0, setCell_id y1, setCell_id y2]
    exact ⟨g, rfl, hR, hB0⟩
theorem targets_call (R : RunsC) {w : World} {B : Nat} (hL : LayAt B w) (x : Nat → Int) {m : Nat} (hm : 0 < m) (hm8 : m ≤ 8) {v : Value} (hv : TokAtW (cat (eT x) m) w v) :
    Calls Tryz.prog 9 #[layV B, v] w fun e w' => ∃ g, e = .returned (.tuple #[.slice (some ⟨g, 0, none⟩) m m, .agg #[.int .i64 0, .int .i64 0, .int .i64 0]]) ∧ RowT x m w' g ∧ Below w.heap.size w w' := by
  have hv2 := hv
  obtain ⟨hF, g, cap, rfl, hcap, hc⟩ := hv2
  exact targets_wp (RT := RowT x m) fun W hB => targets_in R (hL.below hB) x hm hm8 (hv.below hB)

/-! ### the unit -/
def PRd (w W : World) (v : Value) : Prop := ∃ (ν : Nu) (t : T4 FnD TD) (φ0 φ' : Phi) (a : AV) (h h0 : H) (Wg : World), Below w.heap.size w Wg ∧ TblOk Tryz.prog ν t ∧ VR φ' ν a v ∧ HR φ' ν h W ∧ Ext h0.ro φ0 Wg φ' W ∧ h.ro = h0.ro ∧
  (∀ id ver p, φ0 id ver = some p → id < h0.ro.lim) ∧ (phiOf gls).le φ0 ∧ runF t 60 5 [a] h (layK layX 20 20 16 57) noK = true
theorem gls_phi : ∀ q ∈ gls, q.g < 16 ∧ ∃ p, phiOf gls q.g q.l.length = some p ∧ p.blk = q.g := by
  intro q hq
  refine ⟨gls_lt q hq, ?_⟩
  simp only [gls, List.mem_cons, List.mem_nil_iff, or_false] at hq
  rcases hq with rfl | rfl | rfl | rfl <;> exact ⟨_, rfl, rfl⟩
theorem gls_in {w : World} (hF : Facts w) : ∀ q ∈ gls, q.g < w.heap.size := by
  obtain ⟨G, g1, _, _, g4, _⟩ := nu_of hF [] (fun b o h => by cases h)
  intro q hq
  obtain ⟨fr, hm⟩ := g4 q hq
  exact (Array.getElem?_eq_some_iff.1 (g1 _ _ hm)).1
theorem strX_at {W : World} {g : Nat} (hg : W.heap[g]? = some (.cells #[.string ⟨#[]⟩] 9 (0, 0))) : strX.At W g := by
  refine ⟨#[.string ⟨#[]⟩], (0, 0), hg, Nat.le_refl _, fun j hj => ?_⟩
  have e : j = 0 := by
    have : j < 1 := hj
    omega
  subst e
  exact ⟨_, rfl, rfl, fun φ ν => .str (len := 0) (code := 0) ⟨rfl, rfl⟩⟩
theorem program_call (R : RunsC) {w : World} (hF : Facts w) (W : World) (g : Nat) (hB : Below w.heap.size w W) (hg : W.heap[g]? = some (.cells #[.string ⟨#[]⟩] 9 (0, 0))) (hle : w.heap.size ≤ g) :
    Calls Tryz.prog 6 #[.slice (some ⟨g, 0, none⟩) 1 1] W fun e w' => ∃ v, e = .returned v ∧ PRd w w' v ∧ Below w.heap.size w w' := by
  obtain ⟨G, g1, g2, g3, g4, g5⟩ := nu_of (hF.below hB) [] (fun b o h => by cases h)
  have g3 := g3 (fun _ => 0) (fun _ => undef)
  have g2 := g2 (fun _ => 0) (fun _ => undef)
  have hr := R.unit
  unfold runB at hr
  obtain ⟨t, ht, hr⟩ := mkTblZ_true noNG sym_nil (splitOk g3) fnsB_ok (tab1_at R.toStages g2 g3 g4) hr
  obtain ⟨sz, k1, k2, k3⟩ := h1_HR (x := strX) (hs_HR (ν := ⟨fun _ => 0, G, fun _ => undef⟩) g4 g1) (strX_at hg) (by decide) (by decide) (fun q hq => ⟨gls_lt q hq, by have := gls_in hF q hq; omega⟩)
  have hle1 : (phiOf gls).le (phi1 gls 16 strX g sz) := fun id ver p hp => by
    have : id < 16 := phi_lim id ver p hp
    unfold phi1; rw [if_neg (by omega)]; exact hp
  refine (said_any ht (by kernel_rfl) hr k1 k2 (vs := [.slice (some ⟨g, 0, none⟩) 1 1]) (.cons (.sl (cap := 1) (off' := 0) k3 (Nat.le_refl _) (Nat.le_refl _) (fun _ => rfl) (fun e => by cases e)) .nil)).mono ?_
  rintro e w' ⟨v, φ', a, h, rfl, hvr, hr', hx', hro, hds, hk, hB'⟩
  exact ⟨v, rfl, ⟨_, t, _, φ', a, h, _, W, hB, ht, hvr, hr', hx', hro, k2, hle1, hk⟩, hB.trans (hB'.mono hB.size)⟩
theorem build_call {w : World} (W : World) (v : Value) (hp : PRd w W v) :
    Calls Tryz.prog 5 #[v] W fun e w' => ∃ (s : ByteArray) (u : Nat → Option Addr × Nat × Nat) (B : Nat), e = .returned (.tuple #[.agg #[.string s, .slice (u 1).1 (u 1).2.1 (u 1).2.2, .slice (u 2).1 (u 2).2.1 (u 2).2.2, .slice (u 3).1 (u 3).2.1 (u 3).2.2, .slice (u 4).1 (u 4).2.1 (u 4).2.2, .slice (u 5).1 (u 5).2.1 (u 5).2.2, .slice (u 6).1 (u 6).2.1 (u 6).2.2,
      .slice (u 7).1 (u 7).2.1 (u 7).2.2, .slice (u 8).1 (u 8).2.1 (u 8).2.2, .slice (some ⟨B, 0, none⟩) 20 20, .int .i64 57, .slice (u 11).1 (u 11).2.1 (u 11).2.2], .agg #[.int .i64 0, .int .i64 0, .int .i64 0]]) ∧ LayAt B w' ∧ Below w.heap.size w w' := by
  obtain ⟨ν, t, φ0, φ', a, h, h0, Wg, hBg, ht, hvr, hr, hx, hro, hlim, hle, hk⟩ := hp
  have hco := runF_ok ht 60 5 [a] h (layK layX 20 20 16 57) noK hk φ' W [v] hr (.cons hvr .nil)
  have key : ∀ e w', FPost φ' ν h.ro W h.ds (layK layX 20 20 16 57) noK e w' → ∃ (s : ByteArray) (u : Nat → Option Addr × Nat × Nat) (B : Nat), e = .returned (.tuple #[.agg #[.string s, .slice (u 1).1 (u 1).2.1 (u 1).2.2, .slice (u 2).1 (u 2).2.1 (u 2).2.2, .slice (u 3).1 (u 3).2.1 (u 3).2.2, .slice (u 4).1 (u 4).2.1 (u 4).2.2, .slice (u 5).1 (u 5).2.1 (u 5).2.2, .slice (u 6).1 (u 6).2.1 (u 6).2.2,
      .slice (u 7).1 (u 7).2.1 (u 7).2.2, .slice (u 8).1 (u 8).2.1 (u 8).2.2, .slice (some ⟨B, 0, none⟩) 20 20, .int .i64 57, .slice (u 11).1 (u 11).2.1 (u 11).2.2], .agg #[.int .i64 0, .int .i64 0, .int .i64 0]]) ∧ LayAt B w' ∧ Below w.heap.size w w' := by
    intro e w' hpo
    cases e with
    | returned y =>
      obtain ⟨φ'', a', h', hvr', hr', hx', _, _, hk'⟩ := hpo
      obtain ⟨s, u, B, rfl, hat, hne⟩ := layK_at hk' hvr' hr' (by decide) (by decide) (by decide) (gs := gls) (Phi.le_trans hle (Phi.le_trans hx.le hx'.le)) gls_phi
      rw [hro] at hx'
      exact ⟨s, u, B, rfl, ⟨hat, hne⟩, hBg.trans ((below_of_ext (hx.trans hx') hlim).mono hBg.size)⟩
    | panicked chain =>
      obtain ⟨φ'', a', h', y, _, _, _, _, _, _, hk'⟩ := hpo
      cases hk'
    | outgrown => exact hpo.elim
  rcases hco with ⟨_, h2⟩ | ⟨y, w', h2, _⟩
  · exact h2.mono key
  · exfalso
    have hb : hasBody Tryz.prog 5 = true := by kernel_rfl
    rw [hasBody_true hb] at h2
    cases h2

/-! ### the function -/
theorem walk_mid (R : RunsC) {w : World} (hF : Facts w) {b q n cap : Nat} {z : Int} {x : Nat → Int} (hn : n ≤ 8) (hn0 : 0 < n) (hz : 0 ≤ z ∧ z ≤ 255) (hx : ∀ j, j < 2 * n → 0 ≤ x j ∧ x j ≤ 255 ∧ w.cell? ⟨b, q + j, none⟩ = some (.int .u8 (x j))) :
    Calls Tryz.prog 3 #[.slice (some ⟨b, q, none⟩) n cap, .int .u8 z] w fun e w' => e = .returned (.bool true) ∧ Below w.heap.size w w' := by
  have hs1 := txS_size x n
  have hs2 := txT_size x n
  have l1 := lenES (x := x) n hn
  have l2 := lenET (x := x) n hn
  exact root_walk b q n cap z x w hn hx (block_of (hx 0 (by omega)).2.2) LayAt (fun B W W' h hb => h.below hb) (PRd w) (program_call R hF) build_call R.toRuns hz hn0 hF (fun W v => TokAtW (cat (eS x) n) W v) (fun W v => TokAtW (cat (eT x) n) W v) (RowS x n) (RowT x n)
    (fun v W W' h hb => h.below hb) (fun v W W' h hb => h.below hb) (fun g W W' h hb => h.below hb) (fun g W W' h hb => h.below hb)
    (fun W hB => tokens_call (hF.below hB) (txS_words x n) (by omega) (by omega) (txS_ascii x n) (posES hn0)) (fun W hB => tokens_call (hF.below hB) (txT_words x n) (by omega) (by omega) (txT_ascii x n) (posET hn0))
    (fun B W v hB hl hv => senders_call R hl x hn0 hn hv) (fun B W v hB hl hv => targets_call R hl x hn0 hn hv) (fun W g h => h) (fun W g h => h)
theorem walk_nil (R : RunsAll) {w : World} (hF : Facts w) {a : Option Addr} {cap : Nat} {z : Int} (hz : 0 ≤ z ∧ z ≤ 255) :
    Calls Tryz.prog 3 #[.slice a 0 cap, .int .u8 z] w fun e w' => e = .returned (.bool true) ∧ Below w.heap.size w w' := by
  obtain ⟨G, g1, g2, g3, g4, g5⟩ := nu_of hF [] (fun b o h => by cases h)
  have g3 := g3 (fun _ => z) (fun _ => .slice a 0 cap)
  have g2 := g2 (fun _ => z) (fun _ => .slice a 0 cap)
  have hS : SymOk Tryz.prog ⟨fun _ => z, G, fun _ => .slice a 0 cap⟩ (.len .i64 1700 22 (.int .i64 (.ofNat 0)) :: rulesZ (z % 10).toNat) := by
    refine symCons (Rule.len_ok (by omega) (a := a) (l := 0) (c := cap) rfl Tryz.underlying22 (fun φ => .int _ _)) ?_
    unfold rulesZ
    refine symCons (Rule.conv_ok (by omega) (by omega) hz.1 hz.2 rfl) ?_
    refine symCons ⟨by omega, fun t w m h1 h2 => ⟨.int .i64 (.ofNat (z % 10).toNat), ?_, fun φ => .int _ _⟩⟩ SymOk.nil
    have e : m = 10 := by omega
    subst e
    have e2 : z % 10 = ((z % 10).toNat : Int) := by omega
    show (binOp .rem t (.int .i64 z) (.int .i64 (.ofNat 10))).run Tryz.prog w = _
    simp [binOp, Op.intDiv, Int.tmod_eq_emod_of_nonneg hz.1]
    omega
  have hr := R.nil (z % 10).toNat (by omega)
  unfold runNil at hr
  obtain ⟨t, ht, hr⟩ := mkTblZ_true noNG sym_nil (splitOk g3) fnsN_ok (tab2_at R.toStages g2 g3 g4) hr
  obtain ⟨t, ht, hr⟩ := mkTblZ_true noNG hS (splitOk g3) fnsR_ok ht hr
  exact run_said ht g4 g1 (vs := [.slice a 0 cap, .int .u8 z]) (.cons (.sym _ _ (by rw [Nu.val_slice (by omega) rfl])) (.cons (.sym _ _ (by rw [Nu.val_num _ _ (by omega)])) .nil)) hr
theorem walk_big (R : RunsAll) {w : World} (hF : Facts w) {a : Addr} {n cap : Nat} {z : Int} (hn : 8 < n) :
    Calls Tryz.prog 3 #[.slice (some a) n cap, .int .u8 z] w fun e w' => e = .returned (.bool true) ∧ Below w.heap.size w w' := by
  obtain ⟨G, g1, g2, g3, g4, g5⟩ := nu_of hF [] (fun b o h => by cases h)
  have g3 := g3 (fun s => if s = 20 then n else z) (fun _ => .slice (some a) n cap)
  have g2 := g2 (fun s => if s = 20 then n else z) (fun _ => .slice (some a) n cap)
  have hS : SymOk Tryz.prog ⟨fun s => if s = 20 then n else z, G, fun _ => .slice (some a) n cap⟩ rulesBig := by
    unfold rulesBig
    refine symCons (Rule.len_ok (by omega) (a := some a) (l := n) (c := cap) rfl Tryz.underlying22 (fun φ => .sym _ _ (by rw [Nu.val_num _ _ (by omega)]; rfl))) ?_
    exact symCons (Rule.gtr_ok (by omega) (show (8 : Int) < n by omega)) SymOk.nil
  have hr := R.big
  unfold runBig at hr
  obtain ⟨t, ht, hr⟩ := mkTblZ_true noNG hS (splitOk g3) fnsR_ok (tab2_at R.toStages g2 g3 g4) hr
  exact run_said ht g4 g1 (vs := [.slice (some a) n cap, .int .u8 z]) (.cons (.sym _ _ (by rw [Nu.val_slice (by omega) rfl])) (.cons (.sym _ _ (by rw [Nu.val_num _ _ (by omega)]; rfl)) .nil)) hr
theorem walk (R : RunsAll) {w : World} (hF : Facts w) {v : Value} (hp : PairsOk w v) {z : Int} (hz : 0 ≤ z ∧ z ≤ 255) :
    Calls Tryz.prog 3 #[v, .int .u8 z] w fun e w' => e = .returned (.bool true) ∧ Below w.heap.size w w' := by
  rcases hp with rfl | ⟨a, n, cap, rfl, hc⟩
  · exact walk_nil R hF hz
  · by_cases h8 : 8 < n
    · exact walk_big R hF h8
    · by_cases h0 : n = 0
      · subst h0
        exact walk_nil R hF hz
      · have hx' : ∀ j, ∃ y : Int, j < 2 * n → 0 ≤ y ∧ y ≤ 255 ∧ w.cell? (a.add j) = some (.int .u8 y) := fun j => by
          by_cases hj : j < 2 * n
          · obtain ⟨y, h1, h2, h3⟩ := hc j hj
            exact ⟨y, fun _ => ⟨h1, h2, h3⟩⟩
          · exact ⟨0, fun h => absurd h hj⟩
        obtain ⟨b, q, sp⟩ := a
        have hsp : sp = none := by
          obtain ⟨y, _, _, h3⟩ := hc 0 (by omega)
          have e : (⟨b, q, sp⟩ : Addr).add 0 = ⟨b, q, sp⟩ := by simp [Addr.add]
          rw [e] at h3
          unfold World.cell? at h3
          split at h3
          · split at h3
            · cases h3
            · rename_i hs
              cases sp with
              | none => rfl
              | some y => exact absurd rfl hs
          · cases h3
        subst hsp
        obtain ⟨xf, hxf⟩ : ∃ xf : Nat → Int, ∀ j, j < 2 * n → 0 ≤ xf j ∧ xf j ≤ 255 ∧ w.cell? ((⟨b, q, none⟩ : Addr).add j) = some (.int .u8 (xf j)) := ⟨fun j => Classical.choose (hx' j), fun j => Classical.choose_spec (hx' j)⟩
        refine walk_mid R.toRunsC hF (x := xf) (by omega) (by omega) hz fun j hj => ?_
        obtain ⟨h1, h2, h3⟩ := hxf j hj
        rw [addr_add] at h3
        exact ⟨h1, h2, h3⟩
end Go.Proofs.YtkghfmfciekbdaaGreatDoor
