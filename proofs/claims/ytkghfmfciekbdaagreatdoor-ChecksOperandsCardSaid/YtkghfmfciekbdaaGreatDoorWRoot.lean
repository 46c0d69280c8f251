/-
  The root walked: its first loop, the calls of Senders and Targets, over what is known of the calls; conditions as stated.
-/
import Derived.Test.YtkghfmfciekbdaaGreatDoorOLoop
import Derived.WalkKit
import Derived.OwnWalk
import Derived.Laws.OwnMore
import Derived.Laws.Cover3
import Derived.LoopN
import Derived.Deep.RegionWith
set_option linter.unusedVariables false
set_option linter.unusedSimpArgs false
namespace Go.Proofs.YtkghfmfciekbdaaGreatDoor
open Go Go.Abs Go.RowKit Go.Proofs
set_option linter.unusedVariables false
set_option linter.unusedSimpArgs false
def txS (x : Nat → Int) : Nat → ByteArray
  | 0 => ⟨#[]⟩
  | k + 1 => txS x k ++ ⟨#[32]⟩ ++ sndB (kS x k)
def txT (x : Nat → Int) : Nat → ByteArray
  | 0 => ⟨#[]⟩
  | k + 1 => txT x k ++ ⟨#[32]⟩ ++ tgtB (kT x k) ++ modB (kM x k)
theorem sndB_size (k : Nat) : (sndB k).size ≤ 11 := by
  match k with
  | 0 | 1 | 2 | 3 | 4 | 5 | 6 | 7 => decide
  | k + 8 => exact Nat.zero_le _
theorem tgtB_size (k : Nat) : (tgtB k).size ≤ 11 := by
  match k with
  | 0 | 1 | 2 | 3 => decide
  | k + 4 => exact Nat.zero_le _
theorem modB_size (k : Nat) : (modB k).size ≤ 30 := by
  match k with
  | 0 | 1 | 2 | 3 | 4 => decide
  | k + 5 => exact Nat.zero_le _
theorem txS_size (x : Nat → Int) : ∀ k, (txS x k).size ≤ 12 * k
  | 0 => Nat.le_refl _
  | k + 1 => by
    have h1 := txS_size x k
    have h2 := sndB_size (kS x k)
    have h3 : (⟨#[32]⟩ : ByteArray).size = 1 := rfl
    simp only [txS, ByteArray.size_append]
    omega
theorem txT_size (x : Nat → Int) : ∀ k, (txT x k).size ≤ 42 * k
  | 0 => Nat.le_refl _
  | k + 1 => by
    have h1 := txT_size x k
    have h2 := tgtB_size (kT x k)
    have h3 := modB_size (kM x k)
    have h4 : (⟨#[32]⟩ : ByteArray).size = 1 := rfl
    simp only [txT, ByteArray.size_append]
    omega
theorem wp_merge {P : Program} {c : Code} {K : Act → World → Prop} {Q : Exit → Act → World → Prop} {a : Act} {w : World} (R : Act → Act → World → Prop) (h : ∀ K' : Act → World → Prop, (∀ a' w', R a a' w' → K' a' w') → c.wp P (Exit.then K' Q) a w) (h2 : ∀ a' w', R a a' w' → K a' w') : c.wp P (Exit.then K Q) a w := h K h2
theorem setCell_id {w : World} {a : Addr} {v : Value} (h : w.cell? a = some v) : w.setCell a v = w := by
  unfold World.cell? at h
  split at h
  · rename_i c e f hh
    split at h
    · cases h
    · rename_i hs
      have hc : c.setIfInBounds a.off v = c := by
        apply Array.ext_getElem?
        intro i
        by_cases e1 : a.off = i
        · subst e1
          rw [Array.getElem?_setIfInBounds_self, h]
          have := (Array.getElem?_eq_some_iff.1 h).1
          simp [this]
        · rw [Array.getElem?_setIfInBounds_ne e1]
      have hm : w.heap.modify a.block (fun | .cells c elem frozen => .cells (if a.spot.isSome then c else c.setIfInBounds a.off v) elem frozen | o => o) = w.heap := by
        apply Array.ext_getElem?
        intro i
        rw [Array.getElem?_modify]
        split
        · rename_i e2
          subst e2
          rw [hh]
          simp only [Option.map_some]
          simp only [hc]
        · rfl
      exact congrArg (fun h => ({ w with heap := h } : World)) hm
  · cases h
theorem exit_in {id : Nat} {K : Act → World → Prop} {Q : Exit → Act → World → Prop} {a : Act} {w : World} (h : K a w) : Exit.inBlock id (Exit.then K Q) (.exit id) a w := by
  simp only [Exit.inBlock, if_pos rfl, Exit.then]
  exact h
theorem hid_of {p : Prop} (h : p) : Hid p := h
def allocs (w : World) : List Obj → World
  | [] => w
  | o :: l => allocs (w.alloc o) l
theorem allocs_size : ∀ (l : List Obj) (w : World), (allocs w l).heap.size = w.heap.size + l.length
  | [], w => rfl
  | o :: l, w => by
    have := allocs_size l (w.alloc o)
    simp only [allocs, List.length_cons]
    rw [this]
    simp
    omega
theorem allocs_below : ∀ (l : List Obj) (w w0 : World) (B : Nat), Below B w0 w → B ≤ w.heap.size → Below B w0 (allocs w l)
  | [], w, w0, B, h, _ => h
  | o :: l, w, w0, B, h, hB => allocs_below l (w.alloc o) w0 B (h.alloc hB o) (by simp; omega)
theorem allocs_get : ∀ (l : List Obj) (w : World) (k : Nat) (o : Obj), l[k]? = some o → (allocs w l).heap[w.heap.size + k]? = some o
  | [], w, k, o, h => by simp at h
  | x :: l, w, 0, o, h => by
    simp at h
    subst h
    have hb := allocs_below l (w.alloc x) (w.alloc x) (w.heap.size + 1) (Below.refl _ _) (by simp)
    have h1 : (w.alloc x).heap[w.heap.size]? = some x := heap_alloc_new w x
    have := hb.block w.heap.size (by omega)
    simp only [allocs, Nat.add_zero]
    rw [this, h1]
  | x :: l, w, k + 1, o, h => by
    have := allocs_get l (w.alloc x) k o (by simpa using h)
    simp only [allocs]
    rw [← this]
    congr 1
    simp
    omega
set_option maxHeartbeats 4000000 in
set_option maxRecDepth 1000000 in
theorem root_walk (b q : Nat) (n cap : Nat) (z : Int) (x : Nat → Int) (w : World) (hn : n ≤ 8) (hx : ∀ j, j < 2 * n → 0 ≤ x j ∧ x j ≤ 255 ∧ w.cell? ⟨b, q + j, none⟩ = some (.int .u8 (x j))) (hb : b < w.heap.size)
  (lay : Nat → World → Prop) (hlay : ∀ B W W', lay B W → Below W.heap.size W W' → lay B W')
  (PR : World → Value → Prop)
  (h6 : ∀ W g, Below w.heap.size w W → W.heap[g]? = some (.cells #[.string ⟨#[]⟩] 9 (0, 0)) → w.heap.size ≤ g → Calls Tryz.prog 6 #[.slice (some ⟨g, 0, none⟩) 1 1] W fun e w' => ∃ v, e = .returned v ∧ PR w' v ∧ Below w.heap.size w w')
  (h5 : ∀ W v, PR W v → Calls Tryz.prog 5 #[v] W fun e w' => ∃ (s : ByteArray) (u : Nat → Option Addr × Nat × Nat) (B : Nat), e = .returned (.tuple #[.agg #[.string s, .slice (u 1).1 (u 1).2.1 (u 1).2.2, .slice (u 2).1 (u 2).2.1 (u 2).2.2, .slice (u 3).1 (u 3).2.1 (u 3).2.2, .slice (u 4).1 (u 4).2.1 (u 4).2.2, .slice (u 5).1 (u 5).2.1 (u 5).2.2, .slice (u 6).1 (u 6).2.1 (u 6).2.2,
      .slice (u 7).1 (u 7).2.1 (u 7).2.2, .slice (u 8).1 (u 8).2.1 (u 8).2.2, .slice (some ⟨B, 0, none⟩) 20 20, .int .i64 57, .slice (u 11).1 (u 11).2.1 (u 11).2.2], .agg #[.int .i64 0, .int .i64 0, .int .i64 0]]) ∧ lay B w' ∧ Below w.heap.size w w')
  (R : Runs) (hz : 0 ≤ z ∧ z ≤ 255) (hn0 : 0 < n) (hF : Facts w) (TS TT : World → Value → Prop) (RS RT : World → Nat → Prop) (hTS : ∀ v W W', TS W v → Below W.heap.size W W' → TS W' v) (hTT : ∀ v W W', TT W v → Below W.heap.size W W' → TT W' v)
  (hRS : ∀ g W W', RS W g → Below W.heap.size W W' → RS W' g) (hRT : ∀ g W W', RT W g → Below W.heap.size W W' → RT W' g)
  (h8S : ∀ W, Below w.heap.size w W → Calls Tryz.prog 8 #[.string (txS x n)] W fun e w' => ∃ v, e = .returned v ∧ TS w' v ∧ Below W.heap.size W w')
  (h8T : ∀ W, Below w.heap.size w W → Calls Tryz.prog 8 #[.string (txT x n)] W fun e w' => ∃ v, e = .returned v ∧ TT w' v ∧ Below W.heap.size W w')
  (h7 : ∀ B W v, Below w.heap.size w W → lay B W → TS W v → Calls Tryz.prog 7 #[.agg #[.slice (some ⟨B, 0, none⟩) 20 20, .int .i64 57], v] W fun e w' => ∃ g, e = .returned (.tuple #[.slice (some ⟨g, 0, none⟩) n n, .agg #[.int .i64 0, .int .i64 0, .int .i64 0]]) ∧ RS w' g ∧ Below W.heap.size W w')
  (h9 : ∀ B W v, Below w.heap.size w W → lay B W → TT W v → Calls Tryz.prog 9 #[.agg #[.slice (some ⟨B, 0, none⟩) 20 20, .int .i64 57], v] W fun e w' => ∃ g, e = .returned (.tuple #[.slice (some ⟨g, 0, none⟩) n n, .agg #[.int .i64 0, .int .i64 0, .int .i64 0]]) ∧ RT w' g ∧ Below W.heap.size W w')
  (hRS2 : ∀ W g, RS W g → ∃ (GA : Nat → Nat) (CA : Nat → Nat → Value), ∀ i, i < n → W.cell? ⟨g, i * 2, none⟩ = some (.slice (some ⟨GA i, 0, none⟩) (nS (kS x i)) (nS (kS x i))) ∧ W.cell? ⟨g, i * 2 + 1, none⟩ = some (.int .i64 (itmI (kS x i))) ∧ TokCells (CA i) (sndA (kS x i)) ∧ ∀ j, j < 5 * nS (kS x i) → W.cell? ⟨GA i, 0 + j, none⟩ = some (CA i j))
  (hRT2 : ∀ W g, RT W g → ∃ (GB : Nat → Nat) (CB : Nat → Nat → Value), ∀ i, i < n → W.cell? ⟨g, i * 3, none⟩ = some (.slice (some ⟨GB i, 0, none⟩) (nT (kT x i)) (nT (kT x i))) ∧ W.cell? ⟨g, i * 3 + 1, none⟩ = some (.int .i64 (sptI (kT x i))) ∧ W.cell? ⟨g, i * 3 + 2, none⟩ = some (.int .u8 (kndI (kM x i))) ∧ TokCells (CB i) (tgtA (kT x i)) ∧ ∀ j, j < 5 * nT (kT x i) → W.cell? ⟨GB i, 0 + j, none⟩ = some (CB i j))
 : Calls Tryz.prog 3 #[.slice (some ⟨b, q, none⟩) n cap, .int .u8 z] w fun e w' => e = .returned (.bool true) ∧ Below w.heap.size w w' := by
  have f0 : ¬ (8 : Int) < (n : Int) := by omega
  go_enter Tryz.func3, Tryz.ntmps3
  go_wp2_with (first
        | (go_at_call 6; refine Calls.mono (h6 _ _ ((Below.refl _ _).alloc (Nat.le_refl _) _) (heap_alloc_new _ _) (Nat.le_refl _)) ?_; rintro e w2 ⟨p, rfl, hpr, hB2⟩)
        | (go_at_call 5; refine Calls.mono (h5 _ _ hpr) ?_; rintro e w3 ⟨s, u, B, rfl, hL3, hB3'⟩))
  obtain ⟨v5, hv5⟩ : ∃ x, x = Obj.cells #[.string s, .slice (u 1).1 (u 1).2.1 (u 1).2.2, .slice (u 2).1 (u 2).2.1 (u 2).2.2, .slice (u 3).1 (u 3).2.1 (u 3).2.2, .slice (u 4).1 (u 4).2.1 (u 4).2.2, .slice (u 5).1 (u 5).2.1 (u 5).2.2, .slice (u 6).1 (u 6).2.1 (u 6).2.2,
      .slice (u 7).1 (u 7).2.1 (u 7).2.2, .slice (u 8).1 (u 8).2.1 (u 8).2.2, .slice (some ⟨B, 0, none⟩) 20 20, .int .i64 57, .slice (u 11).1 (u 11).2.1 (u 11).2.2] 37 (0, 0) := ⟨_, rfl⟩
  obtain ⟨w1, hw1⟩ : ∃ x, x = ((((((((w3.alloc v5).alloc (.cells #[.int .i64 0, .int .i64 0, .int .i64 0] 42)).alloc (.cells #[.string ⟨#[65]⟩, .string ⟨#[84, 32, 40, 32, 49, 32, 58, 32, 50, 32, 41]⟩, .string ⟨#[53]⟩, .string ⟨#[83, 80, 65, 67, 69, 83]⟩, .string ⟨#[78, 32, 40, 32, 73, 32, 43, 32, 49, 32, 41]⟩, .string ⟨#[71, 66, 32, 79, 70, 32, 72]⟩, .string ⟨#[34, 120, 34]⟩, .string ⟨#[69]⟩] 9)).alloc (.cells #[.int .i64 0, .int .i64 5, .int .i64 (-1), .int .i64 (-1), .int .i64 14, .int .i64 12, .int .i64 (-1), .int .i64 4] 3)).alloc (.cells #[.string ⟨#[65]⟩, .string ⟨#[69]⟩, .string ⟨#[78, 32, 40, 32, 50, 32, 41]⟩, .string ⟨#[71, 65, 32, 79, 70, 32, 72]⟩] 9)).alloc (.cells #[.int .i64 0, .int .i64 4, .int .i64 14, .int .i64 11] 3)).alloc (.cells #[.string ⟨#[]⟩, .string ⟨#[32, 82, 79, 85, 78, 68, 69, 68]⟩, .string ⟨#[32, 82, 79, 85, 78, 68, 69, 68, 32, 77, 79, 68, 69, 32, 73, 83, 32, 78, 69, 65, 82, 69, 83, 84, 45, 69, 86, 69, 78]⟩, .string ⟨#[32, 82, 79, 85, 78, 68, 69, 68, 32, 77, 79, 68, 69, 32, 84, 82, 85, 78, 67, 65, 84, 73, 79, 78]⟩, .string ⟨#[32, 82, 79, 85, 78, 68, 69, 68, 32, 77, 79, 68, 69, 32, 73, 83, 32, 84, 79, 87, 65, 82, 68, 45, 76, 69, 83, 83, 69, 82]⟩] 9)).alloc (.cells #[.int .u8 0, .int .u8 1, .int .u8 2, .int .u8 0, .int .u8 6] 47)) := ⟨_, rfl⟩
  rw [hv5] at hw1
  rw [← hw1]
  rw [← hv5] at hw1
  obtain ⟨b0, hb0⟩ : ∃ x, x = w3.heap.size := ⟨_, rfl⟩
  have hs1 : w1.heap.size = b0 + 1 + 1 + 1 + 1 + 1 + 1 + 1 + 1 := by rw [hw1, hb0]; simp
  have hle : w.heap.size ≤ w3.heap.size := hB3'.size
  obtain ⟨al, hl⟩ : ∃ l, l = [v5, .cells #[.int .i64 0, .int .i64 0, .int .i64 0] 42 (0, 0), oAll, oItems, oSome, oSpots, oModes, oKinds] := ⟨_, rfl⟩
  have hal : w1 = allocs w3 al := by rw [hl]; exact hw1
  have hw01 : Below w.heap.size w w1 := by rw [hal]; exact allocs_below al w3 w _ hB3' hle
  have hlb : w.heap.size ≤ b0 := by rw [hb0]; exact hle
  have Z : ∀ k o, al[k]? = some o → w1.heap[b0 + k]? = some o := fun k o h => by rw [hal, hb0]; exact allocs_get al w3 k o h
  have Z5 : w1.heap[b0]? = some v5 := Z 0 _ (by rw [hl]; rfl)
  have Z6 : w1.heap[b0 + 1]? = some (.cells #[.int .i64 0, .int .i64 0, .int .i64 0] 42 (0, 0)) := Z 1 _ (by rw [hl]; rfl)
  have cB : ∀ W : World, (∀ k o, al[k]? = some o → W.heap[b0 + k]? = some o) → (∀ k, k < 8 → W.cell? ⟨b0 + 1 + 1, k, none⟩ = some (.string (sndB k))) ∧ (∀ k, k < 4 → W.cell? ⟨b0 + 1 + 1 + 1 + 1, k, none⟩ = some (.string (tgtB k))) ∧ (∀ k, k < 5 → W.cell? ⟨b0 + 1 + 1 + 1 + 1 + 1 + 1, k, none⟩ = some (.string (modB k))) ∧
      (∀ k, k < 8 → W.cell? ⟨b0 + 1 + 1 + 1, k, none⟩ = some (.int .i64 (itmI k))) ∧ (∀ k, k < 4 → W.cell? ⟨b0 + 1 + 1 + 1 + 1 + 1, k, none⟩ = some (.int .i64 (sptI k))) ∧ (∀ k, k < 5 → W.cell? ⟨b0 + 1 + 1 + 1 + 1 + 1 + 1 + 1, k, none⟩ = some (.int .u8 (kndI k))) := by
    intro W h
    refine ⟨fun k hk => ?_, fun k hk => ?_, fun k hk => ?_, fun k hk => ?_, fun k hk => ?_, fun k hk => ?_⟩
    · have := h 2 _ (by rw [hl]; rfl)
      simp only [World.cell?, show b0 + 1 + 1 = b0 + 2 by omega, this, oAll]
      match k, hk with
      | 0, _ | 1, _ | 2, _ | 3, _ | 4, _ | 5, _ | 6, _ | 7, _ => rfl
    · have := h 4 _ (by rw [hl]; rfl)
      simp only [World.cell?, show b0 + 1 + 1 + 1 + 1 = b0 + 4 by omega, this, oSome]
      match k, hk with
      | 0, _ | 1, _ | 2, _ | 3, _ => rfl
    · have := h 6 _ (by rw [hl]; rfl)
      simp only [World.cell?, show b0 + 1 + 1 + 1 + 1 + 1 + 1 = b0 + 6 by omega, this, oModes]
      match k, hk with
      | 0, _ | 1, _ | 2, _ | 3, _ | 4, _ => rfl
    · have := h 3 _ (by rw [hl]; rfl)
      simp only [World.cell?, show b0 + 1 + 1 + 1 = b0 + 3 by omega, this, oItems]
      match k, hk with
      | 0, _ | 1, _ | 2, _ | 3, _ | 4, _ | 5, _ | 6, _ | 7, _ => rfl
    · have := h 5 _ (by rw [hl]; rfl)
      simp only [World.cell?, show b0 + 1 + 1 + 1 + 1 + 1 = b0 + 5 by omega, this, oSpots]
      match k, hk with
      | 0, _ | 1, _ | 2, _ | 3, _ => rfl
    · have := h 7 _ (by rw [hl]; rfl)
      simp only [World.cell?, show b0 + 1 + 1 + 1 + 1 + 1 + 1 + 1 = b0 + 7 by omega, this, oKinds]
      match k, hk with
      | 0, _ | 1, _ | 2, _ | 3, _ | 4, _ => rfl
  have hx1 : ∀ j, j < 2 * n → w1.cell? ⟨b, q + j, none⟩ = some (.int .u8 (x j)) := fun j hj => (hw01.cell hb).trans (hx j hj).2.2
  rw [← hb0]
  have HB0 : Hid (b0 = w3.heap.size) := hb0
  have HV5 := hid_of hv5
  have HL := hid_of hl
  have hbl1 : Below w3.heap.size w3 w1 := by rw [hal]; exact allocs_below al w3 w3 _ (Below.refl _ _) (Nat.le_refl _)
  have hL1 : lay B w1 := hlay _ _ _ hL3 hbl1
  clear hw1 hal hb0 hv5 hl hB2 hpr hB3' hle hbl1 hL3 hlb
  go_loopw [7, 8, 15] (fun s t i wr => ∃ k : Nat, k ≤ n ∧ s = .string (txS x k) ∧ t = .string (txT x k) ∧ i = .int .i64 k ∧ Below w1.heap.size w1 wr) (fun _ _ i _ => n - (intOf i).toNat)
  case atStart => exact ⟨0, Nat.zero_le _, rfl, rfl, rfl, Below.refl _ _⟩
  case round =>
    obtain ⟨k, hk, rfl, rfl, rfl, hbel⟩ := hrel
    have ZW : ∀ k o, al[k]? = some o → wr.heap[b0 + k]? = some o := fun k o h => by
      have h1 := Z k o h
      rw [hbel.block _ (Array.getElem?_eq_some_iff.1 h1).1]; exact h1
    have hbr : b < w1.heap.size := Nat.lt_of_lt_of_le hb hw01.size
    by_cases hlt : k < n
    · obtain ⟨cS, cT, cM, _, _, _⟩ := cB wr ZW
      obtain ⟨v0, hv0⟩ : ∃ v, v = x (2 * k) := ⟨_, rfl⟩
      obtain ⟨v1, hv1⟩ : ∃ v, v = x (2 * k + 1) := ⟨_, rfl⟩
      obtain ⟨p0, p1, c0⟩ := hx (2 * k) (by omega)
      obtain ⟨r0, r1, c1⟩ := hx (2 * k + 1) (by omega)
      have c0 : wr.cell? ⟨b, q + k * 2, none⟩ = some (.int .u8 v0) := by rw [hv0, ← hx1 (2 * k) (by omega), show q + k * 2 = q + 2 * k by omega]; exact hbel.cell hbr
      have c1 : wr.cell? ⟨b, q + k * 2 + 1, none⟩ = some (.int .u8 v1) := by rw [hv1, ← hx1 (2 * k + 1) (by omega), show q + k * 2 + 1 = q + (2 * k + 1) by omega]; exact hbel.cell hbr
      rw [← hv0] at p0 p1
      rw [← hv1] at r0 r1
      have HS : Hid (txS x (k + 1) = txS x k ++ ⟨#[32]⟩ ++ sndB (v0 % 8).toNat) := by rw [hv0]; rfl
      have HT : Hid (txT x (k + 1) = txT x k ++ ⟨#[32]⟩ ++ tgtB (v0 % 4).toNat ++ modB (v1 % 5).toNat) := by rw [hv0, hv1]; rfl
      have cA := cS (v0 % 8).toNat (by omega)
      have cB := cT (v0 % 4).toNat (by omega)
      have cC := cM (v1 % 5).toNat (by omega)
      have g1 := txS_size x k
      have g2 := txT_size x k
      have g3 := sndB_size (v0 % 8).toNat
      have g4 := tgtB_size (v0 % 4).toNat
      have g5 := modB_size (v1 % 5).toNat
      have i1 : ¬ 9223372036854775807 < (txS x k).size + 1 := by omega
      have i2 : ¬ 9223372036854775807 < (txS x k).size + 1 + (sndB (v0 % 8).toNat).size := by omega
      have i3 : ¬ 9223372036854775807 < (txT x k).size + 1 := by omega
      have i4 : ¬ 9223372036854775807 < (txT x k).size + 1 + (tgtB (v0 % 4).toNat).size := by omega
      have i5 : ¬ 9223372036854775807 < (txT x k).size + 1 + (tgtB (v0 % 4).toNat).size + (modB (v1 % 5).toNat).size := by omega
      clear hv0 hv1 g1 g2 g3 g4 g5
      have cB' : wr.cell? ⟨b0 + 1 + 1 + 1 + 1, (v0.tmod 4).toNat, none⟩ = some (.string (tgtB (v0 % 4).toNat)) := by rw [Int.tmod_eq_emod_of_nonneg p0]; exact cB
      have cC' : wr.cell? ⟨b0 + 1 + 1 + 1 + 1 + 1 + 1, (v1.tmod 5).toNat, none⟩ = some (.string (modB (v1 % 5).toNat)) := by rw [Int.tmod_eq_emod_of_nonneg r0]; exact cC
      clear ZW Z hx1 Z5 Z6 h6 h5 hRS2 hRT2 h7 h9 h8S h8T hL1 cS cT cM
      go_wp2
      go_region
      go_wp2
      go_roundw
      case rel => exact ⟨k + 1, by omega, by rw [HS.out], by rw [HT.out], by go_num, hbel.drew⟩
      case measure => simp [intOf]; omega
    · have hkn : k = n := by omega
      subst hkn
      have Z9 : ∀ W, Below w1.heap.size w1 W → W.cell? ⟨b0, 9, none⟩ = some (.slice (some ⟨B, 0, none⟩) 20 20) := fun W h => by
        have h1 : W.heap[b0]? = some v5 := by rw [h.block _ (Array.getElem?_eq_some_iff.1 Z5).1]; exact Z5
        simp [World.cell?, h1, HV5.out]
      have Z10 : ∀ W, Below w1.heap.size w1 W → W.cell? ⟨b0, 10, none⟩ = some (.int .i64 57) := fun W h => by
        have h1 : W.heap[b0]? = some v5 := by rw [h.block _ (Array.getElem?_eq_some_iff.1 Z5).1]; exact Z5
        simp [World.cell?, h1, HV5.out]
      have LB : ∀ W, Below w1.heap.size w1 W → lay B W := fun W h => hlay _ _ _ hL1 h
      have BB : ∀ W, Below w1.heap.size w1 W → Below w.heap.size w W := fun W h => hw01.trans (h.mono hw01.size)
      have h8' : ∀ W, Below w1.heap.size w1 W → Calls Tryz.prog 8 #[.string (txS x k)] W fun e w' => ∃ v, e = .returned v ∧ TS w' v ∧ Below w1.heap.size w1 w' ∧ Below W.heap.size W w' := fun W h => (h8S W (BB W h)).mono fun e w' ⟨v, h1, h2, h3⟩ => ⟨v, h1, h2, h.trans (h3.mono h.size), h3⟩
      have h8T' : ∀ W, Below w1.heap.size w1 W → Calls Tryz.prog 8 #[.string (txT x k)] W fun e w' => ∃ v, e = .returned v ∧ TT w' v ∧ Below w1.heap.size w1 w' ∧ Below W.heap.size W w' := fun W h => (h8T W (BB W h)).mono fun e w' ⟨v, h1, h2, h3⟩ => ⟨v, h1, h2, h.trans (h3.mono h.size), h3⟩
      have h7' : ∀ W v, Below w1.heap.size w1 W → TS W v → Calls Tryz.prog 7 #[.agg #[.slice (some ⟨B, 0, none⟩) 20 20, .int .i64 57], v] W fun e w' => ∃ g, e = .returned (.tuple #[.slice (some ⟨g, 0, none⟩) k k, .agg #[.int .i64 0, .int .i64 0, .int .i64 0]]) ∧ RS w' g ∧ Below w1.heap.size w1 w' ∧ Below W.heap.size W w' := fun W v h hv => (h7 B W v (BB W h) (LB W h) hv).mono fun e w' ⟨v, h1, h2, h3⟩ => ⟨v, h1, h2, h.trans (h3.mono h.size), h3⟩
      have h9' : ∀ W v, Below w1.heap.size w1 W → TT W v → Calls Tryz.prog 9 #[.agg #[.slice (some ⟨B, 0, none⟩) 20 20, .int .i64 57], v] W fun e w' => ∃ g, e = .returned (.tuple #[.slice (some ⟨g, 0, none⟩) k k, .agg #[.int .i64 0, .int .i64 0, .int .i64 0]]) ∧ RT w' g ∧ Below w1.heap.size w1 w' ∧ Below W.heap.size W w' := fun W v h hv => (h9 B W v (BB W h) (LB W h) hv).mono fun e w' ⟨v, h1, h2, h3⟩ => ⟨v, h1, h2, h.trans (h3.mono h.size), h3⟩
      have HZ := hid_of Z
      have HcB := hid_of cB
      have HF := hid_of hF
      have HR2 := hid_of hRS2
      have HT2 := hid_of hRT2
      have HX := hid_of hx
      have HZZ := hid_of hz
      have HN0 := hid_of hn0
      have HR := hid_of R
      clear hF hRS2 hRT2 hx hz hn0 R
      have hb01 : b0 < w1.heap.size := (Array.getElem?_eq_some_iff.1 Z5).1
      have NE : ∀ W, Below w1.heap.size w1 W → ¬ b0 = W.heap.size ∧ ¬ b0 + 1 = W.heap.size ∧ b0 < W.heap.size := fun W h => by have := h.size; have := hs1; omega
      obtain ⟨n0, n1, n2⟩ := NE _ hbel
      have z9 := Z9 _ hbel
      have z10 := Z10 _ hbel
      have fk : ¬ (k : Int) < (k : Int) := by omega
      clear ZW cB hx1 Z5 Z6 Z hlay h8S h8T h7 h9 LB
      go_wp2
      refine wp_merge (fun a a' W => ∃ (c0 c1 c2 c3 c4 c5 c6 c7 : Value) (P5 G5 : Nat), a' = ⟨((((((((((a.tmps.setIfInBounds 108 c0).setIfInBounds 109 c1).setIfInBounds 110 c2).setIfInBounds 111 c3).setIfInBounds 112 c4).setIfInBounds 113 c5).setIfInBounds 114 c6).setIfInBounds 115 c7).setIfInBounds 16 (.slice (some ⟨G5, 0, none⟩) k k)).setIfInBounds 17 (.pointer (some ⟨P5, 0, none⟩))), a.defers⟩ ∧
        RS W G5 ∧ Below w1.heap.size w1 W ∧ P5 < W.heap.size ∧ W.cell? ⟨P5, 0, none⟩ = some (.int .i64 0)) ?_ ?_
      · intro K' hK'
        go_region_with (first
          | (go_at_call 8; go_loud (refine Calls.mono (h8' _ ?_) ?_; (first | exact hbel.drew | exact hbel.drew.alloc hbel.size _); rintro e w4 ⟨v4, rfl, hT4, hb4, hB4⟩; have z9 := Z9 _ hb4; have z10 := Z10 _ hb4; obtain ⟨n0, n1, n2⟩ := NE _ hb4; (try (have y0 : w4.cell? ⟨wr.heap.size, 0, none⟩ = some (.int .i64 0) := (hB4.cell (by simp)).trans (by simp); have y1 : w4.cell? ⟨wr.heap.size, 1, none⟩ = some (.int .i64 0) := (hB4.cell (by simp)).trans (by simp); have y2 : w4.cell? ⟨wr.heap.size, 2, none⟩ = some (.int .i64 0) := (hB4.cell (by simp)).trans (by simp); have yf : ∀ i, w4.frozen? ⟨wr.heap.size, i, none⟩ = false := fun i => (hB4.frozen (by simp)).trans (by simp); have yz : wr.heap.size < w4.heap.size := by have := hB4.size; simp at this; omega))))
          | (go_at_call 7; go_loud (refine Calls.mono (h7' _ v4 ?_ ?_) ?_; (first | exact hb4 | exact hb4.alloc hb4.size _); (first | exact hT4 | exact hTS _ _ _ hT4 ((Below.refl _ _).alloc (Nat.le_refl _) _)); rintro e w5 ⟨g5, rfl, hR5, hb5, hB5⟩; have z9 := Z9 _ hb5; have z10 := Z10 _ hb5; obtain ⟨n0, n1, n2⟩ := NE _ hb5; (first | (have y0' : w5.cell? ⟨wr.heap.size, 0, none⟩ = some (.int .i64 0) := (hB5.cell yz).trans y0; have y1' : w5.cell? ⟨wr.heap.size, 1, none⟩ = some (.int .i64 0) := (hB5.cell yz).trans y1; have y2' : w5.cell? ⟨wr.heap.size, 2, none⟩ = some (.int .i64 0) := (hB5.cell yz).trans y2; have yf' : ∀ i, w5.frozen? ⟨wr.heap.size, i, none⟩ = false := fun i => (hB5.frozen yz).trans (yf i)) | (have y0 : w5.cell? ⟨w4.heap.size, 0, none⟩ = some (.int .i64 0) := (hB5.cell (by simp)).trans (by simp); have y1 : w5.cell? ⟨w4.heap.size, 1, none⟩ = some (.int .i64 0) := (hB5.cell (by simp)).trans (by simp); have y2 : w5.cell? ⟨w4.heap.size, 2, none⟩ = some (.int .i64 0) := (hB5.cell (by simp)).trans (by simp); have yf : ∀ i, w5.frozen? ⟨w4.heap.size, i, none⟩ = false := fun i => (hB5.frozen (by simp)).trans (by simp)) | skip))))
        all_goals first
          | (refine hK' _ _ ⟨(.tuple #[.slice (some ⟨g5, 0, none⟩) k k, .agg #[.int .i64 0, .int .i64 0, .int .i64 0]]), (.pointer (some ⟨b0, 9, none⟩)), (.agg #[.slice (some ⟨B, 0, none⟩) 20 20, .int .i64 57]), (.string (txS x k)), v4, (.tuple #[.slice (some ⟨g5, 0, none⟩) k k, .agg #[.int .i64 0, .int .i64 0, .int .i64 0]]), (.slice (some ⟨g5, 0, none⟩) k k), (.agg #[.int .i64 0, .int .i64 0, .int .i64 0]), w5.heap.size, g5, by kernel_rfl, hRS _ _ _ hR5 ((Below.refl _ _).alloc (Nat.le_refl _) _), hb5.alloc hb5.size _, by simp, by simp⟩)
          | (rw [setCell_id y0', setCell_id y1', setCell_id y2']; refine hK' _ _ ⟨(.tuple #[.slice (some ⟨g5, 0, none⟩) k k, .agg #[.int .i64 0, .int .i64 0, .int .i64 0]]), (.pointer (some ⟨b0, 9, none⟩)), (.agg #[.slice (some ⟨B, 0, none⟩) 20 20, .int .i64 57]), (.string (txS x k)), v4, (.tuple #[.slice (some ⟨g5, 0, none⟩) k k, .agg #[.int .i64 0, .int .i64 0, .int .i64 0]]), (.slice (some ⟨g5, 0, none⟩) k k), (.agg #[.int .i64 0, .int .i64 0, .int .i64 0]), wr.heap.size, g5, by kernel_rfl, hR5, hb5, by have := hB5.size; omega, y0'⟩)
          | (rw [setCell_id y0, setCell_id y1, setCell_id y2]; refine hK' _ _ ⟨(.tuple #[.slice (some ⟨g5, 0, none⟩) k k, .agg #[.int .i64 0, .int .i64 0, .int .i64 0]]), (.pointer (some ⟨b0, 9, none⟩)), (.agg #[.slice (some ⟨B, 0, none⟩) 20 20, .int .i64 57]), (.string (txS x k)), v4, (.tuple #[.slice (some ⟨g5, 0, none⟩) k k, .agg #[.int .i64 0, .int .i64 0, .int .i64 0]]), (.slice (some ⟨g5, 0, none⟩) k k), (.agg #[.int .i64 0, .int .i64 0, .int .i64 0]), w4.heap.size, g5, by kernel_rfl, hR5, hb5, by have := hB5.size; simp at this; omega, y0⟩)
      · rintro a' W ⟨c0, c1, c2, c3, c4, c5, c6, c7, P5, G5, rfl, hR5, hbW, hP5, hz5⟩
        have m1 : ¬ b0 = W.heap.size ∧ ¬ b0 + 1 = W.heap.size ∧ b0 < W.heap.size := NE _ hbW
        obtain ⟨n0, n1, n2⟩ := m1
        have z9 := Z9 _ hbW
        have z10 := Z10 _ hbW
        go_wp2
        refine wp_merge (fun a a' W' => ∃ (c0 c1 c2 c3 c4 c5 c6 c7 : Value) (P7 G7 : Nat), a' = ⟨((((((((((a.tmps.setIfInBounds 116 c0).setIfInBounds 117 c1).setIfInBounds 118 c2).setIfInBounds 119 c3).setIfInBounds 120 c4).setIfInBounds 121 c5).setIfInBounds 122 c6).setIfInBounds 123 c7).setIfInBounds 18 (.slice (some ⟨G7, 0, none⟩) k k)).setIfInBounds 19 (.pointer (some ⟨P7, 0, none⟩))), a.defers⟩ ∧
          RT W' G7 ∧ Below w1.heap.size w1 W' ∧ W'.cell? ⟨P7, 0, none⟩ = some (.int .i64 0) ∧ RS W' G5 ∧ W'.cell? ⟨P5, 0, none⟩ = some (.int .i64 0)) ?_ ?_
        · intro K' hK'
          go_region_with (first
            | (go_at_call 8; go_loud (refine Calls.mono (h8T' _ ?_) ?_; (first | exact hbW.drew | exact hbW.drew.alloc hbW.size _); rintro e w4 ⟨v4, rfl, hT4, hb4, hB4⟩; have z9 := Z9 _ hb4; have z10 := Z10 _ hb4; obtain ⟨n0, n1, n2⟩ := NE _ hb4; have hWB4 : Below W.heap.size W w4 := (by first | exact ((Below.refl W.heap.size W).drew).trans hB4 | exact (((Below.refl W.heap.size W).drew).alloc (Nat.le_refl _) _).trans (hB4.mono (by simp))); (try (have y0 : w4.cell? ⟨W.heap.size, 0, none⟩ = some (.int .i64 0) := (hB4.cell (by simp)).trans (by simp); have y1 : w4.cell? ⟨W.heap.size, 1, none⟩ = some (.int .i64 0) := (hB4.cell (by simp)).trans (by simp); have y2 : w4.cell? ⟨W.heap.size, 2, none⟩ = some (.int .i64 0) := (hB4.cell (by simp)).trans (by simp); have yf : ∀ i, w4.frozen? ⟨W.heap.size, i, none⟩ = false := fun i => (hB4.frozen (by simp)).trans (by simp); have yz : W.heap.size < w4.heap.size := by have := hB4.size; simp at this; omega))))
            | (go_at_call 9; go_loud (refine Calls.mono (h9' _ v4 ?_ ?_) ?_; (first | exact hb4 | exact hb4.alloc hb4.size _); (first | exact hT4 | exact hTT _ _ _ hT4 ((Below.refl _ _).alloc (Nat.le_refl _) _)); rintro e w5 ⟨g7, rfl, hR7, hb5, hB5⟩; have z9 := Z9 _ hb5; have z10 := Z10 _ hb5; obtain ⟨n0, n1, n2⟩ := NE _ hb5; have hWB5 : Below W.heap.size W w5 := (by first | exact hWB4.trans (hB5.mono hWB4.size) | exact (hWB4.alloc hWB4.size _).trans (hB5.mono (by have := hWB4.size; simp; omega))); (first | (have y0' : w5.cell? ⟨W.heap.size, 0, none⟩ = some (.int .i64 0) := (hB5.cell yz).trans y0; have y1' : w5.cell? ⟨W.heap.size, 1, none⟩ = some (.int .i64 0) := (hB5.cell yz).trans y1; have y2' : w5.cell? ⟨W.heap.size, 2, none⟩ = some (.int .i64 0) := (hB5.cell yz).trans y2; have yf' : ∀ i, w5.frozen? ⟨W.heap.size, i, none⟩ = false := fun i => (hB5.frozen yz).trans (yf i)) | (have y0 : w5.cell? ⟨w4.heap.size, 0, none⟩ = some (.int .i64 0) := (hB5.cell (by simp)).trans (by simp); have y1 : w5.cell? ⟨w4.heap.size, 1, none⟩ = some (.int .i64 0) := (hB5.cell (by simp)).trans (by simp); have y2 : w5.cell? ⟨w4.heap.size, 2, none⟩ = some (.int .i64 0) := (hB5.cell (by simp)).trans (by simp); have yf : ∀ i, w5.frozen? ⟨w4.heap.size, i, none⟩ = false := fun i => (hB5.frozen (by simp)).trans (by simp)) | skip))))
          all_goals first
            | (refine hK' _ _ ⟨(.tuple #[.slice (some ⟨g7, 0, none⟩) k k, .agg #[.int .i64 0, .int .i64 0, .int .i64 0]]), (.pointer (some ⟨b0, 9, none⟩)), (.agg #[.slice (some ⟨B, 0, none⟩) 20 20, .int .i64 57]), (.string (txT x k)), v4, (.tuple #[.slice (some ⟨g7, 0, none⟩) k k, .agg #[.int .i64 0, .int .i64 0, .int .i64 0]]), (.slice (some ⟨g7, 0, none⟩) k k), (.agg #[.int .i64 0, .int .i64 0, .int .i64 0]), w5.heap.size, g7, by kernel_rfl, hRT _ _ _ hR7 ((Below.refl _ _).alloc (Nat.le_refl _) _), hb5.alloc hb5.size _, by simp, hRS _ _ _ hR5 (hWB5.alloc hWB5.size _), ((hWB5.alloc hWB5.size _).cell hP5).trans hz5⟩)
            | (rw [setCell_id y0', setCell_id y1', setCell_id y2']; refine hK' _ _ ⟨(.tuple #[.slice (some ⟨g7, 0, none⟩) k k, .agg #[.int .i64 0, .int .i64 0, .int .i64 0]]), (.pointer (some ⟨b0, 9, none⟩)), (.agg #[.slice (some ⟨B, 0, none⟩) 20 20, .int .i64 57]), (.string (txT x k)), v4, (.tuple #[.slice (some ⟨g7, 0, none⟩) k k, .agg #[.int .i64 0, .int .i64 0, .int .i64 0]]), (.slice (some ⟨g7, 0, none⟩) k k), (.agg #[.int .i64 0, .int .i64 0, .int .i64 0]), W.heap.size, g7, by kernel_rfl, hR7, hb5, y0', hRS _ _ _ hR5 hWB5, (hWB5.cell hP5).trans hz5⟩)
            | (rw [setCell_id y0, setCell_id y1, setCell_id y2]; refine hK' _ _ ⟨(.tuple #[.slice (some ⟨g7, 0, none⟩) k k, .agg #[.int .i64 0, .int .i64 0, .int .i64 0]]), (.pointer (some ⟨b0, 9, none⟩)), (.agg #[.slice (some ⟨B, 0, none⟩) 20 20, .int .i64 57]), (.string (txT x k)), v4, (.tuple #[.slice (some ⟨g7, 0, none⟩) k k, .agg #[.int .i64 0, .int .i64 0, .int .i64 0]]), (.slice (some ⟨g7, 0, none⟩) k k), (.agg #[.int .i64 0, .int .i64 0, .int .i64 0]), w4.heap.size, g7, by kernel_rfl, hR7, hb5, y0, hRS _ _ _ hR5 hWB5, (hWB5.cell hP5).trans hz5⟩)
        · rintro a' W' ⟨d0, d1, d2, d3, d4, d5, d6, d7, P7, G7, rfl, hR7, hbW', hz7, hR5', hz5'⟩
          clear hz5 hR5
          have HW' := hid_of (show Below w.heap.size w W' from hw01.trans (hbW'.mono hw01.size))
          have hF' : Facts W' := HF.out.below HW'.out
          obtain ⟨GA, CA, hA⟩ := HR2.out W' G5 hR5'
          obtain ⟨GB, CB, hB⟩ := HT2.out W' G7 hR7
          have HLW : Hid (LoopW ⟨b, q, k, cap, z, b0 + 1 + 1, b0 + 1 + 1 + 1, b0 + 1 + 1 + 1 + 1, b0 + 1 + 1 + 1 + 1 + 1, b0 + 1 + 1 + 1 + 1 + 1 + 1, b0 + 1 + 1 + 1 + 1 + 1 + 1 + 1, G5, G7, x, GA, GB, CA, CB⟩ W') := by
            have ZW' : ∀ k o, al[k]? = some o → W'.heap[b0 + k]? = some o := fun k o h => by
              have h1 := HZ.out k o h
              rw [hbW'.block _ (Array.getElem?_eq_some_iff.1 h1).1]; exact h1
            obtain ⟨e1, e2, e3, e4, e5, e6⟩ := HcB.out W' ZW'
            exact ⟨hF', fun j hj => let ⟨p1, p2, p3⟩ := HX.out j hj; ⟨p1, p2, (HW'.out.cell hb).trans p3⟩, e1, e4, e2, e5, e3, e6, fun i hi => ⟨(hA i hi).1, (hA i hi).2.1⟩, fun i hi => ⟨(hB i hi).1, (hB i hi).2.1, (hB i hi).2.2.1⟩, fun i hi => ⟨(hA i hi).2.2.1, (hA i hi).2.2.2⟩, fun i hi => ⟨(hB i hi).2.2.2.1, (hB i hi).2.2.2.2⟩⟩
          have HFF := hid_of hF'
          clear hF' hA hB HZ HcB HR2 HT2
          go_wp2
          refine loop_wp HR.out (V := ⟨b, q, k, cap, z, b0 + 1 + 1, b0 + 1 + 1 + 1, b0 + 1 + 1 + 1 + 1, b0 + 1 + 1 + 1 + 1 + 1, b0 + 1 + 1 + 1 + 1 + 1 + 1, b0 + 1 + 1 + 1 + 1 + 1 + 1 + 1, G5, G7, x, GA, GB, CA, CB⟩) HN0.out hn ?_ HLW.out ?_
          · exact ⟨rfl, rfl, rfl, rfl, rfl, rfl, rfl, rfl, rfl, rfl, rfl, rfl, rfl⟩
          · intro a2 W2 q1 q2 q3 hb2
            have q3 : a2.tmps.getD 1 undef = .int .u8 z := q3
            refine exit_in ?_
            apply_assumption
            exact tail_wp HR.out HZZ.out q1 q2 q3 (HFF.out.below hb2) fun W'' hb3 => ⟨rfl, HW'.out.trans ((hb2.trans (hb3.mono hb2.size)).mono HW'.out.size)⟩
end Go.Proofs.YtkghfmfciekbdaaGreatDoor
