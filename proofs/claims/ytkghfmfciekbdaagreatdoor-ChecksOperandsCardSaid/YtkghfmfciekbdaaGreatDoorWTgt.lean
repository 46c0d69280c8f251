/-
  checks.targets walked: the targets of a slice of tokens, over what is known of the calls at each target; conditions as stated.
-/
import Derived.Test.YtkghfmfciekbdaaGreatDoorWOpnd
import Derived.Deep.RegionWith
set_option linter.unusedVariables false
set_option linter.unusedSimpArgs false
namespace Go.Proofs.YtkghfmfciekbdaaGreatDoor
open Go Go.RowKit Go.Proofs
set_option linter.unusedVariables false
theorem info63 : (Tryz.prog.info? 63).map (fun i => (i.zero, i.size, i.bytes)) = some (some (.agg #[.slice none 0 0, .int .i64 0, .int .u8 0]), 3, 40) := by kernel_rfl
set_option maxHeartbeats 400000 in
set_option maxRecDepth 1000000 in
theorem clip54 (g n c : Nat) (w : World) (hn : n ≤ c) (hn2 : n < 65536) : Calls Tryz.prog 76 #[.slice (some ⟨g, 0, none⟩) n c] w fun e w' => e = .returned (.slice (some ⟨g, 0, none⟩) n n) ∧ w' = w := by
  go_enter Tryz.func76, Tryz.ntmps76
  go_wp2
  go_ret
  exact ⟨rfl, rfl⟩
set_option maxHeartbeats 400000 in
set_option maxRecDepth 1000000 in
theorem clip54n (w : World) : Calls Tryz.prog 76 #[.slice none 0 0] w fun e w' => e = .returned (.slice none 0 0) ∧ w' = w := by
  go_enter Tryz.func76, Tryz.ntmps76
  go_wp2
  go_ret
  exact ⟨rfl, rfl⟩
theorem piecesG_step {wr w7 w8 w9 : World} {B k g c nk : Nat} {n o G : Nat → Nat} {C : Nat → Value} {v : Value} {vs : List Value} {x : Obj} {e sz : Nat} (he : e ≠ 83) (hn : nk = n k) (hB : B ≤ wr.heap.size) (hp : PiecesG wr B k n o C G) (hv : wr.ownsRow B e sz v k vs)
    (h7 : Below wr.heap.size wr w7) (h8 : Below w7.heap.size w7 w8) (hg : w8.ownsRow w7.heap.size 83 5 (.slice (some ⟨g, 0, none⟩) nk c) nk ((List.range (nk * 5)).map fun j => C (o k * 5 + j))) (hnk : 0 < nk) (h9 : (w8.alloc x).grownBy w9 v.ownBlock) :
    PiecesG w9 B (k + 1) n o C (fun j => if j = k then g else G j) ∧ Below B wr w9 := by
  have s7 := h7.size
  have s8 := h8.size
  have b9 : ∀ q, q < w8.heap.size → some q ≠ v.ownBlock → w9.heap[q]? = w8.heap[q]? := fun q hq hne => (h9.block q (by simp; omega) hne).trans (Below.heap_alloc _ _ _ hq)
  refine ⟨fun j hj => ?_, (((Below.refl B wr).trans (h7.mono hB)).trans (h8.mono (by omega))).trans ((((Below.refl B w8).alloc (by omega) x).grown h9 (by simp; omega) (fun q hq => (hv.lt q hq).1)))⟩
  by_cases hjk : j < k
  · obtain ⟨e2, cur, e3, e4⟩ := hp j hjk
    have hlt : G j < wr.heap.size := (Array.getElem?_eq_some_iff.1 e3).1
    simp only [if_neg (show ¬ j = k by omega)]
    refine ⟨e2, cur, ?_, e4⟩
    rw [b9 (G j) (by omega), h8.block _ (by omega), h7.block _ hlt]
    · exact e3
    · intro hq
      obtain ⟨cur', q1, _⟩ := own_type hv hq.symm
      rw [q1] at e3
      simp at e3
      exact he e3.2
  · have hjk : j = k := by omega
    subst hjk
    simp only [if_pos]
    obtain ⟨h1, ⟨h0, _⟩ | ⟨g', cap', cur, e1, e2, e3, e4, e5, e6, e7⟩⟩ := hg
    · omega
    · simp only [Value.slice.injEq, Option.some.injEq, Addr.mk.injEq, and_true, true_and] at e1
      obtain ⟨rfl, rfl⟩ := e1
      have hlt : g < w8.heap.size := (Array.getElem?_eq_some_iff.1 e3).1
      subst hn
      refine ⟨by omega, cur, ?_, fun i hi => ?_⟩
      · rw [b9 g hlt]
        · exact e3
        · intro hq
          obtain ⟨cur', q1, q2⟩ := own_type hv hq.symm
          omega
      · have := congrArg (·[i]?) e7
        simp only [List.getElem?_take, if_pos hi, Array.getElem?_toList, List.getElem?_map, List.getElem?_range hi, Option.map_some] at this
        exact this
theorem field121 (c : Int) (s1 s2 s3 s4 s5 s6 s7 s8 s9 s10 : Value) (w : World) : (Instr.field 121 (.agg #[.int .u8 c, s1, s2, s3, s4, s5, s6, s7, s8, s9, s10]) 0).run Tryz.prog w = .ok (.int .u8 c) w := by kernel_rfl
theorem new_cells3 (w : World) (a b c : Value) (ty : TypeId) : ∀ (j : Nat) (u : Value), [a, b, c][j]? = some u → (w.alloc (.cells #[a, b, c] ty)).cell? ((⟨w.heap.size, 0, none⟩ : Addr).add j) = some u := by
  intro j u hj
  match j, hj with
  | 0, hj => simp at hj; subst hj; simp [Addr.add]
  | 1, hj => simp at hj; subst hj; simp [Addr.add]
  | 2, hj => simp at hj; subst hj; simp [Addr.add]
  | j + 3, hj => simp at hj
theorem one_cells3 (g nk : Nat) (it : Int) (mk : Nat) : ∀ u ∈ [Value.slice (some ⟨g, 0, none⟩) nk nk, .int .i64 it, .int .u8 mk], u.oneCell' = true := by
  intro u hu
  simp at hu
  rcases hu with rfl | rfl | rfl <;> rfl
def rowsT (n G : Nat → Nat) (items : Nat → Int) (md : Nat → Nat) (k : Nat) : List Value := (List.range k).flatMap fun j => [sliceOf n G j, .int .i64 (items j), .int .u8 (md j)]
theorem rowsT_step (n G : Nat → Nat) (items : Nat → Int) (md : Nat → Nat) (k g : Nat) : rowsT n (fun j => if j = k then g else G j) items md (k + 1) = rowsT n G items md k ++ [.slice (some ⟨g, 0, none⟩) (n k) (n k), .int .i64 (items k), .int .u8 (md k)] := by
  rw [rowsT, flat_succ, rowsT]
  congr 1
  · simp only [List.flatMap_def]
    congr 1
    apply List.map_congr_left
    intro j hj
    have : j ≠ k := by have := List.mem_range.1 hj; omega
    simp [sliceOf, this]
  · simp [sliceOf]
/-- what is known of the calls at a target: sums.Operand, literal, identifier, shape, Rounded -/
structure TgtC (lay : Value) (w0 : World) (b q L nk r : Nat) (Ck : Nat → Value) (it : Int) (part : Bool) (cat : Nat) (sh : Nat → Value) (md : Nat) : Prop where
  operand : ∀ (W : World) (cap : Nat), Below w0.heap.size w0 W → L ≤ cap → (∀ j, j < L * 5 → W.cell? ⟨b, q + j, none⟩ = some (Ck j)) → Calls Tryz.prog 72 #[.slice (some ⟨b, q, none⟩) L cap] W fun e w' => e = .returned (.tuple #[.int .i64 nk, .int .i64 0]) ∧ Below W.heap.size W w'
  literal : ∀ (W : World) (cap : Nat), Below w0.heap.size w0 W → L ≤ cap → (∀ j, j < L * 5 → W.cell? ⟨b, q + j, none⟩ = some (Ck j)) → Calls Tryz.prog 73 #[.slice (some ⟨b, q, none⟩) nk cap] W fun e w' => e = .returned (.bool false) ∧ Below W.heap.size W w'
  ident : ∀ (W : World) (cap : Nat), Below w0.heap.size w0 W → L ≤ cap → (∀ j, j < L * 5 → W.cell? ⟨b, q + j, none⟩ = some (Ck j)) → Calls Tryz.prog 74 #[lay, .slice (some ⟨b, q, none⟩) nk cap] W fun e w' => e = .returned (.tuple #[.int .i64 it, .bool part, .int .i64 0]) ∧ Below W.heap.size W w'
  shape : ∀ (W : World), Below w0.heap.size w0 W → Calls Tryz.prog 75 #[lay, .int .i64 it, .bool part] W fun e w' => e = .returned (.agg #[.int .u8 cat, sh 1, sh 2, sh 3, sh 4, sh 5, sh 6, sh 7, sh 8, sh 9, sh 10]) ∧ Below W.heap.size W w'
  rounded : ∀ (W : World) (ad : Option Addr) (cap : Nat), Below w0.heap.size w0 W → L - nk ≤ cap → (0 < L - nk → ad = some ⟨b, q + nk * 5, none⟩) → (∀ j, j < L * 5 → W.cell? ⟨b, q + j, none⟩ = some (Ck j)) → Calls Tryz.prog 13 #[.slice ad (L - nk) cap] W fun e w' => e = .returned (.tuple #[.int .u8 md, .int .i64 r, .agg #[.int .i64 0, .int .i64 0, .int .i64 0]]) ∧ Below W.heap.size W w'
set_option maxHeartbeats 2000000 in
set_option maxRecDepth 1000000 in
theorem targets_any (b off N cap m : Nat) (n o r : Nat → Nat) (C : Nat → Value) (items : Nat → Int) (part : Nat → Bool) (cat : Nat → Nat) (sh : Nat → Nat → Value) (md : Nat → Nat) (la : Option Addr) (ln lc : Nat) (lz : Int) (w : World) (hb : b < w.heap.size) (hN : N < 65536) (hcap : N ≤ cap) (hm : m < 65536) (ho0 : o 0 = 0) (ho : ∀ k, k < m → o (k + 1) = o k + (n k + r k)) (hom : o m = N) (hpos : ∀ k, k < m → 0 < n k) (hle : ∀ k, k ≤ m → o k ≤ N)
    (hcat : ∀ k, k < m → cat k = 4 ∨ cat k = 5)
    (hc : ∀ j, j < N * 5 → w.cell? ⟨b, off + j, none⟩ = some (C j)) (h1 : ∀ j, (C j).oneCell' = true)
    (hT : ∀ k, k < m → TgtC (.agg #[.slice la ln lc, .int .i64 lz]) w b (off + o k * 5) (N - o k) (n k) (r k) (fun j => C (o k * 5 + j)) (items k) (part k) (cat k) (sh k) (md k)) :
    Calls Tryz.prog 26 #[.agg #[.slice la ln lc, .int .i64 lz], .slice (some ⟨b, off, none⟩) N cap, .bool true] w fun e w' => ∃ v G, e = .returned (.tuple #[v, .agg #[.int .i64 0, .int .i64 0, .int .i64 0]]) ∧ OutRow w' w.heap.size 63 3 v m (rowsT n G items md m) ∧ PiecesG w' w.heap.size m n o C G ∧ Below w.heap.size w w' := by
  obtain ⟨i0, hi, hz0, hz1, hz2⟩ := info_parts info63
  obtain ⟨w1, hw1⟩ : ∃ x, x = (w.alloc (.cells #[.slice la ln lc, .int .i64 lz] 34)).alloc (.cells #[.int .i64 0, .int .i64 0, .int .i64 0] 42) := ⟨_, rfl⟩
  have hs1 : w1.heap.size = w.heap.size + 1 + 1 := by rw [hw1]; simp
  have hb01 : Below w.heap.size w w1 := by rw [hw1]; exact ((Below.refl _ _).alloc (Nat.le_refl _) _).alloc (by simp) _
  have hzl : w1.heap[w.heap.size]? = some (.cells #[.slice la ln lc, .int .i64 lz] 34 (0, 0)) := by rw [hw1, Below.heap_alloc _ _ _ (by simp)]; exact heap_alloc_new w _
  have hzf : w1.heap[w.heap.size + 1]? = some (.cells #[.int .i64 0, .int .i64 0, .int .i64 0] 42 (0, 0)) := by rw [hw1, show w.heap.size + 1 = (w.alloc (.cells #[.slice la ln lc, .int .i64 lz] 34)).heap.size by simp]; exact heap_alloc_new _ _
  have hc1 : ∀ j, j < N * 5 → w1.cell? ⟨b, off + j, none⟩ = some (C j) := fun j hj => (hb01.cell hb).trans (hc j hj)
  go_enter Tryz.func26, Tryz.ntmps26
  go_wp2
  rw [← hw1]
  clear hw1 hc
  go_loopw [1, 8] (fun l v wr => ∃ (k : Nat) (G : Nat → Nat), k ≤ m ∧ (∃ ad cp, l = .slice ad (N - o k) cp ∧ N - o k ≤ cp ∧ (k < m → ad = some ⟨b, off + o k * 5, none⟩)) ∧ wr.ownsRow w1.heap.size 63 3 v k (rowsT n G items md k) ∧ PiecesG wr w1.heap.size k n o C G ∧ Below w1.heap.size w1 wr) (fun l _ _ => lenV l)
  case atStart => exact ⟨0, fun _ => 0, Nat.zero_le _, ⟨some ⟨b, off, none⟩, cap, by rw [ho0]; rfl, by omega, fun _ => by rw [ho0]; simp⟩, World.ownsRow_nil _ _ _ _, fun j hj => by omega, Below.refl _ _⟩
  case round =>
    obtain ⟨k, G, hk, ⟨ad, cp, rfl, hcp, had⟩, hown, hpc, hbel⟩ := hrel
    by_cases hlt : k < m
    · obtain rfl := had hlt
      have hsr := hbel.size
      have hok : o k + n k + r k ≤ N := by rw [Nat.add_assoc, ← ho k hlt]; exact hle (k + 1) hlt
      have hnp := hpos k hlt
      have hw : Below w.heap.size w wr := hb01.trans (hbel.mono (by omega))
      have hcr : ∀ j, j < (N - o k) * 5 → wr.cell? ⟨b, off + o k * 5 + j, none⟩ = some (C (o k * 5 + j)) := fun j hj => by
        rw [← hc1 (o k * 5 + j) (by omega), ← Nat.add_assoc]; exact hbel.cell (show b < w1.heap.size by omega)
      have hbr : b < wr.heap.size := by omega
      have TC := hT k hlt
      obtain ⟨L, hL⟩ : ∃ x, x = N - o k := ⟨_, rfl⟩
      obtain ⟨nk, hnk⟩ : ∃ x, x = n k := ⟨_, rfl⟩
      obtain ⟨rk, hrk⟩ : ∃ x, x = r k := ⟨_, rfl⟩
      obtain ⟨it, hit⟩ : ∃ x, x = items k := ⟨_, rfl⟩
      obtain ⟨pt, hpt⟩ : ∃ x, x = part k := ⟨_, rfl⟩
      obtain ⟨mk, hmk⟩ : ∃ x, x = md k := ⟨_, rfl⟩
      rw [← hL] at hcp hcr
      rw [← hL, ← hnk, ← hrk, ← hit, ← hpt, ← hmk] at TC
      rw [← hL]
      rw [← hnk, ← hrk] at hok
      rw [← hnk] at hnp
      have KT : ∀ W, Below wr.heap.size wr W → Below w.heap.size w W ∧ ∀ j, j < L * 5 → W.cell? ⟨b, off + o k * 5 + j, none⟩ = some (C (o k * 5 + j)) := fun W h => ⟨hw.trans (h.mono (by omega)), fun j hj => (h.cell hbr).trans (hcr j hj)⟩
      have h473 := fun W cap hc h => TC.operand W cap (KT W h).1 hc (KT W h).2
      have h324 := fun W cap hc h => TC.literal W cap (KT W h).1 hc (KT W h).2
      have h502 := fun W cap hc h => TC.ident W cap (KT W h).1 hc (KT W h).2
      have h503 := fun W h => TC.shape W (KT W h).1
      have h497 := fun W ad cap hc h e => TC.rounded W ad cap (KT W h).1 hc e (KT W h).2
      have zl : wr.heap[w.heap.size]? = some (.cells #[.slice la ln lc, .int .i64 lz] 34 (0, 0)) := (hbel.block _ (by omega)).trans hzl
      have ZL : ∀ W, Below wr.heap.size wr W → W.heap[w.heap.size]? = some (.cells #[.slice la ln lc, .int .i64 lz] 34 (0, 0)) := fun W h => (h.block _ (by omega)).trans zl
      have Z0 : ∀ W, Below wr.heap.size wr W → W.cell? ⟨w.heap.size, 0, none⟩ = some (.slice la ln lc) := fun W h => by simp [World.cell?, ZL W h]
      have Z1 : ∀ W, Below wr.heap.size wr W → W.cell? ⟨w.heap.size, 1, none⟩ = some (.int .i64 lz) := fun W h => by simp [World.cell?, ZL W h]
      have f0 : (0 : Int) < (L : Int) := by omega
      have f1 : ¬ (nk : Int) < 0 := by omega
      have f2 : ¬ (L : Int) < (nk : Int) := by omega
      have f3 : ¬ (L : Int) < (nk : Int) + (rk : Int) := by omega
      have hLN : L ≤ N := by omega
      have HL : Hid (L = N - o k) := hL
      have HN : Hid (nk = n k) := hnk
      have HR : Hid (rk = r k) := hrk
      have HI : Hid (it = items k) := hit
      have HM : Hid (mk = md k) := hmk
      have HC := hcat k hlt
      clear hT had hL hnk hrk hit hpt hmk TC hcat hc1 hzl hzf zl KT
      go_wp2_with (first
        | (go_at_call 72; refine Calls.mono (h473 _ _ (by omega) (Below.refl _ _)) ?_; rintro e w2 ⟨rfl, hB2⟩)
        | (go_at_call 73; refine Calls.mono (h324 _ _ (by omega) hB2) ?_; rintro e w3 ⟨rfl, hB3⟩; have hB3 := hB2.trans (hB3.mono hB2.size); have z0 := Z0 _ hB3; have z1 := Z1 _ hB3))
      go_region_with (go_at_call 74; refine Calls.mono (h502 _ _ (by omega) ?_) ?_; exact hB3.drew; rintro e w4 ⟨rfl, hB4⟩; have hB4 := hB3.drew.trans (hB4.mono hB3.size); have z0 := Z0 _ hB4; have z1 := Z1 _ hB4)
      all_goals (
        have hs4 := hB4.size
        obtain ⟨ck, hck⟩ : ∃ x, x = cat k := ⟨_, rfl⟩
        rw [← hck] at HC h503
        clear hck
        have hfl4 : ∀ W, (Instr.field 121 (.agg #[.int .u8 4, sh k 1, sh k 2, sh k 3, sh k 4, sh k 5, sh k 6, sh k 7, sh k 8, sh k 9, sh k 10]) 0).run Tryz.prog W = .ok (.int .u8 4) W := fun W => field121 4 _ _ _ _ _ _ _ _ _ _ W
        have hfl5 : ∀ W, (Instr.field 121 (.agg #[.int .u8 5, sh k 1, sh k 2, sh k 3, sh k 4, sh k 5, sh k 6, sh k 7, sh k 8, sh k 9, sh k 10]) 0).run Tryz.prog W = .ok (.int .u8 5) W := fun W => field121 5 _ _ _ _ _ _ _ _ _ _ W
        rcases HC with rfl | rfl)
      all_goals (
        go_wp2_with (first
          | (go_at_call 75; refine Calls.mono (h503 _ hB4) ?_; rintro e w5 ⟨rfl, hB5⟩; have hB5 := hB4.trans (hB5.mono hB4.size))
          | (go_at_call 13; refine Calls.mono (h497 _ _ _ (by omega) hB5 ?_) ?_; (first | exact fun _ => rfl | exact fun h => absurd h (by omega)); rintro e w6 ⟨rfl, hB6⟩; have hB6 := hB5.trans (hB6.mono hB5.size); have hB7 := hB6.alloc hB6.size (.cells #[.int .i64 0, .int .i64 0, .int .i64 0] 42))
          | (go_at_call 38; refine Calls.mono (clone_any b (off + o k * 5) nk _ (fun j => C (o k * 5 + j)) _ ?_ hnp ?_ ?_ (fun j => h1 _)) ?_; exact Nat.lt_of_lt_of_le hbr hB7.size; omega; (intro j hj; rw [← hcr j (by omega)]; exact hB7.cell hbr); rintro e w8 ⟨g, c, rfl, hgc, hown8, hB8⟩)
          | (go_at_call 43; refine Calls.mono (clip26 g nk c w8 hgc (by omega)) ?_; rintro e w8 ⟨rfl, rfl⟩)
          | (at_builtin; go_loud (refine wpList_append_own _ rfl _ _ 54 rfl w1.heap.size 63 i0 _ 3 40 Tryz.underlying54 hi hz0 hz1 hz2 rfl (by decide) _ _ _ rfl ((ownsRow_below (ownsRow_below hown hB7) hB8).alloc _) ⟨w8.heap.size, 0, none⟩ 1 1 [.slice (some ⟨g, 0, none⟩) nk nk, .int .i64 it, .int .u8 mk] rfl rfl (new_cells3 _ _ _ _ _) (one_cells3 _ _ _ _) (by unfold maxLen; omega) (by omega) (by have := hB7.size; have := hB8.size; simp; omega) ?_))))
      all_goals (
        intro v' w9 hown9 hgrow _
        rw [← hs1, HI.out, HN.out, HM.out] at hown9
        have R := piecesG_step (show (63 : Nat) ≠ 83 by decide) HN.out (by omega) hpc hown hB7 hB8 hown8 hnp hgrow
        rw [← rowsT_step] at hown9
        clear hgrow hown8 hB8 hB7 hB6 hB5 hB4 hB3 h473 h324 h502 h503 h497 hfl4 hfl5 Z0 Z1 ZL hcr z0 z1
        go_wp2
        go_roundw
        case rel =>
          have q1 := ho k hlt
          have q2 := HL.out
          have q3 := HN.out
          have q4 := HR.out
          refine ⟨k + 1, fun j => if j = k then g else G j, by omega, ⟨_, _, congrArg (fun x => Value.slice _ x _) (show L - (nk + rk) = N - o (k + 1) by omega), by omega, fun h => ?_⟩, hown9, R.1, hbel.trans R.2⟩
          have q5 := ho (k + 1) h
          have q6 := hle (k + 1 + 1) h
          have q7 := hpos (k + 1) h
          first
            | (exfalso; omega)
            | (rw [if_neg (by omega), show off + o k * 5 + (nk + rk) * 5 = off + o (k + 1) * 5 by omega])
        case measure =>
          show L - (nk + rk) < L
          omega)
    · have hkm : k = m := by omega
      subst hkm
      have f0 : N - o k = 0 := by omega
      rw [f0]
      have hsr := hbel.size
      have HG : Hid (PiecesG wr w1.heap.size k n o C G) := hpc
      have zr : wr.heap[w.heap.size + 1]? = some (.cells #[.int .i64 0, .int .i64 0, .int .i64 0] 42 (0, 0)) := (hbel.block _ (by omega)).trans hzf
      have z0 : wr.cell? ⟨w.heap.size + 1, 0, none⟩ = some (.int .i64 0) := by simp [World.cell?, zr]
      have z1 : wr.cell? ⟨w.heap.size + 1, 1, none⟩ = some (.int .i64 0) := by simp [World.cell?, zr]
      have z2 : wr.cell? ⟨w.heap.size + 1, 2, none⟩ = some (.int .i64 0) := by simp [World.cell?, zr]
      have zf : ∀ i, wr.frozen? ⟨w.heap.size + 1, i, none⟩ = false := fun i => by simp [World.frozen?, zr]
      clear hzl hzf zr hT hpc had hcp hcat
      rcases hown.2 with ⟨rfl, h0⟩ | ⟨g, c, cur, rfl, e2, e3, e4, e5, e6, e7⟩
      · go_wp2_with (go_at_call 76; refine Calls.mono (clip54n wr) ?_; rintro e wr ⟨rfl, rfl⟩)
        (try simp only [Exit.inBlock, Exit.then]); refine bodyPost_ret (v := .tuple #[.slice none 0 0, .agg #[.int .i64 0, .int .i64 0, .int .i64 0]]) ((results_tmp_cell rfl _ _ _).trans ?_) rfl ?_
        rotate_left
        · refine ⟨_, G, rfl, .inl ⟨h0, rfl, by rw [h0]; rfl⟩, fun j hj => ?_, ((((hb01.trans (hbel.mono (by omega))).setCell (Nat.le_succ _) _).setCell (Nat.le_succ _) _).setCell (Nat.le_succ _) _)⟩
          obtain ⟨p1, cur', p3, p4⟩ := HG.out j hj
          exact ⟨by omega, cur', by rw [heap_setCell3 (by show G j ≠ w.heap.size + 1; omega) (by show G j ≠ w.heap.size + 1; omega) (by show G j ≠ w.heap.size + 1; omega)]; exact p3, p4⟩
        · go_simp
      · go_wp2_with (go_at_call 76; refine Calls.mono (clip54 g k c wr e4 (by omega)) ?_; rintro e wr ⟨rfl, rfl⟩)
        (try simp only [Exit.inBlock, Exit.then]); refine bodyPost_ret (v := .tuple #[.slice (some ⟨g, 0, none⟩) k k, .agg #[.int .i64 0, .int .i64 0, .int .i64 0]]) ((results_tmp_cell rfl _ _ _).trans ?_) rfl ?_
        rotate_left
        · refine ⟨_, G, rfl, .inr ⟨g, cur, rfl, by omega, by rw [heap_setCell3 (by show g ≠ w.heap.size + 1; omega) (by show g ≠ w.heap.size + 1; omega) (by show g ≠ w.heap.size + 1; omega)]; exact e3, e7, by omega⟩, fun j hj => ?_, ((((hb01.trans (hbel.mono (by omega))).setCell (Nat.le_succ _) _).setCell (Nat.le_succ _) _).setCell (Nat.le_succ _) _)⟩
          obtain ⟨p1, cur', p3, p4⟩ := HG.out j hj
          exact ⟨by omega, cur', by rw [heap_setCell3 (by show G j ≠ w.heap.size + 1; omega) (by show G j ≠ w.heap.size + 1; omega) (by show G j ≠ w.heap.size + 1; omega)]; exact p3, p4⟩
        · go_simp
end Go.Proofs.YtkghfmfciekbdaaGreatDoor
