/-
  statements.Operands and checks.operands walked: the operands of a slice of tokens, over what is known of the calls at each operand; conditions as stated.
-/
import Derived.Test.YtkghfmfciekbdaaGreatDoorProg
import Derived.WalkKit
import Derived.OwnWalk
import Derived.Laws.OwnMore
import Derived.Laws.Cover3
set_option linter.unusedVariables false
set_option linter.unusedSimpArgs false
namespace Go.Proofs.YtkghfmfciekbdaaGreatDoor
open Go Go.RowKit Go.Proofs
set_option linter.unusedVariables false
theorem info83 : (Tryz.prog.info? 83).map (fun i => (i.zero, i.size, i.bytes)) = some (some (.agg #[.int .u8 0, .string ⟨#[]⟩, .int .i64 0, .int .i64 0, .bool false]), 5, 48) := by kernel_rfl
theorem results_tmp_cell {fn : Func} {p u : Tmp} {ty : TypeId} (h : fn.results = #[.tmp u, .cell p ty]) (tmps : Array Value) (P : Program) (w : World) :
    (results fn tmps).run P w = ((asAddr (tmps.getD p undef)).run P w).andThen fun a w₁ => ((loadVar ty a).run P w₁).andThen fun v w₂ => .ok (.tuple #[tmps.getD u undef, v]) w₂ := by
  simp only [results, h]
  simp [Sem.run_bind, Result.andThen]
theorem eql_nil {P : Program} (w : World) {t e : TypeId} (a : Addr) (n c : Nat) (ht : P.underlying t = some (.slice e)) : (binOp .eql t (.slice (some a) n c) (.slice none 0 0)).run P w = .ok (.bool false) w := by
  have h := run_equal_slice_nil (P := P) w t e (some a) n c ht
  show ((do let b ← Op.equal t (.slice (some a) n c) (.slice none 0 0); pure (.bool b) : Sem Value)).run P w = _
  simp [h]
set_option maxHeartbeats 400000 in
set_option maxRecDepth 1000000 in
theorem clone_any (b off n cap : Nat) (C : Nat → Value) (w : World) (hb : b < w.heap.size) (hn : 0 < n) (hn2 : n < 65536) (hc : ∀ j, j < n * 5 → w.cell? ⟨b, off + j, none⟩ = some (C j)) (h1 : ∀ j, (C j).oneCell' = true) :
    Calls Tryz.prog 38 #[.slice (some ⟨b, off, none⟩) n cap] w fun e w' => ∃ g c, e = .returned (.slice (some ⟨g, 0, none⟩) n c) ∧ n ≤ c ∧ w'.ownsRow w.heap.size 83 5 (.slice (some ⟨g, 0, none⟩) n c) n ((List.range (n * 5)).map C) ∧ Below w.heap.size w w' := by
  obtain ⟨i0, hi, hz0, hz1, hz2⟩ := info_parts info83
  have hnil : ∀ W, (binOp .eql 26 (.slice (some ⟨b, off, none⟩) n cap) (.slice none 0 0)).run Tryz.prog W = .ok (.bool false) W := fun W => eql_nil W _ _ _ Tryz.underlying26
  go_enter Tryz.func38, Tryz.ntmps38
  go_wp2_with (first | (at_builtin; refine wpList_append_own _ rfl _ _ 26 rfl w.heap.size 83 i0 _ 5 48 Tryz.underlying26 hi hz0 hz1 hz2 rfl (by decide) _ 0 [] rfl (World.ownsRow_lit w #[] 0 (Nat.le_refl _) (by simp) rfl) ⟨b, off, none⟩ n cap ((List.range (n * 5)).map C) rfl (by simp) ?c1 ?c2 (by unfold maxLen; omega) (by omega) (by simp) ?_))
  case c1 =>
    intro j u hj
    rw [List.getElem?_map] at hj
    by_cases hj2 : j < n * 5
    · rw [List.getElem?_range hj2] at hj
      cases hj
      rw [← hc j hj2]
      rw [show (⟨b, off, none⟩ : Addr).add j = ⟨b, off + j, none⟩ by cases j <;> simp [Addr.add]]
      exact World.cell?_alloc_past _ _ _ hb
    · rw [List.getElem?_eq_none (by simpa using hj2)] at hj
      cases hj
  case c2 => intro u hu; simp at hu; obtain ⟨j, _, rfl⟩ := hu; exact h1 j
  intro v' w' hown hgrow hnil
  go_wp2
  go_ret
  have hown2 := hown.2
  rcases hown2 with ⟨h0, _⟩ | ⟨g, c, cur, e1, e2, e3, e4, e5, e6, e7⟩
  · exact absurd h0 hnil
  · subst e1
    exact ⟨g, c, rfl, e4, hown, ((Below.refl w.heap.size w).alloc (Nat.le_refl _) _).grown hgrow (by simp) (fun j hj => by simp [Value.ownBlock] at hj; omega)⟩

set_option maxHeartbeats 400000 in
set_option maxRecDepth 1000000 in
theorem clip26 (g n c : Nat) (w : World) (hn : n ≤ c) (hn2 : n < 65536) : Calls Tryz.prog 43 #[.slice (some ⟨g, 0, none⟩) n c] w fun e w' => e = .returned (.slice (some ⟨g, 0, none⟩) n n) ∧ w' = w := by
  go_enter Tryz.func43, Tryz.ntmps43
  go_wp2
  go_ret
  exact ⟨rfl, rfl⟩
set_option maxHeartbeats 400000 in
set_option maxRecDepth 1000000 in
theorem clip105 (g n c : Nat) (w : World) (hn : n ≤ c) (hn2 : n < 65536) : Calls Tryz.prog 128 #[.slice (some ⟨g, 0, none⟩) n c] w fun e w' => e = .returned (.slice (some ⟨g, 0, none⟩) n n) ∧ w' = w := by
  go_enter Tryz.func128, Tryz.ntmps128
  go_wp2
  go_ret
  exact ⟨rfl, rfl⟩
set_option maxHeartbeats 400000 in
set_option maxRecDepth 1000000 in
theorem clip105n (w : World) : Calls Tryz.prog 128 #[.slice none 0 0] w fun e w' => e = .returned (.slice none 0 0) ∧ w' = w := by
  go_enter Tryz.func128, Tryz.ntmps128
  go_wp2
  go_ret
  exact ⟨rfl, rfl⟩
theorem info105 : (Tryz.prog.info? 26).map (fun i => (i.zero, i.size, i.bytes)) = some (some (.slice none 0 0), 1, 24) := by kernel_rfl
/-- the pieces that have been cut off so far: each a row of its own -/
def Pieces (W : World) (B : Nat) (n o : Nat → Nat) (C : Nat → Value) (vs : List Value) (k : Nat) : Prop :=
  vs.length = k ∧ ∀ j, j < k → ∃ g cur, vs[j]? = some (.slice (some ⟨g, 0, none⟩) (n j) (n j)) ∧ B ≤ g ∧ W.heap[g]? = some (.cells cur 83 (0, 0)) ∧ ∀ i, i < n j * 5 → cur[i]? = some (C (o j * 5 + i))
/-- what is known of an operand's call -/
def OpCall (w0 : World) (b off N : Nat) (C : Nat → Value) (ok nk : Nat) : Prop :=
  ∀ (W : World) (cap : Nat), Below w0.heap.size w0 W → N - ok ≤ cap → b < W.heap.size → (∀ j, j < (N - ok) * 5 → W.cell? ⟨b, off + ok * 5 + j, none⟩ = some (C (ok * 5 + j))) →
    Calls Tryz.prog 72 #[.slice (some ⟨b, off + ok * 5, none⟩) (N - ok) cap] W fun e w' => e = .returned (.tuple #[.int .i64 nk, .int .i64 0]) ∧ Below W.heap.size W w'
theorem ownsRow_below {w w' : World} {base : Nat} {e : TypeId} {size : Nat} {v : Value} {n : Nat} {xs : List Value} (h : w.ownsRow base e size v n xs) (hb : Below w.heap.size w w') : w'.ownsRow base e size v n xs := by
  obtain ⟨h1, h2 | ⟨g, cap, cur, e1, e2, e3, e4⟩⟩ := h
  · exact ⟨h1, .inl h2⟩
  · have hlt : g < w.heap.size := (Array.getElem?_eq_some_iff.1 e3).1
    exact ⟨h1, .inr ⟨g, cap, cur, e1, e2, by rw [hb.block g hlt]; exact e3, e4⟩⟩
/-- a row that is owned stands in a block of its own type -/
theorem own_type {w : World} {base : Nat} {e : TypeId} {size : Nat} {v : Value} {n : Nat} {xs : List Value} (h : w.ownsRow base e size v n xs) {q : Nat} (hq : v.ownBlock = some q) : ∃ cur, w.heap[q]? = some (.cells cur e (0, 0)) ∧ q < w.heap.size := by
  obtain ⟨h1, ⟨rfl, _⟩ | ⟨g, cap, cur, rfl, e2, e3, e4⟩⟩ := h
  · simp [Value.ownBlock] at hq
  · simp [Value.ownBlock] at hq
    subst hq
    exact ⟨cur, e3, (Array.getElem?_eq_some_iff.1 e3).1⟩
theorem pieces_step {wr w2 w3 w4 : World} {B k g c nk : Nat} {n o : Nat → Nat} {C : Nat → Value} {vs : List Value} {v : Value} {x : Obj} (hn : nk = n k) (hB : B ≤ wr.heap.size) (hp : Pieces wr B n o C vs k) (hv : wr.ownsRow B 26 1 v k vs)
    (h2 : Below wr.heap.size wr w2) (h3 : Below w2.heap.size w2 w3) (hg : w3.ownsRow w2.heap.size 83 5 (.slice (some ⟨g, 0, none⟩) nk c) nk ((List.range (nk * 5)).map fun j => C (o k * 5 + j))) (h4 : (w3.alloc x).grownBy w4 v.ownBlock) :
    Pieces w4 B n o C (vs ++ [.slice (some ⟨g, 0, none⟩) nk nk]) (k + 1) ∧ Below B wr w4 := by
  have s2 := h2.size
  have s3 := h3.size
  have b4 : ∀ q, q < w3.heap.size → some q ≠ v.ownBlock → w4.heap[q]? = w3.heap[q]? := fun q hq hne => (h4.block q (by simp; omega) hne).trans (Below.heap_alloc _ _ _ hq)
  obtain ⟨hlen, hp⟩ := hp
  refine ⟨⟨by simp [hlen], fun j hj => ?_⟩, (((Below.refl B wr).trans (h2.mono hB)).trans (h3.mono (by omega))).trans ((((Below.refl B w3).alloc (by omega) x).grown h4 (by simp; omega) (fun q hq => (hv.lt q hq).1)))⟩
  by_cases hjk : j < k
  · obtain ⟨g', cur, e1, e2, e3, e4⟩ := hp j hjk
    have hlt : g' < wr.heap.size := (Array.getElem?_eq_some_iff.1 e3).1
    refine ⟨g', cur, by rw [List.getElem?_append_left (by omega)]; exact e1, e2, ?_, e4⟩
    rw [b4 g' (by omega), h3.block g' (by omega), h2.block g' hlt]
    · exact e3
    · intro hq
      obtain ⟨cur', q1, _⟩ := own_type hv hq.symm
      rw [q1] at e3
      simp at e3
  · have hjk : j = k := by omega
    subst hjk
    obtain ⟨h1, ⟨h0, _⟩ | ⟨g', cap', cur, e1, e2, e3, e4, e5, e6, e7⟩⟩ := hg
    · cases h0
    · simp only [Value.slice.injEq, Option.some.injEq, Addr.mk.injEq, and_true, true_and] at e1
      obtain ⟨rfl, rfl⟩ := e1
      have hlt : g < w3.heap.size := (Array.getElem?_eq_some_iff.1 e3).1
      subst hn
      refine ⟨g, cur, by rw [List.getElem?_append_right (by omega), hlen]; simp, by omega, ?_, fun i hi => ?_⟩
      · rw [b4 g hlt]
        · exact e3
        · intro hq
          obtain ⟨cur', q1, q2⟩ := own_type hv hq.symm
          omega
      · have := congrArg (·[i]?) e7
        simp only [List.getElem?_take, if_pos hi, Array.getElem?_toList, List.getElem?_map, List.getElem?_range hi, Option.map_some] at this
        exact this
def lenV : Value → Nat
  | .slice _ n _ => n
  | _ => 0
/-- a slice of n cells, at the head of a row of a type -/
def OutRow (W : World) (B e size : Nat) (v : Value) (n : Nat) (vs : List Value) : Prop :=
  (n = 0 ∧ v = .slice none 0 0 ∧ vs = []) ∨ ∃ g cur, v = .slice (some ⟨g, 0, none⟩) n n ∧ B ≤ g ∧ W.heap[g]? = some (.cells cur e (0, 0)) ∧ cur.toList.take (n * size) = vs ∧ n * size ≤ cur.size
theorem heap_setCell3 {w : World} {p q r : Addr} {x y z : Value} {i : Nat} (h1 : i ≠ p.block) (h2 : i ≠ q.block) (h3 : i ≠ r.block) : (((w.setCell p x).setCell q y).setCell r z).heap[i]? = w.heap[i]? := by
  have e : ∀ (w : World) (p : Addr) (x : Value), i ≠ p.block → (w.setCell p x).heap[i]? = w.heap[i]? := by
    intro w p x h
    exact Below.heap_setCell _ _ _ _ h
  rw [e _ _ _ h3, e _ _ _ h2, e _ _ _ h1]
set_option maxHeartbeats 400000 in
set_option maxRecDepth 1000000 in
theorem operands_any (b off N cap m : Nat) (n o : Nat → Nat) (C : Nat → Value) (w : World) (hb : b < w.heap.size) (hN : N < 65536) (hcap : N ≤ cap) (hm : m < 65536) (ho0 : o 0 = 0) (ho : ∀ k, k < m → o (k + 1) = o k + n k) (hom : o m = N) (hpos : ∀ k, k < m → 0 < n k) (hle : ∀ k, k ≤ m → o k ≤ N)
    (hc : ∀ j, j < N * 5 → w.cell? ⟨b, off + j, none⟩ = some (C j)) (h1 : ∀ j, (C j).oneCell' = true) (hop : ∀ k, k < m → OpCall w b off N C (o k) (n k)) :
    Calls Tryz.prog 60 #[.slice (some ⟨b, off, none⟩) N cap] w fun e w' => ∃ v vs, e = .returned (.tuple #[v, .agg #[.int .i64 0, .int .i64 0, .int .i64 0]]) ∧ OutRow w' (w.heap.size + 1) 26 1 v m vs ∧ Pieces w' (w.heap.size + 1) n o C vs m ∧ Below w.heap.size w w' := by
  obtain ⟨i0, hi, hz0, hz1, hz2⟩ := info_parts info105
  go_enter Tryz.func60, Tryz.ntmps60
  go_wp2
  obtain ⟨w1, hw1⟩ : ∃ x, x = w.alloc (.cells #[.int .i64 0, .int .i64 0, .int .i64 0] 42) := ⟨_, rfl⟩
  rw [← hw1]
  have hs1 : w1.heap.size = w.heap.size + 1 := by rw [hw1]; simp
  have hb01 : Below w.heap.size w w1 := by rw [hw1]; exact Below.alloc (Below.refl _ _) (Nat.le_refl _) _
  have hz : w1.heap[w.heap.size]? = some (.cells #[.int .i64 0, .int .i64 0, .int .i64 0] 42 (0, 0)) := by rw [hw1]; exact heap_alloc_new w _
  have hc1 : ∀ j, j < N * 5 → w1.cell? ⟨b, off + j, none⟩ = some (C j) := fun j hj => (hb01.cell hb).trans (hc j hj)
  clear hw1 hc
  go_loopw [0, 4] (fun l v wr => ∃ k : Nat, k ≤ m ∧ ∃ ad cp vs, l = .slice ad (N - o k) cp ∧ N - o k ≤ cp ∧ (k < m → ad = some ⟨b, off + o k * 5, none⟩) ∧ wr.ownsRow (w.heap.size + 1) 26 1 v k vs ∧ Pieces wr (w.heap.size + 1) n o C vs k ∧ Below (w.heap.size + 1) w1 wr) (fun l _ _ => lenV l)
  case atStart => exact ⟨0, Nat.zero_le _, some ⟨b, off, none⟩, cap, [], by rw [ho0]; rfl, by omega, fun _ => by rw [ho0]; simp, World.ownsRow_nil _ _ _ _, ⟨rfl, fun j hj => by omega⟩, Below.refl _ _⟩
  case round =>
    obtain ⟨k, hk, ad, cp, vs, rfl, hcp, had, hown, hpc, hbel⟩ := hrel
    by_cases hlt : k < m
    · obtain rfl := had hlt
      have hsz := hbel.size
      have hbr : b < wr.heap.size := by omega
      have hok : o k + n k ≤ N := by rw [← ho k hlt]; exact hle (k + 1) hlt
      have hnp := hpos k hlt
      have hcr : ∀ j, j < (N - o k) * 5 → wr.cell? ⟨b, off + o k * 5 + j, none⟩ = some (C (o k * 5 + j)) := fun j hj => by
        rw [← hc1 (o k * 5 + j) (by omega), ← Nat.add_assoc]; exact hbel.cell (show b < w.heap.size + 1 by omega)
      have hop1 : Calls Tryz.prog 72 #[.slice (some ⟨b, off + o k * 5, none⟩) (N - o k) cp] wr fun e w' => e = .returned (.tuple #[.int .i64 (n k), .int .i64 0]) ∧ Below wr.heap.size wr w' := hop k hlt wr cp (hb01.trans (hbel.mono (by omega))) hcp hbr hcr
      obtain ⟨L, hL⟩ : ∃ x, x = N - o k := ⟨_, rfl⟩
      obtain ⟨nk, hnk⟩ : ∃ x, x = n k := ⟨_, rfl⟩
      rw [← hL] at hcp hcr
      rw [← hL, ← hnk] at hop1
      rw [← hL]
      rw [← hnk] at hok hnp
      have f0 : (0 : Int) < (L : Int) := by omega
      have f1 : ¬ (nk : Int) < 1 := by omega
      have f2 : ¬ (L : Int) < (nk : Int) := by omega
      have hLN : L ≤ N := by omega
      have HL : Hid (L = N - o k) := hL
      have HK : Hid (nk = n k) := hnk
      clear hop hc1 had hL hnk
      go_wp2_with (first
        | (go_at_call 72; refine Calls.mono hop1 ?_; rintro e w2 ⟨rfl, hB2⟩)
        | (go_at_call 38; refine Calls.mono (clone_any b (off + o k * 5) nk cp (fun j => C (o k * 5 + j)) w2 (by have := hB2.size; omega) hnp (by omega) (fun j hj => by rw [← hcr j (by omega)]; exact hB2.cell hbr) (fun j => h1 _)) ?_; rintro e w3 ⟨g, c, rfl, hgc, hown3, hB3⟩)
        | (go_at_call 43; refine Calls.mono (clip26 g nk c w3 hgc (by omega)) ?_; rintro e w3 ⟨rfl, rfl⟩)
        | (at_builtin; refine wpList_append_own _ rfl _ _ 105 rfl (w.heap.size + 1) 26 i0 _ 1 24 Tryz.underlying105 hi hz0 hz1 hz2 rfl (by decide) _ _ _ rfl ((ownsRow_below (ownsRow_below hown hB2) hB3).alloc _) ⟨w3.heap.size, 0, none⟩ 1 1 [.slice (some ⟨g, 0, none⟩) nk nk] rfl rfl ?c1 ?c2 (by unfold maxLen; omega) (by omega) (by have := hB2.size; have := hB3.size; simp; omega) ?_))
      case c1 =>
        intro j u hj
        match j, hj with
        | 0, hj => simp at hj; subst hj; simp [Addr.add]
        | j + 1, hj => simp at hj
      case c2 => intro u hu; simp at hu; subst hu; rfl
      intro v' w4 hown' hgrow _
      have R := pieces_step HK.out (by omega) hpc hown hB2 hB3 hown3 hgrow
      clear hgrow hown hpc hown3 hB3 hB2 hop1 hcr
      go_wp2
      go_roundw
      case rel =>
        have q1 := ho k hlt
        have q2 := HL.out
        have q3 := HK.out
        refine ⟨k + 1, by omega, (if cp = nk then some ⟨b, off + o k * 5, none⟩ else some ⟨b, off + o k * 5 + nk * 5, none⟩), cp - nk, vs ++ [.slice (some ⟨g, 0, none⟩) nk nk], ?_, by omega, fun h => ?_, hown', R.1, hbel.trans R.2⟩
        · rw [show N - o (k + 1) = L - nk by omega]
        · have q4 := ho (k + 1) h
          have q5 := hle (k + 1 + 1) h
          have q6 := hpos (k + 1) h
          rw [if_neg (by omega), show off + o k * 5 + nk * 5 = off + o (k + 1) * 5 by omega]
      case measure =>
        show L - nk < L
        omega
    · have hkm : k = m := by omega
      subst hkm
      have f0 : N - o k = 0 := by omega
      rw [f0]
      have HP : Hid (Pieces wr (w.heap.size + 1) n o C vs k) := hpc
      have hzr : wr.heap[w.heap.size]? = some (.cells #[.int .i64 0, .int .i64 0, .int .i64 0] 42 (0, 0)) := (hbel.block _ (by omega)).trans hz
      have z0 : wr.cell? ⟨w.heap.size, 0, none⟩ = some (.int .i64 0) := by simp [World.cell?, hzr]
      have z1 : wr.cell? ⟨w.heap.size, 1, none⟩ = some (.int .i64 0) := by simp [World.cell?, hzr]
      have z2 : wr.cell? ⟨w.heap.size, 2, none⟩ = some (.int .i64 0) := by simp [World.cell?, hzr]
      have zf : ∀ i, wr.frozen? ⟨w.heap.size, i, none⟩ = false := fun i => by simp [World.frozen?, hzr]
      clear hpc had hcp hop
      rcases hown.2 with ⟨rfl, h0⟩ | ⟨g, c, cur, rfl, e2, e3, e4, e5, e6, e7⟩
      · go_wp2_with (go_at_call 128; refine Calls.mono (clip105n wr) ?_; rintro e wr ⟨rfl, rfl⟩)
        (try simp only [Exit.inBlock, Exit.then]); refine bodyPost_ret (v := .tuple #[.slice none 0 0, .agg #[.int .i64 0, .int .i64 0, .int .i64 0]]) ((results_tmp_cell rfl _ _ _).trans ?_) rfl ?_
        rotate_left
        · refine ⟨_, vs, rfl, .inl ⟨h0, rfl, by have := hown.1; exact List.length_eq_zero_iff.1 (by omega)⟩, ⟨HP.out.1, fun j hj => ?_⟩, hb01.trans ((((hbel.mono (Nat.le_succ _)).setCell (Nat.le_refl _) _).setCell (Nat.le_refl _) _).setCell (Nat.le_refl _) _)⟩
          obtain ⟨g', cur', p1, p2, p3, p4⟩ := HP.out.2 j hj
          exact ⟨g', cur', p1, p2, by rw [heap_setCell3 (by show g' ≠ w.heap.size; omega) (by show g' ≠ w.heap.size; omega) (by show g' ≠ w.heap.size; omega)]; exact p3, p4⟩
        · go_simp
      · go_wp2_with (go_at_call 128; refine Calls.mono (clip105 g k c wr e4 (by omega)) ?_; rintro e wr ⟨rfl, rfl⟩)
        (try simp only [Exit.inBlock, Exit.then]); refine bodyPost_ret (v := .tuple #[.slice (some ⟨g, 0, none⟩) k k, .agg #[.int .i64 0, .int .i64 0, .int .i64 0]]) ((results_tmp_cell rfl _ _ _).trans ?_) rfl ?_
        rotate_left
        · refine ⟨_, vs, rfl, .inr ⟨g, cur, rfl, e2, by rw [heap_setCell3 (by show g ≠ w.heap.size; omega) (by show g ≠ w.heap.size; omega) (by show g ≠ w.heap.size; omega)]; exact e3, e7, by omega⟩, ⟨HP.out.1, fun j hj => ?_⟩, hb01.trans ((((hbel.mono (Nat.le_succ _)).setCell (Nat.le_refl _) _).setCell (Nat.le_refl _) _).setCell (Nat.le_refl _) _)⟩
          obtain ⟨g', cur', p1, p2, p3, p4⟩ := HP.out.2 j hj
          exact ⟨g', cur', p1, p2, by rw [heap_setCell3 (by show g' ≠ w.heap.size; omega) (by show g' ≠ w.heap.size; omega) (by show g' ≠ w.heap.size; omega)]; exact p3, p4⟩
        · go_simp
theorem info58 : (Tryz.prog.info? 58).map (fun i => (i.zero, i.size, i.bytes)) = some (some (.agg #[.slice none 0 0, .int .i64 0]), 2, 32) := by kernel_rfl
/-- the pieces by the number of the block each stands in -/
def PiecesG (W : World) (B m : Nat) (n o : Nat → Nat) (C : Nat → Value) (G : Nat → Nat) : Prop :=
  ∀ j, j < m → B ≤ G j ∧ ∃ cur, W.heap[G j]? = some (.cells cur 83 (0, 0)) ∧ ∀ i, i < n j * 5 → cur[i]? = some (C (o j * 5 + i))
def sliceOf (n G : Nat → Nat) (j : Nat) : Value := .slice (some ⟨G j, 0, none⟩) (n j) (n j)
theorem pieces_G {W : World} {B m : Nat} {n o : Nat → Nat} {C : Nat → Value} {vs : List Value} (h : Pieces W B n o C vs m) : ∃ G, vs = (List.range m).map (sliceOf n G) ∧ PiecesG W B m n o C G := by
  obtain ⟨h1, h2⟩ := h
  have h3 : ∀ j, ∃ g, j < m → vs[j]? = some (.slice (some ⟨g, 0, none⟩) (n j) (n j)) ∧ B ≤ g ∧ ∃ cur, W.heap[g]? = some (.cells cur 83 (0, 0)) ∧ ∀ i, i < n j * 5 → cur[i]? = some (C (o j * 5 + i)) := by
    intro j
    by_cases hj : j < m
    · obtain ⟨g, cur, a, b, c, d⟩ := h2 j hj
      exact ⟨g, fun _ => ⟨a, b, cur, c, d⟩⟩
    · exact ⟨0, fun h => absurd h hj⟩
  refine ⟨fun j => Classical.choose (h3 j), ?_, fun j hj => (Classical.choose_spec (h3 j) hj).2⟩
  apply List.ext_getElem?
  intro j
  by_cases hj : j < m
  · rw [(Classical.choose_spec (h3 j) hj).1, List.getElem?_map, List.getElem?_range hj]; rfl
  · rw [List.getElem?_eq_none (by omega), List.getElem?_eq_none (by simp; omega)]
/-- what is known of the call of checks.operand at a piece -/
def OperC (lay : Value) (kd : Nat) (w0 : World) (nk : Nat) (Ck : Nat → Value) (it : Int) : Prop :=
  ∀ (W : World) (g : Nat), Below w0.heap.size w0 W → g < W.heap.size → (∀ j, j < nk * 5 → W.cell? ⟨g, j, none⟩ = some (Ck j)) →
    Calls Tryz.prog 61 #[lay, .int .u8 kd, .slice (some ⟨g, 0, none⟩) nk nk] W fun e w' => e = .returned (.tuple #[.int .i64 it, .agg #[.int .i64 0, .int .i64 0, .int .i64 0]]) ∧ Below W.heap.size W w'
theorem outRow_at {W : World} {B m : Nat} {v : Value} {n G : Nat → Nat} (h : OutRow W B 26 1 v m ((List.range m).map (sliceOf n G))) : ∃ ad, v = .slice ad m m ∧ (0 < m → ∃ g, ad = some ⟨g, 0, none⟩ ∧ g < W.heap.size ∧ ∀ k, k < m → W.cell? ⟨g, k, none⟩ = some (sliceOf n G k)) := by
  rcases h with ⟨rfl, rfl, _⟩ | ⟨g, cur, rfl, h1, h2, h3, h4⟩
  · exact ⟨none, rfl, fun h => absurd h (by omega)⟩
  · refine ⟨_, rfl, fun _ => ⟨g, rfl, (Array.getElem?_eq_some_iff.1 h2).1, fun k hk => ?_⟩⟩
    have := congrArg (·[k]?) h3
    simp only [List.getElem?_take, List.getElem?_map, List.getElem?_range hk, Option.map_some, Array.getElem?_toList] at this
    rw [if_pos (by omega)] at this
    simp [World.cell?, h2, this]
theorem flat_succ (m : Nat) (f : Nat → List Value) : (List.range (m + 1)).flatMap f = (List.range m).flatMap f ++ f m := by simp [List.range_succ]
set_option maxHeartbeats 400000 in
set_option maxRecDepth 1000000 in
theorem clip50 (g n c : Nat) (w : World) (hn : n ≤ c) (hn2 : n < 65536) : Calls Tryz.prog 62 #[.slice (some ⟨g, 0, none⟩) n c] w fun e w' => e = .returned (.slice (some ⟨g, 0, none⟩) n n) ∧ w' = w := by
  go_enter Tryz.func62, Tryz.ntmps62
  go_wp2
  go_ret
  exact ⟨rfl, rfl⟩
set_option maxHeartbeats 400000 in
set_option maxRecDepth 1000000 in
theorem clip50n (w : World) : Calls Tryz.prog 62 #[.slice none 0 0] w fun e w' => e = .returned (.slice none 0 0) ∧ w' = w := by
  go_enter Tryz.func62, Tryz.ntmps62
  go_wp2
  go_ret
  exact ⟨rfl, rfl⟩
def rowsOf (n G : Nat → Nat) (items : Nat → Int) (k : Nat) : List Value := (List.range k).flatMap fun j => [sliceOf n G j, .int .i64 (items j)]
set_option maxHeartbeats 400000 in
set_option maxRecDepth 1000000 in
theorem operandsC_any (b off N cap m : Nat) (n o : Nat → Nat) (C : Nat → Value) (items : Nat → Int) (la : Option Addr) (ln lc : Nat) (lz : Int) (kd : Nat) (w : World) (hb : b < w.heap.size) (hN : N < 65536) (hcap : N ≤ cap) (hm : m < 65536) (ho0 : o 0 = 0) (ho : ∀ k, k < m → o (k + 1) = o k + n k) (hom : o m = N) (hpos : ∀ k, k < m → 0 < n k) (hle : ∀ k, k ≤ m → o k ≤ N)
    (hc : ∀ j, j < N * 5 → w.cell? ⟨b, off + j, none⟩ = some (C j)) (h1 : ∀ j, (C j).oneCell' = true) (hop : ∀ k, k < m → OpCall w b off N C (o k) (n k))
    (hopr : ∀ k, k < m → OperC (.agg #[.slice la ln lc, .int .i64 lz]) kd w (n k) (fun j => C (o k * 5 + j)) (items k)) :
    Calls Tryz.prog 22 #[.agg #[.slice la ln lc, .int .i64 lz], .int .u8 kd, .slice (some ⟨b, off, none⟩) N cap] w fun e w' => ∃ v G, e = .returned (.tuple #[v, .agg #[.int .i64 0, .int .i64 0, .int .i64 0]]) ∧ OutRow w' w.heap.size 58 2 v m (rowsOf n G items m) ∧ PiecesG w' w.heap.size m n o C G ∧ Below w.heap.size w w' := by
  obtain ⟨i0, hi, hz0, hz1, hz2⟩ := info_parts info58
  obtain ⟨w1, hw1⟩ : ∃ x, x = (w.alloc (.cells #[.slice la ln lc, .int .i64 lz] 34)).alloc (.cells #[.int .i64 0, .int .i64 0, .int .i64 0] 42) := ⟨_, rfl⟩
  have hs1 : w1.heap.size = w.heap.size + 1 + 1 := by rw [hw1]; simp
  have hb01 : Below w.heap.size w w1 := by rw [hw1]; exact ((Below.refl _ _).alloc (Nat.le_refl _) _).alloc (by simp) _
  have hzl : w1.heap[w.heap.size]? = some (.cells #[.slice la ln lc, .int .i64 lz] 34 (0, 0)) := by rw [hw1, Below.heap_alloc _ _ _ (by simp)]; exact heap_alloc_new w _
  have hzf : w1.heap[w.heap.size + 1]? = some (.cells #[.int .i64 0, .int .i64 0, .int .i64 0] 42 (0, 0)) := by rw [hw1, show w.heap.size + 1 = (w.alloc (.cells #[.slice la ln lc, .int .i64 lz] 34)).heap.size by simp]; exact heap_alloc_new _ _
  have hc1 : ∀ j, j < N * 5 → w1.cell? ⟨b, off + j, none⟩ = some (C j) := fun j hj => (hb01.cell hb).trans (hc j hj)
  have HB : Calls Tryz.prog 60 #[.slice (some ⟨b, off, none⟩) N cap] w1 fun e w' => ∃ ad G, e = .returned (.tuple #[.slice ad m m, .agg #[.int .i64 0, .int .i64 0, .int .i64 0]]) ∧ (0 < m → ∃ g, ad = some ⟨g, 0, none⟩ ∧ g < w'.heap.size ∧ ∀ k, k < m → w'.cell? ⟨g, k, none⟩ = some (sliceOf n G k)) ∧ PiecesG w' (w1.heap.size + 1) m n o C G ∧ Below w1.heap.size w1 w' := by
    refine Calls.mono (operands_any b off N cap m n o C w1 (by omega) hN hcap hm ho0 ho hom hpos hle hc1 h1 fun k hk W cap hB => hop k hk W cap (hb01.trans (hB.mono (by omega)))) ?_
    rintro e w2 ⟨v8, vs8, rfl, hout, hpc, hB2⟩
    obtain ⟨G, rfl, hG⟩ := pieces_G hpc
    obtain ⟨ad, rfl, had⟩ := outRow_at hout
    exact ⟨ad, G, rfl, had, hG, hB2⟩
  clear hop hc1 hc hom ho hle ho0
  rw [hw1] at HB
  go_enter Tryz.func22, Tryz.ntmps22
  go_wp2_with (go_at_call 60; refine Calls.mono HB ?_; rintro e w2 ⟨ad, G, rfl, had, hG, hB2⟩; rw [← hw1] at hG hB2; clear HB hw1)
  obtain ⟨w3, hw3⟩ : ∃ x, x = w2.alloc (.cells #[.int .i64 0, .int .i64 0, .int .i64 0] 42) := ⟨_, rfl⟩
  rw [← hw3]
  have s2 := hB2.size
  have hs3 : w3.heap.size = w2.heap.size + 1 := by rw [hw3]; simp
  have hb23 : Below w2.heap.size w2 w3 := by rw [hw3]; exact Below.alloc (Below.refl _ _) (Nat.le_refl _) _
  have hb3 : Below w.heap.size w w3 := (hb01.trans (hB2.mono (by omega))).trans (hb23.mono (by omega))
  have had3 : 0 < m → ∃ g, ad = some ⟨g, 0, none⟩ ∧ g < w3.heap.size ∧ ∀ k, k < m → w3.cell? ⟨g, k, none⟩ = some (sliceOf n G k) := fun h => by
    obtain ⟨g, e1, e2, e3⟩ := had h
    exact ⟨g, e1, by omega, fun k hk => (hb23.cell e2).trans (e3 k hk)⟩
  have hG3 : ∀ j, j < m → w1.heap.size + 1 ≤ G j ∧ G j < w3.heap.size ∧ ∃ cur, w3.heap[G j]? = some (.cells cur 83 (0, 0)) ∧ ∀ i, i < n j * 5 → cur[i]? = some (C (o j * 5 + i)) := fun j hj => by
    obtain ⟨q1, cur, q2, q3⟩ := hG j hj
    have q4 : G j < w2.heap.size := (Array.getElem?_eq_some_iff.1 q2).1
    exact ⟨q1, by omega, cur, (hb23.block _ q4).trans q2, q3⟩
  have hzl3 : w3.heap[w.heap.size]? = some (.cells #[.slice la ln lc, .int .i64 lz] 34 (0, 0)) := (hb23.block _ (by omega)).trans ((hB2.block _ (by omega)).trans hzl)
  have hzf3 : w3.heap[w.heap.size + 1]? = some (.cells #[.int .i64 0, .int .i64 0, .int .i64 0] 42 (0, 0)) := (hb23.block _ (by omega)).trans ((hB2.block _ (by omega)).trans hzf)
  clear hw3 had hG hzl hzf hb23 hB2 hb01
  go_loopw [10, 26] (fun v i wr => ∃ k : Nat, k ≤ m ∧ i = .int .i64 k ∧ wr.ownsRow w3.heap.size 58 2 v k (rowsOf n G items k) ∧ Below w3.heap.size w3 wr) (fun _ i _ => m - (match i with | .int _ k => k.toNat | _ => 0))
  case atStart => exact ⟨0, Nat.zero_le _, rfl, World.ownsRow_nil _ _ _ _, Below.refl _ _⟩
  case round =>
    obtain ⟨k, hk, rfl, hown, hbel⟩ := hrel
    by_cases hlt : k < m
    · obtain ⟨g, rfl, hg, hgc⟩ := had3 (by omega)
      have f0 : (k : Int) < (m : Int) := by omega
      have hsr := hbel.size
      have r0 : wr.cell? ⟨g, k, none⟩ = some (.slice (some ⟨G k, 0, none⟩) (n k) (n k)) := (hbel.cell hg).trans (hgc k hlt)
      have zl : wr.heap[w.heap.size]? = some (.cells #[.slice la ln lc, .int .i64 lz] 34 (0, 0)) := (hbel.block _ (by omega)).trans hzl3
      have z0 : wr.cell? ⟨w.heap.size, 0, none⟩ = some (.slice la ln lc) := by simp [World.cell?, zl]
      have z1 : wr.cell? ⟨w.heap.size, 1, none⟩ = some (.int .i64 lz) := by simp [World.cell?, zl]
      obtain ⟨hq1, hq2, cur, hq3, hq4⟩ := hG3 k hlt
      have hor : Calls Tryz.prog 61 #[.agg #[.slice la ln lc, .int .i64 lz], .int .u8 kd, .slice (some ⟨G k, 0, none⟩) (n k) (n k)] wr fun e w' => e = .returned (.tuple #[.int .i64 (items k), .agg #[.int .i64 0, .int .i64 0, .int .i64 0]]) ∧ Below wr.heap.size wr w' :=
        hopr k hlt wr (G k) (hb3.trans (hbel.mono (by omega))) (by omega) (fun j hj => by
          have := (hbel.block _ hq2).trans hq3
          simp [World.cell?, this, hq4 j hj])
      obtain ⟨it, hit⟩ : ∃ x, x = items k := ⟨_, rfl⟩
      obtain ⟨nk, hnk⟩ : ∃ x, x = n k := ⟨_, rfl⟩
      obtain ⟨gk, hgk⟩ : ∃ x, x = G k := ⟨_, rfl⟩
      rw [← hit, ← hgk, ← hnk] at hor
      rw [← hgk, ← hnk] at r0
      have HI : Hid (it = items k) := hit
      have HN : Hid (nk = n k) := hnk
      have HG : Hid (gk = G k) := hgk
      clear hopr had3 hG3 hit hnk hgk zl hq3 hq4 hzl3
      go_wp2_with (first
        | (go_at_call 61; refine Calls.mono hor ?_; rintro e w4 ⟨rfl, hB4⟩)
        | (at_builtin; refine wpList_append_own _ rfl _ _ 50 rfl w3.heap.size 58 i0 _ 2 32 Tryz.underlying50 hi hz0 hz1 hz2 rfl (by decide) _ _ _ rfl (((ownsRow_below hown hB4).alloc _).alloc _) ⟨_, 0, none⟩ 1 1 [.slice (some ⟨gk, 0, none⟩) nk nk, .int .i64 it] rfl rfl ?c1 ?c2 (by unfold maxLen; omega) (by omega) (by have := hB4.size; simp; omega) ?_))
      case c1 =>
        intro j u hj
        match j, hj with
        | 0, hj => simp at hj; subst hj; simp [Addr.add]
        | 1, hj => simp at hj; subst hj; simp [Addr.add]
        | j + 2, hj => simp at hj
      case c2 => intro u hu; simp at hu; rcases hu with rfl | rfl <;> rfl
      intro v' w5 hown' hgrow _
      have s4 := hB4.size
      have hb5 : Below w3.heap.size wr w5 := (((((Below.refl w3.heap.size wr).trans (hB4.mono hsr)).alloc (by omega) _).alloc (by simp; omega) _).grown hgrow (by simp; omega) (fun q hq => (hown.lt q hq).1))
      rw [show rowsOf n G items k ++ [.slice (some ⟨gk, 0, none⟩) nk nk, .int .i64 it] = rowsOf n G items (k + 1) by rw [rowsOf, rowsOf, flat_succ, HI.out, HN.out, HG.out]; rfl] at hown'
      clear hgrow hB4 hor r0 z0 z1
      go_wp2
      go_roundw
      case rel => exact ⟨k + 1, by omega, rfl, by rw [hs3]; exact hown', hbel.trans hb5⟩
      case measure =>
        show m - ((k : Int) + 1).toNat < m - ((k : Int)).toNat
        omega
    · have hkm : k = m := by omega
      subst hkm
      have f0 : ¬ (k : Int) < (k : Int) := by omega
      have hsr := hbel.size
      have HG : Hid (∀ j, j < k → w.heap.size ≤ G j ∧ ∃ cur, wr.heap[G j]? = some (.cells cur 83 (0, 0)) ∧ ∀ i, i < n j * 5 → cur[i]? = some (C (o j * 5 + i))) := fun j hj => by
        obtain ⟨q1, q2, cur, q3, q4⟩ := hG3 j hj
        exact ⟨by omega, cur, (hbel.block _ q2).trans q3, q4⟩
      have HQ : Hid (∀ j, j < k → w1.heap.size + 1 ≤ G j) := fun j hj => (hG3 j hj).1
      have zr : wr.heap[w.heap.size + 1]? = some (.cells #[.int .i64 0, .int .i64 0, .int .i64 0] 42 (0, 0)) := (hbel.block _ (by omega)).trans hzf3
      have z0 : wr.cell? ⟨w.heap.size + 1, 0, none⟩ = some (.int .i64 0) := by simp [World.cell?, zr]
      have z1 : wr.cell? ⟨w.heap.size + 1, 1, none⟩ = some (.int .i64 0) := by simp [World.cell?, zr]
      have z2 : wr.cell? ⟨w.heap.size + 1, 2, none⟩ = some (.int .i64 0) := by simp [World.cell?, zr]
      have zf : ∀ i, wr.frozen? ⟨w.heap.size + 1, i, none⟩ = false := fun i => by simp [World.frozen?, zr]
      clear hG3 had3 hopr hzl3 hzf3 zr
      rcases hown.2 with ⟨rfl, h0⟩ | ⟨g, c, cur, rfl, e2, e3, e4, e5, e6, e7⟩
      · go_wp2_with (go_at_call 62; refine Calls.mono (clip50n wr) ?_; rintro e wr ⟨rfl, rfl⟩)
        (try simp only [Exit.inBlock, Exit.then]); refine bodyPost_ret (v := .tuple #[.slice none 0 0, .agg #[.int .i64 0, .int .i64 0, .int .i64 0]]) ((results_tmp_cell rfl _ _ _).trans ?_) rfl ?_
        rotate_left
        · refine ⟨_, G, rfl, .inl ⟨h0, rfl, by rw [h0]; rfl⟩, fun j hj => ?_, ((((hb3.trans (hbel.mono (by omega))).setCell (Nat.le_succ _) _).setCell (Nat.le_succ _) _).setCell (Nat.le_succ _) _)⟩
          obtain ⟨p1, cur', p3, p4⟩ := HG.out j hj
          have p5 := HQ.out j hj
          exact ⟨p1, cur', by rw [heap_setCell3 (by show G j ≠ w.heap.size + 1; omega) (by show G j ≠ w.heap.size + 1; omega) (by show G j ≠ w.heap.size + 1; omega)]; exact p3, p4⟩
        · go_simp
      · go_wp2_with (go_at_call 62; refine Calls.mono (clip50 g k c wr e4 (by omega)) ?_; rintro e wr ⟨rfl, rfl⟩)
        (try simp only [Exit.inBlock, Exit.then]); refine bodyPost_ret (v := .tuple #[.slice (some ⟨g, 0, none⟩) k k, .agg #[.int .i64 0, .int .i64 0, .int .i64 0]]) ((results_tmp_cell rfl _ _ _).trans ?_) rfl ?_
        rotate_left
        · refine ⟨_, G, rfl, .inr ⟨g, cur, rfl, by omega, by rw [heap_setCell3 (by show g ≠ w.heap.size + 1; omega) (by show g ≠ w.heap.size + 1; omega) (by show g ≠ w.heap.size + 1; omega)]; exact e3, e7, by omega⟩, fun j hj => ?_, ((((hb3.trans (hbel.mono (by omega))).setCell (Nat.le_succ _) _).setCell (Nat.le_succ _) _).setCell (Nat.le_succ _) _)⟩
          obtain ⟨p1, cur', p3, p4⟩ := HG.out j hj
          have p5 := HQ.out j hj
          exact ⟨p1, cur', by rw [heap_setCell3 (by show G j ≠ w.heap.size + 1; omega) (by show G j ≠ w.heap.size + 1; omega) (by show G j ≠ w.heap.size + 1; omega)]; exact p3, p4⟩
        · go_simp
end Go.Proofs.YtkghfmfciekbdaaGreatDoor
