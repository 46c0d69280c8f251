/-
  columnsevenlaw23.Tokens walked: the tokens of a text, by its words; conditions as stated.
-/
import Derived.Test.YtkghfmfciekbdaaGreatDoorShelf
import Derived.WalkKit
import Derived.OwnWalk
import Derived.Lib.SlTrimSet
import Derived.Shelf.Strings.SlTrimAscii
set_option linter.unusedVariables false
set_option linter.unusedSimpArgs false
namespace Go.Proofs.YtkghfmfciekbdaaGreatDoor
open Go Go.RowKit Go.Proofs
set_option linter.unusedVariables false
theorem info83T : (Tryz.prog.info? 83).map (fun i => (i.zero, i.size, i.bytes)) = some (some (.agg #[.int .u8 0, .string ⟨#[]⟩, .int .i64 0, .int .i64 0, .bool false]), 5, 48) := by kernel_rfl
/-- a word that is no sign, no number, no quote, no period: its kind -/
def sgn : List UInt8 := [40, 32, 41, 32, 58, 32, 61, 32, 60, 32, 62, 32, 43, 32, 45, 32, 42, 32, 47, 32, 42, 42, 32, 60, 61, 32, 62, 61, 32, 60, 62]
def tokR (k : Nat) (K : Int) (T : ByteArray) : List Value := [.int .u8 K, .string T, .int .i64 ((k : Int) + 1), .int .i64 8, .bool false]
structure TokW (x : ByteArray) (K : Int) (T : ByteArray) : Prop where
  pos : 0 < x.size
  cls : ((x[0]'pos).toNat = 34 ∧ K = 3 ∧ T = ⟨(Lib.trimS x.data.toList [34]).toArray⟩ ∧ x.size < 4294967281) ∨ (48 ≤ (x[0]'pos).toNat ∧ (x[0]'pos).toNat ≤ 57 ∧ K = 2 ∧ T = x) ∨
    ((x[0]'pos).toNat ≠ 34 ∧ ¬ (48 ≤ (x[0]'pos).toNat ∧ (x[0]'pos).toNat ≤ 57) ∧ x.toList ≠ [46] ∧ T = x ∧ ((Lib.contains sgn x.data.toList = true ∧ K = 5) ∨ (Lib.contains sgn x.data.toList = false ∧ K = 1)))
theorem ownsRow_belowT {w w' : World} {base : Nat} {e : TypeId} {size : Nat} {v : Value} {n : Nat} {xs : List Value} (h : w.ownsRow base e size v n xs) (hb : Below w.heap.size w w') : w'.ownsRow base e size v n xs := by
  obtain ⟨h1, h2 | ⟨g, cap, cur, e1, e2, e3, e4⟩⟩ := h
  · exact ⟨h1, .inl h2⟩
  · have hlt : g < w.heap.size := (Array.getElem?_eq_some_iff.1 e3).1
    exact ⟨h1, .inr ⟨g, cap, cur, e1, e2, by rw [hb.block g hlt]; exact e3, e4⟩⟩
theorem quote_facts {wr w' : World} {base e size n : Nat} {v : Value} {xs : List Value} {a0 a1 a2 a3 a4 : Value} (h : wr.ownsRow base e size v n xs) (hb : Below (wr.alloc (.cells #[a0, a1, a2, a3, a4] 83)).heap.size (wr.alloc (.cells #[a0, a1, a2, a3, a4] 83)) w') :
    w'.ownsRow base e size v n xs ∧ v.ownBlock ≠ some wr.heap.size ∧ wr.heap.size < w'.heap.size ∧ w'.frozen? ⟨wr.heap.size, 1, none⟩ = false ∧ w'.cell? ⟨wr.heap.size, 0, none⟩ = some a0 ∧ w'.cell? ⟨wr.heap.size, 1, none⟩ = some a1 ∧ w'.cell? ⟨wr.heap.size, 2, none⟩ = some a2 ∧ w'.cell? ⟨wr.heap.size, 3, none⟩ = some a3 ∧ w'.cell? ⟨wr.heap.size, 4, none⟩ = some a4 := by
  have hs : (wr.alloc (.cells #[a0, a1, a2, a3, a4] 83)).heap.size = wr.heap.size + 1 := by simp
  have hlt : wr.heap.size < (wr.alloc (.cells #[a0, a1, a2, a3, a4] 83)).heap.size := by omega
  have hc : ∀ i, w'.cell? ⟨wr.heap.size, i, none⟩ = #[a0, a1, a2, a3, a4][i]? := fun i => (hb.cell hlt).trans (World.cell?_alloc_new _ _ _ i)
  refine ⟨ownsRow_belowT (h.alloc _) hb, fun q => by have := (h.lt _ q).2; omega, by have := hb.size; omega, ?_, (hc 0).trans rfl, (hc 1).trans rfl, (hc 2).trans rfl, (hc 3).trans rfl, (hc 4).trans rfl⟩
  rw [hb.frozen hlt]
  simp
def toksC (l : List (Int × ByteArray)) (k : Nat) : List Value := (List.range k).flatMap fun i => tokR i (l.getD i (1, ByteArray.empty)).1 (l.getD i (1, ByteArray.empty)).2
theorem tokR_one (k : Nat) (K : Int) (T : ByteArray) : ∀ u ∈ tokR k K T, u.oneCell' = true := by intro u hu; simp [tokR] at hu; rcases hu with rfl | rfl | rfl | rfl | rfl <;> rfl
theorem toksC_succ (l : List (Int × ByteArray)) (k : Nat) : toksC l (k + 1) = toksC l k ++ tokR k (l.getD k (1, ByteArray.empty)).1 (l.getD k (1, ByteArray.empty)).2 := by simp [toksC, List.range_succ]
set_option maxHeartbeats 3200000 in
set_option maxRecDepth 1000000 in
theorem tokens_any (s : ByteArray) (w : World) (m : Int) (l : List (Int × ByteArray)) (hl : l.length = (Lib.fields s.data.toList).length) (htk : ∀ (k : Nat), k < l.length → TokW ⟨((Lib.fields s.data.toList).getD k []).toArray⟩ (l.getD k (1, ByteArray.empty)).1 (l.getD k (1, ByteArray.empty)).2) (hs : s.size < 4294967281) (hlen : l.length < 65536) (hascii : ∀ (j : Nat) b, s.data.toList[j]? = some b → b.toNat < 128) (htab : Lib.TabIs Tryz.prog w "strings.asciiSpace" .u8 Lib.asciiSpaceTab)
  (hm : w.cell? ⟨3, 0, none⟩ = some (.int .i64 m)) (h3 : 3 < w.heap.size) :
  Calls Tryz.prog 8 #[.string s] w fun e w' => ∃ v, e = .returned v ∧ w'.ownsRow (w.heap.size + 1) 83 5 v l.length (toksC l l.length) ∧ Below w.heap.size w w' := by
  obtain ⟨i0, hi, hz0, hz1, hz2⟩ := info_parts info83T
  go_enter Tryz.func8, Tryz.ntmps8
  go_wp2_with (go_at_call 23; refine (Tryz.strings_Fields s w hs hascii htab).mono ?_; rintro e w1 ⟨rfl, rfl⟩; rw [← hl])
  obtain ⟨w1, hw1⟩ : ∃ x, x = w.alloc (.cells ((Lib.fields s.data.toList).map fun l => Value.string ⟨l.toArray⟩).toArray 9) := ⟨_, rfl⟩
  rw [← hw1]
  have hsz1 : w1.heap.size = w.heap.size + 1 := by rw [hw1]; simp
  have hb01 : Below w.heap.size w w1 := by rw [hw1]; exact Below.alloc (Below.refl _ _) (Nat.le_refl _) _
  have hcells : ∀ k, k < l.length → w1.cell? ⟨w.heap.size, k, none⟩ = some (.string ⟨((Lib.fields s.data.toList).getD k []).toArray⟩) := by
    intro k hk
    rw [hw1, World.cell?_alloc_new]
    have hk' : k < (Lib.fields s.data.toList).length := by omega
    simp [List.getD_eq_getElem?_getD, List.getElem?_eq_getElem hk']
  have hm1 : w1.cell? ⟨3, 0, none⟩ = some (.int .i64 m) := (hb01.cell h3).trans hm
  clear hw1 hm htab hascii
  go_loopw [3, 5] (fun v i wr => ∃ k : Nat, k ≤ l.length ∧ i = .int .i64 k ∧ wr.ownsRow (w.heap.size + 1) 83 5 v k (toksC l k) ∧ Below (w.heap.size + 1) w1 wr) (fun _ i _ => l.length - (intOf i).toNat)
  case atStart => exact ⟨0, Nat.zero_le _, rfl, World.ownsRow_nil _ _ _ _, Below.refl _ _⟩
  case round =>
    obtain ⟨k, hk, rfl, hown, hbel⟩ := hrel
    by_cases hlt : k < l.length
    · obtain ⟨sk, hsk⟩ : ∃ x : ByteArray, x = ⟨((Lib.fields s.data.toList).getD k []).toArray⟩ := ⟨_, rfl⟩
      obtain ⟨K, hK⟩ : ∃ x, x = (l.getD k (1, ByteArray.empty)).1 := ⟨_, rfl⟩
      obtain ⟨T, hT⟩ : ∃ x, x = (l.getD k (1, ByteArray.empty)).2 := ⟨_, rfl⟩
      have hw := htk k hlt
      have hcell : wr.cell? ⟨w.heap.size, k, none⟩ = some (.string sk) := by rw [hsk, ← hcells k hlt]; exact hbel.cell (show w.heap.size < w.heap.size + 1 by omega)
      have hmr : wr.cell? ⟨3, 0, none⟩ = some (.int .i64 m) := by rw [← hm1]; exact hbel.cell (show 3 < w.heap.size + 1 by omega)
      rw [← hsk, ← hK, ← hT] at hw
      have hb1 : w.heap.size < wr.heap.size := by have := hbel.size; omega
      have hne : ¬ w.heap.size = wr.heap.size := by omega
      have hcA : ∀ o, (wr.alloc o).cell? ⟨w.heap.size, k, none⟩ = some (.string sk) := fun o => by rw [← hcell]; exact (Below.alloc (Below.refl (w.heap.size + 1) wr) (by omega) o).cell (show w.heap.size < w.heap.size + 1 by omega)
      have hmA : ∀ o, (wr.alloc o).cell? ⟨3, 0, none⟩ = some (.int .i64 m) := fun o => by rw [← hmr]; exact (Below.alloc (Below.refl (w.heap.size + 1) wr) (by omega) o).cell (show 3 < w.heap.size + 1 by omega)
      have HS : Hid (toksC l (k + 1) = toksC l k ++ tokR k K T) := by rw [hK, hT]; exact toksC_succ l k
      obtain ⟨xs, hxs⟩ : ∃ x, x = toksC l k := ⟨_, rfl⟩
      rw [← hxs] at hown HS
      have HX : Hid (xs = toksC l k) := hxs
      clear hsk hcells hK hT htk hxs hm1 hmr
      obtain ⟨hp, hcls⟩ := hw
      rcases hcls with ⟨e1, rfl, eT, e2⟩ | ⟨e1, e2, rfl, rfl⟩ | ⟨e1, e2, e3, rfl, ⟨e4, rfl⟩ | ⟨e4, rfl⟩⟩
      · have hcon : ∀ W : World, Calls Tryz.prog 24 #[.string sk, .string ⟨#[34]⟩] W fun e w' => e = .returned (.string T) ∧ Below W.heap.size W w' := fun W => by
          have := Any.strings_Trim_laid Tryz.lays160 (by kernel_rfl) sk ⟨#[34]⟩ W (by omega) (by decide) (ascii_of_all (by decide))
          rw [eT]
          exact this
        have f1 : (((sk[0]'hp).toNat : Int) == 34) = true := by simp; omega
        go_wp2_with (first | (go_at_call 24; refine (hcon _).mono ?_; rintro e w' ⟨rfl, hB⟩; obtain ⟨q0, q1, q2, q3, q4, q5, q6, q7, q8⟩ := quote_facts hown hB) | (at_builtin; refine wpList_append_own _ rfl _ _ 26 rfl (w.heap.size + 1) 83 i0 _ 5 48 Tryz.underlying26 hi hz0 hz1 hz2 rfl (by decide) _ _ _ rfl ((ownsRow_setCell_other q0 q1 _).alloc _) ⟨w'.heap.size, 0, none⟩ 1 1 (tokR k 3 T) rfl rfl ?cq (tokR_one _ _ _) (by unfold maxLen; omega) (by omega) (by simp; omega) ?_))
        case cq =>
          intro j u hj
          match j, hj with
          | 0, hj => simp [tokR] at hj; subst hj; exact (World.cell?_alloc_at _ _ _ 0 (by simp [World.setCell])).trans rfl
          | 1, hj => simp [tokR] at hj; subst hj; exact (World.cell?_alloc_at _ _ _ 1 (by simp [World.setCell])).trans (by rw [eT]; rfl)
          | 2, hj => simp [tokR] at hj; subst hj; exact (World.cell?_alloc_at _ _ _ 2 (by simp [World.setCell])).trans rfl
          | 3, hj => simp [tokR] at hj; subst hj; exact (World.cell?_alloc_at _ _ _ 3 (by simp [World.setCell])).trans rfl
          | 4, hj => simp [tokR] at hj; subst hj; exact (World.cell?_alloc_at _ _ _ 4 (by simp [World.setCell])).trans rfl
          | j + 5, hj => simp [tokR] at hj
        intro v' w2 hown' hgrow _
        have hb' := (((((hbel.alloc (by omega) _).trans (hB.mono (by simp; omega))).setCell (by show w.heap.size + 1 ≤ wr.heap.size; omega) _).alloc (by simp; omega) _).grown hgrow (by simp; omega) (fun j hj => by have := (hown.lt j hj).1; omega))
        clear hgrow hown hcA hmA hcell q0 q1 q3 q4 q5 q6 q7 q8 hB hcon
        go_wp2
        go_roundw
        case rel => exact ⟨k + 1, by omega, by go_num, by rw [HS.out, eT]; exact hown', hb'⟩
        case measure => simp [intOf]; omega
      · have f0 : True := trivial
        · have f1 : (((T[0]'hp).toNat : Int) == 34) = false := by simp; omega
          have f2 : (48 : Int) ≤ ((T[0]'hp).toNat : Int) := by omega
          have f3 : ((T[0]'hp).toNat : Int) ≤ 57 := by omega
          go_wp2_with (first | (at_builtin; refine wpList_append_own _ rfl _ _ 26 rfl (w.heap.size + 1) 83 i0 _ 5 48 Tryz.underlying26 hi hz0 hz1 hz2 rfl (by decide) _ _ _ rfl ((hown.alloc _).alloc _) ⟨wr.heap.size + 1, 0, none⟩ 1 1 (tokR k 2 T) rfl rfl ?c1 (tokR_one _ _ _) (by unfold maxLen; omega) (by omega) (by simp; omega) ?_))
          case c1 =>
            intro j u hj
            match j, hj with
            | 0, hj => simp [tokR] at hj; subst hj; simp [Addr.add]
            | 1, hj => simp [tokR] at hj; subst hj; simp [Addr.add]
            | 2, hj => simp [tokR] at hj; subst hj; simp [Addr.add]
            | 3, hj => simp [tokR] at hj; subst hj; simp [Addr.add]
            | 4, hj => simp [tokR] at hj; subst hj; simp [Addr.add]
            | j + 5, hj => simp [tokR] at hj
          intro v' w' hown' hgrow _
          have hb' := ((hbel.alloc (by omega) _).alloc (by simp; omega) _).grown hgrow (by simp; omega) (fun j hj => by have := (hown.lt j hj).1; omega)
          clear hgrow hown hcA hmA hcell
          go_wp2
          go_roundw
          case rel => exact ⟨k + 1, by omega, by go_num, by rw [HS.out]; exact hown', hb'⟩
          case measure => simp [intOf]; omega
      · have f0 : True := trivial
        have hcon : ∀ W : World, W.cell? ⟨3, 0, none⟩ = some (.int .i64 m) → Calls Tryz.prog 25 #[.string ⟨#[40, 32, 41, 32, 58, 32, 61, 32, 60, 32, 62, 32, 43, 32, 45, 32, 42, 32, 47, 32, 42, 42, 32, 60, 61, 32, 62, 61, 32, 60, 62]⟩, .string T] W fun e w' => e = .returned (.bool true) ∧ w' = W := by
          intro W h
          have := Tryz.strings_Contains ⟨#[40, 32, 41, 32, 58, 32, 61, 32, 60, 32, 62, 32, 43, 32, 45, 32, 42, 32, 47, 32, 42, 42, 32, 60, 61, 32, 62, 61, 32, 60, 62]⟩ T m W (by decide) h
          have e4' : Lib.contains (⟨#[40, 32, 41, 32, 58, 32, 61, 32, 60, 32, 62, 32, 43, 32, 45, 32, 42, 32, 47, 32, 42, 42, 32, 60, 61, 32, 62, 61, 32, 60, 62]⟩ : ByteArray).data.toList T.data.toList = true := e4
          rw [e4'] at this
          exact this
        rcases Nat.lt_or_ge (T[0]'hp).toNat 48 with g1 | g1
        · have f1 : (((T[0]'hp).toNat : Int) == 34) = false := by simp; omega
          have f2 : ((T[0]'hp).toNat : Int) < 48 := by omega
          have f4 : (T.toList == [46]) = false := by simpa using e3
          go_wp2_with (first | (go_at_call 25; refine (hcon _ (hmA _)).mono ?_; rintro e w' ⟨rfl, rfl⟩) | (at_builtin; refine wpList_append_own _ rfl _ _ 26 rfl (w.heap.size + 1) 83 i0 _ 5 48 Tryz.underlying26 hi hz0 hz1 hz2 rfl (by decide) _ _ _ rfl ((hown.alloc _).alloc _) ⟨wr.heap.size + 1, 0, none⟩ 1 1 (tokR k 5 T) rfl rfl ?c1 (tokR_one _ _ _) (by unfold maxLen; omega) (by omega) (by simp; omega) ?_))
          case c1 =>
            intro j u hj
            match j, hj with
            | 0, hj => simp [tokR] at hj; subst hj; simp [Addr.add]
            | 1, hj => simp [tokR] at hj; subst hj; simp [Addr.add]
            | 2, hj => simp [tokR] at hj; subst hj; simp [Addr.add]
            | 3, hj => simp [tokR] at hj; subst hj; simp [Addr.add]
            | 4, hj => simp [tokR] at hj; subst hj; simp [Addr.add]
            | j + 5, hj => simp [tokR] at hj
          intro v' w' hown' hgrow _
          have hb' := ((hbel.alloc (by omega) _).alloc (by simp; omega) _).grown hgrow (by simp; omega) (fun j hj => by have := (hown.lt j hj).1; omega)
          clear hgrow hown hcA hmA hcell
          go_wp2
          go_roundw
          case rel => exact ⟨k + 1, by omega, by go_num, by rw [HS.out]; exact hown', hb'⟩
          case measure => simp [intOf]; omega
        · have f1 : (((T[0]'hp).toNat : Int) == 34) = false := by simp; omega
          have g2 : 57 < (T[0]'hp).toNat := by omega
          have f2 : (48 : Int) ≤ ((T[0]'hp).toNat : Int) := by omega
          have f3 : (57 : Int) < ((T[0]'hp).toNat : Int) := by omega
          have f4 : (T.toList == [46]) = false := by simpa using e3
          go_wp2_with (first | (go_at_call 25; refine (hcon _ (hmA _)).mono ?_; rintro e w' ⟨rfl, rfl⟩) | (at_builtin; refine wpList_append_own _ rfl _ _ 26 rfl (w.heap.size + 1) 83 i0 _ 5 48 Tryz.underlying26 hi hz0 hz1 hz2 rfl (by decide) _ _ _ rfl ((hown.alloc _).alloc _) ⟨wr.heap.size + 1, 0, none⟩ 1 1 (tokR k 5 T) rfl rfl ?c1 (tokR_one _ _ _) (by unfold maxLen; omega) (by omega) (by simp; omega) ?_))
          case c1 =>
            intro j u hj
            match j, hj with
            | 0, hj => simp [tokR] at hj; subst hj; simp [Addr.add]
            | 1, hj => simp [tokR] at hj; subst hj; simp [Addr.add]
            | 2, hj => simp [tokR] at hj; subst hj; simp [Addr.add]
            | 3, hj => simp [tokR] at hj; subst hj; simp [Addr.add]
            | 4, hj => simp [tokR] at hj; subst hj; simp [Addr.add]
            | j + 5, hj => simp [tokR] at hj
          intro v' w' hown' hgrow _
          have hb' := ((hbel.alloc (by omega) _).alloc (by simp; omega) _).grown hgrow (by simp; omega) (fun j hj => by have := (hown.lt j hj).1; omega)
          clear hgrow hown hcA hmA hcell
          go_wp2
          go_roundw
          case rel => exact ⟨k + 1, by omega, by go_num, by rw [HS.out]; exact hown', hb'⟩
          case measure => simp [intOf]; omega
      · have f0 : True := trivial
        have hcon : ∀ W : World, W.cell? ⟨3, 0, none⟩ = some (.int .i64 m) → Calls Tryz.prog 25 #[.string ⟨#[40, 32, 41, 32, 58, 32, 61, 32, 60, 32, 62, 32, 43, 32, 45, 32, 42, 32, 47, 32, 42, 42, 32, 60, 61, 32, 62, 61, 32, 60, 62]⟩, .string T] W fun e w' => e = .returned (.bool false) ∧ w' = W := by
          intro W h
          have := Tryz.strings_Contains ⟨#[40, 32, 41, 32, 58, 32, 61, 32, 60, 32, 62, 32, 43, 32, 45, 32, 42, 32, 47, 32, 42, 42, 32, 60, 61, 32, 62, 61, 32, 60, 62]⟩ T m W (by decide) h
          have e4' : Lib.contains (⟨#[40, 32, 41, 32, 58, 32, 61, 32, 60, 32, 62, 32, 43, 32, 45, 32, 42, 32, 47, 32, 42, 42, 32, 60, 61, 32, 62, 61, 32, 60, 62]⟩ : ByteArray).data.toList T.data.toList = false := e4
          rw [e4'] at this
          exact this
        rcases Nat.lt_or_ge (T[0]'hp).toNat 48 with g1 | g1
        · have f1 : (((T[0]'hp).toNat : Int) == 34) = false := by simp; omega
          have f2 : ((T[0]'hp).toNat : Int) < 48 := by omega
          have f4 : (T.toList == [46]) = false := by simpa using e3
          go_wp2_with (first | (go_at_call 25; refine (hcon _ (hmA _)).mono ?_; rintro e w' ⟨rfl, rfl⟩) | (at_builtin; refine wpList_append_own _ rfl _ _ 26 rfl (w.heap.size + 1) 83 i0 _ 5 48 Tryz.underlying26 hi hz0 hz1 hz2 rfl (by decide) _ _ _ rfl ((hown.alloc _).alloc _) ⟨wr.heap.size + 1, 0, none⟩ 1 1 (tokR k 1 T) rfl rfl ?c1 (tokR_one _ _ _) (by unfold maxLen; omega) (by omega) (by simp; omega) ?_))
          case c1 =>
            intro j u hj
            match j, hj with
            | 0, hj => simp [tokR] at hj; subst hj; simp [Addr.add]
            | 1, hj => simp [tokR] at hj; subst hj; simp [Addr.add]
            | 2, hj => simp [tokR] at hj; subst hj; simp [Addr.add]
            | 3, hj => simp [tokR] at hj; subst hj; simp [Addr.add]
            | 4, hj => simp [tokR] at hj; subst hj; simp [Addr.add]
            | j + 5, hj => simp [tokR] at hj
          intro v' w' hown' hgrow _
          have hb' := ((hbel.alloc (by omega) _).alloc (by simp; omega) _).grown hgrow (by simp; omega) (fun j hj => by have := (hown.lt j hj).1; omega)
          clear hgrow hown hcA hmA hcell
          go_wp2
          go_roundw
          case rel => exact ⟨k + 1, by omega, by go_num, by rw [HS.out]; exact hown', hb'⟩
          case measure => simp [intOf]; omega
        · have f1 : (((T[0]'hp).toNat : Int) == 34) = false := by simp; omega
          have g2 : 57 < (T[0]'hp).toNat := by omega
          have f2 : (48 : Int) ≤ ((T[0]'hp).toNat : Int) := by omega
          have f3 : (57 : Int) < ((T[0]'hp).toNat : Int) := by omega
          have f4 : (T.toList == [46]) = false := by simpa using e3
          go_wp2_with (first | (go_at_call 25; refine (hcon _ (hmA _)).mono ?_; rintro e w' ⟨rfl, rfl⟩) | (at_builtin; refine wpList_append_own _ rfl _ _ 26 rfl (w.heap.size + 1) 83 i0 _ 5 48 Tryz.underlying26 hi hz0 hz1 hz2 rfl (by decide) _ _ _ rfl ((hown.alloc _).alloc _) ⟨wr.heap.size + 1, 0, none⟩ 1 1 (tokR k 1 T) rfl rfl ?c1 (tokR_one _ _ _) (by unfold maxLen; omega) (by omega) (by simp; omega) ?_))
          case c1 =>
            intro j u hj
            match j, hj with
            | 0, hj => simp [tokR] at hj; subst hj; simp [Addr.add]
            | 1, hj => simp [tokR] at hj; subst hj; simp [Addr.add]
            | 2, hj => simp [tokR] at hj; subst hj; simp [Addr.add]
            | 3, hj => simp [tokR] at hj; subst hj; simp [Addr.add]
            | 4, hj => simp [tokR] at hj; subst hj; simp [Addr.add]
            | j + 5, hj => simp [tokR] at hj
          intro v' w' hown' hgrow _
          have hb' := ((hbel.alloc (by omega) _).alloc (by simp; omega) _).grown hgrow (by simp; omega) (fun j hj => by have := (hown.lt j hj).1; omega)
          clear hgrow hown hcA hmA hcell
          go_wp2
          go_roundw
          case rel => exact ⟨k + 1, by omega, by go_num, by rw [HS.out]; exact hown', hb'⟩
          case measure => simp [intOf]; omega
    · have hkl : k = l.length := by omega
      subst hkl
      have hge : ¬ l.length < l.length := by omega
      go_wp2
      go_ret
      exact ⟨_, rfl, hown, hb01.trans (hbel.mono (by omega))⟩
end Go.Proofs.YtkghfmfciekbdaaGreatDoor
