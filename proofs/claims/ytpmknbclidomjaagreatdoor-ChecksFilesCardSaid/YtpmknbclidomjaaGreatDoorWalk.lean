/-
  A slice of small numbers, and a pair, by value, as the reader reads them: taken apart; it holds for every program; no other condition.
-/
import Derived.Test.YtpmknbclidomjaaGreatDoorAbs4
import Derived.ProofKit
import Derived.OpenShut
import Derived.Carry
import Derived.Test.YtpmknbclidomjaaGreatDoorTabs
import Derived.Test.YtpmknbclidomjaaGreatDoorGoods
import Derived.Clock
import Derived.Stop.LaidErr
import Derived.Test.YtpmknbclidomjaaGreatDoorTabL
set_option linter.unusedVariables false
set_option linter.unusedSimpArgs false
namespace Go.Abs
open Go.ChangeShapes Go.WideShapes Go.RowKit
variable {H : Type} {enc : TypeId × Value → H} {P : Program} {w : World} {base : Nat} {spare : Nat → Bool} {held : Bool}
theorem arr2 {α : Type} {cs : Array α} (h : cs.size = 2) : ∃ c0 c1, cs = #[c0, c1] := by
  obtain ⟨l⟩ := cs
  match l, h with
  | [c0, c1], _ => exact ⟨c0, c1, rfl⟩
theorem trod_arr2 {t e : TypeId} {fuel : Nat} {c0 c1 : Value} {x : DataW H × List MemPlace} (ht : P.underlying t = some (.array 2 e)) (hce : P.cellsOf e = 1)
    (h : DataW.trod enc P w base spare held fuel t [c0, c1] = some x) :
    ∃ y0 y1 n, x = (.agg [y0.1, y1.1], y0.2 ++ y1.2) ∧ DataW.trod enc P w base spare held n e [c0] = some y0 ∧ DataW.trod enc P w base spare held n e [c1] = some y1 := by
  cases fuel with
  | zero => simp [DataW.trod] at h
  | succ n =>
    unfold DataW.trod at h
    rw [ht] at h
    have r2 : List.range 2 = [0, 1] := rfl
    simp [r2, hce] at h
    obtain ⟨_, h⟩ := h
    cases h0 : DataW.trod enc P w base spare held n e [c0] with
    | none => simp [h0] at h
    | some y0 =>
      cases h1 : DataW.trod enc P w base spare held n e [c1] with
      | none => simp [h0, h1] at h
      | some y1 =>
        simp [h0, h1] at h
        exact ⟨y0, y1, n, h.symm, h0, h1⟩
theorem trod_num {e : TypeId} {k : IntKind} {n : Nat} {c : Value} {y : DataW H × List MemPlace} (he : P.underlying e = some (.int k)) (h : DataW.trod enc P w base spare held n e [c] = some y) :
    ∃ m : Int, c = .int k m ∧ y = (.lit (.int k m), []) ∧ (Lit.int k m).wf = true := by
  cases n with
  | zero => simp [DataW.trod] at h
  | succ n =>
    unfold DataW.trod at h
    rw [he] at h
    cases c <;> simp at h
    obtain ⟨⟨rfl, h1⟩, rfl⟩ := h
    exact ⟨_, rfl, rfl, h1⟩
theorem open_pair {r : Reach} {b0 : Nat} {t e : TypeId} {k : IntKind} {v : Value} {d : DataW H} {p : List MemPlace} (ht : P.underlying t = some (.array 2 e)) (he : P.underlying e = some (.int k)) (hce : P.cellsOf e = 1) (hct : P.cellsOf t = 2)
    (hval : Value.okWide P w r b0 t v) (hd : DataW.Trod enc P w base spare held t v d p) :
    ∃ n m : Int, v = .agg #[.int k n, .int k m] ∧ d = .agg [.lit (.int k n), .lit (.int k m)] ∧ p = [] ∧ (Lit.int k n).wf = true ∧ (Lit.int k m).wf = true := by
  unfold Value.okWide at hval
  rw [ht] at hval
  obtain ⟨cs, rfl, hsz, _⟩ := hval
  obtain ⟨c0, c1, rfl⟩ := arr2 (hsz.trans hct)
  obtain ⟨fuel, hf⟩ := hd
  obtain ⟨y0, y1, n, hx, h0, h1⟩ := trod_arr2 ht hce (show DataW.trod enc P w base spare held fuel t [c0, c1] = some (d, p) from hf)
  obtain ⟨a, rfl, rfl, w0⟩ := trod_num he h0
  obtain ⟨b, rfl, rfl, w1⟩ := trod_num he h1
  simp only [Prod.mk.injEq] at hx
  exact ⟨a, b, rfl, hx.1, by simpa using hx.2, w0, w1⟩
theorem shut_pair {t e : TypeId} {k : IntKind} {n m : Int} (ht : P.underlying t = some (.array 2 e)) (he : P.underlying e = some (.int k)) (hce : P.cellsOf e = 1) (hct : P.cellsOf t = 2) (w0 : (Lit.int k n).wf = true) (w1 : (Lit.int k m).wf = true) :
    DataW.Trod enc P w base spare held t (.agg #[.int k n, .int k m]) (.agg [.lit (.int k n), .lit (.int k m)]) [] := by
  refine ⟨2, ?_⟩
  have r2 : List.range 2 = [0, 1] := rfl
  simp [Value.cells, DataW.trod, ht, he, r2, hce, hct, w0, w1]
end Go.Abs

namespace Go.Abs
open Go.ChangeShapes Go.WideShapes Go.RowKit

/-- a slice of pairs: none, or its cells -/
def PairsOk (W : World) (v : Value) : Prop := v = .slice none 0 0 ∨ ∃ (a : Addr) (len cap : Nat), v = .slice (some a) len cap ∧
  ∀ j, j < 2 * len → ∃ x : Int, 0 ≤ x ∧ x ≤ 255 ∧ W.cell? (a.add j) = some (.int .u8 x)
section
variable {H : Type} {enc : TypeId × Value → H} {P : Program} {w : World} {base : Nat} {spare : Nat → Bool} {held : Bool}
theorem add_add (a : Addr) (m k : Nat) : (a.add m).add k = a.add (m + k) := by
  unfold Addr.add
  by_cases hk : k = 0
  · subst hk; simp
  · by_cases hm : m = 0
    · subst hm; simp
    · rw [if_neg hk, if_neg hm, if_neg (by omega), Nat.add_assoc]
theorem arr3 {α : Type} {cs : Array α} (h : cs.size = 3) : ∃ c0 c1 c2, cs = #[c0, c1, c2] := by
  obtain ⟨l⟩ := cs
  match l, h with
  | [c0, c1, c2], _ => exact ⟨c0, c1, c2, rfl⟩
theorem lwf {x : Int} (h : (Lit.int .u8 x).wf = true) : 0 ≤ x ∧ x ≤ 255 := by simpa [Lit.wf, IntKind.min, IntKind.max, IntKind.signed, IntKind.bits] using h
theorem trod_arr3 {t e : TypeId} {fuel : Nat} {c0 c1 c2 : Value} {x : DataW H × List MemPlace} (ht : P.underlying t = some (.array 3 e)) (hce : P.cellsOf e = 1)
    (h : DataW.trod enc P w base spare held fuel t [c0, c1, c2] = some x) :
    ∃ y0 y1 y2 n, DataW.trod enc P w base spare held n e [c0] = some y0 ∧ DataW.trod enc P w base spare held n e [c1] = some y1 ∧ DataW.trod enc P w base spare held n e [c2] = some y2 := by
  cases fuel with
  | zero => simp [DataW.trod] at h
  | succ n =>
    unfold DataW.trod at h
    rw [ht] at h
    have r3 : List.range 3 = [0, 1, 2] := rfl
    simp [r3, hce] at h
    obtain ⟨_, h⟩ := h
    cases h0 : DataW.trod enc P w base spare held n e [c0] with
    | none => simp [h0] at h
    | some y0 =>
      cases h1 : DataW.trod enc P w base spare held n e [c1] with
      | none => simp [h0, h1] at h
      | some y1 =>
        cases h2 : DataW.trod enc P w base spare held n e [c2] with
        | none => simp [h0, h1, h2] at h
        | some y2 => exact ⟨y0, y1, y2, n, h0, h1, h2⟩
theorem open_three {r : Reach} {b0 : Nat} {t e : TypeId} {v : Value} {d : DataW H} {p : List MemPlace} (ht : P.underlying t = some (.array 3 e)) (he : P.underlying e = some (.int .u8)) (hce : P.cellsOf e = 1) (hct : P.cellsOf t = 3)
    (hval : Value.okWide P w r b0 t v) (hd : DataW.Trod enc P w base spare held t v d p) : ∃ x y z : Int, v = .agg #[.int .u8 x, .int .u8 y, .int .u8 z] ∧ (0 ≤ x ∧ x ≤ 255) ∧ (0 ≤ y ∧ y ≤ 255) ∧ 0 ≤ z ∧ z ≤ 255 := by
  unfold Value.okWide at hval
  rw [ht] at hval
  obtain ⟨cs, rfl, hsz, _⟩ := hval
  obtain ⟨c0, c1, c2, rfl⟩ := arr3 (hsz.trans hct)
  obtain ⟨fuel, hf⟩ := hd
  obtain ⟨y0, y1, y2, n, h0, h1, h2⟩ := trod_arr3 ht hce (show DataW.trod enc P w base spare held fuel t [c0, c1, c2] = some (d, p) from hf)
  obtain ⟨a, rfl, _, w0⟩ := trod_num he h0
  obtain ⟨b, rfl, _, w1⟩ := trod_num he h1
  obtain ⟨c, rfl, _, w2⟩ := trod_num he h2
  exact ⟨a, b, c, rfl, lwf w0, lwf w1, lwf w2⟩
theorem open_pairs {tL tE e : TypeId} {v : Value} (htL : P.underlying tL = some (.slice tE)) (htE : P.underlying tE = some (.array 2 e)) (hcE : P.cellsOf tE = 2) (he : P.underlying e = some (.int .u8)) (hce : P.cellsOf e = 1)
    {n : Nat} {y : DataW H × List MemPlace} (hd : DataW.trod enc P w base spare held n tL [v] = some y) : PairsOk w v := by
  rcases DataW.trod_slice htL hd with ⟨q, _⟩ | ⟨a, len, cap, elems, rest, m, _, q, _, _, _, _, _, hel, _⟩
  · cases q; exact .inl rfl
  · cases q
    refine .inr ⟨a, len, cap, rfl, fun j hj => ?_⟩
    have hlen : elems.length = len := by assumption
    have he2 := hel (j / 2) (by omega)
    obtain ⟨x, hx⟩ : ∃ x, elems[j / 2]? = some x := ⟨elems[j / 2]'(by omega), List.getElem?_eq_getElem (by omega)⟩
    rw [hx] at he2
    obtain ⟨ds, hds, hx2⟩ := Option.bind_eq_some_iff.1 he2
    rw [hcE] at hds
    obtain ⟨_, h2, hcell⟩ := World.cells?_some hds
    obtain ⟨v0, v1, rfl⟩ : ∃ v0 v1, ds = [v0, v1] := by
      match ds, h2 with
      | [v0, v1], _ => exact ⟨v0, v1, rfl⟩
    obtain ⟨y0, y1, _, _, k0, k1⟩ := trod_arr2 htE hce hx2
    obtain ⟨n0, rfl, _, w0⟩ := trod_num he k0
    obtain ⟨n1, rfl, _, w1⟩ := trod_num he k1
    have c0 := hcell 0 (by decide)
    have c1 := hcell 1 (by decide)
    rw [add_add] at c0 c1
    rcases Nat.mod_two_eq_zero_or_one j with hm | hm
    · have e : j / 2 * 2 + 0 = j := by omega
      rw [e] at c0
      exact ⟨n0, (lwf w0).1, (lwf w0).2, c0⟩
    · have e : j / 2 * 2 + 1 = j := by omega
      rw [e] at c1
      exact ⟨n1, (lwf w1).1, (lwf w1).2, c1⟩
theorem open_pairs' {r : Reach} {b0 : Nat} {tL tE e : TypeId} {v : Value} {d : DataW H} {p : List MemPlace} (htL : P.underlying tL = some (.slice tE)) (htE : P.underlying tE = some (.array 2 e)) (hcE : P.cellsOf tE = 2) (he : P.underlying e = some (.int .u8)) (hce : P.cellsOf e = 1)
    (hval : Value.okWide P w r b0 tL v) (hd : DataW.Trod enc P w base spare held tL v d p) : PairsOk w v := by
  obtain ⟨a, len, cap, rfl⟩ := okWide_slice htL hval
  obtain ⟨fuel, hf⟩ := hd
  exact open_pairs htL htE hcE he hce (show DataW.trod enc P w base spare held fuel tL [.slice a len cap] = some (d, p) from hf)
theorem block_add (a : Addr) (i : Nat) : (a.add i).block = a.block := by
  unfold Addr.add
  split <;> rfl
theorem cell?_of_block {w W : World} {a : Addr} {o : Obj} (h : W.heap[a.block]? = some o) (h' : w.heap[a.block]? = some o) (i : Nat) : w.cell? (a.add i) = W.cell? (a.add i) := by
  unfold World.cell?
  rw [block_add, h, h']
theorem block_of_cell {W : World} {a : Addr} {v : Value} (h : W.cell? a = some v) : ∃ o, W.heap[a.block]? = some o := by
  unfold World.cell? at h
  split at h
  · rename_i c t f hh; exact ⟨_, hh⟩
  · cases h
end
end Go.Abs

namespace Go.Abs
open Go.ChangeShapes Go.WideShapes Go.RowKit
/-- a slice of bytes: none, or its cells -/
def BytesOk (W : World) (v : Value) : Prop := v = .slice none 0 0 ∨ ∃ (a : Addr) (len cap : Nat), v = .slice (some a) len cap ∧
  ∀ j, j < len → ∃ x : Int, 0 ≤ x ∧ x ≤ 255 ∧ W.cell? (a.add j) = some (.int .u8 x)
section
variable {H : Type} {enc : TypeId × Value → H} {P : Program} {w : World} {base : Nat} {spare : Nat → Bool} {held : Bool}
theorem open_bytes {tL e : TypeId} {v : Value} (htL : P.underlying tL = some (.slice e)) (he : P.underlying e = some (.int .u8)) (hce : P.cellsOf e = 1)
    {n : Nat} {y : DataW H × List MemPlace} (hd : DataW.trod enc P w base spare held n tL [v] = some y) : BytesOk w v := by
  rcases DataW.trod_slice htL hd with ⟨q, _⟩ | ⟨a, len, cap, elems, rest, m, _, q, _, _, _, _, _, hel, _⟩
  · cases q; exact .inl rfl
  · cases q
    refine .inr ⟨a, len, cap, rfl, fun j hj => ?_⟩
    have hlen : elems.length = len := by assumption
    have he2 := hel j (by omega)
    obtain ⟨x, hx⟩ : ∃ x, elems[j]? = some x := ⟨elems[j]'(by omega), List.getElem?_eq_getElem (by omega)⟩
    rw [hx] at he2
    obtain ⟨ds, hds, hx2⟩ := Option.bind_eq_some_iff.1 he2
    rw [hce] at hds
    obtain ⟨_, h2, hcell⟩ := World.cells?_some hds
    obtain ⟨v0, rfl⟩ : ∃ v0, ds = [v0] := by
      match ds, h2 with
      | [v0], _ => exact ⟨v0, rfl⟩
    obtain ⟨n0, rfl, _, w0⟩ := trod_num he hx2
    have c0 := hcell 0 (by decide)
    rw [add_add, show j * 1 + 0 = j by omega] at c0
    exact ⟨n0, (lwf w0).1, (lwf w0).2, c0⟩
theorem open_bytes' {r : Reach} {b0 : Nat} {tL e : TypeId} {v : Value} {d : DataW H} {p : List MemPlace} (htL : P.underlying tL = some (.slice e)) (he : P.underlying e = some (.int .u8)) (hce : P.cellsOf e = 1)
    (hval : Value.okWide P w r b0 tL v) (hd : DataW.Trod enc P w base spare held tL v d p) : BytesOk w v := by
  obtain ⟨a, len, cap, rfl⟩ := okWide_slice htL hval
  obtain ⟨fuel, hf⟩ := hd
  exact open_bytes htL he hce (show DataW.trod enc P w base spare held fuel tL [.slice a len cap] = some (d, p) from hf)
end
end Go.Abs

namespace Go.Proofs.YtpmknbclidomjaaGreatDoor
open Go Go.Abs
set_option maxRecDepth 100000
set_option maxHeartbeats 0
theorem tab0_ok {ν : Nu} (h0 : TabCell Tryz.prog ν "strings.asciiSpace" .u8 Lib.asciiSpaceTab) (h3 : IntCell ν 2) : TblOk Tryz.prog ν tab0 := by
  unfold tab0
  refine TblOk.set ?_ (f := 185) (by omega) good185
  refine TblOk.set ?_ (f := 14) (by omega) good14
  refine TblOk.set ?_ (f := 164) (by omega) good164
  refine TblOk.set ?_ (f := 112) (by omega) good112
  refine TblOk.set ?_ (f := 178) (by omega) good178
  refine TblOk.set ?_ (f := 13) (by omega) (good13 h0)
  refine TblOk.set ?_ (f := 332) (by omega) good332
  refine TblOk.set ?_ (f := 179) (by omega) good179
  refine TblOk.set ?_ (f := 275) (by omega) good275
  refine TblOk.set ?_ (f := 133) (by omega) good133
  refine TblOk.set ?_ (f := 15) (by omega) (good15 h3)
  refine TblOk.set ?_ (f := 63) (by omega) (good63 h3)
  refine TblOk.set ?_ (f := 38) (by omega) (good38 h3)
  exact TblOk.empty
theorem fnsW_ok : FnsOkZ Tryz.prog fnsW := ⟨Tryz.func271, trivial⟩
theorem fnsPi_ok : FnsOkZ Tryz.prog fnsPi := ⟨Tryz.func33, Tryz.func34, Tryz.func35, Tryz.func59, Tryz.func61, Tryz.func71, Tryz.func110, Tryz.func114, Tryz.func129, Tryz.func130, Tryz.func131, Tryz.func132, Tryz.func175, Tryz.func176, Tryz.func177, Tryz.func180, Tryz.func181, Tryz.func182, Tryz.func183, Tryz.func184, Tryz.func188, Tryz.func189, Tryz.func190, Tryz.func191, Tryz.func192, Tryz.func193, Tryz.func216, Tryz.func273, Tryz.func274, Tryz.func276, Tryz.func277, Tryz.func278, Tryz.func279, Tryz.func280, Tryz.func281, Tryz.func283, Tryz.func286, Tryz.func288, Tryz.func289, Tryz.func300, Tryz.func327, Tryz.func331, Tryz.func333, Tryz.func334, trivial⟩
theorem fnsEn_ok : FnsOkZ Tryz.prog fnsEn := ⟨Tryz.func118, Tryz.func168, Tryz.func169, Tryz.func266, Tryz.func267, Tryz.func268, Tryz.func269, Tryz.func270, trivial⟩
theorem fnsL_ok : FnsOkZ Tryz.prog fnsL := ⟨Tryz.func4, Tryz.func5, Tryz.func6, Tryz.func7, Tryz.func10, Tryz.func11, Tryz.func12, Tryz.func16, Tryz.func17, Tryz.func18, Tryz.func19, Tryz.func22, Tryz.func23, Tryz.func24, Tryz.func26, Tryz.func27, Tryz.func28, Tryz.func33, Tryz.func34, Tryz.func35, Tryz.func39, Tryz.func40, Tryz.func41, Tryz.func42, Tryz.func43, Tryz.func44, Tryz.func45, Tryz.func46, Tryz.func47, Tryz.func48, Tryz.func49, Tryz.func50, Tryz.func51, Tryz.func52, Tryz.func53, Tryz.func54, Tryz.func55, Tryz.func56, Tryz.func57, Tryz.func59, Tryz.func61, Tryz.func64, Tryz.func65, Tryz.func66, Tryz.func67, Tryz.func68, Tryz.func69, Tryz.func70, Tryz.func71, Tryz.func72, Tryz.func73, Tryz.func74, Tryz.func75, Tryz.func78, Tryz.func79, Tryz.func82, Tryz.func83, Tryz.func84, Tryz.func85, Tryz.func87, Tryz.func89, Tryz.func91, Tryz.func94, Tryz.func95, Tryz.func96, Tryz.func97, Tryz.func98, Tryz.func99, Tryz.func103, Tryz.func104, Tryz.func105, Tryz.func106, Tryz.func110, Tryz.func114, Tryz.func116, Tryz.func118, Tryz.func119, Tryz.func120, Tryz.func121, Tryz.func122, Tryz.func123, Tryz.func124, Tryz.func127, Tryz.func128, Tryz.func129, Tryz.func130, Tryz.func131, Tryz.func132, Tryz.func134, Tryz.func135, Tryz.func136, Tryz.func137, Tryz.func139, Tryz.func140, Tryz.func141, Tryz.func142, Tryz.func143, Tryz.func144, Tryz.func145, Tryz.func146, Tryz.func147, Tryz.func148, Tryz.func149, Tryz.func150, Tryz.func151, Tryz.func156, Tryz.func158, Tryz.func159, Tryz.func160, Tryz.func162, Tryz.func168, Tryz.func169, Tryz.func170, Tryz.func171, Tryz.func172, Tryz.func173, Tryz.func174, Tryz.func175, Tryz.func176, Tryz.func177, Tryz.func180, Tryz.func181, Tryz.func182, Tryz.func183, Tryz.func184, Tryz.func188, Tryz.func189, Tryz.func190, Tryz.func191, Tryz.func192, Tryz.func193, Tryz.func196, Tryz.func197, Tryz.func198, Tryz.func199, Tryz.func200, Tryz.func201, Tryz.func202, Tryz.func203, Tryz.func204, Tryz.func205, Tryz.func206, Tryz.func207, Tryz.func208, Tryz.func209, Tryz.func210, Tryz.func211, Tryz.func212, Tryz.func214, Tryz.func215, Tryz.func216, Tryz.func218, Tryz.func219, Tryz.func220, Tryz.func221, Tryz.func222, Tryz.func223, Tryz.func224, Tryz.func225, Tryz.func226, Tryz.func227, Tryz.func229, Tryz.func231, Tryz.func253, Tryz.func254, Tryz.func255, Tryz.func256, Tryz.func257, Tryz.func258, Tryz.func259, Tryz.func260, Tryz.func262, Tryz.func263, Tryz.func264, Tryz.func265, Tryz.func266, Tryz.func267, Tryz.func268, Tryz.func269, Tryz.func270, Tryz.func272, Tryz.func273, Tryz.func274, Tryz.func276, Tryz.func277, Tryz.func278, Tryz.func279, Tryz.func280, Tryz.func281, Tryz.func283, Tryz.func286, Tryz.func288, Tryz.func289, Tryz.func290, Tryz.func291, Tryz.func292, Tryz.func293, Tryz.func294, Tryz.func295, Tryz.func300, Tryz.func302, Tryz.func303, Tryz.func304, Tryz.func305, Tryz.func306, Tryz.func307, Tryz.func314, Tryz.func315, Tryz.func316, Tryz.func317, Tryz.func318, Tryz.func321, Tryz.func322, Tryz.func323, Tryz.func324, Tryz.func326, Tryz.func327, Tryz.func331, Tryz.func333, Tryz.func334, Tryz.func336, Tryz.func337, Tryz.func338, Tryz.func342, Tryz.func343, Tryz.func346, Tryz.func347, Tryz.func354, Tryz.func359, Tryz.func360, Tryz.func361, Tryz.func362, Tryz.func363, Tryz.func371, Tryz.func372, Tryz.func390, Tryz.func391, Tryz.func392, Tryz.func393, Tryz.func394, Tryz.func399, Tryz.func400, Tryz.func416, Tryz.func417, Tryz.func418, Tryz.func419, Tryz.func420, Tryz.func421, Tryz.func423, Tryz.func424, Tryz.func428, Tryz.func429, Tryz.func447, Tryz.func448, Tryz.func450, Tryz.func453, Tryz.func462, trivial⟩
theorem fnsPr_ok : FnsOkZ Tryz.prog fnsPr := ⟨Tryz.func5, Tryz.func6, Tryz.func12, Tryz.func33, Tryz.func34, Tryz.func35, Tryz.func59, Tryz.func61, Tryz.func110, Tryz.func114, trivial⟩
theorem fnsTo_ok : FnsOkZ Tryz.prog fnsTo := ⟨Tryz.func6, Tryz.func33, Tryz.func34, Tryz.func35, Tryz.func59, Tryz.func61, Tryz.func110, Tryz.func114, trivial⟩
theorem fnsPa_ok : FnsOkZ Tryz.prog fnsPa := ⟨Tryz.func28, Tryz.func33, Tryz.func34, Tryz.func35, Tryz.func51, Tryz.func55, Tryz.func59, Tryz.func61, Tryz.func67, Tryz.func94, Tryz.func95, Tryz.func105, Tryz.func110, Tryz.func114, Tryz.func139, Tryz.func140, Tryz.func169, Tryz.func177, Tryz.func182, Tryz.func197, Tryz.func198, Tryz.func199, Tryz.func200, Tryz.func201, Tryz.func202, Tryz.func203, Tryz.func204, Tryz.func205, Tryz.func206, Tryz.func229, Tryz.func255, Tryz.func277, Tryz.func280, Tryz.func290, Tryz.func291, Tryz.func292, Tryz.func300, Tryz.func305, Tryz.func306, Tryz.func307, Tryz.func314, Tryz.func336, Tryz.func346, trivial⟩
theorem fnsSc_ok : FnsOkZ Tryz.prog fnsSc := ⟨Tryz.func28, Tryz.func33, Tryz.func34, Tryz.func35, Tryz.func51, Tryz.func53, Tryz.func55, Tryz.func59, Tryz.func61, Tryz.func67, Tryz.func94, Tryz.func95, Tryz.func96, Tryz.func97, Tryz.func105, Tryz.func110, Tryz.func114, Tryz.func139, Tryz.func140, Tryz.func141, Tryz.func142, Tryz.func143, Tryz.func169, Tryz.func177, Tryz.func182, Tryz.func197, Tryz.func198, Tryz.func199, Tryz.func200, Tryz.func201, Tryz.func202, Tryz.func203, Tryz.func204, Tryz.func205, Tryz.func206, Tryz.func207, Tryz.func208, Tryz.func229, Tryz.func255, Tryz.func277, Tryz.func280, Tryz.func290, Tryz.func291, Tryz.func292, Tryz.func300, Tryz.func305, Tryz.func306, Tryz.func307, Tryz.func314, Tryz.func336, Tryz.func346, trivial⟩
theorem fnsE_ok : FnsOkZ Tryz.prog fnsE := ⟨Tryz.func33, Tryz.func34, Tryz.func35, Tryz.func59, Tryz.func61, Tryz.func66, Tryz.func110, Tryz.func114, Tryz.func116, Tryz.func119, Tryz.func120, Tryz.func121, Tryz.func122, Tryz.func123, Tryz.func124, Tryz.func129, Tryz.func130, Tryz.func131, Tryz.func132, Tryz.func168, Tryz.func169, Tryz.func170, Tryz.func171, Tryz.func172, Tryz.func173, Tryz.func174, Tryz.func175, Tryz.func176, Tryz.func177, Tryz.func180, Tryz.func181, Tryz.func182, Tryz.func183, Tryz.func184, Tryz.func188, Tryz.func189, Tryz.func190, Tryz.func191, Tryz.func192, Tryz.func193, Tryz.func216, Tryz.func266, Tryz.func267, Tryz.func268, Tryz.func269, Tryz.func270, Tryz.func272, Tryz.func273, Tryz.func274, Tryz.func276, Tryz.func277, Tryz.func278, Tryz.func279, Tryz.func280, Tryz.func281, Tryz.func283, Tryz.func286, Tryz.func288, Tryz.func289, Tryz.func300, Tryz.func326, Tryz.func327, Tryz.func331, Tryz.func333, Tryz.func334, Tryz.func354, trivial⟩
theorem fnsB_ok : FnsOkZ Tryz.prog fnsB := ⟨Tryz.func16, Tryz.func28, Tryz.func33, Tryz.func34, Tryz.func35, Tryz.func39, Tryz.func40, Tryz.func41, Tryz.func42, Tryz.func43, Tryz.func44, Tryz.func45, Tryz.func46, Tryz.func47, Tryz.func59, Tryz.func61, Tryz.func64, Tryz.func65, Tryz.func67, Tryz.func68, Tryz.func69, Tryz.func70, Tryz.func72, Tryz.func73, Tryz.func74, Tryz.func75, Tryz.func78, Tryz.func79, Tryz.func82, Tryz.func83, Tryz.func84, Tryz.func85, Tryz.func87, Tryz.func89, Tryz.func110, Tryz.func114, Tryz.func116, Tryz.func119, Tryz.func120, Tryz.func121, Tryz.func122, Tryz.func123, Tryz.func124, Tryz.func127, Tryz.func128, Tryz.func129, Tryz.func130, Tryz.func131, Tryz.func132, Tryz.func134, Tryz.func135, Tryz.func136, Tryz.func137, Tryz.func168, Tryz.func169, Tryz.func170, Tryz.func171, Tryz.func172, Tryz.func173, Tryz.func174, Tryz.func175, Tryz.func176, Tryz.func177, Tryz.func180, Tryz.func181, Tryz.func182, Tryz.func183, Tryz.func184, Tryz.func188, Tryz.func189, Tryz.func190, Tryz.func191, Tryz.func192, Tryz.func193, Tryz.func216, Tryz.func266, Tryz.func267, Tryz.func268, Tryz.func269, Tryz.func270, Tryz.func272, Tryz.func273, Tryz.func274, Tryz.func276, Tryz.func277, Tryz.func278, Tryz.func279, Tryz.func280, Tryz.func281, Tryz.func283, Tryz.func286, Tryz.func288, Tryz.func289, Tryz.func300, Tryz.func326, Tryz.func327, Tryz.func331, Tryz.func333, Tryz.func334, Tryz.func354, trivial⟩
theorem fnsC_ok : FnsOkZ Tryz.prog fnsC := ⟨Tryz.func7, Tryz.func8, Tryz.func9, Tryz.func17, Tryz.func18, Tryz.func19, Tryz.func20, Tryz.func21, Tryz.func23, Tryz.func24, Tryz.func28, Tryz.func48, Tryz.func49, Tryz.func50, Tryz.func52, Tryz.func54, Tryz.func55, Tryz.func67, Tryz.func74, Tryz.func85, Tryz.func89, Tryz.func91, Tryz.func99, Tryz.func103, Tryz.func105, Tryz.func135, Tryz.func136, Tryz.func137, Tryz.func145, Tryz.func148, Tryz.func149, Tryz.func150, Tryz.func151, Tryz.func159, Tryz.func169, Tryz.func174, Tryz.func183, Tryz.func188, Tryz.func209, Tryz.func210, Tryz.func213, Tryz.func218, Tryz.func219, Tryz.func223, Tryz.func224, Tryz.func225, Tryz.func226, Tryz.func227, Tryz.func229, Tryz.func231, Tryz.func253, Tryz.func255, Tryz.func256, Tryz.func257, Tryz.func258, Tryz.func259, Tryz.func281, Tryz.func283, Tryz.func294, Tryz.func299, Tryz.func302, Tryz.func305, Tryz.func306, Tryz.func307, Tryz.func314, Tryz.func315, Tryz.func316, Tryz.func334, Tryz.func346, trivial⟩
theorem fnsR_ok : FnsOkZ Tryz.prog fnsR := ⟨Tryz.func3, trivial⟩
theorem noNG : NoNG Tryz.prog := by
  have h : (Tryz.prog.funcs.toList.all fun fn => !(fn.name == "runtime.NumGoroutine")) = true := by kernel_rfl
  intro f fn hf
  rw [List.all_eq_true] at h
  have hm : fn ∈ Tryz.prog.funcs.toList := Array.mem_toList_iff.2 (Array.mem_of_getElem? hf)
  simpa using h fn hm
theorem failD_good {ν : Nu} {f : Nat} : FnGood Tryz.prog ν f failD := by
  intro cf _ args h kr kp hk
  cases hk
end Go.Proofs.YtpmknbclidomjaaGreatDoor
namespace Go.Abs
noncomputable section
open Go.RowKit (Below)
theorem subNil {ν : Nu} : SubOk [] ν ν := ⟨rfl, fun _ _ _ => rfl, fun s l c h => by cases h⟩
theorem FnGood.oneOf {P : Program} {ν : Nu} {f : Nat} {h0 : H} {φ0 : Phi} {l qs : List (List AV)} {r : AV} (hrun : ∀ q ∈ qs, ∃ t, TblOk P ν t ∧ runF t 60 f q h0 (fun av _ => eqR noB r av) (fun _ _ => false) = true)
    (hp : ∀ p ∈ l, ∀ φ vs, VRs φ ν p vs → ∃ q ∈ qs, VRs φ0 ν q vs)
    (h0G : ∀ w : World, (∀ b o, (b, o) ∈ ν.G → w.heap[b]? = some o) → HR φ0 ν h0 w) (hlim : ∀ id ver p, φ0 id ver = some p → id < h0.ro.lim) {next : FnD} (hnext : FnGood P ν f next) : FnGood P ν f (oneOfD l r next) := by
  intro cf hcf args h kr kp hk φ w vs hr hv
  rcases anyS_true (show anyS l args (kr r h) (next cf args h kr kp) = true from hk) with ⟨hkr, p, hp1, hp2⟩ | hn
  · have e1 : VRs φ ν p vs := eqSs_VR subNil (fun i j hij => by cases hij) hp2 hv
    obtain ⟨q, hq, hqv⟩ := hp p hp1 φ vs e1
    have hr0 := h0G w fun b o hbo => (hr.gl b o hbo).1
    obtain ⟨t, ht, hrun1⟩ := hrun q hq
    have hco := runF_ok ht 60 f q h0 (fun av _ => eqR noB r av) (fun _ _ => false) hrun1 φ0 w vs hr0 hqv
    have hpost : ∀ e w', FPost φ0 ν h0.ro w h0.ds (fun av _ => eqR noB r av) (fun _ _ => false) e w' → FPost φ ν h.ro w h.ds kr kp e w' := by
      intro e w' hp
      cases e with
      | returned x =>
        obtain ⟨φ', av, h', hvr, hr', hx, _, _, hav⟩ := hp
        obtain ⟨g1, g2⟩ := hr.below (below_of_ext hx hlim)
        exact ⟨φ, r, h, eqR_VR (φ0 := φ) (fun i j hij => by cases hij) (show eqR noB r av = true from hav) hvr, g1, g2 _, rfl, rfl, hkr⟩
      | panicked chain =>
        obtain ⟨φ', av, h', v, _, _, _, _, _, _, hav⟩ := hp
        cases hav
      | outgrown => exact hp
    rcases hco with ⟨h1, h2⟩ | ⟨x, w', h1, h2⟩
    · exact .inl ⟨h1, h2.mono hpost⟩
    · exact .inr ⟨x, w', h1, hpost _ _ h2⟩
  · exact hnext cf hcf args h kr kp hn φ w vs hr hv
theorem outsS2_true {e : Nat → Nat → Bool} {out : T4 Nat 5} {sub : T4 AB 5} {bl : T4 AB HD} : ∀ {n : Nat}, outsS2 e out sub bl n = true → ∀ i, i < n → ∀ b, T4.get 5 i sub = some b → ∃ k b', T4.get 5 i out = some k ∧ T4.get HD (1024 + k) bl = some b' ∧ eqSAB e [] b b' = true
  | 0, _, i, hi, b, hb => by omega
  | n + 1, h, i, hi, b, hb => by
    change Option.rec (motive := fun _ => Bool) (outsS2 e out sub bl n) (fun b => Option.rec (motive := fun _ => Bool) false (fun k => T4.getK HD (1024 + k) bl fun b' => andB (eqSAB e [] b b') (outsS2 e out sub bl n)) (T4.getV 5 n out)) (T4.getV 5 n sub) = true at h
    rw [T4.getV_eq, T4.getV_eq] at h
    rcases Nat.lt_or_ge i n with q | q
    · refine outsS2_true ?_ i q b hb
      cases hq : T4.get 5 n sub with
      | none => rw [hq] at h; exact h
      | some b0 =>
        rw [hq] at h
        cases hk : T4.get 5 n out with
        | none => rw [hk] at h; cases h
        | some k =>
          rw [hk] at h
          obtain ⟨b', _, h⟩ := T4.getK_true _ _ _ _ h
          exact (andB_true h).2
    · have : i = n := by omega
      subst this
      rw [hb] at h
      cases hk : T4.get 5 i out with
      | none => rw [hk] at h; cases h
      | some k =>
        rw [hk] at h
        obtain ⟨b', g1, h⟩ := T4.getK_true _ _ _ _ h
        exact ⟨k, b', rfl, g1, (andB_true h).1⟩

/-- one run with symbols serves the kept call with texts: what is held against the arguments is m, what was run is M -/
theorem FnGood.memo2s {P : Program} {ν : Nu} {t : T4 FnD TD} (ht : TblOk P ν t) {n f : Nat} {gs : List Gl} {lim : Nat} (m : Memo2) {a' : List AV} {i' : List (Option AB)} {r' : AV} {s' : T4 AB 5}
    (hrun : runF t n f a' ((⟨a', i', m.src, m.c, m.n, m.tot, r', m.out, s', m.refs⟩ : Memo2).h0 gs lim) (memoKS2 ⟨a', i', m.src, m.c, m.n, m.tot, r', m.out, s', m.refs⟩ lim) (fun _ _ => false) = true)
    (hA : ∀ φ vs, VRs φ ν m.args vs → VRs φ ν a' vs) (hlen : i'.length = m.ins.length) (hI : ∀ (i : Nat) (b' : AB), i'[i]? = some (some b') → ∃ b, m.ins[i]? = some (some b) ∧ ∀ φ w id, BR φ ν w id b → BR φ ν w id b')
    (hR : ∀ φ v, VR φ ν r' v → VR φ ν m.res v) (hS : ∀ (i : Nat) (b : AB), i < 1024 → T4.get 5 i m.sub = some b → ∃ b', T4.get 5 i s' = some b' ∧ ∀ φ w id, BR φ ν w id b' → BR φ ν w id b)
    (h0G : ∀ w : World, (∀ b o, (b, o) ∈ ν.G → w.heap[b]? = some o) → HR (phiOf gs) ν (h0Of gs lim) w) (hgG : ∀ id ver p, phiOf gs id ver = some p → ∃ o, (p.blk, o) ∈ ν.G)
    (hs1 : lim + m.ins.length ≤ 1024) (hs2 : m.c < 64) (hs3 : m.n ≤ 1024) {next : FnD} (hnext : FnGood P ν f next) : FnGood P ν f (memoD2 m lim next) := by
  intro cf hcf args h kr kp hk φ w vs hr hv
  have hk' : (bif Nat.ble h.next (m.c * 1024) then rhoK (flatA args) h (next cf args h kr kp) m.src [] fun ρ =>
    Bool.rec (motive := fun _ => Bool) (next cf args h kr kp) (T4.truncK HD h.next h.bl fun bl => T4.graftK 5 3 m.c m.sub bl fun bl => kr m.res ⟨h.ds, h.ro, m.c * 1024 + m.n, bl⟩)
      (andB (refsB ρ args m.refs) (andB (nodupB ρ) (andB (eqRs (relIn lim ρ) m.args args) (insBO lim ρ h m.ins ρ)))) else next cf args h kr kp) = true := hk
  cases hB : Nat.ble h.next (m.c * 1024) with
  | false => rw [hB] at hk'; exact hnext cf hcf args h kr kp hk' φ w vs hr hv
  | true =>
    rw [hB, cond_true] at hk'
    have hB := Nat.le_of_ble_eq_true hB
    rcases rhoK_true hk' with hk' | ⟨ρ, hk'⟩
    · exact hnext cf hcf args h kr kp hk' φ w vs hr hv
    cases hm : andB (refsB ρ args m.refs) (andB (nodupB ρ) (andB (eqRs (relIn lim ρ) m.args args) (insBO lim ρ h m.ins ρ))) with
    | false => rw [hm] at hk'; exact hnext cf hcf args h kr kp hk' φ w vs hr hv
    | true =>
      rw [hm] at hk'
      obtain ⟨m0, hm⟩ := andB_true hm
      obtain ⟨m1, m2⟩ := andB_true hm
      obtain ⟨m2, m3⟩ := andB_true m2
      have m1 := nodupB_true m1
      obtain ⟨m3, m5, m4⟩ := insBO_true m3
      obtain ⟨B, hB0⟩ : ∃ B, B = m.c * 1024 := ⟨_, rfl⟩
      have eB : Nat.mul m.c 1024 = B := hB0.symm
      have h8 : (4 : Nat) ^ HD = 65536 := by decide
      have hBn : B + m.n ≤ 4 ^ HD := Nat.le_trans (show B + m.n ≤ 65536 by omega) (Nat.le_of_eq h8.symm)
      have hB8 : B ≤ 4 ^ HD := Nat.le_trans (Nat.le_add_right _ _) hBn
      rw [← hB0] at hB hk'
      obtain ⟨M, hM⟩ : ∃ M : Memo2, M = (⟨a', i', m.src, m.c, m.n, m.tot, r', m.out, s', m.refs⟩ : Memo2) := ⟨_, rfl⟩
      rw [← hM] at hrun
      have hMi : M.ins = i' := by rw [hM]
      have hnx0 : (M.h0 gs lim).next = 1024 := rfl
      have hR8 : 1024 ≤ 4 ^ HD := by decide
      -- the frame of the kept call
      have hh0 := h0G w fun b o hbo => (hr.gl b o hbo).1
      let φ0 : Phi := fun id ver => if id < lim then phiOf gs id ver else match ρ[id - lim]? with | some j => φ j ver | none => none
      have p0lt : ∀ {id ver}, id < lim → φ0 id ver = phiOf gs id ver := fun h => if_pos h
      have p0ge : ∀ {id ver}, lim ≤ id → φ0 id ver = match ρ[id - lim]? with | some j => φ j ver | none => none := fun h => if_neg (by omega)
      have p0in : ∀ i j, relIn lim ρ i j = true → ∀ ver, φ0 i ver = φ j ver := fun i j hij ver => by
        obtain ⟨g1, g2⟩ := relIn_true hij
        rw [p0ge g1, g2]
      have hpl : ∀ id ver p, phiOf gs id ver = some p → id < lim := fun id ver p h => (hh0.dom id ver p h).1
      have p0some : ∀ {id ver p}, φ0 id ver = some p → (id < lim ∧ phiOf gs id ver = some p) ∨ (lim ≤ id ∧ id < lim + m.ins.length ∧ ∃ j, ρ[id - lim]? = some j ∧ φ j ver = some p) := by
        intro id ver p hp
        by_cases hl : id < lim
        · rw [p0lt hl] at hp; exact .inl ⟨hl, hp⟩
        · rw [p0ge (by omega)] at hp
          cases hq : ρ[id - lim]? with
          | none => rw [hq] at hp; cases hp
          | some j =>
            rw [hq] at hp
            have := (List.getElem?_eq_some_iff.1 hq).1
            exact .inr ⟨by omega, by omega, j, rfl, hp⟩
      have hin : HR φ0 ν (M.h0 gs lim) w := by
        refine ⟨?_, ?_, ?_, ?_, ?_, ?_, ?_, trivial⟩
        · intro id ver p hp
          rcases p0some hp with ⟨g1, g2⟩ | ⟨g1, g2, j, g3, g4⟩
          · exact ⟨by rw [hnx0]; exact Nat.lt_of_lt_of_le g1 (Nat.le_trans (Nat.le_add_right _ _) hs1), (hh0.dom _ _ _ g2).2⟩
          · exact ⟨by rw [hnx0]; exact Nat.lt_of_lt_of_le g2 hs1, (hr.dom _ _ _ g4).2⟩
        · intro id ver p id' ver' p' hp hp' he
          have hmix : ∀ {id ver p j ver' p'}, phiOf gs id ver = some p → φ j ver' = some p' → p.blk = p'.blk → (∃ i : Nat, ρ[i]? = some j) → False := by
            intro id ver p j ver' p' g1 g2 ge ⟨i, hi⟩
            obtain ⟨o, ho⟩ := hgG _ _ _ g1
            have h1 := (hr.gl _ _ ho).2 j ver' p' g2 ge.symm
            have q2 := m5 i _ hi
            omega
          rcases p0some hp with ⟨g1, g2⟩ | ⟨g1, g2, j, g3, g4⟩ <;> rcases p0some hp' with ⟨g1', g2'⟩ | ⟨g1', g2', j', g3', g4'⟩
          · exact hh0.inj _ _ _ _ _ _ g2 g2' he
          · exact (hmix g2 g4' he ⟨_, g3'⟩).elim
          · exact (hmix g2' g4 he.symm ⟨_, g3⟩).elim
          · have := hr.inj _ _ _ _ _ _ g4 g4' he
            subst this
            have h1 := (List.getElem?_eq_some_iff.1 g3).1
            have h2 := (List.getElem?_eq_some_iff.1 g3').1
            have : id - lim = id' - lim := (List.getElem_inj (h₀ := h1) (h₁ := h2) m1).1 (by rw [(List.getElem?_eq_some_iff.1 g3).2, (List.getElem?_eq_some_iff.1 g3').2])
            omega
        · intro id b hid hb
          rw [hnx0] at hid
          have hid8 : id < 4 ^ HD := Nat.lt_of_lt_of_le hid hR8
          have hb : T4.get HD id (insHeapO lim M.ins (glHeap gs)) = some b := hb
          rw [hMi] at hb
          rcases insHeapO_get (Nat.le_trans (by rw [hlen]; exact hs1) hR8) hid8 hb with ⟨hq, hb⟩ | hb
          · obtain ⟨b1, hb1, hbb⟩ := hI _ _ hb
            obtain ⟨j, b', q1, q2, q3, q4, q5⟩ := m4 _ _ hb1
            refine hbb _ _ _ ?_
            refine eqAB_BR (φ := φ) (j := j) p0in (fun ver => ?_) q5 (hr.bl j b' q3 q4)
            rw [p0ge hq, q1]
          · by_cases hl : id < lim
            · refine BR.keep (φ := phiOf gs) (w := w) (fun i v p hp => by rw [p0lt (hpl _ _ _ hp)]; exact hp) (fun v p hp => by rw [p0lt hl] at hp; exact hp) (fun v p hp => rfl) (hh0.bl id b hl hb)
            · exfalso
              have hgl : ∀ q ∈ gs, q.g < lim := fun q hq => by
                have hf : ∃ q', gs.find? (fun r => Nat.beq r.g q.g && Nat.beq r.l.length q.l.length) = some q' := by
                  rw [← Option.isSome_iff_exists, List.find?_isSome]
                  exact ⟨q, hq, by simp⟩
                obtain ⟨q', hq'⟩ := hf
                exact hpl q.g q.l.length ⟨q'.g, q'.l.length, q'.l.length, 0⟩ (by unfold phiOf; rw [hq'])
              obtain ⟨q, hq1, hq2, _⟩ := glHeap_get (fun q hq => Nat.lt_of_lt_of_le (hgl q hq) hh0.lim) hid8 hb
              exact hl (hq2 ▸ hgl q hq1)
        · rw [hnx0]; exact hR8
        · rw [hnx0]; show lim + M.ins.length ≤ 1024; rw [hMi, hlen]; exact hs1
        · intro g hg
          obtain ⟨p, g1, g2⟩ := hh0.gp g hg
          exact ⟨p, by rw [p0lt (hpl _ _ _ g1)]; exact g1, g2⟩
        · intro b o hbo
          refine ⟨(hr.gl b o hbo).1, fun id ver p hp _ => ?_⟩
          show id < lim + M.ins.length
          rw [hMi, hlen]
          rcases p0some hp with ⟨g1, g2⟩ | ⟨g1, g2, _⟩
          · omega
          · exact g2
      have hro : (M.h0 gs lim).ro.lim = lim + m.ins.length := by show lim + M.ins.length = _; rw [hMi, hlen]
      have hc := runF_ok ht n f a' (M.h0 gs lim) (memoKS2 M lim) (fun _ _ => false) hrun φ0 w vs hin (hA _ _ (eqRs_VR p0in m2 hv))
      have hpost : ∀ e w', FPost φ0 ν (M.h0 gs lim).ro w (M.h0 gs lim).ds (memoKS2 M lim) (fun _ _ => false) e w' → FPost φ ν h.ro w h.ds kr kp e w' := by
        intro e w' hp
        cases e with
        | returned v =>
          obtain ⟨φ', av, h', hvr, hr', hx, hro', _, hav⟩ := hp
          have hav : memoKS2 M lim av h' = true := hav
          rw [hM] at hav
          have hav : (bif Nat.beq h'.next (1024 + m.tot) then andB (growB m.out m.tot m.n) (andB (eqS (relX (Nat.mul m.c 1024) lim m.out m.n m.refs) [] r' av) (outsS2 (relX (Nat.mul m.c 1024) lim m.out m.n m.refs) m.out s' h'.bl m.n)) else false) = true := hav
          rw [eB] at hav
          cases hnx : Nat.beq h'.next (1024 + m.tot) with
          | false => rw [hnx] at hav; cases hav
          | true =>
            rw [hnx, cond_true] at hav
            have hnx : h'.next = 1024 + m.tot := Nat.eq_of_beq_eq_true hnx
            obtain ⟨a0, hav⟩ := andB_true hav
            have a0 := growB_true a0
            obtain ⟨a1, a2⟩ := andB_true hav
            have a2 := outsS2_true a2
            have hnone : ∀ id ver, 1024 ≤ id → φ0 id ver = none := by
              intro id ver hid
              cases hq : φ0 id ver with
              | none => rfl
              | some p =>
                rcases p0some hq with ⟨g1, _⟩ | ⟨_, g2, _⟩ <;> omega
            have hfresh : ∀ id ver p, 1024 ≤ id → φ' id ver = some p → w.heap.size ≤ p.blk := by
              intro id ver p hid hp
              rcases hx.img id ver p hp with ⟨v0, q0, g1, _⟩ | g
              · rw [hnone id v0 hid] at g1; cases g1
              · exact g
            let φ2 : Phi := fun id ver => if id < B then φ id ver else if id - B < m.n then match T4.get 5 (id - B) m.out with | some k => φ' (1024 + k) ver | none => none else none
            have q2lt : ∀ {id ver}, id < B → φ2 id ver = φ id ver := fun h => if_pos h
            have q2ge : ∀ {id ver k}, B ≤ id → id - B < m.n → T4.get 5 (id - B) m.out = some k → φ2 id ver = φ' (1024 + k) ver := fun {id ver k} h1 h2 h3 => by
              show (if id < B then φ id ver else if id - B < m.n then match T4.get 5 (id - B) m.out with | some k => φ' (1024 + k) ver | none => none else none) = _
              rw [if_neg (by omega), if_pos h2, h3]
            have q2some : ∀ {id ver p}, B ≤ id → φ2 id ver = some p → ∃ k, id - B < m.n ∧ T4.get 5 (id - B) m.out = some k ∧ φ' (1024 + k) ver = some p := by
              intro id ver p h1 hp
              have hp : (if id < B then φ id ver else if id - B < m.n then match T4.get 5 (id - B) m.out with | some k => φ' (1024 + k) ver | none => none else none) = some p := hp
              rw [if_neg (by omega)] at hp
              by_cases hn : id - B < m.n
              · rw [if_pos hn] at hp
                cases hk : T4.get 5 (id - B) m.out with
                | none => rw [hk] at hp; cases hp
                | some k => rw [hk] at hp; exact ⟨k, hn, rfl, hp⟩
              · rw [if_neg hn] at hp; cases hp
            have q2new : ∀ i j, relX B lim m.out m.n m.refs i j = true → ∀ ver, φ2 i ver = φ' j ver := fun i j hij ver => by
              rcases relX_true hij with hij | ⟨k, g1, g2⟩
              · obtain ⟨g1, g2, k, g3, g4⟩ := relOut_true hij
                rw [q2ge g1 g2 g3, g4]
              · obtain ⟨g3, g4⟩ := refsB_true m0 g1
                obtain ⟨v0, p0, h0⟩ := namesL_true g4 hv
                have hi := (hr.dom _ _ _ h0).1
                have hk1 : k < ρ.length := (List.getElem?_eq_some_iff.1 g3).1
                have e0 : ∀ ver, φ0 j ver = φ i ver := fun ver => by
                  rw [p0ge (by omega), show j - lim = k by omega, g3]
                rw [q2lt (by omega)]
                cases hq : φ' j ver with
                | some p => rw [← e0, hx.old j ver p hq (by rw [hro]; omega) ⟨v0, p0, by rw [e0]; exact h0⟩]
                | none =>
                  cases hq2 : φ i ver with
                  | none => rfl
                  | some p => rw [hx.le j ver p (by rw [e0]; exact hq2)] at hq; cases hq
            have hle : φ.le φ2 := fun i v p hp => by
              rw [q2lt (Nat.lt_of_lt_of_le (hr.dom _ _ _ hp).1 hB)]; exact hp
            have hsame : ∀ b, b < w.heap.size → w'.heap[b]? = w.heap[b]? := fun b hb => hx.same b hb fun id ver p hp hl => by
              rw [hro] at hl
              rcases p0some hp with ⟨g1, _⟩ | ⟨_, g2, _⟩ <;> omega
            have hnl : h.next < 4 ^ HD ∨ h.next = 4 ^ HD := by have := hr.lim; omega
            have hn8 : h.next < 4 ^ HD := Nat.lt_of_le_of_lt hB (Nat.lt_of_lt_of_le (show B < 65536 by omega) (Nat.le_of_eq h8.symm))
            simp only [T4.truncK_eq _ _ _ _ hn8, T4.graftK_eq] at hk'
            · refine ⟨φ2, m.res, ⟨h.ds, h.ro, B + m.n, T4.graft 5 3 m.c m.sub (T4.trunc HD h.next h.bl)⟩, hR _ _ (eqS_VR subNil q2new a1 hvr), ?_, ?_, rfl, rfl, hk'⟩
              · refine ⟨?_, ?_, ?_, hBn, ?_, hr.gp.mono hle, ?_, ?_⟩
                · intro id ver p hp
                  by_cases hl : id < B
                  · rw [q2lt hl] at hp
                    obtain ⟨g1, g2⟩ := hr.dom _ _ _ hp
                    exact ⟨Nat.lt_of_lt_of_le hl (Nat.le_add_right _ _), Nat.lt_of_lt_of_le g2 hx.size⟩
                  · obtain ⟨k, g1, g2, hp⟩ := q2some (by omega) hp
                    exact ⟨by show id < B + m.n; omega, (hr'.dom _ _ _ hp).2⟩
                · intro id ver p id' ver' p' hp hp' he
                  by_cases hl : id < B <;> by_cases hl' : id' < B
                  · rw [q2lt hl] at hp; rw [q2lt hl'] at hp'; exact hr.inj _ _ _ _ _ _ hp hp' he
                  · rw [q2lt hl] at hp; obtain ⟨k, _, _, hp'⟩ := q2some (by omega) hp'
                    have g1 := (hr.dom _ _ _ hp).2
                    have g2 := hfresh _ _ _ (by omega) hp'
                    omega
                  · obtain ⟨k, _, _, hp⟩ := q2some (by omega) hp; rw [q2lt hl'] at hp'
                    have g1 := (hr.dom _ _ _ hp').2
                    have g2 := hfresh _ _ _ (by omega) hp
                    omega
                  · obtain ⟨k, g1, g2, hp⟩ := q2some (by omega) hp
                    obtain ⟨k', g1', g2', hp'⟩ := q2some (by omega) hp'
                    have hkk := hr'.inj _ _ _ _ _ _ hp hp' he
                    obtain ⟨k0, q1, _, q3⟩ := a0 (id - B) g1
                    obtain ⟨k1, q1', _, q3'⟩ := a0 (id' - B) g1'
                    rw [g2] at q1; cases q1
                    rw [g2'] at q1'; cases q1'
                    rcases Nat.lt_trichotomy (id - B) (id' - B) with q | q | q
                    · have := q3 _ _ q g1' g2'; omega
                    · omega
                    · have := q3' _ _ q g1 g2; omega
                · intro id b hid hb
                  have hid : id < B + m.n := hid
                  have hid8 : id < 4 ^ HD := Nat.lt_of_lt_of_le hid hBn
                  have hb : T4.get (5 + 3) id (T4.graft 5 3 m.c m.sub (T4.trunc HD h.next h.bl)) = some b := hb
                  rw [T4.get_graft 5 3 m.c id (by omega) hid8] at hb
                  have h1024 : (4 : Nat) ^ 5 = 1024 := by decide
                  rw [h1024] at hb
                  by_cases hq : id / 1024 = m.c
                  · rw [if_pos hq] at hb
                    have hge : B ≤ id := by omega
                    obtain ⟨b1, hb1, hbb⟩ := hS _ _ (by omega) hb
                    obtain ⟨k, b', r0, r1, r2⟩ := a2 (id % 1024) (by omega) b1 hb1
                    have e1 : id - B = id % 1024 := by omega
                    have hlt : id - B < m.n := by omega
                    obtain ⟨k0, q1, q2, _⟩ := a0 (id % 1024) (by omega)
                    rw [r0] at q1; cases q1
                    refine hbb _ _ _ ?_
                    exact eqSAB_BR (φ := φ') (j := 1024 + k) subNil q2new (fun ver => q2ge hge hlt (by rw [e1]; exact r0)) r2 (hr'.bl (1024 + k) b' (by rw [hnx]; omega) r1)
                  · rw [if_neg hq] at hb
                    have hlt : id < B := by omega
                    have hb : T4.get HD id (T4.trunc HD h.next h.bl) = some b := hb
                    rw [T4.get_trunc _ _ _ hid8] at hb
                    by_cases hn : id < h.next
                    · rw [if_pos hn] at hb
                      exact BR.keep hle (fun v p hp => by rw [q2lt hlt] at hp; exact hp) (fun v p hp => hsame _ (hr.dom _ _ _ hp).2) (hr.bl id b hn hb)
                    · rw [if_neg hn] at hb; cases hb
                · show h.ro.lim ≤ B + m.n
                  have := hr.ro
                  omega
                · intro b o hbo
                  obtain ⟨g1, g2⟩ := hr.gl b o hbo
                  refine ⟨(hr'.gl b o hbo).1, fun id ver p hp he => ?_⟩
                  show id < h.ro.lim
                  by_cases hl : id < B
                  · rw [q2lt hl] at hp; exact g2 id ver p hp he
                  · obtain ⟨k, _, _, hp⟩ := q2some (by omega) hp
                    have g3 := hfresh _ _ _ (by omega) hp
                    have g4 := (Array.getElem?_eq_some_iff.1 g1).1
                    omega
                · exact hr.ub
              · refine ⟨hle, hx.size, hx.os, hx.tape, hx.output, ?_, fun b hb _ => hsame b hb, fun id ver p hp _ hk => ?_⟩
                rotate_left
                · obtain ⟨v0, p0, h0⟩ := hk
                  have := (hr.dom _ _ _ h0).1
                  rwa [q2lt (by omega)] at hp
                intro id ver p hp
                by_cases hl : id < B
                · rw [q2lt hl] at hp; exact .inl ⟨ver, p, hp, rfl⟩
                · obtain ⟨k, _, _, hp⟩ := q2some (by omega) hp; exact .inr (hfresh _ _ _ (by omega) hp)
        | panicked chain =>
          obtain ⟨φ', av, h', v, _, _, _, _, _, _, hav⟩ := hp
          cases hav
        | outgrown => exact hp
      rcases hc with ⟨h1, h2⟩ | ⟨v, w', h1, h2⟩
      · exact .inl ⟨h1, h2.mono hpost⟩
      · exact .inr ⟨v, w', h1, hpost _ _ h2⟩

/-! ### rows -/
theorem rowsFrom_get : ∀ (l : List (List AV)) (i : Nat) (t : RT (List AV) RD) (j : Nat), i + l.length ≤ 4 ^ RD → j < 4 ^ RD → RT.get j (rowsFrom l i t) = if i ≤ j ∧ j < i + l.length then l[j - i]? else RT.get j t
  | [], i, t, j, h1, h2 => by
    rw [if_neg (fun h => by have h2 := h.2; have h1 := h.1; simp only [List.length_nil] at h2; omega)]; rfl
  | r :: l, i, t, j, h1, h2 => by
    have h1' : i + (l.length + 1) ≤ 4 ^ RD := h1
    show RT.get j (rowsFrom l (i + 1) (RT.set i r t)) = _
    rw [rowsFrom_get l (i + 1) _ j (by omega) h2, RT.get_set i j (by omega) h2]
    simp only [List.length_cons]
    by_cases h : i = j
    · subst h
      rw [if_neg (by omega), if_pos rfl, if_pos (by omega)]
      simp
    · by_cases g : i + 1 ≤ j ∧ j < i + 1 + l.length
      · rw [if_pos g, if_pos (by omega), show j - i = (j - (i + 1)) + 1 by omega]
        simp
      · rw [if_neg g, if_neg h, if_neg (by omega)]
theorem rowsL_get {l : List (List AV)} (h : l.length ≤ 4 ^ RD) {j : Nat} (hj : j < 4 ^ RD) : RT.get j (rowsL l) = l[j]? := by
  unfold rowsL
  rw [rowsFrom_get l 0 _ j (by omega) hj]
  by_cases g : j < l.length
  · rw [if_pos (by omega)]; simp
  · rw [if_neg (by omega), RT.get_e, List.getElem?_eq_none (by omega)]
/-- one value says what another one says -/
def VLe (ν : Nu) (a b : AV) : Prop := ∀ φ v, VR φ ν a v → VR φ ν b v
inductive RLe (ν : Nu) : List AV → List AV → Prop
  | nil : RLe ν [] []
  | cons {a b : AV} {l m : List AV} : VLe ν a b → RLe ν l m → RLe ν (a :: l) (b :: m)
inductive TLe (ν : Nu) : List (List AV) → List (List AV) → Prop
  | nil : TLe ν [] []
  | cons {a b : List AV} {l m : List (List AV)} : RLe ν a b → TLe ν l m → TLe ν (a :: l) (b :: m)
theorem VLe.refl {ν : Nu} (a : AV) : VLe ν a a := fun _ _ h => h
theorem RLe.refl {ν : Nu} : ∀ l : List AV, RLe ν l l
  | [] => .nil
  | a :: l => .cons (.refl a) (RLe.refl l)
theorem TLe.refl {ν : Nu} : ∀ l : List (List AV), TLe ν l l
  | [] => .nil
  | a :: l => .cons (.refl a) (TLe.refl l)
theorem RLe.getD {ν : Nu} : ∀ {l m : List AV}, RLe ν l m → ∀ k, VLe ν (l.getD k .unk) (m.getD k .unk)
  | _, _, .nil, k => by simp; exact .refl _
  | _, _, .cons h t, 0 => by simpa using h
  | _, _, .cons h t, k + 1 => by simpa using t.getD k
theorem TLe.length {ν : Nu} : ∀ {l m : List (List AV)}, TLe ν l m → l.length = m.length
  | _, _, .nil => rfl
  | _, _, .cons h t => by simp [t.length]
theorem TLe.get {ν : Nu} : ∀ {l m : List (List AV)}, TLe ν l m → ∀ (k : Nat), match l[k]?, m[k]? with
    | some a, some b => RLe ν a b
    | none, none => True
    | _, _ => False
  | _, _, .nil, k => by simp
  | _, _, .cons h t, 0 => by simpa using h
  | _, _, .cons h t, k + 1 => by simpa using t.get k
theorem TLe.cell {ν : Nu} {l m : List (List AV)} (h : TLe ν l m) (hl : l.length ≤ 4 ^ RD) {s j : Nat} (hj : j / s < 4 ^ RD) : VLe ν (cellAt s (rowsL l) j) (cellAt s (rowsL m) j) := by
  unfold cellAt
  rw [rowsL_get hl hj, rowsL_get (by rw [← h.length]; exact hl) hj]
  have := h.get (j / s)
  generalize l[j / s]? = x at this
  generalize m[j / s]? = y at this
  match x, y, this with
  | some a, some b, h => exact h.getD _
  | none, none, _ => exact .refl _
theorem BR.rows {φ : Phi} {ν : Nu} {w : World} {id s n lw fz : Nat} {opn : Bool} {el : TypeId} {l m : List (List AV)} (h : TLe ν l m) (hl : l.length ≤ 4 ^ RD) (hn : n ≤ s * 4 ^ RD)
    (hb : BR φ ν w id (.cells s n lw fz opn el (rowsL l))) : BR φ ν w id (.cells s n lw fz opn el (rowsL m)) := by
  obtain ⟨_, g1, g2, g3⟩ := hb
  refine ⟨trivial, g1, g2, fun ver p hp => ?_⟩
  obtain ⟨a1, a2, a3⟩ := g3 ver p hp
  refine ⟨a1, a2, fun hl' => ?_⟩
  obtain ⟨c, fr, e1, e2, e3, e4, e5, e6⟩ := a3 hl'
  refine ⟨c, fr, e1, e2, e3, fun j hj => ?_, e5, e6⟩
  obtain ⟨v, v1, v2, v3⟩ := e4 j hj
  exact ⟨v, v1, v2, h.cell hl (Nat.div_lt_of_lt_mul (Nat.lt_of_lt_of_le (Nat.lt_of_lt_of_le hj a1) hn)) _ _ v3⟩
end
end Go.Abs
namespace Go.Proofs.YtpmknbclidomjaaGreatDoor
open Go Go.Abs
set_option maxRecDepth 100000
set_option maxHeartbeats 0
open Go.RowKit (Below)
theorem rem_ok (t : TypeId) (w : World) (x c : Int) (hx : 0 ≤ x) (hx2 : x ≤ 255) (hc : 0 < c) (hc2 : c ≤ 255) : (binOp .rem t (.int .u8 x) (.int .u8 c)).run Tryz.prog w = .ok (.int .u8 (x % c)) w := by
  have h1 : ¬ (c = 0) := by omega
  simp [binOp, Op.intDiv, h1, Int.tmod_eq_emod_of_nonneg hx]
theorem quo_ok (t : TypeId) (w : World) (x c : Int) (hx : 0 ≤ x) (hx2 : x ≤ 255) (hc : 0 < c) (hc2 : c ≤ 255) : (binOp .quo t (.int .u8 x) (.int .u8 c)).run Tryz.prog w = .ok (.int .u8 (x / c)) w := by
  have h1 : ¬ (c = 0) := by omega
  have h2 : 0 ≤ x / c := Int.ediv_nonneg hx (by omega)
  have h3 : x / c ≤ x := Int.ediv_le_self c hx
  have h4 : IntKind.u8.wrap (x / c) = x / c := Go.Abs.wrap_small IntKind.u8 _ (by simp [loK]; omega) (by simp [hiK]; omega)
  simp [binOp, Op.intDiv, h1, Int.tdiv_eq_ediv_of_nonneg hx, h4]
theorem sym_nil {ν : Nu} : SymOk Tryz.prog ν [] := fun q hq => by cases hq

/-! ### what the world holds -/
theorem shaped_at {W : World} (h : W.ShapedOpen Tryz.prog) (g : Nat) (t : TypeId) (hg : g < Tryz.prog.globals.size) (h0 : (((begin Tryz.prog (fun _ _ => 0) default).world.heap[g]?).bind Obj.row?).map (·.2) = some t) :
    ∃ cs, W.heap[g]? = some (.cells cs t) := by
  obtain ⟨⟨zero, t'⟩, hz, rfl⟩ := Option.map_eq_some_iff.1 h0
  obtain ⟨cs, hc, _⟩ := h.1 g zero t' hg hz
  exact ⟨cs, hc⟩
theorem obj_of {W : World} {name : String} {g : Nat} {k : IntKind} {zs : List Int} {cs : Array Value} {t : TypeId} {fr : Nat × Nat} (hn : Tryz.prog.globalNamed name = some g) (hh : W.heap[g]? = some (.cells cs t fr)) (hT : Lib.TabIs Tryz.prog W name k zs) :
    cs = (zs.map fun z => Value.int k z).toArray := by
  unfold Lib.TabIs World.var? at hT
  rw [hn] at hT
  simpa [hh] using hT
/-- the blocks that the run reads -/
structure Facts (W : World) : Prop where
  gA : ∃ fr, W.heap[0]? = some (.cells (Lib.asciiSpaceTab.map fun z => Value.int .u8 z).toArray 92 fr)
  gM : ∃ m fr, W.heap[2]? = some (.cells #[.int .i64 m] 3 fr)
  t0 : ∃ fr, W.heap[5]? = some ((⟨5, [36, 43, 45], 410⟩ : Gl).obj fr)
  t1 : ∃ fr, W.heap[7]? = some ((⟨7, [63, 15, 63, 15, 61, 61], 470⟩ : Gl).obj fr)
theorem named0 : Tryz.prog.globalNamed "strings.asciiSpace" = some 0 := by kernel_rfl
theorem globsW : Tryz.prog.globals.size = 15 := by kernel_rfl
theorem nu_of {W : World} (hF : Facts W) (X : List (Nat × Obj)) (hX : ∀ b o, (b, o) ∈ X → W.heap[b]? = some o) : ∃ G : List (Nat × Obj), (∀ b o, (b, o) ∈ G → W.heap[b]? = some o) ∧ (∀ f V, TabCell Tryz.prog ⟨f, G, V⟩ "strings.asciiSpace" .u8 Lib.asciiSpaceTab) ∧ (∀ f V, IntCell ⟨f, G, V⟩ 2) ∧
    (∀ q ∈ gls, ∃ fr, (q.g, q.obj fr) ∈ G) ∧ ∀ q ∈ X, q ∈ G := by
  obtain ⟨⟨f0, h0⟩, ⟨m, f3, h3⟩, ⟨e0, k0⟩, ⟨e1, k1⟩⟩ := hF
  refine ⟨(0, Obj.cells (Lib.asciiSpaceTab.map fun z => Value.int .u8 z).toArray 92 f0) :: (2, Obj.cells #[.int .i64 m] 3 f3) :: (5, (⟨5, [36, 43, 45], 410⟩ : Gl).obj e0) :: (7, (⟨7, [63, 15, 63, 15, 61, 61], 470⟩ : Gl).obj e1) :: X, fun b o hb => ?_, fun f _ => ⟨0, 92, f0, named0, ?_⟩, fun f _ => ⟨m, 3, f3, ?_⟩, fun q hq => ?_, fun q hq => List.mem_cons_of_mem _ (List.mem_cons_of_mem _ (List.mem_cons_of_mem _ (List.mem_cons_of_mem _ hq)))⟩
  rotate_left
  · exact List.mem_cons_self
  · exact List.mem_cons_of_mem _ List.mem_cons_self
  · simp only [gls, List.mem_cons, List.mem_nil_iff, or_false] at hq
    rcases hq with rfl | rfl
    · exact ⟨e0, List.mem_cons_of_mem _ (List.mem_cons_of_mem _ (List.mem_cons_self))⟩
    · exact ⟨e1, List.mem_cons_of_mem _ (List.mem_cons_of_mem _ (List.mem_cons_of_mem _ (List.mem_cons_self)))⟩
  · simp only [List.mem_cons, Prod.mk.injEq] at hb
    rcases hb with ⟨rfl, rfl⟩ | ⟨rfl, rfl⟩ | ⟨rfl, rfl⟩ | ⟨rfl, rfl⟩ | hb
    · exact h0
    · exact h3
    · exact k0
    · exact k1
    · exact hX b o hb
theorem hs_HR {ν : Nu} (hG : ∀ q ∈ gls, ∃ fr, (q.g, q.obj fr) ∈ ν.G) {w : World} (hw : ∀ b o, (b, o) ∈ ν.G → w.heap[b]? = some o) : HR (phiOf gls) ν hs w := by
  refine h0_HR (by decide) ?_ ?_ ?_ ?_ hG hw
  · intro q hq; simp only [gls, List.mem_cons, List.mem_nil_iff, or_false] at hq; rcases hq with rfl | rfl <;> decide
  · intro q hq; simp only [gls, List.mem_cons, List.mem_nil_iff, or_false] at hq; rcases hq with rfl | rfl <;> decide
  · decide +kernel
  · intro g hg
    unfold gver at hg
    cases hb0 : Nat.beq g 5 with
    | true =>
      have e := Nat.eq_of_beq_eq_true hb0
      subst e
      exact ⟨⟨5, [36, 43, 45], 410⟩, by simp [gls], rfl, rfl⟩
    | false =>
      first | rw [hb0, cond_false] at hg | rw [cond_false] at hg
      cases hb1 : Nat.beq g 7 with
      | true =>
        have e := Nat.eq_of_beq_eq_true hb1
        subst e
        exact ⟨⟨7, [63, 15, 63, 15, 61, 61], 470⟩, by simp [gls], rfl, rfl⟩
      | false =>
        first | rw [hb1, cond_false] at hg | rw [cond_false] at hg
        exact absurd hg (Nat.lt_irrefl 0)
theorem phi_lim : ∀ id ver p, phiOf gls id ver = some p → id < hs.ro.lim := by
  intro id ver p h
  obtain ⟨q, hq, h1, _, _⟩ := phiOf_some h
  simp only [gls, List.mem_cons, List.mem_nil_iff, or_false] at hq
  show id < 16
  rw [← h1]
  rcases hq with rfl | rfl <;> decide
theorem phi_in {ν : Nu} (hG : ∀ q ∈ gls, ∃ fr, (q.g, q.obj fr) ∈ ν.G) : ∀ id ver p, phiOf gls id ver = some p → ∃ o, (p.blk, o) ∈ ν.G := by
  intro id ver p h
  obtain ⟨q, hq, h1, h2, rfl⟩ := phiOf_some h
  obtain ⟨fr, hm⟩ := hG q hq
  exact ⟨_, hm⟩

/-! ### the runs, put to use -/
/-- what the kernel ran, but for the cases -/
structure Stages : Prop where
  words : runW = true
  s2_true : run2_true = true
  s3_tabPic : run3_tabPic = true
  s4_tabName : run4_tabName = true
  s5_prg : run5_prg = true
  s6_tf0 : run6_tf0 = true
  s6_tf1 : run6_tf1 = true
  s6_tf2 : run6_tf2 = true
  s6_tf3 : run6_tf3 = true
  s6_tf4 : run6_tf4 = true
  s6_tf5 : run6_tf5 = true
  s7_pf0 : run7_pf0 = true
  s7_pf1 : run7_pf1 = true
  s7_pf2 : run7_pf2 = true
  s7_pf3 : run7_pf3 = true
  s7_pf4 : run7_pf4 = true
  s7_pf5 : run7_pf5 = true
  s8_sc0 : run8_sc0 = true
  s8_sc1 : run8_sc1 = true
  s8_sc2 : run8_sc2 = true
  s8_sc3 : run8_sc3 = true
  s8_sc4 : run8_sc4 = true
  s8_sc5 : run8_sc5 = true
theorem tab1_ok {ν : Nu} (ht : TblOk Tryz.prog ν tab0) (h3 : IntCell ν 2) (hG : ∀ q ∈ gls, ∃ fr, (q.g, q.obj fr) ∈ ν.G) (R : Stages) : TblOk Tryz.prog ν tab1 := by
  obtain ⟨t', ht', h⟩ := mkTblZ_true noNG sym_nil (splitOk h3) fnsW_ok ht R.words
  unfold tab1
  exact ht.set (f := 271) (by omega) (FnGood.closed_map ht' h (fun w hw => hs_HR hG hw) phi_lim)
theorem tab2_ok {ν : Nu} (ht : TblOk Tryz.prog ν tab1) (h3 : IntCell ν 2) (hG : ∀ q ∈ gls, ∃ fr, (q.g, q.obj fr) ∈ ν.G) (R : Stages) : TblOk Tryz.prog ν tab2 := by
  obtain ⟨t', ht', h⟩ := mkTblZ_true noNG sym_nil (splitOk h3) fnsL_ok ht R.s2_true
  unfold tab2
  exact ht.set (f := 4) (by omega) (FnGood.closed_true ht' h (fun w hw => hs_HR hG hw) phi_lim)
theorem tab3_ok {ν : Nu} (ht : TblOk Tryz.prog ν tab2) (h3 : IntCell ν 2) (hG : ∀ q ∈ gls, ∃ fr, (q.g, q.obj fr) ∈ ν.G) (R : Stages) : TblOk Tryz.prog ν tab3 := by
  obtain ⟨t', ht', h⟩ := mkTblZ_true noNG sym_nil (splitOk h3) fnsPi_ok ht R.s3_tabPic
  unfold tab3
  exact ht.set (f := 71) (by omega) (FnGood.strTab ht' (by kernel_rfl) h (fun w hw => hs_HR hG hw) phi_lim failD_good)
theorem tab4_ok {ν : Nu} (ht : TblOk Tryz.prog ν tab3) (h3 : IntCell ν 2) (hG : ∀ q ∈ gls, ∃ fr, (q.g, q.obj fr) ∈ ν.G) (R : Stages) : TblOk Tryz.prog ν tab4 := by
  obtain ⟨t', ht', h⟩ := mkTblZ_true noNG sym_nil (splitOk h3) fnsEn_ok ht R.s4_tabName
  unfold tab4
  exact ht.set (f := 118) (by omega) (FnGood.strTab ht' (by kernel_rfl) h (fun w hw => hs_HR hG hw) phi_lim failD_good)
theorem tab5_ok {ν : Nu} (ht : TblOk Tryz.prog ν tab4) (h3 : IntCell ν 2) (hG : ∀ q ∈ gls, ∃ fr, (q.g, q.obj fr) ∈ ν.G) (R : Stages) : TblOk Tryz.prog ν tab5 := by
  obtain ⟨u0, hu0, e0⟩ := mkTblZ_true noNG sym_nil (splitOk h3) fnsPr_ok ht R.s5_prg
  unfold tab5
  exact ht.set (f := 5) (by omega) (FnGood.memo2 hu0 prg e0 (fun w hw => hs_HR hG hw) (phi_in hG) (by decide +kernel) (by decide +kernel) (by decide +kernel) failD_good)
theorem tab6_ok {ν : Nu} (ht : TblOk Tryz.prog ν tab5) (h3 : IntCell ν 2) (hG : ∀ q ∈ gls, ∃ fr, (q.g, q.obj fr) ∈ ν.G) (R : Stages) : TblOk Tryz.prog ν tab6 := by
  obtain ⟨u0, hu0, e0⟩ := mkTblZ_true noNG sym_nil (splitOk h3) fnsTo_ok ht R.s6_tf0
  obtain ⟨u1, hu1, e1⟩ := mkTblZ_true noNG sym_nil (splitOk h3) fnsTo_ok ht R.s6_tf1
  obtain ⟨u2, hu2, e2⟩ := mkTblZ_true noNG sym_nil (splitOk h3) fnsTo_ok ht R.s6_tf2
  obtain ⟨u3, hu3, e3⟩ := mkTblZ_true noNG sym_nil (splitOk h3) fnsTo_ok ht R.s6_tf3
  obtain ⟨u4, hu4, e4⟩ := mkTblZ_true noNG sym_nil (splitOk h3) fnsTo_ok ht R.s6_tf4
  obtain ⟨u5, hu5, e5⟩ := mkTblZ_true noNG sym_nil (splitOk h3) fnsTo_ok ht R.s6_tf5
  unfold tab6
  exact ht.set (f := 6) (by omega) (FnGood.memo2 hu0 tf0 e0 (fun w hw => hs_HR hG hw) (phi_in hG) (by decide +kernel) (by decide +kernel) (by decide +kernel) (FnGood.memo2 hu1 tf1 e1 (fun w hw => hs_HR hG hw) (phi_in hG) (by decide +kernel) (by decide +kernel) (by decide +kernel) (FnGood.memo2 hu2 tf2 e2 (fun w hw => hs_HR hG hw) (phi_in hG) (by decide +kernel) (by decide +kernel) (by decide +kernel) (FnGood.memo2 hu3 tf3 e3 (fun w hw => hs_HR hG hw) (phi_in hG) (by decide +kernel) (by decide +kernel) (by decide +kernel) (FnGood.memo2 hu4 tf4 e4 (fun w hw => hs_HR hG hw) (phi_in hG) (by decide +kernel) (by decide +kernel) (by decide +kernel) (FnGood.memo2 hu5 tf5 e5 (fun w hw => hs_HR hG hw) (phi_in hG) (by decide +kernel) (by decide +kernel) (by decide +kernel) failD_good))))))
theorem tab7_ok {ν : Nu} (ht : TblOk Tryz.prog ν tab6) (h3 : IntCell ν 2) (hG : ∀ q ∈ gls, ∃ fr, (q.g, q.obj fr) ∈ ν.G) (R : Stages) : TblOk Tryz.prog ν tab7 := by
  obtain ⟨u0, hu0, e0⟩ := mkTblZ_true noNG sym_nil (splitOk h3) fnsPa_ok ht R.s7_pf0
  obtain ⟨u1, hu1, e1⟩ := mkTblZ_true noNG sym_nil (splitOk h3) fnsPa_ok ht R.s7_pf1
  obtain ⟨u2, hu2, e2⟩ := mkTblZ_true noNG sym_nil (splitOk h3) fnsPa_ok ht R.s7_pf2
  obtain ⟨u3, hu3, e3⟩ := mkTblZ_true noNG sym_nil (splitOk h3) fnsPa_ok ht R.s7_pf3
  obtain ⟨u4, hu4, e4⟩ := mkTblZ_true noNG sym_nil (splitOk h3) fnsPa_ok ht R.s7_pf4
  obtain ⟨u5, hu5, e5⟩ := mkTblZ_true noNG sym_nil (splitOk h3) fnsPa_ok ht R.s7_pf5
  unfold tab7
  exact ht.set (f := 51) (by omega) (FnGood.memo2 hu0 pf0 e0 (fun w hw => hs_HR hG hw) (phi_in hG) (by decide +kernel) (by decide +kernel) (by decide +kernel) (FnGood.memo2 hu1 pf1 e1 (fun w hw => hs_HR hG hw) (phi_in hG) (by decide +kernel) (by decide +kernel) (by decide +kernel) (FnGood.memo2 hu2 pf2 e2 (fun w hw => hs_HR hG hw) (phi_in hG) (by decide +kernel) (by decide +kernel) (by decide +kernel) (FnGood.memo2 hu3 pf3 e3 (fun w hw => hs_HR hG hw) (phi_in hG) (by decide +kernel) (by decide +kernel) (by decide +kernel) (FnGood.memo2 hu4 pf4 e4 (fun w hw => hs_HR hG hw) (phi_in hG) (by decide +kernel) (by decide +kernel) (by decide +kernel) (FnGood.memo2 hu5 pf5 e5 (fun w hw => hs_HR hG hw) (phi_in hG) (by decide +kernel) (by decide +kernel) (by decide +kernel) failD_good))))))
theorem tab8_ok {ν : Nu} (ht : TblOk Tryz.prog ν tab7) (h3 : IntCell ν 2) (hG : ∀ q ∈ gls, ∃ fr, (q.g, q.obj fr) ∈ ν.G) (R : Stages) : TblOk Tryz.prog ν tab8 := by
  obtain ⟨u0, hu0, e0⟩ := mkTblZ_true noNG sym_nil (splitOk h3) fnsSc_ok ht R.s8_sc0
  obtain ⟨u1, hu1, e1⟩ := mkTblZ_true noNG sym_nil (splitOk h3) fnsSc_ok ht R.s8_sc1
  obtain ⟨u2, hu2, e2⟩ := mkTblZ_true noNG sym_nil (splitOk h3) fnsSc_ok ht R.s8_sc2
  obtain ⟨u3, hu3, e3⟩ := mkTblZ_true noNG sym_nil (splitOk h3) fnsSc_ok ht R.s8_sc3
  obtain ⟨u4, hu4, e4⟩ := mkTblZ_true noNG sym_nil (splitOk h3) fnsSc_ok ht R.s8_sc4
  obtain ⟨u5, hu5, e5⟩ := mkTblZ_true noNG sym_nil (splitOk h3) fnsSc_ok ht R.s8_sc5
  unfold tab8
  exact ht.set (f := 53) (by omega) (FnGood.memo0 hu0 sc0 e0 (fun w hw => hs_HR hG hw) (phi_in hG) (by decide +kernel) (FnGood.memo0 hu1 sc1 e1 (fun w hw => hs_HR hG hw) (phi_in hG) (by decide +kernel) (FnGood.memo0 hu2 sc2 e2 (fun w hw => hs_HR hG hw) (phi_in hG) (by decide +kernel) (FnGood.memo0 hu3 sc3 e3 (fun w hw => hs_HR hG hw) (phi_in hG) (by decide +kernel) (FnGood.memo0 hu4 sc4 e4 (fun w hw => hs_HR hG hw) (phi_in hG) (by decide +kernel) (FnGood.memo0 hu5 sc5 e5 (fun w hw => hs_HR hG hw) (phi_in hG) (by decide +kernel) failD_good))))))
theorem tabF_ok {ν : Nu} (h0 : TabCell Tryz.prog ν "strings.asciiSpace" .u8 Lib.asciiSpaceTab) (h3 : IntCell ν 2) (hG : ∀ q ∈ gls, ∃ fr, (q.g, q.obj fr) ∈ ν.G) (R : Stages) : TblOk Tryz.prog ν tab8 :=
  (tab8_ok (tab7_ok (tab6_ok (tab5_ok (tab4_ok (tab3_ok (tab2_ok (tab1_ok (tab0_ok h0 h3) h3 hG R) h3 hG R) h3 hG R) h3 hG R) h3 hG R) h3 hG R) h3 hG R) h3 hG R)
/-- a run by a table that is good, put to use -/
theorem run_said {f : Nat → Int} {G : List (Nat × Obj)} {V : Nat → Value} {t : T4 FnD TD} (ht : TblOk Tryz.prog ⟨f, G, V⟩ t) (g4 : ∀ q ∈ gls, ∃ fr, (q.g, q.obj fr) ∈ G) {W : World} (g1 : ∀ b o, (b, o) ∈ G → W.heap[b]? = some o) {avs : List AV} {vs : List Value} (hv : VRs (phiOf gls) ⟨f, G, V⟩ avs vs)
    (h : runF t 60 3 avs hs isTrueK (fun _ _ => false) = true) : Calls Tryz.prog 3 vs.toArray W fun e w' => e = .returned (.bool true) ∧ Below W.heap.size W w' := by
  have hr := hs_HR (ν := ⟨f, G, V⟩) g4 (w := W) g1
  have hco := runF_ok ht 60 3 _ hs isTrueK (fun _ _ => false) h (phiOf gls) W vs hr hv
  have key : ∀ e w', FPost (phiOf gls) ⟨f, G, V⟩ hs.ro W hs.ds isTrueK (fun _ _ => false) e w' → e = .returned (.bool true) ∧ Below W.heap.size W w' := by
    intro e w' hp
    cases e with
    | returned x =>
      obtain ⟨φ', av, h', hvr, hr', hx, _, _, hav⟩ := hp
      obtain ⟨b, e2, hb2⟩ := vBool_true (show vBool av (fun b => b) = true from hav)
      subst e2 hb2
      cases hvr
      exact ⟨rfl, below_of_ext hx phi_lim⟩
    | panicked chain =>
      obtain ⟨φ', av, h', v, _, _, _, _, _, _, hav⟩ := hp
      cases hav
    | outgrown => exact hp.elim
  rcases hco with ⟨_, h2⟩ | ⟨x, w', h2, _⟩
  · exact h2.mono key
  · exfalso
    have hb : hasBody Tryz.prog 3 = true := by kernel_rfl
    rw [hasBody_true hb] at h2
    cases h2
theorem inf_of {t n : Nat} (h : (Tryz.prog.info? t).map (·.size) = some n) : ∃ i, Tryz.prog.info? t = some i ∧ i.size = n := Option.map_eq_some_iff.1 h
theorem dig_ex (d : Nat → Nat) (hd : ∀ i, d i < 3) : ∀ n, ∃ m, m < 3 ^ n ∧ ∀ i, i < n → dig m i = d i
  | 0 => ⟨0, by decide, fun i h => by omega⟩
  | n + 1 => by
    obtain ⟨m, h1, h2⟩ := dig_ex d hd n
    have hp : 0 < 3 ^ n := Nat.pow_pos (by decide)
    refine ⟨m + d n * 3 ^ n, ?_, fun i hi => ?_⟩
    · have := hd n
      have h3 : d n * 3 ^ n ≤ 2 * 3 ^ n := Nat.mul_le_mul_right _ (by omega)
      rw [Nat.pow_succ]
      omega
    · show (m + d n * 3 ^ n) / 3 ^ i % 3 = d i
      by_cases q : i < n
      · have e := h2 i q
        have e1 : 3 ^ n = 3 ^ i * (3 * 3 ^ (n - i - 1)) := by
          rw [← Nat.pow_succ', ← Nat.pow_add, show i + (n - i - 1).succ = n by omega]
        rw [e1, show d n * (3 ^ i * (3 * 3 ^ (n - i - 1))) = 3 ^ i * (3 * (d n * 3 ^ (n - i - 1))) by
          rw [Nat.mul_left_comm, Nat.mul_left_comm (d n) 3], Nat.add_mul_div_left _ _ (Nat.pow_pos (by decide)), Nat.add_mul_mod_self_left]
        exact e
      · have : i = n := by omega
        subst this
        rw [Nat.add_mul_div_right _ _ hp, Nat.div_eq_of_lt h1, Nat.zero_add, Nat.mod_eq_of_lt (hd i)]
/-- what the kernel ran -/
structure Runs : Prop extends Stages where
  big : runBig = true
  shapes : ∀ n < 6, ∀ m < 3 ^ n, shape n m = true
  ents : ∀ k < 5, entsRun (6 * k) 6 = true
  lay : ∀ r < 16, layRun r = true
/-! ### what is looked at is what is meant -/
theorem layGK_eq (R : Nat) (L : List (AV × AV)) (k : Memo2 → Bool) : layGK R L k = k (layG R L) := by
  unfold layGK
  simp only [forceN_eq, rowsLK_eq, tri3K_eq]
  rfl
theorem cntK_eq : ∀ (l : List (Nat × Nat)) (k : Nat → Bool), cntK l k = k l.length
  | [], k => rfl
  | _ :: l, k => by
    show cntK l (fun n => forceN (Nat.succ n) k) = _
    rw [cntK_eq l]
    exact forceN_eq _ _
theorem layK_eq (n m : Nat) (k : Memo2 → Bool) : layK n m k = k (layM n m) := by
  unfold layK layM
  rw [cntK_eq, layGK_eq]
theorem rulesIK_eq (m : Nat) : ∀ (n : Nat) (k : List Rule → Bool), rulesIK m n k = k (rulesI m n)
  | 0, k => rfl
  | n + 1, k => by
    show rulesIK m n (fun l => forceN (dig m n) fun d => forceN (Nat.add 1001 n) fun a => k (.ix .u8 1000 22 n a :: .ld .u8 a 5 (.sym .u8 n) :: .mk .rem .u8 n .u8 3 (.int .u8 (.ofNat d)) :: l)) = _
    rw [rulesIK_eq m n]
    simp only [forceN_eq]
    rfl
/-! ### records and their names -/
theorem recI_mem {i d : Nat} {tl : List (Nat × Nat)} {q : Nat × Nat} (h : q ∈ recI i d tl) : (q.1 = i ∧ q.2 < 3) ∨ q ∈ tl := by
  match d, h with
  | 0, h =>
    have h : q ∈ (i, 0) :: tl := h
    simp only [List.mem_cons] at h
    rcases h with rfl | h
    · exact .inl ⟨rfl, by show 0 < 3; omega⟩
    · exact .inr h
  | 1, h =>
    have h : q ∈ (i, 0) :: (i, 1) :: tl := h
    simp only [List.mem_cons] at h
    rcases h with rfl | rfl | h
    · exact .inl ⟨rfl, by show 0 < 3; omega⟩
    · exact .inl ⟨rfl, by show 1 < 3; omega⟩
    · exact .inr h
  | d + 2, h =>
    have h : q ∈ (i, 0) :: (i, 1) :: (i, 2) :: tl := h
    simp only [List.mem_cons] at h
    rcases h with rfl | rfl | rfl | h
    · exact .inl ⟨rfl, by show 0 < 3; omega⟩
    · exact .inl ⟨rfl, by show 1 < 3; omega⟩
    · exact .inl ⟨rfl, by show 2 < 3; omega⟩
    · exact .inr h
theorem recI_len (i d : Nat) (tl : List (Nat × Nat)) : (recI i d tl).length ≤ tl.length + 3 := by
  match d with
  | 0 => show tl.length + 1 ≤ _; omega
  | 1 => show tl.length + 1 + 1 ≤ _; omega
  | d + 2 => show tl.length + 1 + 1 + 1 ≤ _; omega
theorem recs_lt {m : Nat} : ∀ (j i : Nat), i + j ≤ 5 → ∀ q ∈ recs m j i, q.1 < 5 ∧ q.2 < 3
  | 0, i, _, q, h => by cases h
  | j + 1, i, hij, q, h => by
    have h : q ∈ recI i (dig m i) (recs m j (i + 1)) := h
    rcases recI_mem h with ⟨h1, h2⟩ | h
    · exact ⟨by omega, h2⟩
    · exact recs_lt j (i + 1) (by omega) q h
theorem recs_len {m : Nat} : ∀ (j i : Nat), (recs m j i).length ≤ 3 * j
  | 0, i => Nat.le_refl _
  | j + 1, i => by
    have h1 := recI_len i (dig m i) (recs m j (i + 1))
    have h2 := recs_len (m := m) j (i + 1)
    show (recI i (dig m i) (recs m j (i + 1))).length ≤ _
    omega
def nmB (q : Nat × Nat) : ByteArray := ⟨#[82, UInt8.ofNat (48 + q.1), 45, UInt8.ofNat (48 + q.2)]⟩
def nxB (q : Nat × Nat) : ByteArray := ⟨#[82, UInt8.ofNat (48 + q.1), 45, UInt8.ofNat (48 + q.2), 45, 88]⟩
theorem nm_is : ∀ i < 5, ∀ k < 3, IsStr 4 (Nat.add 808267858 (Nat.add (Nat.mul 256 i) (Nat.mul 16777216 k))) (nmB (i, k)) := by unfold IsStr; decide
theorem nx_is : ∀ i < 5, ∀ k < 3, IsStr 6 (Nat.add 96951105040466 (Nat.add (Nat.mul 256 i) (Nat.mul 16777216 k))) (nxB (i, k)) := by unfold IsStr; decide
/-- the symbols from 2100 on stand for the names of records -/
def vR (l : List (Nat × Nat)) (V : Nat → Value) : Nat → Value := fun s => if 2100 ≤ s ∧ s < 2200 then .string (if s % 2 = 0 then nmB (l.getD ((s - 2100) / 2) (0, 0)) else nxB (l.getD ((s - 2100) / 2) (0, 0))) else V s
theorem vR_low {l : List (Nat × Nat)} {V : Nat → Value} {s : Nat} (h : s < 2000) : vR l V s = V s := if_neg (by omega)
section
variable {f : Nat → Int} {G : List (Nat × Obj)} {l : List (Nat × Nat)} {V : Nat → Value}
theorem str_nm {r : Nat} (hr : r < 50) : (⟨f, G, vR l V⟩ : Nu).str (2100 + 2 * r) = nmB (l.getD r (0, 0)) := by
  have e : (⟨f, G, vR l V⟩ : Nu).v (2100 + 2 * r) = .string (nmB (l.getD r (0, 0))) := by
    show vR l V (2100 + 2 * r) = _
    unfold vR
    rw [if_pos (by omega), if_pos (by omega), show (2100 + 2 * r - 2100) / 2 = r by omega]
  unfold Nu.str
  rw [e]
  show (if 9000 ≤ 2100 + 2 * r ∧ _ then (⟨#[65]⟩ : ByteArray) else _) = _
  rw [if_neg fun q => absurd q.1 (by omega)]
theorem str_nx {r : Nat} (hr : r < 49) : (⟨f, G, vR l V⟩ : Nu).str (2101 + 2 * r) = nxB (l.getD r (0, 0)) := by
  have e : (⟨f, G, vR l V⟩ : Nu).v (2101 + 2 * r) = .string (nxB (l.getD r (0, 0))) := by
    show vR l V (2101 + 2 * r) = _
    unfold vR
    rw [if_pos (by omega), if_neg (by omega), show (2101 + 2 * r - 2100) / 2 = r by omega]
  unfold Nu.str
  rw [e]
  show (if 9000 ≤ 2101 + 2 * r ∧ _ then (⟨#[65]⟩ : ByteArray) else _) = _
  rw [if_neg fun q => absurd q.1 (by omega)]
theorem nm_le {r : Nat} (hr : r < 49) {q : Nat × Nat} (hq : l.getD r (0, 0) = q) (h1 : q.1 < 5) (h2 : q.2 < 3) :
    (VLe ⟨f, G, vR l V⟩ (nmOf q).1 (.sym .u8 (Nat.add 2100 (Nat.mul 2 r))) ∧ VLe ⟨f, G, vR l V⟩ (nmOf q).2 (.sym .u8 (Nat.add 2101 (Nat.mul 2 r)))) ∧
    VLe ⟨f, G, vR l V⟩ (.sym .u8 (Nat.add 2100 (Nat.mul 2 r))) (nmOf q).1 ∧ VLe ⟨f, G, vR l V⟩ (.sym .u8 (Nat.add 2101 (Nat.mul 2 r))) (nmOf q).2 := by
  obtain ⟨i, k⟩ := q
  have a1 := nm_is i h1 k h2
  have a2 := nx_is i h1 k h2
  have e1 : (⟨f, G, vR l V⟩ : Nu).val .u8 (2100 + 2 * r) = .string (nmB (i, k)) := by rw [Nu.val_str _ _ (by omega) (.inl (by omega)), str_nm (by omega), hq]
  have e2 : (⟨f, G, vR l V⟩ : Nu).val .u8 (2101 + 2 * r) = .string (nxB (i, k)) := by rw [Nu.val_str _ _ (by omega) (.inl (by omega)), str_nx hr, hq]
  refine ⟨⟨fun φ v hv => ?_, fun φ v hv => ?_⟩, fun φ v hv => ?_, fun φ v hv => ?_⟩
  · have hv : VR φ ⟨f, G, vR l V⟩ (.str 4 (Nat.add 808267858 (Nat.add (Nat.mul 256 i) (Nat.mul 16777216 k)))) v := hv
    cases hv with
    | str hs => exact .sym _ _ (by rw [show Nat.add 2100 (Nat.mul 2 r) = 2100 + 2 * r from rfl, e1, (hs.eq a1).2 ⟨rfl, rfl⟩])
  · have hv : VR φ ⟨f, G, vR l V⟩ (.str 6 (Nat.add 96951105040466 (Nat.add (Nat.mul 256 i) (Nat.mul 16777216 k)))) v := hv
    cases hv with
    | str hs => exact .sym _ _ (by rw [show Nat.add 2101 (Nat.mul 2 r) = 2101 + 2 * r from rfl, e2, (hs.eq a2).2 ⟨rfl, rfl⟩])
  · cases hv with
    | sym _ _ hv =>
      have hv : v = (⟨f, G, vR l V⟩ : Nu).val .u8 (2100 + 2 * r) := hv
      rw [hv, e1]
      exact .str a1
  · cases hv with
    | sym _ _ hv =>
      have hv : v = (⟨f, G, vR l V⟩ : Nu).val .u8 (2101 + 2 * r) := hv
      rw [hv, e2]
      exact .str a2
end
inductive PLe (ν : Nu) : List (AV × AV) → List (AV × AV) → Prop
  | nil : PLe ν [] []
  | cons {a b : AV × AV} {l m : List (AV × AV)} : VLe ν a.1 b.1 → VLe ν a.2 b.2 → PLe ν l m → PLe ν (a :: l) (b :: m)
section
variable {ν : Nu}
theorem eRow1_le {a b : AV} (h : VLe ν a b) : RLe ν (eRow1 a) (eRow1 b) := .cons (.refl _) (.cons h (.refl _))
theorem eRow2_le {a b : AV} (h : VLe ν a b) : RLe ν (eRow2 a) (eRow2 b) := .cons (.refl _) (.cons h (.refl _))
theorem iRow1_le {a b : AV} (h : VLe ν a b) (r : Nat) : RLe ν (iRow1 a r) (iRow1 b r) := .cons h (.refl _)
theorem iRow2_le {a b : AV} (h : VLe ν a b) (r : Nat) : RLe ν (iRow2 a r) (iRow2 b r) := .cons h (.refl _)
theorem eRows_le : ∀ {L M : List (AV × AV)}, PLe ν L M → TLe ν (eRows L) (eRows M)
  | _, _, .nil => .refl _
  | _, _, .cons h1 h2 t => .cons (eRow1_le h1) (.cons (eRow2_le h2) (eRows_le t))
theorem iRows_le {R : Nat} : ∀ {L M : List (AV × AV)} (r : Nat), PLe ν L M → TLe ν (iRows R L r) (iRows R M r)
  | _, _, r, .nil => .refl _
  | _, _, r, .cons h1 h2 t => .cons (iRow1_le h1 r) (.cons (iRow2_le h2 r) (iRows_le (r + 1) t))
theorem eRows_len : ∀ L : List (AV × AV), (eRows L).length = 20 + 2 * L.length
  | [] => rfl
  | q :: L => by
    have h := eRows_len L
    show (eRows L).length + 1 + 1 = 20 + 2 * (L.length + 1)
    omega
theorem iRows_len {R : Nat} : ∀ (L : List (AV × AV)) (r : Nat), (iRows R L r).length = 20 + 2 * L.length
  | [], r => rfl
  | q :: L, r => by
    have h := iRows_len (R := R) L (r + 1)
    show (iRows R L (r + 1)).length + 1 + 1 = 20 + 2 * (L.length + 1)
    omega
theorem nmsOf_len : ∀ l : List (Nat × Nat), (nmsOf l).length = l.length
  | [] => rfl
  | q :: l => by
    show (nmsOf l).length + 1 = l.length + 1
    rw [nmsOf_len l]
theorem symsOf_len : ∀ (R r : Nat), (symsOf R r).length = R
  | 0, r => rfl
  | R + 1, r => by
    show (symsOf R (r + 1)).length + 1 = R + 1
    rw [symsOf_len R]
theorem vrs_le {φ : Phi} : ∀ {l m : List AV} {vs : List Value}, RLe ν l m → VRs φ ν l vs → VRs φ ν m vs
  | _, _, _, .nil, h => h
  | _, _, _, .cons h t, .cons h1 h2 => .cons (h _ _ h1) (vrs_le t h2)
end
section
variable {f : Nat → Int} {G : List (Nat × Obj)} {l : List (Nat × Nat)} {V : Nat → Value}
theorem syms_le : ∀ (t : List (Nat × Nat)) (r : Nat), (∀ k, k < t.length → l.getD (r + k) (0, 0) = t.getD k (0, 0)) → (∀ q ∈ t, q.1 < 5 ∧ q.2 < 3) → r + t.length ≤ 49 →
    PLe ⟨f, G, vR l V⟩ (nmsOf t) (symsOf t.length r) ∧ PLe ⟨f, G, vR l V⟩ (symsOf t.length r) (nmsOf t)
  | [], r, _, _, _ => ⟨.nil, .nil⟩
  | q :: t, r, h, h5, hr => by
    have hr : r + (t.length + 1) ≤ 49 := hr
    have h0 : l.getD r (0, 0) = q := by have := h 0 (by simp); simpa using this
    obtain ⟨q1, q2⟩ := h5 q List.mem_cons_self
    obtain ⟨⟨a1, a2⟩, a3, a4⟩ := nm_le (f := f) (G := G) (V := V) (show r < 49 by omega) h0 q1 q2
    obtain ⟨b1, b2⟩ := syms_le t (r + 1) (fun k hk => by have := h (k + 1) (by simpa using hk); simpa [Nat.add_assoc, Nat.add_comm 1 k] using this) (fun q hq => h5 q (List.mem_cons_of_mem _ hq)) (by omega)
    exact ⟨.cons a1 a2 b1, .cons a3 a4 b2⟩
end
/-! ### entries of records -/
theorem pats_mem : ∀ {n : Nat} {p : List AV}, p ∈ pats n → ∃ r, r < n ∧ (p = [.agg (eRow1 (.sym .u8 (Nat.add 2100 (Nat.mul 2 r))))] ∨ p = [.agg (eRow2 (.sym .u8 (Nat.add 2101 (Nat.mul 2 r))))])
  | 0, p, h => by cases h
  | n + 1, p, h => by
    have h : p ∈ [.agg (eRow1 (.sym .u8 (Nat.add 2100 (Nat.mul 2 n))))] :: [.agg (eRow2 (.sym .u8 (Nat.add 2101 (Nat.mul 2 n))))] :: pats n := h
    simp only [List.mem_cons] at h
    rcases h with h | h | h
    · exact ⟨n, by omega, .inl h⟩
    · exact ⟨n, by omega, .inr h⟩
    · obtain ⟨r, h1, h2⟩ := pats_mem h
      exact ⟨r, by omega, h2⟩
theorem ents_self : (ents30.all fun q => eqRs noB q q) = true := by kernel_rfl
theorem ents_len : ents30.length = 30 := by kernel_rfl
theorem ents_in {i k : Nat} (hi : i < 5) (hk : k < 3) : [.agg (eRow1 (nmOf (i, k)).1)] ∈ ents30 ∧ [.agg (eRow2 (nmOf (i, k)).2)] ∈ ents30 := by
  unfold ents30
  constructor
  · exact List.mem_flatten.2 ⟨_, List.mem_map.2 ⟨i, List.mem_range.2 hi, rfl⟩, List.mem_flatten.2 ⟨_, List.mem_map.2 ⟨k, List.mem_range.2 hk, rfl⟩, List.mem_cons_self⟩⟩
  · exact List.mem_flatten.2 ⟨_, List.mem_map.2 ⟨i, List.mem_range.2 hi, rfl⟩, List.mem_flatten.2 ⟨_, List.mem_map.2 ⟨k, List.mem_range.2 hk, rfl⟩, List.mem_cons_of_mem _ List.mem_cons_self⟩⟩
theorem ents_part {q : List AV} (h : q ∈ ents30) : ∃ k, k < 5 ∧ q ∈ (ents30.drop (6 * k)).take 6 := by
  obtain ⟨i, hi, e⟩ := List.getElem_of_mem h
  rw [ents_len] at hi
  refine ⟨i / 6, by omega, ?_⟩
  refine List.mem_iff_getElem?.2 ⟨i % 6, ?_⟩
  rw [List.getElem?_take, if_pos (Nat.mod_lt _ (by decide)), List.getElem?_drop, show 6 * (i / 6) + i % 6 = i by omega, List.getElem?_eq_getElem (by rw [ents_len]; exact hi), e]
section
variable {W : World} {f : Nat → Int} {G : List (Nat × Obj)} {V : Nat → Value}
/-- the kept call of layouts.Build for a shape -/
theorem lay_good (R : Runs) {n m : Nat} (hn : n < 6) (g3 : IntCell ⟨f, G, vR (recs m n 0) V⟩ 2) (g4 : ∀ q ∈ gls, ∃ fr, (q.g, q.obj fr) ∈ G) (htF : TblOk Tryz.prog ⟨f, G, vR (recs m n 0) V⟩ tab8) :
    FnGood Tryz.prog ⟨f, G, vR (recs m n 0) V⟩ 16 (memoD2 (layM n m) 16 failD) := by
  have hlt : ∀ q ∈ recs m n 0, q.1 < 5 ∧ q.2 < 3 := recs_lt n 0 (by omega)
  have hK := recs_len (m := m) n 0
  obtain ⟨t1, ht1, h⟩ := mkTblZ_true noNG sym_nil (splitOk g3) fnsE_ok htF (R.lay (recs m n 0).length (by omega))
  obtain ⟨d, hd, h⟩ := T4.getK_true _ _ _ _ h
  rw [T4.setK_eq] at h
  have hG := fun w hw => hs_HR (ν := ⟨f, G, vR (recs m n 0) V⟩) g4 (w := w) hw
  have gO : FnGood Tryz.prog ⟨f, G, vR (recs m n 0) V⟩ 66 (oneOfD (pats 15) (mI 0) d) := by
    refine FnGood.oneOf (qs := ents30) (h0 := hs) (φ0 := phiOf gls) (fun q hq => ?_) (fun p hp φ vs hv => ?_) hG phi_lim (ht1 66 d (show 66 < 4096 by omega) hd)
    · obtain ⟨k, hk, hm⟩ := ents_part hq
      obtain ⟨t, ht, h⟩ := mkTblZ_true noNG sym_nil (splitOk g3) fnsE_ok htF (R.ents k hk)
      exact ⟨t, ht, allRuns_true h q hm⟩
    · obtain ⟨r, hr, hp⟩ := pats_mem hp
      obtain ⟨q, hq⟩ : ∃ q, (recs m n 0).getD r (0, 0) = q := ⟨_, rfl⟩
      have h5 : q.1 < 5 ∧ q.2 < 3 := by
        rw [← hq, List.getD]
        by_cases h : r < (recs m n 0).length
        · rw [List.getElem?_eq_getElem h]
          exact hlt _ (List.getElem_mem h)
        · rw [List.getElem?_eq_none (by omega)]
          exact ⟨by show 0 < 5; omega, by show 0 < 3; omega⟩
      obtain ⟨_, b1, b2⟩ := nm_le (f := f) (G := G) (V := V) (show r < 49 by omega) hq h5.1 h5.2
      obtain ⟨c1, c2⟩ := ents_in h5.1 h5.2
      have self : ∀ q ∈ ents30, eqRs noB q q = true := fun q hq => (List.all_eq_true.1 ents_self) q hq
      rcases hp with rfl | rfl
      · refine ⟨_, c1, eqRs_VR (φ := φ) (fun i j hij => by cases hij) (self _ c1) ?_⟩
        cases hv with
        | cons a b =>
          cases b
          cases a with
          | agg x y => exact .cons (.agg (vrs_le (eRow1_le b1) x) y) .nil
      · refine ⟨_, c2, eqRs_VR (φ := φ) (fun i j hij => by cases hij) (self _ c2) ?_⟩
        cases hv with
        | cons a b =>
          cases b
          cases a with
          | agg x y => exact .cons (.agg (vrs_le (eRow2_le b2) x) y) .nil
  obtain ⟨t3, ht3, h⟩ := mkTblZ_true noNG sym_nil (splitOk g3) fnsB_ok (ht1.set (f := 66) (by omega) gO) h
  rw [layGK_eq] at h
  simp only [forceN_eq, tri3K_eq] at h
  obtain ⟨p1, p2⟩ := syms_le (f := f) (G := G) (l := recs m n 0) (V := V) (recs m n 0) 0 (fun k _ => by rw [Nat.zero_add]) hlt (by omega)
  have z1 : (4 : Nat) ^ RD = 4096 := by decide
  have l1 := eRows_len (nmsOf (recs m n 0))
  have l2 := iRows_len (R := (recs m n 0).length) (symsOf (recs m n 0).length 0) 0
  rw [nmsOf_len] at l1
  rw [symsOf_len] at l2
  have hM : FnGood Tryz.prog ⟨f, G, vR (recs m n 0) V⟩ 16 (memoD2 (layA (recs m n 0).length (layM n m)) 16 failD) := by
    refine FnGood.memo2s (n := 60) (gs := gls) ht3 (layA (recs m n 0).length (layM n m)) (a' := (layG (recs m n 0).length (symsOf (recs m n 0).length 0)).args) (i' := (layG (recs m n 0).length (symsOf (recs m n 0).length 0)).ins) (r' := (layG (recs m n 0).length (symsOf (recs m n 0).length 0)).res) (s' := (layG (recs m n 0).length (symsOf (recs m n 0).length 0)).sub) h
      (fun φ vs h => h) rfl (fun i b' hb => ?_) (fun φ v h => h) (fun i b hi hb => ?_) hG (phi_in (ν := ⟨f, G, vR (recs m n 0) V⟩) g4) (by show 16 + 3 ≤ 1024; omega) (by show 3 < 64; omega) (by show 3 ≤ 1024; omega) failD_good
    · match i, hb with
      | 0, hb =>
        have hb : (some (some (eBk (Nat.add 380 (Nat.mul 38 (recs m n 0).length)) (rowsL (eRows (symsOf (recs m n 0).length 0))))) : Option (Option AB)) = some (some b') := hb
        cases hb
        exact ⟨eBk (Nat.add 380 (Nat.mul 38 (recs m n 0).length)) (rowsL (eRows (nmsOf (recs m n 0)))), rfl, fun φ w id h => BR.rows (eRows_le p1) (by rw [l1, z1]; omega) (show 380 + 38 * (recs m n 0).length ≤ 19 * 4 ^ RD by rw [z1]; omega) h⟩
      | 1, hb => exact ⟨b', hb, fun φ w id h => h⟩
      | 2, hb => exact ⟨b', hb, fun φ w id h => h⟩
      | i + 3, hb => cases hb
    · have hb : T4.get 5 i (tri3 (iBk (Nat.add 440 (Nat.mul 44 (recs m n 0).length)) (rowsL (iRows (recs m n 0).length (nmsOf (recs m n 0)) 0))) iB1 iB2) = some b := hb
      show ∃ b', T4.get 5 i (tri3 (iBk (Nat.add 440 (Nat.mul 44 (recs m n 0).length)) (rowsL (iRows (recs m n 0).length (symsOf (recs m n 0).length 0) 0))) iB1 iB2) = some b' ∧ _
      rw [tri3_get _ _ _ hi] at hb ⊢
      by_cases e2 : i = 2
      · rw [if_pos e2] at hb ⊢; exact ⟨b, hb, fun φ w id h => h⟩
      rw [if_neg e2] at hb ⊢
      by_cases e1 : i = 1
      · rw [if_pos e1] at hb ⊢; exact ⟨b, hb, fun φ w id h => h⟩
      rw [if_neg e1] at hb ⊢
      by_cases e0 : i = 0
      · rw [if_pos e0] at hb ⊢
        cases hb
        exact ⟨_, rfl, fun φ w id h => BR.rows (iRows_le 0 p2) (by rw [l2, z1]; omega) (show 440 + 44 * (recs m n 0).length ≤ 22 * 4 ^ RD by rw [z1]; omega) h⟩
      · rw [if_neg e0] at hb; cases hb
  exact hM
end
theorem calls_ex {P : Program} {f : FuncId} {args : Array Value} {w : World} {R : Ending → World → Prop} (h : Calls P f args w R) : ∃ e w', R e w' := by
  obtain ⟨e, w', _, hR, _⟩ := h []
  exact ⟨e, w', hR⟩
/-- a run by a table that is good, put to use; then the next -/
theorem run_next {f : Nat → Int} {G : List (Nat × Obj)} {V : Nat → Value} {t : T4 FnD TD} (ht : TblOk Tryz.prog ⟨f, G, V⟩ t) (g4 : ∀ q ∈ gls, ∃ fr, (q.g, q.obj fr) ∈ G) {W : World} (g1 : ∀ b o, (b, o) ∈ G → W.heap[b]? = some o) {avs : List AV} {vs : List Value} (hv : VRs (phiOf gls) ⟨f, G, V⟩ avs vs) {next : Bool}
    (h : runF t 60 3 avs hs (contK next) (fun _ _ => false) = true) : (Calls Tryz.prog 3 vs.toArray W fun e w' => e = .returned (.bool true) ∧ Below W.heap.size W w') ∧ next = true := by
  have hr := hs_HR (ν := ⟨f, G, V⟩) g4 (w := W) g1
  have hco := runF_ok ht 60 3 _ hs (contK next) (fun _ _ => false) h (phiOf gls) W vs hr hv
  have key : ∀ e w', FPost (phiOf gls) ⟨f, G, V⟩ hs.ro W hs.ds (contK next) (fun _ _ => false) e w' → (e = .returned (.bool true) ∧ Below W.heap.size W w') ∧ next = true := by
    intro e w' hp
    cases e with
    | returned x =>
      obtain ⟨φ', av, h', hvr, hr', hx, _, _, hav⟩ := hp
      obtain ⟨b, e2, hb2⟩ := vBool_true (show vBool av (fun b => Bool.rec (motive := fun _ => Bool) false next b) = true from hav)
      subst e2
      cases b with
      | false => cases hb2
      | true =>
        cases hvr
        exact ⟨⟨rfl, below_of_ext hx phi_lim⟩, hb2⟩
    | panicked chain =>
      obtain ⟨φ', av, h', v, _, _, _, _, _, _, hav⟩ := hp
      cases hav
    | outgrown => exact hp.elim
  rcases hco with ⟨_, h2⟩ | ⟨x, w', h2, _⟩
  · have h3 := h2.mono key
    obtain ⟨e, w', _, hn⟩ := calls_ex h3
    exact ⟨h3.mono fun e w' q => q.1, hn⟩
  · exfalso
    have hb : hasBody Tryz.prog 3 = true := by kernel_rfl
    rw [hasBody_true hb] at h2
    cases h2
/-- the places of a slice's cells -/
def vA (a : Addr) (len cap : Nat) : Nat → Value := fun s => if s = 1000 then .slice (some a) len cap else if s < 2000 then .pointer (some (a.add (s - 1001))) else .nilFunc
def vN : Nat → Value := fun s => if s = 1000 then .slice none 0 0 else .nilFunc
def fF (xs : Nat → Int) (c : Nat) (x y : Int) : Nat → Int := fun s => if s < 16 then xs s else if s = 19 then y else if s = 20 + c then x else ((s - 20 : Nat) : Int)
section
variable {W : World} {G : List (Nat × Obj)}
theorem root_said (R : Runs) (hF : Facts W) {n m : Nat} (hn : n < 6) (hm : m < 3 ^ n) {xs : Nat → Int} (hx : ∀ s, 0 ≤ xs s ∧ xs s ≤ 255) {V : Nat → Value} {z0 z1 : Int} (h0 : 0 ≤ z0 ∧ z0 ≤ 255)
    (X : List (Nat × Obj)) (hX : ∀ b o, (b, o) ∈ X → W.heap[b]? = some o) {a : Option Addr} {len cap : Nat} (hv : V 1000 = .slice a len cap)
    (hS : ∀ f G U, (∀ s, s < 2000 → U s = V s) → (∀ q ∈ X, q ∈ G) → (∀ s, s < 16 → f s = xs s) → SymOk Tryz.prog ⟨f, G, U⟩ (rulesL n m)) :
    Calls Tryz.prog 3 #[.slice a len cap, .agg #[.int .u8 z0, .int .u8 z1]] W fun e w' => e = .returned (.bool true) ∧ Below W.heap.size W w' := by
  obtain ⟨c, ec⟩ : ∃ c : Nat, z0 % 6 = (c : Int) := ⟨(z0 % 6).toNat, by omega⟩
  have hc : c < 6 := by omega
  obtain ⟨f, hfe⟩ : ∃ f, f = fF xs c z0 z1 := ⟨_, rfl⟩
  have hfx : ∀ s, s < 16 → f s = xs s := fun s h => by rw [hfe]; unfold fF; rw [if_pos h]
  have hf19 : f 19 = z1 := by rw [hfe]; rfl
  have hfc : f (20 + c) = z0 := by rw [hfe]; unfold fF; rw [if_neg (by omega), if_neg (by omega), if_pos rfl]
  have hfd : ∀ d, d < 6 → d ≠ c → f (20 + d) = (d : Int) := fun d _ hd => by rw [hfe]; unfold fF; rw [if_neg (by omega), if_neg (by omega), if_neg (by omega), show 20 + d - 20 = d by omega]
  obtain ⟨G, g1, g2, g3, g4, g5⟩ := nu_of hF X hX
  obtain ⟨U, hU⟩ : ∃ U, U = vR (recs m n 0) V := ⟨_, rfl⟩
  have tF := tabF_ok (g2 f U) (g3 f U) g4 R.toStages
  have gL : FnGood Tryz.prog ⟨f, G, U⟩ 16 (memoD2 (layM n m) 16 failD) := by
    subst hU
    exact lay_good R hn (g3 f _) g4 tF
  obtain ⟨t', ht', h⟩ := mkTblZ_true noNG sym_nil (splitOk (g3 f U)) fnsC_ok tF (R.shapes n hn m hm)
  rw [layK_eq, T4.setK_eq] at h
  have t3 := ht'.set (f := 16) (by omega) gL
  have hv' : U 1000 = .slice a len cap := by rw [hU, vR_low (by omega)]; exact hv
  have hSL : SymOk Tryz.prog ⟨f, G, U⟩ (rulesL n m) := hS f G U (fun s hs => by rw [hU]; exact vR_low hs) g5 hfx
  have one : ∀ d, d < 6 → ∀ next : Bool, runC (T4.set TD 16 (memoD2 (layM n m) 16 failD) t') n m d next = true →
      (Calls Tryz.prog 3 #[.slice a len cap, .agg #[.int .u8 (f (20 + d)), .int .u8 z1]] W fun e w' => e = .returned (.bool true) ∧ Below W.heap.size W w') ∧ next = true := by
    intro d hd next h
    unfold runC at h
    rw [rulesIK_eq] at h
    have hfr : 0 ≤ f (20 + d) ∧ f (20 + d) ≤ 255 ∧ f (20 + d) % 6 = (d : Int) := by
      by_cases e : d = c
      · rw [e, hfc]; exact ⟨h0.1, h0.2, ec⟩
      · rw [hfd d hd e]; omega
    have hrules : SymOk Tryz.prog ⟨f, G, U⟩ (.mk .rem .u8 (Nat.add 20 d) .u8 6 (.int .u8 (.ofNat d)) :: .len .u8 1000 22 (.int .i64 (.ofNat n)) :: rulesI m n) := by
      intro q hq
      rcases List.mem_cons.1 hq with rfl | hq
      · exact Rule.rem_ok (show 20 + d < 1000 by omega) hfr.1 hfr.2.1 (by decide) (by decide) hfr.2.2
      · exact hSL q hq
    obtain ⟨t2, ht2, h⟩ := mkTblZ_true noNG hrules (splitOk (g3 f U)) fnsR_ok t3 h
    refine run_next ht2 g4 g1 (vs := [.slice a len cap, .agg #[.int .u8 (f (20 + d)), .int .u8 z1]]) ?_ h
    refine .cons (.sym _ _ (Nu.val_slice (by decide) hv').symm) (.cons (VR.agg (.cons (.sym _ _ ?_) (.cons (.sym _ _ ?_) .nil)) ?_) .nil)
    · show Value.int .u8 (f (20 + d)) = (⟨f, G, U⟩ : Nu).val .u8 (20 + d)
      rw [Nu.val_num _ _ (by omega)]
    · rw [Nu.val_num _ _ (by decide)]; show Value.int .u8 z1 = .int .u8 (f 19); rw [hf19]
    · intro v hv
      simp only [List.mem_cons, List.mem_nil_iff, or_false] at hv
      rcases hv with rfl | rfl <;> rfl
  obtain ⟨k0, h⟩ := one 0 (by decide) _ h
  obtain ⟨k1, h⟩ := one 1 (by decide) _ h
  obtain ⟨k2, h⟩ := one 2 (by decide) _ h
  obtain ⟨k3, h⟩ := one 3 (by decide) _ h
  obtain ⟨k4, h⟩ := one 4 (by decide) _ h
  obtain ⟨k5, _⟩ := one 5 (by decide) _ h
  have hall : ∀ d, d < 6 → Calls Tryz.prog 3 #[.slice a len cap, .agg #[.int .u8 (f (20 + d)), .int .u8 z1]] W fun e w' => e = .returned (.bool true) ∧ Below W.heap.size W w' := fun d hd =>
    match d, hd with
    | 0, _ => k0
    | 1, _ => k1
    | 2, _ => k2
    | 3, _ => k3
    | 4, _ => k4
    | 5, _ => k5
  have := hall c hc
  rw [hfc] at this
  exact this
theorem rulesI_ok {V : Nat → Value} {a : Addr} {len cap n m : Nat} {xs : Nat → Int} {f : Nat → Int} {o : Obj} (v0 : V 1000 = .slice (some a) len cap) (vP : ∀ j, j < 9 → V (1001 + j) = .pointer (some (a.add j))) (hn : n < 6) (hln : n ≤ len) (hx : ∀ s, 0 ≤ xs s ∧ xs s ≤ 255) (hd : ∀ i, i < n → xs i % 3 = (dig m i : Int)) (ho : 0 < n → (a.block, o) ∈ G ∧ W.heap[a.block]? = some o)
    (hc : ∀ j, j < n → W.cell? (a.add j) = some (.int .u8 (xs j))) (hf : ∀ s, s < 16 → f s = xs s) : ∀ i, i ≤ n → SymOk Tryz.prog ⟨f, G, V⟩ (rulesI m i)
  | 0, _ => fun q hq => by cases hq
  | i + 1, hi => by
    obtain ⟨inu, hiu, hsu⟩ := inf_of (t := 5) (n := 1) (by kernel_rfl)
    have vP : ∀ j, j < 9 → (⟨f, G, V⟩ : Nu).v (1001 + j) = .pointer (some (a.add j)) := vP
    have v0 : (⟨f, G, V⟩ : Nu).v 1000 = .slice (some a) len cap := v0
    intro q hq
    have hq : q ∈ Rule.ix .u8 1000 22 i (1001 + i) :: Rule.ld .u8 (1001 + i) 5 (.sym .u8 i) :: Rule.mk .rem .u8 i .u8 3 (.int .u8 (.ofNat (dig m i))) :: rulesI m i := hq
    rcases List.mem_cons.1 hq with rfl | hq
    · exact Rule.ixs_ok (by decide) (by omega) v0 (by omega) (by rw [vP i (by omega), hsu, Nat.mul_one]) Tryz.underlying22 hiu
    rcases List.mem_cons.1 hq with rfl | hq
    · refine Rule.ld1_ok (v := .int .u8 (xs i)) (by omega) (vP i (by omega)) Tryz.underlying5 rfl (fun w hw => ?_) (fun φ => .sym _ _ (by rw [Nu.val_num _ _ (by omega)]; show Value.int .u8 (xs i) = .int .u8 (f i); rw [hf i (by omega)]))
      obtain ⟨h1, h2⟩ := ho (by omega)
      rw [cell?_of_block h2 (hw _ _ h1)]
      exact hc i (by omega)
    rcases List.mem_cons.1 hq with rfl | hq
    · exact Rule.rem_ok (by omega) (show 0 ≤ f i by rw [hf i (by omega)]; exact (hx i).1) (show f i ≤ 255 by rw [hf i (by omega)]; exact (hx i).2) (by decide) (by decide) (show f i % 3 = _ by rw [hf i (by omega)]; exact hd i (by omega))
    · exact rulesI_ok v0 vP hn hln hx hd ho hc hf i (by omega) q hq
end
theorem walk (R : Runs) (v : Value) (z0 z1 : Int) (w0 : (Lit.int .u8 z0).wf = true) (w1 : (Lit.int .u8 z1).wf = true) {W : World} (hp : BytesOk W v) (hF : Facts W) :
    Calls Tryz.prog 3 #[v, .agg #[.int .u8 z0, .int .u8 z1]] W fun e w' => e = .returned (.bool true) ∧ Below W.heap.size W w' := by
  have h0 := lwf w0
  rcases hp with rfl | ⟨a, len, cap, rfl, hc⟩
  · refine root_said R hF (n := 0) (m := 0) (by decide) (by decide) (xs := fun _ => 0) (fun _ => by omega) (V := vN) h0 [] (fun b o h => by cases h) rfl (fun f G U hUV _ _ q hq => ?_)
    have hq : q ∈ [Rule.len .u8 1000 22 (.int .i64 (.ofNat 0))] := hq
    simp only [List.mem_cons, List.mem_nil_iff, or_false] at hq
    subst hq
    exact Rule.len_ok (by decide) (show U 1000 = .slice none 0 0 by rw [hUV 1000 (by omega)]; rfl) Tryz.underlying22 fun φ => VR.int _ _
  by_cases hb : 5 < len
  · obtain ⟨G, g1, g2, g3, g4, _⟩ := nu_of hF [] (fun b o h => by cases h)
    obtain ⟨f, hfe⟩ : ∃ f : Nat → Int, f = fun s => if s = 0 then (len : Int) else if s = 20 then z0 else z1 := ⟨_, rfl⟩
    obtain ⟨V, hVe⟩ : ∃ V : Nat → Value, V = fun _ => .slice (some a) len cap := ⟨_, rfl⟩
    have tF := tabF_ok (g2 f V) (g3 f V) g4 R.toStages
    obtain ⟨t', ht', h⟩ := mkTblZ_true noNG sym_nil (splitOk (g3 f V)) fnsC_ok tF R.big
    have hrules : SymOk Tryz.prog ⟨f, G, V⟩ rulesBig := by
      intro q hq
      simp only [rulesBig, List.mem_cons, List.mem_nil_iff, or_false] at hq
      rcases hq with rfl | rfl
      · exact Rule.len_ok (by decide) (show V 1000 = .slice (some a) len cap by rw [hVe]) Tryz.underlying22 fun φ => .sym _ _ (by rw [Nu.val_num _ _ (by decide)]; show Value.int .i64 _ = .int .i64 (f 0); rw [hfe]; rfl)
      · exact Rule.gtr_ok (by decide) (show (5 : Int) < f 0 by rw [hfe]; show (5 : Int) < (len : Int); omega)
    obtain ⟨t2, ht2, h⟩ := mkTblZ_true noNG hrules (splitOk (g3 f V)) fnsR_ok ht' h
    refine run_said ht2 g4 g1 (vs := [.slice (some a) len cap, .agg #[.int .u8 z0, .int .u8 z1]]) ?_ h
    refine .cons (.sym _ _ (Nu.val_slice (by decide) ?_).symm) (.cons (VR.agg (.cons (.sym _ _ ?_) (.cons (.sym _ _ ?_) .nil)) ?_) .nil)
    · show V 1000 = _; rw [hVe]
    · show Value.int .u8 z0 = (⟨f, G, V⟩ : Nu).val .u8 20
      rw [Nu.val_num _ _ (by decide)]; show Value.int .u8 z0 = .int .u8 (f 20); rw [hfe]; rfl
    · rw [Nu.val_num _ _ (by decide)]; show Value.int .u8 z1 = .int .u8 (f 19); rw [hfe]; rfl
    · intro v hv
      simp only [List.mem_cons, List.mem_nil_iff, or_false] at hv
      rcases hv with rfl | rfl <;> rfl
  obtain ⟨xs, hxs⟩ : ∃ xs : Nat → Int, ∀ j, (0 ≤ xs j ∧ xs j ≤ 255) ∧ (j < len → W.cell? (a.add j) = some (.int .u8 (xs j))) := by
    refine ⟨fun j => if h : j < len then (hc j h).choose else 0, fun j => ?_⟩
    by_cases h : j < len
    · have := (hc j h).choose_spec
      simp only [dif_pos h]
      exact ⟨⟨this.1, this.2.1⟩, fun _ => this.2.2⟩
    · simp only [dif_neg h]
      exact ⟨⟨by omega, by omega⟩, fun q => absurd q h⟩
  obtain ⟨X, o, hX, hXo⟩ : ∃ (X : List (Nat × Obj)) (o : Obj), (∀ b o', (b, o') ∈ X → W.heap[b]? = some o') ∧ (0 < len → (a.block, o) ∈ X) := by
    by_cases h : 0 < len
    · obtain ⟨o, ho⟩ := block_of_cell ((hxs 0).2 (by omega))
      have ho : W.heap[a.block]? = some o := by rw [block_add] at ho; exact ho
      refine ⟨[(a.block, o)], o, fun b o' hm => ?_, fun _ => List.mem_cons_self⟩
      simp only [List.mem_cons, List.mem_nil_iff, or_false, Prod.mk.injEq] at hm
      obtain ⟨rfl, rfl⟩ := hm
      exact ho
    · exact ⟨[], .stringIter .empty 0, fun b o' hm => (by cases hm), fun q => absurd q h⟩
  obtain ⟨m, hm, hdm⟩ := dig_ex (fun i => (xs i % 3).toNat) (fun i => by omega) len
  have hd : ∀ i, i < len → xs i % 3 = (dig m i : Int) := fun i hi => by rw [hdm i hi]; omega
  refine root_said R hF (n := len) (m := m) (by omega) hm (xs := xs) (fun s => (hxs s).1) (V := vA a len cap) h0 X hX (show vA a len cap 1000 = _ from rfl) (fun f G U hUV hXG hf q hq => ?_)
  have u0 : U 1000 = .slice (some a) len cap := by rw [hUV 1000 (by omega)]; rfl
  have uP : ∀ j, j < 9 → U (1001 + j) = .pointer (some (a.add j)) := fun j hj => by
    rw [hUV (1001 + j) (by omega)]
    unfold vA
    rw [if_neg (by omega), if_pos (by omega), show 1001 + j - 1001 = j by omega]
  unfold rulesL at hq
  rcases List.mem_cons.1 hq with rfl | hq
  · exact Rule.len_ok (by decide) u0 Tryz.underlying22 fun φ => VR.int _ _
  · exact rulesI_ok (o := o) u0 uP (by omega) (Nat.le_refl _) (fun s => (hxs s).1) hd (fun q => ⟨hXG _ (hXo q), hX _ _ (hXo q)⟩) (fun j hj => (hxs j).2 hj) hf len (Nat.le_refl _) q hq
end Go.Proofs.YtpmknbclidomjaaGreatDoor
