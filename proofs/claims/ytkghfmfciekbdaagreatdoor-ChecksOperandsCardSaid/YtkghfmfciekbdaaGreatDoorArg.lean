/-
  A slice of pairs of small numbers, by value, as the reader reads it: taken apart; it holds for every program; no other condition.
-/
import Derived.Test.YtkghfmfciekbdaaGreatDoorAbs4
import Derived.ProofKit
import Derived.OpenShut
import Derived.Carry
set_option linter.unusedVariables false
set_option linter.unusedSimpArgs false
namespace Go.Abs
open Go.ChangeShapes Go.WideShapes Go.RowKit
variable {H : Type} {enc : TypeId × Value → H} {P : Program} {w : World} {base : Nat} {spare : Nat → Bool} {held : Bool}
theorem trod_arr2 {t e : TypeId} {fuel : Nat} {c0 c1 : Value} {x : DataW H × List MemPlace} (ht : P.underlying t = some (.array 2 e)) (hce : P.cellsOf e = 1)
    (h : DataW.trod enc P w base spare held fuel t [c0, c1] = some x) :
    ∃ y0 y1 n, x = (.agg [y0.1, y1.1], y0.2 ++ y1.2) ∧ DataW.trod enc P w base spare held n e [c0] = some y0 ∧ DataW.trod enc P w base spare held n e [c1] = some y1 := by
  cases fuel with
  | zero => simp [DataW.trod] at h
  | succ n =>
    unfold DataW.trod at h
    rw [ht] at h
    have r2 : List.range 2 = [0, 1] := rfl
    simp [r2, hce] at h
    obtain ⟨_, h⟩ := h
    cases h0 : DataW.trod enc P w base spare held n e [c0] with
    | none => simp [h0] at h
    | some y0 =>
      cases h1 : DataW.trod enc P w base spare held n e [c1] with
      | none => simp [h0, h1] at h
      | some y1 =>
        simp [h0, h1] at h
        exact ⟨y0, y1, n, h.symm, h0, h1⟩
theorem trod_num {e : TypeId} {k : IntKind} {n : Nat} {c : Value} {y : DataW H × List MemPlace} (he : P.underlying e = some (.int k)) (h : DataW.trod enc P w base spare held n e [c] = some y) :
    ∃ m : Int, c = .int k m ∧ y = (.lit (.int k m), []) ∧ (Lit.int k m).wf = true := by
  cases n with
  | zero => simp [DataW.trod] at h
  | succ n =>
    unfold DataW.trod at h
    rw [he] at h
    cases c <;> simp at h
    obtain ⟨⟨rfl, h1⟩, rfl⟩ := h
    exact ⟨_, rfl, rfl, h1⟩
end Go.Abs

namespace Go.Abs
open Go.ChangeShapes Go.WideShapes Go.RowKit

def PairsOk (W : World) (v : Value) : Prop := v = .slice none 0 0 ∨ ∃ (a : Addr) (len cap : Nat), v = .slice (some a) len cap ∧
  ∀ j, j < 2 * len → ∃ x : Int, 0 ≤ x ∧ x ≤ 255 ∧ W.cell? (a.add j) = some (.int .u8 x)
section
variable {H : Type} {enc : TypeId × Value → H} {P : Program} {w : World} {base : Nat} {spare : Nat → Bool} {held : Bool}
theorem add_add (a : Addr) (m k : Nat) : (a.add m).add k = a.add (m + k) := by
  unfold Addr.add
  by_cases hk : k = 0
  · subst hk; simp
  · by_cases hm : m = 0
    · subst hm; simp
    · rw [if_neg hk, if_neg hm, if_neg (by omega), Nat.add_assoc]
theorem lwf {x : Int} (h : (Lit.int .u8 x).wf = true) : 0 ≤ x ∧ x ≤ 255 := by simpa [Lit.wf, IntKind.min, IntKind.max, IntKind.signed, IntKind.bits] using h
theorem open_pairs {tL tE e : TypeId} {v : Value} (htL : P.underlying tL = some (.slice tE)) (htE : P.underlying tE = some (.array 2 e)) (hcE : P.cellsOf tE = 2) (he : P.underlying e = some (.int .u8)) (hce : P.cellsOf e = 1)
    {n : Nat} {y : DataW H × List MemPlace} (hd : DataW.trod enc P w base spare held n tL [v] = some y) : PairsOk w v := by
  rcases DataW.trod_slice htL hd with ⟨q, _⟩ | ⟨a, len, cap, elems, rest, m, _, q, _, _, _, _, _, hel, _⟩
  · cases q; exact .inl rfl
  · cases q
    refine .inr ⟨a, len, cap, rfl, fun j hj => ?_⟩
    have hlen : elems.length = len := by assumption
    have he2 := hel (j / 2) (by omega)
    obtain ⟨x, hx⟩ : ∃ x, elems[j / 2]? = some x := ⟨elems[j / 2]'(by omega), List.getElem?_eq_getElem (by omega)⟩
    rw [hx] at he2
    obtain ⟨ds, hds, hx2⟩ := Option.bind_eq_some_iff.1 he2
    rw [hcE] at hds
    obtain ⟨_, h2, hcell⟩ := World.cells?_some hds
    obtain ⟨v0, v1, rfl⟩ : ∃ v0 v1, ds = [v0, v1] := by
      match ds, h2 with
      | [v0, v1], _ => exact ⟨v0, v1, rfl⟩
    obtain ⟨y0, y1, _, _, k0, k1⟩ := trod_arr2 htE hce hx2
    obtain ⟨n0, rfl, _, w0⟩ := trod_num he k0
    obtain ⟨n1, rfl, _, w1⟩ := trod_num he k1
    have c0 := hcell 0 (by decide)
    have c1 := hcell 1 (by decide)
    rw [add_add] at c0 c1
    rcases Nat.mod_two_eq_zero_or_one j with hm | hm
    · have e : j / 2 * 2 + 0 = j := by omega
      rw [e] at c0
      exact ⟨n0, (lwf w0).1, (lwf w0).2, c0⟩
    · have e : j / 2 * 2 + 1 = j := by omega
      rw [e] at c1
      exact ⟨n1, (lwf w1).1, (lwf w1).2, c1⟩
theorem open_pairs' {r : Reach} {b0 : Nat} {tL tE e : TypeId} {v : Value} {d : DataW H} {p : List MemPlace} (htL : P.underlying tL = some (.slice tE)) (htE : P.underlying tE = some (.array 2 e)) (hcE : P.cellsOf tE = 2) (he : P.underlying e = some (.int .u8)) (hce : P.cellsOf e = 1)
    (hval : Value.okWide P w r b0 tL v) (hd : DataW.Trod enc P w base spare held tL v d p) : PairsOk w v := by
  obtain ⟨a, len, cap, rfl⟩ := okWide_slice htL hval
  obtain ⟨fuel, hf⟩ := hd
  exact open_pairs htL htE hcE he hce (show DataW.trod enc P w base spare held fuel tL [.slice a len cap] = some (d, p) from hf)
end
end Go.Abs

