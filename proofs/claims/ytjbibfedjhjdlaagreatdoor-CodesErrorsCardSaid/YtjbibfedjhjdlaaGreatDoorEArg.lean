/-
  A proof (a struct with a slice of ranges), by value, as the reader reads it: taken apart; it holds for every program; no other condition.
-/
import Derived.Test.YtjbibfedjhjdlaaGreatDoorAbs4
import Derived.Carry
import Derived.ProofKit
import Derived.OpenShut
set_option linter.unusedVariables false
set_option linter.unusedSimpArgs false
namespace Go.Abs
open Go.ChangeShapes Go.WideShapes Go.RowKit

/-- a slice of numbers, whatever it holds -/
def CallsOk (v : Value) : Prop := v = .slice none 0 0 ∨ ∃ (a : Addr) (l c : Nat), v = .slice (some a) l c
/-- a proof: a slice of ranges; where it has one, its four cells -/
def ProofOk (W : World) (v : Value) : Prop := ∃ sl, v = .agg #[sl] ∧ (sl = .slice none 0 0 ∨ ∃ (a : Addr) (len cap : Nat), sl = .slice (some a) len cap ∧
  (len = 1 → ∃ (n0 n1 n3 : Int) (cl : Value), CallsOk cl ∧ ∀ i, i < 4 → W.cell? (a.add i) = [Value.int .i64 n0, .int .i64 n1, cl, .int .i64 n3][i]?))

section
variable {H : Type} {enc : TypeId × Value → H} {P : Program} {w : World} {base : Nat} {spare : Nat → Bool} {held : Bool}
theorem calls_open {t e : TypeId} {n : Nat} {c : Value} {y : DataW H × List MemPlace} (ht : P.underlying t = some (.slice e)) (h : DataW.trod enc P w base spare held n t [c] = some y) : CallsOk c := by
  rcases DataW.trod_slice ht h with ⟨h0, _⟩ | ⟨a, len, cap, _, _, _, _, h0, _⟩
  · cases h0; exact .inl rfl
  · cases h0; exact .inr ⟨a, len, cap, rfl⟩
theorem num_open {e : TypeId} {k : IntKind} {n : Nat} {c : Value} {y : DataW H × List MemPlace} (he : P.underlying e = some (.int k)) (h : DataW.trod enc P w base spare held n e [c] = some y) : ∃ m : Int, c = .int k m := by
  cases n with
  | zero => simp [DataW.trod] at h
  | succ n =>
    unfold DataW.trod at h
    rw [he] at h
    cases c <;> simp at h
    obtain ⟨⟨rfl, h1⟩, rfl⟩ := h
    exact ⟨_, rfl⟩
theorem four {α : Type} {l : List α} (h : l.length = 4) : ∃ a b c d, l = [a, b, c, d] := by
  match l, h with
  | [a, b, c, d], _ => exact ⟨a, b, c, d, rfl⟩
theorem open_proof {r : Reach} {b0 : Nat} {tP tE e2 : TypeId} {f0 g0 g1 g2 g3 : Field} {v : Value} {d : DataW H} {p : List MemPlace} (htP : P.underlying tP = some (.struct #[f0])) (hf0 : f0.offset = 0) (hcR : P.cellsOf f0.type = 1) (hcP : P.cellsOf tP = 1)
    (htR : P.underlying f0.type = some (.slice tE)) (hcE : P.cellsOf tE = 4) (htE : P.underlying tE = some (.struct #[g0, g1, g2, g3])) (o0 : g0.offset = 0) (o1 : g1.offset = 1) (o2 : g2.offset = 2) (o3 : g3.offset = 3)
    (h0 : P.underlying g0.type = some (.int .i64)) (h1 : P.underlying g1.type = some (.int .i64)) (h2 : P.underlying g2.type = some (.slice e2)) (h3 : P.underlying g3.type = some (.int .i64))
    (c0 : P.cellsOf g0.type = 1) (c1 : P.cellsOf g1.type = 1) (c2 : P.cellsOf g2.type = 1) (c3 : P.cellsOf g3.type = 1)
    (hval : Value.okWide P w r b0 tP v) (hd : DataW.Trod enc P w base spare held tP v d p) : ProofOk w v := by
  unfold Value.okWide at hval
  rw [htP] at hval
  obtain ⟨cs, rfl, hsz, _⟩ := hval
  obtain ⟨fuel, hf⟩ := hd
  obtain ⟨y0, n, _, hl, hy⟩ := trod_struct1 htP hf
  have hl : cs.toList.length = P.cellsOf tP := hl
  have hy : DataW.trod enc P w base spare held n f0.type ((cs.toList.drop f0.offset).take (P.cellsOf f0.type)) = some y0 := hy
  rw [hcP] at hl
  obtain ⟨sl, hsl⟩ : ∃ sl, cs = #[sl] := by
    obtain ⟨l⟩ := cs
    match l, hl with
    | [sl], _ => exact ⟨sl, rfl⟩
  subst hsl
  rw [hf0, hcR] at hy
  have hy : DataW.trod enc P w base spare held n f0.type [sl] = some y0 := hy
  refine ⟨sl, rfl, ?_⟩
  rcases DataW.trod_slice htR hy with ⟨q, _⟩ | ⟨a, len, cap, elems, rest, m, _, q, _, _, _, _, _, hel, _⟩
  · cases q; exact .inl rfl
  · cases q
    refine .inr ⟨a, len, cap, rfl, fun e1 => ?_⟩
    subst e1
    have hlen : elems.length = 1 := by assumption
    have he := hel 0 (by omega)
    obtain ⟨x, hx⟩ : ∃ x, elems[0]? = some x := ⟨elems[0], List.getElem?_eq_getElem (by omega)⟩
    rw [hx, Nat.zero_mul] at he
    obtain ⟨ds, hds, hx2⟩ := Option.bind_eq_some_iff.1 he
    rw [hcE] at hds
    obtain ⟨_, h4, hcell⟩ := World.cells?_some hds
    obtain ⟨v0, v1, v2, v3, rfl⟩ := four h4
    obtain ⟨xs, m', _, _, _, hlen4, hfld⟩ := DataW.trod_struct htE hx2
    obtain ⟨z0, z1, z2, z3, rfl⟩ := four hlen4
    have k0 := hfld 0 g0 rfl
    have k1 := hfld 1 g1 rfl
    have k2 := hfld 2 g2 rfl
    have k3 := hfld 3 g3 rfl
    rw [o0, c0] at k0
    rw [o1, c1] at k1
    rw [o2, c2] at k2
    rw [o3, c3] at k3
    obtain ⟨n0, rfl⟩ := num_open h0 k0
    obtain ⟨n1, rfl⟩ := num_open h1 k1
    have hc := calls_open h2 k2
    obtain ⟨n3, rfl⟩ := num_open h3 k3
    refine ⟨n0, n1, n3, v2, hc, fun i hi => ?_⟩
    have := hcell i hi
    simpa [Addr.add] using this
end

/-- a cell hangs on its block alone -/
theorem cell?_of_block {w W : World} {a : Addr} {o : Obj} (h : W.heap[a.block]? = some o) (h' : w.heap[a.block]? = some o) (i : Nat) : w.cell? (a.add i) = W.cell? (a.add i) := by
  unfold World.cell?
  rw [block_add, h, h']
theorem block_of_cell {W : World} {a : Addr} {v : Value} (h : W.cell? a = some v) : ∃ o, W.heap[a.block]? = some o := by
  unfold World.cell? at h
  split at h
  · rename_i c t f hh; exact ⟨_, hh⟩
  · cases h
end Go.Abs
