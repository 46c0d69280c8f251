/-
  The plain side of ChecksOperands: the texts that are put together, their classes, the tables as blocks; no condition.
-/
import Derived.Test.YtkghfmfciekbdaaGreatDoorWalk
set_option linter.unusedVariables false
set_option linter.unusedSimpArgs false
namespace Go.Proofs.YtkghfmfciekbdaaGreatDoor
open Go Go.Abs Go.RowKit
def sndB (k : Nat) : ByteArray := [⟨#[65]⟩, ⟨#[84, 32, 40, 32, 49, 32, 58, 32, 50, 32, 41]⟩, ⟨#[53]⟩, ⟨#[83, 80, 65, 67, 69, 83]⟩, ⟨#[78, 32, 40, 32, 73, 32, 43, 32, 49, 32, 41]⟩, ⟨#[71, 66, 32, 79, 70, 32, 72]⟩, ⟨#[34, 120, 34]⟩, ⟨#[69]⟩].getD k ⟨#[]⟩
def tgtB (k : Nat) : ByteArray := [⟨#[65]⟩, ⟨#[69]⟩, ⟨#[78, 32, 40, 32, 50, 32, 41]⟩, ⟨#[71, 65, 32, 79, 70, 32, 72]⟩].getD k ⟨#[]⟩
def modB (k : Nat) : ByteArray := [⟨#[]⟩, ⟨#[32, 82, 79, 85, 78, 68, 69, 68]⟩, ⟨#[32, 82, 79, 85, 78, 68, 69, 68, 32, 77, 79, 68, 69, 32, 73, 83, 32, 78, 69, 65, 82, 69, 83, 84, 45, 69, 86, 69, 78]⟩, ⟨#[32, 82, 79, 85, 78, 68, 69, 68, 32, 77, 79, 68, 69, 32, 84, 82, 85, 78, 67, 65, 84, 73, 79, 78]⟩, ⟨#[32, 82, 79, 85, 78, 68, 69, 68, 32, 77, 79, 68, 69, 32, 73, 83, 32, 84, 79, 87, 65, 82, 68, 45, 76, 69, 83, 83, 69, 82]⟩].getD k ⟨#[]⟩
def itmI (k : Nat) : Int := [0, 5, -1, -1, 14, 12, -1, 4].getD k 0
def sptI (k : Nat) : Int := [0, 4, 14, 11].getD k 0
def kndI (k : Nat) : Int := [0, 1, 2, 0, 6].getD k 0
/-- the classes of an element -/
def kS (x : Nat → Int) (k : Nat) : Nat := (x (2 * k) % 8).toNat
def kT (x : Nat → Int) (k : Nat) : Nat := (x (2 * k) % 4).toNat
def kM (x : Nat → Int) (k : Nat) : Nat := (x (2 * k + 1) % 5).toNat
def oAll : Obj := .cells #[.string ⟨#[65]⟩, .string ⟨#[84, 32, 40, 32, 49, 32, 58, 32, 50, 32, 41]⟩, .string ⟨#[53]⟩, .string ⟨#[83, 80, 65, 67, 69, 83]⟩, .string ⟨#[78, 32, 40, 32, 73, 32, 43, 32, 49, 32, 41]⟩, .string ⟨#[71, 66, 32, 79, 70, 32, 72]⟩, .string ⟨#[34, 120, 34]⟩, .string ⟨#[69]⟩] 9 (0, 0)
def oItems : Obj := .cells #[.int .i64 0, .int .i64 5, .int .i64 (-1), .int .i64 (-1), .int .i64 14, .int .i64 12, .int .i64 (-1), .int .i64 4] 3 (0, 0)
def oSome : Obj := .cells #[.string ⟨#[65]⟩, .string ⟨#[69]⟩, .string ⟨#[78, 32, 40, 32, 50, 32, 41]⟩, .string ⟨#[71, 65, 32, 79, 70, 32, 72]⟩] 9 (0, 0)
def oSpots : Obj := .cells #[.int .i64 0, .int .i64 4, .int .i64 14, .int .i64 11] 3 (0, 0)
def oModes : Obj := .cells #[.string ⟨#[]⟩, .string ⟨#[32, 82, 79, 85, 78, 68, 69, 68]⟩, .string ⟨#[32, 82, 79, 85, 78, 68, 69, 68, 32, 77, 79, 68, 69, 32, 73, 83, 32, 78, 69, 65, 82, 69, 83, 84, 45, 69, 86, 69, 78]⟩, .string ⟨#[32, 82, 79, 85, 78, 68, 69, 68, 32, 77, 79, 68, 69, 32, 84, 82, 85, 78, 67, 65, 84, 73, 79, 78]⟩, .string ⟨#[32, 82, 79, 85, 78, 68, 69, 68, 32, 77, 79, 68, 69, 32, 73, 83, 32, 84, 79, 87, 65, 82, 68, 45, 76, 69, 83, 83, 69, 82]⟩] 9 (0, 0)
def oKinds : Obj := .cells #[.int .u8 0, .int .u8 1, .int .u8 2, .int .u8 0, .int .u8 6] 47 (0, 0)
/-- how many tokens an operand has -/
def nS (k : Nat) : Nat := [1, 6, 1, 1, 6, 3, 1, 1].getD k 0
def nT (k : Nat) : Nat := [1, 1, 4, 3].getD k 0
theorem vrA {φ : Phi} {ν : Nu} {k : Nat} (h : k < 8) : VR φ ν (aA k) (.string (sndB k)) := by
  match k, h with
  | 0, _ | 1, _ | 2, _ | 3, _ | 4, _ | 5, _ | 6, _ | 7, _ => exact .str ⟨rfl, rfl⟩
theorem vrS {φ : Phi} {ν : Nu} {k : Nat} (h : k < 4) : VR φ ν (sA k) (.string (tgtB k)) := by
  match k, h with
  | 0, _ | 1, _ | 2, _ | 3, _ => exact .str ⟨rfl, rfl⟩
theorem vrM {φ : Phi} {ν : Nu} {k : Nat} (h : k < 5) : VR φ ν (mA k) (.string (modB k)) := by
  match k, h with
  | 0, _ | 1, _ | 2, _ | 3, _ | 4, _ => exact .str ⟨rfl, rfl⟩
theorem vrI {φ : Phi} {ν : Nu} {k : Nat} (h : k < 8) : VR φ ν (itmA k) (.int .i64 (itmI k)) := by
  match k, h with
  | 0, _ | 1, _ | 2, _ | 3, _ | 4, _ | 5, _ | 6, _ | 7, _ => exact .int _ _
theorem vrP {φ : Phi} {ν : Nu} {k : Nat} (h : k < 4) : VR φ ν (sptA k) (.int .i64 (sptI k)) := by
  match k, h with
  | 0, _ | 1, _ | 2, _ | 3, _ => exact .int _ _
theorem vrK {φ : Phi} {ν : Nu} {k : Nat} (h : k < 5) : VR φ ν (kA k) (.int .u8 (kndI k)) := by
  match k, h with
  | 0, _ | 1, _ | 2, _ | 3, _ | 4, _ => exact .int _ _
theorem lenS {k : Nat} (h : k < 8) : (sndA k).length = nS k := by
  match k, h with
  | 0, _ | 1, _ | 2, _ | 3, _ | 4, _ | 5, _ | 6, _ | 7, _ => rfl
theorem lenT {k : Nat} (h : k < 4) : (tgtA k).length = nT k := by
  match k, h with
  | 0, _ | 1, _ | 2, _ | 3, _ => rfl
theorem nS_le (k : Nat) : nS k ≤ 6 := by
  match k with
  | 0 | 1 | 2 | 3 | 4 | 5 | 6 | 7 => decide
  | k + 8 => exact Nat.zero_le _
theorem nT_le (k : Nat) : nT k ≤ 4 := by
  match k with
  | 0 | 1 | 2 | 3 => decide
  | k + 4 => exact Nat.zero_le _
theorem cell_below {W W' : World} {a : Addr} {v : Value} (h : W.cell? a = some v) (hb : Below W.heap.size W W') : W'.cell? a = some v := by
  have hlt : a.block < W.heap.size := by
    unfold World.cell? at h
    split at h
    · rename_i hh; exact (Array.getElem?_eq_some_iff.1 hh).1
    · cases h
  exact (hb.cell hlt).trans h
theorem block_below {W W' : World} {b : Nat} {o : Obj} (h : W.heap[b]? = some o) (hb : Below W.heap.size W W') : W'.heap[b]? = some o :=
  (hb.block _ (Array.getElem?_eq_some_iff.1 h).1).trans h
theorem Facts.below {W W' : World} (h : Facts W) (hb : Below W.heap.size W W') : Facts W' :=
  ⟨let ⟨f, e⟩ := h.gA; ⟨f, block_below e hb⟩, let ⟨m, f, e⟩ := h.gM; ⟨m, f, block_below e hb⟩, let ⟨f, e⟩ := h.t0; ⟨f, block_below e hb⟩, let ⟨f, e⟩ := h.t1; ⟨f, block_below e hb⟩, let ⟨f, e⟩ := h.t2; ⟨f, block_below e hb⟩, let ⟨f, e⟩ := h.t3; ⟨f, block_below e hb⟩⟩
/-- the blocks that a valuation names, out of a world -/
def blks (W : World) (l : List Nat) : List (Nat × Obj) := l.filterMap fun b => (W.heap[b]?).map fun o => (b, o)
theorem blks_ok {W : World} {l : List Nat} : ∀ b o, (b, o) ∈ blks W l → W.heap[b]? = some o := by
  intro b o h
  obtain ⟨c, _, hc⟩ := List.mem_filterMap.1 h
  obtain ⟨o', ho, e⟩ := Option.map_eq_some_iff.1 hc
  cases e
  exact ho
theorem blks_cell {W : World} {l : List Nat} {G : List (Nat × Obj)} (hG : ∀ q ∈ blks W l, q ∈ G) {b : Nat} (hb : b ∈ l) {off : Nat} {v : Value} (h : W.cell? ⟨b, off, none⟩ = some v) (w : World) (hw : ∀ b o, (b, o) ∈ G → w.heap[b]? = some o) : w.cell? ⟨b, off, none⟩ = some v := by
  unfold World.cell? at h
  split at h
  · rename_i c e f hh
    have hm : (b, Obj.cells c e f) ∈ G := hG _ (List.mem_filterMap.2 ⟨b, hb, by simp only at hh; rw [hh]; rfl⟩)
    unfold World.cell?
    simp only [hw _ _ hm]
    exact h
  · cases h
end Go.Proofs.YtkghfmfciekbdaaGreatDoor
