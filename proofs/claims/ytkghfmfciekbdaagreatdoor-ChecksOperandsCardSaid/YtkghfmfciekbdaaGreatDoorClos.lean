/-
  The functions that a function leads to, by a table; cheap roads to the closed facts of a witness; they hold for every program; no condition.
-/
import GoSem.ClaimFn
import Derived.Lay
import GoSem.Machine.Start
set_option linter.unusedVariables false
set_option linter.unusedSimpArgs false
namespace Go.Abs
open Go
noncomputable section
def clK (lt : Nat → List Nat) (n : Nat) : List Nat → List Nat → Nat → List Nat :=
  Nat.rec (motive := fun _ => List Nat → List Nat → Nat → List Nat) (fun _ seen _ => seen.reverse)
    (fun _ ih todo seen m => List.rec (motive := fun _ => List Nat) seen.reverse (fun f t _ => Bool.rec (motive := fun _ => List Nat) (ih (lt f ++ t) (f :: seen) (Nat.lor m (Nat.shiftLeft 1 f))) (ih t seen m) (Nat.testBit m f)) todo) n

theorem clK_eq {P : Program} {lt : Nat → List Nat} (h : ∀ f, (P.funcs[f]?).elim [] P.leadsTo = lt f) : ∀ (n : Nat) (todo seen : List Nat) (m : Nat), (∀ x, m.testBit x = seen.contains x) → P.closureVia n todo seen = clK lt n todo seen m
  | 0, _, seen, _, _ => by
    show _ = seen.reverse
    simp [Program.closureVia]
  | n + 1, [], seen, _, _ => by
    show _ = seen.reverse
    simp [Program.closureVia]
  | n + 1, f :: t, seen, m, hm => by
    have e : clK lt (n + 1) (f :: t) seen m = Bool.rec (motive := fun _ => List Nat) (clK lt n (lt f ++ t) (f :: seen) (Nat.lor m (Nat.shiftLeft 1 f))) (clK lt n t seen m) (Nat.testBit m f) := rfl
    rw [e, Program.closureVia, ← hm f]
    cases hb : m.testBit f with
    | true => simp only [if_true]; exact clK_eq h n t seen m hm
    | false =>
      simp only [Bool.false_eq_true, if_false]
      rw [h f]
      refine clK_eq h n _ _ _ fun x => ?_
      show (m ||| (1 <<< f)).testBit x = _
      rw [Nat.testBit_or, hm x, List.contains_cons, Nat.testBit_shiftLeft, Bool.or_comm]
      congr 1
      by_cases hx : x = f
      · subst hx; simp
      · have : (x == f) = false := by simpa using hx
        rw [this]
        by_cases hl : f ≤ x
        · have h1 : x - f ≠ 0 := by omega
          cases hq : x - f with
          | zero => omega
          | succ k => simp [Nat.testBit_succ]
        · simp [hl]

/-- the table: what each function names -/
theorem lt_of_map {P : Program} {LT : List (List Nat)} (h : P.funcs.toList.map P.leadsTo = LT) (f : Nat) : (P.funcs[f]?).elim [] P.leadsTo = (LT[f]?).getD [] := by
  rw [← h, List.getElem?_map]
  have e : P.funcs[f]? = P.funcs.toList[f]? := by simp
  rw [e]
  cases P.funcs.toList[f]? <;> rfl

theorem closure_of_map {P : Program} {LT : List (List Nat)} (h : P.funcs.toList.map P.leadsTo = LT) {n : Nat} (hn : 1 + (LT.map fun l => l.length + 1).sum = n) {lt : Nat → List Nat} (hl : ∀ f, (LT[f]?).getD [] = lt f) (f : FuncId) : P.closure f = clK lt n [f] [] 0 := by
  have e : (P.funcs.toList.map fun g => (P.leadsTo g).length + 1) = LT.map fun l => l.length + 1 := by rw [← h, List.map_map]; rfl
  rw [Program.closure, e, hn]
  exact clK_eq (fun f => by rw [lt_of_map h, hl]) n [f] [] 0 (fun x => by simp)

/-- a list's rest, cut in two -/
theorem map_chunk {α β : Type} {l : List α} {f : α → β} {n k m : Nat} {A B : List β} (h1 : ((l.drop n).take k).map f = A) (h2 : (l.drop m).map f = B) (hm : n + k = m) : (l.drop n).map f = A ++ B := by
  subst hm
  rw [← h1, ← h2, ← List.map_append, ← List.drop_drop, List.take_append_drop]
theorem map_chunks {α β : Type} {l : List α} {f : α → β} {A : List β} (h : (l.drop 0).map f = A) : l.map f = A := h

/-- what one function of the list gives to 'inPlace' -/
def inPlaceF (P : Program) (g : FuncId) : Option String := (P.funcs[g]?).bind fun fn => if fn.ours || fn.body.isNone || fn.name == "runtime.NumGoroutine" then some fn.name else none
theorem inPlace_of {P : Program} {f : FuncId} {A : List Nat} {B : List String} (h : P.closure f = A) (hb : A.filterMap (inPlaceF P) = B) : P.inPlace f = B := by
  rw [Program.inPlace, h]; exact hb
def globalsF (P : Program) (g : FuncId) : List Nat := ((P.funcs[g]?).bind (·.body)).elim [] Code.globalsNamed
def readsF (P : Program) (g : FuncId) : Option String := (P.funcs[g]?).bind fun fn => if fn.body.isNone then entryReads.lookup fn.name else none
theorem varsNamed_of {P : Program} {f : FuncId} {A G : List Nat} {R B : List String} (h : P.closure f = A) (hg : A.flatMap (globalsF P) = G) (hr : A.filterMap (readsF P) = R) (hb : (G.eraseDups.filterMap (fun g => (P.globals[g]?).map (·.name)) ++ R).eraseDups = B) : P.varsNamed f = B := by
  rw [Program.varsNamed, h, ← hb, ← hg, ← hr]; rfl
def unfollowedF (P : Program) (g : FuncId) : Bool := (P.funcs[g]?).any fun fn => match fn.body with | some c => c.unfollowed | none => entryCalls fn
theorem unfollowed_of {P : Program} {f g : FuncId} {A : List Nat} (h : P.closure f = A) (hm : A.contains g = true) (hu : unfollowedF P g = true) : P.unfollowed f = true := by
  rw [Program.unfollowed, h, List.any_eq_true]
  exact ⟨g, by simpa using hm, hu⟩
theorem recurses_of {P : Program} {f : FuncId} (h : P.unfollowed f = true) : P.recurses f = true := by
  rw [Program.recurses, h]; rfl
theorem filterMap_app {α β : Type} {f : α → Option β} {a b : List α} {A B : List β} (h1 : a.filterMap f = A) (h2 : b.filterMap f = B) : (a ++ b).filterMap f = A ++ B := by rw [List.filterMap_append, h1, h2]
theorem flatMap_app {α β : Type} {f : α → List β} {a b : List α} {A B : List β} (h1 : a.flatMap f = A) (h2 : b.flatMap f = B) : (a ++ b).flatMap f = A ++ B := by rw [List.flatMap_append, h1, h2]

/-! a range, cut -/
theorem range_all_zero {F : Nat → Bool} {n : Nat} (h : (List.range' 0 n).all F = true) : (List.range n).all F = true := by
  rw [List.range_eq_range']; exact h
theorem range_all_cut {F : Nat → Bool} {a k n m : Nat} (h1 : (List.range' a k).all F = true) (h2 : (List.range' (a + k) n).all F = true) (hm : k + n = m) : (List.range' a m).all F = true := by
  subst hm
  rw [← List.range'_append_1, List.all_append, h1, h2]; rfl
end
end Go.Abs

namespace Go.Abs
open Go

theorem waiting_of {P : Program} {l : List Nat} (h : P.funcs.toList.flatMap (fun f => (f.body.map readies).getD []) = l) (hl : l.foldl (fun a g => a.setIfInBounds g true) (Array.replicate P.globals.size false) = Array.replicate P.globals.size false) : waiting P = Array.replicate P.globals.size false := by
  unfold waiting; rw [h]; exact hl

theorem find_type {P : Program} {s : String} {u : Nat} (hu : u < P.types.size) (h1 : (P.typeName? 3 u == some s) = true) (h2 : ∀ v, v < u → (P.typeName? 3 v == some s) = false) : (List.range P.types.size).find? (fun u => P.typeName? 3 u == some s) = some u := by
  rw [List.find?_range_eq_some]
  exact ⟨h1, by simpa using hu, fun j hj => by simp [h2 j hj]⟩

/-- the type is surely not called s = "*" ++ r -/
def notNamed (P : Program) (s r : String) (v : TypeId) : Bool :=
  match P.info? v with
  | some i => match i.desc with
    | .named n _ => !(n == s)
    | .pointer e => match P.info? e with
      | some j => match j.desc with
        | .named m _ => !(m == r)
        | .pointer _ => true
        | .bool | .int _ | .float _ | .string => !(j.str == r)
        | _ => true
      | none => true
    | .bool | .int _ | .float _ | .string => !(i.str == s)
    | _ => true
  | none => true

theorem star_inj {a b : String} (h : "*" ++ a = "*" ++ b) : a = b := by
  have := congrArg String.toList h
  simp only [String.toList_append] at this
  exact String.toList_inj.1 (List.append_cancel_left this)

theorem notNamed_no {P : Program} {s r : String} (hs : s = "*" ++ r) (hr : ∀ x, r ≠ "*" ++ x) {v : TypeId} (h : notNamed P s r v = true) : (P.typeName? 3 v == some s) = false := by
  rw [Bool.eq_false_iff]
  intro he
  have he : P.typeName? 3 v = some s := by simpa using he
  unfold Program.typeName? at he
  unfold notNamed at h
  cases hi : P.info? v with
  | none => rw [hi] at he; cases he
  | some i =>
    rw [hi] at he h
    simp only at he h
    split at he
    · rename_i n q hd
      rw [hd] at h
      simp only [Bool.not_eq_true', beq_eq_false_iff_ne, ne_eq] at h
      split at he
      · cases he; exact h rfl
      · cases he
    · rename_i e hd
      rw [hd] at h
      simp only at h
      cases hj : P.typeName? 2 e with
      | none => rw [hj] at he; cases he
      | some m =>
        rw [hj] at he
        have e1 : "*" ++ m = s := by simpa using he
        have e2 : m = r := star_inj (e1.trans hs)
        subst e2
        unfold Program.typeName? at hj
        cases hk : P.info? e with
        | none => rw [hk] at hj; cases hj
        | some j =>
          rw [hk] at hj h
          simp only at hj h
          split at hj
          · rename_i n q hd2
            rw [hd2] at h
            simp only [Bool.not_eq_true', beq_eq_false_iff_ne, ne_eq] at h
            split at hj
            · cases hj; exact h rfl
            · cases hj
          · rename_i e' hd2
            cases hl : P.typeName? 1 e' with
            | none => rw [hl] at hj; cases hj
            | some m' => rw [hl] at hj; exact hr m' (by simpa using hj.symm)
          · rename_i hd2
            rw [hd2] at h
            simp only [Bool.not_eq_true', beq_eq_false_iff_ne, ne_eq] at h
            split at hj
            · cases hj
            · cases hj; exact h rfl
          · rename_i k hd2
            rw [hd2] at h
            simp only [Bool.not_eq_true', beq_eq_false_iff_ne, ne_eq] at h
            split at hj
            · cases hj
            · cases hj; exact h rfl
          · rename_i k hd2
            rw [hd2] at h
            simp only [Bool.not_eq_true', beq_eq_false_iff_ne, ne_eq] at h
            split at hj
            · cases hj
            · cases hj; exact h rfl
          · rename_i hd2
            rw [hd2] at h
            simp only [Bool.not_eq_true', beq_eq_false_iff_ne, ne_eq] at h
            split at hj
            · cases hj
            · cases hj; exact h rfl
          · cases hj
    · rename_i hd
      rw [hd] at h
      simp only [Bool.not_eq_true', beq_eq_false_iff_ne, ne_eq] at h
      split at he
      · cases he
      · cases he; exact h rfl
    · rename_i k hd
      rw [hd] at h
      simp only [Bool.not_eq_true', beq_eq_false_iff_ne, ne_eq] at h
      split at he
      · cases he
      · cases he; exact h rfl
    · rename_i k hd
      rw [hd] at h
      simp only [Bool.not_eq_true', beq_eq_false_iff_ne, ne_eq] at h
      split at he
      · cases he
      · cases he; exact h rfl
    · rename_i hd
      rw [hd] at h
      simp only [Bool.not_eq_true', beq_eq_false_iff_ne, ne_eq] at h
      split at he
      · cases he
      · cases he; exact h rfl
    · cases he

theorem star_ne {r : String} (h : (r.toList.head? == "*".toList.head?) = false) : ∀ x, r ≠ "*" ++ x := by
  intro x e
  subst e
  rw [String.toList_append, List.head?_append] at h
  simp at h

theorem some_getD {α : Type} {o : Option α} {d : α} (h : o.isSome = true) : o = some (o.getD d) := by
  cases o with
  | none => cases h
  | some x => rfl

theorem lay_iface {P : Program} {t : TypeId} {n : Nat} {name : String} {d : DataW Unit} {u : TypeId} {x : List Value × List Obj} {v : Value} (h1 : ∃ m, P.underlying t = some (.interface m)) (h2 : (List.range P.types.size).find? (fun u => P.typeName? 3 u == some name) = some u)
    (h3 : d.lay P u n = some x) (h4 : Lay.pack P u x.1 = some v) : (DataW.iface name d).lay P t n = some ([.iface u v], x.2) := by
  obtain ⟨m, h1⟩ := h1
  simp only [DataW.lay, h1, h2, h3, h4]

theorem layList_cons {P : Program} {n n' : Nat} {x : String × DataW Unit} {r : List (String × DataW Unit)} {g : Nat} {t : TypeId} {y : List Value × List Obj} {z : List (Nat × List Value) × List Obj} (h1 : P.globalNamed x.1 = some g) (h2 : (P.globals[g]?).map (·.type) = some t)
    (h3 : x.2.lay P t n = some y) (hn : n + y.2.length = n') (h4 : Lay.layList P n' r = some z) : Lay.layList P n (x :: r) = some ((g, y.1) :: z.1, y.2 ++ z.2) := by
  obtain ⟨gl, hg, rfl⟩ := Option.map_eq_some_iff.1 h2
  subst hn
  simp only [Lay.layList, h1, hg, h3, h4]

theorem layFits_of {P : Program} {w : World} {l : List (String × DataW Unit)} {B : List Nat} {Y : List (Nat × List Value) × List Obj} (h : Lay.layList P w.heap.size l = some Y)
    (hb : (decide (Y.1.map (·.1)).Nodup && (Y.1.all fun r => Lay.isRow w.heap.toList[r.1]? && !B.contains r.1) && B.all (· < w.heap.size)) = true) : w.layFits P l B = true := by
  unfold World.layFits; rw [h]; exact hb
theorem layIfaces_of {P : Program} {w w' : World} {l : List (String × DataW Unit)} {Y : List (Nat × List Value) × List Obj} (h : Lay.layList P w.heap.size l = some Y)
    (hb : ((Y.1.all fun r => r.2.all (Lay.okV P w')) && Y.2.all (Lay.okO P w')) = true) : w.layIfaces P l w' = true := by
  unfold World.layIfaces; rw [h]; exact hb
theorem layVars_of {P : Program} {w : World} {l : List (String × DataW Unit)} {Y : List (Nat × List Value) × List Obj} (h : Lay.layList P w.heap.size l = some Y) :
    w.layVars P l = { w with heap := ⟨Lay.setRows w.heap.toList Y.1 ++ Y.2⟩ } := by
  unfold World.layVars; rw [h]
end Go.Abs
