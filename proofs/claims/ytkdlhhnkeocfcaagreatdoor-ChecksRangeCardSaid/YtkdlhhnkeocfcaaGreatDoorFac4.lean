/-
  The card's closed facts (text 3): no function goes; no condition.
-/
import Derived.Test.YtkdlhhnkeocfcaaGreatDoorRows
import Derived.Test.YtkdlhhnkeocfcaaGreatDoorFq3
import Derived.SevenTiedAt
import Derived.KernelRfl
set_option linter.unusedVariables false
set_option linter.unusedSimpArgs false
namespace Go.Proofs.YtkdlhhnkeocfcaaGreatDoor
open Go
set_option maxRecDepth 100000
theorem none_goes (g : Nat) : ((Tryz.prog.funcs[g]?).any Func.goes) = false := by
  cases hq : Tryz.prog.funcs[g]? with
  | none => rfl
  | some fn =>
    show Func.goes fn = false
    cases hg : Func.goes fn with
    | false => rfl
    | true =>
      obtain ⟨hl, he⟩ := Array.getElem?_eq_some_iff.1 hq
      have h2 : Tryz.prog.funcs.any Func.goes = true := Array.any_eq_true.2 ⟨g, hl, by rw [he]; exact hg⟩
      rw [no_goes] at h2
      cases h2
theorem goes_no (f : FuncId) : Tryz.prog.goes f = false := by
  unfold Program.goes
  rw [no_goes, Bool.and_false, Bool.or_false]
  rw [Bool.eq_false_iff]
  intro h
  obtain ⟨g, _, hg⟩ := List.any_eq_true.1 h
  rw [none_goes] at hg
  cases hg
theorem any_goes (o : Option FuncId) : o.any Tryz.prog.goes = false := by
  cases o with
  | none => rfl
  | some f => rw [Option.any_some]; exact goes_no f
theorem card_goes : false = Rows.checksRangeRow.goesBy Tryz.pinned.checked.prog := by
  unfold OpenClaim.goesBy Program.goesAt Program.goesFrom
  rw [show Tryz.pinned.checked.prog = Tryz.prog from rfl, any_goes]
  rfl
end Go.Proofs.YtkdlhhnkeocfcaaGreatDoor
