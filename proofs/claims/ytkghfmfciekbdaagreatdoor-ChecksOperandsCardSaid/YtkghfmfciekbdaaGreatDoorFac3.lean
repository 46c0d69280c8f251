/-
  Closed facts on the row's function and on the card; no condition.
-/
import Derived.Test.YtkghfmfciekbdaaGreatDoorRows
import Derived.Test.YtkghfmfciekbdaaGreatDoorFac1
import Derived.Clock
import Derived.ProofKit
import Derived.SevenTiedAt
import Derived.KernelRfl
import Derived.Test.YtkghfmfciekbdaaGreatDoorFq3
set_option linter.unusedVariables false
set_option linter.unusedSimpArgs false
namespace Go.Proofs.YtkghfmfciekbdaaGreatDoor
open Go
set_option maxRecDepth 100000
set_option maxHeartbeats 0
theorem fac_named : Tryz.pinned.checked.prog.funcNamed Rows.checksOperandsRow.func = some 3 := fac_named0
theorem fac_inst : Tryz.f3.isInstance Tryz.pinned.checked.prog Rows.checksOperandsRow.origin Rows.checksOperandsRow.targs := of_decide_eq_true (by kernel_rfl)
theorem fac_wrap : Tryz.f3.isWrapper Tryz.pinned.checked.prog Rows.checksOperandsRow.wrapper Rows.checksOperandsRow.mainSum := by unfold Func.isWrapper; first | (rw [if_pos (by decide +kernel)]; kernel_rfl) | (rw [if_neg (by decide +kernel)]; exact ⟨rfl, rfl⟩)
theorem card_wf : Rows.checksOperandsRow.wfByText (OpenSpec.ofChange Rows.checksOperandsSpec) = true := by kernel_rfl
theorem card_main : Tryz.pinned.checked.prog.mainIs = some (true, "afb948e7fc0e29bd37844dfa6d601f4b018aaecb6a43109458d9e226e6a4e74b".toList) := by kernel_rfl
theorem card_looks : true = Tryz.pinned.checked.prog.looks [] := by kernel_rfl
theorem card_wants : ([22, 5].all fun u => !Tryz.prog.wantsStandIn u) = true := by kernel_rfl
end Go.Proofs.YtkghfmfciekbdaaGreatDoor
namespace Go.Proofs.YtkghfmfciekbdaaGreatDoor
open Go
set_option maxRecDepth 100000
theorem none_goes (g : Nat) : ((Tryz.prog.funcs[g]?).any Func.goes) = false := by
  cases hq : Tryz.prog.funcs[g]? with
  | none => rfl
  | some fn =>
    show Func.goes fn = false
    cases hg : Func.goes fn with
    | false => rfl
    | true =>
      obtain ⟨hl, he⟩ := Array.getElem?_eq_some_iff.1 hq
      have h2 : Tryz.prog.funcs.any Func.goes = true := Array.any_eq_true.2 ⟨g, hl, by rw [he]; exact hg⟩
      rw [no_goes] at h2
      cases h2
theorem goes_no (f : FuncId) : Tryz.prog.goes f = false := by
  unfold Program.goes
  rw [no_goes, Bool.and_false, Bool.or_false]
  rw [Bool.eq_false_iff]
  intro h
  obtain ⟨g, _, hg⟩ := List.any_eq_true.1 h
  rw [none_goes] at hg
  cases hg
theorem any_goes (o : Option FuncId) : o.any Tryz.prog.goes = false := by
  cases o with
  | none => rfl
  | some f => rw [Option.any_some]; exact goes_no f
theorem card_goes : false = Rows.checksOperandsRow.goesBy Tryz.pinned.checked.prog := by
  unfold OpenClaim.goesBy Program.goesAt Program.goesFrom
  rw [show Tryz.pinned.checked.prog = Tryz.prog from rfl, any_goes]
  rfl
end Go.Proofs.YtkghfmfciekbdaaGreatDoor
