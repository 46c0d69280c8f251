/-
  Closed facts on the row's function and on the card; no condition.
-/
import Derived.Test.YtecdpkikjiaecaaGreatDoorRows
import Derived.Test.YtecdpkikjiaecaaGreatDoorFac1
import Derived.Clock
import Derived.ProofKit
import Derived.SevenTiedAt
import Derived.KernelRfl
set_option linter.unusedVariables false
set_option linter.unusedSimpArgs false
namespace Go.Proofs.YtecdpkikjiaecaaGreatDoor
open Go
set_option maxRecDepth 100000
set_option maxHeartbeats 0
theorem fac_named : Tryz.pinned.checked.prog.funcNamed Rows.dispatchesErrorsRow.func = some 3 := fac_named0
theorem fac_inst : Tryz.f3.isInstance Tryz.pinned.checked.prog Rows.dispatchesErrorsRow.origin Rows.dispatchesErrorsRow.targs := of_decide_eq_true (by kernel_rfl)
theorem fac_wrap : Tryz.f3.isWrapper Tryz.pinned.checked.prog Rows.dispatchesErrorsRow.wrapper Rows.dispatchesErrorsRow.mainSum := by unfold Func.isWrapper; first | (rw [if_pos (by decide +kernel)]; kernel_rfl) | (rw [if_neg (by decide +kernel)]; exact ⟨rfl, rfl⟩)
theorem card_wf : Rows.dispatchesErrorsRow.wfByText (OpenSpec.ofChange Rows.dispatchesErrorsSpec) = true := by kernel_rfl
theorem card_main : Tryz.pinned.checked.prog.mainIs = some (true, "a2c6adf50cbed171779696d02f70b91d06d0ab67b77ffbb157cf2e4f07dacc06".toList) := by kernel_rfl
theorem card_looks : true = Tryz.pinned.checked.prog.looks [] := by kernel_rfl
theorem card_wants : ([5, 5].all fun u => !Tryz.prog.wantsStandIn u) = true := by kernel_rfl
end Go.Proofs.YtecdpkikjiaecaaGreatDoor
