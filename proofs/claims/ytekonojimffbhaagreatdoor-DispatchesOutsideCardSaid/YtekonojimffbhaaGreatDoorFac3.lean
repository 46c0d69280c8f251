/-
  Closed facts on the row's function and on the card; no condition.
-/
import Derived.Test.YtekonojimffbhaaGreatDoorRows
import Derived.Test.YtekonojimffbhaaGreatDoorFac1
import Derived.Clock
import Derived.ProofKit
import Derived.SevenTiedAt
import Derived.KernelRfl
set_option linter.unusedVariables false
set_option linter.unusedSimpArgs false
namespace Go.Proofs.YtekonojimffbhaaGreatDoor
open Go
set_option maxRecDepth 100000
set_option maxHeartbeats 0
theorem fac_named : Tryz.pinned.checked.prog.funcNamed Rows.dispatchesOutsideRow.func = some 3 := fac_named0
theorem fac_inst : Tryz.f3.isInstance Tryz.pinned.checked.prog Rows.dispatchesOutsideRow.origin Rows.dispatchesOutsideRow.targs := of_decide_eq_true (by kernel_rfl)
theorem fac_wrap : Tryz.f3.isWrapper Tryz.pinned.checked.prog Rows.dispatchesOutsideRow.wrapper Rows.dispatchesOutsideRow.mainSum := by unfold Func.isWrapper; first | (rw [if_pos (by decide +kernel)]; kernel_rfl) | (rw [if_neg (by decide +kernel)]; exact ⟨rfl, rfl⟩)
theorem card_wf : Rows.dispatchesOutsideRow.wfByText (OpenSpec.ofChange Rows.dispatchesOutsideSpec) = true := by kernel_rfl
theorem card_main : Tryz.pinned.checked.prog.mainIs = some (true, "98c8338aeb9877b4bc8c070af55dbdb99749c4dbe255186e9c6af4591f696c91".toList) := by kernel_rfl
theorem card_looks : true = Tryz.pinned.checked.prog.looks [] := by kernel_rfl
theorem card_wants : ([5, 22, 5].all fun u => !Tryz.prog.wantsStandIn u) = true := by kernel_rfl
end Go.Proofs.YtekonojimffbhaaGreatDoor
