/-
  Closed facts on the row's function and on the card; no condition.
-/
import Derived.Test.YtgadddljaneilaaGreatDoorRows
import Derived.Test.YtgadddljaneilaaGreatDoorIFac1
import Derived.Clock
import Derived.ProofKit
import Derived.SevenTiedAt
import Derived.KernelRfl
set_option linter.unusedVariables false
set_option linter.unusedSimpArgs false
namespace Go.Proofs.YtgadddljaneilaaGreatDoor
open Go
set_option maxRecDepth 100000
set_option maxHeartbeats 0
theorem fac_named : Tryz.pinned.checked.prog.funcNamed Rows.interpretersOutsideRow.func = some 4 := fac_named0
theorem fac_inst : Tryz.f4.isInstance Tryz.pinned.checked.prog Rows.interpretersOutsideRow.origin Rows.interpretersOutsideRow.targs := of_decide_eq_true (by kernel_rfl)
theorem fac_wrap : Tryz.f4.isWrapper Tryz.pinned.checked.prog Rows.interpretersOutsideRow.wrapper Rows.interpretersOutsideRow.mainSum := by unfold Func.isWrapper; first | (rw [if_pos (by decide +kernel)]; kernel_rfl) | (rw [if_neg (by decide +kernel)]; exact ⟨rfl, rfl⟩)
theorem card_wf : Rows.interpretersOutsideRow.wfByText (OpenSpec.ofChange Rows.interpretersOutsideSpec) = true := by kernel_rfl
theorem card_main : Tryz.pinned.checked.prog.mainIs = some (true, "8d75547715a4c17782b5d8d77eecc7732500609e67af49444bae7e42b6ec9170".toList) := by kernel_rfl
theorem card_looks : true = Tryz.pinned.checked.prog.looks [] := by kernel_rfl
theorem card_wants : ([5, 60, 5].all fun u => !Tryz.prog.wantsStandIn u) = true := by kernel_rfl
end Go.Proofs.YtgadddljaneilaaGreatDoor
