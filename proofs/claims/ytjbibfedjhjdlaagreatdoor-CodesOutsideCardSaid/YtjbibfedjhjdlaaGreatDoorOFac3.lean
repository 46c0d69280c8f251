/-
  Closed facts on the row's function and on the card; no condition.
-/
import Derived.Test.YtjbibfedjhjdlaaGreatDoorRows
import Derived.Test.YtjbibfedjhjdlaaGreatDoorOFac1
import Derived.Clock
import Derived.ProofKit
import Derived.SevenTiedAt
import Derived.KernelRfl
set_option linter.unusedVariables false
set_option linter.unusedSimpArgs false
namespace Go.Proofs.YtjbibfedjhjdlaaGreatDoor
open Go
set_option maxRecDepth 100000
set_option maxHeartbeats 0
theorem fac_named : Tryz.pinned.checked.prog.funcNamed Rows.codesOutsideRow.func = some 4 := fac_named0
theorem fac_inst : Tryz.f4.isInstance Tryz.pinned.checked.prog Rows.codesOutsideRow.origin Rows.codesOutsideRow.targs := of_decide_eq_true (by kernel_rfl)
theorem fac_wrap : Tryz.f4.isWrapper Tryz.pinned.checked.prog Rows.codesOutsideRow.wrapper Rows.codesOutsideRow.mainSum := by unfold Func.isWrapper; first | (rw [if_pos (by decide +kernel)]; kernel_rfl) | (rw [if_neg (by decide +kernel)]; exact ⟨rfl, rfl⟩)
theorem card_wf : Rows.codesOutsideRow.wfByText (OpenSpec.ofChange Rows.codesOutsideSpec) = true := by kernel_rfl
theorem card_main : Tryz.pinned.checked.prog.mainIs = some (true, "150a2771c79d1c9eb91114329e4c3cfa7d511ab3c25821d00096c6dafa1c0a07".toList) := by kernel_rfl
theorem card_looks : true = Tryz.pinned.checked.prog.looks [] := by kernel_rfl
theorem card_wants : ([5, 65, 5].all fun u => !Tryz.prog.wantsStandIn u) = true := by kernel_rfl
end Go.Proofs.YtjbibfedjhjdlaaGreatDoor
