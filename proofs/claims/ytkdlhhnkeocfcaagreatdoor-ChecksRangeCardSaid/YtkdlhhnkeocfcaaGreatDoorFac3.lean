/-
  Closed facts on the row's function and on the card; no condition.
-/
import Derived.Test.YtkdlhhnkeocfcaaGreatDoorRows
import Derived.Test.YtkdlhhnkeocfcaaGreatDoorFac1
import Derived.Clock
import Derived.ProofKit
import Derived.SevenTiedAt
import Derived.KernelRfl
set_option linter.unusedVariables false
set_option linter.unusedSimpArgs false
namespace Go.Proofs.YtkdlhhnkeocfcaaGreatDoor
open Go
set_option maxRecDepth 100000
set_option maxHeartbeats 0
theorem fac_named : Tryz.pinned.checked.prog.funcNamed Rows.checksRangeRow.func = some 3 := fac_named0
theorem fac_inst : Tryz.f3.isInstance Tryz.pinned.checked.prog Rows.checksRangeRow.origin Rows.checksRangeRow.targs := of_decide_eq_true (by kernel_rfl)
theorem fac_wrap : Tryz.f3.isWrapper Tryz.pinned.checked.prog Rows.checksRangeRow.wrapper Rows.checksRangeRow.mainSum := by unfold Func.isWrapper; first | (rw [if_pos (by decide +kernel)]; kernel_rfl) | (rw [if_neg (by decide +kernel)]; exact ⟨rfl, rfl⟩)
theorem card_wf : Rows.checksRangeRow.wfByText (OpenSpec.ofChange Rows.checksRangeSpec) = true := by kernel_rfl
theorem card_main : Tryz.pinned.checked.prog.mainIs = some (true, "12acb51af21a75aea7c359db76e664c1d58f4142b23a8dea9ccf108561361404".toList) := by kernel_rfl
theorem card_looks : true = Tryz.pinned.checked.prog.looks [] := by kernel_rfl
theorem card_wants : ([22, 23].all fun u => !Tryz.prog.wantsStandIn u) = true := by kernel_rfl
end Go.Proofs.YtkdlhhnkeocfcaaGreatDoor
