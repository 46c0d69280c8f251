/-
  Closed runs by the kernel; no condition.
-/
import Derived.Test.YtkghfmfciekbdaaGreatDoorTabs
set_option linter.unusedVariables false
set_option linter.unusedSimpArgs false
namespace Go.Proofs.YtkghfmfciekbdaaGreatDoor
open Go Go.Abs
set_option maxRecDepth 100000
set_option maxHeartbeats 0
theorem runW_run : runW = tru := by kernel_rfl
theorem run2_true_run : run2_true = tru := by kernel_rfl
theorem unit_run : runB = tru := by kernel_rfl
theorem big_run : runBig = tru := by kernel_rfl
theorem exit_run : allB (fun i => exitR (Nat.succ i)) 8 = tru := by kernel_rfl
theorem tails_run : tailRs = tru := by kernel_rfl
theorem rd0_run : allB rd0 4 = tru := by kernel_rfl
theorem rd1_run : rd1 = tru := by kernel_rfl
theorem rd1n_run : allB rd1n 4 = tru := by kernel_rfl
theorem rd2_run : rd2 = tru := by kernel_rfl
theorem lt_run : allB ltR 4 = tru := by kernel_rfl
theorem id_run : allB idR 4 = tru := by kernel_rfl
theorem on_run : allB onR 8 = tru := by kernel_rfl
theorem sh_run : allB shR 4 = tru := by kernel_rfl
end Go.Proofs.YtkghfmfciekbdaaGreatDoor
