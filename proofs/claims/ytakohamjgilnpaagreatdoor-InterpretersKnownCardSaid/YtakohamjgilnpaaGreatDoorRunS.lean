/-
  Closed runs by the kernel: kept calls give what is said of them; no condition.
-/
import Derived.Test.YtakohamjgilnpaaGreatDoorTabs
set_option linter.unusedVariables false
set_option linter.unusedSimpArgs false
namespace Go.Proofs.YtakohamjgilnpaaGreatDoor
open Go Go.Abs
set_option maxRecDepth 100000
set_option maxHeartbeats 0
theorem runW_run : runW = tru := by kernel_rfl
theorem run3_dat_run : run3_dat = tru := by kernel_rfl
theorem run4_lay_run : run4_lay = tru := by kernel_rfl
theorem run6_mac_run : run6_mac = tru := by kernel_rfl
theorem run8_g0_run : run8_g0 = tru := by kernel_rfl
theorem run9_g0_run : run9_g0 = tru := by kernel_rfl
theorem run10_g0_run : run10_g0 = tru := by kernel_rfl
theorem run2_true_run : run2_true = tru := by kernel_rfl
theorem runRoot_run : runRoot = tru := by kernel_rfl
end Go.Proofs.YtakohamjgilnpaaGreatDoor
