/-
  Closed runs by the kernel: kept calls give what is said of them; no condition.
-/
import Derived.Test.YtmkekbogeniehaaGreatDoorTabs
set_option linter.unusedVariables false
set_option linter.unusedSimpArgs false
namespace Go.Proofs.YtmkekbogeniehaaGreatDoor
open Go Go.Abs
set_option maxRecDepth 100000
set_option maxHeartbeats 0
theorem runW_run : runW = tru := by kernel_rfl
theorem run3_dat_run : run3_dat = tru := by kernel_rfl
theorem run4_lay_run : run4_lay = tru := by kernel_rfl
theorem run5_tabPic_run : run5_tabPic = tru := by kernel_rfl
theorem run8_mac_run : run8_mac = tru := by kernel_rfl
theorem run8_mac2_run : run8_mac2 = tru := by kernel_rfl
theorem runRoot_run : runRoot = tru := by kernel_rfl
end Go.Proofs.YtmkekbogeniehaaGreatDoor
