/-
  Closed runs by the kernel: kept calls give what is said of them; no condition.
-/
import Derived.Test.YtkadfophjfmknaaGreatDoorTabs
set_option linter.unusedVariables false
set_option linter.unusedSimpArgs false
namespace Go.Proofs.YtkadfophjfmknaaGreatDoor
open Go Go.Abs
set_option maxRecDepth 100000
set_option maxHeartbeats 0
theorem runW_run : runW = tru := by kernel_rfl
theorem run3_doa0_run : run3_doa0 = tru := by kernel_rfl
theorem run3_dom0_run : run3_dom0 = tru := by kernel_rfl
theorem run3_doa1_run : run3_doa1 = tru := by kernel_rfl
theorem run3_dom1_run : run3_dom1 = tru := by kernel_rfl
theorem run3_doa2_run : run3_doa2 = tru := by kernel_rfl
theorem run3_dom2_run : run3_dom2 = tru := by kernel_rfl
theorem run3_doa3_run : run3_doa3 = tru := by kernel_rfl
theorem run3_dom3_run : run3_dom3 = tru := by kernel_rfl
theorem run3_doa4_run : run3_doa4 = tru := by kernel_rfl
theorem run3_dom4_run : run3_dom4 = tru := by kernel_rfl
theorem run4_dat_run : run4_dat = tru := by kernel_rfl
theorem run5_lay_run : run5_lay = tru := by kernel_rfl
theorem run7_unE_run : run7_unE = tru := by kernel_rfl
theorem run9_mac_run : run9_mac = tru := by kernel_rfl
theorem run9_mac2_run : run9_mac2 = tru := by kernel_rfl
theorem run10_g0_run : run10_g0 = tru := by kernel_rfl
theorem run11_g0_run : run11_g0 = tru := by kernel_rfl
theorem run12_g0_run : run12_g0 = tru := by kernel_rfl
theorem run12_g1_run : run12_g1 = tru := by kernel_rfl
theorem run13_g0_run : run13_g0 = tru := by kernel_rfl
theorem runRoot_run : runRoot = tru := by kernel_rfl
theorem run2_true_run : run2_true = tru := by kernel_rfl
theorem run6_g11_run : run6_g11 = tru := by kernel_rfl
theorem run6_g15_run : run6_g15 = tru := by kernel_rfl
theorem run6_g19_run : run6_g19 = tru := by kernel_rfl
theorem run6_g23_run : run6_g23 = tru := by kernel_rfl
theorem run6_g27_run : run6_g27 = tru := by kernel_rfl
theorem run6_g31_run : run6_g31 = tru := by kernel_rfl
theorem run6_g35_run : run6_g35 = tru := by kernel_rfl
theorem run6_g39_run : run6_g39 = tru := by kernel_rfl
end Go.Proofs.YtkadfophjfmknaaGreatDoor
