/-
  Closed runs by the kernel: what the kept calls leave; lives() gives true; no condition.
-/
import Derived.Test.YtekonojimffbhaaGreatDoorTabs
set_option linter.unusedVariables false
set_option linter.unusedSimpArgs false
namespace Go.Proofs.YtekonojimffbhaaGreatDoor
open Go Go.Abs
set_option maxRecDepth 100000
set_option maxHeartbeats 0
theorem run2_true_run : run2_true = tru := by kernel_rfl
theorem runW_run : runW = tru := by kernel_rfl
theorem run6_mac_run : run6_mac = tru := by kernel_rfl
theorem run6_mac2_run : run6_mac2 = tru := by kernel_rfl
theorem run3_prg_run : run3_prg = tru := by kernel_rfl
theorem run4_tk0_run : run4_tk0 = tru := by kernel_rfl
theorem run4_tk1_run : run4_tk1 = tru := by kernel_rfl
theorem run7_ck0_run : run7_ck0 = tru := by kernel_rfl
theorem run7_ck1_run : run7_ck1 = tru := by kernel_rfl
theorem run7_ck2_run : run7_ck2 = tru := by kernel_rfl
theorem run7_ck3_run : run7_ck3 = tru := by kernel_rfl
theorem run7_ck4_run : run7_ck4 = tru := by kernel_rfl
theorem run8_sum_run : run8_sum = tru := by kernel_rfl
theorem run8_sum1_run : run8_sum1 = tru := by kernel_rfl
theorem run9_num0_run : run9_num0 = tru := by kernel_rfl
theorem run9_num1_run : run9_num1 = tru := by kernel_rfl
theorem run10_ctd_run : run10_ctd = tru := by kernel_rfl
theorem run10_ctc_run : run10_ctc = tru := by kernel_rfl
end Go.Proofs.YtekonojimffbhaaGreatDoor
