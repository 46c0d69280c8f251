/-
  Closed runs by the kernel: what the kept calls leave; a long list; no condition.
-/
import Derived.Test.YtpmknbclidomjaaGreatDoorTabs
set_option linter.unusedVariables false
set_option linter.unusedSimpArgs false
namespace Go.Proofs.YtpmknbclidomjaaGreatDoor
open Go Go.Abs
set_option maxRecDepth 100000
set_option maxHeartbeats 0
theorem run3_tabPic_run : run3_tabPic = tru := by kernel_rfl
theorem run4_tabName_run : run4_tabName = tru := by kernel_rfl
theorem run5_prg_run : run5_prg = tru := by kernel_rfl
theorem run6_tf0_run : run6_tf0 = tru := by kernel_rfl
theorem run6_tf1_run : run6_tf1 = tru := by kernel_rfl
theorem run6_tf2_run : run6_tf2 = tru := by kernel_rfl
theorem run6_tf3_run : run6_tf3 = tru := by kernel_rfl
theorem run6_tf4_run : run6_tf4 = tru := by kernel_rfl
theorem run6_tf5_run : run6_tf5 = tru := by kernel_rfl
theorem run7_pf0_run : run7_pf0 = tru := by kernel_rfl
theorem run7_pf1_run : run7_pf1 = tru := by kernel_rfl
theorem run7_pf2_run : run7_pf2 = tru := by kernel_rfl
theorem run7_pf3_run : run7_pf3 = tru := by kernel_rfl
theorem run7_pf4_run : run7_pf4 = tru := by kernel_rfl
theorem run7_pf5_run : run7_pf5 = tru := by kernel_rfl
theorem run8_sc0_run : run8_sc0 = tru := by kernel_rfl
theorem run8_sc1_run : run8_sc1 = tru := by kernel_rfl
theorem run8_sc2_run : run8_sc2 = tru := by kernel_rfl
theorem run8_sc3_run : run8_sc3 = tru := by kernel_rfl
theorem run8_sc4_run : run8_sc4 = tru := by kernel_rfl
theorem run8_sc5_run : run8_sc5 = tru := by kernel_rfl
theorem big_run : runBig = tru := by kernel_rfl
end Go.Proofs.YtpmknbclidomjaaGreatDoor
