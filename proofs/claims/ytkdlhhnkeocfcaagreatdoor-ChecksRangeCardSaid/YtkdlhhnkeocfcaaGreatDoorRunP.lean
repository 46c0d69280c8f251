/-
  Closed runs by the kernel: what the kept calls leave; names; a long list; no condition.
-/
import Derived.Test.YtkdlhhnkeocfcaaGreatDoorTabs
set_option linter.unusedVariables false
set_option linter.unusedSimpArgs false
namespace Go.Proofs.YtkdlhhnkeocfcaaGreatDoor
open Go Go.Abs
set_option maxRecDepth 100000
set_option maxHeartbeats 0
theorem run3_ps00_run : run3_ps00 = tru := by kernel_rfl
theorem run3_ps01_run : run3_ps01 = tru := by kernel_rfl
theorem run3_ps02_run : run3_ps02 = tru := by kernel_rfl
theorem run3_ps03_run : run3_ps03 = tru := by kernel_rfl
theorem run3_ps10_run : run3_ps10 = tru := by kernel_rfl
theorem run3_ps11_run : run3_ps11 = tru := by kernel_rfl
theorem run3_ps12_run : run3_ps12 = tru := by kernel_rfl
theorem run3_ps13_run : run3_ps13 = tru := by kernel_rfl
theorem run3_ps20_run : run3_ps20 = tru := by kernel_rfl
theorem run3_ps21_run : run3_ps21 = tru := by kernel_rfl
theorem run3_ps22_run : run3_ps22 = tru := by kernel_rfl
theorem run3_ps23_run : run3_ps23 = tru := by kernel_rfl
theorem run3_ps30_run : run3_ps30 = tru := by kernel_rfl
theorem run3_ps31_run : run3_ps31 = tru := by kernel_rfl
theorem run3_ps32_run : run3_ps32 = tru := by kernel_rfl
theorem run3_ps33_run : run3_ps33 = tru := by kernel_rfl
theorem nm0 : runN 0 = tru := by kernel_rfl
theorem sc0 : runD 0 = tru := by kernel_rfl
theorem nm1 : runN 1 = tru := by kernel_rfl
theorem sc1 : runD 1 = tru := by kernel_rfl
theorem nm2 : runN 2 = tru := by kernel_rfl
theorem sc2 : runD 2 = tru := by kernel_rfl
theorem nm3 : runN 3 = tru := by kernel_rfl
theorem sc3 : runD 3 = tru := by kernel_rfl
theorem big_run : runBig = tru := by kernel_rfl
end Go.Proofs.YtkdlhhnkeocfcaaGreatDoor
