/-
  Closed runs by the kernel: the layouts of 0 to 15 records, with symbols for their names; no condition.
-/
import Derived.Test.YtpmknbclidomjaaGreatDoorTabL
set_option linter.unusedVariables false
set_option linter.unusedSimpArgs false
namespace Go.Proofs.YtpmknbclidomjaaGreatDoor
open Go Go.Abs
set_option maxRecDepth 100000
set_option maxHeartbeats 0
theorem ents0 : entsRun 0 6 = tru := by kernel_rfl
theorem ents1 : entsRun 6 6 = tru := by kernel_rfl
theorem ents2 : entsRun 12 6 = tru := by kernel_rfl
theorem ents3 : entsRun 18 6 = tru := by kernel_rfl
theorem ents4 : entsRun 24 6 = tru := by kernel_rfl
theorem lay0_run : layRun 0 = tru := by kernel_rfl
theorem lay1_run : layRun 1 = tru := by kernel_rfl
theorem lay2_run : layRun 2 = tru := by kernel_rfl
theorem lay3_run : layRun 3 = tru := by kernel_rfl
theorem lay4_run : layRun 4 = tru := by kernel_rfl
theorem lay5_run : layRun 5 = tru := by kernel_rfl
theorem lay6_run : layRun 6 = tru := by kernel_rfl
theorem lay7_run : layRun 7 = tru := by kernel_rfl
theorem lay8_run : layRun 8 = tru := by kernel_rfl
theorem lay9_run : layRun 9 = tru := by kernel_rfl
theorem lay10_run : layRun 10 = tru := by kernel_rfl
theorem lay11_run : layRun 11 = tru := by kernel_rfl
theorem lay12_run : layRun 12 = tru := by kernel_rfl
theorem lay13_run : layRun 13 = tru := by kernel_rfl
theorem lay14_run : layRun 14 = tru := by kernel_rfl
theorem lay15_run : layRun 15 = tru := by kernel_rfl
end Go.Proofs.YtpmknbclidomjaaGreatDoor
