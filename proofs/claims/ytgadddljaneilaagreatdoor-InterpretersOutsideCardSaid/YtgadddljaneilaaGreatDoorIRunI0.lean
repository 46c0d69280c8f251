/-
  Closed runs by the kernel: InterpretersOutside gives true where the last number has the rest 0 by six: each rest by four of the other numbers; no condition.
-/
import Derived.Test.YtgadddljaneilaaGreatDoorITabs
set_option linter.unusedVariables false
set_option linter.unusedSimpArgs false
namespace Go.Proofs.YtgadddljaneilaaGreatDoor
open Go Go.Abs
set_option maxRecDepth 100000
set_option maxHeartbeats 0
theorem run_0_0_0 : caseI 0 0 0 = tru := by kernel_rfl
theorem run_0_0_1 : caseI 0 1 0 = tru := by kernel_rfl
theorem run_0_0_2 : caseI 0 2 0 = tru := by kernel_rfl
theorem run_0_0_3 : caseI 0 3 0 = tru := by kernel_rfl
theorem run_0_1_0 : caseI 1 0 0 = tru := by kernel_rfl
theorem run_0_1_1 : caseI 1 1 0 = tru := by kernel_rfl
theorem run_0_1_2 : caseI 1 2 0 = tru := by kernel_rfl
theorem run_0_1_3 : caseI 1 3 0 = tru := by kernel_rfl
theorem run_0_2_0 : caseI 2 0 0 = tru := by kernel_rfl
theorem run_0_2_1 : caseI 2 1 0 = tru := by kernel_rfl
theorem run_0_2_2 : caseI 2 2 0 = tru := by kernel_rfl
theorem run_0_2_3 : caseI 2 3 0 = tru := by kernel_rfl
theorem run_0_3_0 : caseI 3 0 0 = tru := by kernel_rfl
theorem run_0_3_1 : caseI 3 1 0 = tru := by kernel_rfl
theorem run_0_3_2 : caseI 3 2 0 = tru := by kernel_rfl
theorem run_0_3_3 : caseI 3 3 0 = tru := by kernel_rfl
theorem runs_0 : ∀ x a : Nat, x < 4 → a < 4 → caseI x a 0 = true := fun x a hx ha => by
  match x, a, hx, ha with
  | 0, 0, _, _ => exact run_0_0_0
  | 0, 1, _, _ => exact run_0_0_1
  | 0, 2, _, _ => exact run_0_0_2
  | 0, 3, _, _ => exact run_0_0_3
  | 0, a + 4, _, ha => omega
  | 1, 0, _, _ => exact run_0_1_0
  | 1, 1, _, _ => exact run_0_1_1
  | 1, 2, _, _ => exact run_0_1_2
  | 1, 3, _, _ => exact run_0_1_3
  | 1, a + 4, _, ha => omega
  | 2, 0, _, _ => exact run_0_2_0
  | 2, 1, _, _ => exact run_0_2_1
  | 2, 2, _, _ => exact run_0_2_2
  | 2, 3, _, _ => exact run_0_2_3
  | 2, a + 4, _, ha => omega
  | 3, 0, _, _ => exact run_0_3_0
  | 3, 1, _, _ => exact run_0_3_1
  | 3, 2, _, _ => exact run_0_3_2
  | 3, 3, _, _ => exact run_0_3_3
  | 3, a + 4, _, ha => omega
  | x + 4, _, hx, _ => omega
end Go.Proofs.YtgadddljaneilaaGreatDoor
