/-
  Two closed runs by the kernel: words.table() gives its table, lives() gives true; no condition.
-/
import Derived.Test.YtefnobgpfbcloaaGreatDoorTabs
set_option linter.unusedVariables false
set_option linter.unusedSimpArgs false
namespace Go.Proofs.YtefnobgpfbcloaaGreatDoor
open Go Go.Abs
set_option maxRecDepth 100000
set_option maxHeartbeats 0
theorem words_run : mkTblW Tryz.prog [] 434 127 fnsW tab0 (fun t => runF t 50 358 [] hs (isMapK wordsMs wordsClock) (fun _ _ => false)) = tru := by kernel_rfl
theorem lives_run : mkTblW Tryz.prog [] 434 127 fnsL tab1 (fun t => runF t 60 9 [] hs isTrueK (fun _ _ => false)) = tru := by kernel_rfl
end Go.Proofs.YtefnobgpfbcloaaGreatDoor
