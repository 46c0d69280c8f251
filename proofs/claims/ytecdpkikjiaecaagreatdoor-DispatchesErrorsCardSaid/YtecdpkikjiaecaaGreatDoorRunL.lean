/-
  Two closed runs by the kernel: words.table() gives its table, lives() gives true; no condition.
-/
import Derived.Test.YtecdpkikjiaecaaGreatDoorTabs
set_option linter.unusedVariables false
set_option linter.unusedSimpArgs false
namespace Go.Proofs.YtecdpkikjiaecaaGreatDoor
open Go Go.Abs
set_option maxRecDepth 100000
set_option maxHeartbeats 0
theorem words_run : mkTblZ Tryz.prog [] (668, 270) 77 fnsW tab0 (fun t => runF t 50 540 [] hs (isMapK wordsMs wordsClock) (fun _ _ => false)) = tru := by kernel_rfl
theorem lives_run : mkTblZ Tryz.prog [] (668, 270) 77 fnsL tab1 (fun t => runF t 60 10 [] hs isTrueK (fun _ _ => false)) = tru := by kernel_rfl
end Go.Proofs.YtecdpkikjiaecaaGreatDoor
