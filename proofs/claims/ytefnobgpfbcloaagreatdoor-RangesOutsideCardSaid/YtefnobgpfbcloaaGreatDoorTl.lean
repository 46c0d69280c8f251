/-
  The tie of the program: the listed variables lie as the program's text lays them; no condition.
-/
import Derived.Test.YtefnobgpfbcloaaGreatDoorTa
import Derived.Test.YtefnobgpfbcloaaGreatDoorTb
import Derived.Test.YtefnobgpfbcloaaGreatDoorTc
import Derived.Test.YtefnobgpfbcloaaGreatDoorTd
import Derived.Test.YtefnobgpfbcloaaGreatDoorTe
import Derived.Test.YtefnobgpfbcloaaGreatDoorTf
import Derived.Test.YtefnobgpfbcloaaGreatDoorTg
import Derived.Test.YtefnobgpfbcloaaGreatDoorTh
import Derived.Test.YtefnobgpfbcloaaGreatDoorTi
import Derived.Test.YtefnobgpfbcloaaGreatDoorTj
import Derived.Test.YtefnobgpfbcloaaGreatDoorTk
namespace Go.Proofs.YtefnobgpfbcloaaGreatDoor
open Go
theorem tie_h2 : ∀ os tape, (DataW.laidRun Tryz.prog (varsWorld Tryz.prog 400 (varsId Tryz.prog) os tape).memory 8 (tieLaid.map (·.1))).map (fun x => decide x.2.Nodup && laidRowsB Tryz.prog (varsWorld Tryz.prog 400 (varsId Tryz.prog) os tape).memory x.2) = some true := fun os tape => by
  have h1 := tie_h2a os tape
  have h2 := tie_h2b os tape
  generalize (DataW.laidRun Tryz.prog (varsWorld Tryz.prog 400 (varsId Tryz.prog) os tape).memory 8 (tieLaid.map (·.1))) = r at h1 h2 ⊢
  cases r with
  | none => cases h1
  | some x =>
    have h1 : some (decide x.2.Nodup) = some true := h1
    have h2 : some (laidRowsB Tryz.prog (varsWorld Tryz.prog 400 (varsId Tryz.prog) os tape).memory x.2) = some true := h2
    show some (decide x.2.Nodup && laidRowsB Tryz.prog (varsWorld Tryz.prog 400 (varsId Tryz.prog) os tape).memory x.2) = some true
    rw [Option.some.inj h1, Option.some.inj h2]
    rfl
theorem tie : Tryz.prog.laidByTextLater tieLaid tieKinds true :=
  Program.laidByTextLater_by_run 400 8 tie_hw tie_hw' tie_hroot tie_hk tie_hg tie_hn tie_hd tie_h1 tie_h2
end Go.Proofs.YtefnobgpfbcloaaGreatDoor
