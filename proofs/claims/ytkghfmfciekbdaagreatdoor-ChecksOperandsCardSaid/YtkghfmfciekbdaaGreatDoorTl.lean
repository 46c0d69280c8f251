/-
  A closed fact of the tie of the card; no condition.
-/
import Derived.Test.YtkghfmfciekbdaaGreatDoorTa
import Derived.KernelRfl
import Derived.Test.YtkghfmfciekbdaaGreatDoorTb
import Derived.Test.YtkghfmfciekbdaaGreatDoorTe
import Derived.Test.YtkghfmfciekbdaaGreatDoorTf
import Derived.Test.YtkghfmfciekbdaaGreatDoorTg
import Derived.Test.YtkghfmfciekbdaaGreatDoorTi
import Derived.Test.YtkghfmfciekbdaaGreatDoorTj
import Derived.Test.YtkghfmfciekbdaaGreatDoorTk
set_option linter.unusedVariables false
set_option linter.unusedSimpArgs false
namespace Go.Proofs.YtkghfmfciekbdaaGreatDoor
open Go
set_option maxRecDepth 100000
set_option maxHeartbeats 0
theorem tie_hk : tieLaid.map (fun x => Tryz.prog.kindOfLater x.1) = tieKinds.map some := by
  unfold tieLaid tieKinds
  simp only [List.map_cons, List.map_nil, tie_k0, tie_k1, tie_k2, tie_k3, tie_k4, tie_k5, tie_k6, tie_k7, tie_k8, tie_k9, tie_k10, tie_k11]
theorem tie_h2 : ∀ os tape, (DataW.laidRun Tryz.prog (varsWorld Tryz.prog 400 515 os tape).memory 8 (tieLaid.map (·.1))).map (fun x => decide x.2.Nodup && laidRowsB Tryz.prog (varsWorld Tryz.prog 400 515 os tape).memory x.2) = some true := fun os tape => by
  have h1 := tie_h2a os tape
  have h2 := tie_h2b os tape
  generalize (DataW.laidRun Tryz.prog (varsWorld Tryz.prog 400 515 os tape).memory 8 (tieLaid.map (·.1))) = r at h1 h2 ⊢
  cases r with
  | none => cases h1
  | some x =>
    have h1 : some (decide x.2.Nodup) = some true := h1
    have h2 : some (laidRowsB Tryz.prog (varsWorld Tryz.prog 400 515 os tape).memory x.2) = some true := h2
    show some (decide x.2.Nodup && laidRowsB Tryz.prog (varsWorld Tryz.prog 400 515 os tape).memory x.2) = some true
    rw [Option.some.inj h1, Option.some.inj h2]
    rfl
theorem tie_of (n : FuncId) (hv : varsId Tryz.prog = n) (hn : varsNamedLaterB Tryz.prog n tieLaid = true) (hd : ∀ os tape, varsDone Tryz.prog 400 n os tape = true)
    (h1 : ∀ os tape, (DataW.laidRun Tryz.prog (varsWorld Tryz.prog 400 n os tape).memory 8 (tieLaid.map (·.1))).map (·.1) = some tieLaid)
    (h2 : ∀ os tape, (DataW.laidRun Tryz.prog (varsWorld Tryz.prog 400 n os tape).memory 8 (tieLaid.map (·.1))).map (fun x => decide x.2.Nodup && laidRowsB Tryz.prog (varsWorld Tryz.prog 400 n os tape).memory x.2) = some true) :
    Tryz.prog.laidByTextLater tieLaid tieKinds true := by
  subst hv
  exact Program.laidByTextLater_by_run 400 8 tie_hw tie_hw' tie_hroot tie_hk tie_hg hn hd h1 h2
theorem tie : Tryz.prog.laidByTextLater tieLaid tieKinds true := tie_of 515 tie_v tie_hnK tie_hdK tie_h1K tie_h2
end Go.Proofs.YtkghfmfciekbdaaGreatDoor
