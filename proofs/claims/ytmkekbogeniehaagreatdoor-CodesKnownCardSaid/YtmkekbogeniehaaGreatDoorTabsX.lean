/-
  More runs' tables: definitions alone.
-/
import Derived.Test.YtmkekbogeniehaaGreatDoorTabs
set_option linter.unusedVariables false
set_option linter.unusedSimpArgs false
namespace Go.Proofs.YtmkekbogeniehaaGreatDoor
open Go Go.Abs
set_option maxRecDepth 100000
noncomputable section
noncomputable def fnsX : List FnE := fnsC ++ [⟨676, Tryz.f676, false, 0⟩, ⟨765, Tryz.f765, false, 0⟩, ⟨811, Tryz.f811, false, 0⟩]
noncomputable def fnsY : List FnE := fnsA ++ [⟨676, Tryz.f676, false, 0⟩, ⟨765, Tryz.f765, false, 0⟩, ⟨811, Tryz.f811, false, 0⟩]
noncomputable def run9_x13 : Bool := rkW fnsX tab8 4 ag13
noncomputable def run9_x18 : Bool := rkW fnsX tab8 4 ag18
noncomputable def run9_x37 : Bool := rkW fnsX tab8 4 ag37
noncomputable def run10_x13 : Bool := rkW fnsY tab9 5 an13
noncomputable def run10_x18 : Bool := rkW fnsY tab9 5 an18
noncomputable def run10_x37 : Bool := rkW fnsY tab9 5 an37
end
end Go.Proofs.YtmkekbogeniehaaGreatDoor
