/-
  What the kernel ran, put together; no condition.
-/
import Derived.Test.YtkghfmfciekbdaaGreatDoorOWalk
import Derived.Test.YtkghfmfciekbdaaGreatDoorRunS
import Derived.Test.YtkghfmfciekbdaaGreatDoorRunO
import Derived.Test.YtkghfmfciekbdaaGreatDoorRunK0
import Derived.Test.YtkghfmfciekbdaaGreatDoorRunK1
import Derived.Test.YtkghfmfciekbdaaGreatDoorRunK2
import Derived.Test.YtkghfmfciekbdaaGreatDoorRunK3
import Derived.Test.YtkghfmfciekbdaaGreatDoorRunN0
import Derived.Test.YtkghfmfciekbdaaGreatDoorRunN1
set_option linter.unusedVariables false
set_option linter.unusedSimpArgs false
namespace Go.Proofs.YtkghfmfciekbdaaGreatDoor
open Go Go.Abs
set_option maxRecDepth 100000
set_option maxHeartbeats 0
theorem runs : RunsAll where
  words := runW_run
  s2_true := run2_true_run
  rounds := fun k hk => by
    match k, hk with
    | 0, _ => exact round0
    | 1, _ => exact round1
    | 2, _ => exact round2
    | 3, _ => exact round3
    | 4, _ => exact round4
    | 5, _ => exact round5
    | 6, _ => exact round6
    | 7, _ => exact round7
  exits := fun n hn h0 => by
    obtain ⟨i, rfl⟩ : ∃ i, n = i + 1 := ⟨n - 1, by omega⟩
    exact allB_true (f := fun i => exitR (Nat.succ i)) exit_run i (by omega)
  tails := tails_run
  opS := fun k j hk hj => allB_true (f := opS k) (allB_true (f := fun k => allB (opS k) 9) opS_run k hk) j hj
  opT := fun k j hk hj => allB_true (f := opT k) (allB_true (f := fun k => allB (opT k) 5) opT_run k hk) j hj
  opM := fun k hk => allB_true (f := opM) opM_run k hk
  rd0 := fun k hk => allB_true (f := rd0) rd0_run k hk
  rd1 := rd1_run
  rd1n := fun k hk => allB_true (f := rd1n) rd1n_run k hk
  rd2 := rd2_run
  lt := fun k hk => allB_true (f := ltR) lt_run k hk
  ident := fun k hk => allB_true (f := idR) id_run k hk
  opnd := fun k hk => allB_true (f := onR) on_run k hk
  shp := fun k hk => allB_true (f := shR) sh_run k hk
  unit := unit_run
  nil := fun k hk => by
    match k, hk with
    | 0, _ => exact nil0
    | 1, _ => exact nil1
    | 2, _ => exact nil2
    | 3, _ => exact nil3
    | 4, _ => exact nil4
    | 5, _ => exact nil5
    | 6, _ => exact nil6
    | 7, _ => exact nil7
    | 8, _ => exact nil8
    | 9, _ => exact nil9
  big := big_run
end Go.Proofs.YtkghfmfciekbdaaGreatDoor
