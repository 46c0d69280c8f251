/-
  DERIVED. GIVEN WITH THE SEED: THE CARDS: each row of YtgadddljaneilaaGreatDoorRows.lean that lists a variable, with what it lists TIED to the program's text (the seventh form; the later family's looks); each row that meets fmt, with fmt's text TOLD by the authors' own Lean function (tested against real Go, not proved from fmt's source: count such statements apart). THE CARD IS WHAT COUNTS. Prove the row's statement (the work); the ties are given (YtgadddljaneilaaGreatDoorTie.lean); close each card by the builder's one call (the guide's Derived/Test/ToyasCard.lean, 'card_holds'). Laid BY PROGRAM, IN A SANDBOX (cutbox-door.mjs). By AI agents, Wed Nov 11 2026. No macro, syntax, notation, axiom, sorry.
-/
import Derived.Test.YtgadddljaneilaaGreatDoorRows
import GoSem.ClaimSeven
namespace Go.Proofs.YtgadddljaneilaaGreatDoor
namespace Rows

/-- THE TIED CARD OF 'columnsevenlaw25.MachinesOutside'. -/
def machinesOutsideCard : Claim7 := { stood := { row := machinesOutsideRow, standIns := [], harness := (true, "8d75547715a4c17782b5d8d77eecc7732500609e67af49444bae7e42b6ec9170"), looks := true }, kinds := [], alts := [], laidByText := true, laidKinds := [.data, .listed, .pinned, .data, .sentinel, .sentinel, .data, .data, .data, .data, .data, .data], laidTests := true, laidLooks := .later }
def MachinesOutsideCardSaid : Prop := Claim7.holds Tryz.pinned (.plain (OpenSpec.ofChange machinesOutsideSpec)) machinesOutsideCard

/-- THE TIED CARD OF 'columnsevenlaw26.InterpretersOutside'. -/
def interpretersOutsideCard : Claim7 := { stood := { row := interpretersOutsideRow, standIns := [], harness := (true, "8d75547715a4c17782b5d8d77eecc7732500609e67af49444bae7e42b6ec9170"), looks := true }, kinds := [], alts := [], laidByText := true, laidKinds := [.data, .data, .data, .data, .listed, .pinned, .data, .sentinel, .sentinel, .data, .data, .data], laidTests := true, laidLooks := .later }
def InterpretersOutsideCardSaid : Prop := Claim7.holds Tryz.pinned (.plain (OpenSpec.ofChange interpretersOutsideSpec)) interpretersOutsideCard
end Rows
end Go.Proofs.YtgadddljaneilaaGreatDoor
