/-
  DERIVED. GIVEN WITH THE SEED: THE CARDS: each row of YtekonojimffbhaaGreatDoorRows.lean that lists a variable, with what it lists TIED to the program's text (the seventh form; the later family's looks); each row that meets fmt, with fmt's text TOLD by the authors' own Lean function (tested against real Go, not proved from fmt's source: count such statements apart). THE CARD IS WHAT COUNTS. Prove the row's statement (the work); the ties are given (YtekonojimffbhaaGreatDoorTie.lean); close each card by the builder's one call (the guide's Derived/Test/ToyasCard.lean, 'card_holds'). Laid BY PROGRAM, IN A SANDBOX (cutbox-door.mjs). By AI agents, Wed Nov 11 2026. No macro, syntax, notation, axiom, sorry.
-/
import Derived.Test.YtekonojimffbhaaGreatDoorRows
import GoSem.ClaimSeven
namespace Go.Proofs.YtekonojimffbhaaGreatDoor
namespace Rows

/-- THE TIED CARD OF 'columnsevenlaw29.DispatchesOutside'. -/
def dispatchesOutsideCard : Claim7 := { stood := { row := dispatchesOutsideRow, standIns := [], harness := (true, "98c8338aeb9877b4bc8c070af55dbdb99749c4dbe255186e9c6af4591f696c91"), looks := true }, kinds := [], alts := [], laidByText := true, laidKinds := [.data, .listed, .pinned, .data, .sentinel, .sentinel, .data, .data, .data, .data, .data, .data], laidTests := true, laidLooks := .later }
def DispatchesOutsideCardSaid : Prop := Claim7.holds Tryz.pinned (.plain (OpenSpec.ofChange dispatchesOutsideSpec)) dispatchesOutsideCard
end Rows
end Go.Proofs.YtekonojimffbhaaGreatDoor
