/-
  DERIVED. GIVEN WITH THE SEED: THE CARDS: each row of YtpmknbclidomjaaGreatDoorRows.lean that lists a variable, with what it lists TIED to the program's text (the seventh form; the later family's looks); each row that meets fmt, with fmt's text TOLD by the authors' own Lean function (tested against real Go, not proved from fmt's source: count such statements apart). THE CARD IS WHAT COUNTS. Prove the row's statement (the work); the ties are given (YtpmknbclidomjaaGreatDoorTie.lean); close each card by the builder's one call (the guide's Derived/Test/ToyasCard.lean, 'card_holds'). Laid BY PROGRAM, IN A SANDBOX (cutbox-door.mjs). By AI agents, Wed Nov 11 2026. No macro, syntax, notation, axiom, sorry.
-/
import Derived.Test.YtpmknbclidomjaaGreatDoorRows
import GoSem.ClaimSeven
namespace Go.Proofs.YtpmknbclidomjaaGreatDoor
namespace Rows

/-- THE TIED CARD OF 'columnsevenlaw24.ChecksFiles'. -/
def checksFilesCard : Claim7 := { stood := { row := checksFilesRow, standIns := [], harness := (true, "73d8a5311b92df8531e95212b172f168187b7a4ae495ebfa5f8ab52845135fa0"), looks := true }, kinds := [], alts := [], laidByText := true, laidKinds := [.data, .listed, .pinned, .data, .sentinel, .sentinel, .data, .data, .data, .data, .data, .data], laidTests := true, laidLooks := .later }
def ChecksFilesCardSaid : Prop := Claim7.holds Tryz.pinned (.plain (OpenSpec.ofChange checksFilesSpec)) checksFilesCard
end Rows
end Go.Proofs.YtpmknbclidomjaaGreatDoor
