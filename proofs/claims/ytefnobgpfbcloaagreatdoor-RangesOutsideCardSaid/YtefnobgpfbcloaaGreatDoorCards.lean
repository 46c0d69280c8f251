/-
  DERIVED. GIVEN WITH THE SEED: THE CARDS: each row of YtefnobgpfbcloaaGreatDoorRows.lean that lists a variable, with what it lists TIED to the program's text (the seventh form; the later family's looks); each row that meets fmt, with fmt's text TOLD by the authors' own Lean function (tested against real Go, not proved from fmt's source: count such statements apart). THE CARD IS WHAT COUNTS. Prove the row's statement (the work); the ties are given (YtefnobgpfbcloaaGreatDoorTie.lean); close each card by the builder's one call (the guide's Derived/Test/ToyasCard.lean, 'card_holds'). Laid BY PROGRAM, IN A SANDBOX (cutbox-door.mjs). By AI agents, Wed Nov 11 2026. No macro, syntax, notation, axiom, sorry.
-/
import Derived.Test.YtefnobgpfbcloaaGreatDoorRows
import GoSem.ClaimSeven
namespace Go.Proofs.YtefnobgpfbcloaaGreatDoor
namespace Rows

/-- THE TIED CARD OF 'columnsevenlaw27.RangesOutside'. -/
def rangesOutsideCard : Claim7 := { stood := { row := rangesOutsideRow, standIns := [], harness := (true, "d66975ecf74eb2f28f1f6a82839b8447912a00f79ead62ce6917a4c9c881216c"), looks := true }, kinds := [], alts := [], laidByText := true, laidKinds := [.data, .listed, .pinned, .data, .data, .data, .data, .sentinel, .sentinel, .data, .data, .data], laidTests := true, laidLooks := .later }
def RangesOutsideCardSaid : Prop := Claim7.holds Tryz.pinned (.plain (OpenSpec.ofChange rangesOutsideSpec)) rangesOutsideCard
end Rows
end Go.Proofs.YtefnobgpfbcloaaGreatDoor
