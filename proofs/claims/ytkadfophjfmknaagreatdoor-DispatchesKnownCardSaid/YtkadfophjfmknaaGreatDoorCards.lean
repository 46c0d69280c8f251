/-
  DERIVED. GIVEN WITH THE SEED: THE CARDS: each row of YtkadfophjfmknaaGreatDoorRows.lean that lists a variable, with what it lists TIED to the program's text (the seventh form; the later family's looks); each row that meets fmt, with fmt's text TOLD by the authors' own Lean function (tested against real Go, not proved from fmt's source: count such statements apart). THE CARD IS WHAT COUNTS. Prove the row's statement (the work); the ties are given (YtkadfophjfmknaaGreatDoorTie.lean); close each card by the builder's one call (the guide's Derived/Test/ToyasCard.lean, 'card_holds'). Laid BY PROGRAM, IN A SANDBOX (cutbox-door.mjs). By AI agents, Wed Nov 11 2026. No macro, syntax, notation, axiom, sorry.
-/
import Derived.Test.YtkadfophjfmknaaGreatDoorRows
import GoSem.ClaimSeven
namespace Go.Proofs.YtkadfophjfmknaaGreatDoor
namespace Rows

/-- THE TIED CARD OF 'columnsevenlaw29.DispatchesKnown'. -/
def dispatchesKnownCard : Claim7 := { stood := { row := dispatchesKnownRow, standIns := [], harness := (true, "c88d70299aec994afcc0803d90dcff7256d8dfdb575998142dee64ae27f8f42c"), looks := true }, kinds := [], alts := [], laidByText := true, laidKinds := [.data, .data, .data, .data, .sentinel, .sentinel, .listed, .data, .data, .widerDeep, .data, .data, .pinned], laidTests := true, laidLooks := .later }
def DispatchesKnownCardSaid : Prop := Claim7.holds Tryz.pinned (.plain (OpenSpec.ofChange dispatchesKnownSpec)) dispatchesKnownCard

/-- THE SECOND FORM's CARD OF 'columnsevenlaw29.DispatchesKnown'. -/
def dispatchesKnownUptoCard : Claim7 := { stood := { row := dispatchesKnownUptoRow, standIns := [], harness := (true, "c88d70299aec994afcc0803d90dcff7256d8dfdb575998142dee64ae27f8f42c"), looks := true }, kinds := [], alts := [], laidByText := true, laidKinds := [.data, .data, .data, .data, .sentinel, .sentinel, .listed, .data, .data, .widerDeep, .data, .data, .pinned], laidTests := true, laidLooks := .later }
def DispatchesKnownUptoCardSaid : Prop := Claim7.holds Tryz.pinned (.plain (OpenSpec.upto dispatchesKnownSpec)) dispatchesKnownUptoCard
end Rows
end Go.Proofs.YtkadfophjfmknaaGreatDoor
