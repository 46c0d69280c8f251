/-
  DERIVED. GIVEN WITH THE SEED: THE CARDS: each row of YtmkekbogeniehaaGreatDoorRows.lean that lists a variable, with what it lists TIED to the program's text (the seventh form; the later family's looks); each row that meets fmt, with fmt's text TOLD by the authors' own Lean function (tested against real Go, not proved from fmt's source: count such statements apart). THE CARD IS WHAT COUNTS. Prove the row's statement (the work); the ties are given (YtmkekbogeniehaaGreatDoorTie.lean); close each card by the builder's one call (the guide's Derived/Test/ToyasCard.lean, 'card_holds'). Laid BY PROGRAM, IN A SANDBOX (cutbox-door.mjs). By AI agents, Wed Nov 11 2026. No macro, syntax, notation, axiom, sorry.
-/
import Derived.Test.YtmkekbogeniehaaGreatDoorRows
import GoSem.ClaimSeven
namespace Go.Proofs.YtmkekbogeniehaaGreatDoor
namespace Rows

/-- THE TIED CARD OF 'columnsevenlaw28.CodesKnown'. -/
def codesKnownCard : Claim7 := { stood := { row := codesKnownRow, standIns := [], harness := (true, "18aed9cc94196939d513a1ff3e71020ee8f9622373dc9fb2f74bdfde9ab48bed"), looks := true }, kinds := [], alts := [], laidByText := true, laidKinds := [.data, .data, .data, .data, .sentinel, .sentinel, .listed, .data, .data, .widerDeep, .data, .data, .pinned], laidTests := true, laidLooks := .later }
def CodesKnownCardSaid : Prop := Claim7.holds Tryz.pinned (.plain (OpenSpec.ofChange codesKnownSpec)) codesKnownCard

/-- THE SECOND FORM's CARD OF 'columnsevenlaw28.CodesKnown'. -/
def codesKnownUptoCard : Claim7 := { stood := { row := codesKnownUptoRow, standIns := [], harness := (true, "18aed9cc94196939d513a1ff3e71020ee8f9622373dc9fb2f74bdfde9ab48bed"), looks := true }, kinds := [], alts := [], laidByText := true, laidKinds := [.data, .data, .data, .data, .sentinel, .sentinel, .listed, .data, .data, .widerDeep, .data, .data, .pinned], laidTests := true, laidLooks := .later }
def CodesKnownUptoCardSaid : Prop := Claim7.holds Tryz.pinned (.plain (OpenSpec.upto codesKnownSpec)) codesKnownUptoCard
end Rows
end Go.Proofs.YtmkekbogeniehaaGreatDoor
