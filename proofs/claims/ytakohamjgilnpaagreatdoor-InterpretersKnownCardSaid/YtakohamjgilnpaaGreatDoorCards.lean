/-
  DERIVED. GIVEN WITH THE SEED: THE CARDS: each row of YtakohamjgilnpaaGreatDoorRows.lean that lists a variable, with what it lists TIED to the program's text (the seventh form; the later family's looks); each row that meets fmt, with fmt's text TOLD by the authors' own Lean function (tested against real Go, not proved from fmt's source: count such statements apart). THE CARD IS WHAT COUNTS. Prove the row's statement (the work); the ties are given (YtakohamjgilnpaaGreatDoorTie.lean); close each card by the builder's one call (the guide's Derived/Test/ToyasCard.lean, 'card_holds'). Laid BY PROGRAM, IN A SANDBOX (cutbox-door.mjs). By AI agents, Wed Nov 11 2026. No macro, syntax, notation, axiom, sorry.
-/
import Derived.Test.YtakohamjgilnpaaGreatDoorRows
import GoSem.ClaimSeven
namespace Go.Proofs.YtakohamjgilnpaaGreatDoor
namespace Rows

/-- THE TIED CARD OF 'columnsevenlaw26.InterpretersKnown'. -/
def interpretersKnownCard : Claim7 := { stood := { row := interpretersKnownRow, standIns := [], harness := (true, "bc75877abcb45bfca931938edc00dd2a81dc77981b5ab9b2b96092d5a9756061"), looks := true }, kinds := [], alts := [], laidByText := true, laidKinds := [.data, .data, .data, .data, .sentinel, .sentinel, .listed, .data, .data, .widerDeep, .data, .data, .pinned], laidTests := true, laidLooks := .later }
def InterpretersKnownCardSaid : Prop := Claim7.holds Tryz.pinned (.plain (OpenSpec.ofChange interpretersKnownSpec)) interpretersKnownCard

/-- THE SECOND FORM's CARD OF 'columnsevenlaw26.InterpretersKnown'. -/
def interpretersKnownUptoCard : Claim7 := { stood := { row := interpretersKnownUptoRow, standIns := [], harness := (true, "bc75877abcb45bfca931938edc00dd2a81dc77981b5ab9b2b96092d5a9756061"), looks := true }, kinds := [], alts := [], laidByText := true, laidKinds := [.data, .data, .data, .data, .sentinel, .sentinel, .listed, .data, .data, .widerDeep, .data, .data, .pinned], laidTests := true, laidLooks := .later }
def InterpretersKnownUptoCardSaid : Prop := Claim7.holds Tryz.pinned (.plain (OpenSpec.upto interpretersKnownSpec)) interpretersKnownUptoCard
end Rows
end Go.Proofs.YtakohamjgilnpaaGreatDoor
