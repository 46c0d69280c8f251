/-
  DERIVED. GIVEN WITH THE SEED: THE CARDS: each row of YtjbibfedjhjdlaaGreatDoorRows.lean that lists a variable, with what it lists TIED to the program's text (the seventh form; the later family's looks); each row that meets fmt, with fmt's text TOLD by the authors' own Lean function (tested against real Go, not proved from fmt's source: count such statements apart). THE CARD IS WHAT COUNTS. Prove the row's statement (the work); the ties are given (YtjbibfedjhjdlaaGreatDoorTie.lean); close each card by the builder's one call (the guide's Derived/Test/ToyasCard.lean, 'card_holds'). Laid BY PROGRAM, IN A SANDBOX (cutbox-door.mjs). By AI agents, Wed Nov 11 2026. No macro, syntax, notation, axiom, sorry.
-/
import Derived.Test.YtjbibfedjhjdlaaGreatDoorRows
import GoSem.ClaimSeven
namespace Go.Proofs.YtjbibfedjhjdlaaGreatDoor
namespace Rows

/-- THE TIED CARD OF 'columnsevenlaw28.CodesErrors'. -/
def codesErrorsCard : Claim7 := { stood := { row := codesErrorsRow, standIns := [], harness := (true, "150a2771c79d1c9eb91114329e4c3cfa7d511ab3c25821d00096c6dafa1c0a07"), looks := true }, kinds := [], alts := [], laidByText := true, laidKinds := [.data, .listed, .pinned, .data, .sentinel, .sentinel, .data, .data, .data, .data, .data, .data], laidTests := true, laidLooks := .later }
def CodesErrorsCardSaid : Prop := Claim7.holds Tryz.pinned (.plain (OpenSpec.ofChange codesErrorsSpec)) codesErrorsCard

/-- THE TIED CARD OF 'columnsevenlaw28.CodesOutside'. -/
def codesOutsideCard : Claim7 := { stood := { row := codesOutsideRow, standIns := [], harness := (true, "150a2771c79d1c9eb91114329e4c3cfa7d511ab3c25821d00096c6dafa1c0a07"), looks := true }, kinds := [], alts := [], laidByText := true, laidKinds := [.data, .listed, .pinned, .data, .sentinel, .sentinel, .data, .data, .data, .data, .data, .data], laidTests := true, laidLooks := .later }
def CodesOutsideCardSaid : Prop := Claim7.holds Tryz.pinned (.plain (OpenSpec.ofChange codesOutsideSpec)) codesOutsideCard
end Rows
end Go.Proofs.YtjbibfedjhjdlaaGreatDoor
