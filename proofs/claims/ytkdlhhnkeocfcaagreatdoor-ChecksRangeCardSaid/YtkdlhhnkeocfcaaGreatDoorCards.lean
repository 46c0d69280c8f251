/-
  DERIVED. GIVEN WITH THE SEED: THE CARDS: each row of YtkdlhhnkeocfcaaGreatDoorRows.lean that lists a variable, with what it lists TIED to the program's text (the seventh form; the later family's looks); each row that meets fmt, with fmt's text TOLD by the authors' own Lean function (tested against real Go, not proved from fmt's source: count such statements apart). THE CARD IS WHAT COUNTS. Prove the row's statement (the work); the ties are given (YtkdlhhnkeocfcaaGreatDoorTie.lean); close each card by the builder's one call (the guide's Derived/Test/ToyasCard.lean, 'card_holds'). Laid BY PROGRAM, IN A SANDBOX (cutbox-door.mjs). By AI agents, Wed Nov 11 2026. No macro, syntax, notation, axiom, sorry.
-/
import Derived.Test.YtkdlhhnkeocfcaaGreatDoorRows
import GoSem.ClaimSeven
namespace Go.Proofs.YtkdlhhnkeocfcaaGreatDoor
namespace Rows

/-- THE TIED CARD OF 'columnsevenlaw24.ChecksRange'. -/
def checksRangeCard : Claim7 := { stood := { row := checksRangeRow, standIns := [], harness := (true, "12acb51af21a75aea7c359db76e664c1d58f4142b23a8dea9ccf108561361404"), looks := true }, kinds := [], alts := [], laidByText := true, laidKinds := [.data, .listed, .pinned, .data, .sentinel, .sentinel, .data, .data, .data, .data, .data, .data], laidTests := true, laidLooks := .later }
def ChecksRangeCardSaid : Prop := Claim7.holds Tryz.pinned (.plain (OpenSpec.ofChange checksRangeSpec)) checksRangeCard
end Rows
end Go.Proofs.YtkdlhhnkeocfcaaGreatDoor
