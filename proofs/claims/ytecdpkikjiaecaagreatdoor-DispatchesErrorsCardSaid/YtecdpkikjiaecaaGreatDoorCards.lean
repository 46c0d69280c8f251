/-
  DERIVED. GIVEN WITH THE SEED: THE CARDS: each row of YtecdpkikjiaecaaGreatDoorRows.lean that lists a variable, with what it lists TIED to the program's text (the seventh form; the later family's looks); each row that meets fmt, with fmt's text TOLD by the authors' own Lean function (tested against real Go, not proved from fmt's source: count such statements apart). THE CARD IS WHAT COUNTS. Prove the row's statement (the work); the ties are given (YtecdpkikjiaecaaGreatDoorTie.lean); close each card by the builder's one call (the guide's Derived/Test/ToyasCard.lean, 'card_holds'). Laid BY PROGRAM, IN A SANDBOX (cutbox-door.mjs). By AI agents, Wed Nov 11 2026. No macro, syntax, notation, axiom, sorry.
-/
import Derived.Test.YtecdpkikjiaecaaGreatDoorRows
import GoSem.ClaimSeven
namespace Go.Proofs.YtecdpkikjiaecaaGreatDoor
namespace Rows

/-- THE TIED CARD OF 'columnsevenlaw29.DispatchesErrors'. -/
def dispatchesErrorsCard : Claim7 := { stood := { row := dispatchesErrorsRow, standIns := [], harness := (true, "a2c6adf50cbed171779696d02f70b91d06d0ab67b77ffbb157cf2e4f07dacc06"), looks := true }, kinds := [], alts := [], laidByText := true, laidKinds := [.data, .listed, .pinned, .data, .sentinel, .sentinel, .data, .data, .data, .data, .data, .data], laidTests := true, laidLooks := .later }
def DispatchesErrorsCardSaid : Prop := Claim7.holds Tryz.pinned (.plain (OpenSpec.ofChange dispatchesErrorsSpec)) dispatchesErrorsCard
end Rows
end Go.Proofs.YtecdpkikjiaecaaGreatDoor
