/-
  DERIVED. GIVEN WITH THE SEED: THE CARDS: each row of YtkghfmfciekbdaaGreatDoorRows.lean that lists a variable, with what it lists TIED to the program's text (the seventh form; the later family's looks); each row that meets fmt, with fmt's text TOLD by the authors' own Lean function (tested against real Go, not proved from fmt's source: count such statements apart). THE CARD IS WHAT COUNTS. Prove the row's statement (the work); the ties are given (YtkghfmfciekbdaaGreatDoorTie.lean); close each card by the builder's one call (the guide's Derived/Test/ToyasCard.lean, 'card_holds'). Laid BY PROGRAM, IN A SANDBOX (cutbox-door.mjs). By AI agents, Wed Nov 11 2026. No macro, syntax, notation, axiom, sorry.
-/
import Derived.Test.YtkghfmfciekbdaaGreatDoorRows
import GoSem.ClaimSeven
namespace Go.Proofs.YtkghfmfciekbdaaGreatDoor
namespace Rows

/-- THE TIED CARD OF 'columnsevenlaw24.ChecksOperands'. -/
def checksOperandsCard : Claim7 := { stood := { row := checksOperandsRow, standIns := [], harness := (true, "afb948e7fc0e29bd37844dfa6d601f4b018aaecb6a43109458d9e226e6a4e74b"), looks := true }, kinds := [], alts := [], laidByText := true, laidKinds := [.data, .data, .data, .data, .sentinel, .sentinel, .listed, .data, .data, .widerDeep, .data, .data, .pinned], laidTests := true, laidLooks := .later }
def ChecksOperandsCardSaid : Prop := Claim7.holds Tryz.pinned (.plain (OpenSpec.ofChange checksOperandsSpec)) checksOperandsCard

/-- THE SECOND FORM's CARD OF 'columnsevenlaw24.ChecksOperands'. -/
def checksOperandsUptoCard : Claim7 := { stood := { row := checksOperandsUptoRow, standIns := [], harness := (true, "afb948e7fc0e29bd37844dfa6d601f4b018aaecb6a43109458d9e226e6a4e74b"), looks := true }, kinds := [], alts := [], laidByText := true, laidKinds := [.data, .data, .data, .data, .sentinel, .sentinel, .listed, .data, .data, .widerDeep, .data, .data, .pinned], laidTests := true, laidLooks := .later }
def ChecksOperandsUptoCardSaid : Prop := Claim7.holds Tryz.pinned (.plain (OpenSpec.upto checksOperandsSpec)) checksOperandsUptoCard
end Rows
end Go.Proofs.YtkghfmfciekbdaaGreatDoor
