/-
  DERIVED. GIVEN WITH THE SEED: THE CARDS: each row of YtkmmjpnfhaecdaaGreatDoorRows.lean that lists a variable, with what it lists TIED to the program's text (the seventh form; the later family's looks); each row that meets fmt, with fmt's text TOLD by the authors' own Lean function (tested against real Go, not proved from fmt's source: count such statements apart). THE CARD IS WHAT COUNTS. Prove the row's statement (the work); the ties are given (YtkmmjpnfhaecdaaGreatDoorTie.lean); close each card by the builder's one call (the guide's Derived/Test/ToyasCard.lean, 'card_holds'). Laid BY PROGRAM, IN A SANDBOX (cutbox-door.mjs). By AI agents, Wed Nov 11 2026. No macro, syntax, notation, axiom, sorry.
-/
import Derived.Test.YtkmmjpnfhaecdaaGreatDoorRows
import GoSem.ClaimSeven
namespace Go.Proofs.YtkmmjpnfhaecdaaGreatDoor
namespace Rows

/-- THE TIED CARD OF 'imageeditorlaw32.DocumentMoves'. -/
def documentMovesCard : Claim7 := { stood := { row := documentMovesRow, standIns := [], harness := (true, "c2831d105bf8e8f5d2531bd52e35a9094a9d0a184352298467fcbfe830d4ad19"), looks := false }, kinds := [], alts := [], laidByText := true, laidKinds := [.data, .data, .listed, .data, .pinned], laidTests := true, laidLooks := .later }
def DocumentMovesCardSaid : Prop := Claim7.holds Tryz.pinned (.plain (OpenSpec.ofChange documentMovesSpec)) documentMovesCard

/-- THE SECOND FORM's CARD OF 'imageeditorlaw32.DocumentMoves'. -/
def documentMovesUptoCard : Claim7 := { stood := { row := documentMovesUptoRow, standIns := [], harness := (true, "c2831d105bf8e8f5d2531bd52e35a9094a9d0a184352298467fcbfe830d4ad19"), looks := false }, kinds := [], alts := [], laidByText := true, laidKinds := [.data, .data, .listed, .data, .pinned], laidTests := true, laidLooks := .later }
def DocumentMovesUptoCardSaid : Prop := Claim7.holds Tryz.pinned (.plain (OpenSpec.upto documentMovesSpec)) documentMovesUptoCard
end Rows
end Go.Proofs.YtkmmjpnfhaecdaaGreatDoor
