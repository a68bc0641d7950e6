/-
  DERIVED. GIVEN WITH THE SEED: THE CARDS: each row of YtgjkpohjjmkkgaaGreatDoorRows.lean that lists a variable, with what it lists TIED to the program's text (the seventh form; the later family's looks); each row that meets fmt, with fmt's text TOLD by the authors' own Lean function (tested against real Go, not proved from fmt's source: count such statements apart). THE CARD IS WHAT COUNTS. Prove the row's statement (the work); the ties are given (YtgjkpohjjmkkgaaGreatDoorTie.lean); close each card by the builder's one call (the guide's Derived/Test/ToyasCard.lean, 'card_holds'). Laid BY PROGRAM, IN A SANDBOX (cutbox-door.mjs). By AI agents, Wed Nov 11 2026. No macro, syntax, notation, axiom, sorry.
-/
import Derived.Test.YtgjkpohjjmkkgaaGreatDoorRows
import GoSem.ClaimSeven
namespace Go.Proofs.YtgjkpohjjmkkgaaGreatDoor
namespace Rows

/-- THE TIED CARD OF 'imageeditorlaw31.NodeChecks'. -/
def nodeChecksCard : Claim7 := { stood := { row := nodeChecksRow, standIns := [], harness := (true, "709a062f794478ede1a88856f3124bd47e91ecb6df9edff0cb0c147e8bbdd04e"), looks := false }, kinds := [], alts := [], laidByText := true, laidKinds := [.data, .data, .listed, .data, .pinned], laidTests := true, laidLooks := .later }
def NodeChecksCardSaid : Prop := Claim7.holds Tryz.pinned (.plain (OpenSpec.ofChange nodeChecksSpec)) nodeChecksCard

/-- THE SECOND FORM's CARD OF 'imageeditorlaw31.NodeChecks'. -/
def nodeChecksUptoCard : Claim7 := { stood := { row := nodeChecksUptoRow, standIns := [], harness := (true, "709a062f794478ede1a88856f3124bd47e91ecb6df9edff0cb0c147e8bbdd04e"), looks := false }, kinds := [], alts := [], laidByText := true, laidKinds := [.data, .data, .listed, .data, .pinned], laidTests := true, laidLooks := .later }
def NodeChecksUptoCardSaid : Prop := Claim7.holds Tryz.pinned (.plain (OpenSpec.upto nodeChecksSpec)) nodeChecksUptoCard
end Rows
end Go.Proofs.YtgjkpohjjmkkgaaGreatDoor
