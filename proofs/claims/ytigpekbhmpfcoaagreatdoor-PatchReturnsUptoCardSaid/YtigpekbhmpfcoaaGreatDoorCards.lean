/-
  DERIVED. GIVEN WITH THE SEED: THE CARDS: each row of YtigpekbhmpfcoaaGreatDoorRows.lean that lists a variable, with what it lists TIED to the program's text (the seventh form; the later family's looks); each row that meets fmt, with fmt's text TOLD by the authors' own Lean function (tested against real Go, not proved from fmt's source: count such statements apart). THE CARD IS WHAT COUNTS. Prove the row's statement (the work); the ties are given (YtigpekbhmpfcoaaGreatDoorTie.lean); close each card by the builder's one call (the guide's Derived/Test/ToyasCard.lean, 'card_holds'). Laid BY PROGRAM, IN A SANDBOX (cutbox-door.mjs). By AI agents, Wed Nov 11 2026. No macro, syntax, notation, axiom, sorry.
-/
import Derived.Test.YtigpekbhmpfcoaaGreatDoorRows
import GoSem.ClaimSeven
namespace Go.Proofs.YtigpekbhmpfcoaaGreatDoor
namespace Rows

/-- THE TIED CARD OF 'imageeditorlaw42.PatchReturns'. -/
def patchReturnsCard : Claim7 := { stood := { row := patchReturnsRow, standIns := [], harness := (true, "5f6daefb6738b6ef449d537343c27142fc2f0e5c1d1f2e6240f2d94911fbb721"), looks := false }, kinds := [], alts := [], laidByText := true, laidKinds := [.data, .data, .listed, .data, .pinned], laidTests := true, laidLooks := .later }
def PatchReturnsCardSaid : Prop := Claim7.holds Tryz.pinned (.plain (OpenSpec.ofChange patchReturnsSpec)) patchReturnsCard

/-- THE TIED CARD OF 'imageeditorlaw42.PatchUndoes'. -/
def patchUndoesCard : Claim7 := { stood := { row := patchUndoesRow, standIns := [], harness := (true, "5f6daefb6738b6ef449d537343c27142fc2f0e5c1d1f2e6240f2d94911fbb721"), looks := false }, kinds := [], alts := [], laidByText := true, laidKinds := [.data, .data, .listed, .data, .pinned], laidTests := true, laidLooks := .later }
def PatchUndoesCardSaid : Prop := Claim7.holds Tryz.pinned (.plain (OpenSpec.ofChange patchUndoesSpec)) patchUndoesCard

/-- THE SECOND FORM's CARD OF 'imageeditorlaw42.PatchReturns'. -/
def patchReturnsUptoCard : Claim7 := { stood := { row := patchReturnsUptoRow, standIns := [], harness := (true, "5f6daefb6738b6ef449d537343c27142fc2f0e5c1d1f2e6240f2d94911fbb721"), looks := false }, kinds := [], alts := [], laidByText := true, laidKinds := [.data, .data, .listed, .data, .pinned], laidTests := true, laidLooks := .later }
def PatchReturnsUptoCardSaid : Prop := Claim7.holds Tryz.pinned (.plain (OpenSpec.upto patchReturnsSpec)) patchReturnsUptoCard

/-- THE SECOND FORM's CARD OF 'imageeditorlaw42.PatchUndoes'. -/
def patchUndoesUptoCard : Claim7 := { stood := { row := patchUndoesUptoRow, standIns := [], harness := (true, "5f6daefb6738b6ef449d537343c27142fc2f0e5c1d1f2e6240f2d94911fbb721"), looks := false }, kinds := [], alts := [], laidByText := true, laidKinds := [.data, .data, .listed, .data, .pinned], laidTests := true, laidLooks := .later }
def PatchUndoesUptoCardSaid : Prop := Claim7.holds Tryz.pinned (.plain (OpenSpec.upto patchUndoesSpec)) patchUndoesUptoCard
end Rows
end Go.Proofs.YtigpekbhmpfcoaaGreatDoor
