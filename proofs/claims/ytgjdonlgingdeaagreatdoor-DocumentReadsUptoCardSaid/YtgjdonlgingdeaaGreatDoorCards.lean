/-
  DERIVED. GIVEN WITH THE SEED: THE CARDS: each row of YtgjdonlgingdeaaGreatDoorRows.lean that lists a variable, with what it lists TIED to the program's text (the seventh form; the later family's looks); each row that meets fmt, with fmt's text TOLD by the authors' own Lean function (tested against real Go, not proved from fmt's source: count such statements apart). THE CARD IS WHAT COUNTS. Prove the row's statement (the work); the ties are given (YtgjdonlgingdeaaGreatDoorTie.lean); close each card by the builder's one call (the guide's Derived/Test/ToyasCard.lean, 'card_holds'). Laid BY PROGRAM, IN A SANDBOX (cutbox-door.mjs). By AI agents, Wed Nov 11 2026. No macro, syntax, notation, axiom, sorry.
-/
import Derived.Test.YtgjdonlgingdeaaGreatDoorRows
import GoSem.ClaimSeven
namespace Go.Proofs.YtgjdonlgingdeaaGreatDoor
namespace Rows

/-- THE TIED CARD OF 'imageeditorlaw32.DocumentChecks'. -/
def documentChecksCard : Claim7 := { stood := { row := documentChecksRow, standIns := [], harness := (true, "d33c9e0a10a5093d0ed6e18e4dee43473ddec79487cefc5882f70360afa365a0"), looks := false }, kinds := [], alts := [], laidByText := true, laidKinds := [.data, .data, .listed, .data, .pinned], laidTests := true, laidLooks := .later }
def DocumentChecksCardSaid : Prop := Claim7.holds Tryz.pinned (.plain (OpenSpec.ofChange documentChecksSpec)) documentChecksCard

/-- THE TIED CARD OF 'imageeditorlaw32.DocumentReads'. -/
def documentReadsCard : Claim7 := { stood := { row := documentReadsRow, standIns := [], harness := (true, "d33c9e0a10a5093d0ed6e18e4dee43473ddec79487cefc5882f70360afa365a0"), looks := false }, kinds := [], alts := [], laidByText := true, laidKinds := [.data, .data, .listed, .data, .pinned], laidTests := true, laidLooks := .later }
def DocumentReadsCardSaid : Prop := Claim7.holds Tryz.pinned (.plain (OpenSpec.ofChange documentReadsSpec)) documentReadsCard

/-- THE SECOND FORM's CARD OF 'imageeditorlaw32.DocumentChecks'. -/
def documentChecksUptoCard : Claim7 := { stood := { row := documentChecksUptoRow, standIns := [], harness := (true, "d33c9e0a10a5093d0ed6e18e4dee43473ddec79487cefc5882f70360afa365a0"), looks := false }, kinds := [], alts := [], laidByText := true, laidKinds := [.data, .data, .listed, .data, .pinned], laidTests := true, laidLooks := .later }
def DocumentChecksUptoCardSaid : Prop := Claim7.holds Tryz.pinned (.plain (OpenSpec.upto documentChecksSpec)) documentChecksUptoCard

/-- THE SECOND FORM's CARD OF 'imageeditorlaw32.DocumentReads'. -/
def documentReadsUptoCard : Claim7 := { stood := { row := documentReadsUptoRow, standIns := [], harness := (true, "d33c9e0a10a5093d0ed6e18e4dee43473ddec79487cefc5882f70360afa365a0"), looks := false }, kinds := [], alts := [], laidByText := true, laidKinds := [.data, .data, .listed, .data, .pinned], laidTests := true, laidLooks := .later }
def DocumentReadsUptoCardSaid : Prop := Claim7.holds Tryz.pinned (.plain (OpenSpec.upto documentReadsSpec)) documentReadsUptoCard
end Rows
end Go.Proofs.YtgjdonlgingdeaaGreatDoor
