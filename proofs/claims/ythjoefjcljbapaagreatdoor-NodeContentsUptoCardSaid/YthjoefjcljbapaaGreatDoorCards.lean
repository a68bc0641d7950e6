/-
  DERIVED. GIVEN WITH THE SEED: THE CARDS: each row of YthjoefjcljbapaaGreatDoorRows.lean that lists a variable, with what it lists TIED to the program's text (the seventh form; the later family's looks); each row that meets fmt, with fmt's text TOLD by the authors' own Lean function (tested against real Go, not proved from fmt's source: count such statements apart). THE CARD IS WHAT COUNTS. Prove the row's statement (the work); the ties are given (YthjoefjcljbapaaGreatDoorTie.lean); close each card by the builder's one call (the guide's Derived/Test/ToyasCard.lean, 'card_holds'). Laid BY PROGRAM, IN A SANDBOX (cutbox-door.mjs). By AI agents, Wed Nov 11 2026. No macro, syntax, notation, axiom, sorry.
-/
import Derived.Test.YthjoefjcljbapaaGreatDoorRows
import GoSem.ClaimSeven
namespace Go.Proofs.YthjoefjcljbapaaGreatDoor
namespace Rows

/-- THE TIED CARD OF 'imageeditorlaw31.NodeNews'. -/
def nodeNewsCard : Claim7 := { stood := { row := nodeNewsRow, standIns := [], harness := (true, "b7147a82db90830fbf518d120c46e1a94ce0b47f8c313ef94ead8a82e9c38ad9"), looks := false }, kinds := [], alts := [], laidByText := true, laidKinds := [.data, .data, .listed, .data, .pinned], laidTests := true, laidLooks := .later }
def NodeNewsCardSaid : Prop := Claim7.holds Tryz.pinned (.plain (OpenSpec.ofChange nodeNewsSpec)) nodeNewsCard

/-- THE TIED CARD OF 'imageeditorlaw31.NodeContents'. -/
def nodeContentsCard : Claim7 := { stood := { row := nodeContentsRow, standIns := [], harness := (true, "b7147a82db90830fbf518d120c46e1a94ce0b47f8c313ef94ead8a82e9c38ad9"), looks := false }, kinds := [], alts := [], laidByText := true, laidKinds := [.data, .data, .listed, .data, .pinned], laidTests := true, laidLooks := .later }
def NodeContentsCardSaid : Prop := Claim7.holds Tryz.pinned (.plain (OpenSpec.ofChange nodeContentsSpec)) nodeContentsCard

/-- THE TIED CARD OF 'imageeditorlaw31.NodeEquals'. -/
def nodeEqualsCard : Claim7 := { stood := { row := nodeEqualsRow, standIns := [], harness := (true, "b7147a82db90830fbf518d120c46e1a94ce0b47f8c313ef94ead8a82e9c38ad9"), looks := false }, kinds := [], alts := [], laidByText := true, laidKinds := [.data, .data, .listed, .data, .pinned], laidTests := true, laidLooks := .later }
def NodeEqualsCardSaid : Prop := Claim7.holds Tryz.pinned (.plain (OpenSpec.ofChange nodeEqualsSpec)) nodeEqualsCard

/-- THE SECOND FORM's CARD OF 'imageeditorlaw31.NodeNews'. -/
def nodeNewsUptoCard : Claim7 := { stood := { row := nodeNewsUptoRow, standIns := [], harness := (true, "b7147a82db90830fbf518d120c46e1a94ce0b47f8c313ef94ead8a82e9c38ad9"), looks := false }, kinds := [], alts := [], laidByText := true, laidKinds := [.data, .data, .listed, .data, .pinned], laidTests := true, laidLooks := .later }
def NodeNewsUptoCardSaid : Prop := Claim7.holds Tryz.pinned (.plain (OpenSpec.upto nodeNewsSpec)) nodeNewsUptoCard

/-- THE SECOND FORM's CARD OF 'imageeditorlaw31.NodeContents'. -/
def nodeContentsUptoCard : Claim7 := { stood := { row := nodeContentsUptoRow, standIns := [], harness := (true, "b7147a82db90830fbf518d120c46e1a94ce0b47f8c313ef94ead8a82e9c38ad9"), looks := false }, kinds := [], alts := [], laidByText := true, laidKinds := [.data, .data, .listed, .data, .pinned], laidTests := true, laidLooks := .later }
def NodeContentsUptoCardSaid : Prop := Claim7.holds Tryz.pinned (.plain (OpenSpec.upto nodeContentsSpec)) nodeContentsUptoCard

/-- THE SECOND FORM's CARD OF 'imageeditorlaw31.NodeEquals'. -/
def nodeEqualsUptoCard : Claim7 := { stood := { row := nodeEqualsUptoRow, standIns := [], harness := (true, "b7147a82db90830fbf518d120c46e1a94ce0b47f8c313ef94ead8a82e9c38ad9"), looks := false }, kinds := [], alts := [], laidByText := true, laidKinds := [.data, .data, .listed, .data, .pinned], laidTests := true, laidLooks := .later }
def NodeEqualsUptoCardSaid : Prop := Claim7.holds Tryz.pinned (.plain (OpenSpec.upto nodeEqualsSpec)) nodeEqualsUptoCard
end Rows
end Go.Proofs.YthjoefjcljbapaaGreatDoor
