/-
  DERIVED. GIVEN WITH THE SEED: THE CARDS: each row of YtpanghcojpnkaaaGreatDoorRows.lean that lists a variable, with what it lists TIED to the program's text (the seventh form; the later family's looks); each row that meets fmt, with fmt's text TOLD by the authors' own Lean function (tested against real Go, not proved from fmt's source: count such statements apart). THE CARD IS WHAT COUNTS. Prove the row's statement (the work); the ties are given (YtpanghcojpnkaaaGreatDoorTie.lean); close each card by the builder's one call (the guide's Derived/Test/ToyasCard.lean, 'card_holds'). Laid BY PROGRAM, IN A SANDBOX (cutbox-door.mjs). By AI agents, Wed Nov 11 2026. No macro, syntax, notation, axiom, sorry.
-/
import Derived.Test.YtpanghcojpnkaaaGreatDoorRows
import GoSem.ClaimSeven
namespace Go.Proofs.YtpanghcojpnkaaaGreatDoor
namespace Rows

/-- THE TIED CARD OF 'imageeditorlaw32.DocumentOrder'. -/
def documentOrderCard : Claim7 := { stood := { row := documentOrderRow, standIns := [], harness := (true, "d716d7286fc7ca616b67c3b820a90b8bc17d7fc3b1f28e64609c984474b3f597"), looks := false }, kinds := [], alts := [], laidByText := true, laidKinds := [.data, .data, .listed, .data, .pinned], laidTests := true, laidLooks := .later }
def DocumentOrderCardSaid : Prop := Claim7.holds Tryz.pinned (.plain (OpenSpec.ofChange documentOrderSpec)) documentOrderCard

/-- THE TIED CARD OF 'imageeditorlaw32.DocumentValid'. -/
def documentValidCard : Claim7 := { stood := { row := documentValidRow, standIns := [], harness := (true, "d716d7286fc7ca616b67c3b820a90b8bc17d7fc3b1f28e64609c984474b3f597"), looks := false }, kinds := [], alts := [], laidByText := true, laidKinds := [.data, .data, .listed, .data, .pinned], laidTests := true, laidLooks := .later }
def DocumentValidCardSaid : Prop := Claim7.holds Tryz.pinned (.plain (OpenSpec.ofChange documentValidSpec)) documentValidCard

/-- THE TIED CARD OF 'imageeditorlaw32.DocumentCompares'. -/
def documentComparesCard : Claim7 := { stood := { row := documentComparesRow, standIns := [], harness := (true, "d716d7286fc7ca616b67c3b820a90b8bc17d7fc3b1f28e64609c984474b3f597"), looks := false }, kinds := [], alts := [], laidByText := true, laidKinds := [.data, .data, .listed, .data, .pinned], laidTests := true, laidLooks := .later }
def DocumentComparesCardSaid : Prop := Claim7.holds Tryz.pinned (.plain (OpenSpec.ofChange documentComparesSpec)) documentComparesCard

/-- THE TIED CARD OF 'imageeditorlaw32.DocumentReturns'. -/
def documentReturnsCard : Claim7 := { stood := { row := documentReturnsRow, standIns := [], harness := (true, "d716d7286fc7ca616b67c3b820a90b8bc17d7fc3b1f28e64609c984474b3f597"), looks := false }, kinds := [], alts := [], laidByText := true, laidKinds := [.data, .data, .listed, .data, .pinned], laidTests := true, laidLooks := .later }
def DocumentReturnsCardSaid : Prop := Claim7.holds Tryz.pinned (.plain (OpenSpec.ofChange documentReturnsSpec)) documentReturnsCard

/-- THE TIED CARD OF 'imageeditorlaw32.DocumentBack'. -/
def documentBackCard : Claim7 := { stood := { row := documentBackRow, standIns := [], harness := (true, "d716d7286fc7ca616b67c3b820a90b8bc17d7fc3b1f28e64609c984474b3f597"), looks := false }, kinds := [], alts := [], laidByText := true, laidKinds := [.data, .data, .listed, .data, .pinned], laidTests := true, laidLooks := .later }
def DocumentBackCardSaid : Prop := Claim7.holds Tryz.pinned (.plain (OpenSpec.ofChange documentBackSpec)) documentBackCard

/-- THE SECOND FORM's CARD OF 'imageeditorlaw32.DocumentOrder'. -/
def documentOrderUptoCard : Claim7 := { stood := { row := documentOrderUptoRow, standIns := [], harness := (true, "d716d7286fc7ca616b67c3b820a90b8bc17d7fc3b1f28e64609c984474b3f597"), looks := false }, kinds := [], alts := [], laidByText := true, laidKinds := [.data, .data, .listed, .data, .pinned], laidTests := true, laidLooks := .later }
def DocumentOrderUptoCardSaid : Prop := Claim7.holds Tryz.pinned (.plain (OpenSpec.upto documentOrderSpec)) documentOrderUptoCard

/-- THE SECOND FORM's CARD OF 'imageeditorlaw32.DocumentValid'. -/
def documentValidUptoCard : Claim7 := { stood := { row := documentValidUptoRow, standIns := [], harness := (true, "d716d7286fc7ca616b67c3b820a90b8bc17d7fc3b1f28e64609c984474b3f597"), looks := false }, kinds := [], alts := [], laidByText := true, laidKinds := [.data, .data, .listed, .data, .pinned], laidTests := true, laidLooks := .later }
def DocumentValidUptoCardSaid : Prop := Claim7.holds Tryz.pinned (.plain (OpenSpec.upto documentValidSpec)) documentValidUptoCard

/-- THE SECOND FORM's CARD OF 'imageeditorlaw32.DocumentCompares'. -/
def documentComparesUptoCard : Claim7 := { stood := { row := documentComparesUptoRow, standIns := [], harness := (true, "d716d7286fc7ca616b67c3b820a90b8bc17d7fc3b1f28e64609c984474b3f597"), looks := false }, kinds := [], alts := [], laidByText := true, laidKinds := [.data, .data, .listed, .data, .pinned], laidTests := true, laidLooks := .later }
def DocumentComparesUptoCardSaid : Prop := Claim7.holds Tryz.pinned (.plain (OpenSpec.upto documentComparesSpec)) documentComparesUptoCard

/-- THE SECOND FORM's CARD OF 'imageeditorlaw32.DocumentReturns'. -/
def documentReturnsUptoCard : Claim7 := { stood := { row := documentReturnsUptoRow, standIns := [], harness := (true, "d716d7286fc7ca616b67c3b820a90b8bc17d7fc3b1f28e64609c984474b3f597"), looks := false }, kinds := [], alts := [], laidByText := true, laidKinds := [.data, .data, .listed, .data, .pinned], laidTests := true, laidLooks := .later }
def DocumentReturnsUptoCardSaid : Prop := Claim7.holds Tryz.pinned (.plain (OpenSpec.upto documentReturnsSpec)) documentReturnsUptoCard

/-- THE SECOND FORM's CARD OF 'imageeditorlaw32.DocumentBack'. -/
def documentBackUptoCard : Claim7 := { stood := { row := documentBackUptoRow, standIns := [], harness := (true, "d716d7286fc7ca616b67c3b820a90b8bc17d7fc3b1f28e64609c984474b3f597"), looks := false }, kinds := [], alts := [], laidByText := true, laidKinds := [.data, .data, .listed, .data, .pinned], laidTests := true, laidLooks := .later }
def DocumentBackUptoCardSaid : Prop := Claim7.holds Tryz.pinned (.plain (OpenSpec.upto documentBackSpec)) documentBackUptoCard
end Rows
end Go.Proofs.YtpanghcojpnkaaaGreatDoor
