/-
  DERIVED. GIVEN WITH THE SEED: THE CARDS: each row of YtlpphnncneppoaaGreatDoorRows.lean that lists a variable, with what it lists TIED to the program's text (the seventh form; the later family's looks); each row that meets fmt, with fmt's text TOLD by the authors' own Lean function (tested against real Go, not proved from fmt's source: count such statements apart). THE CARD IS WHAT COUNTS. Prove the row's statement (the work); the ties are given (YtlpphnncneppoaaGreatDoorTie.lean); close each card by the builder's one call (the guide's Derived/Test/ToyasCard.lean, 'card_holds'). Laid BY PROGRAM, IN A SANDBOX (cutbox-door.mjs). By AI agents, Wed Nov 11 2026. No macro, syntax, notation, axiom, sorry.
-/
import Derived.Test.YtlpphnncneppoaaGreatDoorRows
import GoSem.ClaimSeven
namespace Go.Proofs.YtlpphnncneppoaaGreatDoor
namespace Rows

/-- THE TIED CARD OF 'imageeditorlaw32.DocumentReplaces'. -/
def documentReplacesCard : Claim7 := { stood := { row := documentReplacesRow, standIns := [], harness := (true, "af4d42cf3e81be05f7c8523fa8b4a404869b1c387b61de91dc2387730077d7fe"), looks := false }, kinds := [], alts := [], laidByText := true, laidKinds := [.data, .data, .listed, .data, .pinned], laidTests := true, laidLooks := .later }
def DocumentReplacesCardSaid : Prop := Claim7.holds Tryz.pinned (.plain (OpenSpec.ofChange documentReplacesSpec)) documentReplacesCard

/-- THE TIED CARD OF 'imageeditorlaw32.DocumentRemoves'. -/
def documentRemovesCard : Claim7 := { stood := { row := documentRemovesRow, standIns := [], harness := (true, "af4d42cf3e81be05f7c8523fa8b4a404869b1c387b61de91dc2387730077d7fe"), looks := false }, kinds := [], alts := [], laidByText := true, laidKinds := [.data, .data, .listed, .data, .pinned], laidTests := true, laidLooks := .later }
def DocumentRemovesCardSaid : Prop := Claim7.holds Tryz.pinned (.plain (OpenSpec.ofChange documentRemovesSpec)) documentRemovesCard

/-- THE TIED CARD OF 'imageeditorlaw32.DocumentInserts'. -/
def documentInsertsCard : Claim7 := { stood := { row := documentInsertsRow, standIns := [], harness := (true, "af4d42cf3e81be05f7c8523fa8b4a404869b1c387b61de91dc2387730077d7fe"), looks := false }, kinds := [], alts := [], laidByText := true, laidKinds := [.data, .data, .listed, .data, .pinned], laidTests := true, laidLooks := .later }
def DocumentInsertsCardSaid : Prop := Claim7.holds Tryz.pinned (.plain (OpenSpec.ofChange documentInsertsSpec)) documentInsertsCard

/-- THE SECOND FORM's CARD OF 'imageeditorlaw32.DocumentReplaces'. -/
def documentReplacesUptoCard : Claim7 := { stood := { row := documentReplacesUptoRow, standIns := [], harness := (true, "af4d42cf3e81be05f7c8523fa8b4a404869b1c387b61de91dc2387730077d7fe"), looks := false }, kinds := [], alts := [], laidByText := true, laidKinds := [.data, .data, .listed, .data, .pinned], laidTests := true, laidLooks := .later }
def DocumentReplacesUptoCardSaid : Prop := Claim7.holds Tryz.pinned (.plain (OpenSpec.upto documentReplacesSpec)) documentReplacesUptoCard

/-- THE SECOND FORM's CARD OF 'imageeditorlaw32.DocumentRemoves'. -/
def documentRemovesUptoCard : Claim7 := { stood := { row := documentRemovesUptoRow, standIns := [], harness := (true, "af4d42cf3e81be05f7c8523fa8b4a404869b1c387b61de91dc2387730077d7fe"), looks := false }, kinds := [], alts := [], laidByText := true, laidKinds := [.data, .data, .listed, .data, .pinned], laidTests := true, laidLooks := .later }
def DocumentRemovesUptoCardSaid : Prop := Claim7.holds Tryz.pinned (.plain (OpenSpec.upto documentRemovesSpec)) documentRemovesUptoCard

/-- THE SECOND FORM's CARD OF 'imageeditorlaw32.DocumentInserts'. -/
def documentInsertsUptoCard : Claim7 := { stood := { row := documentInsertsUptoRow, standIns := [], harness := (true, "af4d42cf3e81be05f7c8523fa8b4a404869b1c387b61de91dc2387730077d7fe"), looks := false }, kinds := [], alts := [], laidByText := true, laidKinds := [.data, .data, .listed, .data, .pinned], laidTests := true, laidLooks := .later }
def DocumentInsertsUptoCardSaid : Prop := Claim7.holds Tryz.pinned (.plain (OpenSpec.upto documentInsertsSpec)) documentInsertsUptoCard
end Rows
end Go.Proofs.YtlpphnncneppoaaGreatDoor
