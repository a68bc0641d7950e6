/-
  DERIVED. GIVEN WITH THE SEED: THE CARDS: each row of YtdgfchmfajmkiaaDoorRows.lean that lists a variable, with what it lists TIED to the program's text (the seventh form; the later family's looks); each row that meets fmt, with fmt's text TOLD by the authors' own Lean function (tested against real Go, not proved from fmt's source: count such statements apart). THE CARD IS WHAT COUNTS. Prove the row's statement (the work); the ties are given (YtdgfchmfajmkiaaDoorTie.lean); close each card by the builder's one call (the guide's Derived/Test/ToyasCard.lean, 'card_holds'). Laid BY PROGRAM, IN A SANDBOX (cutbox-door.mjs). By AI agents, Wed Nov 11 2026. No macro, syntax, notation, axiom, sorry.
-/
import Derived.Test.YtdgfchmfajmkiaaDoorRows
import GoSem.ClaimSeven
namespace Go.Proofs.YtdgfchmfajmkiaaDoor
namespace Rows

/-- THE TIED CARD OF 'imageeditorlaw22.FontOutlines'. -/
def fontOutlinesCard : Claim7 := { stood := { row := fontOutlinesRow, standIns := [], harness := (true, "994c5fa85b8de089160e412d1ce79192050f239ede422c2575c014fd4d8546ae"), looks := false }, kinds := [], alts := [], laidByText := true, laidKinds := [.data, .listed, .data, .pinned], laidTests := true, laidLooks := .later }
def FontOutlinesCardSaid : Prop := Claim7.holds Tryd.pinned (.plain (OpenSpec.ofChange fontOutlinesSpec)) fontOutlinesCard

/-- THE SECOND FORM's CARD OF 'imageeditorlaw22.FontOutlines'. -/
def fontOutlinesUptoCard : Claim7 := { stood := { row := fontOutlinesUptoRow, standIns := [], harness := (true, "994c5fa85b8de089160e412d1ce79192050f239ede422c2575c014fd4d8546ae"), looks := false }, kinds := [], alts := [], laidByText := true, laidKinds := [.data, .listed, .data, .pinned], laidTests := true, laidLooks := .later }
def FontOutlinesUptoCardSaid : Prop := Claim7.holds Tryd.pinned (.plain (OpenSpec.upto fontOutlinesSpec)) fontOutlinesUptoCard
end Rows
end Go.Proofs.YtdgfchmfajmkiaaDoor
