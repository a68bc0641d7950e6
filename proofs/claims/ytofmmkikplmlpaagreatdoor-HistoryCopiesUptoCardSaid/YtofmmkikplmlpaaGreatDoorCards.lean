/-
  DERIVED. GIVEN WITH THE SEED: THE CARDS: each row of YtofmmkikplmlpaaGreatDoorRows.lean that lists a variable, with what it lists TIED to the program's text (the seventh form; the later family's looks); each row that meets fmt, with fmt's text TOLD by the authors' own Lean function (tested against real Go, not proved from fmt's source: count such statements apart). THE CARD IS WHAT COUNTS. Prove the row's statement (the work); the ties are given (YtofmmkikplmlpaaGreatDoorTie.lean); close each card by the builder's one call (the guide's Derived/Test/ToyasCard.lean, 'card_holds'). Laid BY PROGRAM, IN A SANDBOX (cutbox-door.mjs). By AI agents, Wed Nov 11 2026. No macro, syntax, notation, axiom, sorry.
-/
import Derived.Test.YtofmmkikplmlpaaGreatDoorRows
import GoSem.ClaimSeven
namespace Go.Proofs.YtofmmkikplmlpaaGreatDoor
namespace Rows

/-- THE TIED CARD OF 'imageeditorlaw43.HistoryUndo'. -/
def historyUndoCard : Claim7 := { stood := { row := historyUndoRow, standIns := [], harness := (true, "bf2a06841fff8837fe22f6255010652d8c4f64bf9d31615e67de970d93482f97"), looks := false }, kinds := [], alts := [], laidByText := true, laidKinds := [.data, .data, .listed, .data, .pinned], laidTests := true, laidLooks := .later }
def HistoryUndoCardSaid : Prop := Claim7.holds Tryz.pinned (.plain (OpenSpec.ofChange historyUndoSpec)) historyUndoCard

/-- THE TIED CARD OF 'imageeditorlaw43.HistoryKeeps'. -/
def historyKeepsCard : Claim7 := { stood := { row := historyKeepsRow, standIns := [], harness := (true, "bf2a06841fff8837fe22f6255010652d8c4f64bf9d31615e67de970d93482f97"), looks := false }, kinds := [], alts := [], laidByText := true, laidKinds := [.data, .data, .listed, .data, .pinned], laidTests := true, laidLooks := .later }
def HistoryKeepsCardSaid : Prop := Claim7.holds Tryz.pinned (.plain (OpenSpec.ofChange historyKeepsSpec)) historyKeepsCard

/-- THE TIED CARD OF 'imageeditorlaw43.HistoryPurge'. -/
def historyPurgeCard : Claim7 := { stood := { row := historyPurgeRow, standIns := [], harness := (true, "bf2a06841fff8837fe22f6255010652d8c4f64bf9d31615e67de970d93482f97"), looks := false }, kinds := [], alts := [], laidByText := true, laidKinds := [.data, .data, .listed, .data, .pinned], laidTests := true, laidLooks := .later }
def HistoryPurgeCardSaid : Prop := Claim7.holds Tryz.pinned (.plain (OpenSpec.ofChange historyPurgeSpec)) historyPurgeCard

/-- THE TIED CARD OF 'imageeditorlaw43.HistoryCopies'. -/
def historyCopiesCard : Claim7 := { stood := { row := historyCopiesRow, standIns := [], harness := (true, "bf2a06841fff8837fe22f6255010652d8c4f64bf9d31615e67de970d93482f97"), looks := false }, kinds := [], alts := [], laidByText := true, laidKinds := [.data, .data, .listed, .data, .pinned], laidTests := true, laidLooks := .later }
def HistoryCopiesCardSaid : Prop := Claim7.holds Tryz.pinned (.plain (OpenSpec.ofChange historyCopiesSpec)) historyCopiesCard

/-- THE SECOND FORM's CARD OF 'imageeditorlaw43.HistoryUndo'. -/
def historyUndoUptoCard : Claim7 := { stood := { row := historyUndoUptoRow, standIns := [], harness := (true, "bf2a06841fff8837fe22f6255010652d8c4f64bf9d31615e67de970d93482f97"), looks := false }, kinds := [], alts := [], laidByText := true, laidKinds := [.data, .data, .listed, .data, .pinned], laidTests := true, laidLooks := .later }
def HistoryUndoUptoCardSaid : Prop := Claim7.holds Tryz.pinned (.plain (OpenSpec.upto historyUndoSpec)) historyUndoUptoCard

/-- THE SECOND FORM's CARD OF 'imageeditorlaw43.HistoryKeeps'. -/
def historyKeepsUptoCard : Claim7 := { stood := { row := historyKeepsUptoRow, standIns := [], harness := (true, "bf2a06841fff8837fe22f6255010652d8c4f64bf9d31615e67de970d93482f97"), looks := false }, kinds := [], alts := [], laidByText := true, laidKinds := [.data, .data, .listed, .data, .pinned], laidTests := true, laidLooks := .later }
def HistoryKeepsUptoCardSaid : Prop := Claim7.holds Tryz.pinned (.plain (OpenSpec.upto historyKeepsSpec)) historyKeepsUptoCard

/-- THE SECOND FORM's CARD OF 'imageeditorlaw43.HistoryPurge'. -/
def historyPurgeUptoCard : Claim7 := { stood := { row := historyPurgeUptoRow, standIns := [], harness := (true, "bf2a06841fff8837fe22f6255010652d8c4f64bf9d31615e67de970d93482f97"), looks := false }, kinds := [], alts := [], laidByText := true, laidKinds := [.data, .data, .listed, .data, .pinned], laidTests := true, laidLooks := .later }
def HistoryPurgeUptoCardSaid : Prop := Claim7.holds Tryz.pinned (.plain (OpenSpec.upto historyPurgeSpec)) historyPurgeUptoCard

/-- THE SECOND FORM's CARD OF 'imageeditorlaw43.HistoryCopies'. -/
def historyCopiesUptoCard : Claim7 := { stood := { row := historyCopiesUptoRow, standIns := [], harness := (true, "bf2a06841fff8837fe22f6255010652d8c4f64bf9d31615e67de970d93482f97"), looks := false }, kinds := [], alts := [], laidByText := true, laidKinds := [.data, .data, .listed, .data, .pinned], laidTests := true, laidLooks := .later }
def HistoryCopiesUptoCardSaid : Prop := Claim7.holds Tryz.pinned (.plain (OpenSpec.upto historyCopiesSpec)) historyCopiesUptoCard
end Rows
end Go.Proofs.YtofmmkikplmlpaaGreatDoor
