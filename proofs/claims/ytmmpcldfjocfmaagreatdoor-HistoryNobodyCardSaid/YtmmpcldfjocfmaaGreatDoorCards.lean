/-
  DERIVED. GIVEN WITH THE SEED: THE CARDS: each row of YtmmpcldfjocfmaaGreatDoorRows.lean that lists a variable, with what it lists TIED to the program's text (the seventh form; the later family's looks); each row that meets fmt, with fmt's text TOLD by the authors' own Lean function (tested against real Go, not proved from fmt's source: count such statements apart). THE CARD IS WHAT COUNTS. Prove the row's statement (the work); the ties are given (YtmmpcldfjocfmaaGreatDoorTie.lean); close each card by the builder's one call (the guide's Derived/Test/ToyasCard.lean, 'card_holds'). Laid BY PROGRAM, IN A SANDBOX (cutbox-door.mjs). By AI agents, Wed Nov 11 2026. No macro, syntax, notation, axiom, sorry.
-/
import Derived.Test.YtmmpcldfjocfmaaGreatDoorRows
import GoSem.ClaimSeven
namespace Go.Proofs.YtmmpcldfjocfmaaGreatDoor
namespace Rows

/-- THE TIED CARD OF 'imageeditorlaw43.HistoryNobody'. -/
def historyNobodyCard : Claim7 := { stood := { row := historyNobodyRow, standIns := [], harness := (true, "f03fa49602b77dd6f1b076699d6016e4b5479797ae7debc44aef1dc48aedcb96"), looks := false }, kinds := [], alts := [], laidByText := true, laidKinds := [.data, .data, .listed, .data, .pinned], laidTests := true, laidLooks := .later }
def HistoryNobodyCardSaid : Prop := Claim7.holds Tryz.pinned (.plain (OpenSpec.ofChange historyNobodySpec)) historyNobodyCard

/-- THE SECOND FORM's CARD OF 'imageeditorlaw43.HistoryNobody'. -/
def historyNobodyUptoCard : Claim7 := { stood := { row := historyNobodyUptoRow, standIns := [], harness := (true, "f03fa49602b77dd6f1b076699d6016e4b5479797ae7debc44aef1dc48aedcb96"), looks := false }, kinds := [], alts := [], laidByText := true, laidKinds := [.data, .data, .listed, .data, .pinned], laidTests := true, laidLooks := .later }
def HistoryNobodyUptoCardSaid : Prop := Claim7.holds Tryz.pinned (.plain (OpenSpec.upto historyNobodySpec)) historyNobodyUptoCard
end Rows
end Go.Proofs.YtmmpcldfjocfmaaGreatDoor
