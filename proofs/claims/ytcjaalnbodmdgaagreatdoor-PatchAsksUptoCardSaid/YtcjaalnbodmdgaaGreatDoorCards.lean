/-
  DERIVED. GIVEN WITH THE SEED: THE CARDS: each row of YtcjaalnbodmdgaaGreatDoorRows.lean that lists a variable, with what it lists TIED to the program's text (the seventh form; the later family's looks); each row that meets fmt, with fmt's text TOLD by the authors' own Lean function (tested against real Go, not proved from fmt's source: count such statements apart). THE CARD IS WHAT COUNTS. Prove the row's statement (the work); the ties are given (YtcjaalnbodmdgaaGreatDoorTie.lean); close each card by the builder's one call (the guide's Derived/Test/ToyasCard.lean, 'card_holds'). Laid BY PROGRAM, IN A SANDBOX (cutbox-door.mjs). By AI agents, Wed Nov 11 2026. No macro, syntax, notation, axiom, sorry.
-/
import Derived.Test.YtcjaalnbodmdgaaGreatDoorRows
import GoSem.ClaimSeven
namespace Go.Proofs.YtcjaalnbodmdgaaGreatDoor
namespace Rows

/-- THE TIED CARD OF 'imageeditorlaw42.PatchAsks'. -/
def patchAsksCard : Claim7 := { stood := { row := patchAsksRow, standIns := [], harness := (true, "02673b681a56f367ef9a492fe60d2bf8d4d626f3d4cc89791ae524e4db0284c0"), looks := false }, kinds := [], alts := [], laidByText := true, laidKinds := [.data, .data, .listed, .data, .pinned], laidTests := true, laidLooks := .later }
def PatchAsksCardSaid : Prop := Claim7.holds Tryz.pinned (.plain (OpenSpec.ofChange patchAsksSpec)) patchAsksCard

/-- THE SECOND FORM's CARD OF 'imageeditorlaw42.PatchAsks'. -/
def patchAsksUptoCard : Claim7 := { stood := { row := patchAsksUptoRow, standIns := [], harness := (true, "02673b681a56f367ef9a492fe60d2bf8d4d626f3d4cc89791ae524e4db0284c0"), looks := false }, kinds := [], alts := [], laidByText := true, laidKinds := [.data, .data, .listed, .data, .pinned], laidTests := true, laidLooks := .later }
def PatchAsksUptoCardSaid : Prop := Claim7.holds Tryz.pinned (.plain (OpenSpec.upto patchAsksSpec)) patchAsksUptoCard
end Rows
end Go.Proofs.YtcjaalnbodmdgaaGreatDoor
