/-
  DERIVED. GIVEN WITH THE SEED: THE CARDS: each row of YtadggmnllfgjcaaGreatDoorRows.lean that lists a variable, with what it lists TIED to the program's text (the seventh form; the later family's looks); each row that meets fmt, with fmt's text TOLD by the authors' own Lean function (tested against real Go, not proved from fmt's source: count such statements apart). THE CARD IS WHAT COUNTS. Prove the row's statement (the work); the ties are given (YtadggmnllfgjcaaGreatDoorTie.lean); close each card by the builder's one call (the guide's Derived/Test/ToyasCard.lean, 'card_holds'). Laid BY PROGRAM, IN A SANDBOX (cutbox-door.mjs). By AI agents, Wed Nov 11 2026. No macro, syntax, notation, axiom, sorry.
-/
import Derived.Test.YtadggmnllfgjcaaGreatDoorRows
import GoSem.ClaimSeven
namespace Go.Proofs.YtadggmnllfgjcaaGreatDoor
namespace Rows

/-- THE TIED CARD OF 'imageeditorlaw42.PatchDiffs'. -/
def patchDiffsCard : Claim7 := { stood := { row := patchDiffsRow, standIns := [], harness := (true, "ab7aaf5ab2481b6e071bd6686e9177091798dc28f1acfeb5748d31d400748199"), looks := false }, kinds := [], alts := [], laidByText := true, laidKinds := [.data, .data, .listed, .data, .pinned], laidTests := true, laidLooks := .later }
def PatchDiffsCardSaid : Prop := Claim7.holds Tryz.pinned (.plain (OpenSpec.ofChange patchDiffsSpec)) patchDiffsCard

/-- THE TIED CARD OF 'imageeditorlaw42.PatchApplies'. -/
def patchAppliesCard : Claim7 := { stood := { row := patchAppliesRow, standIns := [], harness := (true, "ab7aaf5ab2481b6e071bd6686e9177091798dc28f1acfeb5748d31d400748199"), looks := false }, kinds := [], alts := [], laidByText := true, laidKinds := [.data, .data, .listed, .data, .pinned], laidTests := true, laidLooks := .later }
def PatchAppliesCardSaid : Prop := Claim7.holds Tryz.pinned (.plain (OpenSpec.ofChange patchAppliesSpec)) patchAppliesCard

/-- THE TIED CARD OF 'imageeditorlaw42.PatchThens'. -/
def patchThensCard : Claim7 := { stood := { row := patchThensRow, standIns := [], harness := (true, "ab7aaf5ab2481b6e071bd6686e9177091798dc28f1acfeb5748d31d400748199"), looks := false }, kinds := [], alts := [], laidByText := true, laidKinds := [.data, .data, .listed, .data, .pinned], laidTests := true, laidLooks := .later }
def PatchThensCardSaid : Prop := Claim7.holds Tryz.pinned (.plain (OpenSpec.ofChange patchThensSpec)) patchThensCard

/-- THE SECOND FORM's CARD OF 'imageeditorlaw42.PatchDiffs'. -/
def patchDiffsUptoCard : Claim7 := { stood := { row := patchDiffsUptoRow, standIns := [], harness := (true, "ab7aaf5ab2481b6e071bd6686e9177091798dc28f1acfeb5748d31d400748199"), looks := false }, kinds := [], alts := [], laidByText := true, laidKinds := [.data, .data, .listed, .data, .pinned], laidTests := true, laidLooks := .later }
def PatchDiffsUptoCardSaid : Prop := Claim7.holds Tryz.pinned (.plain (OpenSpec.upto patchDiffsSpec)) patchDiffsUptoCard

/-- THE SECOND FORM's CARD OF 'imageeditorlaw42.PatchApplies'. -/
def patchAppliesUptoCard : Claim7 := { stood := { row := patchAppliesUptoRow, standIns := [], harness := (true, "ab7aaf5ab2481b6e071bd6686e9177091798dc28f1acfeb5748d31d400748199"), looks := false }, kinds := [], alts := [], laidByText := true, laidKinds := [.data, .data, .listed, .data, .pinned], laidTests := true, laidLooks := .later }
def PatchAppliesUptoCardSaid : Prop := Claim7.holds Tryz.pinned (.plain (OpenSpec.upto patchAppliesSpec)) patchAppliesUptoCard

/-- THE SECOND FORM's CARD OF 'imageeditorlaw42.PatchThens'. -/
def patchThensUptoCard : Claim7 := { stood := { row := patchThensUptoRow, standIns := [], harness := (true, "ab7aaf5ab2481b6e071bd6686e9177091798dc28f1acfeb5748d31d400748199"), looks := false }, kinds := [], alts := [], laidByText := true, laidKinds := [.data, .data, .listed, .data, .pinned], laidTests := true, laidLooks := .later }
def PatchThensUptoCardSaid : Prop := Claim7.holds Tryz.pinned (.plain (OpenSpec.upto patchThensSpec)) patchThensUptoCard
end Rows
end Go.Proofs.YtadggmnllfgjcaaGreatDoor
