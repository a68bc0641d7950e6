/-
  DERIVED. GIVEN WITH THE SEED: THE CARDS: each row of YtbiemgjkkhkdeaaGreatDoorRows.lean that lists a variable, with what it lists TIED to the program's text (the seventh form; the later family's looks); each row that meets fmt, with fmt's text TOLD by the authors' own Lean function (tested against real Go, not proved from fmt's source: count such statements apart). THE CARD IS WHAT COUNTS. Prove the row's statement (the work); the ties are given (YtbiemgjkkhkdeaaGreatDoorTie.lean); close each card by the builder's one call (the guide's Derived/Test/ToyasCard.lean, 'card_holds'). Laid BY PROGRAM, IN A SANDBOX (cutbox-door.mjs). By AI agents, Wed Nov 11 2026. No macro, syntax, notation, axiom, sorry.
-/
import Derived.Test.YtbiemgjkkhkdeaaGreatDoorRows
import GoSem.ClaimSeven
namespace Go.Proofs.YtbiemgjkkhkdeaaGreatDoor
namespace Rows

/-- THE TIED CARD OF 'imageeditorlaw39.NativeImages'. -/
def nativeImagesCard : Claim7 := { stood := { row := nativeImagesRow, standIns := [], harness := (true, "c50703b709b6f5462ecc5d87cab7c0c3b87b0a2685054b940becaf183008c67f"), looks := false }, kinds := [], alts := [], laidByText := true, laidKinds := [.data, .data, .listed, .data, .pinned], laidTests := true, laidLooks := .later }
def NativeImagesCardSaid : Prop := Claim7.holds Tryz.pinned (.plain (OpenSpec.ofChange nativeImagesSpec)) nativeImagesCard

/-- THE TIED CARD OF 'imageeditorlaw39.NativeNodes'. -/
def nativeNodesCard : Claim7 := { stood := { row := nativeNodesRow, standIns := [], harness := (true, "c50703b709b6f5462ecc5d87cab7c0c3b87b0a2685054b940becaf183008c67f"), looks := false }, kinds := [], alts := [], laidByText := true, laidKinds := [.data, .data, .listed, .data, .pinned], laidTests := true, laidLooks := .later }
def NativeNodesCardSaid : Prop := Claim7.holds Tryz.pinned (.plain (OpenSpec.ofChange nativeNodesSpec)) nativeNodesCard

/-- THE TIED CARD OF 'imageeditorlaw39.NativeNone'. -/
def nativeNoneCard : Claim7 := { stood := { row := nativeNoneRow, standIns := [], harness := (true, "c50703b709b6f5462ecc5d87cab7c0c3b87b0a2685054b940becaf183008c67f"), looks := false }, kinds := [], alts := [], laidByText := true, laidKinds := [.data, .data, .listed, .data, .pinned], laidTests := true, laidLooks := .later }
def NativeNoneCardSaid : Prop := Claim7.holds Tryz.pinned (.plain (OpenSpec.ofChange nativeNoneSpec)) nativeNoneCard

/-- THE SECOND FORM's CARD OF 'imageeditorlaw39.NativeImages'. -/
def nativeImagesUptoCard : Claim7 := { stood := { row := nativeImagesUptoRow, standIns := [], harness := (true, "c50703b709b6f5462ecc5d87cab7c0c3b87b0a2685054b940becaf183008c67f"), looks := false }, kinds := [], alts := [], laidByText := true, laidKinds := [.data, .data, .listed, .data, .pinned], laidTests := true, laidLooks := .later }
def NativeImagesUptoCardSaid : Prop := Claim7.holds Tryz.pinned (.plain (OpenSpec.upto nativeImagesSpec)) nativeImagesUptoCard

/-- THE SECOND FORM's CARD OF 'imageeditorlaw39.NativeNodes'. -/
def nativeNodesUptoCard : Claim7 := { stood := { row := nativeNodesUptoRow, standIns := [], harness := (true, "c50703b709b6f5462ecc5d87cab7c0c3b87b0a2685054b940becaf183008c67f"), looks := false }, kinds := [], alts := [], laidByText := true, laidKinds := [.data, .data, .listed, .data, .pinned], laidTests := true, laidLooks := .later }
def NativeNodesUptoCardSaid : Prop := Claim7.holds Tryz.pinned (.plain (OpenSpec.upto nativeNodesSpec)) nativeNodesUptoCard

/-- THE SECOND FORM's CARD OF 'imageeditorlaw39.NativeNone'. -/
def nativeNoneUptoCard : Claim7 := { stood := { row := nativeNoneUptoRow, standIns := [], harness := (true, "c50703b709b6f5462ecc5d87cab7c0c3b87b0a2685054b940becaf183008c67f"), looks := false }, kinds := [], alts := [], laidByText := true, laidKinds := [.data, .data, .listed, .data, .pinned], laidTests := true, laidLooks := .later }
def NativeNoneUptoCardSaid : Prop := Claim7.holds Tryz.pinned (.plain (OpenSpec.upto nativeNoneSpec)) nativeNoneUptoCard
end Rows
end Go.Proofs.YtbiemgjkkhkdeaaGreatDoor
