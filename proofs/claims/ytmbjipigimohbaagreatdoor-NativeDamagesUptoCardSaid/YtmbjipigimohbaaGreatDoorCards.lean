/-
  DERIVED. GIVEN WITH THE SEED: THE CARDS: each row of YtmbjipigimohbaaGreatDoorRows.lean that lists a variable, with what it lists TIED to the program's text (the seventh form; the later family's looks); each row that meets fmt, with fmt's text TOLD by the authors' own Lean function (tested against real Go, not proved from fmt's source: count such statements apart). THE CARD IS WHAT COUNTS. Prove the row's statement (the work); the ties are given (YtmbjipigimohbaaGreatDoorTie.lean); close each card by the builder's one call (the guide's Derived/Test/ToyasCard.lean, 'card_holds'). Laid BY PROGRAM, IN A SANDBOX (cutbox-door.mjs). By AI agents, Wed Nov 11 2026. No macro, syntax, notation, axiom, sorry.
-/
import Derived.Test.YtmbjipigimohbaaGreatDoorRows
import GoSem.ClaimSeven
namespace Go.Proofs.YtmbjipigimohbaaGreatDoor
namespace Rows

/-- THE TIED CARD OF 'imageeditorlaw39.NativeReturns'. -/
def nativeReturnsCard : Claim7 := { stood := { row := nativeReturnsRow, standIns := [], harness := (true, "4d1b987467e092c1bf1815c32fbbfe597c0e2286ae2e1b2cc27ce41c936755a3"), looks := false }, kinds := [], alts := [], laidByText := true, laidKinds := [.data, .data, .listed, .data, .pinned], laidTests := true, laidLooks := .later }
def NativeReturnsCardSaid : Prop := Claim7.holds Tryz.pinned (.plain (OpenSpec.ofChange nativeReturnsSpec)) nativeReturnsCard

/-- THE TIED CARD OF 'imageeditorlaw39.NativeForms'. -/
def nativeFormsCard : Claim7 := { stood := { row := nativeFormsRow, standIns := [], harness := (true, "4d1b987467e092c1bf1815c32fbbfe597c0e2286ae2e1b2cc27ce41c936755a3"), looks := false }, kinds := [], alts := [], laidByText := true, laidKinds := [.data, .data, .listed, .data, .pinned], laidTests := true, laidLooks := .later }
def NativeFormsCardSaid : Prop := Claim7.holds Tryz.pinned (.plain (OpenSpec.ofChange nativeFormsSpec)) nativeFormsCard

/-- THE TIED CARD OF 'imageeditorlaw39.NativeDamages'. -/
def nativeDamagesCard : Claim7 := { stood := { row := nativeDamagesRow, standIns := [], harness := (true, "4d1b987467e092c1bf1815c32fbbfe597c0e2286ae2e1b2cc27ce41c936755a3"), looks := false }, kinds := [], alts := [], laidByText := true, laidKinds := [.data, .data, .listed, .data, .pinned], laidTests := true, laidLooks := .later }
def NativeDamagesCardSaid : Prop := Claim7.holds Tryz.pinned (.plain (OpenSpec.ofChange nativeDamagesSpec)) nativeDamagesCard

/-- THE SECOND FORM's CARD OF 'imageeditorlaw39.NativeReturns'. -/
def nativeReturnsUptoCard : Claim7 := { stood := { row := nativeReturnsUptoRow, standIns := [], harness := (true, "4d1b987467e092c1bf1815c32fbbfe597c0e2286ae2e1b2cc27ce41c936755a3"), looks := false }, kinds := [], alts := [], laidByText := true, laidKinds := [.data, .data, .listed, .data, .pinned], laidTests := true, laidLooks := .later }
def NativeReturnsUptoCardSaid : Prop := Claim7.holds Tryz.pinned (.plain (OpenSpec.upto nativeReturnsSpec)) nativeReturnsUptoCard

/-- THE SECOND FORM's CARD OF 'imageeditorlaw39.NativeForms'. -/
def nativeFormsUptoCard : Claim7 := { stood := { row := nativeFormsUptoRow, standIns := [], harness := (true, "4d1b987467e092c1bf1815c32fbbfe597c0e2286ae2e1b2cc27ce41c936755a3"), looks := false }, kinds := [], alts := [], laidByText := true, laidKinds := [.data, .data, .listed, .data, .pinned], laidTests := true, laidLooks := .later }
def NativeFormsUptoCardSaid : Prop := Claim7.holds Tryz.pinned (.plain (OpenSpec.upto nativeFormsSpec)) nativeFormsUptoCard

/-- THE SECOND FORM's CARD OF 'imageeditorlaw39.NativeDamages'. -/
def nativeDamagesUptoCard : Claim7 := { stood := { row := nativeDamagesUptoRow, standIns := [], harness := (true, "4d1b987467e092c1bf1815c32fbbfe597c0e2286ae2e1b2cc27ce41c936755a3"), looks := false }, kinds := [], alts := [], laidByText := true, laidKinds := [.data, .data, .listed, .data, .pinned], laidTests := true, laidLooks := .later }
def NativeDamagesUptoCardSaid : Prop := Claim7.holds Tryz.pinned (.plain (OpenSpec.upto nativeDamagesSpec)) nativeDamagesUptoCard
end Rows
end Go.Proofs.YtmbjipigimohbaaGreatDoor
