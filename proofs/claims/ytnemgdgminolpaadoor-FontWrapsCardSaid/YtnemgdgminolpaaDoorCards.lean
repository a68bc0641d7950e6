/-
  DERIVED. GIVEN WITH THE SEED: THE CARDS: each row of YtnemgdgminolpaaDoorRows.lean that lists a variable, with what it lists TIED to the program's text (the seventh form; the later family's looks); each row that meets fmt, with fmt's text TOLD by the authors' own Lean function (tested against real Go, not proved from fmt's source: count such statements apart). THE CARD IS WHAT COUNTS. Prove the row's statement (the work); the ties are given (YtnemgdgminolpaaDoorTie.lean); close each card by the builder's one call (the guide's Derived/Test/ToyasCard.lean, 'card_holds'). Laid BY PROGRAM, IN A SANDBOX (cutbox-door.mjs). By AI agents, Wed Nov 11 2026. No macro, syntax, notation, axiom, sorry.
-/
import Derived.Test.YtnemgdgminolpaaDoorRows
import GoSem.ClaimSeven
namespace Go.Proofs.YtnemgdgminolpaaDoor
namespace Rows

/-- THE TIED CARD OF 'imageeditorlaw22.FontStandard'. -/
def fontStandardCard : Claim7 := { stood := { row := fontStandardRow, standIns := [], harness := (true, "4160317f41c78f736703ebb7c62d491111d69c4f8a7ebc534ec7ebee6f28555f"), looks := false }, kinds := [], alts := [], laidByText := true, laidKinds := [.data, .listed, .data, .pinned], laidTests := true, laidLooks := .later }
def FontStandardCardSaid : Prop := Claim7.holds Tryd.pinned (.plain (OpenSpec.ofChange fontStandardSpec)) fontStandardCard

/-- THE TIED CARD OF 'imageeditorlaw22.FontWidths'. -/
def fontWidthsCard : Claim7 := { stood := { row := fontWidthsRow, standIns := [], harness := (true, "4160317f41c78f736703ebb7c62d491111d69c4f8a7ebc534ec7ebee6f28555f"), looks := false }, kinds := [], alts := [], laidByText := true, laidKinds := [.data, .listed, .data, .pinned], laidTests := true, laidLooks := .later }
def FontWidthsCardSaid : Prop := Claim7.holds Tryd.pinned (.plain (OpenSpec.ofChange fontWidthsSpec)) fontWidthsCard

/-- THE TIED CARD OF 'imageeditorlaw22.FontLines'. -/
def fontLinesCard : Claim7 := { stood := { row := fontLinesRow, standIns := [], harness := (true, "4160317f41c78f736703ebb7c62d491111d69c4f8a7ebc534ec7ebee6f28555f"), looks := false }, kinds := [], alts := [], laidByText := true, laidKinds := [.data, .listed, .data, .pinned], laidTests := true, laidLooks := .later }
def FontLinesCardSaid : Prop := Claim7.holds Tryd.pinned (.plain (OpenSpec.ofChange fontLinesSpec)) fontLinesCard

/-- THE TIED CARD OF 'imageeditorlaw22.FontOutlines'. -/
def fontOutlinesCard : Claim7 := { stood := { row := fontOutlinesRow, standIns := [], harness := (true, "4160317f41c78f736703ebb7c62d491111d69c4f8a7ebc534ec7ebee6f28555f"), looks := false }, kinds := [], alts := [], laidByText := true, laidKinds := [.data, .listed, .data, .pinned], laidTests := true, laidLooks := .later }
def FontOutlinesCardSaid : Prop := Claim7.holds Tryd.pinned (.plain (OpenSpec.ofChange fontOutlinesSpec)) fontOutlinesCard

/-- THE TIED CARD OF 'imageeditorlaw22.FontWraps'. -/
def fontWrapsCard : Claim7 := { stood := { row := fontWrapsRow, standIns := [], harness := (true, "4160317f41c78f736703ebb7c62d491111d69c4f8a7ebc534ec7ebee6f28555f"), looks := false }, kinds := [], alts := [], laidByText := true, laidKinds := [.data, .listed, .data, .pinned], laidTests := true, laidLooks := .later }
def FontWrapsCardSaid : Prop := Claim7.holds Tryd.pinned (.plain (OpenSpec.ofChange fontWrapsSpec)) fontWrapsCard

/-- THE TIED CARD OF 'imageeditorlaw22.FontBegins'. -/
def fontBeginsCard : Claim7 := { stood := { row := fontBeginsRow, standIns := [], harness := (true, "4160317f41c78f736703ebb7c62d491111d69c4f8a7ebc534ec7ebee6f28555f"), looks := false }, kinds := [], alts := [], laidByText := true, laidKinds := [.data, .listed, .data, .pinned], laidTests := true, laidLooks := .later }
def FontBeginsCardSaid : Prop := Claim7.holds Tryd.pinned (.plain (OpenSpec.ofChange fontBeginsSpec)) fontBeginsCard

/-- THE SECOND FORM's CARD OF 'imageeditorlaw22.FontStandard'. -/
def fontStandardUptoCard : Claim7 := { stood := { row := fontStandardUptoRow, standIns := [], harness := (true, "4160317f41c78f736703ebb7c62d491111d69c4f8a7ebc534ec7ebee6f28555f"), looks := false }, kinds := [], alts := [], laidByText := true, laidKinds := [.data, .listed, .data, .pinned], laidTests := true, laidLooks := .later }
def FontStandardUptoCardSaid : Prop := Claim7.holds Tryd.pinned (.plain (OpenSpec.upto fontStandardSpec)) fontStandardUptoCard

/-- THE SECOND FORM's CARD OF 'imageeditorlaw22.FontWidths'. -/
def fontWidthsUptoCard : Claim7 := { stood := { row := fontWidthsUptoRow, standIns := [], harness := (true, "4160317f41c78f736703ebb7c62d491111d69c4f8a7ebc534ec7ebee6f28555f"), looks := false }, kinds := [], alts := [], laidByText := true, laidKinds := [.data, .listed, .data, .pinned], laidTests := true, laidLooks := .later }
def FontWidthsUptoCardSaid : Prop := Claim7.holds Tryd.pinned (.plain (OpenSpec.upto fontWidthsSpec)) fontWidthsUptoCard

/-- THE SECOND FORM's CARD OF 'imageeditorlaw22.FontLines'. -/
def fontLinesUptoCard : Claim7 := { stood := { row := fontLinesUptoRow, standIns := [], harness := (true, "4160317f41c78f736703ebb7c62d491111d69c4f8a7ebc534ec7ebee6f28555f"), looks := false }, kinds := [], alts := [], laidByText := true, laidKinds := [.data, .listed, .data, .pinned], laidTests := true, laidLooks := .later }
def FontLinesUptoCardSaid : Prop := Claim7.holds Tryd.pinned (.plain (OpenSpec.upto fontLinesSpec)) fontLinesUptoCard

/-- THE SECOND FORM's CARD OF 'imageeditorlaw22.FontOutlines'. -/
def fontOutlinesUptoCard : Claim7 := { stood := { row := fontOutlinesUptoRow, standIns := [], harness := (true, "4160317f41c78f736703ebb7c62d491111d69c4f8a7ebc534ec7ebee6f28555f"), looks := false }, kinds := [], alts := [], laidByText := true, laidKinds := [.data, .listed, .data, .pinned], laidTests := true, laidLooks := .later }
def FontOutlinesUptoCardSaid : Prop := Claim7.holds Tryd.pinned (.plain (OpenSpec.upto fontOutlinesSpec)) fontOutlinesUptoCard

/-- THE SECOND FORM's CARD OF 'imageeditorlaw22.FontWraps'. -/
def fontWrapsUptoCard : Claim7 := { stood := { row := fontWrapsUptoRow, standIns := [], harness := (true, "4160317f41c78f736703ebb7c62d491111d69c4f8a7ebc534ec7ebee6f28555f"), looks := false }, kinds := [], alts := [], laidByText := true, laidKinds := [.data, .listed, .data, .pinned], laidTests := true, laidLooks := .later }
def FontWrapsUptoCardSaid : Prop := Claim7.holds Tryd.pinned (.plain (OpenSpec.upto fontWrapsSpec)) fontWrapsUptoCard

/-- THE SECOND FORM's CARD OF 'imageeditorlaw22.FontBegins'. -/
def fontBeginsUptoCard : Claim7 := { stood := { row := fontBeginsUptoRow, standIns := [], harness := (true, "4160317f41c78f736703ebb7c62d491111d69c4f8a7ebc534ec7ebee6f28555f"), looks := false }, kinds := [], alts := [], laidByText := true, laidKinds := [.data, .listed, .data, .pinned], laidTests := true, laidLooks := .later }
def FontBeginsUptoCardSaid : Prop := Claim7.holds Tryd.pinned (.plain (OpenSpec.upto fontBeginsSpec)) fontBeginsUptoCard
end Rows
end Go.Proofs.YtnemgdgminolpaaDoor
