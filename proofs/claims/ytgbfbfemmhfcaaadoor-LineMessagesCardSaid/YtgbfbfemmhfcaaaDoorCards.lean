/-
  DERIVED. GIVEN WITH THE SEED: THE CARDS: each row of YtgbfbfemmhfcaaaDoorRows.lean that lists a variable, with what it lists TIED to the program's text (the seventh form; the later family's looks); each row that meets fmt, with fmt's text TOLD by the authors' own Lean function (tested against real Go, not proved from fmt's source: count such statements apart). THE CARD IS WHAT COUNTS. Prove the row's statement (the work); the ties are given (YtgbfbfemmhfcaaaDoorTie.lean); close each card by the builder's one call (the guide's Derived/Test/ToyasCard.lean, 'card_holds'). Laid BY PROGRAM, IN A SANDBOX (cutbox-door.mjs). By AI agents, Wed Nov 11 2026. No macro, syntax, notation, axiom, sorry.
-/
import Derived.Test.YtgbfbfemmhfcaaaDoorRows
import GoSem.ClaimSeven
namespace Go.Proofs.YtgbfbfemmhfcaaaDoor
namespace Rows

/-- THE TIED CARD OF 'diptychlaw27.LineTexts'. -/
def lineTextsCard : Claim7 := { stood := { row := lineTextsRow, standIns := [], harness := (true, "bb7d87ef99d3c869382d6c29e451edf395f1860d2c84b9942cc72fcb77f50458"), looks := true }, kinds := [], alts := [], laidByText := true, laidKinds := [.data, .data, .data, .sentinel, .sentinel], laidTests := true, laidLooks := .later }
def LineTextsCardSaid : Prop := Claim7.holds Tryd.pinned (.plain (OpenSpec.ofChange lineTextsSpec)) lineTextsCard

/-- THE TIED CARD OF 'diptychlaw27.LineMessages'. -/
def lineMessagesCard : Claim7 := { stood := { row := lineMessagesRow, standIns := [], harness := (true, "bb7d87ef99d3c869382d6c29e451edf395f1860d2c84b9942cc72fcb77f50458"), looks := true }, kinds := [], alts := [], laidByText := true, laidKinds := [.data, .data, .data, .sentinel, .sentinel], laidTests := true, laidLooks := .later }
def LineMessagesCardSaid : Prop := Claim7.holds Tryd.pinned (.plain (OpenSpec.ofChange lineMessagesSpec)) lineMessagesCard

/-- THE TIED CARD OF 'diptychlaw27.LineRows'. -/
def lineRowsCard : Claim7 := { stood := { row := lineRowsRow, standIns := [], harness := (true, "bb7d87ef99d3c869382d6c29e451edf395f1860d2c84b9942cc72fcb77f50458"), looks := true }, kinds := [], alts := [], laidByText := true, laidKinds := [.data, .data, .data, .sentinel, .sentinel], laidTests := true, laidLooks := .later }
def LineRowsCardSaid : Prop := Claim7.holds Tryd.pinned (.plain (OpenSpec.ofChange lineRowsSpec)) lineRowsCard

/-- THE TIED CARD OF 'diptychlaw27.LineCut'. -/
def lineCutCard : Claim7 := { stood := { row := lineCutRow, standIns := [], harness := (true, "bb7d87ef99d3c869382d6c29e451edf395f1860d2c84b9942cc72fcb77f50458"), looks := true }, kinds := [], alts := [], laidByText := true, laidKinds := [.data, .data, .data, .sentinel, .sentinel], laidTests := true, laidLooks := .later }
def LineCutCardSaid : Prop := Claim7.holds Tryd.pinned (.plain (OpenSpec.ofChange lineCutSpec)) lineCutCard

/-- THE SECOND FORM's CARD OF 'diptychlaw27.LineTexts'. -/
def lineTextsUptoCard : Claim7 := { stood := { row := lineTextsUptoRow, standIns := [], harness := (true, "bb7d87ef99d3c869382d6c29e451edf395f1860d2c84b9942cc72fcb77f50458"), looks := true }, kinds := [], alts := [], laidByText := true, laidKinds := [.data, .data, .data, .sentinel, .sentinel], laidTests := true, laidLooks := .later }
def LineTextsUptoCardSaid : Prop := Claim7.holds Tryd.pinned (.plain (OpenSpec.upto lineTextsSpec)) lineTextsUptoCard

/-- THE SECOND FORM's CARD OF 'diptychlaw27.LineMessages'. -/
def lineMessagesUptoCard : Claim7 := { stood := { row := lineMessagesUptoRow, standIns := [], harness := (true, "bb7d87ef99d3c869382d6c29e451edf395f1860d2c84b9942cc72fcb77f50458"), looks := true }, kinds := [], alts := [], laidByText := true, laidKinds := [.data, .data, .data, .sentinel, .sentinel], laidTests := true, laidLooks := .later }
def LineMessagesUptoCardSaid : Prop := Claim7.holds Tryd.pinned (.plain (OpenSpec.upto lineMessagesSpec)) lineMessagesUptoCard

/-- THE SECOND FORM's CARD OF 'diptychlaw27.LineRows'. -/
def lineRowsUptoCard : Claim7 := { stood := { row := lineRowsUptoRow, standIns := [], harness := (true, "bb7d87ef99d3c869382d6c29e451edf395f1860d2c84b9942cc72fcb77f50458"), looks := true }, kinds := [], alts := [], laidByText := true, laidKinds := [.data, .data, .data, .sentinel, .sentinel], laidTests := true, laidLooks := .later }
def LineRowsUptoCardSaid : Prop := Claim7.holds Tryd.pinned (.plain (OpenSpec.upto lineRowsSpec)) lineRowsUptoCard

/-- THE SECOND FORM's CARD OF 'diptychlaw27.LineCut'. -/
def lineCutUptoCard : Claim7 := { stood := { row := lineCutUptoRow, standIns := [], harness := (true, "bb7d87ef99d3c869382d6c29e451edf395f1860d2c84b9942cc72fcb77f50458"), looks := true }, kinds := [], alts := [], laidByText := true, laidKinds := [.data, .data, .data, .sentinel, .sentinel], laidTests := true, laidLooks := .later }
def LineCutUptoCardSaid : Prop := Claim7.holds Tryd.pinned (.plain (OpenSpec.upto lineCutSpec)) lineCutUptoCard
end Rows
end Go.Proofs.YtgbfbfemmhfcaaaDoor
