/-
  DERIVED. GIVEN WITH THE SEED: THE CARDS: each row of YtnhchnlgleokoaaDoorRows.lean that lists a variable, with what it lists TIED to the program's text (the seventh form; the later family's looks); each row that meets fmt, with fmt's text TOLD by the authors' own Lean function (tested against real Go, not proved from fmt's source: count such statements apart). THE CARD IS WHAT COUNTS. Prove the row's statement (the work); the ties are given (YtnhchnlgleokoaaDoorTie.lean); close each card by the builder's one call (the guide's Derived/Test/ToyasCard.lean, 'card_holds'). Laid BY PROGRAM, IN A SANDBOX (cutbox-door.mjs). By AI agents, Wed Nov 11 2026. No macro, syntax, notation, axiom, sorry.
-/
import Derived.Test.YtnhchnlgleokoaaDoorRows
import GoSem.ClaimSeven
namespace Go.Proofs.YtnhchnlgleokoaaDoor
namespace Rows

/-- THE TIED CARD OF 'diptychlaw21.RefsSwap'. -/
def refsSwapCard : Claim7 := { stood := { row := refsSwapRow, standIns := [], harness := (true, "f0f738b5e3688a40a1e2a81227c0d3674e740332b255c66dacd47cf313369a49"), looks := false }, kinds := [], alts := [], laidByText := true, laidKinds := [.data, .pinned], laidTests := true, laidLooks := .later }
def RefsSwapCardSaid : Prop := Claim7.holds Tryd.pinned (.plain (OpenSpec.ofChange refsSwapSpec)) refsSwapCard

/-- THE TIED CARD OF 'diptychlaw21.RefsTexts'. -/
def refsTextsCard : Claim7 := { stood := { row := refsTextsRow, standIns := [], harness := (true, "f0f738b5e3688a40a1e2a81227c0d3674e740332b255c66dacd47cf313369a49"), looks := false }, kinds := [], alts := [], laidByText := true, laidKinds := [.data, .pinned], laidTests := true, laidLooks := .later }
def RefsTextsCardSaid : Prop := Claim7.holds Tryd.pinned (.plain (OpenSpec.ofChange refsTextsSpec)) refsTextsCard

/-- THE TIED CARD OF 'diptychlaw21.RefsOnce'. -/
def refsOnceCard : Claim7 := { stood := { row := refsOnceRow, standIns := [], harness := (true, "f0f738b5e3688a40a1e2a81227c0d3674e740332b255c66dacd47cf313369a49"), looks := false }, kinds := [], alts := [], laidByText := true, laidKinds := [.data, .pinned], laidTests := true, laidLooks := .later }
def RefsOnceCardSaid : Prop := Claim7.holds Tryd.pinned (.plain (OpenSpec.ofChange refsOnceSpec)) refsOnceCard

/-- THE TIED CARD OF 'diptychlaw21.RefsOthers'. -/
def refsOthersCard : Claim7 := { stood := { row := refsOthersRow, standIns := [], harness := (true, "f0f738b5e3688a40a1e2a81227c0d3674e740332b255c66dacd47cf313369a49"), looks := false }, kinds := [], alts := [], laidByText := true, laidKinds := [.data, .pinned], laidTests := true, laidLooks := .later }
def RefsOthersCardSaid : Prop := Claim7.holds Tryd.pinned (.plain (OpenSpec.ofChange refsOthersSpec)) refsOthersCard

/-- THE SECOND FORM's CARD OF 'diptychlaw21.RefsSwap'. -/
def refsSwapUptoCard : Claim7 := { stood := { row := refsSwapUptoRow, standIns := [], harness := (true, "f0f738b5e3688a40a1e2a81227c0d3674e740332b255c66dacd47cf313369a49"), looks := false }, kinds := [], alts := [], laidByText := true, laidKinds := [.data, .pinned], laidTests := true, laidLooks := .later }
def RefsSwapUptoCardSaid : Prop := Claim7.holds Tryd.pinned (.plain (OpenSpec.upto refsSwapSpec)) refsSwapUptoCard

/-- THE SECOND FORM's CARD OF 'diptychlaw21.RefsTexts'. -/
def refsTextsUptoCard : Claim7 := { stood := { row := refsTextsUptoRow, standIns := [], harness := (true, "f0f738b5e3688a40a1e2a81227c0d3674e740332b255c66dacd47cf313369a49"), looks := false }, kinds := [], alts := [], laidByText := true, laidKinds := [.data, .pinned], laidTests := true, laidLooks := .later }
def RefsTextsUptoCardSaid : Prop := Claim7.holds Tryd.pinned (.plain (OpenSpec.upto refsTextsSpec)) refsTextsUptoCard

/-- THE SECOND FORM's CARD OF 'diptychlaw21.RefsOnce'. -/
def refsOnceUptoCard : Claim7 := { stood := { row := refsOnceUptoRow, standIns := [], harness := (true, "f0f738b5e3688a40a1e2a81227c0d3674e740332b255c66dacd47cf313369a49"), looks := false }, kinds := [], alts := [], laidByText := true, laidKinds := [.data, .pinned], laidTests := true, laidLooks := .later }
def RefsOnceUptoCardSaid : Prop := Claim7.holds Tryd.pinned (.plain (OpenSpec.upto refsOnceSpec)) refsOnceUptoCard

/-- THE SECOND FORM's CARD OF 'diptychlaw21.RefsOthers'. -/
def refsOthersUptoCard : Claim7 := { stood := { row := refsOthersUptoRow, standIns := [], harness := (true, "f0f738b5e3688a40a1e2a81227c0d3674e740332b255c66dacd47cf313369a49"), looks := false }, kinds := [], alts := [], laidByText := true, laidKinds := [.data, .pinned], laidTests := true, laidLooks := .later }
def RefsOthersUptoCardSaid : Prop := Claim7.holds Tryd.pinned (.plain (OpenSpec.upto refsOthersSpec)) refsOthersUptoCard
end Rows
end Go.Proofs.YtnhchnlgleokoaaDoor
