/-
  DERIVED. GIVEN WITH THE SEED: THE CARDS: each row of YtfjhnnpdaggnbaaDoorRows.lean that lists a variable, with what it lists TIED to the program's text (the seventh form; the later family's looks); each row that meets fmt, with fmt's text TOLD by the authors' own Lean function (tested against real Go, not proved from fmt's source: count such statements apart). THE CARD IS WHAT COUNTS. Prove the row's statement (the work); the ties are given (YtfjhnnpdaggnbaaDoorTie.lean); close each card by the builder's one call (the guide's Derived/Test/ToyasCard.lean, 'card_holds'). Laid BY PROGRAM, IN A SANDBOX (cutbox-door.mjs). By AI agents, Wed Nov 11 2026. No macro, syntax, notation, axiom, sorry.
-/
import Derived.Test.YtfjhnnpdaggnbaaDoorRows
import GoSem.ClaimSeven
namespace Go.Proofs.YtfjhnnpdaggnbaaDoor
namespace Rows

/-- THE TIED CARD OF 'diptychlaw10.IdentMakes'. -/
def identMakesCard : Claim7 := { stood := { row := identMakesRow, standIns := [], harness := (true, "961d4d1d7664f715b6a3b68075c92342030de8adb7e062e0883dcdea9ed200d5"), looks := false }, kinds := [], alts := [], laidByText := true, laidKinds := [.data, .data, .data], laidTests := true, laidLooks := .later }
def IdentMakesCardSaid : Prop := Claim7.holds Tryd.pinned (.plain (OpenSpec.ofChange identMakesSpec)) identMakesCard

/-- THE TIED CARD OF 'diptychlaw10.IdentLimit'. -/
def identLimitCard : Claim7 := { stood := { row := identLimitRow, standIns := [], harness := (true, "961d4d1d7664f715b6a3b68075c92342030de8adb7e062e0883dcdea9ed200d5"), looks := false }, kinds := [], alts := [], laidByText := true, laidKinds := [.data, .data, .data], laidTests := true, laidLooks := .later }
def IdentLimitCardSaid : Prop := Claim7.holds Tryd.pinned (.plain (OpenSpec.ofChange identLimitSpec)) identLimitCard

/-- THE TIED CARD OF 'diptychlaw10.IdentRow'. -/
def identRowCard : Claim7 := { stood := { row := identRowRow, standIns := [], harness := (true, "961d4d1d7664f715b6a3b68075c92342030de8adb7e062e0883dcdea9ed200d5"), looks := false }, kinds := [], alts := [], laidByText := true, laidKinds := [.data, .data, .data], laidTests := true, laidLooks := .later }
def IdentRowCardSaid : Prop := Claim7.holds Tryd.pinned (.plain (OpenSpec.ofChange identRowSpec)) identRowCard

/-- THE SECOND FORM's CARD OF 'diptychlaw10.IdentMakes'. -/
def identMakesUptoCard : Claim7 := { stood := { row := identMakesUptoRow, standIns := [], harness := (true, "961d4d1d7664f715b6a3b68075c92342030de8adb7e062e0883dcdea9ed200d5"), looks := false }, kinds := [], alts := [], laidByText := true, laidKinds := [.data, .data, .data], laidTests := true, laidLooks := .later }
def IdentMakesUptoCardSaid : Prop := Claim7.holds Tryd.pinned (.plain (OpenSpec.upto identMakesSpec)) identMakesUptoCard

/-- THE SECOND FORM's CARD OF 'diptychlaw10.IdentLimit'. -/
def identLimitUptoCard : Claim7 := { stood := { row := identLimitUptoRow, standIns := [], harness := (true, "961d4d1d7664f715b6a3b68075c92342030de8adb7e062e0883dcdea9ed200d5"), looks := false }, kinds := [], alts := [], laidByText := true, laidKinds := [.data, .data, .data], laidTests := true, laidLooks := .later }
def IdentLimitUptoCardSaid : Prop := Claim7.holds Tryd.pinned (.plain (OpenSpec.upto identLimitSpec)) identLimitUptoCard

/-- THE SECOND FORM's CARD OF 'diptychlaw10.IdentRow'. -/
def identRowUptoCard : Claim7 := { stood := { row := identRowUptoRow, standIns := [], harness := (true, "961d4d1d7664f715b6a3b68075c92342030de8adb7e062e0883dcdea9ed200d5"), looks := false }, kinds := [], alts := [], laidByText := true, laidKinds := [.data, .data, .data], laidTests := true, laidLooks := .later }
def IdentRowUptoCardSaid : Prop := Claim7.holds Tryd.pinned (.plain (OpenSpec.upto identRowSpec)) identRowUptoCard
end Rows
end Go.Proofs.YtfjhnnpdaggnbaaDoor
