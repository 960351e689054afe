/-
  DERIVED. GIVEN WITH THE SEED: THE CARDS: each row of YtgjnpdnmcahhfaaDoorRows.lean that lists a variable, with what it lists TIED to the program's text (the seventh form; the later family's looks); each row that meets fmt, with fmt's text TOLD by the authors' own Lean function (tested against real Go, not proved from fmt's source: count such statements apart). THE CARD IS WHAT COUNTS. Prove the row's statement (the work); the ties are given (YtgjnpdnmcahhfaaDoorTie.lean); close each card by the builder's one call (the guide's Derived/Test/ToyasCard.lean, 'card_holds'). Laid BY PROGRAM, IN A SANDBOX (cutbox-door.mjs). By AI agents, Wed Nov 11 2026. No macro, syntax, notation, axiom, sorry.
-/
import Derived.Test.YtgjnpdnmcahhfaaDoorRows
import GoSem.ClaimSeven
namespace Go.Proofs.YtgjnpdnmcahhfaaDoor
namespace Rows

/-- THE TIED CARD OF 'diptychlaw01.HexaBack'. -/
def hexaBackCard : Claim7 := { stood := { row := hexaBackRow, standIns := [], harness := (true, "d76b8a7a91d46cb4541dcecbc7473371fc48258d79b953e894e446bc49590f68"), looks := false }, kinds := [], alts := [], laidByText := true, laidKinds := [.data, .pinned], laidTests := true, laidLooks := .later }
def HexaBackCardSaid : Prop := Claim7.holds Tryd.pinned (.plain (OpenSpec.ofChange hexaBackSpec)) hexaBackCard

/-- THE TIED CARD OF 'diptychlaw01.HexaFinds'. -/
def hexaFindsCard : Claim7 := { stood := { row := hexaFindsRow, standIns := [], harness := (true, "d76b8a7a91d46cb4541dcecbc7473371fc48258d79b953e894e446bc49590f68"), looks := false }, kinds := [], alts := [], laidByText := true, laidKinds := [.data, .pinned], laidTests := true, laidLooks := .later }
def HexaFindsCardSaid : Prop := Claim7.holds Tryd.pinned (.plain (OpenSpec.ofChange hexaFindsSpec)) hexaFindsCard

/-- THE TIED CARD OF 'diptychlaw01.HexaOrder'. -/
def hexaOrderCard : Claim7 := { stood := { row := hexaOrderRow, standIns := [], harness := (true, "d76b8a7a91d46cb4541dcecbc7473371fc48258d79b953e894e446bc49590f68"), looks := false }, kinds := [], alts := [], laidByText := true, laidKinds := [.data, .pinned], laidTests := true, laidLooks := .later }
def HexaOrderCardSaid : Prop := Claim7.holds Tryd.pinned (.plain (OpenSpec.ofChange hexaOrderSpec)) hexaOrderCard

/-- THE TIED CARD OF 'diptychlaw01.HexaOne'. -/
def hexaOneCard : Claim7 := { stood := { row := hexaOneRow, standIns := [], harness := (true, "d76b8a7a91d46cb4541dcecbc7473371fc48258d79b953e894e446bc49590f68"), looks := false }, kinds := [], alts := [], laidByText := true, laidKinds := [.data, .pinned], laidTests := true, laidLooks := .later }
def HexaOneCardSaid : Prop := Claim7.holds Tryd.pinned (.plain (OpenSpec.ofChange hexaOneSpec)) hexaOneCard

/-- THE TIED CARD OF 'diptychlaw01.HexaTells'. -/
def hexaTellsCard : Claim7 := { stood := { row := hexaTellsRow, standIns := [], harness := (true, "d76b8a7a91d46cb4541dcecbc7473371fc48258d79b953e894e446bc49590f68"), looks := false }, kinds := [], alts := [], laidByText := true, laidKinds := [.data, .pinned], laidTests := true, laidLooks := .later }
def HexaTellsCardSaid : Prop := Claim7.holds Tryd.pinned (.plain (OpenSpec.ofChange hexaTellsSpec)) hexaTellsCard

/-- THE SECOND FORM's CARD OF 'diptychlaw01.HexaBack'. -/
def hexaBackUptoCard : Claim7 := { stood := { row := hexaBackUptoRow, standIns := [], harness := (true, "d76b8a7a91d46cb4541dcecbc7473371fc48258d79b953e894e446bc49590f68"), looks := false }, kinds := [], alts := [], laidByText := true, laidKinds := [.data, .pinned], laidTests := true, laidLooks := .later }
def HexaBackUptoCardSaid : Prop := Claim7.holds Tryd.pinned (.plain (OpenSpec.upto hexaBackSpec)) hexaBackUptoCard

/-- THE SECOND FORM's CARD OF 'diptychlaw01.HexaFinds'. -/
def hexaFindsUptoCard : Claim7 := { stood := { row := hexaFindsUptoRow, standIns := [], harness := (true, "d76b8a7a91d46cb4541dcecbc7473371fc48258d79b953e894e446bc49590f68"), looks := false }, kinds := [], alts := [], laidByText := true, laidKinds := [.data, .pinned], laidTests := true, laidLooks := .later }
def HexaFindsUptoCardSaid : Prop := Claim7.holds Tryd.pinned (.plain (OpenSpec.upto hexaFindsSpec)) hexaFindsUptoCard

/-- THE SECOND FORM's CARD OF 'diptychlaw01.HexaOrder'. -/
def hexaOrderUptoCard : Claim7 := { stood := { row := hexaOrderUptoRow, standIns := [], harness := (true, "d76b8a7a91d46cb4541dcecbc7473371fc48258d79b953e894e446bc49590f68"), looks := false }, kinds := [], alts := [], laidByText := true, laidKinds := [.data, .pinned], laidTests := true, laidLooks := .later }
def HexaOrderUptoCardSaid : Prop := Claim7.holds Tryd.pinned (.plain (OpenSpec.upto hexaOrderSpec)) hexaOrderUptoCard

/-- THE SECOND FORM's CARD OF 'diptychlaw01.HexaOne'. -/
def hexaOneUptoCard : Claim7 := { stood := { row := hexaOneUptoRow, standIns := [], harness := (true, "d76b8a7a91d46cb4541dcecbc7473371fc48258d79b953e894e446bc49590f68"), looks := false }, kinds := [], alts := [], laidByText := true, laidKinds := [.data, .pinned], laidTests := true, laidLooks := .later }
def HexaOneUptoCardSaid : Prop := Claim7.holds Tryd.pinned (.plain (OpenSpec.upto hexaOneSpec)) hexaOneUptoCard

/-- THE SECOND FORM's CARD OF 'diptychlaw01.HexaTells'. -/
def hexaTellsUptoCard : Claim7 := { stood := { row := hexaTellsUptoRow, standIns := [], harness := (true, "d76b8a7a91d46cb4541dcecbc7473371fc48258d79b953e894e446bc49590f68"), looks := false }, kinds := [], alts := [], laidByText := true, laidKinds := [.data, .pinned], laidTests := true, laidLooks := .later }
def HexaTellsUptoCardSaid : Prop := Claim7.holds Tryd.pinned (.plain (OpenSpec.upto hexaTellsSpec)) hexaTellsUptoCard
end Rows
end Go.Proofs.YtgjnpdnmcahhfaaDoor
