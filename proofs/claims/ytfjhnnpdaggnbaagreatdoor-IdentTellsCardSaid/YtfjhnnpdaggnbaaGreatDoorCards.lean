/-
  DERIVED. GIVEN WITH THE SEED: THE CARDS: each row of YtfjhnnpdaggnbaaGreatDoorRows.lean that lists a variable, with what it lists TIED to the program's text (the seventh form; the later family's looks); each row that meets fmt, with fmt's text TOLD by the authors' own Lean function (tested against real Go, not proved from fmt's source: count such statements apart). THE CARD IS WHAT COUNTS. Prove the row's statement (the work); the ties are given (YtfjhnnpdaggnbaaGreatDoorTie.lean); close each card by the builder's one call (the guide's Derived/Test/ToyasCard.lean, 'card_holds'). Laid BY PROGRAM, IN A SANDBOX (cutbox-door.mjs). By AI agents, Wed Nov 11 2026. No macro, syntax, notation, axiom, sorry.
-/
import Derived.Test.YtfjhnnpdaggnbaaGreatDoorRows
import GoSem.ClaimSeven
namespace Go.Proofs.YtfjhnnpdaggnbaaGreatDoor
namespace Rows

/-- THE TIED CARD OF 'diptychlaw10.IdentTells'. -/
def identTellsCard : Claim7 := { stood := { row := identTellsRow, standIns := [], harness := (true, "dd47651c4db54e64034dcdbf31b80a9e770a0c8aef7393eef818747a3284a59a"), looks := false }, kinds := [], alts := [], laidByText := true, laidKinds := [.data, .data, .data], laidTests := true, laidLooks := .later }
def IdentTellsCardSaid : Prop := Claim7.holds Tryz.pinned (.plain (OpenSpec.ofChange identTellsSpec)) identTellsCard

/-- THE SECOND FORM's CARD OF 'diptychlaw10.IdentTells'. -/
def identTellsUptoCard : Claim7 := { stood := { row := identTellsUptoRow, standIns := [], harness := (true, "dd47651c4db54e64034dcdbf31b80a9e770a0c8aef7393eef818747a3284a59a"), looks := false }, kinds := [], alts := [], laidByText := true, laidKinds := [.data, .data, .data], laidTests := true, laidLooks := .later }
def IdentTellsUptoCardSaid : Prop := Claim7.holds Tryz.pinned (.plain (OpenSpec.upto identTellsSpec)) identTellsUptoCard
end Rows
end Go.Proofs.YtfjhnnpdaggnbaaGreatDoor
