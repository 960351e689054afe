/-
  DERIVED. GIVEN WITH THE SEED: THE CARDS: each row of YtenbgnlkkmnmhaaDoorRows.lean that lists a variable, with what it lists TIED to the program's text (the seventh form; the later family's looks); each row that meets fmt, with fmt's text TOLD by the authors' own Lean function (tested against real Go, not proved from fmt's source: count such statements apart). THE CARD IS WHAT COUNTS. Prove the row's statement (the work); the ties are given (YtenbgnlkkmnmhaaDoorTie.lean); close each card by the builder's one call (the guide's Derived/Test/ToyasCard.lean, 'card_holds'). Laid BY PROGRAM, IN A SANDBOX (cutbox-door.mjs). By AI agents, Wed Nov 11 2026. No macro, syntax, notation, axiom, sorry.
-/
import Derived.Test.YtenbgnlkkmnmhaaDoorRows
import GoSem.ClaimSeven
namespace Go.Proofs.YtenbgnlkkmnmhaaDoor
namespace Rows

/-- THE TIED CARD OF 'diptychlaw23.MergeSides'. -/
def mergeSidesCard : Claim7 := { stood := { row := mergeSidesRow, standIns := [], harness := (true, "268f2fa557408401d3d42e7b687651c68e215eff1857cd47e50cc51f4c5464e5"), looks := false }, kinds := [], alts := [], laidByText := true, laidKinds := [.data, .pinned], laidTests := true, laidLooks := .later }
def MergeSidesCardSaid : Prop := Claim7.holds Tryd.pinned (.plain (OpenSpec.ofChange mergeSidesSpec)) mergeSidesCard

/-- THE TIED CARD OF 'diptychlaw23.MergeAgain'. -/
def mergeAgainCard : Claim7 := { stood := { row := mergeAgainRow, standIns := [], harness := (true, "268f2fa557408401d3d42e7b687651c68e215eff1857cd47e50cc51f4c5464e5"), looks := false }, kinds := [], alts := [], laidByText := true, laidKinds := [.data, .pinned], laidTests := true, laidLooks := .later }
def MergeAgainCardSaid : Prop := Claim7.holds Tryd.pinned (.plain (OpenSpec.ofChange mergeAgainSpec)) mergeAgainCard

/-- THE SECOND FORM's CARD OF 'diptychlaw23.MergeSides'. -/
def mergeSidesUptoCard : Claim7 := { stood := { row := mergeSidesUptoRow, standIns := [], harness := (true, "268f2fa557408401d3d42e7b687651c68e215eff1857cd47e50cc51f4c5464e5"), looks := false }, kinds := [], alts := [], laidByText := true, laidKinds := [.data, .pinned], laidTests := true, laidLooks := .later }
def MergeSidesUptoCardSaid : Prop := Claim7.holds Tryd.pinned (.plain (OpenSpec.upto mergeSidesSpec)) mergeSidesUptoCard

/-- THE SECOND FORM's CARD OF 'diptychlaw23.MergeAgain'. -/
def mergeAgainUptoCard : Claim7 := { stood := { row := mergeAgainUptoRow, standIns := [], harness := (true, "268f2fa557408401d3d42e7b687651c68e215eff1857cd47e50cc51f4c5464e5"), looks := false }, kinds := [], alts := [], laidByText := true, laidKinds := [.data, .pinned], laidTests := true, laidLooks := .later }
def MergeAgainUptoCardSaid : Prop := Claim7.holds Tryd.pinned (.plain (OpenSpec.upto mergeAgainSpec)) mergeAgainUptoCard
end Rows
end Go.Proofs.YtenbgnlkkmnmhaaDoor
