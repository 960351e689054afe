/-
  No cell of these rows narrows 'for every input' (looked for: loops, veiled, ifaces, maps, wideKeys, modest, calm, conditions, laid).
  DERIVED. THE GIVEN ROWS OF THIS SEAT. 3 by the template 'for every input the law returns true; each argument reads behind the call as it read before'; 0 by the template 'total and deterministic' (their statements: YtffhmlnklohbdaaTotals.lean).
  GIVEN WITH THE SEED: the statements are not yours to turn. If you find one false, say at which input.
  Laid BY PROGRAM, IN A SANDBOX (cutbox-rows.mjs): the forced cells as the released guide's own fill.sh prints them over the translation e714058674525dd5… (all of the seat's roots in one cut). By AI agents, Wed Nov 11 2026. No macro, syntax, notation, axiom, sorry.
-/
import Derived.Test.YtffhmlnklohbdaaChecked
import GoSem.Claim
import GoSem.ClaimJoined
import GoSem.ClaimMapViews
import Derived.JoinedTies
import Derived.KernelRfl
namespace Go.Proofs.Ytffhmlnklohbdaa
/- THE CELL 'sum', in the pinned program and in every row, IS THE sha256 OF THE DUMP (.gsa) THAT YtffhmlnklohbdaaProg.lean LOADS. Nothing in Lean hashes anything: it is a label: what it is worth is what the hold of that sum in a sandbox is worth. -/
noncomputable def Try.pinned : Pinned := { name := "ytffhmlnklohbdaa", sum := "e714058674525dd5336d4394071ad8869d2bb054b5e82f905a2d07220beda807", checked := Try.checked }
namespace Rows
def none {H : Type} : Left H := { results := [], args := [] }

/-- 'diptychlaw05.DetectRows': WHATEVER THE INPUT: true; the input reads as it did. -/
def detectRowsSpec : ChangeSpec := { name := "detectRows", fn := fun _ => fun
  | [d] => { results := [.lit (.bool true)], args := [d] }
  | _ => none }
def detectRowsRow : OpenClaim := { program := "ytffhmlnklohbdaa", sum := "e714058674525dd5336d4394071ad8869d2bb054b5e82f905a2d07220beda807", func := "diptych/diptychlaw05.DetectRows", spec := "detectRows", inPlace := ["internal/abi.NoEscape", "internal/bytealg.MakeNoZero"], apart := false }
def DetectRowsSaid : Prop := detectRowsRow.holds Try.pinned (OpenSpec.ofChange detectRowsSpec)

/-- ITS FALSE NEIGHBOUR: 'it returns false'. Refute it at one input. -/
def detectRowsWrong : ChangeSpec := { name := "detectRows", fn := fun _ => fun
  | [d] => { results := [.lit (.bool false)], args := [d] }
  | _ => none }
def DetectRowsWrongFalsely : Prop := detectRowsRow.holds Try.pinned (OpenSpec.ofChange detectRowsWrong)

/-- 'diptychlaw05.DetectMarks': WHATEVER THE INPUT: true; the input reads as it did. -/
def detectMarksSpec : ChangeSpec := { name := "detectMarks", fn := fun _ => fun
  | [d1, d2, d3, d4] => { results := [.lit (.bool true)], args := [d1, d2, d3, d4] }
  | _ => none }
def detectMarksRow : OpenClaim := { program := "ytffhmlnklohbdaa", sum := "e714058674525dd5336d4394071ad8869d2bb054b5e82f905a2d07220beda807", func := "diptych/diptychlaw05.DetectMarks", spec := "detectMarks", inPlace := ["internal/abi.NoEscape", "internal/bytealg.MakeNoZero"], apart := false }
def DetectMarksSaid : Prop := detectMarksRow.holds Try.pinned (OpenSpec.ofChange detectMarksSpec)

/-- ITS FALSE NEIGHBOUR: 'it returns false'. Refute it at one input. -/
def detectMarksWrong : ChangeSpec := { name := "detectMarks", fn := fun _ => fun
  | [d1, d2, d3, d4] => { results := [.lit (.bool false)], args := [d1, d2, d3, d4] }
  | _ => none }
def DetectMarksWrongFalsely : Prop := detectMarksRow.holds Try.pinned (OpenSpec.ofChange detectMarksWrong)

/-- 'diptychlaw05.DetectTwins': WHATEVER THE INPUT: true; the input reads as it did. -/
def detectTwinsSpec : ChangeSpec := { name := "detectTwins", fn := fun _ => fun
  | [d1, d2, d3] => { results := [.lit (.bool true)], args := [d1, d2, d3] }
  | _ => none }
def detectTwinsRow : OpenClaim := { program := "ytffhmlnklohbdaa", sum := "e714058674525dd5336d4394071ad8869d2bb054b5e82f905a2d07220beda807", func := "diptych/diptychlaw05.DetectTwins", spec := "detectTwins", inPlace := ["internal/abi.NoEscape", "internal/bytealg.MakeNoZero"], apart := false }
def DetectTwinsSaid : Prop := detectTwinsRow.holds Try.pinned (OpenSpec.ofChange detectTwinsSpec)

/-- ITS FALSE NEIGHBOUR: 'it returns false'. Refute it at one input. -/
def detectTwinsWrong : ChangeSpec := { name := "detectTwins", fn := fun _ => fun
  | [d1, d2, d3] => { results := [.lit (.bool false)], args := [d1, d2, d3] }
  | _ => none }
def DetectTwinsWrongFalsely : Prop := detectTwinsRow.holds Try.pinned (OpenSpec.ofChange detectTwinsWrong)

/- THE SECOND FORM. 'bulk': how many values and letters a reading holds, each counted each time it is reached (what is shared counts as often as it is met; a slice's spare places count too). A statement '..UptoSaid' is the law's where the arguments, and the package variables that the reading takes, are together of bulk at most 1048576: NARROWER than '..Said'. Prove '..Said' where nothing that the law and all that it calls make is longer than what came in: it says more and counts as full. Else prove '..UptoSaid'. A law counts once. -/
mutual
def uptoBulk {H : Type} : DataW H → Nat
  | .lit (.string bytes) => bytes.length + 1
  | .lit _ => 1
  | .nil => 1
  | .ptr d => uptoBulk d + 1
  | .slice elems spare => uptoBulkAll elems + uptoBulkAll spare + 1
  | .agg parts => uptoBulkAll parts + 1
  | .iface _ d => uptoBulk d + 1
  | .map entries => uptoBulkEntries entries + 1
  | .held _ => 1
def uptoBulkAll {H : Type} : List (DataW H) → Nat
  | [] => 0
  | d :: r => uptoBulk d + uptoBulkAll r
def uptoBulkEntries {H : Type} : List (Lit × DataW H) → Nat
  | [] => 0
  | x :: r => uptoBulkEntry x + uptoBulkEntries r
def uptoBulkEntry {H : Type} : Lit × DataW H → Nat
  | (.string bytes, d) => bytes.length + uptoBulk d + 1
  | (_, d) => uptoBulk d + 1
 end
def uptoSmall : (H : Type) → List (DataW H) → Bool := fun _ ds => decide (uptoBulkAll ds ≤ 1048576)
def OpenSpec.upto (s : _root_.Go.ChangeSpec) : _root_.Go.OpenSpec := { _root_.Go.OpenSpec.ofChange s with cond := some uptoSmall }

/-- 'diptychlaw05.DetectRows', WHERE WHAT IT READS IS OF BULK AT MOST 1048576: true; the input reads as it did. -/
def detectRowsUptoRow : OpenClaim := { program := "ytffhmlnklohbdaa", sum := "e714058674525dd5336d4394071ad8869d2bb054b5e82f905a2d07220beda807", func := "diptych/diptychlaw05.DetectRows", spec := "detectRows", inPlace := ["internal/abi.NoEscape", "internal/bytealg.MakeNoZero"], apart := false, narrowed := true }
def DetectRowsUptoSaid : Prop := detectRowsUptoRow.holds Try.pinned (OpenSpec.upto detectRowsSpec)

/-- 'diptychlaw05.DetectMarks', WHERE WHAT IT READS IS OF BULK AT MOST 1048576: true; the input reads as it did. -/
def detectMarksUptoRow : OpenClaim := { program := "ytffhmlnklohbdaa", sum := "e714058674525dd5336d4394071ad8869d2bb054b5e82f905a2d07220beda807", func := "diptych/diptychlaw05.DetectMarks", spec := "detectMarks", inPlace := ["internal/abi.NoEscape", "internal/bytealg.MakeNoZero"], apart := false, narrowed := true }
def DetectMarksUptoSaid : Prop := detectMarksUptoRow.holds Try.pinned (OpenSpec.upto detectMarksSpec)

/-- 'diptychlaw05.DetectTwins', WHERE WHAT IT READS IS OF BULK AT MOST 1048576: true; the input reads as it did. -/
def detectTwinsUptoRow : OpenClaim := { program := "ytffhmlnklohbdaa", sum := "e714058674525dd5336d4394071ad8869d2bb054b5e82f905a2d07220beda807", func := "diptych/diptychlaw05.DetectTwins", spec := "detectTwins", inPlace := ["internal/abi.NoEscape", "internal/bytealg.MakeNoZero"], apart := false, narrowed := true }
def DetectTwinsUptoSaid : Prop := detectTwinsUptoRow.holds Try.pinned (OpenSpec.upto detectTwinsSpec)

end Rows
end Go.Proofs.Ytffhmlnklohbdaa
