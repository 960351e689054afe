/-
  NARROWER THAN 'FOR EVERY INPUT', by the rows' own cells (each row's printed sentence says how): HexaBack: laid · HexaFinds: laid · HexaOrder: laid · HexaOne: laid · HexaTells: laid.
  DERIVED. THE GIVEN ROWS OF THIS SEAT. 5 by the template 'for every input the law returns true; each argument reads behind the call as it read before'; 0 by the template 'total and deterministic' (their statements: YtgjnpdnmcahhfaaDoorTotals.lean).
  GIVEN WITH THE SEED: the statements are not yours to turn. If you find one false, say at which input.
  Laid BY PROGRAM, IN A SANDBOX (cutbox-rows.mjs): the forced cells as the released guide's own fill.sh prints them over the translation 36d5b13dc2804b68… (all of the seat's roots in one cut). By AI agents, Wed Nov 11 2026. No macro, syntax, notation, axiom, sorry.
-/
import Derived.Test.YtgjnpdnmcahhfaaDoorChecked
import GoSem.PinnedTables
import GoSem.Claim
import GoSem.ClaimJoined
import GoSem.ClaimMapViews
import Derived.JoinedTies
import Derived.KernelRfl
namespace Go.Proofs.YtgjnpdnmcahhfaaDoor
/- THE CELL 'sum', in the pinned program and in every row, IS THE sha256 OF THE DUMP (.gsa) THAT YtgjnpdnmcahhfaaDoorProg.lean LOADS. Nothing in Lean hashes anything: it is a label: what it is worth is what the hold of that sum in a sandbox is worth. -/
noncomputable def Tryd.pinned : Pinned := { name := "ytgjnpdnmcahhfaadoor", sum := "36d5b13dc2804b684bb0753b6454d83e57ccea27941355345d0f8fb0201c29cf", checked := Tryd.checked }
namespace Rows
def none {H : Type} : Left H := { results := [], args := [] }

/- WHAT THE LISTED PACKAGE-LEVEL VARIABLES READ AS WHEN THE CALL BEGINS. Each datum BY PROGRAM (the guide's laid-datum.mjs) off the statement by which the dump's own 'gosem.cut.vars' lays the variable. In a bare row this is a premise. The card (YtgjnpdnmcahhfaaDoorCards.lean) ties it to the program's text. -/
def laid_unicode_utf8_acceptRanges {H : Type} : DataW H := .agg [.agg [.lit (.int .u8 128), .lit (.int .u8 191)], .agg [.lit (.int .u8 160), .lit (.int .u8 191)], .agg [.lit (.int .u8 128), .lit (.int .u8 159)], .agg [.lit (.int .u8 144), .lit (.int .u8 191)], .agg [.lit (.int .u8 128), .lit (.int .u8 143)], .agg [.lit (.int .u8 0), .lit (.int .u8 0)], .agg [.lit (.int .u8 0), .lit (.int .u8 0)], .agg [.lit (.int .u8 0), .lit (.int .u8 0)], .agg [.lit (.int .u8 0), .lit (.int .u8 0)], .agg [.lit (.int .u8 0), .lit (.int .u8 0)], .agg [.lit (.int .u8 0), .lit (.int .u8 0)], .agg [.lit (.int .u8 0), .lit (.int .u8 0)], .agg [.lit (.int .u8 0), .lit (.int .u8 0)], .agg [.lit (.int .u8 0), .lit (.int .u8 0)], .agg [.lit (.int .u8 0), .lit (.int .u8 0)], .agg [.lit (.int .u8 0), .lit (.int .u8 0)]]
/-- One of Go's own tables, pinned by name: the form's constant. -/
def laid_unicode_utf8_first : DataW Unit := Go.Pinned.utf8First

/-- 'diptychlaw01.HexaBack': WHATEVER THE INPUT: true; the input reads as it did. -/
def hexaBackSpec : ChangeSpec := { name := "hexaBack", fn := fun _ => fun
  | [d1, d2, d3] => { results := [.lit (.bool true)], args := [d1, d2, d3] }
  | _ => none }
def hexaBackRow : OpenClaim := { program := "ytgjnpdnmcahhfaadoor", sum := "36d5b13dc2804b684bb0753b6454d83e57ccea27941355345d0f8fb0201c29cf", func := "diptych/diptychlaw01.HexaBack", spec := "hexaBack", inPlace := ["internal/bytealg.IndexByteString", "internal/bytealg.IndexString"], named := ["unicode/utf8.first", "unicode/utf8.acceptRanges", "internal/bytealg.MaxLen"], apart := false, laid := [("unicode/utf8.acceptRanges", laid_unicode_utf8_acceptRanges), ("unicode/utf8.first", laid_unicode_utf8_first)] }
def HexaBackSaid : Prop := hexaBackRow.holds Tryd.pinned (OpenSpec.ofChange hexaBackSpec)

/-- ITS FALSE NEIGHBOUR: 'it returns false'. Refute it at one input. -/
def hexaBackWrong : ChangeSpec := { name := "hexaBack", fn := fun _ => fun
  | [d1, d2, d3] => { results := [.lit (.bool false)], args := [d1, d2, d3] }
  | _ => none }
def HexaBackWrongFalsely : Prop := hexaBackRow.holds Tryd.pinned (OpenSpec.ofChange hexaBackWrong)

/-- 'diptychlaw01.HexaFinds': WHATEVER THE INPUT: true; the input reads as it did. -/
def hexaFindsSpec : ChangeSpec := { name := "hexaFinds", fn := fun _ => fun
  | [d1, d2] => { results := [.lit (.bool true)], args := [d1, d2] }
  | _ => none }
def hexaFindsRow : OpenClaim := { program := "ytgjnpdnmcahhfaadoor", sum := "36d5b13dc2804b684bb0753b6454d83e57ccea27941355345d0f8fb0201c29cf", func := "diptych/diptychlaw01.HexaFinds", spec := "hexaFinds", inPlace := ["internal/bytealg.IndexByteString", "internal/bytealg.IndexString"], named := ["unicode/utf8.first", "unicode/utf8.acceptRanges", "internal/bytealg.MaxLen"], apart := false, laid := [("unicode/utf8.acceptRanges", laid_unicode_utf8_acceptRanges), ("unicode/utf8.first", laid_unicode_utf8_first)] }
def HexaFindsSaid : Prop := hexaFindsRow.holds Tryd.pinned (OpenSpec.ofChange hexaFindsSpec)

/-- ITS FALSE NEIGHBOUR: 'it returns false'. Refute it at one input. -/
def hexaFindsWrong : ChangeSpec := { name := "hexaFinds", fn := fun _ => fun
  | [d1, d2] => { results := [.lit (.bool false)], args := [d1, d2] }
  | _ => none }
def HexaFindsWrongFalsely : Prop := hexaFindsRow.holds Tryd.pinned (OpenSpec.ofChange hexaFindsWrong)

/-- 'diptychlaw01.HexaOrder': WHATEVER THE INPUT: true; the input reads as it did. -/
def hexaOrderSpec : ChangeSpec := { name := "hexaOrder", fn := fun _ => fun
  | [d1, d2, d3, d4] => { results := [.lit (.bool true)], args := [d1, d2, d3, d4] }
  | _ => none }
def hexaOrderRow : OpenClaim := { program := "ytgjnpdnmcahhfaadoor", sum := "36d5b13dc2804b684bb0753b6454d83e57ccea27941355345d0f8fb0201c29cf", func := "diptych/diptychlaw01.HexaOrder", spec := "hexaOrder", inPlace := ["internal/bytealg.IndexByteString", "internal/bytealg.IndexString"], named := ["unicode/utf8.first", "unicode/utf8.acceptRanges", "internal/bytealg.MaxLen"], apart := false, laid := [("unicode/utf8.acceptRanges", laid_unicode_utf8_acceptRanges), ("unicode/utf8.first", laid_unicode_utf8_first)] }
def HexaOrderSaid : Prop := hexaOrderRow.holds Tryd.pinned (OpenSpec.ofChange hexaOrderSpec)

/-- ITS FALSE NEIGHBOUR: 'it returns false'. Refute it at one input. -/
def hexaOrderWrong : ChangeSpec := { name := "hexaOrder", fn := fun _ => fun
  | [d1, d2, d3, d4] => { results := [.lit (.bool false)], args := [d1, d2, d3, d4] }
  | _ => none }
def HexaOrderWrongFalsely : Prop := hexaOrderRow.holds Tryd.pinned (OpenSpec.ofChange hexaOrderWrong)

/-- 'diptychlaw01.HexaOne': WHATEVER THE INPUT: true; the input reads as it did. -/
def hexaOneSpec : ChangeSpec := { name := "hexaOne", fn := fun _ => fun
  | [d1, d2] => { results := [.lit (.bool true)], args := [d1, d2] }
  | _ => none }
def hexaOneRow : OpenClaim := { program := "ytgjnpdnmcahhfaadoor", sum := "36d5b13dc2804b684bb0753b6454d83e57ccea27941355345d0f8fb0201c29cf", func := "diptych/diptychlaw01.HexaOne", spec := "hexaOne", inPlace := ["internal/bytealg.IndexByteString", "internal/bytealg.IndexString"], named := ["unicode/utf8.first", "unicode/utf8.acceptRanges", "internal/bytealg.MaxLen"], apart := false, laid := [("unicode/utf8.acceptRanges", laid_unicode_utf8_acceptRanges), ("unicode/utf8.first", laid_unicode_utf8_first)] }
def HexaOneSaid : Prop := hexaOneRow.holds Tryd.pinned (OpenSpec.ofChange hexaOneSpec)

/-- ITS FALSE NEIGHBOUR: 'it returns false'. Refute it at one input. -/
def hexaOneWrong : ChangeSpec := { name := "hexaOne", fn := fun _ => fun
  | [d1, d2] => { results := [.lit (.bool false)], args := [d1, d2] }
  | _ => none }
def HexaOneWrongFalsely : Prop := hexaOneRow.holds Tryd.pinned (OpenSpec.ofChange hexaOneWrong)

/-- 'diptychlaw01.HexaTells': WHATEVER THE INPUT: true; the input reads as it did. -/
def hexaTellsSpec : ChangeSpec := { name := "hexaTells", fn := fun _ => fun
  | [d1, d2, d3, d4] => { results := [.lit (.bool true)], args := [d1, d2, d3, d4] }
  | _ => none }
def hexaTellsRow : OpenClaim := { program := "ytgjnpdnmcahhfaadoor", sum := "36d5b13dc2804b684bb0753b6454d83e57ccea27941355345d0f8fb0201c29cf", func := "diptych/diptychlaw01.HexaTells", spec := "hexaTells", inPlace := ["internal/bytealg.IndexByteString", "internal/bytealg.IndexString"], named := ["unicode/utf8.first", "unicode/utf8.acceptRanges", "internal/bytealg.MaxLen"], apart := false, laid := [("unicode/utf8.acceptRanges", laid_unicode_utf8_acceptRanges), ("unicode/utf8.first", laid_unicode_utf8_first)] }
def HexaTellsSaid : Prop := hexaTellsRow.holds Tryd.pinned (OpenSpec.ofChange hexaTellsSpec)

/-- ITS FALSE NEIGHBOUR: 'it returns false'. Refute it at one input. -/
def hexaTellsWrong : ChangeSpec := { name := "hexaTells", fn := fun _ => fun
  | [d1, d2, d3, d4] => { results := [.lit (.bool false)], args := [d1, d2, d3, d4] }
  | _ => none }
def HexaTellsWrongFalsely : Prop := hexaTellsRow.holds Tryd.pinned (OpenSpec.ofChange hexaTellsWrong)

/- THE SECOND FORM. 'bulk': how many values and letters a reading holds, each counted each time it is reached (what is shared counts as often as it is met; a slice's spare places count too). A statement '..UptoSaid' is the law's where the arguments, and the package variables that the reading takes, are together of bulk at most 1048576: NARROWER than '..Said'. Prove '..Said' where nothing that the law and all that it calls make is longer than what came in: it says more and counts as full. Else prove '..UptoSaid'. A law counts once. -/
mutual
def uptoBulk {H : Type} : DataW H → Nat
  | .lit (.string bytes) => bytes.length + 1
  | .lit _ => 1
  | .nil => 1
  | .ptr d => uptoBulk d + 1
  | .slice elems spare => uptoBulkAll elems + uptoBulkAll spare + 1
  | .agg parts => uptoBulkAll parts + 1
  | .iface _ d => uptoBulk d + 1
  | .map entries => uptoBulkEntries entries + 1
  | .held _ => 1
def uptoBulkAll {H : Type} : List (DataW H) → Nat
  | [] => 0
  | d :: r => uptoBulk d + uptoBulkAll r
def uptoBulkEntries {H : Type} : List (Lit × DataW H) → Nat
  | [] => 0
  | x :: r => uptoBulkEntry x + uptoBulkEntries r
def uptoBulkEntry {H : Type} : Lit × DataW H → Nat
  | (.string bytes, d) => bytes.length + uptoBulk d + 1
  | (_, d) => uptoBulk d + 1
 end
def uptoSmall : (H : Type) → List (DataW H) → Bool := fun _ ds => decide (uptoBulkAll ds ≤ 1048576)
def OpenSpec.upto (s : _root_.Go.ChangeSpec) : _root_.Go.OpenSpec := { _root_.Go.OpenSpec.ofChange s with cond := some uptoSmall }

/-- 'diptychlaw01.HexaBack', WHERE WHAT IT READS IS OF BULK AT MOST 1048576: true; the input reads as it did. -/
def hexaBackUptoRow : OpenClaim := { program := "ytgjnpdnmcahhfaadoor", sum := "36d5b13dc2804b684bb0753b6454d83e57ccea27941355345d0f8fb0201c29cf", func := "diptych/diptychlaw01.HexaBack", spec := "hexaBack", inPlace := ["internal/bytealg.IndexByteString", "internal/bytealg.IndexString"], named := ["unicode/utf8.first", "unicode/utf8.acceptRanges", "internal/bytealg.MaxLen"], apart := false, laid := [("unicode/utf8.acceptRanges", laid_unicode_utf8_acceptRanges), ("unicode/utf8.first", laid_unicode_utf8_first)], narrowed := true }
def HexaBackUptoSaid : Prop := hexaBackUptoRow.holds Tryd.pinned (OpenSpec.upto hexaBackSpec)

/-- 'diptychlaw01.HexaFinds', WHERE WHAT IT READS IS OF BULK AT MOST 1048576: true; the input reads as it did. -/
def hexaFindsUptoRow : OpenClaim := { program := "ytgjnpdnmcahhfaadoor", sum := "36d5b13dc2804b684bb0753b6454d83e57ccea27941355345d0f8fb0201c29cf", func := "diptych/diptychlaw01.HexaFinds", spec := "hexaFinds", inPlace := ["internal/bytealg.IndexByteString", "internal/bytealg.IndexString"], named := ["unicode/utf8.first", "unicode/utf8.acceptRanges", "internal/bytealg.MaxLen"], apart := false, laid := [("unicode/utf8.acceptRanges", laid_unicode_utf8_acceptRanges), ("unicode/utf8.first", laid_unicode_utf8_first)], narrowed := true }
def HexaFindsUptoSaid : Prop := hexaFindsUptoRow.holds Tryd.pinned (OpenSpec.upto hexaFindsSpec)

/-- 'diptychlaw01.HexaOrder', WHERE WHAT IT READS IS OF BULK AT MOST 1048576: true; the input reads as it did. -/
def hexaOrderUptoRow : OpenClaim := { program := "ytgjnpdnmcahhfaadoor", sum := "36d5b13dc2804b684bb0753b6454d83e57ccea27941355345d0f8fb0201c29cf", func := "diptych/diptychlaw01.HexaOrder", spec := "hexaOrder", inPlace := ["internal/bytealg.IndexByteString", "internal/bytealg.IndexString"], named := ["unicode/utf8.first", "unicode/utf8.acceptRanges", "internal/bytealg.MaxLen"], apart := false, laid := [("unicode/utf8.acceptRanges", laid_unicode_utf8_acceptRanges), ("unicode/utf8.first", laid_unicode_utf8_first)], narrowed := true }
def HexaOrderUptoSaid : Prop := hexaOrderUptoRow.holds Tryd.pinned (OpenSpec.upto hexaOrderSpec)

/-- 'diptychlaw01.HexaOne', WHERE WHAT IT READS IS OF BULK AT MOST 1048576: true; the input reads as it did. -/
def hexaOneUptoRow : OpenClaim := { program := "ytgjnpdnmcahhfaadoor", sum := "36d5b13dc2804b684bb0753b6454d83e57ccea27941355345d0f8fb0201c29cf", func := "diptych/diptychlaw01.HexaOne", spec := "hexaOne", inPlace := ["internal/bytealg.IndexByteString", "internal/bytealg.IndexString"], named := ["unicode/utf8.first", "unicode/utf8.acceptRanges", "internal/bytealg.MaxLen"], apart := false, laid := [("unicode/utf8.acceptRanges", laid_unicode_utf8_acceptRanges), ("unicode/utf8.first", laid_unicode_utf8_first)], narrowed := true }
def HexaOneUptoSaid : Prop := hexaOneUptoRow.holds Tryd.pinned (OpenSpec.upto hexaOneSpec)

/-- 'diptychlaw01.HexaTells', WHERE WHAT IT READS IS OF BULK AT MOST 1048576: true; the input reads as it did. -/
def hexaTellsUptoRow : OpenClaim := { program := "ytgjnpdnmcahhfaadoor", sum := "36d5b13dc2804b684bb0753b6454d83e57ccea27941355345d0f8fb0201c29cf", func := "diptych/diptychlaw01.HexaTells", spec := "hexaTells", inPlace := ["internal/bytealg.IndexByteString", "internal/bytealg.IndexString"], named := ["unicode/utf8.first", "unicode/utf8.acceptRanges", "internal/bytealg.MaxLen"], apart := false, laid := [("unicode/utf8.acceptRanges", laid_unicode_utf8_acceptRanges), ("unicode/utf8.first", laid_unicode_utf8_first)], narrowed := true }
def HexaTellsUptoSaid : Prop := hexaTellsUptoRow.holds Tryd.pinned (OpenSpec.upto hexaTellsSpec)

end Rows
end Go.Proofs.YtgjnpdnmcahhfaaDoor
