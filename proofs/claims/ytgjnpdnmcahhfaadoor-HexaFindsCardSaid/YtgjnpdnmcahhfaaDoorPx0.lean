-- written by a program of this session's (wip/gen), after the kit's print
import Derived.Test.YtgjnpdnmcahhfaaDoorProg
import Derived.Below
import Derived.Deep.Draws
import Derived.Deep.AppendLies
import Derived.Maps.AppendAt
import Derived.OwnWalk
import Derived.Laws.BytesArg
import Derived.Laws.MakeOwn
import Derived.Laws.OwnMore
import Derived.Deep.OwnRows
import Derived.Tactics
import Derived.Lib.ConvBytes
import Derived.Laws.Slices
import Derived.WalkKit
import Derived.KernelRfl
import Derived.RowKit3
import Derived.Deep.LoopGhost
import Derived.Deep.QuietTactic
import Derived.BigQuiet
import Derived.WideLaws
import Derived.Deep.DeepCutAuto
import Derived.Deep.CutBlock
import Derived.Deep.RegionHeld3
import Derived.Laws.Rows
import Derived.Lib.AppendStr
import Derived.ArgAppend
import Derived.Laws.IdiomCopy
import Derived.OrdersHeld
import Derived.Laws.BitsLemmas
import Derived.RowKit
import Derived.Test.YtgjnpdnmcahhfaaDoorGiven
import Derived.Test.YtgjnpdnmcahhfaaDoorWWords
import Derived.Test.YtgjnpdnmcahhfaaDoorWLast
import Derived.Test.YtgjnpdnmcahhfaaDoorWTab
import Derived.Test.YtgjnpdnmcahhfaaDoorWFour
import Derived.Test.YtgjnpdnmcahhfaaDoorWQPut
import Derived.Test.YtgjnpdnmcahhfaaDoorWApart
import Derived.Test.YtgjnpdnmcahhfaaDoorWArr
import Derived.Test.YtgjnpdnmcahhfaaDoorWZeros
import Derived.Test.YtgjnpdnmcahhfaaDoorWFoot
import Derived.Test.YtgjnpdnmcahhfaaDoorWKept
import Derived.Test.YtgjnpdnmcahhfaaDoorWShare
import Derived.Test.YtgjnpdnmcahhfaaDoorWN
import Derived.Test.YtgjnpdnmcahhfaaDoorWFootNe
import Derived.Test.YtgjnpdnmcahhfaaDoorWAt
import Derived.Test.YtgjnpdnmcahhfaaDoorWEqStruct
import Derived.Test.YtgjnpdnmcahhfaaDoorWRepsOne
import Derived.Test.YtgjnpdnmcahhfaaDoorWInv
import Derived.Test.YtgjnpdnmcahhfaaDoorWInvWords
import Derived.Test.YtgjnpdnmcahhfaaDoorWGuard
import Derived.Test.YtgjnpdnmcahhfaaDoorWNEv
import Derived.Test.YtgjnpdnmcahhfaaDoorWMore
namespace Go.Proofs.YtgjnpdnmcahhfaaDoor.P
open Go.RowKit Go.Proofs.YtgjnpdnmcahhfaaDoorW.PrintWords Go.Proofs.YtgjnpdnmcahhfaaDoorW.PrintLast Go.Proofs.YtgjnpdnmcahhfaaDoorW.PrintMore
attribute [local go_sem] max2_int min2_int max_two min_two max_three min_three max_four min_four   -- for this text's walks alone
set_option linter.unusedVariables false
set_option linter.unusedSimpArgs false



def errW : Option Int → Value
  | none => .nilIface
  | some c => .iface 0 (.int .i64 c)
theorem errW_none : errW none = .nilIface := rfl
theorem errW_some (c : Int) : errW (some c) = .iface 0 (.int .i64 c) := rfl

theorem info5 : (Tryd.prog.info? 5).map (fun i => (i.zero, i.size, i.bytes)) = some (some (.int .u8 0), 1, 1) := by kernel_rfl
theorem info9 : (Tryd.prog.info? 9).map (fun i => (i.zero, i.size, i.bytes)) = some (some (.string ⟨#[]⟩), 1, 16) := by kernel_rfl
-- the values' own types

end Go.Proofs.YtgjnpdnmcahhfaaDoor.P
