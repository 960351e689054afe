-- written by a program of this session's (wip/gen), after the kit's print
import Derived.Test.YtgbfbfemmhfcaaaDoorProg
import Derived.Below
import Derived.Deep.Draws
import Derived.Deep.AppendLies
import Derived.Maps.AppendAt
import Derived.OwnWalk
import Derived.Laws.BytesArg
import Derived.Laws.MakeOwn
import Derived.Laws.OwnMore
import Derived.Deep.OwnRows
import Derived.Tactics
import Derived.Lib.ConvBytes
import Derived.Laws.Slices
import Derived.WalkKit
import Derived.KernelRfl
import Derived.RowKit3
import Derived.Deep.LoopGhost
import Derived.Deep.QuietTactic
import Derived.BigQuiet
import Derived.WideLaws
import Derived.Deep.DeepCutAuto
import Derived.Deep.CutBlock
import Derived.Deep.RegionHeld3
import Derived.Laws.Rows
import Derived.Lib.AppendStr
import Derived.ArgAppend
import Derived.Laws.IdiomCopy
import Derived.OrdersHeld
import Derived.Laws.BitsLemmas
import Derived.RowKit
import Derived.Test.YtgbfbfemmhfcaaaDoorGiven
import Derived.Test.YtgbfbfemmhfcaaaDoorWWords
import Derived.Test.YtgbfbfemmhfcaaaDoorWLast
import Derived.Test.YtgbfbfemmhfcaaaDoorWTab
import Derived.Test.YtgbfbfemmhfcaaaDoorWFour
import Derived.Test.YtgbfbfemmhfcaaaDoorWQPut
import Derived.Test.YtgbfbfemmhfcaaaDoorWApart
import Derived.Test.YtgbfbfemmhfcaaaDoorWArr
import Derived.Test.YtgbfbfemmhfcaaaDoorWZeros
import Derived.Test.YtgbfbfemmhfcaaaDoorWFoot
import Derived.Test.YtgbfbfemmhfcaaaDoorWKept
import Derived.Test.YtgbfbfemmhfcaaaDoorWShare
import Derived.Test.YtgbfbfemmhfcaaaDoorWN
import Derived.Test.YtgbfbfemmhfcaaaDoorWFootNe
import Derived.Test.YtgbfbfemmhfcaaaDoorWAt
import Derived.Test.YtgbfbfemmhfcaaaDoorWEqStruct
import Derived.Test.YtgbfbfemmhfcaaaDoorWRepsOne
import Derived.Test.YtgbfbfemmhfcaaaDoorWInv
import Derived.Test.YtgbfbfemmhfcaaaDoorWInvWords
import Derived.Test.YtgbfbfemmhfcaaaDoorWGuard
import Derived.Test.YtgbfbfemmhfcaaaDoorWNEv
import Derived.Test.YtgbfbfemmhfcaaaDoorWMore
namespace Go.Proofs.YtgbfbfemmhfcaaaDoor.P
open Go.RowKit Go.Proofs.YtgbfbfemmhfcaaaDoorW.PrintWords Go.Proofs.YtgbfbfemmhfcaaaDoorW.PrintLast Go.Proofs.YtgbfbfemmhfcaaaDoorW.PrintMore
attribute [local go_sem] max2_int min2_int max_two min_two max_three min_three max_four min_four   -- for this text's walks alone
set_option linter.unusedVariables false
set_option linter.unusedSimpArgs false



def errW : Option Int → Value
  | none => .nilIface
  | some c => .iface 0 (.int .i64 c)
theorem errW_none : errW none = .nilIface := rfl
theorem errW_some (c : Int) : errW (some c) = .iface 0 (.int .i64 c) := rfl

theorem info5 : (Tryd.prog.info? 5).map (fun i => (i.zero, i.size, i.bytes)) = some (some (.int .u8 0), 1, 1) := by kernel_rfl
theorem info9 : (Tryd.prog.info? 9).map (fun i => (i.zero, i.size, i.bytes)) = some (some (.string ⟨#[]⟩), 1, 16) := by kernel_rfl
-- the values' own types

end Go.Proofs.YtgbfbfemmhfcaaaDoor.P
