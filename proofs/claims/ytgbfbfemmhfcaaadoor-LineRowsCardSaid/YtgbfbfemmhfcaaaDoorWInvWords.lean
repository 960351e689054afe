-- the kit's printed words, cut down by a program of this session's (wip/gen/prune.py) to what this claim names
import Derived.Test.YtgbfbfemmhfcaaaDoorWInv
import Derived.Test.YtgbfbfemmhfcaaaDoorWFootNe
namespace Go.Proofs.YtgbfbfemmhfcaaaDoorW.PrintWords
open Go.RowKit
end Go.Proofs.YtgbfbfemmhfcaaaDoorW.PrintWords
namespace Go.Proofs.YtgbfbfemmhfcaaaDoorW.PrintLast
section
variable {ops : Array Oper} {a : Act} {o og : Oper} {g : Nat} {t : Tmp} {u : Bool}
end
end Go.Proofs.YtgbfbfemmhfcaaaDoorW.PrintLast
