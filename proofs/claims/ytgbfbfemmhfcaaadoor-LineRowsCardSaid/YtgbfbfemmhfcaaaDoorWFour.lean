-- the kit's printed words, cut down by a program of this session's (wip/gen/prune.py) to what this claim names
import Derived.Test.YtgbfbfemmhfcaaaDoorWTab
namespace Go.Proofs.YtgbfbfemmhfcaaaDoorW.PrintLast
section
variable {P : Program} {ops : Array Oper} {Q : Exit → Act → World → Prop} {md : Region.Mode} {S : World → Prop} {ds : List Nat} {T : Bool × List (List Nat × List Nat)}
end
end Go.Proofs.YtgbfbfemmhfcaaaDoorW.PrintLast
