-- the kit's printed words, cut down by a program of this session's (wip/gen/prune.py) to what this claim names
import Derived.Test.YtgbfbfemmhfcaaaDoorWWords
import Derived.Laws.StructEq
namespace Go.Proofs.YtgbfbfemmhfcaaaDoorW.PrintWords
open Go.RowKit
section
variable {P : Program} {d : Nat} {xs ys : Array Value} {f : Field} {fs : List Field} {a b : Value} {r s : Bool} {w : World}
end
end Go.Proofs.YtgbfbfemmhfcaaaDoorW.PrintWords
