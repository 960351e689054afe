-- the kit's printed words, cut down by a program of this session's (wip/gen/prune.py) to what this claim names
import Derived.Test.YtgbfbfemmhfcaaaDoorWN
namespace Go.Proofs.YtgbfbfemmhfcaaaDoorW.PrintWords
open Go.RowKit
namespace Kd
section
variable {α : Type} {d : Kd α} {W : World} {g n : Nat} {S ok : Nat → Prop} {A : Option Addr} {ad : Addr} {xs : List α}
end
end Kd
end Go.Proofs.YtgbfbfemmhfcaaaDoorW.PrintWords
