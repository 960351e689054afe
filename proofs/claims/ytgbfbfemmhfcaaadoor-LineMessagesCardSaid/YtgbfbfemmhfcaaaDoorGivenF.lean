/- diptychref27.Parse: what it computes. -/
import Derived.Test.YtgbfbfemmhfcaaaDoorPx12
import Derived.Test.YtgbfbfemmhfcaaaDoorPx16
import Derived.Test.YtgbfbfemmhfcaaaDoorPx17
import Derived.Test.YtgbfbfemmhfcaaaDoorGiven
import Derived.Deep.QuietTactic
import Derived.Deep.RegionWith
import Derived.Deep.RegionHeld3
namespace Go.Proofs.YtgbfbfemmhfcaaaDoor.P
open Go.Joins Go.RowKit Go.Shelf Go.Proofs.YtgbfbfemmhfcaaaDoorW.PrintWords
def refParseB (k : Nat) (a0 : ByteArray) (l : List ByteArray) : Option (Int × Int × Int × List ByteArray × Int) :=
  (diptychref27_number.f k (rdOf ByteArray.empty l 0)).bind fun n0 => (diptychref27_number.f k (rdOf ByteArray.empty l 1)).bind fun n1 => (diptychref27_number.f k (rdOf ByteArray.empty l 2)).bind fun n2 =>
    (diptychref27_Print.f k n0 n1 n2 (l.drop 3)).bind fun t => if t.2 = 0 ∧ t.1.toList = a0.toList then some (n0, n1, n2, l.drop 3, 0) else some (0, 0, 0, [], 3)
def diptychref27_Parse.f (k : Nat) (a0 : ByteArray) : Option (Int × Int × Int × List ByteArray × Int) :=
  (diptychref04_Open.f k a0).bind fun p => if p.2 = 0 then (diptychref27_Take.f k p.1).bind fun q => if q.2.2 = 0 ∧ 3 ≤ q.1.length then refParseB k a0 q.1 else some (0, 0, 0, [], 3) else some (0, 0, 0, [], p.2)
theorem diptychref27_Parse.mono : ∀ a0 k, LeO (diptychref27_Parse.f k a0) (diptychref27_Parse.f (k + 1) a0) := by
  intro a0 k
  unfold diptychref27_Parse.f refParseB
  refine LeO.bind (diptychref04_Open.mono _ _) (fun _ => LeO.ite (LeO.bind (diptychref27_Take.mono _ _) (fun _ => LeO.ite (LeO.bind (diptychref27_number.mono _ _) (fun _ => LeO.bind (diptychref27_number.mono _ _) (fun _ => LeO.bind (diptychref27_number.mono _ _) (fun _ => LeO.bind (diptychref27_Print.mono _ _ _ _ _) (fun _ => LeO.refl _))))) (LeO.refl _))) (LeO.refl _))
abbrev RefPost (w : World) (r1 r2 r3 : Int) (r4 : List ByteArray) (r5 : Int) (e : Ending) (w' : World) : Prop := ∃ v : Value, e = .returned (.tuple #[.agg #[.int .i64 r1, .int .i64 r2, .int .i64 r3, v], .int .i64 r5]) ∧ Kd.Q Kd.string 9 w' w.heap.size (fun _ => True) v r4 ∧ Below w.heap.size w w'
end Go.Proofs.YtgbfbfemmhfcaaaDoor.P
