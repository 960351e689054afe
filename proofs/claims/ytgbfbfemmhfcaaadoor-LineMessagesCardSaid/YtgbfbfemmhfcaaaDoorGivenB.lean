/- line.Parse: what it computes, whatever way it goes. -/
import Derived.Test.YtgbfbfemmhfcaaaDoorGivenD
namespace Go.Proofs.YtgbfbfemmhfcaaaDoor.P
open Go.Joins Go.RowKit Go.Shelf Go.Proofs.YtgbfbfemmhfcaaaDoorW.PrintWords
theorem line_Parse.calls (k : Nat) (a0 : ByteArray) (r1 r2 r3 : Int) (r4 : List ByteArray) (r5 : Int) (w : World) (hG : Gd w) (h : line_Parse.f k a0 = some (r1, r2, r3, r4, r5)) : Calls Tryd.prog 16 #[.string a0] w (fun e w' => ∃ v : Value, e = .returned (.tuple #[.agg #[.int .i64 r1, .int .i64 r2, .int .i64 r3, v], .int .i64 r5]) ∧ Kd.Q Kd.string 9 w' w.heap.size (fun _ => True) v r4 ∧ Below w.heap.size w w') := by
  unfold line_Parse.f at h
  obtain ⟨⟨b, e0⟩, ho, h⟩ := Option.bind_eq_some_iff.mp h
  by_cases he : e0 = 0
  · subst he
    rw [if_pos rfl] at h
    obtain ⟨⟨ls, rest, e1⟩, ht, h⟩ := Option.bind_eq_some_iff.mp h
    by_cases hl : e1 = 0 ∧ 3 ≤ ls.length
    · replace h : parseB k a0 ls = some (r1, r2, r3, r4, r5) := (if_pos hl).symm.trans h
      obtain ⟨rfl, hl⟩ := hl
      exact parse_good k a0 b ls rest w hG ho ht hl r1 r2 r3 r4 r5 h
    · replace h : some ((0 : Int), (0 : Int), (0 : Int), ([] : List ByteArray), (3 : Int)) = some (r1, r2, r3, r4, r5) := (if_neg hl).symm.trans h
      simp only [Option.some.injEq, Prod.mk.injEq] at h
      obtain ⟨rfl, rfl, rfl, rfl, rfl⟩ := h
      exact parse_bad2 k a0 b e1 ls rest w ho ht hl
  · replace h : some ((0 : Int), (0 : Int), (0 : Int), ([] : List ByteArray), e0) = some (r1, r2, r3, r4, r5) := (if_neg he).symm.trans h
    simp only [Option.some.injEq, Prod.mk.injEq] at h
    obtain ⟨rfl, rfl, rfl, rfl, rfl⟩ := h
    exact parse_bad k a0 b e0 w ho he
end Go.Proofs.YtgbfbfemmhfcaaaDoor.P
