/- How an argument that is a struct of three whole numbers and a slice of strings is opened, for the rows of this seat; what the laid variables give. -/
import Derived.Test.YtgbfbfemmhfcaaaDoorR0
import Derived.Test.YtgbfbfemmhfcaaaDoorGiven
import Derived.Test.YtgbfbfemmhfcaaaDoorRows
import Derived.Lib.SmallJoins
import Derived.Lib.LaidTab
import Derived.Stop.LaidErr
import Derived.MakeChecks
namespace Go.Proofs.YtgbfbfemmhfcaaaDoor.R
open Go.ChangeShapes Go.WideShapes Go.RowKit Go.Joins Go.Deep Go.WideElems Go.Maps Go.Proofs.YtgbfbfemmhfcaaaDoorW.PrintWords
theorem open_texts {H : Type} {enc : TypeId × Value → H} {P : Program} {W : World} {base : Nat} {spare : Nat → Bool} {held : Bool} {t e : TypeId} {a : Option Addr} {len cap fuel : Nat} {x : DataW H × List MemPlace}
    (hu : P.underlying t = some (.slice e)) (he : P.underlying e = some .string) (hc : P.cellsOf e = 1) (hf : DataW.trod enc P W base spare held fuel t [.slice a len cap] = some x) :
    ∃ l : List ByteArray, len = l.length ∧ l.length ≤ cap ∧ Kd.C Kd.string W a l.length l := by
  rcases open_strings hu he hc hf with ⟨hcs, _⟩ | ⟨x, n, c, ss, hcs, _, hl, hm, hz, hx, hcell, _⟩
  · simp at hcs
    obtain ⟨rfl, rfl, rfl⟩ := hcs
    exact ⟨[], rfl, by simp, Kd.C_of_reads (d := ByteArray.empty) (h1 := fun _ => rfl) ⟨rfl, by simp, fun h => absurd h (by simp)⟩⟩
  · simp at hcs
    obtain ⟨rfl, rfl, rfl⟩ := hcs
    have hl2 : len ≤ ss.length := by
      rw [hz]
      split
      · exact hl
      · exact Nat.le_refl _
    have e1 : (ss.take len).length = len := by rw [List.length_take]; omega
    unfold maxLen at hm
    refine ⟨ss.take len, e1.symm, by omega, ?_⟩
    rw [e1]
    refine Kd.C_of_reads (d := ByteArray.empty) (h1 := fun _ => rfl) ⟨e1, by omega, fun _ => ⟨x, rfl, fun i hi => ?_⟩⟩
    rw [hcell i (by omega)]
    congr 2
    simp [List.getD_eq_getElem?_getD, hi]
theorem open_msg {H : Type} {enc : TypeId × Value → H} {P : Program} {W : World} {base : Nat} {spare : Nat → Bool} {held : Bool} {r : Reach} {b0 : Nat} {t e : TypeId} {f0 f1 f2 f3 : Field} {v : Value} {d : DataW H} {p : List MemPlace}
    (hs : P.underlying t = some (.struct #[f0, f1, f2, f3])) (hone : oneCellFields P #[f0, f1, f2, f3] = true) (hC : P.cellsOf t = 4)
    (h0 : P.underlying f0.type = some (.int .i64)) (h1 : P.underlying f1.type = some (.int .i64)) (h2 : P.underlying f2.type = some (.int .i64)) (h3 : P.underlying f3.type = some (.slice e)) (he : P.underlying e = some .string) (hc : P.cellsOf e = 1)
    (hv : Value.okWide P W r b0 t v) (h : DataW.Trod enc P W base spare held t v d p) :
    ∃ (a b c : Int) (A : Option Addr) (cap : Nat) (l : List ByteArray), v = .agg #[.int .i64 a, .int .i64 b, .int .i64 c, .slice A l.length cap] ∧ l.length ≤ cap ∧ Kd.C Kd.string W A l.length l := by
  obtain ⟨v0, v1, v2, v3, y0, y1, y2, y3, n, rfl, -, -, g0, g1, g2, g3⟩ := open_agg4 hs hone hC hv h
  obtain ⟨a, ha, -, -⟩ := DataW.trod_int h0 g0
  obtain ⟨b, hb, -, -⟩ := DataW.trod_int h1 g1
  obtain ⟨c, hc', -, -⟩ := DataW.trod_int h2 g2
  obtain ⟨A, len, cap, hA⟩ := slice_form h3 g3
  obtain rfl := (List.cons.inj ha).1
  obtain rfl := (List.cons.inj hb).1
  obtain rfl := (List.cons.inj hc').1
  obtain rfl := (List.cons.inj hA).1
  obtain ⟨l, rfl, hl, hC⟩ := open_texts h3 he hc g3
  exact ⟨a, b, c, A, cap, l, rfl, hl, hC⟩
theorem row_err (u : TypeId) (h : Tryd.prog.typeName? 3 u = some "*errors.errorString") : u = 98 :=
  typeName_ptr_named (nm := "errors.errorString") (by rw [show "*" ++ "errors.errorString" = "*errors.errorString" by decide]; kernel_rfl) (by kernel_rfl) (by decide) u (by rw [show "*" ++ "errors.errorString" = "*errors.errorString" by decide]; exact h)
set_option maxRecDepth 100000 in
theorem gd_of {W : World} (h : laidMetH Tryd.prog Rows.lineTextsRow.laid W) : Gd W := by
  rw [MakeChecks.laidMetH_plain _ _ _ (by kernel_rfl)] at h
  have hL : laidMet Tryd.prog (("math/bits.deBruijn32tab", Rows.laid_math_bits_deBruijn32tab) :: ("math/bits.deBruijn64tab", Rows.laid_math_bits_deBruijn64tab) :: ("internal/strconv.uint64pow10", Rows.laid_internal_strconv_uint64pow10) :: ("strconv.ErrRange", Rows.laid_strconv_ErrRange) :: ("strconv.ErrSyntax", Rows.laid_strconv_ErrSyntax) :: []) W := h
  have h2 := hL.tail.tail
  have h3 := h2.tail
  have h4 := h3.tail
  refine ⟨Lib.tabIs_of_head (name := "internal/strconv.uint64pow10") (k := .u64) (zs := Lib.pow10Tab) (g := 3) (t := 93) (e := 81) (n := 20) (by kernel_rfl) (by kernel_rfl) Tryd.underlying93 Tryd.underlying81 (by kernel_rfl) (by kernel_rfl) h2, ?_, ?_⟩
  · obtain ⟨a, s, hv, -, -, -⟩ := laid_sentinel (g := 0) (ti := 57) (tp := 98) (te := 100) (ts := 9) h4 (by kernel_rfl) (by kernel_rfl) Tryd.underlying57 row_err Tryd.underlying98 Tryd.underlying100 rfl rfl Tryd.underlying9 (by kernel_rfl) (by kernel_rfl)
    exact ⟨_, _, World.var?_cell (g := 0) (by kernel_rfl) hv 0⟩
  · obtain ⟨a, s, hv, -, -, -⟩ := laid_sentinel (g := 1) (ti := 57) (tp := 98) (te := 100) (ts := 9) h3 (by kernel_rfl) (by kernel_rfl) Tryd.underlying57 row_err Tryd.underlying98 Tryd.underlying100 rfl rfl Tryd.underlying9 (by kernel_rfl) (by kernel_rfl)
    exact ⟨_, _, World.var?_cell (g := 1) (by kernel_rfl) hv 0⟩
end Go.Proofs.YtgbfbfemmhfcaaaDoor.R
