/- Contracts of the library's functions that the hexa statements reach: strings.IndexByte, strings.Trim (ASCII cutset). -/
import Derived.Test.YtgjnpdnmcahhfaaDoorShelf
import Derived.Test.YtgjnpdnmcahhfaaDoorWWords
namespace Go.Proofs.YtgjnpdnmcahhfaaDoor
open Go.RowKit Go.Shelf Go.Proofs.YtgjnpdnmcahhfaaDoorW.PrintWords
def strings_IndexByte.f (a0 : ByteArray) (a1 : Int) : Option Int := some (Lib.indexByte a0.data.toList a1.toNat.toUInt8)
theorem strings_IndexByte.calls (a0 : ByteArray) (a1 : Int) (r : Int) (w : World) (h : strings_IndexByte.f a0 a1 = some r) :
    Calls Tryd.prog 26 #[.string a0, .int .u8 a1] w fun e w' => e = .returned (.int .i64 r) ∧ Drawn0 w w' := by
  obtain rfl := Option.some.inj h
  refine (Any.strings_IndexByte Tryd.lays137 a0 a1 w).mono ?_
  rintro e w' ⟨rfl, rfl⟩
  exact ⟨rfl, Drawn0.refl _⟩
def trimOk (a0 a1 : ByteArray) : Prop := a0.size ≤ 9223372036854775807 ∧ a1.size < 4294967281 ∧ a1.data.toList.all (fun b => decide (b.toNat < 128)) = true
instance (a0 a1 : ByteArray) : Decidable (trimOk a0 a1) := by unfold trimOk; infer_instance
def strings_Trim.f (a0 a1 : ByteArray) : Option ByteArray := if trimOk a0 a1 then some ⟨(Lib.trimS a0.data.toList a1.data.toList).toArray⟩ else none
theorem strings_Trim.calls (a0 a1 : ByteArray) (r : ByteArray) (w : World) (h : strings_Trim.f a0 a1 = some r) :
    Calls Tryd.prog 30 #[.string a0, .string a1] w fun e w' => e = .returned (.string r) ∧ Below w.heap.size w w' := by
  unfold strings_Trim.f at h
  by_cases c : trimOk a0 a1
  · rw [if_pos c] at h
    obtain rfl := Option.some.inj h
    refine (Any.strings_Trim_laid Tryd.lays160 (by kernel_rfl) a0 a1 w c.1 c.2.1 ?_).mono ?_
    · intro j b hb
      have hm := List.mem_of_getElem? hb
      have := List.all_eq_true.1 c.2.2 b hm
      simpa using this
    · rintro e w' ⟨rfl, hw⟩
      exact ⟨rfl, hw⟩
  · rw [if_neg c] at h
    cases h
end Go.Proofs.YtgjnpdnmcahhfaaDoor
