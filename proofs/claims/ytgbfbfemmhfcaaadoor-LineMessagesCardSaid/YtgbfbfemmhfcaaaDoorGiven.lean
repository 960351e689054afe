/- Given functions of the line statements: crc.More is walked in C0; strconv.Itoa, strings.IndexByte by the shelf; slices.ContainsFunc at line.Put's own function is walked here. -/
import Derived.Test.YtgbfbfemmhfcaaaDoorShelf
import Derived.Test.YtgbfbfemmhfcaaaDoorC0
import Derived.Test.YtgbfbfemmhfcaaaDoorWLast
import Derived.Test.YtgbfbfemmhfcaaaDoorWMore
import Derived.WalkSmall
import Derived.Lib.LaidTab
import Derived.Lib.SmallJoins
import Derived.Lib.AppendIntMem
import Derived.WalkSpells
import Derived.Shelf.Strings.Search1
import Derived.Shelf.Small.Strs
import Derived.Shelf.Strconv.Itoa3
import Derived.Shelf.Strconv.AtoiAll
namespace Go.Proofs.YtgbfbfemmhfcaaaDoor
open Go.Joins Go.RowKit Go.Shelf Go.Proofs.YtgbfbfemmhfcaaaDoorW.PrintWords
/-- what the contracts ask of the world: the table of powers of ten, and the two error variables -/
def Gd (w : World) : Prop := Lib.TabIs Tryd.prog w "internal/strconv.uint64pow10" .u64 Lib.pow10Tab ∧ (∃ te pe, w.cell? ⟨0, 0, none⟩ = some (.iface te pe)) ∧ (∃ te pe, w.cell? ⟨1, 0, none⟩ = some (.iface te pe))
theorem Gd_below {w w' : World} (h : Gd w) (hb : Below w.heap.size w w') : Gd w' := by
  obtain ⟨h1, ⟨te, pe, h2⟩, ⟨tf, pf, h3⟩⟩ := h
  have hg : Tryd.prog.globalNamed "internal/strconv.uint64pow10" = some 3 := by kernel_rfl
  exact ⟨tab_stays hg h1 hb (Nat.le_refl _), ⟨te, pe, cell_later hb h2⟩, ⟨tf, pf, cell_later hb h3⟩⟩
def strconv_Itoa_26.f (a0 : Int) : Option ByteArray := if -9223372036854775808 ≤ a0 ∧ a0 ≤ 9223372036854775807 then some ⟨(Lib.itoa a0).toArray⟩ else none
theorem strconv_Itoa_26.calls (a0 : Int) (r : ByteArray) (w : World) (hG : Gd w) (h : strconv_Itoa_26.f a0 = some r) :
    Calls Tryd.prog 26 #[.int .i64 a0] w fun e w' => e = .returned (.string r) ∧ Below w.heap.size w w' := by
  unfold strconv_Itoa_26.f at h
  by_cases c : -9223372036854775808 ≤ a0 ∧ a0 ≤ 9223372036854775807
  · rw [if_pos c] at h
    obtain rfl := Option.some.inj h
    refine (Any.strconv_Itoa Tryd.laysM171 a0 c.1 c.2 w hG.1).mono ?_
    rintro e w' ⟨rfl, k, os, rfl⟩
    exact ⟨rfl, Lib.below_grow _ w (Nat.le_refl _) k os⟩
  · rw [if_neg c] at h
    cases h
def strings_IndexByte.f (a0 : ByteArray) (a1 : Int) : Option Int := some (Lib.indexByte a0.data.toList a1.toNat.toUInt8)
theorem strings_IndexByte.calls (a0 : ByteArray) (a1 : Int) (r : Int) (w : World) (h : strings_IndexByte.f a0 a1 = some r) :
    Calls Tryd.prog 38 #[.string a0, .int .u8 a1] w fun e w' => e = .returned (.int .i64 r) ∧ Drawn0 w w' := by
  obtain rfl := Option.some.inj h
  refine (Any.strings_IndexByte Tryd.lays137 a0 a1 w).mono ?_
  rintro e w' ⟨rfl, rfl⟩
  exact ⟨rfl, Drawn0.refl _⟩
theorem put1_calls (s : ByteArray) (w : World) : Calls Tryd.prog 21 #[.string s] w fun e w' => e = .returned (.bool (decide (65000 < (s.size : Int)))) ∧ w' = w := by
  go_enter Tryd.func21, Tryd.ntmps21
  go_wp2
  go_ret
  exact ⟨by simp, rfl⟩
def longs (l : List ByteArray) : Bool := l.any fun s => decide (65000 < (s.size : Int))
set_option maxRecDepth 100000 in
theorem cf_index (w : World) (A : Option Addr) (c : Nat) (l : List ByteArray) (hr : Kd.C Kd.string w A l.length l) (_hc : l.length ≤ c) (hm : l.length < 4611686018427387904) : Calls Tryd.prog 35 #[.slice A l.length c, .func (.func 21) #[] #[]] w fun e w' => ∃ i : Int, e = .returned (.int .i64 i) ∧ decide (0 ≤ i) = longs l ∧ Below w.heap.size w w' := by
  have HR := Lib.hid hr
  have HD := Lib.hid (Below.refl w.heap.size w)
  clear hr
  go_enter Tryd.func35, Tryd.ntmps35
  go_wp2
  go_loopw [8] (fun i wr => ∃ k : Nat, k ≤ l.length ∧ i = .int .i64 k ∧ Hid (∀ x, x ∈ l.take k → decide (65000 < (x.size : Int)) = false) ∧ Hid (Below w.heap.size w wr)) (fun i _ => l.length - (intOf i).toNat)
  case atStart => exact ⟨0, by omega, rfl, Lib.hid (fun x h => by simp at h), HD⟩
  case round =>
    obtain ⟨k, hk, rfl, hN, hD⟩ := hrel
    clear HD
    by_cases hlt : k < l.length
    · have p1 : (0 : Int) ≤ (k : Int) := by omega
      have q1 : (k : Int) < (l.length : Int) := by omega
      obtain ⟨ad, e1, hx⟩ := Kd.at_string HR.out k p1 q1
      cases e1
      replace hx := (hD.out.cell (World.block_lt_of_cell? w _ hx)).trans hx
      replace hx : wr.cell? (ad.add k) = some (.string (rdOf ByteArray.empty l (k : Int))) := hx
      have ew : wrap64 ((k : Int) + 1) = ((k + 1 : Nat) : Int) := by unfold wrap64; omega
      replace p1 := eq_true p1
      replace q1 := eq_true q1
      cases ht : decide (65000 < ((rdOf ByteArray.empty l (k : Int)).size : Int)) with
      | true =>
        go_wp2_with (go_at_call 21; refine (put1_calls _ _).mono ?_; rintro e w' ⟨rfl, rfl⟩)
        go_ret
        refine ⟨(k : Int), rfl, ?_, hD.out⟩
        rw [decide_eq_true (show (0 : Int) ≤ (k : Int) by omega), longs, eq_comm, List.any_eq_true]
        have e1 : rdOf ByteArray.empty l (k : Int) = l[k]'hlt := by simp [rdOf, hlt]
        rw [e1] at ht
        exact ⟨_, List.getElem_mem hlt, ht⟩
      | false =>
        go_wp2_with (go_at_call 21; refine (put1_calls _ _).mono ?_; rintro e w' ⟨rfl, rfl⟩)
        go_roundw
        case rel =>
          refine ⟨k + 1, by omega, congrArg _ (by omega), Lib.hid (fun x hx2 => ?_), hD⟩
          have e1 : rdOf ByteArray.empty l (k : Int) = l[k]'hlt := by simp [rdOf, hlt]
          rw [e1] at ht
          rw [List.take_add_one, List.getElem?_eq_getElem hlt, List.mem_append] at hx2
          rcases hx2 with hx2 | hx2
          · exact hN.out x hx2
          · simp only [Option.toList_some, List.mem_singleton] at hx2
            rw [hx2]; exact ht
        case measure => simp [intOf]; omega
    · go_wp2
      go_ret
      obtain rfl : k = l.length := by omega
      refine ⟨-1, rfl, ?_, hD.out⟩
      rw [decide_eq_false (show ¬ (0 : Int) ≤ -1 by omega), longs, eq_comm, List.any_eq_false]
      have h1 := hN.out
      rw [List.take_length] at h1
      exact fun x hx => by rw [h1 x hx]; simp
def slices_ContainsFunc_string_string__line_Put_1.f (l0 : List ByteArray) : Option Bool := if l0.length < 4611686018427387904 then some (longs l0) else none
set_option maxRecDepth 100000 in
theorem slices_ContainsFunc_string_string__line_Put_1.calls (A0 : Option Addr) (c0 : Nat) (l0 : List ByteArray) (r : Bool) (w : World) (hr0 : Kd.C Kd.string w A0 l0.length l0) (hc0 : l0.length ≤ c0) (h : slices_ContainsFunc_string_string__line_Put_1.f l0 = some r) :
    Calls Tryd.prog 20 #[.slice A0 l0.length c0, .func (.func 21) #[] #[]] w fun e w' => e = .returned (.bool r) ∧ Below w.heap.size w w' := by
  unfold slices_ContainsFunc_string_string__line_Put_1.f at h
  by_cases c : l0.length < 4611686018427387904
  · rw [if_pos c] at h
    obtain rfl := Option.some.inj h
    go_enter Tryd.func20, Tryd.ntmps20
    go_wp2_with (go_at_call 35; refine (cf_index _ A0 c0 l0 hr0 hc0 c).mono ?_; rintro e w1 ⟨i, rfl, hi, hb⟩)
    go_ret
    exact ⟨by rw [← hi]; simp, hb⟩
  · rw [if_neg c] at h
    cases h
end Go.Proofs.YtgbfbfemmhfcaaaDoor
