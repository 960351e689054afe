import Derived.Test.YtgbfbfemmhfcaaaDoorProg
import Derived.Test.YtgbfbfemmhfcaaaDoorWMore
import Derived.WalkKit
import Derived.Deep.LoopGhost
import Derived.Deep.QuietTactic
import Derived.BigQuiet
import Derived.Outline
import Derived.Lib.Hide
namespace Go.Proofs.YtgbfbfemmhfcaaaDoor
open Go.RowKit Go.Proofs.YtgbfbfemmhfcaaaDoorW.PrintWords
def stp (x : Int) : Int := Go.bits .xor .u32 (x / 2) (Go.bits .and .u32 3988292384 ((-(Go.bits .and .u32 x 1)) % 4294967296))
def stps : Nat → Int → Int
  | 0, x => x
  | n + 1, x => stp (stps n x)
theorem z91 : Tryd.zeroCells91.size = 256 := by kernel_rfl
def Tab (w wr : World) (k : Nat) : Prop := ∃ cs : Array Value, wr.heap[w.heap.size]? = some (.cells cs 91 (0, 0)) ∧ cs.size = 256 ∧ (∀ j, j < k → cs[j]? = some (.int .u32 (stps 8 j))) ∧ Below w.heap.size w wr
theorem Tab.facts {w wr : World} {k : Nat} (h : Tab w wr k) (hk : k < 256) : (∃ v, wr.cell? ⟨w.heap.size, k, none⟩ = some v) ∧ wr.frozen? ⟨w.heap.size, k, none⟩ = false := by
  obtain ⟨cs, hb, hs, _, _⟩ := h
  refine ⟨⟨cs[k]'(by omega), ?_⟩, blk_frozen hb k⟩
  rw [blk_cell hb k]
  exact Array.getElem?_eq_getElem (by omega)
theorem Tab.step {w wr : World} {k : Nat} (h : Tab w wr k) (hk : k < 256) : Tab w (wr.setCell ⟨w.heap.size, k, none⟩ (.int .u32 (stps 8 k))) (k + 1) := by
  obtain ⟨cs, hb, hs, hc, hw⟩ := h
  refine ⟨_, blk_set hb k _, by simpa using hs, fun j hj => ?_, hw.setCell (Nat.le_refl _) _⟩
  rw [Array.getElem?_setIfInBounds]
  by_cases e : k = j
  · subst e
    simp
    omega
  · rw [if_neg e]
    exact hc j (by omega)
set_option maxRecDepth 100000 in
set_option maxHeartbeats 1000000 in
theorem table_calls (w : World) : Calls Tryd.prog 52 #[] w fun e w' => e = .returned (.pointer (some ⟨w.heap.size, 0, none⟩)) ∧ Tab w w' 256 := by
  have H0 : Tab w (w.alloc (.cells Tryd.zeroCells91 91)) 0 := ⟨_, blk_new w _, z91, fun j h => by omega, below_alloc (Below.refl _ _) _⟩
  have H := Lib.hid H0
  clear H0
  go_enter Tryd.func52, Tryd.ntmps52
  go_wp2
  go_loopw [4] (fun i wr => ∃ k : Nat, k ≤ 256 ∧ i = .int .i64 k ∧ Hid (Tab w wr k)) (fun i _ => 256 - (intOf i).toNat)
  case atStart => exact ⟨0, by omega, rfl, H⟩
  case round =>
    obtain ⟨k, hk, rfl, hT⟩ := hrel
    clear H
    by_cases hlt : k < 256
    · obtain ⟨⟨v, hv⟩, hf⟩ := hT.out.facts hlt
      have hT2 := Lib.hid (hT.out.step hlt)
      go_wp2
      go_loop [3, 9] (fun x j => ∃ m : Nat, m ≤ 8 ∧ j = .int .i64 m ∧ x = .int .u32 (stps m k)) (fun _ j => 8 - (intOf j).toNat)
      case atStart => exact ⟨0, by omega, rfl, rfl⟩
      case round =>
        obtain ⟨m, hm, rfl, rfl⟩ := hrel
        by_cases hlt2 : m < 8
        · go_wp2
          go_round
          case rel => exact ⟨m + 1, by omega, by go_num, rfl⟩
          case measure => simp [intOf]; omega
        · obtain rfl : m = 8 := by omega
          go_wp2
          go_roundw
          case rel => exact ⟨k + 1, by omega, by go_num, hT2⟩
          case measure => simp [intOf]; omega
    · obtain rfl : k = 256 := by omega
      go_wp2
      go_ret
      exact ⟨rfl, hT.out⟩
theorem u8_range (x y : Int) : 0 ≤ Go.bits .xor .u8 x y ∧ Go.bits .xor .u8 x y < 256 := by
  unfold Go.bits
  constructor
  · exact Int.emod_nonneg _ (by decide)
  · exact Int.emod_lt_of_pos _ (by decide)
/-- what the rows of a table make of bytes, from a start -/
def crcL : Int → List UInt8 → Int
  | y, [] => y
  | y, b :: l => crcL (Go.bits .xor .u32 (stps 8 (Go.bits .xor .u8 (y % 256) (b.toNat : Int))) (y / 256)) l
theorem crcL_app : ∀ (l m : List UInt8) (y : Int), crcL y (l ++ m) = crcL (crcL y l) m
  | [], _, _ => rfl
  | b :: l, m, y => by simp only [List.cons_append, crcL]; exact crcL_app l m _
theorem crcL_take (s : ByteArray) (k : Nat) (h : k < s.size) (y : Int) : crcL y (s.data.toList.take (k + 1)) = Go.bits .xor .u32 (stps 8 (Go.bits .xor .u8 (crcL y (s.data.toList.take k) % 256) (bt s k))) (crcL y (s.data.toList.take k) / 256) := by
  have e : s.data.toList.take (k + 1) = s.data.toList.take k ++ [s[k]'h] := by
    rw [List.take_add_one]
    congr 1
    rw [List.getElem?_eq_getElem (by simpa using h)]
    rfl
  rw [e, crcL_app]
  have hb : ((s[k]'h).toNat : Int) = bt s k := bt_at s k h
  simp only [crcL]
  rw [hb]
def crc_More.f (a0 : Int) (a1 : ByteArray) : Option Int := if a1.size ≤ 9223372036854775807 then some (Go.bits .xor .u32 IntKind.u32.max (crcL (Go.bits .xor .u32 IntKind.u32.max a0) a1.data.toList)) else none
set_option maxRecDepth 100000 in
set_option maxHeartbeats 1000000 in
theorem more_calls (a0 : Int) (s : ByteArray) (hs : s.size ≤ 9223372036854775807) (w : World) : Calls Tryd.prog 44 #[.int .u32 a0, .string s] w fun e w' => e = .returned (.int .u32 (Go.bits .xor .u32 IntKind.u32.max (crcL (Go.bits .xor .u32 IntKind.u32.max a0) s.data.toList))) ∧ Below w.heap.size w w' := by
  go_enter Tryd.func44, Tryd.ntmps44
  go_wp2_with (go_at_call 52; refine (table_calls _).mono ?_; rintro e w1 ⟨rfl, hT⟩)
  have HT := Lib.hid hT
  clear hT
  go_loopw [6, 13] (fun x i wr => ∃ (k : Nat) (y : Int), k ≤ s.size ∧ i = .int .i64 k ∧ x = .int .u32 y ∧ Hid (y = crcL (Go.bits .xor .u32 IntKind.u32.max a0) (s.data.toList.take k)) ∧ Hid (Tab w wr 256)) (fun _ i _ => s.size - (intOf i).toNat)
  case atStart => exact ⟨0, _, by omega, rfl, rfl, Lib.hid rfl, HT⟩
  case round =>
    obtain ⟨k, y, hk, rfl, rfl, hy, hT⟩ := hrel
    clear HT
    by_cases hlt : k < s.size
    · have hx : ∀ h : k < s.size, ((s[k]'h).toNat : Int) = bt s k := fun h => bt_at s k h
      have hr := u8_range (y % 256) (bt s k)
      obtain ⟨q, hq⟩ : ∃ q : Nat, Go.bits .xor .u8 (y % 256) (bt s k) = (q : Int) := ⟨(Go.bits .xor .u8 (y % 256) (bt s k)).toNat, by omega⟩
      have hq2 : q < 256 := by omega
      have hc : wr.cell? ⟨w.heap.size, q, none⟩ = some (.int .u32 (stps 8 q)) := by
        obtain ⟨cs, hb, hs, hc, _⟩ := hT.out
        rw [blk_cell hb q]
        exact hc q hq2
      have hy2 := crcL_take s k hlt (Go.bits .xor .u32 IntKind.u32.max a0)
      rw [← hy.out, hq] at hy2
      have HY := Lib.hid hy2
      clear hr hy2
      go_wp2
      go_quiet (fail)
      go_wp2
      go_roundw
      case rel =>
        refine ⟨k + 1, _, by omega, by go_num, rfl, Lib.hid HY.out.symm, ?_⟩
        obtain ⟨cs, hb, hs, hc, hw⟩ := hT.out
        exact Lib.hid ⟨cs, by first | exact blk_drewN hb _ | exact hb, hs, hc, by first | exact pw_below_drewN hw _ | exact hw⟩
      case measure => simp [intOf]; omega
    · go_wp2
      go_ret
      obtain rfl : k = s.size := by omega
      obtain ⟨cs, hb, hs, hc, hw⟩ := hT.out
      have hz : y = crcL (Go.bits .xor .u32 IntKind.u32.max a0) s.data.toList := by
        rw [hy.out, List.take_of_length_le (by simp)]
      rw [← hz]
      exact ⟨rfl, hw⟩
theorem crc_More.calls (a0 : Int) (a1 : ByteArray) (r : Int) (w : World) (h : crc_More.f a0 a1 = some r) :
    Calls Tryd.prog 44 #[.int .u32 a0, .string a1] w fun e w' => e = .returned (.int .u32 r) ∧ Below w.heap.size w w' := by
  unfold crc_More.f at h
  by_cases c : a1.size ≤ 9223372036854775807
  · rw [if_pos c] at h
    obtain rfl := Option.some.inj h
    exact more_calls a0 a1 c w
  · rw [if_neg c] at h
    cases h
end Go.Proofs.YtgbfbfemmhfcaaaDoor
