/- Plain lemmas on bytes, lists and rounds, used by the pure proofs of this seat. -/
import Derived.Test.YtgjnpdnmcahhfaaDoorWWords
import Derived.Test.YtgjnpdnmcahhfaaDoorWMore
import Derived.Lib.Strings
import Derived.Lib.SmallJoins
namespace Go.Proofs.YtgjnpdnmcahhfaaDoor.U
open Go.RowKit Go.Proofs.YtgjnpdnmcahhfaaDoorW.PrintWords

theorem w64 {x : Int} (h0 : -9223372036854775808 ≤ x) (h1 : x ≤ 9223372036854775807) : wrap64 x = x := by unfold wrap64; omega

theorem w64n {x : Int} {n : Nat} (e : x = (n : Int)) (h : n ≤ 4611686018427387904) : wrap64 x = (n : Int) := by rw [e, w64 (by omega) (by omega)]

/-! ### rounds -/
theorem Ev.succ {α : Type} {g f : Nat → Option α} {r : α} (k : Ev f r) (h : ∀ n, f n = some r → g (n + 1) = some r) : Ev g r := by
  obtain ⟨K, k⟩ := k
  refine ⟨K + 1, fun n hn => ?_⟩
  obtain ⟨m, rfl⟩ : ∃ m, n = m + 1 := ⟨n - 1, by omega⟩
  exact h m (k m (by omega))
theorem Ev.one {α : Type} {g : Nat → Option α} {r : α} (h : ∀ n, g (n + 1) = some r) : Ev g r := by
  refine ⟨1, fun n hn => ?_⟩
  obtain ⟨m, rfl⟩ : ∃ m, n = m + 1 := ⟨n - 1, by omega⟩
  exact h m
theorem Ev.both {α β γ : Type} {f : Nat → Option α} {e : Nat → Option β} {g : Nat → Option γ} {a : α} {b : β} {r : γ} (h : Ev f a) (k : Ev e b) (hg : ∀ n, f n = some a → e n = some b → g (n + 1) = some r) : Ev g r := by
  obtain ⟨K, h⟩ := h
  obtain ⟨K', k⟩ := k
  refine ⟨max K K' + 1, fun n hn => ?_⟩
  obtain ⟨m, rfl⟩ : ∃ m, n = m + 1 := ⟨n - 1, by omega⟩
  exact hg m (h m (by omega)) (k m (by omega))
theorem Ev.get {α : Type} {f : Nat → Option α} {a : α} (h : Ev f a) : ∃ K, ∀ n, K ≤ n → f n = some a := h
theorem Ev.and {α β : Type} {f : Nat → Option α} {e : Nat → Option β} {a : α} {b : β} (h : Ev f a) (k : Ev e b) : ∃ K, ∀ n, K ≤ n → f n = some a ∧ e n = some b := by
  obtain ⟨K, h⟩ := h
  obtain ⟨K', k⟩ := k
  exact ⟨max K K', fun n hn => ⟨h n (by omega), k n (by omega)⟩⟩
theorem Ev.map {α β : Type} {f : Nat → Option α} {g : Nat → Option β} {a : α} {r : β} (h : Ev f a) (hg : ∀ n, f n = some a → g n = some r) : Ev g r := by
  obtain ⟨K, h⟩ := h
  exact ⟨K, fun n hn => hg n (h n hn)⟩
theorem Ev.map2 {α β γ : Type} {f : Nat → Option α} {e : Nat → Option β} {g : Nat → Option γ} {a : α} {b : β} {r : γ} (h : Ev f a) (k : Ev e b) (hg : ∀ n, f n = some a → e n = some b → g n = some r) : Ev g r := by
  obtain ⟨K, h⟩ := h
  obtain ⟨K', k⟩ := k
  exact ⟨max K K', fun n hn => hg n (h n (by omega)) (k n (by omega))⟩

/-! ### bytes -/
abbrev L (s : ByteArray) : List UInt8 := s.data.toList
theorem toList_L (s : ByteArray) : s.toList = L s := Lib.toList_data s
theorem size_L (s : ByteArray) : s.size = (L s).length := (Array.length_toList).symm
theorem mk_L (l : List UInt8) : L ⟨l.toArray⟩ = l := rfl
theorem ext_L {s t : ByteArray} (h : L s = L t) : s = t := by
  cases s with | mk a => cases t with | mk b => simp only [L] at h; congr 1; exact Array.toList_inj.1 h
theorem append_L (a b : ByteArray) : L (a ++ b) = L a ++ L b := Joins.data_append a b
theorem extract_L (s : ByteArray) (a b : Nat) : L (s.extract a b) = ((L s).drop a).take (b - a) := Lib.extract_data s a b
theorem bt_L (s : ByteArray) (i : Nat) : bt s (i : Int) = (((L s).getD i 0).toNat : Int) := by
  unfold bt
  by_cases h : i < s.size
  · have h' : i < (L s).length := by rw [← size_L]; exact h
    rw [dif_pos (by simpa using h)]
    simp [List.getD_eq_getElem?_getD, List.getElem?_eq_getElem h']
    rfl
  · have h' : ¬ i < (L s).length := by rw [← size_L]; exact h
    rw [dif_neg (by simpa using h)]
    simp [List.getD_eq_getElem?_getD, List.getElem?_eq_none (Nat.not_lt.1 h')]
theorem bt_lt (s : ByteArray) (i : Int) : bt s i < 256 := by have := (bt_range s i).2; omega
def ints (l : List UInt8) : List Int := l.map fun b => (b.toNat : Int)
theorem ints_length (l : List UInt8) : (ints l).length = l.length := by simp [ints]
theorem ints_append (a b : List UInt8) : ints (a ++ b) = ints a ++ ints b := by simp [ints]
theorem str_ints (l : List UInt8) : strOfNums (ints l) = ⟨l.toArray⟩ := by
  unfold strOfNums ints
  congr 2
  rw [List.map_map]
  conv => rhs; rw [← List.map_id l]
  apply List.map_congr_left
  intro b _
  simp
theorem set_mid {α : Type} (A B : List α) (z x : α) (n : Nat) (h : n = A.length) : (A ++ z :: B).set n x = A ++ x :: B := by
  subst h
  rw [List.set_append_right _ _ (Nat.le_refl _)]
  simp
theorem getD_mid {α : Type} (A B : List α) (z d : α) (n : Nat) (h : n = A.length) : (A ++ z :: B).getD n d = z := by
  subst h
  simp [List.getD_eq_getElem?_getD]
/-- A list, cut at i: what stands there and what comes behind. -/
theorem cut_at {α : Type} (l : List α) (i : Nat) (h : i < l.length) (d : α) : l = l.take i ++ l.getD i d :: l.drop (i + 1) := by
  have e := List.take_append_drop i l
  rw [List.drop_eq_getElem_cons h] at e
  rw [List.getD_eq_getElem?_getD, List.getElem?_eq_getElem h]
  exact e.symm
theorem take_succ' {α : Type} (l : List α) (i : Nat) (h : i < l.length) (d : α) : l.take (i + 1) = l.take i ++ [l.getD i d] := by
  rw [List.take_succ_eq_append_getElem h, List.getD_eq_getElem?_getD, List.getElem?_eq_getElem h]
  rfl
theorem drop_cons' {α : Type} (l : List α) (i : Nat) (h : i < l.length) (d : α) : l.drop i = l.getD i d :: l.drop (i + 1) := by
  rw [List.drop_eq_getElem_cons h, List.getD_eq_getElem?_getD, List.getElem?_eq_getElem h]
  rfl
theorem u8_ofNat (n : Nat) (h : n < 256) : (UInt8.ofNat n).toNat = n := by
  rw [UInt8.toNat_ofNat']; omega
theorem u8_ext {a b : UInt8} (h : a.toNat = b.toNat) : a = b := UInt8.toNat_inj.1 h
end Go.Proofs.YtgjnpdnmcahhfaaDoor.U
