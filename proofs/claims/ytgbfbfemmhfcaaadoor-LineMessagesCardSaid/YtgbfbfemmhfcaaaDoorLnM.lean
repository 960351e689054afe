/- Packets over plain functions and lists: digits, sums, packet lines, numbers, messages. -/
import Derived.Test.YtgbfbfemmhfcaaaDoorPx1
import Derived.Test.YtgbfbfemmhfcaaaDoorPx2
import Derived.Test.YtgbfbfemmhfcaaaDoorPx10
import Derived.Test.YtgbfbfemmhfcaaaDoorPx11
import Derived.Test.YtgbfbfemmhfcaaaDoorPx3
import Derived.Test.YtgbfbfemmhfcaaaDoorPx12
import Derived.Test.YtgbfbfemmhfcaaaDoorPx8
import Derived.Test.YtgbfbfemmhfcaaaDoorPx15
import Derived.Test.YtgbfbfemmhfcaaaDoorPx17
import Derived.Test.YtgbfbfemmhfcaaaDoorPx7
import Derived.Test.YtgbfbfemmhfcaaaDoorPx16
import Derived.Test.YtgbfbfemmhfcaaaDoorPx9
import Derived.Test.YtgbfbfemmhfcaaaDoorWWords
import Derived.Test.YtgbfbfemmhfcaaaDoorWMore
import Derived.Lib.Strings
import Derived.Lib.SmallJoins
import Derived.Lib.Hide
import Derived.Test.YtgbfbfemmhfcaaaDoorC0
import Derived.Laws.BitsLemmas
import Derived.Lib.AtoiTie
import Derived.Lib.ItoaMem
import Derived.Test.YtgbfbfemmhfcaaaDoorGivenA
import Derived.Test.YtgbfbfemmhfcaaaDoorGivenF
/-! ## U0 -/
namespace Go.Proofs.YtgbfbfemmhfcaaaDoor.U
open Go.RowKit Go.Proofs.YtgbfbfemmhfcaaaDoorW.PrintWords

theorem w64 {x : Int} (h0 : -9223372036854775808 ≤ x) (h1 : x ≤ 9223372036854775807) : wrap64 x = x := by unfold wrap64; omega

theorem w64n {x : Int} {n : Nat} (e : x = (n : Int)) (h : n ≤ 4611686018427387904) : wrap64 x = (n : Int) := by rw [e, w64 (by omega) (by omega)]

/-! ### rounds -/
theorem Ev.succ {α : Type} {g f : Nat → Option α} {r : α} (k : Ev f r) (h : ∀ n, f n = some r → g (n + 1) = some r) : Ev g r := by
  obtain ⟨K, k⟩ := k
  refine ⟨K + 1, fun n hn => ?_⟩
  obtain ⟨m, rfl⟩ : ∃ m, n = m + 1 := ⟨n - 1, by omega⟩
  exact h m (k m (by omega))
theorem Ev.one {α : Type} {g : Nat → Option α} {r : α} (h : ∀ n, g (n + 1) = some r) : Ev g r := by
  refine ⟨1, fun n hn => ?_⟩
  obtain ⟨m, rfl⟩ : ∃ m, n = m + 1 := ⟨n - 1, by omega⟩
  exact h m
theorem Ev.both {α β γ : Type} {f : Nat → Option α} {e : Nat → Option β} {g : Nat → Option γ} {a : α} {b : β} {r : γ} (h : Ev f a) (k : Ev e b) (hg : ∀ n, f n = some a → e n = some b → g (n + 1) = some r) : Ev g r := by
  obtain ⟨K, h⟩ := h
  obtain ⟨K', k⟩ := k
  refine ⟨max K K' + 1, fun n hn => ?_⟩
  obtain ⟨m, rfl⟩ : ∃ m, n = m + 1 := ⟨n - 1, by omega⟩
  exact hg m (h m (by omega)) (k m (by omega))
theorem Ev.get {α : Type} {f : Nat → Option α} {a : α} (h : Ev f a) : ∃ K, ∀ n, K ≤ n → f n = some a := h
theorem Ev.and {α β : Type} {f : Nat → Option α} {e : Nat → Option β} {a : α} {b : β} (h : Ev f a) (k : Ev e b) : ∃ K, ∀ n, K ≤ n → f n = some a ∧ e n = some b := by
  obtain ⟨K, h⟩ := h
  obtain ⟨K', k⟩ := k
  exact ⟨max K K', fun n hn => ⟨h n (by omega), k n (by omega)⟩⟩
theorem Ev.map {α β : Type} {f : Nat → Option α} {g : Nat → Option β} {a : α} {r : β} (h : Ev f a) (hg : ∀ n, f n = some a → g n = some r) : Ev g r := by
  obtain ⟨K, h⟩ := h
  exact ⟨K, fun n hn => hg n (h n hn)⟩
theorem Ev.map2 {α β γ : Type} {f : Nat → Option α} {e : Nat → Option β} {g : Nat → Option γ} {a : α} {b : β} {r : γ} (h : Ev f a) (k : Ev e b) (hg : ∀ n, f n = some a → e n = some b → g n = some r) : Ev g r := by
  obtain ⟨K, h⟩ := h
  obtain ⟨K', k⟩ := k
  exact ⟨max K K', fun n hn => hg n (h n (by omega)) (k n (by omega))⟩

/-! ### bytes -/
abbrev L (s : ByteArray) : List UInt8 := s.data.toList
theorem toList_L (s : ByteArray) : s.toList = L s := Lib.toList_data s
theorem size_L (s : ByteArray) : s.size = (L s).length := (Array.length_toList).symm
theorem mk_L (l : List UInt8) : L ⟨l.toArray⟩ = l := rfl
theorem ext_L {s t : ByteArray} (h : L s = L t) : s = t := by
  cases s with | mk a => cases t with | mk b => simp only [L] at h; congr 1; exact Array.toList_inj.1 h
theorem append_L (a b : ByteArray) : L (a ++ b) = L a ++ L b := Joins.data_append a b
theorem extract_L (s : ByteArray) (a b : Nat) : L (s.extract a b) = ((L s).drop a).take (b - a) := Lib.extract_data s a b
theorem bt_L (s : ByteArray) (i : Nat) : bt s (i : Int) = (((L s).getD i 0).toNat : Int) := by
  unfold bt
  by_cases h : i < s.size
  · have h' : i < (L s).length := by rw [← size_L]; exact h
    rw [dif_pos (by simpa using h)]
    simp [List.getD_eq_getElem?_getD, List.getElem?_eq_getElem h']
    rfl
  · have h' : ¬ i < (L s).length := by rw [← size_L]; exact h
    rw [dif_neg (by simpa using h)]
    simp [List.getD_eq_getElem?_getD, List.getElem?_eq_none (Nat.not_lt.1 h')]
theorem bt_lt (s : ByteArray) (i : Int) : bt s i < 256 := by have := (bt_range s i).2; omega
def ints (l : List UInt8) : List Int := l.map fun b => (b.toNat : Int)
theorem ints_length (l : List UInt8) : (ints l).length = l.length := by simp [ints]
theorem ints_append (a b : List UInt8) : ints (a ++ b) = ints a ++ ints b := by simp [ints]
theorem str_ints (l : List UInt8) : strOfNums (ints l) = ⟨l.toArray⟩ := by
  unfold strOfNums ints
  congr 2
  rw [List.map_map]
  conv => rhs; rw [← List.map_id l]
  apply List.map_congr_left
  intro b _
  simp
theorem set_mid {α : Type} (A B : List α) (z x : α) (n : Nat) (h : n = A.length) : (A ++ z :: B).set n x = A ++ x :: B := by
  subst h
  rw [List.set_append_right _ _ (Nat.le_refl _)]
  simp
theorem getD_mid {α : Type} (A B : List α) (z d : α) (n : Nat) (h : n = A.length) : (A ++ z :: B).getD n d = z := by
  subst h
  simp [List.getD_eq_getElem?_getD]
/-- A list, cut at i: what stands there and what comes behind. -/
theorem cut_at {α : Type} (l : List α) (i : Nat) (h : i < l.length) (d : α) : l = l.take i ++ l.getD i d :: l.drop (i + 1) := by
  have e := List.take_append_drop i l
  rw [List.drop_eq_getElem_cons h] at e
  rw [List.getD_eq_getElem?_getD, List.getElem?_eq_getElem h]
  exact e.symm
theorem take_succ' {α : Type} (l : List α) (i : Nat) (h : i < l.length) (d : α) : l.take (i + 1) = l.take i ++ [l.getD i d] := by
  rw [List.take_succ_eq_append_getElem h, List.getD_eq_getElem?_getD, List.getElem?_eq_getElem h]
  rfl
theorem drop_cons' {α : Type} (l : List α) (i : Nat) (h : i < l.length) (d : α) : l.drop i = l.getD i d :: l.drop (i + 1) := by
  rw [List.drop_eq_getElem_cons h, List.getD_eq_getElem?_getD, List.getElem?_eq_getElem h]
  rfl
theorem u8_ofNat (n : Nat) (h : n < 256) : (UInt8.ofNat n).toNat = n := by
  rw [UInt8.toNat_ofNat']; omega
theorem u8_ext {a b : UInt8} (h : a.toNat = b.toNat) : a = b := UInt8.toNat_inj.1 h
end Go.Proofs.YtgbfbfemmhfcaaaDoor.U
/-! ## HxA -/
namespace Go.Proofs.YtgbfbfemmhfcaaaDoor.U
open Go.RowKit Go.Proofs.YtgbfbfemmhfcaaaDoor.P Go.Proofs.YtgbfbfemmhfcaaaDoorW.PrintWords

/-- A digit of four bits. -/
def hx (v : Nat) : UInt8 := if v < 10 then UInt8.ofNat (48 + v) else UInt8.ofNat (87 + v)
/-- The digits of bytes. -/
def digs : List UInt8 → List UInt8
  | [] => []
  | b :: r => hx (b.toNat / 16) :: hx (b.toNat % 16) :: digs r
/-- The value of a digit; 16: none. -/
def hv (c : UInt8) : Nat := if 48 ≤ c.toNat ∧ c.toNat ≤ 57 then c.toNat - 48 else if 97 ≤ c.toNat ∧ c.toNat ≤ 102 then c.toNat - 87 else 16
/-- The bytes of digits. -/
def unhex : List UInt8 → Option (List UInt8)
  | [] => some []
  | [_] => none
  | a :: b :: r => if hv a < 16 ∧ hv b < 16 then (unhex r).map (UInt8.ofNat (16 * hv a + hv b) :: ·) else none

theorem digs_length : ∀ l : List UInt8, (digs l).length = 2 * l.length
  | [] => rfl
  | b :: r => by simp [digs, digs_length r]; omega
theorem digs_append : ∀ a b : List UInt8, digs (a ++ b) = digs a ++ digs b
  | [], _ => rfl
  | x :: a, b => by simp [digs, digs_append a b]
theorem hx_lt (v : Nat) (h : v < 16) : (hx v).toNat = if v < 10 then 48 + v else 87 + v := by
  unfold hx
  split <;> (rw [u8_ofNat _ (by omega)])

theorem tbl (v : Nat) (h : v < 16) : bt (⟨#[48, 49, 50, 51, 52, 53, 54, 55, 56, 57, 97, 98, 99, 100, 101, 102]⟩ : ByteArray) (v : Int) = ((hx v).toNat : Int) := by
  rw [bt_L]
  have : ∀ v : Fin 16, ([48, 49, 50, 51, 52, 53, 54, 55, 56, 57, 97, 98, 99, 100, 101, 102] : List UInt8).getD v.1 0 = hx v.1 := by decide +kernel
  exact congrArg (fun x : UInt8 => (x.toNat : Int)) (this ⟨v, h⟩)
theorem div16 (c : UInt8) : ((c.toNat : Int) / 16) = ((c.toNat / 16 : Nat) : Int) := by omega
theorem and15 (n : Nat) (h : n < 256) : Go.bits .and .u8 (n : Int) 15 = ((n % 16 : Nat) : Int) := by
  have : ∀ n : Fin 256, Go.bits .and .u8 ((n.1 : Nat) : Int) 15 = ((n.1 % 16 : Nat) : Int) := by decide +kernel
  exact this ⟨n, h⟩

theorem hexa_Digits_l0 (s : ByteArray) (hs : s.size ≤ 1099511627776) : ∀ (d i : Nat) (acc : List Int), i + d = s.size → acc = ints (digs ((L s).take i)) ++ List.replicate (2 * d) 0 →
    Ev (fun k => hexa_Digits.l0 k s acc (s.size : Int) (i : Int)) (⟨(digs (L s)).toArray⟩ : ByteArray) := by
  intro d
  induction d with
  | zero =>
    intro i acc hi ha
    refine Ev.one fun n => ?_
    simp only [hexa_Digits.l0]
    rw [if_neg (by omega), ha, List.take_of_length_le (by rw [← size_L]; omega)]
    simp [str_ints]
  | succ d ih =>
    intro i acc hi ha
    have hL : i < (L s).length := by rw [← size_L]; omega
    refine Ev.succ (ih (i + 1) (ints (digs ((L s).take (i + 1))) ++ List.replicate (2 * d) 0) (by omega) rfl) fun n hn => ?_
    have h0 := UInt8.toNat_lt ((L s).getD i 0)
    have hlen : acc.length = 2 * s.size := by
      rw [ha]; simp [ints_length, digs_length]; omega
    simp only [hexa_Digits.l0]
    rw [bt_L s i]
    generalize hc : (L s).getD i 0 = c at h0
    rw [div16 c, and15 _ h0, show wrap64 (2 * (i : Int)) = ((2 * i : Nat) : Int) from w64n (by omega) (by omega), show wrap64 (((2 * i : Nat) : Int) + 1) = ((2 * i + 1 : Nat) : Int) from w64n (by omega) (by omega),
      show wrap64 ((i : Int) + 1) = ((i + 1 : Nat) : Int) from w64n (by omega) (by omega), tbl _ (by omega), tbl _ (by omega)]
    rw [if_pos (by omega), if_pos (by omega), if_pos (by omega), if_pos (by omega), if_pos (by omega), if_pos (by omega), if_pos (by omega), if_pos (by omega), if_pos (by omega), if_pos (by omega), if_pos (by omega)]
    clear hlen
    refine Eq.trans ?_ hn
    congr 1
    have ht : (ints (digs ((L s).take i))).length = 2 * i := by rw [ints_length, digs_length, List.length_take]; omega
    rw [ha, show 2 * (d + 1) = (2 * d + 1) + 1 from by omega, List.replicate_succ, List.replicate_succ, Int.toNat_natCast, Int.toNat_natCast, set_mid _ _ _ _ _ ht.symm]
    rw [show ints (digs ((L s).take i)) ++ ((hx (c.toNat / 16)).toNat : Int) :: 0 :: List.replicate (2 * d) 0 = (ints (digs ((L s).take i)) ++ [((hx (c.toNat / 16)).toNat : Int)]) ++ 0 :: List.replicate (2 * d) 0 from by simp,
      set_mid _ _ _ _ _ (by simp [ht])]
    rw [take_succ' _ _ hL 0, digs_append, ints_append, hc]
    simp [digs, ints]

theorem hexa_Digits_ev (s : ByteArray) (hs : s.size ≤ 1099511627776) : Ev (fun k => hexa_Digits.f k s) (⟨(digs (L s)).toArray⟩ : ByteArray) := by
  refine Ev.map (hexa_Digits_l0 s hs s.size 0 (List.replicate (2 * s.size) 0) (by omega) (by simp [digs, ints])) fun n hn => ?_
  unfold hexa_Digits.f
  rw [show wrap64 (2 * (s.size : Int)) = ((2 * s.size : Nat) : Int) from w64n (by omega) (by omega), if_pos (by omega), if_pos (by omega), Int.toNat_natCast]
  exact hn

/-! ### the reference's digits -/
theorem digit_f (v : Nat) (h : v < 16) : diptychref01_digit.f (v : Int) = some ((hx v).toNat : Int) := by
  rw [hx_lt v h]
  unfold diptychref01_digit.f
  by_cases c : v < 10
  · rw [if_pos (by omega), if_pos c]; congr 1; omega
  · rw [if_neg (by omega), if_neg c]; congr 1; omega
theorem tdiv16 (c : UInt8) : Int.tdiv (c.toNat : Int) 16 % 256 = ((c.toNat / 16 : Nat) : Int) := by have := UInt8.toNat_lt c; rw [Int.tdiv_eq_ediv_of_nonneg (by omega)]; omega
theorem tmod16 (c : UInt8) : Int.tmod (c.toNat : Int) 16 = ((c.toNat % 16 : Nat) : Int) := by rw [Int.tmod_eq_emod_of_nonneg (by omega)]; omega
theorem ref_Digits_l0 (s : ByteArray) (hs : s.size ≤ 1099511627776) : ∀ (d i : Nat) (acc : List Int), i + d = s.size → acc = ints (digs ((L s).take i)) →
    Ev (fun k => diptychref01_Digits.l0 k s acc (i : Int)) (⟨(digs (L s)).toArray⟩ : ByteArray) := by
  intro d
  induction d with
  | zero =>
    intro i acc hi ha
    refine Ev.one fun n => ?_
    simp only [diptychref01_Digits.l0]
    rw [if_neg (by omega), ha, List.take_of_length_le (by rw [← size_L]; omega)]
    simp [str_ints]
  | succ d ih =>
    intro i acc hi ha
    have hL : i < (L s).length := by rw [← size_L]; omega
    refine Ev.succ (ih (i + 1) (ints (digs ((L s).take (i + 1)))) (by omega) rfl) fun n hn => ?_
    have h0 := UInt8.toNat_lt ((L s).getD i 0)
    simp only [diptychref01_Digits.l0]
    rw [bt_L s i]
    generalize hc : (L s).getD i 0 = c at h0
    rw [tdiv16 c, tmod16 c, show wrap64 ((i : Int) + 1) = ((i + 1 : Nat) : Int) from w64n (by omega) (by omega), digit_f _ (by omega), digit_f _ (by omega), if_pos (by omega), if_pos (by omega)]
    simp only [Option.bind_some]
    have hl : acc.length = 2 * i := by rw [ha, ints_length, digs_length, List.length_take]; omega
    rw [if_pos (by simp; omega)]
    refine Eq.trans ?_ hn
    congr 1
    rw [ha, take_succ' _ _ hL 0, digs_append, ints_append, hc]
    simp [digs, ints]
theorem ref_Digits_ev (s : ByteArray) (hs : s.size ≤ 1099511627776) : Ev (fun k => diptychref01_Digits.f k s) (⟨(digs (L s)).toArray⟩ : ByteArray) :=
  ref_Digits_l0 s hs s.size 0 [] (by omega) (by simp [digs, ints])

/-! ### Bytes -/
theorem hv_lt (c : UInt8) : hv c ≤ 16 := by unfold hv; split <;> (try split) <;> omega
theorem idx_hv (c : UInt8) : Lib.indexByte (L (⟨#[48, 49, 50, 51, 52, 53, 54, 55, 56, 57, 97, 98, 99, 100, 101, 102]⟩ : ByteArray)) c = if hv c < 16 then (hv c : Int) else -1 := by
  have : ∀ n : Fin 256, Lib.indexByte ([48, 49, 50, 51, 52, 53, 54, 55, 56, 57, 97, 98, 99, 100, 101, 102] : List UInt8) (UInt8.ofNat n.1) = if hv (UInt8.ofNat n.1) < 16 then (hv (UInt8.ofNat n.1) : Int) else -1 := by decide +kernel
  have h := this ⟨c.toNat, UInt8.toNat_lt c⟩
  simpa using h
theorem idx_f (s : ByteArray) (i : Nat) : strings_IndexByte.f (⟨#[48, 49, 50, 51, 52, 53, 54, 55, 56, 57, 97, 98, 99, 100, 101, 102]⟩ : ByteArray) (bt s (i : Int)) = some (if hv ((L s).getD i 0) < 16 then (hv ((L s).getD i 0) : Int) else -1) := by
  unfold strings_IndexByte.f
  rw [bt_L, ← idx_hv]
  simp
theorem or_val (a b : Nat) (ha : a < 16) (hb : b < 16) : Go.bits .or .i64 (wrap64 ((a : Int) * 16)) (b : Int) % 256 = ((16 * a + b : Nat) : Int) := by
  have : ∀ a b : Fin 16, Go.bits .or .i64 (((a.1 * 16 : Nat) : Int)) ((b.1 : Nat) : Int) % 256 = ((16 * a.1 + b.1 : Nat) : Int) := by decide +kernel
  rw [show wrap64 ((a : Int) * 16) = ((a * 16 : Nat) : Int) from w64n (by omega) (by omega)]
  exact this ⟨a, ha⟩ ⟨b, hb⟩

/-- What Bytes says. -/
def bytesR (l : List UInt8) : ByteArray × Int := match unhex l with
  | some r => (⟨r.toArray⟩, 0)
  | none => (⟨#[]⟩, 3)
theorem unhex_odd : ∀ (n : Nat) (l : List UInt8), l.length ≤ n → l.length % 2 = 1 → unhex l = none
  | 0, l, h, h' => by omega
  | n + 1, [], _, h' => by simp at h'
  | n + 1, [_], _, _ => rfl
  | n + 1, a :: b :: r, h, h' => by
    simp only [List.length_cons] at h h'
    simp only [unhex]
    rw [unhex_odd n r (by omega) (by omega)]
    simp
theorem unhex_split : ∀ (a b : List UInt8), a.length % 2 = 0 → unhex (a ++ b) = (unhex a).bind fun x => (unhex b).map (x ++ ·)
  | [], b, _ => by simp [unhex]
  | [_], b, h => by simp at h
  | x :: y :: a, b, h => by
    simp only [List.length_cons] at h
    simp only [List.cons_append, unhex]
    split
    · rw [unhex_split a b (by omega)]
      cases unhex a <;> cases unhex b <;> simp
    · rfl
theorem unhex_len : ∀ (n : Nat) (l r : List UInt8), l.length ≤ n → unhex l = some r → l.length = 2 * r.length
  | 0, l, r, h, e => by
    have : l = [] := List.eq_nil_of_length_eq_zero (by omega)
    subst this
    simp [unhex] at e
    subst e; rfl
  | n + 1, [], r, _, e => by simp [unhex] at e; subst e; rfl
  | n + 1, [_], r, _, e => by simp [unhex] at e
  | n + 1, a :: b :: l, r, h, e => by
    simp only [unhex] at e
    split at e
    · obtain ⟨q, hq, rfl⟩ := Option.map_eq_some_iff.1 e
      have := unhex_len n l q (by simp at h; omega) hq
      simp; omega
    · simp at e

theorem hexa_Bytes_l0 (s : ByteArray) (hs : s.size ≤ 1099511627776) (m : Nat) (hm : s.size = 2 * m) : ∀ (d i : Nat) (acc : List Int) (p : List UInt8), i + d = m → unhex ((L s).take (2 * i)) = some p → acc = ints p ++ List.replicate d 0 →
    Ev (fun k => hexa_Bytes.l0 k s acc (m : Int) (i : Int)) (bytesR (L s)) := by
  intro d
  induction d with
  | zero =>
    intro i acc p hi hp ha
    refine Ev.one fun n => ?_
    simp only [hexa_Bytes.l0]
    rw [List.take_of_length_le (by rw [← size_L]; omega)] at hp
    rw [if_neg (by omega), ha]
    simp [str_ints, bytesR, hp]
  | succ d ih =>
    intro i acc p hi hp ha
    have hLl : (L s).length = 2 * m := by rw [← size_L]; exact hm
    have h1 : 2 * i < (L s).length := by omega
    have h2 : 2 * i + 1 < (L s).length := by omega
    have w1 := Lib.hid (show wrap64 (2 * (i : Int)) = ((2 * i : Nat) : Int) from w64n (by omega) (by omega))
    have w2 := Lib.hid (show wrap64 (((2 * i : Nat) : Int) + 1) = ((2 * i + 1 : Nat) : Int) from w64n (by omega) (by omega))
    have w3 := Lib.hid (show wrap64 ((i : Int) + 1) = ((i + 1 : Nat) : Int) from w64n (by omega) (by omega))
    have hpl : p.length = i := by
      have := unhex_len _ _ _ (Nat.le_refl _) hp
      rw [List.length_take] at this; omega
    have hlen : acc.length = m := by rw [ha]; simp [ints_length]; omega
    have hi1 := idx_f s (2 * i)
    have hi2 := idx_f s (2 * i + 1)
    have htk : (L s).take (2 * (i + 1)) = (L s).take (2 * i) ++ [(L s).getD (2 * i) 0, (L s).getD (2 * i + 1) 0] := by
      rw [show 2 * (i + 1) = (2 * i + 1) + 1 from by omega, take_succ' _ _ h2 0, take_succ' _ _ h1 0]; simp
    have hdrop : (L s).drop (2 * i) = (L s).getD (2 * i) 0 :: (L s).getD (2 * i + 1) 0 :: (L s).drop (2 * (i + 1)) := by
      rw [drop_cons' _ _ h1 0, drop_cons' _ _ h2 0]; rfl
    generalize hx1 : (L s).getD (2 * i) 0 = a at hi1 htk hdrop
    generalize hx2 : (L s).getD (2 * i + 1) 0 = b at hi2 htk hdrop
    have hsp : unhex (L s) = (unhex ((L s).drop (2 * i))).map (p ++ ·) := by
      have := unhex_split ((L s).take (2 * i)) ((L s).drop (2 * i)) (by rw [List.length_take]; omega)
      rw [List.take_append_drop, hp] at this
      exact this
    by_cases ca : hv a < 16
    · by_cases cb : hv b < 16
      · rw [if_pos ca] at hi1
        rw [if_pos cb] at hi2
        have hp' : unhex ((L s).take (2 * (i + 1))) = some (p ++ [UInt8.ofNat (16 * hv a + hv b)]) := by
          rw [htk, unhex_split _ _ (by rw [List.length_take]; omega), hp]
          simp [unhex, ca, cb]
        refine Ev.succ (ih (i + 1) (ints (p ++ [UInt8.ofNat (16 * hv a + hv b)]) ++ List.replicate d 0) _ (by omega) hp' rfl) fun n hn => ?_
        simp only [hexa_Bytes.l0]
        rw [w1.out, w2.out, w3.out, hi1, hi2, if_pos (by omega), if_pos (by omega), if_pos (by omega)]
        simp only [Option.bind_some]
        rw [if_pos (by omega), if_pos (by omega), if_neg (by omega), if_neg (by omega), if_pos (by omega), if_pos (by omega), or_val _ _ ca cb]
        refine Eq.trans ?_ hn
        congr 1
        rw [ha, List.replicate_succ, Int.toNat_natCast, set_mid _ _ _ _ _ (by rw [ints_length, hpl]), ints_append]
        simp [ints]
        omega
      · rw [if_pos ca] at hi1
        rw [if_neg cb] at hi2
        refine Ev.one fun n => ?_
        simp only [hexa_Bytes.l0]
        rw [w1.out, w2.out, hi1, hi2, if_pos (by omega), if_pos (by omega), if_pos (by omega)]
        simp only [Option.bind_some]
        rw [if_pos (by omega), if_pos (by omega), if_neg (by omega), if_pos (by omega)]
        simp [bytesR, hsp, hdrop, unhex, cb]
    · rw [if_neg ca] at hi1
      refine Ev.one fun n => ?_
      simp only [hexa_Bytes.l0]
      rw [w1.out, w2.out, hi1, hi2, if_pos (by omega), if_pos (by omega), if_pos (by omega)]
      simp only [Option.bind_some]
      rw [if_pos (by omega), if_pos (by omega), if_pos (by omega)]
      simp [bytesR, hsp, hdrop, unhex, ca]
theorem hexa_Bytes_ev (s : ByteArray) (hs : s.size ≤ 1099511627776) : Ev (fun k => hexa_Bytes.f k s) (bytesR (L s)) := by
  by_cases c : s.size % 2 = 0
  · obtain ⟨m, hm⟩ : ∃ m, s.size = 2 * m := ⟨s.size / 2, by omega⟩
    refine Ev.map (hexa_Bytes_l0 s hs m hm m 0 (List.replicate m 0) [] (by omega) (by simp [unhex]) (by simp [ints])) fun n hn => ?_
    unfold hexa_Bytes.f
    rw [show wrap64 ((s.size : Int) / 2) = (m : Int) from w64n (by omega) (by omega), if_pos (by omega), if_pos (by omega), if_pos (by omega)]
    simp only [Option.bind_some, Int.toNat_natCast, List.length_replicate]
    exact hn
  · refine ⟨0, fun n _ => ?_⟩
    show hexa_Bytes.f n s = _
    unfold hexa_Bytes.f
    rw [if_neg (by omega)]
    unfold bytesR
    rw [unhex_odd _ _ (Nat.le_refl _) (by rw [← size_L]; omega)]

/-! ### the reference's Bytes -/
theorem value_l0 (c : UInt8) : ∀ (d i : Nat), i + d = 16 → i ≤ hv c → Ev (fun k => diptychref01_value.l0 k (c.toNat : Int) (i : Int)) (hv c : Int) := by
  intro d
  induction d with
  | zero =>
    intro i hi hle
    refine Ev.one fun n => ?_
    have := hv_lt c
    simp only [diptychref01_value.l0]
    rw [if_neg (by omega)]
    congr 1; omega
  | succ d ih =>
    intro i hi hle
    have hh : ((hx i).toNat = c.toNat) ↔ hv c = i := by
      rw [hx_lt i (by omega)]
      unfold hv
      have := UInt8.toNat_lt c
      constructor
      · intro h
        split at h
        · rw [if_pos (by omega)]; omega
        · rw [if_neg (by omega), if_pos (by omega)]; omega
      · intro h
        split at h
        · rw [if_pos (by omega)]; omega
        · split at h
          · rw [if_neg (by omega)]; omega
          · omega
    have w3 := Lib.hid (show wrap64 ((i : Int) + 1) = ((i + 1 : Nat) : Int) from w64n (by omega) (by omega))
    by_cases e : hv c = i
    · refine Ev.one fun n => ?_
      simp only [diptychref01_value.l0]
      rw [if_pos (by omega), show ((i : Int) % 256) = (i : Int) from by omega, digit_f i (by omega)]
      simp only [Option.bind_some]
      rw [if_pos (by have := hh.2 e; omega), e]
    · refine Ev.succ (ih (i + 1) (by omega) (by omega)) fun n hn => ?_
      simp only [diptychref01_value.l0]
      rw [if_pos (by omega), show ((i : Int) % 256) = (i : Int) from by omega, digit_f i (by omega), w3.out]
      simp only [Option.bind_some]
      rw [if_neg (by intro h; exact e (hh.1 (by omega)))]
      exact hn
theorem value_ev (c : UInt8) : Ev (fun k => diptychref01_value.f k (c.toNat : Int)) (hv c : Int) := value_l0 c 16 0 (by omega) (by omega)
theorem value_bt (s : ByteArray) (i : Nat) : Ev (fun k => diptychref01_value.f k (bt s (i : Int))) (hv ((L s).getD i 0) : Int) := by
  rw [bt_L]; exact value_ev _

theorem ref_Bytes_l0 (s : ByteArray) (hs : s.size ≤ 1099511627776) (m : Nat) (hm : s.size = 2 * m) : ∀ (d i : Nat) (acc : List Int) (p : List UInt8), i + d = m → unhex ((L s).take (2 * i)) = some p → acc = ints p →
    Ev (fun k => diptychref01_Bytes.l0 k s acc ((2 * i : Nat) : Int)) (bytesR (L s)) := by
  intro d
  induction d with
  | zero =>
    intro i acc p hi hp ha
    refine Ev.one fun n => ?_
    simp only [diptychref01_Bytes.l0]
    rw [List.take_of_length_le (by rw [← size_L]; omega)] at hp
    rw [if_neg (by omega), ha]
    simp [str_ints, bytesR, hp]
  | succ d ih =>
    intro i acc p hi hp ha
    have hLl : (L s).length = 2 * m := by rw [← size_L]; exact hm
    have h1 : 2 * i < (L s).length := by omega
    have h2 : 2 * i + 1 < (L s).length := by omega
    have w2 := Lib.hid (show wrap64 (((2 * i : Nat) : Int) + 1) = ((2 * i + 1 : Nat) : Int) from w64n (by omega) (by omega))
    have w3 := Lib.hid (show wrap64 (((2 * i : Nat) : Int) + 2) = ((2 * (i + 1) : Nat) : Int) from w64n (by omega) (by omega))
    have hpl : p.length = i := by
      have := unhex_len _ _ _ (Nat.le_refl _) hp
      rw [List.length_take] at this; omega
    have hlen : acc.length = i := by rw [ha, ints_length, hpl]
    have hi1 := value_bt s (2 * i)
    have hi2 := value_bt s (2 * i + 1)
    have htk : (L s).take (2 * (i + 1)) = (L s).take (2 * i) ++ [(L s).getD (2 * i) 0, (L s).getD (2 * i + 1) 0] := by
      rw [show 2 * (i + 1) = (2 * i + 1) + 1 from by omega, take_succ' _ _ h2 0, take_succ' _ _ h1 0]; simp
    have hdrop : (L s).drop (2 * i) = (L s).getD (2 * i) 0 :: (L s).getD (2 * i + 1) 0 :: (L s).drop (2 * (i + 1)) := by
      rw [drop_cons' _ _ h1 0, drop_cons' _ _ h2 0]; rfl
    generalize hx1 : (L s).getD (2 * i) 0 = a at hi1 htk hdrop
    generalize hx2 : (L s).getD (2 * i + 1) 0 = b at hi2 htk hdrop
    have hva := hv_lt a
    have hvb := hv_lt b
    have hsp : unhex (L s) = (unhex ((L s).drop (2 * i))).map (p ++ ·) := by
      have := unhex_split ((L s).take (2 * i)) ((L s).drop (2 * i)) (by rw [List.length_take]; omega)
      rw [List.take_append_drop, hp] at this
      exact this
    by_cases ca : hv a < 16
    · by_cases cb : hv b < 16
      · have hp' : unhex ((L s).take (2 * (i + 1))) = some (p ++ [UInt8.ofNat (16 * hv a + hv b)]) := by
          rw [htk, unhex_split _ _ (by rw [List.length_take]; omega), hp]
          simp [unhex, ca, cb]
        obtain ⟨K, hK⟩ := Ev.and hi1 hi2
        obtain ⟨K', hK'⟩ := ih (i + 1) (ints (p ++ [UInt8.ofNat (16 * hv a + hv b)])) _ (by omega) hp' rfl
        refine ⟨max K K' + 1, fun n hn => ?_⟩
        obtain ⟨n, rfl⟩ : ∃ m, n = m + 1 := ⟨n - 1, by omega⟩
        simp only [diptychref01_Bytes.l0]
        rw [w2.out, w3.out, (hK n (by omega)).1, (hK n (by omega)).2, if_pos (by omega), if_pos (by omega)]
        simp only [Option.bind_some]
        rw [if_pos (by omega), if_pos (by omega), if_neg (by omega), if_neg (by omega), if_pos (by omega)]
        refine Eq.trans ?_ (hK' n (by omega))
        rw [show wrap64 (16 * (hv a : Int)) = ((16 * hv a : Nat) : Int) from w64n (by omega) (by omega), show wrap64 (((16 * hv a : Nat) : Int) + (hv b : Int)) = ((16 * hv a + hv b : Nat) : Int) from w64n (by omega) (by omega)]
        congr 1
        rw [ha, ints_append]
        simp [ints]
      · obtain ⟨K, hK⟩ := Ev.and hi1 hi2
        refine ⟨K + 1, fun n hn => ?_⟩
        obtain ⟨n, rfl⟩ : ∃ m, n = m + 1 := ⟨n - 1, by omega⟩
        simp only [diptychref01_Bytes.l0]
        rw [w2.out, (hK n (by omega)).1, (hK n (by omega)).2, if_pos (by omega), if_pos (by omega)]
        simp only [Option.bind_some]
        rw [if_pos (by omega), if_pos (by omega), if_neg (by omega), if_pos (by omega)]
        simp [bytesR, hsp, hdrop, unhex, cb]
    · obtain ⟨K, hK⟩ := Ev.and hi1 hi2
      refine ⟨K + 1, fun n hn => ?_⟩
      obtain ⟨n, rfl⟩ : ∃ m, n = m + 1 := ⟨n - 1, by omega⟩
      simp only [diptychref01_Bytes.l0]
      rw [w2.out, (hK n (by omega)).1, (hK n (by omega)).2, if_pos (by omega), if_pos (by omega)]
      simp only [Option.bind_some]
      rw [if_pos (by omega), if_pos (by omega), if_pos (by omega)]
      simp [bytesR, hsp, hdrop, unhex, ca]
theorem ref_Bytes_ev (s : ByteArray) (hs : s.size ≤ 1099511627776) : Ev (fun k => diptychref01_Bytes.f k s) (bytesR (L s)) := by
  by_cases c : s.size % 2 = 1
  · refine ⟨0, fun n _ => ?_⟩
    show diptychref01_Bytes.f n s = _
    unfold diptychref01_Bytes.f
    rw [if_pos (by omega)]
    unfold bytesR
    rw [unhex_odd _ _ (Nat.le_refl _) (by rw [← size_L]; omega)]
  · obtain ⟨m, hm⟩ : ∃ m, s.size = 2 * m := ⟨s.size / 2, by omega⟩
    refine Ev.map (ref_Bytes_l0 s hs m hm m 0 [] [] (by omega) (by simp [unhex]) (by simp [ints])) fun n hn => ?_
    unfold diptychref01_Bytes.f
    rw [if_neg (by omega)]
    exact hn
end Go.Proofs.YtgbfbfemmhfcaaaDoor.U
/-! ## C1 -/
namespace Go.Proofs.YtgbfbfemmhfcaaaDoor.U
open Go.RowKit Go.Proofs.YtgbfbfemmhfcaaaDoor
def stN (x : Nat) : Nat := if x % 2 = 1 then (x / 2) ^^^ 3988292384 else x / 2
def stsN : Nat → Nat → Nat
  | 0, x => x
  | n + 1, x => stN (stsN n x)
theorem wr32 : ∀ n : Int, 0 ≤ n → n < 2 ^ 32 → IntKind.u32.wrap n = n := by
  intro n h0 h1
  simp [IntKind.wrap, IntKind.bits, IntKind.signed]
  omega
theorem xor32 (a b : Nat) (ha : a < 4294967296) (hb : b < 4294967296) : Go.bits .xor .u32 (a : Int) (b : Int) = ((a ^^^ b : Nat) : Int) := by
  have ha2 : a < 2 ^ 32 := ha
  have hb2 : b < 2 ^ 32 := hb
  have hx : a ^^^ b < 2 ^ 32 := Nat.xor_lt_two_pow ha2 hb2
  have h1 : (BitVec.ofInt 32 (a : Int)).toNat = a := by
    rw [BitVec.ofInt_natCast, BitVec.toNat_ofNat]; exact Nat.mod_eq_of_lt ha2
  have h2 : (BitVec.ofInt 32 (b : Int)).toNat = b := by
    rw [BitVec.ofInt_natCast, BitVec.toNat_ofNat]; exact Nat.mod_eq_of_lt hb2
  show IntKind.u32.wrap ((BitVec.ofInt 32 (a : Int) ^^^ BitVec.ofInt 32 (b : Int)).toNat : Int) = _
  rw [BitVec.toNat_xor, h1, h2]
  exact wr32 _ (by omega) (by have : ((2 : Int) ^ 32) = ((2 ^ 32 : Nat) : Int) := by decide
                              rw [this]; exact Int.ofNat_lt.mpr hx)
theorem xor_lt32 {a b : Nat} (ha : a < 4294967296) (hb : b < 4294967296) : a ^^^ b < 4294967296 :=
  Nat.xor_lt_two_pow (n := 32) ha hb
theorem xor8 (a b : Nat) (ha : a < 256) (hb : b < 256) : Go.bits .xor .u8 (a : Int) (b : Int) = ((a ^^^ b : Nat) : Int) := by
  have hx : a ^^^ b < 2 ^ 8 := Nat.xor_lt_two_pow ha hb
  have h1 : (BitVec.ofInt 8 (a : Int)).toNat = a := by
    rw [BitVec.ofInt_natCast, BitVec.toNat_ofNat]; exact Nat.mod_eq_of_lt ha
  have h2 : (BitVec.ofInt 8 (b : Int)).toNat = b := by
    rw [BitVec.ofInt_natCast, BitVec.toNat_ofNat]; exact Nat.mod_eq_of_lt hb
  show IntKind.u8.wrap ((BitVec.ofInt 8 (a : Int) ^^^ BitVec.ofInt 8 (b : Int)).toNat : Int) = _
  rw [BitVec.toNat_xor, h1, h2]
  simp [IntKind.wrap, IntKind.bits, IntKind.signed]
  omega
theorem and1_32 (n : Nat) (h : n < 4294967296) : Go.bits .and .u32 (n : Int) 1 = ((n % 2 : Nat) : Int) := by
  have h1 : (BitVec.ofInt 32 (n : Int)).toNat = n := by
    rw [BitVec.ofInt_natCast, BitVec.toNat_ofNat]; exact Nat.mod_eq_of_lt h
  show IntKind.u32.wrap ((BitVec.ofInt 32 (n : Int) &&& BitVec.ofInt 32 1).toNat : Int) = _
  rw [BitVec.toNat_and, h1, show (BitVec.ofInt 32 1).toNat = 1 from by decide, Nat.and_one_is_mod]
  exact wr32 _ (by omega) (by have : ((2 : Int) ^ 32) = 4294967296 := by decide
                              omega)
theorem stp_nat (x : Nat) (hx : x < 4294967296) : stp (x : Int) = (stN x : Int) := by
  unfold stp stN
  rw [and1_32 x hx]
  rcases Nat.mod_two_eq_zero_or_one x with h | h
  · rw [h, if_neg (by decide)]
    rw [show Go.bits .and .u32 3988292384 ((-((0 : Nat) : Int)) % 4294967296) = ((0 : Nat) : Int) from by decide, show (x : Int) / 2 = ((x / 2 : Nat) : Int) from by omega, xor32 _ _ (by omega) (by decide), Nat.xor_zero]
  · rw [h, if_pos rfl]
    rw [show Go.bits .and .u32 3988292384 ((-((1 : Nat) : Int)) % 4294967296) = ((3988292384 : Nat) : Int) from by decide, show (x : Int) / 2 = ((x / 2 : Nat) : Int) from by omega, xor32 _ _ (by omega) (by decide)]
theorem stN_lt {x : Nat} (hx : x < 4294967296) : stN x < 4294967296 := by
  unfold stN
  split
  · exact xor_lt32 (by omega) (by decide)
  · omega
theorem stsN_lt {x : Nat} (hx : x < 4294967296) : ∀ n, stsN n x < 4294967296
  | 0 => hx
  | n + 1 => stN_lt (stsN_lt hx n)
theorem stps_nat (x : Nat) (hx : x < 4294967296) : ∀ n, stps n (x : Int) = (stsN n x : Int)
  | 0 => rfl
  | n + 1 => by
    show stp (stps n (x : Int)) = _
    rw [stps_nat x hx n]
    exact stp_nat _ (stsN_lt hx n)
theorem xor_half (a b : Nat) : (a ^^^ b) / 2 = a / 2 ^^^ b / 2 := by
  apply Nat.eq_of_testBit_eq
  intro i
  simp only [Nat.testBit_xor, Nat.testBit_div_two]
theorem xor_par (a b : Nat) : (a ^^^ b) % 2 = (a % 2 + b % 2) % 2 := by
  have h := Nat.testBit_xor a b 0
  rw [Nat.testBit_zero, Nat.testBit_zero, Nat.testBit_zero] at h
  rcases Nat.mod_two_eq_zero_or_one a with ha | ha <;> rcases Nat.mod_two_eq_zero_or_one b with hb | hb <;> rcases Nat.mod_two_eq_zero_or_one (a ^^^ b) with hc | hc <;> rw [ha, hb, hc] at h <;> first | omega | (exact absurd h (by decide))
theorem stN_xor (a b : Nat) : stN (a ^^^ b) = stN a ^^^ stN b := by
  unfold stN
  rw [xor_par, xor_half]
  rcases Nat.mod_two_eq_zero_or_one a with ha | ha <;> rcases Nat.mod_two_eq_zero_or_one b with hb | hb <;> rw [ha, hb]
  · rfl
  · simp only [Nat.zero_add, Nat.reduceMod, if_true, Nat.zero_ne_one, if_false, Nat.xor_assoc]
  · simp only [Nat.add_zero, Nat.reduceMod, if_true, Nat.zero_ne_one, if_false, Nat.xor_assoc]
    congr 1
    exact Nat.xor_comm _ _
  · simp only [Nat.reduceAdd, Nat.reduceMod, if_true, Nat.zero_ne_one, if_false]
    rw [Nat.xor_assoc, Nat.xor_comm 3988292384, Nat.xor_assoc, Nat.xor_self, Nat.xor_zero]
theorem stsN_xor (a b : Nat) : ∀ n, stsN n (a ^^^ b) = stsN n a ^^^ stsN n b
  | 0 => rfl
  | n + 1 => by
    show stN (stsN n (a ^^^ b)) = stN (stsN n a) ^^^ stN (stsN n b)
    rw [stsN_xor a b n, stN_xor]
theorem xor_eq_zero {a b : Nat} (h : a ^^^ b = 0) : a = b := by
  have : a ^^^ b ^^^ b = b := by rw [h, Nat.zero_xor]
  rwa [Nat.xor_assoc, Nat.xor_self, Nat.xor_zero] at this
theorem stN_zero {x : Nat} (hx : x < 4294967296) (h : stN x = 0) : x = 0 := by
  unfold stN at h
  split at h
  · have := xor_eq_zero h
    omega
  · omega
theorem stsN_zero {x : Nat} (hx : x < 4294967296) : ∀ n, stsN n x = 0 → x = 0
  | 0, h => h
  | n + 1, h => stsN_zero hx n (stN_zero (stsN_lt hx n) h)
theorem stsN_inj {a b : Nat} (ha : a < 4294967296) (hb : b < 4294967296) (n : Nat) (h : stsN n a = stsN n b) : a = b := by
  refine xor_eq_zero (stsN_zero (xor_lt32 ha hb) n ?_)
  rw [stsN_xor, h, Nat.xor_self]
theorem split8 (y : Nat) : y = (y / 256 * 256) ^^^ (y % 256) := by
  have e : (256 : Nat) = 2 ^ 8 := rfl
  rw [e]
  apply Nat.eq_of_testBit_eq
  intro i
  rw [Nat.testBit_xor, Nat.testBit_mul_two_pow, Nat.testBit_mod_two_pow, Nat.testBit_div_two_pow]
  by_cases h : i < 8
  · simp [h, show ¬ 8 ≤ i from by omega]
  · simp [h, show 8 ≤ i from by omega]
theorem stN_even (z : Nat) : stN (z * 2) = z := by
  unfold stN
  rw [if_neg (by omega)]
  omega
theorem sts8 (z : Nat) : stsN 8 (z * 256) = z := by
  show stN (stN (stN (stN (stN (stN (stN (stN (z * 256)))))))) = z
  rw [show z * 256 = z * 2 * 2 * 2 * 2 * 2 * 2 * 2 * 2 from by omega]
  simp only [stN_even]
/-- one byte more -/
def byN (y : Nat) (b : UInt8) : Nat := stsN 8 (y ^^^ b.toNat)
def crcN : Nat → List UInt8 → Nat
  | y, [] => y
  | y, b :: l => crcN (byN y b) l
theorem byN_lt {y : Nat} (hy : y < 4294967296) (b : UInt8) : byN y b < 4294967296 :=
  stsN_lt (xor_lt32 hy (by have := UInt8.toNat_lt b; omega)) 8
theorem crcN_lt : ∀ (l : List UInt8) {y : Nat}, y < 4294967296 → crcN y l < 4294967296
  | [], _, h => h
  | b :: l, _, h => crcN_lt l (byN_lt h b)
theorem crcN_app : ∀ (l m : List UInt8) (y : Nat), crcN y (l ++ m) = crcN (crcN y l) m
  | [], _, _ => rfl
  | _ :: l, m, _ => crcN_app l m _
theorem byN_table (y : Nat) (hy : y < 4294967296) (b : UInt8) : Go.bits .xor .u32 (stps 8 (Go.bits .xor .u8 ((y : Int) % 256) (b.toNat : Int))) ((y : Int) / 256) = (byN y b : Int) := by
  have hb := UInt8.toNat_lt b
  rw [show (y : Int) % 256 = ((y % 256 : Nat) : Int) from by omega, show (y : Int) / 256 = ((y / 256 : Nat) : Int) from by omega, xor8 _ _ (by omega) (by omega)]
  have h8 : (y % 256) ^^^ b.toNat < 2 ^ 8 := Nat.xor_lt_two_pow (by omega) (by omega)
  have h9 : (y % 256) ^^^ b.toNat < 4294967296 := by omega
  rw [stps_nat _ h9, xor32 _ _ (stsN_lt h9 8) (by omega)]
  congr 1
  unfold byN
  have e : y ^^^ b.toNat = (y / 256 * 256) ^^^ ((y % 256) ^^^ b.toNat) := by
    rw [← Nat.xor_assoc, ← split8]
  rw [e, stsN_xor (y / 256 * 256), sts8, Nat.xor_comm]
theorem crcL_nat : ∀ (l : List UInt8) (y : Nat), y < 4294967296 → crcL (y : Int) l = (crcN y l : Int)
  | [], _, _ => rfl
  | b :: l, y, h => by
    show crcL (Go.bits .xor .u32 (stps 8 (Go.bits .xor .u8 ((y : Int) % 256) (b.toNat : Int))) ((y : Int) / 256)) l = _
    rw [byN_table y h b]
    exact crcL_nat l _ (byN_lt h b)
theorem byN_inj_l {y z : Nat} (hy : y < 4294967296) (hz : z < 4294967296) (b : UInt8) (h : byN y b = byN z b) : y = z := by
  have hb := UInt8.toNat_lt b
  have := stsN_inj (xor_lt32 hy (by omega)) (xor_lt32 hz (by omega)) 8 h
  have e : (y ^^^ b.toNat) ^^^ b.toNat = (z ^^^ b.toNat) ^^^ b.toNat := by rw [this]
  rwa [Nat.xor_assoc, Nat.xor_self, Nat.xor_zero, Nat.xor_assoc, Nat.xor_self, Nat.xor_zero] at e
theorem byN_inj_r {y : Nat} (hy : y < 4294967296) (b c : UInt8) (h : byN y b = byN y c) : b = c := by
  have hb := UInt8.toNat_lt b
  have hc := UInt8.toNat_lt c
  have := stsN_inj (xor_lt32 hy (by omega)) (xor_lt32 hy (by omega)) 8 h
  have e : y ^^^ (y ^^^ b.toNat) = y ^^^ (y ^^^ c.toNat) := by rw [this]
  rw [← Nat.xor_assoc, Nat.xor_self, Nat.zero_xor, ← Nat.xor_assoc, Nat.xor_self, Nat.zero_xor] at e
  exact u8_ext e
theorem crcN_inj_l : ∀ (l : List UInt8) {y z : Nat}, y < 4294967296 → z < 4294967296 → crcN y l = crcN z l → y = z
  | [], _, _, _, _, h => h
  | b :: l, _, _, hy, hz, h => byN_inj_l hy hz b (crcN_inj_l l (byN_lt hy b) (byN_lt hz b) h)
/-- a byte turned makes another sum -/
theorem crcN_turn (l m : List UInt8) (b c : UInt8) (y : Nat) (hy : y < 4294967296) (h : crcN y (l ++ b :: m) = crcN y (l ++ c :: m)) : b = c := by
  rw [crcN_app, crcN_app] at h
  have hl := crcN_lt l hy
  exact byN_inj_r hl b c (crcN_inj_l m (byN_lt hl b) (byN_lt hl c) h)
def sumN (l : List UInt8) : Nat := crcN 4294967295 l ^^^ 4294967295
theorem sumN_lt (l : List UInt8) : sumN l < 4294967296 := xor_lt32 (crcN_lt l (by decide)) (by decide)
theorem sumN_turn (l m : List UInt8) (b c : UInt8) (h : sumN (l ++ b :: m) = sumN (l ++ c :: m)) : b = c := by
  refine crcN_turn l m b c 4294967295 (by decide) ?_
  have e : sumN (l ++ b :: m) ^^^ 4294967295 = sumN (l ++ c :: m) ^^^ 4294967295 := by rw [h]
  unfold sumN at e
  rwa [Nat.xor_assoc, Nat.xor_self, Nat.xor_zero, Nat.xor_assoc, Nat.xor_self, Nat.xor_zero] at e
theorem more_val (s : ByteArray) (hs : s.size ≤ 9223372036854775807) : crc_More.f 0 s = some (sumN (L s) : Int) := by
  unfold crc_More.f
  rw [if_pos hs]
  congr 1
  have e0 : Go.bits .xor .u32 IntKind.u32.max 0 = ((4294967295 : Nat) : Int) := by decide
  have e1 : IntKind.u32.max = ((4294967295 : Nat) : Int) := by decide
  rw [e0, crcL_nat _ _ (by decide), e1, xor32 _ _ (by decide) (crcN_lt _ (by decide)), Nat.xor_comm]
  rfl
/-- the four bytes of a sum -/
def be4 (x : Nat) : List UInt8 := [UInt8.ofNat (x / 16777216), UInt8.ofNat (x / 65536), UInt8.ofNat (x / 256), UInt8.ofNat x]
theorem be4_inj {x y : Nat} (hx : x < 4294967296) (hy : y < 4294967296) (h : be4 x = be4 y) : x = y := by
  unfold be4 at h
  simp only [List.cons.injEq, and_true] at h
  obtain ⟨h1, h2, h3, h4⟩ := h
  have f : ∀ {a b : Nat}, UInt8.ofNat a = UInt8.ofNat b → a % 256 = b % 256 := by
    intro a b h
    have := congrArg UInt8.toNat h
    simpa using this
  have := f h1; have := f h2; have := f h3; have := f h4
  omega
def sealL (l : List UInt8) : List UInt8 := l ++ be4 (sumN l)
end Go.Proofs.YtgbfbfemmhfcaaaDoor.U
/-! ## LnA -/
namespace Go.Proofs.YtgbfbfemmhfcaaaDoor.U
open Go.RowKit Go.Proofs.YtgbfbfemmhfcaaaDoor.P Go.Proofs.YtgbfbfemmhfcaaaDoorW.PrintWords

theorem hv_hx (v : Nat) (h : v < 16) : hv (hx v) = v := by
  have : ∀ v : Fin 16, hv (hx v.1) = v.1 := by decide +kernel
  exact this ⟨v, h⟩
theorem unhex_digs : ∀ l : List UInt8, unhex (digs l) = some l
  | [] => rfl
  | b :: r => by
    have h0 := UInt8.toNat_lt b
    simp only [digs, unhex]
    rw [hv_hx _ (by omega), hv_hx _ (by omega), if_pos ⟨by omega, by omega⟩, unhex_digs r]
    simp only [Option.map_some, Option.some.injEq, List.cons.injEq, and_true]
    apply u8_ext
    rw [u8_ofNat _ (by omega)]
    omega
/-- a length's digits -/
def lenB (n : Nat) : List UInt8 := digs [UInt8.ofNat (n / 256), UInt8.ofNat (n % 256)]
theorem lenB_length (n : Nat) : (lenB n).length = 4 := by unfold lenB; rw [digs_length]; rfl
def zero4 : List UInt8 := [48, 48, 48, 48]
def putL : List ByteArray → List UInt8
  | [] => zero4
  | s :: l => lenB (s.size + 4) ++ L s ++ putL l
/-- the packet lines without their end -/
def putB : List ByteArray → List UInt8
  | [] => []
  | s :: l => lenB (s.size + 4) ++ L s ++ putB l
theorem putL_putB : ∀ l, putL l = putB l ++ zero4
  | [] => rfl
  | s :: l => by simp only [putL, putB, putL_putB l, List.append_assoc]
theorem putB_append : ∀ l m, putB (l ++ m) = putB l ++ putB m
  | [], _ => rfl
  | s :: l, m => by simp only [List.cons_append, putB, putB_append l m, List.append_assoc]
/-- the value of a length's digits: 65536: none -/
def lenV (l : List UInt8) : Nat := match unhex l with
  | some [a, b] => a.toNat * 256 + b.toNat
  | _ => 65536
theorem lenV_lenB (n : Nat) (h : n < 65536) : lenV (lenB n) = n := by
  unfold lenV lenB
  rw [unhex_digs]
  show (UInt8.ofNat (n / 256)).toNat * 256 + (UInt8.ofNat (n % 256)).toNat = n
  rw [u8_ofNat _ (by omega), u8_ofNat _ (by omega)]
  omega
theorem lenV_zero4 : lenV zero4 = 0 := by decide +kernel
/-- one text is taken: how many bytes (0: the end), or what is wrong -/
def headL (s : List UInt8) : Nat ⊕ Int :=
  if s.length < 4 then .inr 2
  else if 65535 < lenV (s.take 4) then .inr 3
  else if lenV (s.take 4) = 0 then .inl 0
  else if lenV (s.take 4) < 4 ∨ 65004 < lenV (s.take 4) then .inr 3
  else if s.length < lenV (s.take 4) then .inr 2
  else .inl (lenV (s.take 4))
abbrev TakeR := List ByteArray × ByteArray × Int
def takeL : Nat → List ByteArray → List UInt8 → TakeR
  | 0, _, _ => ([], ByteArray.empty, 2)
  | n + 1, out, s => match headL s with
    | .inr e => ([], ByteArray.empty, e)
    | .inl 0 => (out, ⟨(s.drop 4).toArray⟩, 0)
    | .inl (m + 1) => takeL n (out ++ [⟨((s.take (m + 1)).drop 4).toArray⟩]) (s.drop (m + 1))
theorem headL_short (s : List UInt8) (h : s.length < 4) : headL s = .inr 2 := if_pos h
theorem headL_pos {s : List UInt8} {m : Nat} (h : headL s = .inl m) (hm : m ≠ 0) : 4 ≤ m ∧ m ≤ 65004 ∧ m ≤ s.length ∧ 4 ≤ s.length ∧ lenV (s.take 4) = m := by
  unfold headL at h
  split at h
  · cases h
  · split at h
    · cases h
    · split at h
      · cases h; exact absurd rfl hm
      · split at h
        · cases h
        · split at h
          · cases h
          · cases h; omega
/-- Packet lines of texts that are not too long. -/
def Lim (l : List ByteArray) : Prop := ∀ s ∈ l, s.size ≤ 65000
theorem headL_put (s : ByteArray) (h : s.size ≤ 65000) (r : List UInt8) : headL (lenB (s.size + 4) ++ L s ++ r) = .inl (s.size + 4) := by
  have e : (lenB (s.size + 4) ++ L s ++ r).take 4 = lenB (s.size + 4) := by
    rw [List.append_assoc, List.take_append_of_le_length (by rw [lenB_length]; exact Nat.le_refl _), List.take_of_length_le (by rw [lenB_length]; exact Nat.le_refl _)]
  have hl : (lenB (s.size + 4) ++ L s ++ r).length = 4 + s.size + r.length := by
    rw [List.length_append, List.length_append, lenB_length, size_L s]
  unfold headL
  rw [e, lenV_lenB _ (by omega), if_neg (by omega), if_neg (by omega), if_neg (by omega), if_neg (by omega), if_neg (by omega)]
theorem headL_end (r : List UInt8) : headL (zero4 ++ r) = .inl 0 := by
  have e : (zero4 ++ r).take 4 = zero4 := by
    rw [List.take_append_of_le_length (by decide)]; rfl
  unfold headL
  rw [e, lenV_zero4, if_neg (by simp [zero4]), if_neg (by omega), if_pos rfl]
theorem take_put : ∀ (l : List ByteArray) (_ : Lim l) (r : List UInt8) (out : List ByteArray) (n : Nat), (putL l ++ r).length ≤ n → takeL n out (putL l ++ r) = (out ++ l, ⟨r.toArray⟩, 0)
  | [], _, r, out, n, hn => by
    obtain ⟨m, rfl⟩ : ∃ m, n = m + 1 := ⟨n - 1, by simp [putL, zero4] at hn; omega⟩
    unfold takeL
    simp only [putL, headL_end]
    rw [List.append_nil]
    rfl
  | s :: l, hl, r, out, n, hn => by
    have hs := hl s List.mem_cons_self
    have hlen : (putL (s :: l) ++ r).length = 4 + s.size + (putL l ++ r).length := by
      show (lenB (s.size + 4) ++ L s ++ putL l ++ r).length = _
      simp only [List.length_append, lenB_length, size_L s]
      omega
    obtain ⟨m, rfl⟩ : ∃ m, n = m + 1 := ⟨n - 1, by omega⟩
    have e1 : putL (s :: l) ++ r = lenB (s.size + 4) ++ L s ++ (putL l ++ r) := by simp only [putL, List.append_assoc]
    have e2 : (lenB (s.size + 4) ++ L s).length = s.size + 3 + 1 := by rw [List.length_append, lenB_length, size_L s]; omega
    unfold takeL
    rw [e1, headL_put s hs]
    show takeL m (out ++ [⟨(((lenB (s.size + 4) ++ L s ++ (putL l ++ r)).take (s.size + 3 + 1)).drop 4).toArray⟩]) ((lenB (s.size + 4) ++ L s ++ (putL l ++ r)).drop (s.size + 3 + 1)) = _
    rw [List.drop_left' e2, List.take_left' e2, List.drop_left' (lenB_length _), take_put l (fun x hx => hl x (List.mem_cons_of_mem _ hx)) r _ m (by omega)]
    rw [List.append_assoc]
    rfl
theorem putL_length : ∀ l, (putL l).length = 4 + (l.map fun s => 4 + s.size).sum
  | [] => rfl
  | s :: l => by
    simp only [putL, List.length_append, lenB_length, putL_length l, List.map_cons, List.sum_cons, size_L s]
    omega
/-- What was put is put of one list alone. -/
theorem put_one {l m : List ByteArray} (hl : Lim l) (hm : Lim m) {r q : List UInt8} (h : putL l ++ r = putL m ++ q) : l = m ∧ r = q := by
  have h1 := take_put l hl r [] _ (Nat.le_refl _)
  have h2 := take_put m hm q [] (putL l ++ r).length (by rw [h]; exact Nat.le_refl _)
  rw [h] at h1
  rw [h] at h2
  rw [h2] at h1
  simp only [List.nil_append, Prod.mk.injEq, ByteArray.mk.injEq, and_true] at h1
  obtain ⟨a, b⟩ := h1
  exact ⟨a.symm, by have := congrArg Array.toList b; simpa using this.symm⟩
end Go.Proofs.YtgbfbfemmhfcaaaDoor.U
/-! ## LnB -/
namespace Go.Proofs.YtgbfbfemmhfcaaaDoor.U
open Go.RowKit Go.Proofs.YtgbfbfemmhfcaaaDoor Go.Proofs.YtgbfbfemmhfcaaaDoor.P Go.Proofs.YtgbfbfemmhfcaaaDoorW.PrintWords

theorem bytesOf_L (s : ByteArray) : bytesOf s = ints (L s) := rfl
theorem rdOf_nat (d : ByteArray) (l : List ByteArray) (i : Nat) : rdOf d l (i : Int) = l.getD i d := by unfold rdOf; rw [Int.toNat_natCast]
theorem lenArg (n : Nat) (h : n < 65536) : strOfNums [((n : Int) / 256) % 256, (n : Int) % 256] = ⟨[UInt8.ofNat (n / 256), UInt8.ofNat (n % 256)].toArray⟩ := by
  have e : [((n : Int) / 256) % 256, (n : Int) % 256] = ints [UInt8.ofNat (n / 256), UInt8.ofNat (n % 256)] := by
    simp only [ints, List.map_cons, List.map_nil]
    rw [u8_ofNat _ (by omega), u8_ofNat _ (by omega)]
    congr 1
    · omega
  rw [e, str_ints]
theorem size_ev (n : Nat) (h : n < 65536) : Ev (fun k => line_size.f k (n : Int)) (⟨(lenB n).toArray⟩ : ByteArray) :=
  Ev.map (hexa_Digits_ev (⟨[UInt8.ofNat (n / 256), UInt8.ofNat (n % 256)].toArray⟩ : ByteArray) (show 2 ≤ 1099511627776 by omega)) fun k hk => by
    unfold line_size.f
    rw [lenArg n h, hk]
    rfl
theorem lim_get {l : List ByteArray} (h : Lim l) (i : Nat) (hi : i < l.length) : (l.getD i ByteArray.empty).size ≤ 65000 := by
  rw [List.getD_eq_getElem?_getD, List.getElem?_eq_getElem hi]
  exact h _ (List.getElem_mem hi)
theorem putB_take (l : List ByteArray) (i : Nat) (hi : i < l.length) : putB (l.take (i + 1)) = putB (l.take i) ++ (lenB ((l.getD i ByteArray.empty).size + 4) ++ L (l.getD i ByteArray.empty)) := by
  rw [take_succ' _ _ hi ByteArray.empty, putB_append]
  simp only [putB, List.append_nil]
theorem putB_take_le (l : List ByteArray) : ∀ i, (putB (l.take i)).length ≤ (putB l).length := by
  intro i
  have : putB l = putB (l.take i) ++ putB (l.drop i) := by rw [← putB_append, List.take_append_drop]
  rw [this, List.length_append]
  omega
theorem putB_len (l : List ByteArray) : (putL l).length = (putB l).length + 4 := by rw [putL_putB, List.length_append]; rfl
theorem ba_len (l : List UInt8) : (⟨l.toArray⟩ : ByteArray).size = l.length := by rw [size_L, mk_L]
theorem str_len (l : List UInt8) : (strOfNums (ints l)).size = l.length := by rw [str_ints, ba_len]
theorem put_end (l : List ByteArray) : (⟨(putB l).toArray⟩ : ByteArray) ++ (⟨#[48, 48, 48, 48]⟩ : ByteArray) = ⟨(putL l).toArray⟩ := by
  apply ext_L
  rw [append_L, mk_L, mk_L, putL_putB]
  rfl
theorem line_Put_l0 (l : List ByteArray) (hl : Lim l) (hn : l.length ≤ 1099511627776) (hs : (putL l).length ≤ 1099511627776) : ∀ (d i : Nat) (acc : List Int), i + d = l.length → acc = ints (putB (l.take i)) →
    Ev (fun k => line_Put.l0 k acc l (l.length : Int) (i : Int)) ((⟨(putL l).toArray⟩ : ByteArray), (0 : Int)) := by
  intro d
  have hB := putB_len l
  induction d with
  | zero =>
    intro i acc hi ha
    refine Ev.one fun n => ?_
    simp only [line_Put.l0]
    have e1 : acc = ints (putB l) := by rw [ha, List.take_of_length_le (by omega)]
    rw [if_neg (by omega), e1, str_len, if_pos (by omega), str_ints, put_end]
  | succ d ih =>
    intro i acc hi ha
    have hi2 : i < l.length := by omega
    have hx := lim_get hl i hi2
    have ht := putB_take l i hi2
    have hT := putB_take_le l (i + 1)
    generalize hy : l.getD i ByteArray.empty = x at hx ht
    have hlen : (putB (l.take (i + 1))).length = (putB (l.take i)).length + (4 + x.size) := by rw [ht, List.length_append, List.length_append, lenB_length, ← size_L]
    refine Ev.both (size_ev (x.size + 4) (by omega)) (ih (i + 1) (ints (putB (l.take (i + 1)))) (by omega) rfl) fun n hz hn => ?_
    simp only [line_Put.l0]
    rw [if_pos (by omega), if_pos (by omega), if_pos (by omega), rdOf_nat, hy, show wrap64 ((x.size : Int) + 4) = ((x.size + 4 : Nat) : Int) from w64n (by omega) (by omega), hz, Option.bind_some, ha, ints_length, ba_len, lenB_length, if_pos (by omega), Option.bind_some]
    rw [if_pos (by rw [List.length_append, bytesOf_L, ints_length, ints_length, mk_L, lenB_length]; omega), show wrap64 ((i : Int) + 1) = ((i + 1 : Nat) : Int) from w64n (by omega) (by omega)]
    refine Eq.trans ?_ hn
    congr 1
    rw [bytesOf_L, bytesOf_L, mk_L, ht, ints_append, ints_append, List.append_assoc]
theorem longs_lim (l : List ByteArray) : longs l = false ↔ Lim l := by
  unfold longs Lim
  rw [List.any_eq_false]
  constructor
  · intro h s hs
    have := h s hs
    simp at this
    omega
  · intro h s hs
    have := h s hs
    simp
    omega
/-- what is put, or that it is too long -/
def putR (l : List ByteArray) : ByteArray × Int := if longs l = true then (⟨#[]⟩, 9) else (⟨(putL l).toArray⟩, 0)
theorem line_Put_ev (l : List ByteArray) (hn : l.length ≤ 1099511627776) (hs : (putL l).length ≤ 1099511627776) : Ev (fun k => line_Put.f k l) (putR l) := by
  unfold putR
  by_cases c : longs l = true
  · rw [if_pos c]
    refine ⟨0, fun k _ => ?_⟩
    show line_Put.f k l = _
    unfold line_Put.f slices_ContainsFunc_string_string__line_Put_1.f
    rw [if_pos (by omega), Option.bind_some, if_pos c]
  · rw [if_neg c]
    have hl := (longs_lim l).1 (by simpa using c)
    refine Ev.map (line_Put_l0 l hl hn hs l.length 0 [] (by omega) rfl) fun k hk => ?_
    unfold line_Put.f slices_ContainsFunc_string_string__line_Put_1.f
    rw [if_pos (by omega), Option.bind_some, if_neg c]
    exact hk
theorem refArg (n : Nat) (h : n < 65536) : strOfNums [(wrap64 (Int.tdiv (n : Int) 256)) % 256, (Int.tmod (n : Int) 256) % 256] = ⟨[UInt8.ofNat (n / 256), UInt8.ofNat (n % 256)].toArray⟩ := by
  rw [Int.tdiv_eq_ediv_of_nonneg (by omega), Int.tmod_eq_emod_of_nonneg (by omega), w64 (by omega) (by omega), ← lenArg n h]
  congr 3
  omega
theorem ref_Put_l0 (l : List ByteArray) (hl : Lim l) (hn : l.length ≤ 1099511627776) (hs : (putL l).length ≤ 1099511627776) : ∀ (d i : Nat) (acc : List Int), i + d = l.length → acc = ints (putB (l.take i)) →
    Ev (fun k => diptychref27_Put.l0 k l acc (i : Int)) ((⟨(putL l).toArray⟩ : ByteArray), (0 : Int)) := by
  intro d
  have hB := putB_len l
  induction d with
  | zero =>
    intro i acc hi ha
    refine Ev.one fun n => ?_
    simp only [diptychref27_Put.l0]
    have e1 : acc = ints (putB l) := by rw [ha, List.take_of_length_le (by omega)]
    rw [if_neg (by omega), e1, str_len, if_pos (by omega), str_ints, put_end]
  | succ d ih =>
    intro i acc hi ha
    have hi2 : i < l.length := by omega
    have hx := lim_get hl i hi2
    have ht := putB_take l i hi2
    have hT := putB_take_le l (i + 1)
    generalize hy : l.getD i ByteArray.empty = x at hx ht
    have hlen : (putB (l.take (i + 1))).length = (putB (l.take i)).length + (4 + x.size) := by rw [ht, List.length_append, List.length_append, lenB_length, ← size_L]
    refine Ev.both (ref_Digits_ev (⟨[UInt8.ofNat ((x.size + 4) / 256), UInt8.ofNat ((x.size + 4) % 256)].toArray⟩ : ByteArray) (show 2 ≤ 1099511627776 by omega)) (ih (i + 1) (ints (putB (l.take (i + 1)))) (by omega) rfl) fun n hz hn => ?_
    replace hz : diptychref01_Digits.f n _ = some (⟨(lenB (x.size + 4)).toArray⟩ : ByteArray) := hz
    simp only [diptychref27_Put.l0]
    rw [if_pos (by omega), if_pos (by omega), rdOf_nat, hy, if_neg (by omega), show wrap64 ((x.size : Int) + 4) = ((x.size + 4 : Nat) : Int) from w64n (by omega) (by omega), refArg _ (by omega), hz, Option.bind_some, ha, ints_length, ba_len, lenB_length, if_pos (by omega), Option.bind_some]
    rw [if_pos (by rw [List.length_append, bytesOf_L, ints_length, ints_length, mk_L, lenB_length]; omega), show wrap64 ((i : Int) + 1) = ((i + 1 : Nat) : Int) from w64n (by omega) (by omega)]
    refine Eq.trans ?_ hn
    congr 1
    rw [bytesOf_L, bytesOf_L, mk_L, ht, ints_append, ints_append, List.append_assoc]
/-- the reference stops at the first text that is too long -/
theorem ref_Put_long (l : List ByteArray) (hn : l.length ≤ 1099511627776) (hs : (putL l).length ≤ 1099511627776) : ∀ (d i : Nat) (acc : List Int), i + d = l.length → acc = ints (putB (l.take i)) → longs (l.drop i) = true →
    Ev (fun k => diptychref27_Put.l0 k l acc (i : Int)) ((⟨#[]⟩ : ByteArray), (9 : Int)) := by
  intro d
  have hB := putB_len l
  induction d with
  | zero =>
    intro i acc hi ha hL
    rw [List.drop_of_length_le (by omega)] at hL
    cases hL
  | succ d ih =>
    intro i acc hi ha hL
    have hi2 : i < l.length := by omega
    have ht := putB_take l i hi2
    have hT := putB_take_le l (i + 1)
    rw [drop_cons' _ _ hi2 ByteArray.empty] at hL
    generalize hy : l.getD i ByteArray.empty = x at ht hL
    by_cases c : 65000 < x.size
    · refine Ev.one fun n => ?_
      simp only [diptychref27_Put.l0]
      rw [if_pos (by omega), if_pos (by omega), rdOf_nat, hy, if_pos (by omega)]
    · have hL2 : longs (l.drop (i + 1)) = true := by
        unfold longs at hL ⊢
        rw [List.any_cons] at hL
        simpa [show ¬ (65000 : Int) < (x.size : Int) from by omega] using hL
      have hlen : (putB (l.take (i + 1))).length = (putB (l.take i)).length + (4 + x.size) := by rw [ht, List.length_append, List.length_append, lenB_length, ← size_L]
      refine Ev.both (ref_Digits_ev (⟨[UInt8.ofNat ((x.size + 4) / 256), UInt8.ofNat ((x.size + 4) % 256)].toArray⟩ : ByteArray) (show 2 ≤ 1099511627776 by omega)) (ih (i + 1) (ints (putB (l.take (i + 1)))) (by omega) rfl hL2) fun n hz hn => ?_
      replace hz : diptychref01_Digits.f n _ = some (⟨(lenB (x.size + 4)).toArray⟩ : ByteArray) := hz
      simp only [diptychref27_Put.l0]
      rw [if_pos (by omega), if_pos (by omega), rdOf_nat, hy, if_neg (by omega), show wrap64 ((x.size : Int) + 4) = ((x.size + 4 : Nat) : Int) from w64n (by omega) (by omega), refArg _ (by omega), hz, Option.bind_some, ha, ints_length, ba_len, lenB_length, if_pos (by omega), Option.bind_some]
      rw [if_pos (by rw [List.length_append, bytesOf_L, ints_length, ints_length, mk_L, lenB_length]; omega), show wrap64 ((i : Int) + 1) = ((i + 1 : Nat) : Int) from w64n (by omega) (by omega)]
      refine Eq.trans ?_ hn
      congr 1
      rw [bytesOf_L, bytesOf_L, mk_L, ht, ints_append, ints_append, List.append_assoc]
theorem ref_Put_ev (l : List ByteArray) (hn : l.length ≤ 1099511627776) (hs : (putL l).length ≤ 1099511627776) : Ev (fun k => diptychref27_Put.f k l) (putR l) := by
  unfold putR
  by_cases c : longs l = true
  · rw [if_pos c]
    exact ref_Put_long l hn hs l.length 0 [] (by omega) rfl c
  · rw [if_neg c]
    exact ref_Put_l0 l ((longs_lim l).1 (by simpa using c)) hn hs l.length 0 [] (by omega) rfl
end Go.Proofs.YtgbfbfemmhfcaaaDoor.U
/-! ## LnC -/
namespace Go.Proofs.YtgbfbfemmhfcaaaDoor.U
open Go.RowKit Go.Proofs.YtgbfbfemmhfcaaaDoor Go.Proofs.YtgbfbfemmhfcaaaDoor.P Go.Proofs.YtgbfbfemmhfcaaaDoorW.PrintWords

theorem Ev.step {α β : Type} {f : Nat → Option α} {g : Nat → Option β} {a : α} {r : β} (k : Ev f a) (h : ∀ n, f n = some a → g (n + 1) = some r) : Ev g r := by
  obtain ⟨K, k⟩ := k
  refine ⟨K + 1, fun n hn => ?_⟩
  obtain ⟨m, rfl⟩ : ∃ m, n = m + 1 := ⟨n - 1, by omega⟩
  exact h m (k m (by omega))
theorem orV (a b : Nat) (ha : a < 256) (hb : b < 256) : Go.bits .or .i64 (wrap64 ((wrap64 (a : Int)) * 256)) (wrap64 (b : Int)) = ((a * 256 + b : Nat) : Int) := by
  rw [show wrap64 (a : Int) = (a : Int) from w64 (by omega) (by omega), show wrap64 (b : Int) = (b : Int) from w64 (by omega) (by omega), show wrap64 ((a : Int) * 256) = ((a * 256 : Nat) : Int) from w64n (by omega) (by omega)]
  have h1 : (BitVec.ofInt 64 ((a * 256 : Nat) : Int)).toNat = a * 256 := by
    rw [BitVec.ofInt_natCast, BitVec.toNat_ofNat]; exact Nat.mod_eq_of_lt (by omega)
  have h2 : (BitVec.ofInt 64 (b : Int)).toNat = b := by
    rw [BitVec.ofInt_natCast, BitVec.toNat_ofNat]; exact Nat.mod_eq_of_lt (by omega)
  have h3 : a * 256 ||| b = a * 256 + b := by
    have := Nat.shiftLeft_add_eq_or_of_lt (i := 8) (b := b) hb a
    rw [Nat.shiftLeft_eq] at this
    exact this.symm
  show IntKind.i64.wrap ((BitVec.ofInt 64 ((a * 256 : Nat) : Int) ||| BitVec.ofInt 64 (b : Int)).toNat : Int) = _
  rw [BitVec.toNat_or, h1, h2, h3]
  rw [show IntKind.i64.wrap ((a * 256 + b : Nat) : Int) = wrap64 ((a * 256 + b : Nat) : Int) from by unfold wrap64; exact IntKind.wrap_i64 _]
  exact w64n rfl (by omega)
theorem sumV (a b : Nat) (ha : a < 256) (hb : b < 256) : wrap64 ((wrap64 ((wrap64 (a : Int)) * 256)) + (wrap64 (b : Int))) = ((a * 256 + b : Nat) : Int) := by
  rw [show wrap64 (a : Int) = (a : Int) from w64 (by omega) (by omega), show wrap64 (b : Int) = (b : Int) from w64 (by omega) (by omega), show wrap64 ((a : Int) * 256) = ((a * 256 : Nat) : Int) from w64n (by omega) (by omega), show wrap64 (((a * 256 : Nat) : Int) + (b : Int)) = ((a * 256 + b : Nat) : Int) from w64n (by omega) (by omega)]
theorem four (l : List UInt8) (h : l.length = 4) : (∃ a b, unhex l = some [a, b] ∧ lenV l = a.toNat * 256 + b.toNat) ∨ (unhex l = none ∧ lenV l = 65536) := by
  unfold lenV
  cases e : unhex l with
  | none => exact .inr ⟨rfl, rfl⟩
  | some r =>
    have := unhex_len _ _ _ (Nat.le_refl _) e
    match r, this with
    | [a, b], _ => exact .inl ⟨a, b, rfl, rfl⟩
    | [], h2 => simp only [List.length_nil] at h2; omega
    | [_], h2 => simp only [List.length_nil, List.length_cons] at h2; omega
    | _ :: _ :: _ :: _, h2 => simp only [List.length_cons] at h2; omega
theorem ext4 (s : ByteArray) : L (s.extract 0 4) = (L s).take 4 := by rw [extract_L]; rfl
theorem bt2 (a b : UInt8) : bt (⟨[a, b].toArray⟩ : ByteArray) 0 = (a.toNat : Int) ∧ bt (⟨[a, b].toArray⟩ : ByteArray) 1 = (b.toNat : Int) := by
  constructor
  · have := bt_L (⟨[a, b].toArray⟩ : ByteArray) 0
    exact this
  · have := bt_L (⟨[a, b].toArray⟩ : ByteArray) 1
    exact this
theorem extract_tail (s : ByteArray) (n : Nat) : s.extract n s.size = ⟨((L s).drop n).toArray⟩ := by
  apply ext_L
  rw [extract_L, mk_L, List.take_of_length_le (Nat.le_of_eq (by rw [List.length_drop, ← size_L]))]
theorem extract_mid (s : ByteArray) (n : Nat) : s.extract 4 n = ⟨(((L s).take n).drop 4).toArray⟩ := by
  apply ext_L
  rw [extract_L, mk_L, List.drop_take]
theorem line_Take_l0 : ∀ (d : Nat) (s : ByteArray) (out : List ByteArray), s.size ≤ d → out.length + s.size ≤ 1099511627776 → Ev (fun k => line_Take.l0 k s out) (takeL (d + 1) out (L s)) := by
  intro d
  induction d with
  | zero =>
    intro s out hd hb
    refine Ev.one fun n => ?_
    simp only [line_Take.l0, takeL]
    rw [if_neg (by omega), headL_short _ (by rw [← size_L]; omega)]
    rfl
  | succ d ih =>
    intro s out hd hb
    by_cases c4 : s.size < 4
    · refine Ev.one fun n => ?_
      simp only [line_Take.l0]
      rw [takeL, if_neg (by omega), headL_short _ (by rw [← size_L]; omega)]
      rfl
    · have hB := hexa_Bytes_ev (s.extract 0 4) (by rw [size_L, ext4 s, List.length_take, ← size_L]; omega)
      rw [ext4 s] at hB
      have h4 : ((L s).take 4).length = 4 := by rw [List.length_take, ← size_L]; omega
      have hq : ¬ (L s).length < 4 := by rw [← size_L]; exact c4
      rcases four _ h4 with ⟨a, b, hu, hv⟩ | ⟨hu, hv⟩
      · have ha := UInt8.toNat_lt a
        have hb' := UInt8.toNat_lt b
        have e : bytesR ((L s).take 4) = (⟨[a, b].toArray⟩, 0) := by unfold bytesR; rw [hu]
        rw [e] at hB
        have hor := orV a.toNat b.toNat ha hb'
        generalize hm : a.toNat * 256 + b.toNat = m at hv hor
        have hsz : (⟨[a, b].toArray⟩ : ByteArray).size = 2 := rfl
        have hstep : ∀ n, hexa_Bytes.f n (s.extract 0 4) = some (⟨[a, b].toArray⟩, 0) → line_Take.l0 (n + 1) s out = if m = 0 then some (out, ⟨((L s).drop 4).toArray⟩, 0) else if m < 4 then line_Take.j1 n s out (m : Int) true else line_Take.j1 n s out (m : Int) (decide ((m : Int) > 65004)) := by
          intro n hz
          simp only [line_Take.l0]
          rw [if_pos (by omega), if_pos (by omega), if_pos (by omega), hz, Option.bind_some, (bt2 a b).1, (bt2 a b).2, hor, hsz, if_pos rfl, if_pos (by omega), if_pos (by omega), extract_tail]
          by_cases c0 : m = 0
          · rw [if_pos c0, if_pos (by omega)]
          · rw [if_neg c0, if_neg (by omega)]
            by_cases c1 : m < 4
            · rw [if_pos c1, if_pos (by omega)]
            · rw [if_neg c1, if_neg (by omega)]
        clear hor hsz ha hb'
        by_cases c0 : m = 0
        · refine Ev.step hB fun n hz => ?_
          rw [hstep n hz, if_pos c0, takeL]
          have : headL (L s) = .inl 0 := by
            unfold headL
            rw [hv, if_neg hq, if_neg (by omega), if_pos c0]
          rw [this]
        · by_cases c1 : m < 4 ∨ 65004 < m
          · have : headL (L s) = .inr 3 := by
              unfold headL
              rw [hv, if_neg hq]
              by_cases c9 : 65535 < m
              · rw [if_pos c9]
              · rw [if_neg c9, if_neg c0, if_pos c1]
            have hj : Ev (fun k => line_Take.j1 k s out (m : Int) true) (([] : List ByteArray), (⟨#[]⟩ : ByteArray), (3 : Int)) := Ev.one fun n => by rw [line_Take.j1, if_pos rfl]
            refine Ev.both hB hj fun n hz hn => ?_
            rw [hstep n hz, if_neg c0, takeL, this]
            by_cases c2 : m < 4
            · rw [if_pos c2]; exact hn
            · rw [if_neg c2, show decide ((m : Int) > 65004) = true from decide_eq_true (by omega)]; exact hn
          · by_cases c2 : s.size < m
            · have : headL (L s) = .inr 2 := by
                unfold headL
                rw [hv, if_neg hq, if_neg (by omega), if_neg c0, if_neg c1, if_pos (by rw [← size_L]; exact c2)]
              have hj : Ev (fun k => line_Take.j1 k s out (m : Int) false) (([] : List ByteArray), (⟨#[]⟩ : ByteArray), (2 : Int)) := Ev.one fun n => by
                rw [line_Take.j1, if_neg (by decide), if_pos (by omega)]
              refine Ev.both hB hj fun n hz hn => ?_
              rw [hstep n hz, if_neg c0, takeL, this, if_neg (by omega), show decide ((m : Int) > 65004) = false from decide_eq_false (by omega)]
              exact hn
            · clear hm
              obtain ⟨m', rfl⟩ : ∃ m', m = m' + 1 := ⟨m - 1, by omega⟩
              have : headL (L s) = .inl (m' + 1) := by
                unfold headL
                rw [hv, if_neg hq, if_neg (by omega), if_neg c0, if_neg c1, if_neg (by rw [← size_L]; exact c2)]
              have hr := ih (s.extract (m' + 1) s.size) (out ++ [s.extract 4 (m' + 1)]) (by rw [extract_tail, ba_len, List.length_drop, ← size_L]; omega) (by rw [extract_tail, ba_len, List.length_drop, ← size_L, List.length_append]; simp; omega)
              have hj : Ev (fun k => line_Take.j1 k s out ((m' + 1 : Nat) : Int) false) (takeL (d + 1) (out ++ [⟨(((L s).take (m' + 1)).drop 4).toArray⟩]) ((L s).drop (m' + 1))) := by
                rw [extract_tail, mk_L, extract_mid] at hr
                refine Ev.succ hr fun n hn => ?_
                show line_Take.j1 (n + 1) s out ((m' + 1 : Nat) : Int) false = _
                rw [line_Take.j1]
                rw [if_neg (by decide), if_neg (by omega), if_pos (by omega), if_pos (by omega), if_pos (by omega), if_pos (by omega), Int.toNat_natCast, extract_tail, extract_mid]
                exact hn
              refine Ev.both hB hj fun n hz hn => ?_
              rw [hstep n hz, if_neg c0, takeL, this, if_neg (by omega), show decide (((m' + 1 : Nat) : Int) > 65004) = false from decide_eq_false (by omega)]
              exact hn
      · have : headL (L s) = .inr 3 := by
          unfold headL
          rw [hv, if_neg hq, if_pos (by omega)]
        have e : bytesR ((L s).take 4) = (⟨#[]⟩, 3) := by unfold bytesR; rw [hu]
        rw [e] at hB
        refine Ev.step hB fun n hz => ?_
        simp only [line_Take.l0]
        rw [if_pos (by omega), if_pos (by omega), if_pos (by omega), hz, Option.bind_some, if_neg (by decide), takeL, this]
        rfl
/-- what is taken -/
def takeR (s : ByteArray) : TakeR := takeL (s.size + 1) [] (L s)
theorem line_Take_ev (s : ByteArray) (hs : s.size ≤ 1099511627776) : Ev (fun k => line_Take.f k s) (takeR s) :=
  line_Take_l0 s.size s [] (Nat.le_refl _) (by simpa using hs)
end Go.Proofs.YtgbfbfemmhfcaaaDoor.U
/-! ## LnD -/
namespace Go.Proofs.YtgbfbfemmhfcaaaDoor.U
open Go.RowKit Go.Proofs.YtgbfbfemmhfcaaaDoor Go.Proofs.YtgbfbfemmhfcaaaDoor.P Go.Proofs.YtgbfbfemmhfcaaaDoorW.PrintWords

theorem extract_at (s : ByteArray) (i : Nat) : L (s.extract i (i + 4)) = ((L s).drop i).take 4 := by rw [extract_L, Nat.add_sub_cancel_left]
theorem extract_text (s : ByteArray) (i m : Nat) : s.extract (i + 4) (i + m) = ⟨((((L s).drop i).take m).drop 4).toArray⟩ := by
  apply ext_L
  rw [extract_L, mk_L, List.drop_take, List.drop_drop, show i + m - (i + 4) = m - 4 from by omega]
theorem tail_at (s : ByteArray) (i : Nat) : s.extract (i + 4) s.size = ⟨(((L s).drop i).drop 4).toArray⟩ := by rw [extract_tail, List.drop_drop]
theorem ref_Take_l0 (s : ByteArray) (hs : s.size ≤ 1099511627776) : ∀ (d i : Nat) (out : List ByteArray), i ≤ s.size → s.size ≤ d + i → out.length + d ≤ 2199023255552 → Ev (fun k => diptychref27_Take.l0 k s out (i : Int)) (takeL (d + 1) out ((L s).drop i)) := by
  intro d
  induction d with
  | zero =>
    intro i out hi hd hb
    refine Ev.one fun n => ?_
    have hw := Lib.hid (show wrap64 ((i : Int) + 4) = ((i + 4 : Nat) : Int) from w64n (by omega) (by omega))
    simp only [diptychref27_Take.l0, takeL]
    rw [hw.out, if_neg (by omega), headL_short _ (by rw [List.length_drop, ← size_L]; omega)]
    rfl
  | succ d ih =>
    intro i out hi hd hb
    have hw := Lib.hid (show wrap64 ((i : Int) + 4) = ((i + 4 : Nat) : Int) from w64n (by omega) (by omega))
    have hlen : ((L s).drop i).length = s.size - i := by rw [List.length_drop, ← size_L]
    by_cases c4 : s.size < i + 4
    · refine Ev.one fun n => ?_
      simp only [diptychref27_Take.l0]
      rw [takeL, hw.out, if_neg (by omega), headL_short _ (by omega)]
      rfl
    · have hB := ref_Bytes_ev (s.extract i (i + 4)) (by rw [size_L, extract_at s, List.length_take]; omega)
      rw [extract_at s] at hB
      have h4 : (((L s).drop i).take 4).length = 4 := by rw [List.length_take]; omega
      have hq : ¬ ((L s).drop i).length < 4 := by omega
      have ht := tail_at s i
      have hx := extract_text s i
      have hdd : ∀ m, ((L s).drop i).drop m = (L s).drop (i + m) := fun m => List.drop_drop
      generalize hG : (L s).drop i = t at hB h4 hq hlen ht hx hdd
      rcases four _ h4 with ⟨a, b, hu, hv⟩ | ⟨hu, hv⟩
      · have ha := UInt8.toNat_lt a
        have hb' := UInt8.toNat_lt b
        have e : bytesR (t.take 4) = (⟨[a, b].toArray⟩, 0) := by unfold bytesR; rw [hu]
        rw [e] at hB
        have hm2 : a.toNat * 256 + b.toNat < 65536 := by omega
        have hor := Lib.hid (sumV a.toNat b.toNat ha hb')
        generalize hm : a.toNat * 256 + b.toNat = m at hv hor hm2
        have hsz : (⟨[a, b].toArray⟩ : ByteArray).size = 2 := rfl
        have hstep : ∀ n, diptychref01_Bytes.f n (s.extract i (i + 4)) = some (⟨[a, b].toArray⟩, 0) → diptychref27_Take.l0 (n + 1) s out (i : Int) = if m = 0 then some (out, ⟨(t.drop 4).toArray⟩, 0) else if m < 4 then diptychref27_Take.j1 n s out (i : Int) (m : Int) true else diptychref27_Take.j1 n s out (i : Int) (m : Int) (decide ((m : Int) > 65004)) := by
          intro n hz
          simp only [diptychref27_Take.l0]
          rw [hw.out, if_pos (by omega), if_pos (by omega), if_pos (by omega), Int.toNat_natCast, Int.toNat_natCast, hz, Option.bind_some, (bt2 a b).1, (bt2 a b).2, hor.out, hsz, if_pos rfl, if_pos (by omega), if_pos (by omega), ht]
          by_cases c0 : m = 0
          · rw [if_pos c0, if_pos (by omega), if_pos (by omega)]
          · rw [if_neg c0, if_neg (by omega)]
            by_cases c1 : m < 4
            · rw [if_pos c1, if_pos (by omega)]
            · rw [if_neg c1, if_neg (by omega)]
        clear hor hsz ha hb' hm
        by_cases c0 : m = 0
        · refine Ev.step hB fun n hz => ?_
          rw [hstep n hz, if_pos c0, takeL]
          have : headL t = .inl 0 := by
            unfold headL
            rw [hv, if_neg hq, if_neg (by omega), if_pos c0]
          rw [this]
        · by_cases c1 : m < 4 ∨ 65004 < m
          · have : headL t = .inr 3 := by
              unfold headL
              rw [hv, if_neg hq, if_neg (by omega), if_neg c0, if_pos c1]
            have hj : Ev (fun k => diptychref27_Take.j1 k s out (i : Int) (m : Int) true) (([] : List ByteArray), (⟨#[]⟩ : ByteArray), (3 : Int)) := Ev.one fun n => by rw [diptychref27_Take.j1, if_pos rfl]
            refine Ev.both hB hj fun n hz hn => ?_
            rw [hstep n hz, if_neg c0, takeL, this]
            by_cases c2 : m < 4
            · rw [if_pos c2]; exact hn
            · rw [if_neg c2, show decide ((m : Int) > 65004) = true from decide_eq_true (by omega)]; exact hn
          · have hwm := Lib.hid (show wrap64 ((i : Int) + (m : Int)) = ((i + m : Nat) : Int) from w64n (by omega) (by omega))
            by_cases c2 : s.size < i + m
            · have : headL t = .inr 2 := by
                unfold headL
                rw [hv, if_neg hq, if_neg (by omega), if_neg c0, if_neg c1, if_pos (by omega)]
              have hj : Ev (fun k => diptychref27_Take.j1 k s out (i : Int) (m : Int) false) (([] : List ByteArray), (⟨#[]⟩ : ByteArray), (2 : Int)) := Ev.one fun n => by
                rw [diptychref27_Take.j1, if_neg (by decide), hwm.out, if_pos (by omega)]
              refine Ev.both hB hj fun n hz hn => ?_
              rw [hstep n hz, if_neg c0, takeL, this, if_neg (by omega), show decide ((m : Int) > 65004) = false from decide_eq_false (by omega)]
              exact hn
            · obtain ⟨m', rfl⟩ : ∃ m', m = m' + 1 := ⟨m - 1, by omega⟩
              have : headL t = .inl (m' + 1) := by
                unfold headL
                rw [hv, if_neg hq, if_neg (by omega), if_neg c0, if_neg c1, if_neg (by omega)]
              have hr := ih (i + (m' + 1)) (out ++ [s.extract (i + 4) (i + (m' + 1))]) (by omega) (by omega) (by rw [List.length_append]; simp only [List.length_cons, List.length_nil]; omega)
              have hj : Ev (fun k => diptychref27_Take.j1 k s out (i : Int) ((m' + 1 : Nat) : Int) false) (takeL (d + 1) (out ++ [⟨((t.take (m' + 1)).drop 4).toArray⟩]) (t.drop (m' + 1))) := by
                rw [hx, ← hdd] at hr
                refine Ev.succ hr fun n hn => ?_
                show diptychref27_Take.j1 (n + 1) s out (i : Int) ((m' + 1 : Nat) : Int) false = _
                rw [diptychref27_Take.j1, if_neg (by decide), hwm.out, hw.out, if_neg (by omega), if_pos (by omega), if_pos (by omega), if_pos (by omega), if_pos (by omega), Int.toNat_natCast, Int.toNat_natCast, hx]
                exact hn
              refine Ev.both hB hj fun n hz hn => ?_
              rw [hstep n hz, if_neg c0, takeL, this, if_neg (by omega), show decide (((m' + 1 : Nat) : Int) > 65004) = false from decide_eq_false (by omega)]
              exact hn
      · have : headL t = .inr 3 := by
          unfold headL
          rw [hv, if_neg hq, if_pos (by omega)]
        have e : bytesR (t.take 4) = (⟨#[]⟩, 3) := by unfold bytesR; rw [hu]
        rw [e] at hB
        refine Ev.step hB fun n hz => ?_
        simp only [diptychref27_Take.l0]
        rw [hw.out, if_pos (by omega), if_pos (by omega), if_pos (by omega), Int.toNat_natCast, Int.toNat_natCast, hz, Option.bind_some, if_neg (by decide), takeL, this]
        rfl
theorem ref_Take_ev (s : ByteArray) (hs : s.size ≤ 1099511627776) : Ev (fun k => diptychref27_Take.f k s) (takeR s) :=
  ref_Take_l0 s hs s.size 0 [] (Nat.zero_le _) (by omega) (by simp only [List.length_nil]; omega)
theorem texts_l0 (a b : List ByteArray) (hn : a.length ≤ 1099511627776) (he : a.length = b.length) : ∀ (d i : Nat), i + d = a.length → a.take i = b.take i →
    Ev (fun k => diptychref11_Texts.l0 k a b (i : Int)) (decide (a = b)) := by
  intro d
  induction d with
  | zero =>
    intro i hi ht
    refine Ev.one fun n => ?_
    simp only [diptychref11_Texts.l0]
    rw [if_neg (by omega), decide_eq_true (by rwa [List.take_of_length_le (by omega), List.take_of_length_le (by omega)] at ht)]
  | succ d ih =>
    intro i hi ht
    have ha := take_succ' a i (by omega) ByteArray.empty
    have hb := take_succ' b i (by omega) ByteArray.empty
    by_cases c : a.getD i ByteArray.empty = b.getD i ByteArray.empty
    · refine Ev.succ (ih (i + 1) (by omega) (by rw [ha, hb, ht, c])) fun n hn => ?_
      simp only [diptychref11_Texts.l0]
      rw [if_pos (by omega), if_pos (by omega), if_pos (by omega), rdOf_nat, rdOf_nat, c, if_pos rfl, show wrap64 ((i : Int) + 1) = ((i + 1 : Nat) : Int) from w64n (by omega) (by omega)]
      exact hn
    · refine Ev.one fun n => ?_
      simp only [diptychref11_Texts.l0]
      rw [if_pos (by omega), if_pos (by omega), if_pos (by omega), rdOf_nat, rdOf_nat, if_neg (fun h => c (ext_L (by rw [← toList_L, ← toList_L, h]))), decide_eq_false (fun h => c (by rw [h]))]
theorem texts_ev (a b : List ByteArray) (hn : a.length ≤ 1099511627776) : Ev (fun k => diptychref11_Texts.f k a b) (decide (a = b)) := by
  by_cases c : a.length = b.length
  · refine Ev.map (texts_l0 a b hn c a.length 0 (by omega) rfl) fun n hn => ?_
    unfold diptychref11_Texts.f
    rw [if_pos (by omega)]
    exact hn
  · refine ⟨0, fun n _ => ?_⟩
    show diptychref11_Texts.f n a b = _
    unfold diptychref11_Texts.f
    rw [if_neg (by omega), decide_eq_false (fun h => c (by rw [h]))]
end Go.Proofs.YtgbfbfemmhfcaaaDoor.U
/-! ## LnE -/
namespace Go.Proofs.YtgbfbfemmhfcaaaDoor.U
open Go.RowKit Go.Proofs.YtgbfbfemmhfcaaaDoor Go.Proofs.YtgbfbfemmhfcaaaDoor.P Go.Proofs.YtgbfbfemmhfcaaaDoorW.PrintWords

theorem Ev.two {α : Type} {g : Nat → Option α} {r : α} (h : ∀ n, g (n + 2) = some r) : Ev g r :=
  ⟨2, fun n hn => by obtain ⟨m, rfl⟩ : ∃ m, n = m + 2 := ⟨n - 2, by omega⟩; exact h m⟩
theorem crc_Sum_ev (s : ByteArray) (hs : s.size ≤ 1099511627776) : Ev (fun k => crc_Sum.f k [s]) (sumN (L s) : Int) := by
  refine Ev.two fun n => ?_
  show crc_Sum.l0 (n + 2) 0 [s] ((1 : Nat) : Int) 0 = _
  rw [crc_Sum.l0, if_pos (by decide), if_pos (by decide), if_pos (show (0 : Int) < (([s] : List ByteArray).length : Int) from by simp), show rdOf ByteArray.empty [s] 0 = s from rfl, more_val s (by omega), Option.bind_some]
  rw [show wrap64 (0 + 1) = ((1 : Nat) : Int) from w64n (by omega) (by omega), crc_Sum.l0, if_neg (by omega)]
theorem be4_ints (x : Nat) : [((x : Int) / 16777216) % 256, ((x : Int) / 65536) % 256, ((x : Int) / 256) % 256, (x : Int) % 256] = ints (be4 x) := by
  have f : ∀ a : Nat, ((UInt8.ofNat a).toNat : Int) = (a : Int) % 256 := by
    intro a
    rw [UInt8.toNat_ofNat']
    omega
  simp only [ints, be4, List.map_cons, List.map_nil, f]
  congr 1
theorem seal_app (s : ByteArray) : s ++ (⟨(be4 (sumN (L s))).toArray⟩ : ByteArray) = ⟨(sealL (L s)).toArray⟩ := by
  apply ext_L
  rw [append_L, mk_L, mk_L]
  rfl
theorem crc_Seal_ev (s : ByteArray) (hs : s.size ≤ 1099511627776) : Ev (fun k => crc_Seal.f k s) (⟨(sealL (L s)).toArray⟩ : ByteArray) :=
  Ev.map (crc_Sum_ev s hs) fun n hn => by
    unfold crc_Seal.f
    rw [hn, Option.bind_some, be4_ints, Option.bind_some, str_len, if_pos (by show s.size + 4 ≤ _; omega), str_ints, seal_app]
/-- what is opened -/
def openR (s : ByteArray) : ByteArray × Int := if s.size < 4 then (⟨#[]⟩, 2) else if sealL ((L s).take (s.size - 4)) = L s then (⟨((L s).take (s.size - 4)).toArray⟩, 0) else (⟨#[]⟩, 14)
theorem extract_head (s : ByteArray) (n : Nat) : s.extract 0 n = ⟨((L s).take n).toArray⟩ := by
  apply ext_L
  rw [extract_L, mk_L, List.drop_zero, Nat.sub_zero]
theorem crc_Open_ev (s : ByteArray) (hs : s.size ≤ 1099511627776) : Ev (fun k => crc_Open.f k s) (openR s) := by
  unfold openR
  by_cases c : s.size < 4
  · rw [if_pos c]
    refine Ev.two fun n => ?_
    show crc_Open.f (n + 2) s = _
    unfold crc_Open.f
    rw [show wrap64 ((s.size : Int) - 4) = (s.size : Int) - 4 from w64 (by omega) (by omega), if_pos (by omega)]
  · rw [if_neg c]
    have hS := crc_Seal_ev (⟨((L s).take (s.size - 4)).toArray⟩ : ByteArray) (by rw [ba_len, List.length_take, ← size_L]; omega)
    rw [mk_L] at hS
    refine Ev.map hS fun n hn => ?_
    unfold crc_Open.f
    rw [show wrap64 ((s.size : Int) - 4) = ((s.size - 4 : Nat) : Int) from w64n (by omega) (by omega), if_neg (by omega), if_pos (by omega), if_pos (by omega), Int.toNat_natCast, extract_head, hn, Option.bind_some, toList_L, toList_L, mk_L]
    by_cases d : sealL ((L s).take (s.size - 4)) = L s
    · rw [if_pos d, if_pos d]
    · rw [if_neg d, if_neg d]
theorem ref_Sum_l1 (s : ByteArray) (y : Nat) (hy : y < 4294967296) (i : Nat) (hi : i < 1099511627776) (r : Int) (h : Ev (fun k => diptychref04_Sum.l0 k s (stsN 8 y : Int) ((i + 1 : Nat) : Int)) r) : ∀ (d m : Nat), m + d = 8 → Ev (fun k => diptychref04_Sum.l1 k s (stsN m y : Int) (i : Int) (m : Int)) r := by
  intro d
  induction d with
  | zero =>
    intro m hm
    obtain rfl : m = 8 := by omega
    refine Ev.succ h fun n hn => ?_
    show diptychref04_Sum.l1 (n + 1) s _ _ _ = _
    rw [diptychref04_Sum.l1, if_neg (by omega), show wrap64 ((i : Int) + 1) = ((i + 1 : Nat) : Int) from w64n (by omega) (by omega)]
    exact hn
  | succ d ih =>
    intro m hm
    have hlt := stsN_lt hy m
    have hst : stsN (m + 1) y = stN (stsN m y) := rfl
    have h2 := ih (m + 1) (by omega)
    rw [hst] at h2
    generalize stsN m y = x at hlt h2
    refine Ev.succ h2 fun n hn => ?_
    show diptychref04_Sum.l1 (n + 1) s (x : Int) (i : Int) (m : Int) = _
    rw [diptychref04_Sum.l1, if_pos (by omega), Int.tmod_eq_emod_of_nonneg (by omega), Int.tdiv_eq_ediv_of_nonneg (by omega), show ((x : Int) / 2) % 4294967296 = ((x / 2 : Nat) : Int) from by omega, show wrap64 ((m : Int) + 1) = ((m + 1 : Nat) : Int) from w64n (by omega) (by omega)]
    unfold stN at hn
    by_cases c : x % 2 = 1
    · rw [if_pos c] at hn
      rw [if_pos (by omega)]
      have := xor32 (x / 2) 3988292384 (by omega) (by decide)
      rw [show ((3988292384 : Nat) : Int) = 3988292384 from rfl] at this
      rw [this]
      exact hn
    · rw [if_neg c] at hn
      rw [if_neg (by omega)]
      exact hn
theorem crcN_take (s : ByteArray) (i : Nat) (hi : i < s.size) (y : Nat) : crcN y ((L s).take (i + 1)) = stsN 8 (crcN y ((L s).take i) ^^^ ((L s).getD i 0).toNat) := by
  rw [take_succ' _ _ (by rw [← size_L]; exact hi) 0, crcN_app]
  rfl
theorem ref_Sum_l0 (s : ByteArray) (hs : s.size ≤ 1099511627776) : ∀ (d i : Nat), i + d = s.size → Ev (fun k => diptychref04_Sum.l0 k s (crcN 4294967295 ((L s).take i) : Int) (i : Int)) (sumN (L s) : Int) := by
  intro d
  induction d with
  | zero =>
    intro i hi
    refine Ev.one fun n => ?_
    have hlt := crcN_lt (L s) (y := 4294967295) (by decide)
    show diptychref04_Sum.l0 (n + 1) s _ _ = _
    rw [diptychref04_Sum.l0, if_neg (by omega), List.take_of_length_le (by rw [← size_L]; omega)]
    have := xor32 (crcN 4294967295 (L s)) 4294967295 hlt (by decide)
    rw [show ((4294967295 : Nat) : Int) = 4294967295 from rfl] at this
    rw [this]
    rfl
  | succ d ih =>
    intro i hi
    have hlt := crcN_lt ((L s).take i) (y := 4294967295) (by decide)
    have hn := ih (i + 1) (by omega)
    rw [crcN_take s i (by omega)] at hn
    have hc := UInt8.toNat_lt ((L s).getD i 0)
    have hb := bt_L s i
    generalize (L s).getD i 0 = c at hn hc hb
    generalize crcN 4294967295 ((L s).take i) = y at hlt hn
    refine Ev.succ (ref_Sum_l1 s (y ^^^ c.toNat) (xor_lt32 hlt (by omega)) i (by omega) _ hn 8 0 (by omega)) fun n hn2 => ?_
    show diptychref04_Sum.l0 (n + 1) s _ _ = _
    rw [diptychref04_Sum.l0, if_pos (by omega), if_pos (by omega), hb, show (c.toNat : Int) % 4294967296 = (c.toNat : Int) from by omega, xor32 _ _ hlt (by omega)]
    exact hn2
theorem ref_Sum_ev (s : ByteArray) (hs : s.size ≤ 1099511627776) : Ev (fun k => diptychref04_Sum.f k s) (sumN (L s) : Int) := ref_Sum_l0 s hs s.size 0 (by omega)
theorem ref_Seal_ev (s : ByteArray) (hs : s.size ≤ 1099511627776) : Ev (fun k => diptychref04_Seal.f k s) (⟨(sealL (L s)).toArray⟩ : ByteArray) :=
  Ev.map (ref_Sum_ev s hs) fun n hn => by
    unfold diptychref04_Seal.f
    rw [hn, Option.bind_some, be4_ints, Option.bind_some, str_len, if_pos (by show s.size + 4 ≤ _; omega), str_ints, seal_app]
theorem ref_Open_ev (s : ByteArray) (hs : s.size ≤ 1099511627776) : Ev (fun k => diptychref04_Open.f k s) (openR s) := by
  unfold openR
  by_cases c : s.size < 4
  · rw [if_pos c]
    refine Ev.two fun n => ?_
    show diptychref04_Open.f (n + 2) s = _
    unfold diptychref04_Open.f
    rw [if_pos (by omega)]
  · rw [if_neg c]
    have hS := ref_Seal_ev (⟨((L s).take (s.size - 4)).toArray⟩ : ByteArray) (by rw [ba_len, List.length_take, ← size_L]; omega)
    rw [mk_L] at hS
    refine Ev.map hS fun n hn => ?_
    unfold diptychref04_Open.f
    rw [if_neg (by omega), show wrap64 ((s.size : Int) - 4) = ((s.size - 4 : Nat) : Int) from w64n (by omega) (by omega), if_pos (by omega), if_pos (by omega), Int.toNat_natCast, extract_head, hn, Option.bind_some, toList_L, toList_L, mk_L]
    by_cases d : sealL ((L s).take (s.size - 4)) = L s
    · rw [if_pos d, if_pos d]
    · rw [if_neg d, if_neg d]
end Go.Proofs.YtgbfbfemmhfcaaaDoor.U
/-! ## LnF -/
namespace Go.Proofs.YtgbfbfemmhfcaaaDoor.U
open Go.RowKit Go.Proofs.YtgbfbfemmhfcaaaDoor Go.Proofs.YtgbfbfemmhfcaaaDoor.P Go.Proofs.YtgbfbfemmhfcaaaDoorW.PrintWords

abbrev dec (u : Nat) : List UInt8 := Lib.decDigits u
theorem dec_one {u : Nat} (h : u < 10) : dec u = [UInt8.ofNat (48 + u)] := by unfold dec; rw [Lib.decDigits, dif_pos h]
theorem dec_more {u : Nat} (h : ¬ u < 10) : dec u = dec (u / 10) ++ [UInt8.ofNat (48 + u % 10)] := by
  show Lib.decDigits u = _
  rw [Lib.decDigits, dif_neg h]
theorem dec_le : ∀ (k u : Nat), u < 10 ^ (k + 1) → (dec u).length ≤ k + 1
  | 0, u, h => by rw [dec_one (by simpa using h)]; exact Nat.le_refl _
  | k + 1, u, h => by
    by_cases c : u < 10
    · rw [dec_one c]; simp
    · rw [dec_more c, List.length_append]
      have := dec_le k (u / 10) (by rw [Nat.pow_succ] at h; omega)
      simp only [List.length_cons, List.length_nil]
      omega
theorem dec_len {u : Nat} (h : u ≤ 2147483647) : (dec u).length ≤ 10 := dec_le 9 u (by omega)
theorem dec_pos (u : Nat) : 1 ≤ (dec u).length := by
  by_cases c : u < 10
  · rw [dec_one c]; exact Nat.le_refl _
  · rw [dec_more c, List.length_append]; simp
theorem dec_byte (v : Nat) (h : v < 10) : strOfNums [(wrap64 (48 + (v : Int))) % 256] = ⟨[UInt8.ofNat (48 + v)].toArray⟩ := by
  have e : [(wrap64 (48 + (v : Int))) % 256] = ints [UInt8.ofNat (48 + v)] := by
    simp only [ints, List.map_cons, List.map_nil]
    rw [u8_ofNat _ (by omega), show wrap64 (48 + (v : Int)) = ((48 + v : Nat) : Int) from w64n (by omega) (by omega)]
    congr 1
    omega
  rw [e, str_ints]
theorem Decimal_l0 : ∀ (d u : Nat) (acc : ByteArray), u ≤ d → u ≤ 2147483647 → acc.size ≤ 1099511627776 - 2 * u → Ev (fun k => diptychref10_Decimal.l0 k (u : Int) acc) (⟨(dec u ++ L acc).toArray⟩ : ByteArray) := by
  intro d
  induction d with
  | zero =>
    intro u acc h0 h1 h2
    obtain rfl : u = 0 := by omega
    refine Ev.one fun n => ?_
    have hb := dec_byte 0 (by omega)
    show diptychref10_Decimal.l0 (n + 1) ((0 : Nat) : Int) acc = _
    rw [diptychref10_Decimal.l0, if_neg (by omega), Option.bind_some, hb, ba_len, if_pos (by simp only [List.length_cons, List.length_nil]; omega)]
    congr 1
    apply ext_L
    rw [append_L, mk_L, mk_L, dec_one (by omega)]
  | succ d ih =>
    intro u acc h0 h1 h2
    by_cases c : u < 10
    · refine Ev.one fun n => ?_
      have hb := dec_byte u c
      show diptychref10_Decimal.l0 (n + 1) (u : Int) acc = _
      rw [diptychref10_Decimal.l0, if_neg (by omega), Option.bind_some, hb, ba_len, if_pos (by simp only [List.length_cons, List.length_nil]; omega)]
      congr 1
      apply ext_L
      rw [append_L, mk_L, mk_L, dec_one c]
    · have hb := dec_byte (u % 10) (by omega)
      have hr := ih (u / 10) ((⟨[UInt8.ofNat (48 + u % 10)].toArray⟩ : ByteArray) ++ acc) (by omega) (by omega) (by rw [size_L, append_L, List.length_append, mk_L, ← size_L]; simp only [List.length_cons, List.length_nil]; omega)
      rw [append_L, mk_L, ← List.append_assoc, ← dec_more c] at hr
      refine Ev.succ hr fun n hn => ?_
      show diptychref10_Decimal.l0 (n + 1) (u : Int) acc = _
      rw [diptychref10_Decimal.l0, if_pos (by omega), Option.bind_some, Int.tmod_eq_emod_of_nonneg (by omega), Int.tdiv_eq_ediv_of_nonneg (by omega), show (u : Int) % 10 = ((u % 10 : Nat) : Int) from by omega, hb, ba_len, if_pos (by simp only [List.length_cons, List.length_nil]; omega), show wrap64 ((u : Int) / 10) = ((u / 10 : Nat) : Int) from w64n (by omega) (by omega)]
      exact hn
/-- a number's digits, as a text -/
def decT (u : Nat) : ByteArray := ⟨(dec u).toArray⟩
theorem Decimal_ev (u : Nat) (h : u ≤ 2147483647) : Ev (fun k => diptychref10_Decimal.f k (u : Int)) (decT u) := by
  have := Decimal_l0 u u (⟨#[]⟩ : ByteArray) (Nat.le_refl _) h (by show 0 ≤ _; omega)
  rw [show L (⟨#[]⟩ : ByteArray) = [] from rfl, List.append_nil] at this
  exact this
theorem Itoa_f (u : Nat) (h : u ≤ 2147483647) : strconv_Itoa_26.f (u : Int) = some (decT u) := by
  unfold strconv_Itoa_26.f
  rw [if_pos (by omega), Lib.itoa_nonneg]
  rfl
theorem decT_size {u : Nat} (h : u ≤ 2147483647) : (decT u).size ≤ 10 := by unfold decT; rw [ba_len]; exact dec_len h
/-! ### digits read -/
theorem decFrom_app (c : UInt8) (d : Nat) (hd : Lib.digitVal c = some d) : ∀ (l : List UInt8) (acc m : Nat), Lib.decFrom acc l = some m → Lib.decFrom acc (l ++ [c]) = some (m * 10 + d)
  | [], acc, m, h => by
    simp only [Lib.decFrom, Option.some.injEq] at h
    subst h
    simp only [List.nil_append, Lib.decFrom, hd]
  | b :: r, acc, m, h => by
    simp only [Lib.decFrom, List.cons_append] at h ⊢
    cases e : Lib.digitVal b with
    | none => rw [e] at h; cases h
    | some x => rw [e] at h; exact decFrom_app c d hd r _ m h
theorem digit_val (v : Nat) (h : v < 10) : Lib.digitVal (UInt8.ofNat (48 + v)) = some v := by
  unfold Lib.digitVal
  rw [u8_ofNat _ (by omega), if_pos ⟨by omega, by omega⟩]
  congr 1
  omega
theorem decFrom_dec : ∀ (d u : Nat), u ≤ d → Lib.decFrom 0 (dec u) = some u := by
  intro d
  induction d with
  | zero =>
    intro u h
    obtain rfl : u = 0 := by omega
    rw [dec_one (by omega)]
    rfl
  | succ d ih =>
    intro u h
    by_cases c : u < 10
    · rw [dec_one c]
      have := decFrom_app (UInt8.ofNat (48 + u)) u (digit_val u c) [] 0 0 rfl
      simpa using this
    · rw [dec_more c, decFrom_app _ (u % 10) (digit_val _ (by omega)) _ 0 (u / 10) (ih (u / 10) (by omega))]
      congr 1
      omega
/-- A number's digits are its own number's, by strconv.Atoi .. -/
theorem numV_dec (u : Nat) (h : u ≤ 2147483647) : numV (decT u) = (u : Int) := by
  have hl := dec_len h
  have hd := decFrom_dec u u (Nat.le_refl _)
  have ha : Lib.atoiAll (dec u) = .ok (u : Int) := by
    rw [Lib.atoiAll_short _ (by omega)]
    cases e : dec u with
    | nil => have := dec_pos u; rw [e] at this; simp at this
    | cons b r =>
      rw [e] at hd
      have hv : ∃ x, Lib.digitVal b = some x := by
        cases q : Lib.digitVal b with
        | none => rw [Lib.decFrom, q] at hd; cases hd
        | some x => exact ⟨x, rfl⟩
      obtain ⟨x, hv⟩ := hv
      have hb := Lib.digitVal_eq hv
      have n45 : ¬ (b == 45) = true := by rw [beq_iff_eq]; intro h; rw [h] at hb; exact absurd hb.1 (by decide)
      have n43 : ¬ (b == 43) = true := by rw [beq_iff_eq]; intro h; rw [h] at hb; exact absurd hb.1 (by decide)
      rw [Lib.atoi, if_neg n45, if_neg n43, Lib.decNat, if_neg (by simp), hd]
      rfl
  unfold numV
  rw [show (decT u).data.toList = dec u from rfl, ha]
/-- .. and by the reference's number -/
def numF : Nat → List UInt8 → Int
  | n, [] => n
  | n, c :: l => if c.toNat < 48 ∨ 57 < c.toNat then -1 else numF (n * 10 + (c.toNat - 48)) l
def numL (s : ByteArray) : Int := if s.size < 1 ∨ 10 < s.size then -1 else numF 0 (L s)
theorem numF_dec : ∀ (l : List UInt8) (n m : Nat), Lib.decFrom n l = some m → numF n l = m
  | [], n, m, h => by simp only [Lib.decFrom, Option.some.injEq] at h; subst h; rfl
  | b :: r, n, m, h => by
    simp only [Lib.decFrom] at h
    cases e : Lib.digitVal b with
    | none => rw [e] at h; cases h
    | some x =>
      rw [e] at h
      have hb := Lib.digitVal_eq e
      simp only [numF]
      rw [if_neg (by omega), ← hb.2.2]
      exact numF_dec r _ m h
theorem numL_dec (u : Nat) (h : u ≤ 2147483647) : numL (decT u) = (u : Int) := by
  have hl := dec_len h
  have hp := dec_pos u
  unfold numL
  have hs : (decT u).size = (dec u).length := ba_len _
  rw [if_neg (by omega)]
  exact numF_dec _ _ _ (decFrom_dec u u (Nat.le_refl _))
theorem number_l0 (s : ByteArray) (hs : s.size ≤ 10) : ∀ (d i n : Nat), i + d = s.size → n < 10 ^ i → Ev (fun k => diptychref27_number.l0 k s (n : Int) (i : Int)) (numF n ((L s).drop i)) := by
  intro d
  induction d with
  | zero =>
    intro i n hi hn
    refine Ev.one fun k => ?_
    show diptychref27_number.l0 (k + 1) s _ _ = _
    rw [diptychref27_number.l0, if_neg (by omega), List.drop_of_length_le (by rw [← size_L]; omega)]
    rfl
  | succ d ih =>
    intro i n hi hn
    have hL : i < (L s).length := by rw [← size_L]; omega
    have hb := bt_L s i
    have hc := UInt8.toNat_lt ((L s).getD i 0)
    rw [drop_cons' _ _ hL 0]
    have hp : (10 : Nat) ^ i ≤ 10 ^ 9 := Nat.pow_le_pow_right (by decide) (by omega)
    generalize (L s).getD i 0 = c at hb hc
    by_cases h : c.toNat < 48 ∨ 57 < c.toNat
    · refine Ev.one fun k => ?_
      show diptychref27_number.l0 (k + 1) s _ _ = _
      rw [diptychref27_number.l0, if_pos (by omega), if_pos (by omega), hb, numF, if_pos h]
      by_cases h2 : c.toNat < 48
      · rw [if_pos (by omega)]
      · rw [if_neg (by omega), if_pos (by omega)]
    · refine Ev.succ (r := numF n (c :: (L s).drop (i + 1))) (by rw [numF, if_neg h]; exact ih (i + 1) (n * 10 + (c.toNat - 48)) (by omega) (by rw [Nat.pow_succ]; omega)) fun k hk => ?_
      show diptychref27_number.l0 (k + 1) s _ _ = _
      rw [diptychref27_number.l0, if_pos (by omega), if_pos (by omega), hb, if_neg (by omega), if_neg (by omega), show wrap64 ((n : Int) * 10) = ((n * 10 : Nat) : Int) from w64n (by omega) (by omega), show wrap64 (((n * 10 : Nat) : Int) + ((c.toNat : Int) - 48) % 256) = ((n * 10 + (c.toNat - 48) : Nat) : Int) from w64n (by omega) (by omega), show wrap64 ((i : Int) + 1) = ((i + 1 : Nat) : Int) from w64n (by omega) (by omega)]
      exact hk
theorem number_ev (s : ByteArray) : Ev (fun k => diptychref27_number.f k s) (numL s) := by
  unfold numL
  by_cases h1 : s.size < 1
  · rw [if_pos (.inl h1)]
    refine Ev.one fun k => ?_
    show diptychref27_number.f (k + 1) s = _
    unfold diptychref27_number.f
    rw [if_pos (by omega), diptychref27_number.j0, if_pos rfl]
  · by_cases h2 : 10 < s.size
    · rw [if_pos (.inr h2)]
      refine Ev.one fun k => ?_
      show diptychref27_number.f (k + 1) s = _
      unfold diptychref27_number.f
      rw [if_neg (by omega), show decide ((s.size : Int) > 10) = true from decide_eq_true (by omega), diptychref27_number.j0, if_pos rfl]
    · rw [if_neg (by omega)]
      refine Ev.succ (number_l0 s (by omega) s.size 0 0 (by omega) (by decide)) fun k hk => ?_
      show diptychref27_number.f (k + 1) s = _
      unfold diptychref27_number.f
      rw [if_neg (by omega), show decide ((s.size : Int) > 10) = false from decide_eq_false (by omega), diptychref27_number.j0, if_neg (by decide)]
      exact hk
end Go.Proofs.YtgbfbfemmhfcaaaDoor.U
/-! ## LnG -/
namespace Go.Proofs.YtgbfbfemmhfcaaaDoor.U
open Go.RowKit Go.Proofs.YtgbfbfemmhfcaaaDoor Go.Proofs.YtgbfbfemmhfcaaaDoor.P Go.Proofs.YtgbfbfemmhfcaaaDoorW.PrintWords

def decs (a b c : Int) : List ByteArray := [decT a.toNat, decT b.toNat, decT c.toNat]
/-- what is wrong with a message; 0: nothing -/
def okM (a b c : Int) (l : List ByteArray) : Int := if a < 1 ∨ 8 < a then 4 else if b < 0 ∨ c < 0 ∨ 2147483647 < b ∨ 2147483647 < c then 1 else if 4096 < l.length then 9 else if longs l = true then 9 else 0
def printR (a b c : Int) (l : List ByteArray) : ByteArray × Int := if okM a b c l = 0 then (⟨(sealL (putL (decs a b c ++ l))).toArray⟩, 0) else (⟨#[]⟩, okM a b c l)
theorem longs_decs (a b c : Int) (l : List ByteArray) (ha : a ≤ 8) (hb : b ≤ 2147483647) (hc : c ≤ 2147483647) : longs (decs a b c ++ l) = longs l := by
  have f : ∀ x : Int, x ≤ 2147483647 → decide ((65000 : Int) < ((decT x.toNat).size : Int)) = false := by
    intro x hx
    have := decT_size (u := x.toNat) (by omega)
    exact decide_eq_false (by omega)
  unfold longs decs
  rw [List.any_append, List.any_cons, List.any_cons, List.any_cons, f a (by omega), f b hb, f c hc]
  rfl
theorem putL_decs (a b c : Int) (l : List ByteArray) (ha : a ≤ 8) (hb : b ≤ 2147483647) (hc : c ≤ 2147483647) : (putL (decs a b c ++ l)).length ≤ 42 + (putL l).length := by
  have h1 := decT_size (u := a.toNat) (by omega)
  have h2 := decT_size (u := b.toNat) (by omega)
  have h3 := decT_size (u := c.toNat) (by omega)
  show (putL (decT a.toNat :: decT b.toNat :: decT c.toNat :: l)).length ≤ _
  simp only [putL, List.length_append, lenB_length, ← size_L]
  omega
theorem putL_len_le (l : List ByteArray) : l.length ≤ (putL l).length := by
  induction l with
  | nil => exact Nat.zero_le _
  | cons s l ih => simp only [putL, List.length_append, lenB_length, List.length_cons]; omega
theorem seal_len (l : List UInt8) : (sealL l).length = l.length + 4 := by unfold sealL; rw [List.length_append]; rfl
/-- the text, or what is wrong -/
theorem printR_cases (a b c : Int) (l : List ByteArray) : (a < 1 ∨ 8 < a) ∧ printR a b c l = (⟨#[]⟩, 4) ∨ (1 ≤ a ∧ a ≤ 8) ∧ (b < 0 ∨ c < 0 ∨ 2147483647 < b ∨ 2147483647 < c) ∧ printR a b c l = (⟨#[]⟩, 1) ∨ (1 ≤ a ∧ a ≤ 8) ∧ (0 ≤ b ∧ 0 ≤ c ∧ b ≤ 2147483647 ∧ c ≤ 2147483647) ∧ (4096 < l.length ∧ printR a b c l = (⟨#[]⟩, 9) ∨ l.length ≤ 4096 ∧ (longs l = true ∧ printR a b c l = (⟨#[]⟩, 9) ∨ longs l = false ∧ printR a b c l = (⟨(sealL (putL (decs a b c ++ l))).toArray⟩, 0))) := by
  unfold printR okM
  by_cases h1 : a < 1 ∨ 8 < a
  · exact .inl ⟨h1, by rw [if_pos h1, if_neg (by decide)]⟩
  · rw [if_neg h1]
    refine .inr ?_
    by_cases h2 : b < 0 ∨ c < 0 ∨ 2147483647 < b ∨ 2147483647 < c
    · exact .inl ⟨⟨by omega, by omega⟩, h2, by rw [if_pos h2, if_neg (by decide)]⟩
    · rw [if_neg h2]
      refine .inr ⟨⟨by omega, by omega⟩, ⟨by omega, by omega, by omega, by omega⟩, ?_⟩
      by_cases h3 : 4096 < l.length
      · exact .inl ⟨h3, by rw [if_pos h3, if_neg (by decide)]⟩
      · rw [if_neg h3]
        refine .inr ⟨by omega, ?_⟩
        by_cases h4 : longs l = true
        · exact .inl ⟨h4, by rw [if_pos h4, if_neg (by decide)]⟩
        · exact .inr ⟨by simpa using h4, by rw [if_neg h4, if_pos rfl]⟩
theorem mn_neg (b c : Int) : (mn b c < 0) ↔ (b < 0 ∨ c < 0) := by unfold mn; split <;> omega
theorem mx_big (b c : Int) : (mx b c > 2147483647) ↔ (2147483647 < b ∨ 2147483647 < c) := by unfold mx; split <;> omega
theorem line_Print_ev (a b c : Int) (l : List ByteArray) (hs : (putL l).length ≤ 549755813888) : Ev (fun k => line_Print.f k a b c l) (printR a b c l) := by
  rcases printR_cases a b c l with ⟨h1, e⟩ | ⟨h1, h2, e⟩ | ⟨h1, h2, h3⟩
  · rw [e]
    refine Ev.one fun n => ?_
    show line_Print.f (n + 1) a b c l = _
    unfold line_Print.f
    by_cases h : a < 1
    · rw [if_pos h, line_Print.j0, if_pos rfl]
    · rw [if_neg h, show decide (a > 8) = true from decide_eq_true (by omega), line_Print.j0, if_pos rfl]
  · rw [e]
    refine Ev.two fun n => ?_
    show line_Print.f (n + 2) a b c l = _
    unfold line_Print.f
    rw [if_neg (by omega), show decide (a > 8) = false from decide_eq_false (by omega), line_Print.j0, if_neg (by decide)]
    by_cases h : mn b c < 0
    · rw [if_pos h, line_Print.j1, if_pos rfl]
    · have h4 := mn_neg b c
      have h5 := mx_big b c
      rw [if_neg h, show decide (mx b c > 2147483647) = true from decide_eq_true (h5.2 (by have := fun q => h (h4.2 q); omega)), line_Print.j1, if_pos rfl]
  · have hA : ∀ n, line_Print.f (n + 2) a b c l = line_Print.j1 (n + 1) false a b c l := by
      intro n
      have h4 := mn_neg b c
      have h5 := mx_big b c
      unfold line_Print.f
      rw [if_neg (by omega), show decide (a > 8) = false from decide_eq_false (by omega), line_Print.j0, if_neg (by decide), if_neg (fun q => by have := h4.1 q; omega), show decide (mx b c > 2147483647) = false from decide_eq_false (fun q => by have := h5.1 q; omega)]
    rcases h3 with ⟨h3, e⟩ | ⟨h3, h4⟩
    · rw [e]
      refine Ev.two fun n => ?_
      show line_Print.f (n + 2) a b c l = _
      rw [hA, line_Print.j1, if_neg (by decide), if_pos (by omega)]
    · have hlen := putL_decs a b c l h1.2 h2.2.2.1 h2.2.2.2
      have hP := line_Put_ev (decs a b c ++ l) (by rw [List.length_append]; show 3 + l.length ≤ _; omega) (by omega)
      have hbody : ∀ n p, line_Put.f n (decs a b c ++ l) = some p → line_Print.f (n + 2) a b c l = if p.2 = 0 then (crc_Seal.f n p.1).bind fun t => some (t, 0) else some ((⟨#[]⟩ : ByteArray), p.2) := by
        intro n p hp
        rw [hA, line_Print.j1, if_neg (by decide), if_neg (by omega), show a = ((a.toNat : Nat) : Int) from by omega, show b = ((b.toNat : Nat) : Int) from by omega, show c = ((c.toNat : Nat) : Int) from by omega, Itoa_f _ (by omega), Itoa_f _ (by omega), Itoa_f _ (by omega), Option.bind_some, Option.bind_some, Option.bind_some, Option.bind_some, if_pos (by show 3 + l.length < _; omega), show [decT a.toNat, decT b.toNat, decT c.toNat] ++ l = decs a b c ++ l from rfl, hp, Option.bind_some]
      rcases h4 with ⟨h4, e⟩ | ⟨h4, e⟩
      · rw [e]
        rw [putR, longs_decs a b c l h1.2 h2.2.2.1 h2.2.2.2, if_pos h4] at hP
        obtain ⟨K, hK⟩ := hP
        refine ⟨K + 2, fun n hn => ?_⟩
        obtain ⟨m, rfl⟩ : ∃ m, n = m + 2 := ⟨n - 2, by omega⟩
        show line_Print.f (m + 2) a b c l = _
        rw [hbody m _ (hK m (by omega)), if_neg (by decide)]
      · rw [e]
        rw [putR, longs_decs a b c l h1.2 h2.2.2.1 h2.2.2.2, if_neg (by rw [h4]; decide)] at hP
        have hS := crc_Seal_ev (⟨(putL (decs a b c ++ l)).toArray⟩ : ByteArray) (by rw [ba_len]; omega)
        obtain ⟨K, hK⟩ := Ev.and hP hS
        refine ⟨K + 2, fun n hn => ?_⟩
        obtain ⟨m, rfl⟩ : ∃ m, n = m + 2 := ⟨n - 2, by omega⟩
        show line_Print.f (m + 2) a b c l = _
        rw [hbody m _ (hK m (by omega)).1, if_pos rfl, (hK m (by omega)).2, Option.bind_some]
theorem ref_Print_ev (a b c : Int) (l : List ByteArray) (hs : (putL l).length ≤ 549755813888) : Ev (fun k => diptychref27_Print.f k a b c l) (printR a b c l) := by
  rcases printR_cases a b c l with ⟨h1, e⟩ | ⟨h1, h2, e⟩ | ⟨h1, h2, h3⟩
  · rw [e]
    refine Ev.one fun n => ?_
    show diptychref27_Print.f (n + 1) a b c l = _
    unfold diptychref27_Print.f
    by_cases h : a < 1
    · rw [if_pos h, diptychref27_Print.j0, if_pos rfl]
    · rw [if_neg h, show decide (a > 8) = true from decide_eq_true (by omega), diptychref27_Print.j0, if_pos rfl]
  · rw [e]
    refine Ev.two fun n => ?_
    show diptychref27_Print.f (n + 2) a b c l = _
    unfold diptychref27_Print.f
    rw [if_neg (by omega), show decide (a > 8) = false from decide_eq_false (by omega), diptychref27_Print.j0, if_neg (by decide)]
    by_cases g1 : b < 0
    · rw [if_pos g1, diptychref27_Print.j1, if_pos rfl]
    · rw [if_neg g1]
      by_cases g2 : b > 2147483647
      · rw [if_pos g2, diptychref27_Print.j1, if_pos rfl]
      · rw [if_neg g2]
        by_cases g3 : c < 0
        · rw [if_pos g3, diptychref27_Print.j1, if_pos rfl]
        · rw [if_neg g3, show decide (c > 2147483647) = true from decide_eq_true (by omega), diptychref27_Print.j1, if_pos rfl]
  · have hA : ∀ n, diptychref27_Print.f (n + 2) a b c l = diptychref27_Print.j1 (n + 1) false a b c l := by
      intro n
      unfold diptychref27_Print.f
      rw [if_neg (by omega), show decide (a > 8) = false from decide_eq_false (by omega), diptychref27_Print.j0, if_neg (by decide), if_neg (by omega), if_neg (by omega), if_neg (by omega), show decide (c > 2147483647) = false from decide_eq_false (by omega)]
    rcases h3 with ⟨h3, e⟩ | ⟨h3, h4⟩
    · rw [e]
      refine Ev.two fun n => ?_
      show diptychref27_Print.f (n + 2) a b c l = _
      rw [hA, diptychref27_Print.j1, if_neg (by decide), if_pos (by omega)]
    · have hlen := putL_decs a b c l h1.2 h2.2.2.1 h2.2.2.2
      have hP := ref_Put_ev (decs a b c ++ l) (by rw [List.length_append]; show 3 + l.length ≤ _; omega) (by omega)
      have hbody : ∀ n p, diptychref10_Decimal.f n (a.toNat : Int) = some (decT a.toNat) → diptychref10_Decimal.f n (b.toNat : Int) = some (decT b.toNat) → diptychref10_Decimal.f n (c.toNat : Int) = some (decT c.toNat) → diptychref27_Put.f n (decs a b c ++ l) = some p → diptychref27_Print.f (n + 2) a b c l = if p.2 = 0 then (diptychref04_Seal.f n p.1).bind fun t => some (t, 0) else some ((⟨#[]⟩ : ByteArray), p.2) := by
        intro n p d1 d2 d3 hp
        rw [show ((a.toNat : Nat) : Int) = a from by omega] at d1
        rw [show ((b.toNat : Nat) : Int) = b from by omega] at d2
        rw [show ((c.toNat : Nat) : Int) = c from by omega] at d3
        rw [hA, diptychref27_Print.j1, if_neg (by decide), if_neg (by omega), d1, d2, d3, Option.bind_some, Option.bind_some, Option.bind_some, Option.bind_some, if_pos (by show 3 + l.length < _; omega), show [decT a.toNat, decT b.toNat, decT c.toNat] ++ l = decs a b c ++ l from rfl, hp, Option.bind_some]
      have hD1 := Decimal_ev a.toNat (by omega)
      have hD2 := Decimal_ev b.toNat (by omega)
      have hD3 := Decimal_ev c.toNat (by omega)
      obtain ⟨K1, hK1⟩ := Ev.and hD1 hD2
      obtain ⟨K2, hK2⟩ := Ev.get hD3
      rcases h4 with ⟨h4, e⟩ | ⟨h4, e⟩
      · rw [e]
        rw [putR, longs_decs a b c l h1.2 h2.2.2.1 h2.2.2.2, if_pos h4] at hP
        obtain ⟨K, hK⟩ := hP
        refine ⟨K + K1 + K2 + 2, fun n hn => ?_⟩
        obtain ⟨m, rfl⟩ : ∃ m, n = m + 2 := ⟨n - 2, by omega⟩
        show diptychref27_Print.f (m + 2) a b c l = _
        rw [hbody m _ (hK1 m (by omega)).1 (hK1 m (by omega)).2 (hK2 m (by omega)) (hK m (by omega)), if_neg (by decide)]
      · rw [e]
        rw [putR, longs_decs a b c l h1.2 h2.2.2.1 h2.2.2.2, if_neg (by rw [h4]; decide)] at hP
        have hS := ref_Seal_ev (⟨(putL (decs a b c ++ l)).toArray⟩ : ByteArray) (by rw [ba_len]; omega)
        obtain ⟨K, hK⟩ := Ev.and hP hS
        refine ⟨K + K1 + K2 + 2, fun n hn => ?_⟩
        obtain ⟨m, rfl⟩ : ∃ m, n = m + 2 := ⟨n - 2, by omega⟩
        show diptychref27_Print.f (m + 2) a b c l = _
        rw [hbody m _ (hK1 m (by omega)).1 (hK1 m (by omega)).2 (hK2 m (by omega)) (hK m (by omega)).1, if_pos rfl, (hK m (by omega)).2, Option.bind_some]
end Go.Proofs.YtgbfbfemmhfcaaaDoor.U
/-! ## LnH -/
namespace Go.Proofs.YtgbfbfemmhfcaaaDoor.U
open Go.RowKit Go.Proofs.YtgbfbfemmhfcaaaDoor Go.Proofs.YtgbfbfemmhfcaaaDoor.P Go.Proofs.YtgbfbfemmhfcaaaDoorW.PrintWords

theorem takeL_size : ∀ (n : Nat) (out : List ByteArray) (s : List UInt8), (putB (takeL n out s).1).length ≤ (putB out).length + s.length
  | 0, _, _ => by simp only [takeL, putB, List.length_nil]; omega
  | n + 1, out, s => by
    rw [takeL]
    cases h : headL s with
    | inr e => simp only [putB, List.length_nil]; omega
    | inl m =>
      cases m with
      | zero => simp only; omega
      | succ m =>
        have hp := headL_pos h (by omega)
        simp only
        have := takeL_size n (out ++ [⟨((s.take (m + 1)).drop 4).toArray⟩]) (s.drop (m + 1))
        rw [putB_append, List.length_append, List.length_drop] at this
        have e : (putB [(⟨((s.take (m + 1)).drop 4).toArray⟩ : ByteArray)]).length = m + 1 := by
          simp only [putB, List.length_append, lenB_length, List.append_nil, mk_L, List.length_drop, List.length_take]
          omega
        rw [e] at this
        omega
theorem mem_size : ∀ (l : List ByteArray) (x : ByteArray), x ∈ l → x.size ≤ (putB l).length
  | s :: l, x, h => by
    simp only [putB, List.length_append, lenB_length, ← size_L]
    rcases List.mem_cons.1 h with rfl | h
    · omega
    · have := mem_size l x h; omega
theorem putB_drop (l : List ByteArray) (n : Nat) : (putB (l.drop n)).length ≤ (putB l).length := by
  have : putB l = putB (l.take n) ++ putB (l.drop n) := by rw [← putB_append, List.take_append_drop]
  rw [this, List.length_append]
  omega
abbrev MsgR := Int × Int × Int × List ByteArray × Int
def bad (e : Int) : MsgR := (0, 0, 0, [], e)
def tailG (g : ByteArray → Int) (s : ByteArray) (ls : List ByteArray) : MsgR :=
  if (printR (g (ls.getD 0 ByteArray.empty)) (g (ls.getD 1 ByteArray.empty)) (g (ls.getD 2 ByteArray.empty)) (ls.drop 3)).2 = 0 ∧ (printR (g (ls.getD 0 ByteArray.empty)) (g (ls.getD 1 ByteArray.empty)) (g (ls.getD 2 ByteArray.empty)) (ls.drop 3)).1.toList = s.toList then (g (ls.getD 0 ByteArray.empty), g (ls.getD 1 ByteArray.empty), g (ls.getD 2 ByteArray.empty), ls.drop 3, 0) else bad 3
def parseG (g : ByteArray → Int) (s : ByteArray) : MsgR :=
  if (openR s).2 = 0 then (if (takeR (openR s).1).2.2 = 0 ∧ 3 ≤ (takeR (openR s).1).1.length then tailG g s (takeR (openR s).1).1 else bad 3) else bad (openR s).2
theorem openR_size (s : ByteArray) : (openR s).1.size ≤ s.size := by
  unfold openR
  split
  · exact Nat.zero_le _
  · split
    · rw [ba_len, List.length_take, ← size_L]; omega
    · exact Nat.zero_le _
theorem takeR_size (s : ByteArray) : (putB (takeR s).1).length ≤ s.size := by
  have := takeL_size (s.size + 1) [] (L s)
  rw [← size_L] at this
  show (putB (takeL (s.size + 1) [] (L s)).1).length ≤ _
  simpa [putB] using this
theorem line_Parse_ev (s : ByteArray) (hs : s.size ≤ 1073741824) : Ev (fun k => line_Parse.f k s) (parseG numV s) := by
  have hO := crc_Open_ev s (by omega)
  have ho := openR_size s
  unfold parseG
  by_cases c1 : (openR s).2 = 0
  · rw [if_pos c1]
    have hT := line_Take_ev (openR s).1 (by omega)
    have ht := takeR_size (openR s).1
    by_cases c2 : (takeR (openR s).1).2.2 = 0 ∧ 3 ≤ (takeR (openR s).1).1.length
    · rw [if_pos c2]
      generalize hls : (takeR (openR s).1).1 = ls at ht c2
      have hd := putB_drop ls 3
      have hP := line_Print_ev (numV (ls.getD 0 ByteArray.empty)) (numV (ls.getD 1 ByteArray.empty)) (numV (ls.getD 2 ByteArray.empty)) (ls.drop 3) (by rw [putB_len]; omega)
      obtain ⟨K1, hK1⟩ := Ev.and hO hT
      obtain ⟨K2, hK2⟩ := Ev.get hP
      refine ⟨K1 + K2, fun n hn => ?_⟩
      show line_Parse.f n s = _
      unfold line_Parse.f
      rw [(hK1 n (by omega)).1, Option.bind_some, if_pos c1, (hK1 n (by omega)).2, Option.bind_some, if_pos (by rw [hls]; exact c2), hls]
      unfold parseB
      rw [if_pos (fun x hx => by have := mem_size ls x hx; omega), show numAt ls 0 = numV (ls.getD 0 ByteArray.empty) from rfl, show numAt ls 1 = numV (ls.getD 1 ByteArray.empty) from rfl, show numAt ls 2 = numV (ls.getD 2 ByteArray.empty) from rfl, hK2 n (by omega), Option.bind_some]
      unfold tailG
      split
      · rfl
      · rfl
    · rw [if_neg c2]
      obtain ⟨K1, hK1⟩ := Ev.and hO hT
      refine ⟨K1, fun n hn => ?_⟩
      show line_Parse.f n s = _
      unfold line_Parse.f
      rw [(hK1 n (by omega)).1, Option.bind_some, if_pos c1, (hK1 n (by omega)).2, Option.bind_some, if_neg c2]
      rfl
  · rw [if_neg c1]
    obtain ⟨K1, hK1⟩ := Ev.get hO
    refine ⟨K1, fun n hn => ?_⟩
    show line_Parse.f n s = _
    unfold line_Parse.f
    rw [hK1 n hn, Option.bind_some, if_neg c1]
    rfl
theorem ref_Parse_ev (s : ByteArray) (hs : s.size ≤ 1073741824) : Ev (fun k => diptychref27_Parse.f k s) (parseG numL s) := by
  have hO := ref_Open_ev s (by omega)
  have ho := openR_size s
  unfold parseG
  by_cases c1 : (openR s).2 = 0
  · rw [if_pos c1]
    have hT := ref_Take_ev (openR s).1 (by omega)
    have ht := takeR_size (openR s).1
    by_cases c2 : (takeR (openR s).1).2.2 = 0 ∧ 3 ≤ (takeR (openR s).1).1.length
    · rw [if_pos c2]
      generalize hls : (takeR (openR s).1).1 = ls at ht c2
      have hd := putB_drop ls 3
      have hP := ref_Print_ev (numL (ls.getD 0 ByteArray.empty)) (numL (ls.getD 1 ByteArray.empty)) (numL (ls.getD 2 ByteArray.empty)) (ls.drop 3) (by rw [putB_len]; omega)
      obtain ⟨K1, hK1⟩ := Ev.and hO hT
      obtain ⟨K2, hK2⟩ := Ev.get hP
      obtain ⟨K3, hK3⟩ := Ev.and (number_ev (ls.getD 0 ByteArray.empty)) (number_ev (ls.getD 1 ByteArray.empty))
      obtain ⟨K4, hK4⟩ := Ev.get (number_ev (ls.getD 2 ByteArray.empty))
      refine ⟨K1 + K2 + K3 + K4, fun n hn => ?_⟩
      show diptychref27_Parse.f n s = _
      unfold diptychref27_Parse.f
      rw [(hK1 n (by omega)).1, Option.bind_some, if_pos c1, (hK1 n (by omega)).2, Option.bind_some, if_pos (by rw [hls]; exact c2), hls]
      unfold refParseB
      rw [show rdOf ByteArray.empty ls 0 = ls.getD 0 ByteArray.empty from rfl, show rdOf ByteArray.empty ls 1 = ls.getD 1 ByteArray.empty from rfl, show rdOf ByteArray.empty ls 2 = ls.getD 2 ByteArray.empty from rfl, (hK3 n (by omega)).1, Option.bind_some, (hK3 n (by omega)).2, Option.bind_some, hK4 n (by omega), Option.bind_some, hK2 n (by omega), Option.bind_some]
      unfold tailG
      split
      · rfl
      · rfl
    · rw [if_neg c2]
      obtain ⟨K1, hK1⟩ := Ev.and hO hT
      refine ⟨K1, fun n hn => ?_⟩
      show diptychref27_Parse.f n s = _
      unfold diptychref27_Parse.f
      rw [(hK1 n (by omega)).1, Option.bind_some, if_pos c1, (hK1 n (by omega)).2, Option.bind_some, if_neg c2]
      rfl
  · rw [if_neg c1]
    obtain ⟨K1, hK1⟩ := Ev.get hO
    refine ⟨K1, fun n hn => ?_⟩
    show diptychref27_Parse.f n s = _
    unfold diptychref27_Parse.f
    rw [hK1 n hn, Option.bind_some, if_neg c1]
    rfl
/-! ### the laws -/
def Gives (g : ByteArray → Int) : Prop := ∀ u : Nat, u ≤ 2147483647 → g (decT u) = (u : Int)
theorem gives_V : Gives numV := fun u h => numV_dec u h
theorem gives_L : Gives numL := fun u h => numL_dec u h
theorem openR_seal (p : List UInt8) : openR (⟨(sealL p).toArray⟩ : ByteArray) = (⟨p.toArray⟩, 0) := by
  unfold openR
  have e : (sealL p).take (p.length + 4 - 4) = p := by
    unfold sealL
    rw [Nat.add_sub_cancel, List.take_left]
  rw [ba_len, seal_len, mk_L, if_neg (by omega), e, if_pos rfl]
theorem openR_ok {s : ByteArray} (h : (openR s).2 = 0) : s = ⟨(sealL (L (openR s).1)).toArray⟩ := by
  unfold openR at h ⊢
  split at h
  · cases h
  · rename_i c
    rw [if_neg c]
    split at h
    · rename_i d
      rw [if_pos d]
      apply ext_L
      rw [mk_L, mk_L, d]
    · cases h
theorem lim_decs (a b c : Int) (l : List ByteArray) (ha : a ≤ 8) (hb : b ≤ 2147483647) (hc : c ≤ 2147483647) (hl : longs l = false) : Lim (decs a b c ++ l) := (longs_lim _).1 (by rw [longs_decs a b c l ha hb hc]; exact hl)
theorem takeR_put (l : List ByteArray) (hl : Lim l) (r : List UInt8) : takeR (⟨(putL l ++ r).toArray⟩ : ByteArray) = (l, ⟨r.toArray⟩, 0) := by
  unfold takeR
  rw [mk_L, take_put l hl r [] _ (by rw [ba_len]; omega), List.nil_append]
/-- A message that can be printed. -/
def Fine (a b c : Int) (l : List ByteArray) : Prop := (1 ≤ a ∧ a ≤ 8) ∧ (0 ≤ b ∧ 0 ≤ c ∧ b ≤ 2147483647 ∧ c ≤ 2147483647) ∧ l.length ≤ 4096 ∧ longs l = false
def textM (a b c : Int) (l : List ByteArray) : ByteArray := ⟨(sealL (putL (decs a b c ++ l))).toArray⟩
theorem printR_fine {a b c : Int} {l : List ByteArray} (h : Fine a b c l) : printR a b c l = (textM a b c l, 0) := by
  obtain ⟨h1, h2, h3, h4⟩ := h
  rcases printR_cases a b c l with ⟨q, _⟩ | ⟨_, q, _⟩ | ⟨_, _, q⟩
  · omega
  · omega
  · rcases q with ⟨q, _⟩ | ⟨_, q⟩
    · omega
    · rcases q with ⟨q, _⟩ | ⟨_, e⟩
      · rw [h4] at q; cases q
      · exact e
theorem printR_not {a b c : Int} {l : List ByteArray} (h : ¬ Fine a b c l) : (printR a b c l).2 ≠ 0 ∧ (printR a b c l).1 = ⟨#[]⟩ := by
  rcases printR_cases a b c l with ⟨_, e⟩ | ⟨_, _, e⟩ | ⟨h1, h2, q⟩
  · rw [e]; exact ⟨by decide, rfl⟩
  · rw [e]; exact ⟨by decide, rfl⟩
  · rcases q with ⟨_, e⟩ | ⟨h3, q⟩
    · rw [e]; exact ⟨by decide, rfl⟩
    · rcases q with ⟨_, e⟩ | ⟨h4, _⟩
      · rw [e]; exact ⟨by decide, rfl⟩
      · exact absurd ⟨h1, h2, h3, h4⟩ h
theorem fine_of {a b c : Int} {l : List ByteArray} (h : (printR a b c l).2 = 0) : Fine a b c l :=
  Classical.byContradiction fun n => (printR_not n).1 h
theorem parse_print (g : ByteArray → Int) (hg : Gives g) {a b c : Int} {l : List ByteArray} (h : Fine a b c l) : parseG g (textM a b c l) = (a, b, c, l, 0) := by
  have hp := printR_fine h
  obtain ⟨h1, h2, h3, h4⟩ := h
  unfold parseG
  have ht := takeR_put (decs a b c ++ l) (lim_decs a b c l h1.2 h2.2.2.1 h2.2.2.2 h4) []
  rw [List.append_nil] at ht
  rw [show openR (textM a b c l) = _ from openR_seal _, if_pos rfl]
  show (if (takeR (⟨(putL (decs a b c ++ l)).toArray⟩ : ByteArray)).2.2 = 0 ∧ 3 ≤ (takeR (⟨(putL (decs a b c ++ l)).toArray⟩ : ByteArray)).1.length then tailG g (textM a b c l) (takeR (⟨(putL (decs a b c ++ l)).toArray⟩ : ByteArray)).1 else bad 3) = _
  rw [ht, if_pos ⟨rfl, by show 3 ≤ (decs a b c ++ l).length; rw [List.length_append]; show 3 ≤ 3 + l.length; omega⟩]
  unfold tailG
  show (if (printR (g (decT a.toNat)) (g (decT b.toNat)) (g (decT c.toNat)) l).2 = 0 ∧ (printR (g (decT a.toNat)) (g (decT b.toNat)) (g (decT c.toNat)) l).1.toList = (textM a b c l).toList then (g (decT a.toNat), g (decT b.toNat), g (decT c.toNat), l, (0 : Int)) else bad 3) = _
  rw [hg _ (by omega), hg _ (by omega), hg _ (by omega), show ((a.toNat : Nat) : Int) = a from by omega, show ((b.toNat : Nat) : Int) = b from by omega, show ((c.toNat : Nat) : Int) = c from by omega, hp, if_pos ⟨rfl, rfl⟩]
theorem parse_ok (g : ByteArray → Int) {s : ByteArray} (h : (parseG g s).2.2.2.2 = 0) : ∃ a b c l, Fine a b c l ∧ s = textM a b c l := by
  unfold parseG at h
  split at h
  · split at h
    · unfold tailG at h
      split at h
      · rename_i q
        have hf := fine_of q.1
        refine ⟨_, _, _, _, hf, ?_⟩
        have e := q.2
        rw [printR_fine hf, toList_L, toList_L] at e
        exact (ext_L e).symm
      · cases h
    · cases h
  · rename_i q
    exact absurd h q
theorem parse_bad (g : ByteArray → Int) {s : ByteArray} (h : (parseG g s).2.2.2.2 ≠ 0) : parseG g s = bad (if (openR s).2 = 0 then 3 else (openR s).2) := by
  unfold parseG at h ⊢
  by_cases c1 : (openR s).2 = 0
  · rw [if_pos c1] at h
    rw [if_pos c1, if_pos c1]
    by_cases c2 : (takeR (openR s).1).2.2 = 0 ∧ 3 ≤ (takeR (openR s).1).1.length
    · rw [if_pos c2] at h
      rw [if_pos c2]
      unfold tailG at h ⊢
      split
      · rename_i q
        rw [if_pos q] at h
        exact absurd rfl h
      · rfl
    · rw [if_neg c2]
  · rw [if_neg c1, if_neg c1]
theorem parse_same (g h : ByteArray → Int) (hg : Gives g) (hh : Gives h) (s : ByteArray) : parseG g s = parseG h s := by
  by_cases c1 : (parseG g s).2.2.2.2 = 0
  · obtain ⟨a, b, c, l, hf, rfl⟩ := parse_ok g c1
    rw [parse_print g hg hf, parse_print h hh hf]
  · by_cases c2 : (parseG h s).2.2.2.2 = 0
    · obtain ⟨a, b, c, l, hf, rfl⟩ := parse_ok h c2
      rw [parse_print g hg hf, parse_print h hh hf]
    · rw [parse_bad g c1, parse_bad h c2]
end Go.Proofs.YtgbfbfemmhfcaaaDoor.U
/-! ## LnI, first part -/
namespace Go.Proofs.YtgbfbfemmhfcaaaDoor.U
set_option linter.unusedVariables false
open Go.RowKit Go.Proofs.YtgbfbfemmhfcaaaDoor Go.Proofs.YtgbfbfemmhfcaaaDoor.P Go.Proofs.YtgbfbfemmhfcaaaDoorW.PrintWords

theorem few_l0 (l : List ByteArray) : ∀ (d i n : Nat), i + d = l.length → n ≤ 200000 → i ≤ 500 → (putB (l.take i)).length ≤ 4 * i + n →
    ∃ b, Ev (fun k => diptychlaw27_few.l0 k l (n : Int) (i : Int)) b ∧ (b = true → l.length ≤ 500 ∧ (putL l).length ≤ 300000) := by
  intro d
  induction d with
  | zero =>
    intro i n hi hn h5 hp
    refine ⟨true, Ev.one fun k => ?_, fun _ => ⟨by omega, ?_⟩⟩
    · show diptychlaw27_few.l0 (k + 1) l _ _ = _
      rw [diptychlaw27_few.l0, if_neg (by omega)]
    · rw [List.take_of_length_le (by omega)] at hp
      rw [putB_len]
      omega
  | succ d ih =>
    intro i n hi hn h5 hp
    have ht := putB_take l i (by omega)
    have hr := rdOf_nat ByteArray.empty l i
    generalize l.getD i ByteArray.empty = x at ht hr
    by_cases c5 : 500 ≤ i
    · refine ⟨false, Ev.one fun k => ?_, fun h => by cases h⟩
      show diptychlaw27_few.l0 (k + 1) l _ _ = _
      rw [diptychlaw27_few.l0, if_pos (by omega), if_pos (by omega), if_pos (by omega)]
    · obtain ⟨m, hm, hm2⟩ : ∃ m : Nat, mn (x.size : Int) 200000 = (m : Int) ∧ (m = x.size ∧ x.size ≤ 200000 ∨ m = 200000) := by
        unfold mn
        split
        · exact ⟨200000, rfl, .inr rfl⟩
        · exact ⟨x.size, rfl, .inl ⟨rfl, by omega⟩⟩
      have hw : wrap64 (wrap64 ((n : Int) + 1) + mn (x.size : Int) 200000) = ((n + 1 + m : Nat) : Int) := by
        rw [hm, show wrap64 ((n : Int) + 1) = ((n + 1 : Nat) : Int) from w64n (by omega) (by omega)]
        exact w64n (by omega) (by omega)
      by_cases c2 : 200000 < n + 1 + m
      · refine ⟨false, Ev.one fun k => ?_, fun h => by cases h⟩
        show diptychlaw27_few.l0 (k + 1) l _ _ = _
        rw [diptychlaw27_few.l0, if_pos (by omega), if_pos (by omega), if_neg (by omega), hr, hw, if_pos (by omega)]
      · obtain ⟨b, hb, hB⟩ := ih (i + 1) (n + 1 + m) (by omega) (by omega) (by omega) (by rw [ht, List.length_append, List.length_append, lenB_length, ← size_L]; omega)
        refine ⟨b, Ev.succ hb fun k hk => ?_, hB⟩
        show diptychlaw27_few.l0 (k + 1) l _ _ = _
        rw [diptychlaw27_few.l0, if_pos (by omega), if_pos (by omega), if_neg (by omega), hr, hw, if_neg (by omega), show wrap64 ((i : Int) + 1) = ((i + 1 : Nat) : Int) from w64n (by omega) (by omega)]
        exact hk
theorem few_ev (l : List ByteArray) : ∃ b, Ev (fun k => diptychlaw27_few.f k l) b ∧ (b = true → l.length ≤ 500 ∧ (putL l).length ≤ 300000) :=
  few_l0 l l.length 0 0 (by omega) (by omega) (by omega) (Nat.zero_le _)
theorem put_hi : putR [(⟨#[104, 105]⟩ : ByteArray)] = (⟨#[48, 48, 48, 54, 104, 105, 48, 48, 48, 48]⟩, 0) := by
  unfold putR
  rw [if_neg (by decide +kernel)]
  congr 1
theorem take_hi : takeR (⟨#[48, 48, 48, 54, 104, 105, 48, 48, 48, 48, 120]⟩ : ByteArray) = ([(⟨#[104, 105]⟩ : ByteArray)], ⟨#[120]⟩, 0) :=
  takeR_put [(⟨#[104, 105]⟩ : ByteArray)] (fun s hs => by rw [List.mem_singleton.1 hs]; decide) [120]
theorem fine_hi : Fine 8 5 7 [(⟨#[97]⟩ : ByteArray)] := ⟨⟨by decide, by decide⟩, ⟨by decide, by decide, by decide, by decide⟩, by decide, by decide +kernel⟩
theorem print_none : (printR 0 0 0 []).2 = 4 := by
  rcases printR_cases 0 0 0 [] with ⟨_, e⟩ | ⟨h, _⟩ | ⟨h, _⟩
  · rw [e]
  · omega
  · omega
theorem textM_size {a b c : Int} {l : List ByteArray} (h : Fine a b c l) : (textM a b c l).size ≤ 46 + (putL l).length := by
  have := putL_decs a b c l h.1.2 h.2.1.2.2.1 h.2.1.2.2.2
  unfold textM
  rw [ba_len, seal_len]
  omega
theorem awake_ev : Ev (fun k => diptychlaw27_awake.f k) true := by
  have h1 := line_Put_ev [(⟨#[104, 105]⟩ : ByteArray)] (by decide) (by decide +kernel)
  have h2 := line_Take_ev (⟨#[48, 48, 48, 54, 104, 105, 48, 48, 48, 48, 120]⟩ : ByteArray) (show 11 ≤ 1099511627776 by omega)
  have h3 := line_Print_ev 8 5 7 [(⟨#[97]⟩ : ByteArray)] (by decide +kernel)
  have h4 := line_Parse_ev (textM 8 5 7 [(⟨#[97]⟩ : ByteArray)]) (by have := textM_size fine_hi; have : (putL [(⟨#[97]⟩ : ByteArray)]).length = 9 := by decide +kernel
                                                                     omega)
  have h5 := line_Print_ev 0 0 0 [] (by decide +kernel)
  rw [put_hi] at h1
  rw [take_hi] at h2
  rw [printR_fine fine_hi] at h3
  rw [parse_print numV gives_V fine_hi] at h4
  obtain ⟨K1, hK1⟩ := Ev.and h1 h2
  obtain ⟨K2, hK2⟩ := Ev.and h3 h4
  obtain ⟨K3, hK3⟩ := Ev.get h5
  refine ⟨K1 + K2 + K3, fun n hn => ?_⟩
  show diptychlaw27_awake.f n = _
  unfold diptychlaw27_awake.f
  rw [(hK1 n (by omega)).1, Option.bind_some, (hK1 n (by omega)).2, Option.bind_some, (hK2 n (by omega)).1, Option.bind_some, (hK2 n (by omega)).2, Option.bind_some, hK3 n (by omega), Option.bind_some, print_none]
  decide +kernel
theorem put_app (l : List ByteArray) (s : ByteArray) : (⟨(putL l).toArray⟩ : ByteArray) ++ s = ⟨(putL l ++ L s).toArray⟩ := by
  apply ext_L
  rw [append_L, mk_L, mk_L]
theorem self_L (s : ByteArray) : (⟨(L s).toArray⟩ : ByteArray) = s := ext_L rfl
end Go.Proofs.YtgbfbfemmhfcaaaDoor.U
