/- What hexa's and the reference's Digits and Bytes compute, as plain functions on lists of bytes. -/
import Derived.Test.YtgjnpdnmcahhfaaDoorPx2
import Derived.Test.YtgjnpdnmcahhfaaDoorPx1
import Derived.Test.YtgjnpdnmcahhfaaDoorPx11
import Derived.Test.YtgjnpdnmcahhfaaDoorPx10
import Derived.Test.YtgjnpdnmcahhfaaDoorPx9
import Derived.Test.YtgjnpdnmcahhfaaDoorU0
import Derived.Lib.Hide
namespace Go.Proofs.YtgjnpdnmcahhfaaDoor.U
open Go.RowKit Go.Proofs.YtgjnpdnmcahhfaaDoor.P Go.Proofs.YtgjnpdnmcahhfaaDoorW.PrintWords

/-- A digit of four bits. -/
def hx (v : Nat) : UInt8 := if v < 10 then UInt8.ofNat (48 + v) else UInt8.ofNat (87 + v)
/-- The digits of bytes. -/
def digs : List UInt8 → List UInt8
  | [] => []
  | b :: r => hx (b.toNat / 16) :: hx (b.toNat % 16) :: digs r
/-- The value of a digit; 16: none. -/
def hv (c : UInt8) : Nat := if 48 ≤ c.toNat ∧ c.toNat ≤ 57 then c.toNat - 48 else if 97 ≤ c.toNat ∧ c.toNat ≤ 102 then c.toNat - 87 else 16
/-- The bytes of digits. -/
def unhex : List UInt8 → Option (List UInt8)
  | [] => some []
  | [_] => none
  | a :: b :: r => if hv a < 16 ∧ hv b < 16 then (unhex r).map (UInt8.ofNat (16 * hv a + hv b) :: ·) else none

theorem digs_length : ∀ l : List UInt8, (digs l).length = 2 * l.length
  | [] => rfl
  | b :: r => by simp [digs, digs_length r]; omega
theorem digs_append : ∀ a b : List UInt8, digs (a ++ b) = digs a ++ digs b
  | [], _ => rfl
  | x :: a, b => by simp [digs, digs_append a b]
theorem hx_lt (v : Nat) (h : v < 16) : (hx v).toNat = if v < 10 then 48 + v else 87 + v := by
  unfold hx
  split <;> (rw [u8_ofNat _ (by omega)])

theorem tbl (v : Nat) (h : v < 16) : bt (⟨#[48, 49, 50, 51, 52, 53, 54, 55, 56, 57, 97, 98, 99, 100, 101, 102]⟩ : ByteArray) (v : Int) = ((hx v).toNat : Int) := by
  rw [bt_L]
  have : ∀ v : Fin 16, ([48, 49, 50, 51, 52, 53, 54, 55, 56, 57, 97, 98, 99, 100, 101, 102] : List UInt8).getD v.1 0 = hx v.1 := by decide +kernel
  exact congrArg (fun x : UInt8 => (x.toNat : Int)) (this ⟨v, h⟩)
theorem div16 (c : UInt8) : ((c.toNat : Int) / 16) = ((c.toNat / 16 : Nat) : Int) := by omega
theorem and15 (n : Nat) (h : n < 256) : Go.bits .and .u8 (n : Int) 15 = ((n % 16 : Nat) : Int) := by
  have : ∀ n : Fin 256, Go.bits .and .u8 ((n.1 : Nat) : Int) 15 = ((n.1 % 16 : Nat) : Int) := by decide +kernel
  exact this ⟨n, h⟩

theorem hexa_Digits_l0 (s : ByteArray) (hs : s.size ≤ 1099511627776) : ∀ (d i : Nat) (acc : List Int), i + d = s.size → acc = ints (digs ((L s).take i)) ++ List.replicate (2 * d) 0 →
    Ev (fun k => hexa_Digits.l0 k s acc (s.size : Int) (i : Int)) (⟨(digs (L s)).toArray⟩ : ByteArray) := by
  intro d
  induction d with
  | zero =>
    intro i acc hi ha
    refine Ev.one fun n => ?_
    simp only [hexa_Digits.l0]
    rw [if_neg (by omega), ha, List.take_of_length_le (by rw [← size_L]; omega)]
    simp [str_ints]
  | succ d ih =>
    intro i acc hi ha
    have hL : i < (L s).length := by rw [← size_L]; omega
    refine Ev.succ (ih (i + 1) (ints (digs ((L s).take (i + 1))) ++ List.replicate (2 * d) 0) (by omega) rfl) fun n hn => ?_
    have h0 := UInt8.toNat_lt ((L s).getD i 0)
    have hlen : acc.length = 2 * s.size := by
      rw [ha]; simp [ints_length, digs_length]; omega
    simp only [hexa_Digits.l0]
    rw [bt_L s i]
    generalize hc : (L s).getD i 0 = c at h0
    rw [div16 c, and15 _ h0, show wrap64 (2 * (i : Int)) = ((2 * i : Nat) : Int) from w64n (by omega) (by omega), show wrap64 (((2 * i : Nat) : Int) + 1) = ((2 * i + 1 : Nat) : Int) from w64n (by omega) (by omega),
      show wrap64 ((i : Int) + 1) = ((i + 1 : Nat) : Int) from w64n (by omega) (by omega), tbl _ (by omega), tbl _ (by omega)]
    rw [if_pos (by omega), if_pos (by omega), if_pos (by omega), if_pos (by omega), if_pos (by omega), if_pos (by omega), if_pos (by omega), if_pos (by omega), if_pos (by omega), if_pos (by omega), if_pos (by omega)]
    clear hlen
    refine Eq.trans ?_ hn
    congr 1
    have ht : (ints (digs ((L s).take i))).length = 2 * i := by rw [ints_length, digs_length, List.length_take]; omega
    rw [ha, show 2 * (d + 1) = (2 * d + 1) + 1 from by omega, List.replicate_succ, List.replicate_succ, Int.toNat_natCast, Int.toNat_natCast, set_mid _ _ _ _ _ ht.symm]
    rw [show ints (digs ((L s).take i)) ++ ((hx (c.toNat / 16)).toNat : Int) :: 0 :: List.replicate (2 * d) 0 = (ints (digs ((L s).take i)) ++ [((hx (c.toNat / 16)).toNat : Int)]) ++ 0 :: List.replicate (2 * d) 0 from by simp,
      set_mid _ _ _ _ _ (by simp [ht])]
    rw [take_succ' _ _ hL 0, digs_append, ints_append, hc]
    simp [digs, ints]

theorem hexa_Digits_ev (s : ByteArray) (hs : s.size ≤ 1099511627776) : Ev (fun k => hexa_Digits.f k s) (⟨(digs (L s)).toArray⟩ : ByteArray) := by
  refine Ev.map (hexa_Digits_l0 s hs s.size 0 (List.replicate (2 * s.size) 0) (by omega) (by simp [digs, ints])) fun n hn => ?_
  unfold hexa_Digits.f
  rw [show wrap64 (2 * (s.size : Int)) = ((2 * s.size : Nat) : Int) from w64n (by omega) (by omega), if_pos (by omega), if_pos (by omega), Int.toNat_natCast]
  exact hn

/-! ### the reference's digits -/
theorem digit_f (v : Nat) (h : v < 16) : diptychref01_digit.f (v : Int) = some ((hx v).toNat : Int) := by
  rw [hx_lt v h]
  unfold diptychref01_digit.f
  by_cases c : v < 10
  · rw [if_pos (by omega), if_pos c]; congr 1; omega
  · rw [if_neg (by omega), if_neg c]; congr 1; omega
theorem tdiv16 (c : UInt8) : Int.tdiv (c.toNat : Int) 16 % 256 = ((c.toNat / 16 : Nat) : Int) := by have := UInt8.toNat_lt c; rw [Int.tdiv_eq_ediv_of_nonneg (by omega)]; omega
theorem tmod16 (c : UInt8) : Int.tmod (c.toNat : Int) 16 = ((c.toNat % 16 : Nat) : Int) := by rw [Int.tmod_eq_emod_of_nonneg (by omega)]; omega
theorem ref_Digits_l0 (s : ByteArray) (hs : s.size ≤ 1099511627776) : ∀ (d i : Nat) (acc : List Int), i + d = s.size → acc = ints (digs ((L s).take i)) →
    Ev (fun k => diptychref01_Digits.l0 k s acc (i : Int)) (⟨(digs (L s)).toArray⟩ : ByteArray) := by
  intro d
  induction d with
  | zero =>
    intro i acc hi ha
    refine Ev.one fun n => ?_
    simp only [diptychref01_Digits.l0]
    rw [if_neg (by omega), ha, List.take_of_length_le (by rw [← size_L]; omega)]
    simp [str_ints]
  | succ d ih =>
    intro i acc hi ha
    have hL : i < (L s).length := by rw [← size_L]; omega
    refine Ev.succ (ih (i + 1) (ints (digs ((L s).take (i + 1)))) (by omega) rfl) fun n hn => ?_
    have h0 := UInt8.toNat_lt ((L s).getD i 0)
    simp only [diptychref01_Digits.l0]
    rw [bt_L s i]
    generalize hc : (L s).getD i 0 = c at h0
    rw [tdiv16 c, tmod16 c, show wrap64 ((i : Int) + 1) = ((i + 1 : Nat) : Int) from w64n (by omega) (by omega), digit_f _ (by omega), digit_f _ (by omega), if_pos (by omega), if_pos (by omega)]
    simp only [Option.bind_some]
    have hl : acc.length = 2 * i := by rw [ha, ints_length, digs_length, List.length_take]; omega
    rw [if_pos (by simp; omega)]
    refine Eq.trans ?_ hn
    congr 1
    rw [ha, take_succ' _ _ hL 0, digs_append, ints_append, hc]
    simp [digs, ints]
theorem ref_Digits_ev (s : ByteArray) (hs : s.size ≤ 1099511627776) : Ev (fun k => diptychref01_Digits.f k s) (⟨(digs (L s)).toArray⟩ : ByteArray) :=
  ref_Digits_l0 s hs s.size 0 [] (by omega) (by simp [digs, ints])

/-! ### Bytes -/
theorem hv_lt (c : UInt8) : hv c ≤ 16 := by unfold hv; split <;> (try split) <;> omega
theorem idx_hv (c : UInt8) : Lib.indexByte (L (⟨#[48, 49, 50, 51, 52, 53, 54, 55, 56, 57, 97, 98, 99, 100, 101, 102]⟩ : ByteArray)) c = if hv c < 16 then (hv c : Int) else -1 := by
  have : ∀ n : Fin 256, Lib.indexByte ([48, 49, 50, 51, 52, 53, 54, 55, 56, 57, 97, 98, 99, 100, 101, 102] : List UInt8) (UInt8.ofNat n.1) = if hv (UInt8.ofNat n.1) < 16 then (hv (UInt8.ofNat n.1) : Int) else -1 := by decide +kernel
  have h := this ⟨c.toNat, UInt8.toNat_lt c⟩
  simpa using h
theorem idx_f (s : ByteArray) (i : Nat) : strings_IndexByte.f (⟨#[48, 49, 50, 51, 52, 53, 54, 55, 56, 57, 97, 98, 99, 100, 101, 102]⟩ : ByteArray) (bt s (i : Int)) = some (if hv ((L s).getD i 0) < 16 then (hv ((L s).getD i 0) : Int) else -1) := by
  unfold strings_IndexByte.f
  rw [bt_L, ← idx_hv]
  simp
theorem or_val (a b : Nat) (ha : a < 16) (hb : b < 16) : Go.bits .or .i64 (wrap64 ((a : Int) * 16)) (b : Int) % 256 = ((16 * a + b : Nat) : Int) := by
  have : ∀ a b : Fin 16, Go.bits .or .i64 (((a.1 * 16 : Nat) : Int)) ((b.1 : Nat) : Int) % 256 = ((16 * a.1 + b.1 : Nat) : Int) := by decide +kernel
  rw [show wrap64 ((a : Int) * 16) = ((a * 16 : Nat) : Int) from w64n (by omega) (by omega)]
  exact this ⟨a, ha⟩ ⟨b, hb⟩

/-- What Bytes says. -/
def bytesR (l : List UInt8) : ByteArray × Int := match unhex l with
  | some r => (⟨r.toArray⟩, 0)
  | none => (⟨#[]⟩, 3)
theorem unhex_odd : ∀ (n : Nat) (l : List UInt8), l.length ≤ n → l.length % 2 = 1 → unhex l = none
  | 0, l, h, h' => by omega
  | n + 1, [], _, h' => by simp at h'
  | n + 1, [_], _, _ => rfl
  | n + 1, a :: b :: r, h, h' => by
    simp only [List.length_cons] at h h'
    simp only [unhex]
    rw [unhex_odd n r (by omega) (by omega)]
    simp
theorem unhex_split : ∀ (a b : List UInt8), a.length % 2 = 0 → unhex (a ++ b) = (unhex a).bind fun x => (unhex b).map (x ++ ·)
  | [], b, _ => by simp [unhex]
  | [_], b, h => by simp at h
  | x :: y :: a, b, h => by
    simp only [List.length_cons] at h
    simp only [List.cons_append, unhex]
    split
    · rw [unhex_split a b (by omega)]
      cases unhex a <;> cases unhex b <;> simp
    · rfl
theorem unhex_len : ∀ (n : Nat) (l r : List UInt8), l.length ≤ n → unhex l = some r → l.length = 2 * r.length
  | 0, l, r, h, e => by
    have : l = [] := List.eq_nil_of_length_eq_zero (by omega)
    subst this
    simp [unhex] at e
    subst e; rfl
  | n + 1, [], r, _, e => by simp [unhex] at e; subst e; rfl
  | n + 1, [_], r, _, e => by simp [unhex] at e
  | n + 1, a :: b :: l, r, h, e => by
    simp only [unhex] at e
    split at e
    · obtain ⟨q, hq, rfl⟩ := Option.map_eq_some_iff.1 e
      have := unhex_len n l q (by simp at h; omega) hq
      simp; omega
    · simp at e

theorem hexa_Bytes_l0 (s : ByteArray) (hs : s.size ≤ 1099511627776) (m : Nat) (hm : s.size = 2 * m) : ∀ (d i : Nat) (acc : List Int) (p : List UInt8), i + d = m → unhex ((L s).take (2 * i)) = some p → acc = ints p ++ List.replicate d 0 →
    Ev (fun k => hexa_Bytes.l0 k s acc (m : Int) (i : Int)) (bytesR (L s)) := by
  intro d
  induction d with
  | zero =>
    intro i acc p hi hp ha
    refine Ev.one fun n => ?_
    simp only [hexa_Bytes.l0]
    rw [List.take_of_length_le (by rw [← size_L]; omega)] at hp
    rw [if_neg (by omega), ha]
    simp [str_ints, bytesR, hp]
  | succ d ih =>
    intro i acc p hi hp ha
    have hLl : (L s).length = 2 * m := by rw [← size_L]; exact hm
    have h1 : 2 * i < (L s).length := by omega
    have h2 : 2 * i + 1 < (L s).length := by omega
    have w1 := Lib.hid (show wrap64 (2 * (i : Int)) = ((2 * i : Nat) : Int) from w64n (by omega) (by omega))
    have w2 := Lib.hid (show wrap64 (((2 * i : Nat) : Int) + 1) = ((2 * i + 1 : Nat) : Int) from w64n (by omega) (by omega))
    have w3 := Lib.hid (show wrap64 ((i : Int) + 1) = ((i + 1 : Nat) : Int) from w64n (by omega) (by omega))
    have hpl : p.length = i := by
      have := unhex_len _ _ _ (Nat.le_refl _) hp
      rw [List.length_take] at this; omega
    have hlen : acc.length = m := by rw [ha]; simp [ints_length]; omega
    have hi1 := idx_f s (2 * i)
    have hi2 := idx_f s (2 * i + 1)
    have htk : (L s).take (2 * (i + 1)) = (L s).take (2 * i) ++ [(L s).getD (2 * i) 0, (L s).getD (2 * i + 1) 0] := by
      rw [show 2 * (i + 1) = (2 * i + 1) + 1 from by omega, take_succ' _ _ h2 0, take_succ' _ _ h1 0]; simp
    have hdrop : (L s).drop (2 * i) = (L s).getD (2 * i) 0 :: (L s).getD (2 * i + 1) 0 :: (L s).drop (2 * (i + 1)) := by
      rw [drop_cons' _ _ h1 0, drop_cons' _ _ h2 0]; rfl
    generalize hx1 : (L s).getD (2 * i) 0 = a at hi1 htk hdrop
    generalize hx2 : (L s).getD (2 * i + 1) 0 = b at hi2 htk hdrop
    have hsp : unhex (L s) = (unhex ((L s).drop (2 * i))).map (p ++ ·) := by
      have := unhex_split ((L s).take (2 * i)) ((L s).drop (2 * i)) (by rw [List.length_take]; omega)
      rw [List.take_append_drop, hp] at this
      exact this
    by_cases ca : hv a < 16
    · by_cases cb : hv b < 16
      · rw [if_pos ca] at hi1
        rw [if_pos cb] at hi2
        have hp' : unhex ((L s).take (2 * (i + 1))) = some (p ++ [UInt8.ofNat (16 * hv a + hv b)]) := by
          rw [htk, unhex_split _ _ (by rw [List.length_take]; omega), hp]
          simp [unhex, ca, cb]
        refine Ev.succ (ih (i + 1) (ints (p ++ [UInt8.ofNat (16 * hv a + hv b)]) ++ List.replicate d 0) _ (by omega) hp' rfl) fun n hn => ?_
        simp only [hexa_Bytes.l0]
        rw [w1.out, w2.out, w3.out, hi1, hi2, if_pos (by omega), if_pos (by omega), if_pos (by omega)]
        simp only [Option.bind_some]
        rw [if_pos (by omega), if_pos (by omega), if_neg (by omega), if_neg (by omega), if_pos (by omega), if_pos (by omega), or_val _ _ ca cb]
        refine Eq.trans ?_ hn
        congr 1
        rw [ha, List.replicate_succ, Int.toNat_natCast, set_mid _ _ _ _ _ (by rw [ints_length, hpl]), ints_append]
        simp [ints]
        omega
      · rw [if_pos ca] at hi1
        rw [if_neg cb] at hi2
        refine Ev.one fun n => ?_
        simp only [hexa_Bytes.l0]
        rw [w1.out, w2.out, hi1, hi2, if_pos (by omega), if_pos (by omega), if_pos (by omega)]
        simp only [Option.bind_some]
        rw [if_pos (by omega), if_pos (by omega), if_neg (by omega), if_pos (by omega)]
        simp [bytesR, hsp, hdrop, unhex, cb]
    · rw [if_neg ca] at hi1
      refine Ev.one fun n => ?_
      simp only [hexa_Bytes.l0]
      rw [w1.out, w2.out, hi1, hi2, if_pos (by omega), if_pos (by omega), if_pos (by omega)]
      simp only [Option.bind_some]
      rw [if_pos (by omega), if_pos (by omega), if_pos (by omega)]
      simp [bytesR, hsp, hdrop, unhex, ca]
theorem hexa_Bytes_ev (s : ByteArray) (hs : s.size ≤ 1099511627776) : Ev (fun k => hexa_Bytes.f k s) (bytesR (L s)) := by
  by_cases c : s.size % 2 = 0
  · obtain ⟨m, hm⟩ : ∃ m, s.size = 2 * m := ⟨s.size / 2, by omega⟩
    refine Ev.map (hexa_Bytes_l0 s hs m hm m 0 (List.replicate m 0) [] (by omega) (by simp [unhex]) (by simp [ints])) fun n hn => ?_
    unfold hexa_Bytes.f
    rw [show wrap64 ((s.size : Int) / 2) = (m : Int) from w64n (by omega) (by omega), if_pos (by omega), if_pos (by omega), if_pos (by omega)]
    simp only [Option.bind_some, Int.toNat_natCast, List.length_replicate]
    exact hn
  · refine ⟨0, fun n _ => ?_⟩
    show hexa_Bytes.f n s = _
    unfold hexa_Bytes.f
    rw [if_neg (by omega)]
    unfold bytesR
    rw [unhex_odd _ _ (Nat.le_refl _) (by rw [← size_L]; omega)]

/-! ### the reference's Bytes -/
theorem value_l0 (c : UInt8) : ∀ (d i : Nat), i + d = 16 → i ≤ hv c → Ev (fun k => diptychref01_value.l0 k (c.toNat : Int) (i : Int)) (hv c : Int) := by
  intro d
  induction d with
  | zero =>
    intro i hi hle
    refine Ev.one fun n => ?_
    have := hv_lt c
    simp only [diptychref01_value.l0]
    rw [if_neg (by omega)]
    congr 1; omega
  | succ d ih =>
    intro i hi hle
    have hh : ((hx i).toNat = c.toNat) ↔ hv c = i := by
      rw [hx_lt i (by omega)]
      unfold hv
      have := UInt8.toNat_lt c
      constructor
      · intro h
        split at h
        · rw [if_pos (by omega)]; omega
        · rw [if_neg (by omega), if_pos (by omega)]; omega
      · intro h
        split at h
        · rw [if_pos (by omega)]; omega
        · split at h
          · rw [if_neg (by omega)]; omega
          · omega
    have w3 := Lib.hid (show wrap64 ((i : Int) + 1) = ((i + 1 : Nat) : Int) from w64n (by omega) (by omega))
    by_cases e : hv c = i
    · refine Ev.one fun n => ?_
      simp only [diptychref01_value.l0]
      rw [if_pos (by omega), show ((i : Int) % 256) = (i : Int) from by omega, digit_f i (by omega)]
      simp only [Option.bind_some]
      rw [if_pos (by have := hh.2 e; omega), e]
    · refine Ev.succ (ih (i + 1) (by omega) (by omega)) fun n hn => ?_
      simp only [diptychref01_value.l0]
      rw [if_pos (by omega), show ((i : Int) % 256) = (i : Int) from by omega, digit_f i (by omega), w3.out]
      simp only [Option.bind_some]
      rw [if_neg (by intro h; exact e (hh.1 (by omega)))]
      exact hn
theorem value_ev (c : UInt8) : Ev (fun k => diptychref01_value.f k (c.toNat : Int)) (hv c : Int) := value_l0 c 16 0 (by omega) (by omega)
theorem value_bt (s : ByteArray) (i : Nat) : Ev (fun k => diptychref01_value.f k (bt s (i : Int))) (hv ((L s).getD i 0) : Int) := by
  rw [bt_L]; exact value_ev _

theorem ref_Bytes_l0 (s : ByteArray) (hs : s.size ≤ 1099511627776) (m : Nat) (hm : s.size = 2 * m) : ∀ (d i : Nat) (acc : List Int) (p : List UInt8), i + d = m → unhex ((L s).take (2 * i)) = some p → acc = ints p →
    Ev (fun k => diptychref01_Bytes.l0 k s acc ((2 * i : Nat) : Int)) (bytesR (L s)) := by
  intro d
  induction d with
  | zero =>
    intro i acc p hi hp ha
    refine Ev.one fun n => ?_
    simp only [diptychref01_Bytes.l0]
    rw [List.take_of_length_le (by rw [← size_L]; omega)] at hp
    rw [if_neg (by omega), ha]
    simp [str_ints, bytesR, hp]
  | succ d ih =>
    intro i acc p hi hp ha
    have hLl : (L s).length = 2 * m := by rw [← size_L]; exact hm
    have h1 : 2 * i < (L s).length := by omega
    have h2 : 2 * i + 1 < (L s).length := by omega
    have w2 := Lib.hid (show wrap64 (((2 * i : Nat) : Int) + 1) = ((2 * i + 1 : Nat) : Int) from w64n (by omega) (by omega))
    have w3 := Lib.hid (show wrap64 (((2 * i : Nat) : Int) + 2) = ((2 * (i + 1) : Nat) : Int) from w64n (by omega) (by omega))
    have hpl : p.length = i := by
      have := unhex_len _ _ _ (Nat.le_refl _) hp
      rw [List.length_take] at this; omega
    have hlen : acc.length = i := by rw [ha, ints_length, hpl]
    have hi1 := value_bt s (2 * i)
    have hi2 := value_bt s (2 * i + 1)
    have htk : (L s).take (2 * (i + 1)) = (L s).take (2 * i) ++ [(L s).getD (2 * i) 0, (L s).getD (2 * i + 1) 0] := by
      rw [show 2 * (i + 1) = (2 * i + 1) + 1 from by omega, take_succ' _ _ h2 0, take_succ' _ _ h1 0]; simp
    have hdrop : (L s).drop (2 * i) = (L s).getD (2 * i) 0 :: (L s).getD (2 * i + 1) 0 :: (L s).drop (2 * (i + 1)) := by
      rw [drop_cons' _ _ h1 0, drop_cons' _ _ h2 0]; rfl
    generalize hx1 : (L s).getD (2 * i) 0 = a at hi1 htk hdrop
    generalize hx2 : (L s).getD (2 * i + 1) 0 = b at hi2 htk hdrop
    have hva := hv_lt a
    have hvb := hv_lt b
    have hsp : unhex (L s) = (unhex ((L s).drop (2 * i))).map (p ++ ·) := by
      have := unhex_split ((L s).take (2 * i)) ((L s).drop (2 * i)) (by rw [List.length_take]; omega)
      rw [List.take_append_drop, hp] at this
      exact this
    by_cases ca : hv a < 16
    · by_cases cb : hv b < 16
      · have hp' : unhex ((L s).take (2 * (i + 1))) = some (p ++ [UInt8.ofNat (16 * hv a + hv b)]) := by
          rw [htk, unhex_split _ _ (by rw [List.length_take]; omega), hp]
          simp [unhex, ca, cb]
        obtain ⟨K, hK⟩ := Ev.and hi1 hi2
        obtain ⟨K', hK'⟩ := ih (i + 1) (ints (p ++ [UInt8.ofNat (16 * hv a + hv b)])) _ (by omega) hp' rfl
        refine ⟨max K K' + 1, fun n hn => ?_⟩
        obtain ⟨n, rfl⟩ : ∃ m, n = m + 1 := ⟨n - 1, by omega⟩
        simp only [diptychref01_Bytes.l0]
        rw [w2.out, w3.out, (hK n (by omega)).1, (hK n (by omega)).2, if_pos (by omega), if_pos (by omega)]
        simp only [Option.bind_some]
        rw [if_pos (by omega), if_pos (by omega), if_neg (by omega), if_neg (by omega), if_pos (by omega)]
        refine Eq.trans ?_ (hK' n (by omega))
        rw [show wrap64 (16 * (hv a : Int)) = ((16 * hv a : Nat) : Int) from w64n (by omega) (by omega), show wrap64 (((16 * hv a : Nat) : Int) + (hv b : Int)) = ((16 * hv a + hv b : Nat) : Int) from w64n (by omega) (by omega)]
        congr 1
        rw [ha, ints_append]
        simp [ints]
      · obtain ⟨K, hK⟩ := Ev.and hi1 hi2
        refine ⟨K + 1, fun n hn => ?_⟩
        obtain ⟨n, rfl⟩ : ∃ m, n = m + 1 := ⟨n - 1, by omega⟩
        simp only [diptychref01_Bytes.l0]
        rw [w2.out, (hK n (by omega)).1, (hK n (by omega)).2, if_pos (by omega), if_pos (by omega)]
        simp only [Option.bind_some]
        rw [if_pos (by omega), if_pos (by omega), if_neg (by omega), if_pos (by omega)]
        simp [bytesR, hsp, hdrop, unhex, cb]
    · obtain ⟨K, hK⟩ := Ev.and hi1 hi2
      refine ⟨K + 1, fun n hn => ?_⟩
      obtain ⟨n, rfl⟩ : ∃ m, n = m + 1 := ⟨n - 1, by omega⟩
      simp only [diptychref01_Bytes.l0]
      rw [w2.out, (hK n (by omega)).1, (hK n (by omega)).2, if_pos (by omega), if_pos (by omega)]
      simp only [Option.bind_some]
      rw [if_pos (by omega), if_pos (by omega), if_pos (by omega)]
      simp [bytesR, hsp, hdrop, unhex, ca]
theorem ref_Bytes_ev (s : ByteArray) (hs : s.size ≤ 1099511627776) : Ev (fun k => diptychref01_Bytes.f k s) (bytesR (L s)) := by
  by_cases c : s.size % 2 = 1
  · refine ⟨0, fun n _ => ?_⟩
    show diptychref01_Bytes.f n s = _
    unfold diptychref01_Bytes.f
    rw [if_pos (by omega)]
    unfold bytesR
    rw [unhex_odd _ _ (Nat.le_refl _) (by rw [← size_L]; omega)]
  · obtain ⟨m, hm⟩ : ∃ m, s.size = 2 * m := ⟨s.size / 2, by omega⟩
    refine Ev.map (ref_Bytes_l0 s hs m hm m 0 [] [] (by omega) (by simp [unhex]) (by simp [ints])) fun n hn => ?_
    unfold diptychref01_Bytes.f
    rw [if_neg (by omega)]
    exact hn
end Go.Proofs.YtgjnpdnmcahhfaaDoor.U
