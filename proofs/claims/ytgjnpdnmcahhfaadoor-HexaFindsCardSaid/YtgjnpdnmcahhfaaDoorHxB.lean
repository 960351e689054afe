/- What hexa's and the reference's Short, Begins, Find and Least compute. -/
import Derived.Test.YtgjnpdnmcahhfaaDoorPx4
import Derived.Test.YtgjnpdnmcahhfaaDoorPx3
import Derived.Test.YtgjnpdnmcahhfaaDoorPx5
import Derived.Test.YtgjnpdnmcahhfaaDoorPx10
import Derived.Test.YtgjnpdnmcahhfaaDoorPx11
import Derived.Test.YtgjnpdnmcahhfaaDoorPx12
import Derived.Test.YtgjnpdnmcahhfaaDoorPx14
import Derived.Test.YtgjnpdnmcahhfaaDoorHxA
import Derived.Lib.SlTrimSet
namespace Go.Proofs.YtgjnpdnmcahhfaaDoor.U
set_option linter.unusedVariables false
open Go.RowKit Go.Proofs.YtgjnpdnmcahhfaaDoor.P Go.Proofs.YtgjnpdnmcahhfaaDoorW.PrintWords Go.Proofs.YtgjnpdnmcahhfaaDoorW.PrintMore

/-! ### Short -/
def hexB (l : List UInt8) : Bool := l.all fun c => decide (hv c < 16)
def shortR (l : List UInt8) : Int := if l.length < 4 ∨ 64 < l.length then 1 else if hexB l = true then 0 else 3
theorem tbl_contains (c : UInt8) : ([48, 49, 50, 51, 52, 53, 54, 55, 56, 57, 97, 98, 99, 100, 101, 102] : List UInt8).contains c = decide (hv c < 16) := by
  have : ∀ n : Fin 256, ([48, 49, 50, 51, 52, 53, 54, 55, 56, 57, 97, 98, 99, 100, 101, 102] : List UInt8).contains (UInt8.ofNat n.1) = decide (hv (UInt8.ofNat n.1) < 16) := by decide +kernel
  have h := this ⟨c.toNat, UInt8.toNat_lt c⟩
  simpa using h
theorem dropWhile_head {α : Type} (p : α → Bool) : ∀ (l : List α) (x : α) (r : List α), l.dropWhile p = x :: r → p x = false
  | [], _, _, h => by simp at h
  | a :: l, x, r, h => by
    by_cases c : p a = true
    · rw [List.dropWhile_cons_of_pos c] at h; exact dropWhile_head p l x r h
    · rw [List.dropWhile_cons_of_neg c] at h
      injection h with h1 _
      subst h1
      simpa using c
theorem trim_nil (l cs : List UInt8) : Lib.trimS l cs = [] ↔ l.all (fun c => cs.contains c) = true := by
  have hd : ∀ m : List UInt8, m.dropWhile (cs.contains ·) = [] ↔ m.all (fun c => cs.contains c) = true := by
    intro m
    induction m with
    | nil => simp
    | cons a m ih =>
      by_cases c : cs.contains a = true
      · rw [List.dropWhile_cons_of_pos (by simpa using c), ih, List.all_cons, c]; simp
      · rw [List.dropWhile_cons_of_neg (by simpa using c), List.all_cons]
        simp at c
        simp [c]
  unfold Lib.trimS Lib.trimLeftS Lib.trimRightS
  rw [hd, List.all_reverse]
  constructor
  · intro h
    cases e : l.reverse.dropWhile (cs.contains ·) with
    | nil => have := (hd _).1 e; rwa [List.all_reverse] at this
    | cons x r =>
      rw [e, List.all_cons, Bool.and_eq_true] at h
      have := dropWhile_head _ _ _ _ e
      rw [h.1] at this
      cases this
  · intro h
    rw [← List.all_reverse] at h
    rw [(hd _).2 h]
    rfl
theorem trim_f (s : ByteArray) (hs : s.size ≤ 1099511627776) : strings_Trim.f s (⟨#[48, 49, 50, 51, 52, 53, 54, 55, 56, 57, 97, 98, 99, 100, 101, 102]⟩ : ByteArray) = some ⟨(Lib.trimS (L s) [48, 49, 50, 51, 52, 53, 54, 55, 56, 57, 97, 98, 99, 100, 101, 102]).toArray⟩ := by
  unfold strings_Trim.f
  rw [if_pos ⟨by omega, by decide, by decide⟩]
theorem short_j0 (s : ByteArray) (hs : s.size ≤ 1099511627776) (b : Bool) (n : Nat) : hexa_Short.j0 (n + 1) s b = some (if b = true then 1 else if hexB (L s) = true then 0 else 3) := by
  simp only [hexa_Short.j0]
  by_cases c : b = true
  · rw [if_pos c, if_pos c]
  · rw [if_neg c, if_neg c, trim_f s hs]
    simp only [Option.bind_some]
    rw [toList_L, mk_L]
    have h : (Lib.trimS (L s) [48, 49, 50, 51, 52, 53, 54, 55, 56, 57, 97, 98, 99, 100, 101, 102] = []) ↔ hexB (L s) = true := by
      rw [trim_nil]
      unfold hexB
      rw [show (fun c : UInt8 => ([48, 49, 50, 51, 52, 53, 54, 55, 56, 57, 97, 98, 99, 100, 101, 102] : List UInt8).contains c) = fun c => decide (hv c < 16) from funext tbl_contains]
    by_cases e : hexB (L s) = true
    · rw [if_pos (h.2 e), if_pos e]
    · rw [if_neg (fun z => e (h.1 z)), if_neg e]
theorem hexa_Short_ev (s : ByteArray) (hs : s.size ≤ 1099511627776) : Ev (fun k => hexa_Short.f k s) (shortR (L s)) := by
  refine Ev.one fun n => ?_
  unfold hexa_Short.f shortR
  rw [← size_L]
  by_cases c : s.size < 4
  · rw [if_pos (by omega), short_j0 s hs, if_pos rfl, if_pos (.inl c)]
  · rw [if_neg (by omega), short_j0 s hs]
    by_cases e : 64 < s.size
    · rw [decide_eq_true (show (s.size : Int) > 64 by omega), if_pos rfl, if_pos (.inr e)]
    · rw [decide_eq_false (show ¬ (s.size : Int) > 64 by omega), if_neg (show ¬ (false = true) by simp), if_neg (show ¬ (s.size < 4 ∨ 64 < s.size) by omega)]

theorem ref_Short_l0 (s : ByteArray) (hs : s.size ≤ 1099511627776) : ∀ (d i : Nat), i + d = s.size → hexB ((L s).take i) = true →
    Ev (fun k => diptychref01_Short.l0 k s (i : Int)) (if hexB (L s) = true then (0 : Int) else 3) := by
  intro d
  induction d with
  | zero =>
    intro i hi ha
    refine Ev.one fun n => ?_
    simp only [diptychref01_Short.l0]
    rw [List.take_of_length_le (by rw [← size_L]; omega)] at ha
    rw [if_neg (by omega), if_pos ha]
  | succ d ih =>
    intro i hi ha
    have hL : i < (L s).length := by rw [← size_L]; omega
    have w3 := Lib.hid (show wrap64 ((i : Int) + 1) = ((i + 1 : Nat) : Int) from w64n (by omega) (by omega))
    have hsp : hexB (L s) = (hexB ((L s).take i) && (decide (hv ((L s).getD i 0) < 16) && hexB ((L s).drop (i + 1)))) := by
      conv => lhs; rw [cut_at (L s) i hL 0]
      simp [hexB]
    have ht : hexB ((L s).take (i + 1)) = (hexB ((L s).take i) && decide (hv ((L s).getD i 0) < 16)) := by
      rw [take_succ' _ _ hL 0]; simp [hexB]
    obtain ⟨K, hK⟩ := Ev.get (value_bt s i)
    by_cases c : hv ((L s).getD i 0) < 16
    · obtain ⟨K', hK'⟩ := Ev.get (ih (i + 1) (by omega) (by rw [ht, ha]; simpa using c))
      refine ⟨max K K' + 1, fun n hn => ?_⟩
      obtain ⟨n, rfl⟩ : ∃ m, n = m + 1 := ⟨n - 1, by omega⟩
      simp only [diptychref01_Short.l0]
      rw [hK n (by omega), w3.out, if_pos (by omega), if_pos (by omega)]
      simp only [Option.bind_some]
      rw [if_neg (by omega)]
      exact hK' n (by omega)
    · refine ⟨K + 1, fun n hn => ?_⟩
      obtain ⟨n, rfl⟩ : ∃ m, n = m + 1 := ⟨n - 1, by omega⟩
      simp only [diptychref01_Short.l0]
      rw [hK n (by omega), if_pos (by omega), if_pos (by omega)]
      simp only [Option.bind_some]
      have hf : hexB (L s) = false := by rw [hsp, decide_eq_false c]; simp
      rw [if_pos (by omega), hf, if_neg (by simp)]
theorem ref_Short_ev (s : ByteArray) (hs : s.size ≤ 1099511627776) : Ev (fun k => diptychref01_Short.f k s) (shortR (L s)) := by
  obtain ⟨K, hK⟩ := Ev.get (ref_Short_l0 s hs s.size 0 (by omega) (by simp [hexB]))
  refine ⟨K + 1, fun n hn => ?_⟩
  obtain ⟨n, rfl⟩ : ∃ m, n = m + 1 := ⟨n - 1, by omega⟩
  show diptychref01_Short.f (n + 1) s = _
  unfold diptychref01_Short.f shortR
  rw [← size_L]
  by_cases c : s.size < 4
  · rw [if_pos (by omega), if_pos (.inl c)]
    simp [diptychref01_Short.j0]
  · rw [if_neg (by omega)]
    simp only [diptychref01_Short.j0]
    by_cases e : 64 < s.size
    · rw [decide_eq_true (show (s.size : Int) > 64 by omega), if_pos rfl, if_pos (.inr e)]
    · rw [decide_eq_false (show ¬ (s.size : Int) > 64 by omega), if_neg (show ¬ (false = true) by simp), if_neg (show ¬ (s.size < 4 ∨ 64 < s.size) by omega)]
      exact hK n (by omega)

/-! ### Begins -/
def beg (b s : List UInt8) : Bool := (digs b).take s.length == s
theorem pre_eq (d : ByteArray) (s : ByteArray) (h : s.size ≤ d.size) : ((d.extract 0 ((s.size : Int) : Int).toNat).toList == s.toList) = ((L d).take (L s).length == L s) := by
  rw [toList_L, toList_L, extract_L, Int.toNat_natCast, size_L s]
  simp
theorem pre_short (d s : List UInt8) (h : d.length < s.length) : (d.take s.length == s) = false := by
  rw [List.take_of_length_le (by omega)]
  simp
  intro e
  rw [e] at h
  omega
theorem hasPrefix_f (d s : ByteArray) : strings_HasPrefix.f d s = some ((L d).take (L s).length == L s) := by
  unfold strings_HasPrefix.f stringslite_HasPrefix.f
  by_cases c : s.size ≤ d.size
  · rw [if_pos (by omega), if_pos (by omega), if_pos (by omega), pre_eq _ _ c]
    rfl
  · rw [if_neg (by omega), pre_short _ _ (by rw [← size_L, ← size_L]; omega)]
    rfl
theorem hexa_Begins_ev (b s : ByteArray) (hb : b.size ≤ 1099511627776) : Ev (fun k => hexa_Begins.f k b s) (beg (L b) (L s)) := by
  refine Ev.map (hexa_Digits_ev b hb) fun n hn => ?_
  unfold hexa_Begins.f
  rw [hn]
  simp only [Option.bind_some]
  rw [hasPrefix_f]
  rfl
theorem ref_Begins_ev (b s : ByteArray) (hb : b.size ≤ 1099511627776) : Ev (fun k => diptychref01_Begins.f k b s) (beg (L b) (L s)) := by
  refine Ev.map (ref_Digits_ev b hb) fun n hn => ?_
  unfold diptychref01_Begins.f
  rw [hn]
  simp only [Option.bind_some]
  unfold beg
  generalize hd : (⟨(digs (L b)).toArray⟩ : ByteArray) = d
  have e : digs (L b) = L d := by rw [← hd]
  rw [e]
  by_cases c : s.size ≤ d.size
  · rw [if_pos (by omega), if_pos (by omega), if_pos (by omega), pre_eq _ _ c]
  · rw [if_neg (by omega), pre_short _ _ (by rw [← size_L, ← size_L]; omega)]

/-! ### Find -/
/-- What is found among those that begin so. -/
def pick : List ByteArray → ByteArray × Int
  | [] => (⟨#[]⟩, 5)
  | b :: r => if (r.all fun x => L x == L b) = true then (b, 0) else (⟨#[]⟩, 11)
def findR (l : List ByteArray) (s : ByteArray) : ByteArray × Int := if shortR (L s) = 0 then pick (l.filter fun b => beg (L b) (L s)) else (⟨#[]⟩, shortR (L s))
def after (f : ByteArray) (m : List ByteArray) : ByteArray × Int := if (m.all fun x => L x == L f) = true then (f, 0) else (⟨#[]⟩, 11)
def Small (l : List ByteArray) : Prop := ∀ b ∈ l, b.size ≤ 1099511627776
theorem rdOf_nat (d : ByteArray) (l : List ByteArray) (i : Nat) : rdOf d l (i : Int) = l.getD i d := by unfold rdOf; rw [Int.toNat_natCast]
theorem small_get {l : List ByteArray} (h : Small l) (i : Nat) (hi : i < l.length) : (l.getD i ByteArray.empty).size ≤ 1099511627776 := by
  rw [List.getD_eq_getElem?_getD, List.getElem?_eq_getElem hi]
  exact h _ (List.getElem_mem hi)
theorem small_drop {l : List ByteArray} (h : Small l) (i : Nat) : Small (l.drop i) := fun b hb => h b (List.mem_of_mem_drop hb)

theorem find_l0 (s : ByteArray) (l : List ByteArray) (hl : Small l) (hn : l.length ≤ 1099511627776) : ∀ (d i : Nat) (f : ByteArray) (any : Bool), i + d = l.length →
    Ev (fun k => hexa_Find.l0 k s f any l (l.length : Int) (i : Int)) (if any = true then after f ((l.drop i).filter fun b => beg (L b) (L s)) else pick ((l.drop i).filter fun b => beg (L b) (L s))) := by
  intro d
  induction d with
  | zero =>
    intro i f any hi
    refine Ev.one fun n => ?_
    simp only [hexa_Find.l0]
    rw [if_neg (by omega), List.drop_of_length_le (by omega)]
    by_cases c : any = true
    · rw [if_pos c, if_pos c]; simp [after]
    · rw [if_neg c, if_neg c]; simp [pick]
  | succ d ih =>
    intro i f any hi
    have hL : i < l.length := by omega
    have w3 := Lib.hid (show wrap64 ((i : Int) + 1) = ((i + 1 : Nat) : Int) from w64n (by omega) (by omega))
    have hdr := drop_cons' l i hL ByteArray.empty
    obtain ⟨K, hK⟩ := Ev.get (hexa_Begins_ev (l.getD i ByteArray.empty) s (small_get hl i hL))
    generalize hx : l.getD i ByteArray.empty = x at hK hdr
    rw [hdr]
    by_cases cb : beg (L x) (L s) = true
    · rw [List.filter_cons_of_pos (p := fun b => beg (L b) (L s)) cb]
      by_cases c : any = true
      · subst c
        rw [if_pos rfl]
        by_cases ce : L x = L f
        · have hxf : x = f := ext_L ce
          subst hxf
          obtain ⟨K', hK'⟩ := Ev.get (ih (i + 1) x true (by omega))
          refine ⟨max K K' + 1, fun n hn => ?_⟩
          obtain ⟨n, rfl⟩ : ∃ m, n = m + 1 := ⟨n - 1, by omega⟩
          simp only [hexa_Find.l0]
          rw [rdOf_nat, hx, hK n (by omega), w3.out, if_pos (by omega), if_pos (by omega), if_pos (by omega)]
          simp only [Option.bind_some]
          rw [if_pos cb, if_pos trivial, if_pos trivial]
          rw [hK' n (by omega), if_pos rfl]
          simp [after]
        · refine ⟨K + 1, fun n hn => ?_⟩
          obtain ⟨n, rfl⟩ : ∃ m, n = m + 1 := ⟨n - 1, by omega⟩
          simp only [hexa_Find.l0]
          rw [rdOf_nat, hx, hK n (by omega), if_pos (by omega), if_pos (by omega), if_pos (by omega)]
          simp only [Option.bind_some]
          rw [if_pos cb, if_pos trivial, if_neg (by rw [toList_L, toList_L]; exact ce)]
          unfold after
          have hb : (L x == L f) = false := by rw [beq_eq_false_iff_ne]; exact ce
          rw [List.all_cons, hb, Bool.false_and, if_neg (by simp)]
      · rw [if_neg c]
        obtain ⟨K', hK'⟩ := Ev.get (ih (i + 1) x true (by omega))
        refine ⟨max K K' + 1, fun n hn => ?_⟩
        obtain ⟨n, rfl⟩ : ∃ m, n = m + 1 := ⟨n - 1, by omega⟩
        simp only [hexa_Find.l0]
        rw [rdOf_nat, hx, hK n (by omega), w3.out, if_pos (by omega), if_pos (by omega), if_pos (by omega)]
        simp only [Option.bind_some]
        rw [if_pos cb, if_neg c, hK' n (by omega), if_pos rfl]
        rfl
    · rw [List.filter_cons_of_neg (p := fun b => beg (L b) (L s)) cb]
      obtain ⟨K', hK'⟩ := Ev.get (ih (i + 1) f any (by omega))
      refine ⟨max K K' + 1, fun n hn => ?_⟩
      obtain ⟨n, rfl⟩ : ∃ m, n = m + 1 := ⟨n - 1, by omega⟩
      simp only [hexa_Find.l0]
      rw [rdOf_nat, hx, hK n (by omega), w3.out, if_pos (by omega), if_pos (by omega), if_pos (by omega)]
      simp only [Option.bind_some]
      rw [if_neg cb]
      exact hK' n (by omega)
theorem hexa_Find_ev (l : List ByteArray) (s : ByteArray) (hl : Small l) (hn : l.length ≤ 1099511627776) (hs : s.size ≤ 1099511627776) : Ev (fun k => hexa_Find.f k l s) (findR l s) := by
  refine Ev.map2 (hexa_Short_ev s hs) (find_l0 s l hl hn l.length 0 ⟨#[]⟩ false (by omega)) fun n h1 h2 => ?_
  unfold hexa_Find.f findR
  rw [h1]
  simp only [Option.bind_some]
  by_cases c : shortR (L s) = 0
  · rw [if_pos c, if_pos c]
    refine h2.trans ?_
    rw [if_neg (by simp)]
    simp
  · rw [if_neg c, if_neg c]

/-! ### the reference's Find -/
def refAfter (acc m : List ByteArray) : ByteArray × Int := match acc with
  | [] => pick m
  | [f] => after f m
  | _ => (⟨#[]⟩, 11)
theorem ref_find_l0 (s : ByteArray) (l : List ByteArray) (hl : Small l) (hn : l.length ≤ 1099511627776) : ∀ (d i : Nat) (acc : List ByteArray), i + d = l.length → acc.length ≤ i →
    Ev (fun k => diptychref01_Find.l0 k l s acc (i : Int)) (refAfter acc ((l.drop i).filter fun b => beg (L b) (L s))) := by
  intro d
  induction d with
  | zero =>
    intro i acc hi hacc
    refine Ev.one fun n => ?_
    simp only [diptychref01_Find.l0]
    rw [if_neg (by omega), List.drop_of_length_le (by omega)]
    match acc with
    | [] => simp [refAfter, pick]
    | [f] => simp [refAfter, after, rdOf]
    | a :: b :: r =>
      rw [if_neg (by simp; omega), if_pos (by simp; omega)]
      simp [refAfter]
  | succ d ih =>
    intro i acc hi hacc
    have hL : i < l.length := by omega
    have w3 := Lib.hid (show wrap64 ((i : Int) + 1) = ((i + 1 : Nat) : Int) from w64n (by omega) (by omega))
    have hdr := drop_cons' l i hL ByteArray.empty
    obtain ⟨K, hK⟩ := Ev.get (ref_Begins_ev (l.getD i ByteArray.empty) s (small_get hl i hL))
    generalize hx : l.getD i ByteArray.empty = x at hK hdr
    rw [hdr]
    by_cases cb : beg (L x) (L s) = true
    · rw [List.filter_cons_of_pos (p := fun b => beg (L b) (L s)) cb]
      match acc, hacc with
      | [], hacc =>
        obtain ⟨K', hK'⟩ := Ev.get (ih (i + 1) [x] (by omega) (by simp))
        refine ⟨max K K' + 1, fun n hn => ?_⟩
        obtain ⟨n, rfl⟩ : ∃ m, n = m + 1 := ⟨n - 1, by omega⟩
        simp only [diptychref01_Find.l0]
        rw [rdOf_nat, hx, hK n (by omega), w3.out, if_pos (by omega), if_pos (by omega)]
        simp only [Option.bind_some]
        rw [if_pos cb, if_pos (by simp), if_pos (by simp)]
        refine (hK' n (by omega)).trans ?_
        rfl
      | f :: r, hacc =>
        by_cases ce : L f = L x
        · obtain ⟨K', hK'⟩ := Ev.get (ih (i + 1) (f :: r) (by omega) (by omega))
          refine ⟨max K K' + 1, fun n hn => ?_⟩
          obtain ⟨n, rfl⟩ : ∃ m, n = m + 1 := ⟨n - 1, by omega⟩
          simp only [diptychref01_Find.l0]
          rw [rdOf_nat, hx, hK n (by omega), w3.out, if_pos (by omega), if_pos (by omega)]
          simp only [Option.bind_some]
          rw [if_pos cb, if_neg (by simp; omega), if_pos (by simp), if_pos (by rw [toList_L, toList_L]; exact ce), hK' n (by omega)]
          cases r with
          | nil => simp [refAfter, after, ext_L ce]
          | cons => rfl
        · obtain ⟨K', hK'⟩ := Ev.get (ih (i + 1) (f :: r ++ [x]) (by omega) (by simp at hacc ⊢; omega))
          refine ⟨max K K' + 1, fun n hn => ?_⟩
          obtain ⟨n, rfl⟩ : ∃ m, n = m + 1 := ⟨n - 1, by omega⟩
          simp only [diptychref01_Find.l0]
          rw [rdOf_nat, hx, hK n (by omega), w3.out, if_pos (by omega), if_pos (by omega)]
          simp only [Option.bind_some]
          rw [if_pos cb, if_neg (by simp; omega), if_pos (by simp), if_neg (by rw [toList_L, toList_L]; exact ce), if_pos (by omega), hK' n (by omega)]
          cases r with
          | nil =>
            have hb : (L x == L f) = false := by rw [beq_eq_false_iff_ne]; exact fun h => ce h.symm
            simp only [refAfter, after, List.all_cons, hb, Bool.false_and, List.cons_append, List.nil_append]
            rfl
          | cons a r => cases r <;> rfl
    · rw [List.filter_cons_of_neg (p := fun b => beg (L b) (L s)) cb]
      obtain ⟨K', hK'⟩ := Ev.get (ih (i + 1) acc (by omega) (by omega))
      refine ⟨max K K' + 1, fun n hn => ?_⟩
      obtain ⟨n, rfl⟩ : ∃ m, n = m + 1 := ⟨n - 1, by omega⟩
      simp only [diptychref01_Find.l0]
      rw [rdOf_nat, hx, hK n (by omega), w3.out, if_pos (by omega), if_pos (by omega)]
      simp only [Option.bind_some]
      rw [if_neg cb]
      exact hK' n (by omega)
theorem ref_Find_ev (l : List ByteArray) (s : ByteArray) (hl : Small l) (hn : l.length ≤ 1099511627776) (hs : s.size ≤ 1099511627776) : Ev (fun k => diptychref01_Find.f k l s) (findR l s) := by
  refine Ev.map2 (ref_Short_ev s hs) (ref_find_l0 s l hl hn l.length 0 [] (by omega) (by simp)) fun n h1 h2 => ?_
  unfold diptychref01_Find.f findR
  rw [h1]
  simp only [Option.bind_some]
  by_cases c : shortR (L s) = 0
  · rw [if_pos c, if_pos c]
    exact h2
  · rw [if_neg c, if_neg c]

/-! ### Least -/
def lcp : List UInt8 → List UInt8 → Nat
  | a :: l, b :: m => if a = b then lcp l m + 1 else 0
  | _, _ => 0
theorem lcp_le_left : ∀ l m : List UInt8, lcp l m ≤ l.length
  | [], _ => by simp [lcp]
  | _ :: _, [] => by simp [lcp]
  | a :: l, b :: m => by simp only [lcp]; split <;> simp [lcp_le_left l m]
theorem lcp_le_right : ∀ l m : List UInt8, lcp l m ≤ m.length
  | [], _ => by simp [lcp]
  | _ :: _, [] => by simp [lcp]
  | a :: l, b :: m => by simp only [lcp]; split <;> simp [lcp_le_right l m]
/-- A beginning of d of n digits begins m just if that much is common. -/
theorem take_lcp : ∀ (n : Nat) (d m : List UInt8), n ≤ d.length → (m.take n = d.take n ↔ n ≤ lcp d m)
  | 0, d, m, _ => by simp
  | n + 1, [], m, h => by simp at h
  | n + 1, a :: d, [], h => by simp [lcp]
  | n + 1, a :: d, b :: m, h => by
    have ih := take_lcp n d m (by simpa using h)
    simp only [List.take_succ_cons, lcp]
    by_cases e : a = b
    · subst e
      rw [if_pos rfl, List.cons_inj_right, ih]
      omega
    · rw [if_neg e]
      constructor
      · intro h
        injection h with h1 _
        exact absurd h1.symm e
      · intro h; omega
theorem beg_take (x d : List UInt8) (n : Nat) (h : n ≤ d.length) : beg x (d.take n) = decide (n ≤ lcp d (digs x)) := by
  unfold beg
  rw [List.length_take, Nat.min_eq_left h, Bool.eq_iff_iff, beq_iff_eq, decide_eq_true_iff]
  exact take_lcp n d (digs x) h
/-- The greatest of 4 and one more than what is common with each other name. -/
def needs (b : List UInt8) (m : Nat) : List ByteArray → Nat
  | [] => m
  | x :: l => if L x = b then needs b m l else needs b (max m (lcp (digs b) (digs (L x)) + 1)) l
def leastR (l : List ByteArray) (b : List UInt8) : Nat := max 4 (min (needs b 4 l) (digs b).length)
theorem needs_max (b : List UInt8) : ∀ (l : List ByteArray) (m : Nat), needs b m l = max m (needs b 0 l)
  | [], m => by simp [needs]
  | x :: l, m => by
    simp only [needs]
    split
    · exact needs_max b l m
    · rw [needs_max b l (max m _), needs_max b l (max 0 _)]; omega
theorem needs_le (b : List UInt8) : ∀ (l : List ByteArray) (m : Nat), m ≤ (digs b).length + 1 → needs b m l ≤ (digs b).length + 1
  | [], m, h => by simpa [needs] using h
  | x :: l, m, h => by
    simp only [needs]
    split
    · exact needs_le b l m h
    · have := lcp_le_left (digs b) (digs (L x))
      exact needs_le b l _ (by omega)

theorem mx_nat (a b : Nat) : mx (a : Int) (b : Int) = ((max a b : Nat) : Int) := by unfold mx; split <;> omega
theorem mn_nat (a b : Nat) : mn (a : Int) (b : Int) = ((min a b : Nat) : Int) := by unfold mn; split <;> omega
theorem lcp_at : ∀ (l m : List UInt8) (i : Nat), i ≤ lcp l m → (i < lcp l m ↔ i < l.length ∧ i < m.length ∧ l.getD i 0 = m.getD i 0)
  | [], m, i, h => by simp [lcp] at h ⊢
  | a :: l, [], i, h => by simp [lcp] at h ⊢
  | a :: l, b :: m, i, h => by
    simp only [lcp] at h ⊢
    by_cases e : a = b
    · rw [if_pos e] at h ⊢
      cases i with
      | zero => simp [e]
      | succ i =>
        have := lcp_at l m i (by omega)
        simp only [List.length_cons, List.getD_cons_succ]
        constructor
        · intro h
          have := this.1 (by omega)
          exact ⟨by omega, by omega, this.2.2⟩
        · intro h
          have := this.2 ⟨by omega, by omega, h.2.2⟩
          omega
    · rw [if_neg e] at h ⊢
      obtain rfl : i = 0 := by omega
      simp [e]

theorem least_l1 (b : ByteArray) (own oth : ByteArray) (hs : own.size ≤ 4398046511104) (m : Nat) (l : List ByteArray) (j : Nat) (r : Int)
    (next : Ev (fun k => hexa_Least.l0 k b own ((max m (lcp (L own) (L oth) + 1) : Nat) : Int) l (l.length : Int) ((j + 1 : Nat) : Int)) r) (hj : j < l.length) (hl : l.length ≤ 1099511627776) :
    ∀ (d i : Nat), i + d = lcp (L own) (L oth) → Ev (fun k => hexa_Least.l1 k b own (m : Int) oth (i : Int) l (l.length : Int) (j : Int)) r := by
  have w4 := Lib.hid (show wrap64 ((j : Int) + 1) = ((j + 1 : Nat) : Int) from w64n (by omega) (by omega))
  have h1 := lcp_le_left (L own) (L oth)
  rw [← size_L] at h1
  intro d
  induction d with
  | zero =>
    intro i hi
    have w3 := Lib.hid (show wrap64 ((i : Int) + 1) = ((i + 1 : Nat) : Int) from w64n (by omega) (by omega))
    have hh := lcp_at (L own) (L oth) i (by omega)
    rw [← size_L, ← size_L] at hh
    have hm : ((max m (i + 1) : Nat) : Int) = ((max m (lcp (L own) (L oth) + 1) : Nat) : Int) := by rw [← hi]
    refine Ev.succ next fun n hn => ?_
    rw [← hm] at hn
    clear hm
    simp only [hexa_Least.l1]
    rw [w3.out, w4.out, mx_nat, bt_L, bt_L]
    by_cases c1 : i < own.size
    · rw [if_pos (by omega)]
      by_cases c2 : i < oth.size
      · rw [if_pos (by omega), if_pos (by omega), if_neg]
        · exact hn
        · intro e
          have : (L own).getD i 0 = (L oth).getD i 0 := u8_ext (by omega)
          have := hh.2 ⟨c1, c2, this⟩
          omega
      · rw [if_neg (by omega)]; exact hn
    · rw [if_neg (by omega)]; exact hn
  | succ d ih =>
    intro i hi
    have w3 := Lib.hid (show wrap64 ((i : Int) + 1) = ((i + 1 : Nat) : Int) from w64n (by omega) (by omega))
    have hh := (lcp_at (L own) (L oth) i (by omega)).1 (by omega)
    rw [← size_L, ← size_L] at hh
    refine Ev.succ (ih (i + 1) (by omega)) fun n hn => ?_
    simp only [hexa_Least.l1]
    rw [w3.out, bt_L, bt_L, if_pos (by omega), if_pos (by omega), if_pos (by omega), if_pos (by rw [hh.2.2])]
    exact hn

theorem least_l0 (b : ByteArray) (hb : b.size ≤ 1099511627776) (l : List ByteArray) (hl : Small l) (hn : l.length ≤ 1099511627776) : ∀ (d i m : Nat), i + d = l.length → m ≤ 2 * b.size + 5 →
    Ev (fun k => hexa_Least.l0 k b (⟨(digs (L b)).toArray⟩ : ByteArray) (m : Int) l (l.length : Int) (i : Int)) ((max 4 (min (needs (L b) m (l.drop i)) (digs (L b)).length) : Nat) : Int) := by
  intro d
  induction d with
  | zero =>
    intro i m hi hm
    refine Ev.one fun n => ?_
    simp only [hexa_Least.l0]
    rw [if_neg (by omega), List.drop_of_length_le (by omega), size_L, mk_L, mn_nat, show (4 : Int) = ((4 : Nat) : Int) from rfl, mx_nat]
    rfl
  | succ d ih =>
    intro i m hi hm
    have hL : i < l.length := by omega
    have w3 := Lib.hid (show wrap64 ((i : Int) + 1) = ((i + 1 : Nat) : Int) from w64n (by omega) (by omega))
    have hdr := drop_cons' l i hL ByteArray.empty
    have hsz := small_get hl i hL
    generalize hx : l.getD i ByteArray.empty = x at hdr hsz
    rw [hdr]
    simp only [needs]
    by_cases c : L x = L b
    · rw [if_pos c]
      refine Ev.succ (ih (i + 1) m (by omega) hm) fun n hn => ?_
      simp only [hexa_Least.l0]
      rw [rdOf_nat, hx, w3.out, if_pos (by omega), if_pos (by omega), if_pos (by omega), if_pos (by rw [toList_L, toList_L]; exact c)]
      exact hn
    · rw [if_neg c]
      have hlc := lcp_le_left (digs (L b)) (digs (L x))
      have hdl : (digs (L b)).length = 2 * b.size := by rw [digs_length, size_L]
      have nx := ih (i + 1) (max m (lcp (digs (L b)) (digs (L x)) + 1)) (by omega) (by omega)
      have l1 := least_l1 b ⟨(digs (L b)).toArray⟩ ⟨(digs (L x)).toArray⟩ (by rw [size_L, mk_L]; omega) m l i _ nx hL hn _ 0 (by rw [Nat.zero_add])
      refine Ev.both (hexa_Digits_ev x hsz) l1 fun n h1 h2 => ?_
      simp only [hexa_Least.l0]
      rw [rdOf_nat, hx, if_pos (by omega), if_pos (by omega), if_pos (by omega), if_neg (by rw [toList_L, toList_L]; exact c), h1]
      simp only [Option.bind_some]
      exact h2
theorem hexa_Least_ev (l : List ByteArray) (b : ByteArray) (hl : Small l) (hn : l.length ≤ 1099511627776) (hb : b.size ≤ 1099511627776) : Ev (fun k => hexa_Least.f k l b) (leastR l (L b) : Int) := by
  refine Ev.map2 (hexa_Digits_ev b hb) (least_l0 b hb l hl hn l.length 0 4 (by omega) (by omega)) fun n h1 h2 => ?_
  unfold hexa_Least.f
  rw [h1]
  simp only [Option.bind_some]
  exact h2

/-! ### the reference's Least -/
/-- Does a beginning of n digits tell b from all others? -/
def tells (b : List UInt8) (n : Nat) (l : List ByteArray) : Bool := l.all fun x => decide (L x = b) || !decide (n ≤ lcp (digs b) (digs (L x)))
theorem tells_needs (b : List UInt8) : ∀ (l : List ByteArray) (n : Nat), tells b n l = true ↔ needs b 0 l ≤ n
  | [], n => by simp [tells, needs]
  | x :: l, n => by
    have ih := tells_needs b l n
    unfold tells at ih ⊢
    rw [List.all_cons, Bool.and_eq_true, ih]
    simp only [needs]
    by_cases c : L x = b
    · rw [if_pos c, decide_eq_true c, Bool.true_or]
      simp
    · have hm := needs_max b l (max 0 (lcp (digs b) (digs (L x)) + 1))
      rw [if_neg c, decide_eq_false c, Bool.false_or]
      simp only [Bool.not_eq_true', decide_eq_false_iff_not]
      omega
theorem ref_least_l1 (b : ByteArray) (l : List ByteArray) (hl : Small l) (hn : l.length ≤ 1099511627776) (m : Nat) (hm : m ≤ (digs (L b)).length) (hm2 : m ≤ 2199023255552) (r : Int) (r' : Int) (hr : tells (L b) m l = true → r = (m : Int)) (hr' : tells (L b) m l = false → r = r')
    (next : tells (L b) m l = false → Ev (fun k => diptychref01_Least.l0 k l b (⟨(digs (L b)).toArray⟩ : ByteArray) ((m + 1 : Nat) : Int)) r') :
    ∀ (d i : Nat) (ok : Bool), i + d = l.length → tells (L b) m l = (ok && tells (L b) m (l.drop i)) → Ev (fun k => diptychref01_Least.l1 k l b (⟨(digs (L b)).toArray⟩ : ByteArray) (m : Int) ok (i : Int)) r := by
  have w4 := Lib.hid (show wrap64 ((m : Int) + 1) = ((m + 1 : Nat) : Int) from w64n (by omega) (by omega))
  intro d
  induction d with
  | zero =>
    intro i ok hi hok
    rw [List.drop_of_length_le (by omega), show tells (L b) m [] = true from rfl, Bool.and_true] at hok
    cases ok with
    | true =>
      refine Ev.one fun n => ?_
      simp only [diptychref01_Least.l1]
      rw [if_neg (by omega), if_pos trivial, hr hok]
    | false =>
      rw [hr' hok]
      refine Ev.succ (next hok) fun n hn => ?_
      simp only [diptychref01_Least.l1]
      rw [if_neg (by omega), if_neg (by simp), w4.out]
      exact hn
  | succ d ih =>
    intro i ok hi hok
    have hL : i < l.length := by omega
    have w3 := Lib.hid (show wrap64 ((i : Int) + 1) = ((i + 1 : Nat) : Int) from w64n (by omega) (by omega))
    have hdr := drop_cons' l i hL ByteArray.empty
    have hsz := small_get hl i hL
    have hsz2 : (⟨(digs (L b)).toArray⟩ : ByteArray).size = (digs (L b)).length := size_L _
    generalize hx : l.getD i ByteArray.empty = x at hdr hsz
    have hc : tells (L b) m (l.drop i) = ((decide (L x = L b) || !decide (m ≤ lcp (digs (L b)) (digs (L x)))) && tells (L b) m (l.drop (i + 1))) := by
      rw [hdr]; simp [tells]
    by_cases c : L x = L b
    · refine Ev.succ (ih (i + 1) ok (by omega) (by rw [hok, hc]; simp [c])) fun n hn => ?_
      simp only [diptychref01_Least.l1]
      rw [rdOf_nat, hx, w3.out, if_pos (by omega), if_pos (by omega), if_pos (by rw [toList_L, toList_L]; exact c)]
      exact hn
    · have hbg : beg (L x) (L ((⟨(digs (L b)).toArray⟩ : ByteArray).extract 0 m)) = decide (m ≤ lcp (digs (L b)) (digs (L x))) := by
        rw [extract_L, mk_L]
        simp only [List.drop_zero, Nat.sub_zero]
        exact beg_take _ _ _ hm
      have hB := ref_Begins_ev x ((⟨(digs (L b)).toArray⟩ : ByteArray).extract 0 m) hsz
      rw [hbg] at hB
      by_cases c2 : m ≤ lcp (digs (L b)) (digs (L x))
      · rw [decide_eq_true c2] at hB
        refine Ev.both hB (ih (i + 1) false (by omega) (by rw [hok, hc]; simp [c, c2])) fun n h1 h2 => ?_
        simp only [diptychref01_Least.l1]
        rw [rdOf_nat, hx, w3.out, Int.toNat_natCast, h1, if_pos (by omega), if_pos (by omega), if_neg (by rw [toList_L, toList_L]; exact c), if_pos (by omega), if_pos (by omega)]
        simp only [Option.bind_some]
        rw [if_pos trivial]
        exact h2
      · rw [decide_eq_false c2] at hB
        refine Ev.both hB (ih (i + 1) ok (by omega) (by rw [hok, hc]; simp [c, c2])) fun n h1 h2 => ?_
        simp only [diptychref01_Least.l1]
        rw [rdOf_nat, hx, w3.out, Int.toNat_natCast, h1, if_pos (by omega), if_pos (by omega), if_neg (by rw [toList_L, toList_L]; exact c), if_pos (by omega), if_pos (by omega)]
        simp only [Option.bind_some]
        rw [if_neg (by simp)]
        exact h2
theorem ref_least_l0 (b : ByteArray) (hb : b.size ≤ 1099511627775) (l : List ByteArray) (hl : Small l) (hn : l.length ≤ 1099511627776) : ∀ (d m : Nat), m + d = (digs (L b)).length + 1 → 4 ≤ m → m ≤ needs (L b) 4 l →
    Ev (fun k => diptychref01_Least.l0 k l b (⟨(digs (L b)).toArray⟩ : ByteArray) (m : Int)) (leastR l (L b) : Int) := by
  have hsz2 : (⟨(digs (L b)).toArray⟩ : ByteArray).size = (digs (L b)).length := size_L _
  have hdl : (digs (L b)).length = 2 * b.size := by rw [digs_length, size_L]
  have hn2 := needs_max (L b) l 4
  intro d
  induction d with
  | zero =>
    intro m hm h4 hle
    refine Ev.one fun n => ?_
    simp only [diptychref01_Least.l0]
    rw [if_neg (by omega), if_neg (by omega), hsz2]
    unfold leastR
    congr 1
    omega
  | succ d ih =>
    intro m hm h4 hle
    have ht := tells_needs (L b) l m
    by_cases c : needs (L b) 0 l ≤ m
    · replace ht := ht.2 c
      have e : (leastR l (L b) : Int) = (m : Int) := by unfold leastR; omega
      rw [e]
      refine Ev.succ (ref_least_l1 b l hl hn m (by omega) (by omega) (m : Int) 0 (fun _ => rfl) (fun h => by rw [ht] at h; cases h) (fun h => by rw [ht] at h; cases h) l.length 0 true (by omega) (by simp)) fun n h => ?_
      simp only [diptychref01_Least.l0]
      rw [if_pos (by omega)]
      exact h
    · replace ht : tells (L b) m l = false := by rw [Bool.eq_false_iff]; exact fun h => c (ht.1 h)
      have nx := ih (m + 1) (by omega) (by omega) (by omega)
      refine Ev.succ (ref_least_l1 b l hl hn m (by omega) (by omega) (leastR l (L b) : Int) (leastR l (L b) : Int) (fun h => by rw [ht] at h; cases h) (fun _ => rfl) (fun _ => nx) l.length 0 true (by omega) (by simp)) fun n h => ?_
      simp only [diptychref01_Least.l0]
      rw [if_pos (by omega)]
      exact h
theorem ref_Least_ev (l : List ByteArray) (b : ByteArray) (hl : Small l) (hn : l.length ≤ 1099511627776) (hb : b.size ≤ 1099511627775) : Ev (fun k => diptychref01_Least.f k l b) (leastR l (L b) : Int) := by
  have hsz2 : (⟨(digs (L b)).toArray⟩ : ByteArray).size = (digs (L b)).length := size_L _
  have hn2 := needs_max (L b) l 4
  have key : Ev (fun k => diptychref01_Least.l0 k l b (⟨(digs (L b)).toArray⟩ : ByteArray) 4) (leastR l (L b) : Int) := by
    by_cases c : 4 ≤ (digs (L b)).length + 1
    · exact ref_least_l0 b hb l hl hn ((digs (L b)).length + 1 - 4) 4 (by omega) (by omega) (by omega)
    · refine Ev.one fun n => ?_
      simp only [diptychref01_Least.l0]
      rw [if_neg (by omega), if_pos (by omega)]
      unfold leastR
      congr 1
      omega
  refine Ev.map2 (ref_Digits_ev b (by omega)) key fun n h1 h2 => ?_
  unfold diptychref01_Least.f
  rw [h1]
  simp only [Option.bind_some]
  exact h2

/-! ### Size, Space -/
theorem size_f (n : Int) : hexa_Size.f n = some (if n = 1 then 20 else if n = 2 then 32 else 0) := by
  unfold hexa_Size.f
  split
  · rfl
  · split <;> rfl
end Go.Proofs.YtgjnpdnmcahhfaaDoor.U
