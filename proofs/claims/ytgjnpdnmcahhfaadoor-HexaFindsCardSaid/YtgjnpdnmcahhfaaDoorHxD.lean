/- The statements HexaBack, HexaOrder, HexaOne, HexaFinds, over plain functions. -/
import Derived.Test.YtgjnpdnmcahhfaaDoorPx6
import Derived.Test.YtgjnpdnmcahhfaaDoorPx8
import Derived.Test.YtgjnpdnmcahhfaaDoorPx9
import Derived.Test.YtgjnpdnmcahhfaaDoorPx7
import Derived.Test.YtgjnpdnmcahhfaaDoorHxC
namespace Go.Proofs.YtgjnpdnmcahhfaaDoor.U
set_option linter.unusedVariables false
open Go.RowKit Go.Proofs.YtgjnpdnmcahhfaaDoor.P Go.Proofs.YtgjnpdnmcahhfaaDoorW.PrintWords Go.Proofs.YtgjnpdnmcahhfaaDoorW.PrintMore

theorem hv_hx (v : Nat) (h : v < 16) : hv (hx v) = v := by
  have : ∀ v : Fin 16, hv (hx v.1) = v.1 := by decide +kernel
  exact this ⟨v, h⟩
theorem hx_hv (c : UInt8) (h : hv c < 16) : hx (hv c) = c := by
  have : ∀ n : Fin 256, hv (UInt8.ofNat n.1) < 16 → hx (hv (UInt8.ofNat n.1)) = UInt8.ofNat n.1 := by decide +kernel
  have z := this ⟨c.toNat, UInt8.toNat_lt c⟩
  simp only [UInt8.ofNat_toNat] at z
  exact z h
theorem unhex_digs : ∀ l : List UInt8, unhex (digs l) = some l
  | [] => rfl
  | b :: r => by
    have h0 := UInt8.toNat_lt b
    simp only [digs, unhex]
    rw [hv_hx _ (by omega), hv_hx _ (by omega), if_pos ⟨by omega, by omega⟩, unhex_digs r]
    simp only [Option.map_some, Option.some.injEq, List.cons.injEq, and_true]
    apply u8_ext
    rw [u8_ofNat _ (by omega)]
    omega
theorem digs_unhex : ∀ (n : Nat) (l r : List UInt8), l.length ≤ n → unhex l = some r → digs r = l
  | 0, l, r, h, e => by
    have : l = [] := List.eq_nil_of_length_eq_zero (by omega)
    subst this
    simp [unhex] at e
    subst e; rfl
  | n + 1, [], r, _, e => by simp [unhex] at e; subst e; rfl
  | n + 1, [_], r, _, e => by simp [unhex] at e
  | n + 1, a :: b :: l, r, h, e => by
    simp only [unhex] at e
    split at e
    · rename_i hc
      obtain ⟨q, hq, rfl⟩ := Option.map_eq_some_iff.1 e
      simp only [digs]
      rw [u8_ofNat _ (by omega), show (16 * hv a + hv b) / 16 = hv a from by omega, show (16 * hv a + hv b) % 16 = hv b from by omega, hx_hv a hc.1, hx_hv b hc.2, digs_unhex n l q (by simp at h; omega) hq]
    · simp at e

theorem bytesR_digs (l : List UInt8) : bytesR (digs l) = (⟨l.toArray⟩, 0) := by unfold bytesR; rw [unhex_digs]

theorem HexaBack (a0 a1 a2 : ByteArray) (w0 : a0.size ≤ 140737488351232) (w1 : a1.size ≤ 140737488351232) (w2 : a2.size ≤ 140737488351232) : ∃ k, diptychlaw01_HexaBack.f k a0 a1 a2 = some true := by
  refine Ev.rounds (g := fun k => diptychlaw01_HexaBack.f k a0 a1 a2) ?_
  obtain ⟨K0, h0⟩ := Ev.get awake_ev
  have big : ∀ n, diptychlaw01_HexaBack.j0 (n + 1) a0 a1 a2 true = some true := fun n => by simp [diptychlaw01_HexaBack.j0]
  by_cases c0 : a0.size > 2000
  · refine ⟨K0 + 1, fun n hn => ?_⟩
    obtain ⟨n, rfl⟩ : ∃ m, n = m + 1 := ⟨n - 1, by omega⟩
    show diptychlaw01_HexaBack.f (n + 1) a0 a1 a2 = _
    unfold diptychlaw01_HexaBack.f
    rw [h0 _ (by omega)]
    simp only [Option.bind_some]
    rw [if_pos trivial, if_pos (by omega), big]
  by_cases c1 : a1.size > 2000
  · refine ⟨K0 + 1, fun n hn => ?_⟩
    obtain ⟨n, rfl⟩ : ∃ m, n = m + 1 := ⟨n - 1, by omega⟩
    show diptychlaw01_HexaBack.f (n + 1) a0 a1 a2 = _
    unfold diptychlaw01_HexaBack.f
    rw [h0 _ (by omega)]
    simp only [Option.bind_some]
    rw [if_pos trivial, if_neg (by omega), if_pos (by omega), big]
  by_cases c2 : a2.size > 2000
  · refine ⟨K0 + 1, fun n hn => ?_⟩
    obtain ⟨n, rfl⟩ : ∃ m, n = m + 1 := ⟨n - 1, by omega⟩
    show diptychlaw01_HexaBack.f (n + 1) a0 a1 a2 = _
    unfold diptychlaw01_HexaBack.f
    rw [h0 _ (by omega)]
    simp only [Option.bind_some]
    rw [if_pos trivial, if_neg (by omega), if_neg (by omega), decide_eq_true (show (a2.size : Int) > 2000 by omega), big]
  have hs01 : (a0 ++ a1).size = a0.size + a1.size := by rw [size_L, append_L, List.length_append, ← size_L, ← size_L]
  have hdsz : ∀ l : List UInt8, (⟨(digs l).toArray⟩ : ByteArray).size = 2 * l.length := fun l => by rw [size_L, mk_L, digs_length]
  obtain ⟨K1, h1⟩ := Ev.get (hexa_Digits_ev (a0 ++ a1) (by omega))
  obtain ⟨K2, h2⟩ := Ev.get (hexa_Bytes_ev ⟨(digs (L (a0 ++ a1))).toArray⟩ (by rw [hdsz, ← size_L]; omega))
  obtain ⟨K3, h3⟩ := Ev.get (hexa_Bytes_ev a2 (by omega))
  obtain ⟨K4, h4⟩ := Ev.get (hexa_Digits_ev a0 (by omega))
  obtain ⟨K5, h5⟩ := Ev.get (hexa_Digits_ev a1 (by omega))
  rw [mk_L, bytesR_digs] at h2
  have fin : ∃ K, ∀ n, K ≤ n → ∀ t : ByteArray × Int, t = bytesR (L a2) → (if t.2 = 0 then (hexa_Digits.f n t.1).bind fun t145 => if t145.toList = a2.toList then some true else if t.2 = 3 then some (t.1.toList == ([] : List UInt8)) else some false
      else if t.2 = 3 then some (t.1.toList == ([] : List UInt8)) else some false) = some true := by
    cases e : unhex (L a2) with
    | none =>
      refine ⟨0, fun n _ t ht => ?_⟩
      subst ht
      unfold bytesR
      rw [e]
      simp only [toList_L]
      rfl
    | some r =>
      have hl := unhex_len _ _ _ (Nat.le_refl _) e
      rw [← size_L] at hl
      obtain ⟨K, hK⟩ := Ev.get (hexa_Digits_ev ⟨r.toArray⟩ (by rw [size_L, mk_L]; omega))
      refine ⟨K, fun n hn t ht => ?_⟩
      subst ht
      unfold bytesR
      rw [e]
      simp only
      rw [if_pos trivial, hK n hn]
      simp only [Option.bind_some]
      rw [if_pos (by rw [toList_L, toList_L, mk_L, mk_L, digs_unhex _ _ _ (Nat.le_refl _) e])]
  obtain ⟨K6, h6⟩ := fin
  refine ⟨K0 + K1 + K2 + K3 + K4 + K5 + K6 + 1, fun n hn => ?_⟩
  obtain ⟨n, rfl⟩ : ∃ m, n = m + 1 := ⟨n - 1, by omega⟩
  show diptychlaw01_HexaBack.f (n + 1) a0 a1 a2 = _
  unfold diptychlaw01_HexaBack.f
  rw [h0 _ (by omega)]
  simp only [Option.bind_some]
  rw [if_pos trivial, if_neg (by omega), if_neg (by omega), decide_eq_false (show ¬ (a2.size : Int) > 2000 by omega)]
  simp only [diptychlaw01_HexaBack.j0]
  rw [if_neg (by simp), if_pos (by omega), h1 n (by omega)]
  simp only [Option.bind_some]
  rw [h2 n (by omega), h3 n (by omega)]
  simp only [Option.bind_some]
  rw [if_pos trivial, if_pos trivial, h4 n (by omega), h5 n (by omega)]
  simp only [Option.bind_some]
  rw [if_pos (by rw [hdsz, hdsz, ← size_L, ← size_L]; omega), if_pos (by rw [toList_L, toList_L, append_L, mk_L, mk_L, mk_L, append_L, digs_append])]
  exact h6 n (by omega) _ rfl

/-! ### order -/
theorem hx_less (u v : Nat) (hu : u < 16) (hv : v < 16) : decide (hx u < hx v) = decide (u < v) ∧ (hx u == hx v) = decide (u = v) := by
  have : ∀ u v : Fin 16, decide (hx u.1 < hx v.1) = decide (u.1 < v.1) ∧ (hx u.1 == hx v.1) = decide (u.1 = v.1) := by decide +kernel
  exact this ⟨u, hu⟩ ⟨v, hv⟩
theorem less_cons (a b : UInt8) (x y : List UInt8) : Op.bytesLess (a :: x) (b :: y) = (decide (a < b) || (a == b && Op.bytesLess x y)) := rfl
theorem less_digs : ∀ a b : List UInt8, Op.bytesLess (digs a) (digs b) = Op.bytesLess a b
  | [], [] => rfl
  | [], _ :: _ => rfl
  | _ :: _, [] => rfl
  | a :: x, b :: y => by
    have ha := UInt8.toNat_lt a
    have hb := UInt8.toNat_lt b
    have h1 := hx_less (a.toNat / 16) (b.toNat / 16) (by omega) (by omega)
    have h2 := hx_less (a.toNat % 16) (b.toNat % 16) (by omega) (by omega)
    simp only [digs]
    rw [less_cons, less_cons, less_cons, h1.1, h1.2, h2.1, h2.2, less_digs x y]
    have e1 : decide (a < b) = decide (a.toNat < b.toNat) := by rw [decide_eq_decide]; exact UInt8.lt_iff_toNat_lt
    have e2 : (a == b) = decide (a.toNat = b.toNat) := by
      rw [Bool.eq_iff_iff, beq_iff_eq, decide_eq_true_iff]
      exact ⟨fun h => by rw [h], u8_ext⟩
    rw [e1, e2, Bool.eq_iff_iff]
    simp only [Bool.or_eq_true, Bool.and_eq_true, decide_eq_true_iff]
    generalize Op.bytesLess x y = q
    cases q
    · simp
      omega
    · simp
      omega

theorem HexaOrder (a0 a1 a2 : ByteArray) (a3 : Int) (w0 : a0.size ≤ 140737488351232) (w1 : a1.size ≤ 140737488351232) (w2 : a2.size ≤ 140737488351232) (w3 : (Lit.int .i64 a3).wf = true) : ∃ k, diptychlaw01_HexaOrder.f k a0 a1 a2 a3 = some true := by
  refine Ev.rounds (g := fun k => diptychlaw01_HexaOrder.f k a0 a1 a2 a3) ?_
  obtain ⟨K0, h0⟩ := Ev.get awake_ev
  have big : ∀ n, diptychlaw01_HexaOrder.j0 (n + 1) a0 a1 a2 a3 true = some true := fun n => by simp [diptychlaw01_HexaOrder.j0]
  by_cases c0 : a0.size > 1000
  · refine ⟨K0 + 1, fun n hn => ?_⟩
    obtain ⟨n, rfl⟩ : ∃ m, n = m + 1 := ⟨n - 1, by omega⟩
    show diptychlaw01_HexaOrder.f (n + 1) a0 a1 a2 a3 = _
    unfold diptychlaw01_HexaOrder.f
    rw [h0 _ (by omega)]
    simp only [Option.bind_some]
    rw [if_pos trivial, if_pos (by omega), big]
  by_cases c1 : a1.size > 1000
  · refine ⟨K0 + 1, fun n hn => ?_⟩
    obtain ⟨n, rfl⟩ : ∃ m, n = m + 1 := ⟨n - 1, by omega⟩
    show diptychlaw01_HexaOrder.f (n + 1) a0 a1 a2 a3 = _
    unfold diptychlaw01_HexaOrder.f
    rw [h0 _ (by omega)]
    simp only [Option.bind_some]
    rw [if_pos trivial, if_neg (by omega), if_pos (by omega), big]
  by_cases c2 : a2.size > 1000
  · refine ⟨K0 + 1, fun n hn => ?_⟩
    obtain ⟨n, rfl⟩ : ∃ m, n = m + 1 := ⟨n - 1, by omega⟩
    show diptychlaw01_HexaOrder.f (n + 1) a0 a1 a2 a3 = _
    unfold diptychlaw01_HexaOrder.f
    rw [h0 _ (by omega)]
    simp only [Option.bind_some]
    rw [if_pos trivial, if_neg (by omega), if_neg (by omega), if_pos (by omega), big]
  by_cases c3 : a3 < 0
  · refine ⟨K0 + 1, fun n hn => ?_⟩
    obtain ⟨n, rfl⟩ : ∃ m, n = m + 1 := ⟨n - 1, by omega⟩
    show diptychlaw01_HexaOrder.f (n + 1) a0 a1 a2 a3 = _
    unfold diptychlaw01_HexaOrder.f
    rw [h0 _ (by omega)]
    simp only [Option.bind_some]
    rw [if_pos trivial, if_neg (by omega), if_neg (by omega), if_neg (by omega), if_pos (by omega), big]
  by_cases c4 : a3 > a2.size
  · refine ⟨K0 + 1, fun n hn => ?_⟩
    obtain ⟨n, rfl⟩ : ∃ m, n = m + 1 := ⟨n - 1, by omega⟩
    show diptychlaw01_HexaOrder.f (n + 1) a0 a1 a2 a3 = _
    unfold diptychlaw01_HexaOrder.f
    rw [h0 _ (by omega)]
    simp only [Option.bind_some]
    rw [if_pos trivial, if_neg (by omega), if_neg (by omega), if_neg (by omega), if_neg (by omega), decide_eq_true c4, big]
  obtain ⟨cut, rfl⟩ : ∃ m : Nat, a3 = (m : Int) := ⟨a3.toNat, by omega⟩
  obtain ⟨K1, h1⟩ := Ev.get (hexa_Digits_ev a0 (by omega))
  obtain ⟨K2, h2⟩ := Ev.get (hexa_Digits_ev a1 (by omega))
  obtain ⟨K3, h3⟩ := Ev.get (hexa_Begins_ev a0 a2 (by omega))
  obtain ⟨K4, h4⟩ := Ev.get (hexa_Begins_ev a0 (a2.extract 0 cut) (by omega))
  have hsz : (⟨(digs (L a0)).toArray⟩ : ByteArray).size = 2 * a0.size := by rw [size_L, mk_L, digs_length, ← size_L]
  refine ⟨K0 + K1 + K2 + K3 + K4 + 1, fun n hn => ?_⟩
  obtain ⟨n, rfl⟩ : ∃ m, n = m + 1 := ⟨n - 1, by omega⟩
  show diptychlaw01_HexaOrder.f (n + 1) a0 a1 a2 cut = _
  unfold diptychlaw01_HexaOrder.f
  rw [h0 _ (by omega)]
  simp only [Option.bind_some]
  rw [if_pos trivial, if_neg (by omega), if_neg (by omega), if_neg (by omega), if_neg (by omega), decide_eq_false c4]
  simp only [diptychlaw01_HexaOrder.j0]
  have he : ((((⟨(digs (L a0)).toArray⟩ : ByteArray).size : Int)) == wrap64 (2 * (a0.size : Int))) = true := by
    rw [hsz, show wrap64 (2 * (a0.size : Int)) = ((2 * a0.size : Nat) : Int) from w64n (by omega) (by omega)]
    exact beq_self_eq_true _
  rw [if_neg (by simp), h1 n (by omega), h2 n (by omega)]
  simp only [Option.bind_some]
  rw [if_pos (by rw [toList_L, toList_L, toList_L, toList_L, mk_L, mk_L, less_digs]; exact beq_self_eq_true _), h3 n (by omega)]
  simp only [Option.bind_some]
  by_cases cb : beg (L a0) (L a2) = true
  · rw [if_pos cb, if_pos (by omega), if_pos (by omega), Int.toNat_natCast, h4 n (by omega)]
    simp only [Option.bind_some]
    have hb : beg (L a0) (L (a2.extract 0 cut)) = true := by
      unfold beg at cb ⊢
      rw [beq_iff_eq] at cb ⊢
      rw [extract_L]
      simp only [List.drop_zero, Nat.sub_zero]
      have e := congrArg (List.take cut) cb
      rw [List.take_take] at e
      rw [List.length_take, e]
    rw [if_pos hb, he]
  · rw [if_neg cb, he]

/-! ### one -/
theorem pick_eq (m q : List ByteArray) (h : ∀ x, x ∈ m ↔ x ∈ q) : pick m = pick q := by
  have key : ∀ (b : ByteArray) (r : List ByteArray), (r.all fun x => L x == L b) = true → ∀ x ∈ b :: r, x = b := by
    intro b r hr x hx
    rcases List.mem_cons.1 hx with h | h
    · exact h
    · have := List.all_eq_true.1 hr x h
      exact ext_L (by simpa using this)
  match m, q with
  | [], [] => rfl
  | [], b :: r => exact absurd ((h b).2 (List.mem_cons_self)) (by simp)
  | b :: r, [] => exact absurd ((h b).1 (List.mem_cons_self)) (by simp)
  | b :: r, c :: s =>
    simp only [pick]
    have hbc : b ∈ c :: s := (h b).1 List.mem_cons_self
    have hcb : c ∈ b :: r := (h c).2 List.mem_cons_self
    by_cases e1 : (r.all fun x => L x == L b) = true
    · have hcb' := key b r e1 c hcb
      subst hcb'
      have e2 : (s.all fun x => L x == L c) = true := by
        rw [List.all_eq_true]
        intro x hx
        rw [key c r e1 x ((h x).2 (List.mem_cons_of_mem _ hx))]
        exact beq_self_eq_true _
      rw [if_pos e1, if_pos e2]
    · by_cases e2 : (s.all fun x => L x == L c) = true
      · exfalso
        apply e1
        have hb' := key c s e2 b hbc
        subst hb'
        rw [List.all_eq_true]
        intro x hx
        rw [key b s e2 x ((h x).1 (List.mem_cons_of_mem _ hx))]
        exact beq_self_eq_true _
      · rw [if_neg e1, if_neg e2]
theorem findR_eq (l m : List ByteArray) (s : ByteArray) (h : ∀ x, beg (L x) (L s) = true → (x ∈ l ↔ x ∈ m)) : findR l s = findR m s := by
  unfold findR
  by_cases c : shortR (L s) = 0
  · rw [if_pos c, if_pos c]
    apply pick_eq
    intro x
    rw [List.mem_filter, List.mem_filter]
    constructor
    · rintro ⟨h1, h2⟩; exact ⟨(h x h2).1 h1, h2⟩
    · rintro ⟨h1, h2⟩; exact ⟨(h x h2).2 h1, h2⟩
  · rw [if_neg c, if_neg c]

theorem one_round (n : Nat) (l : List ByteArray) (s x5 : ByteArray) (x6 : Int) (tu so : List ByteArray) (i : Nat) (x : ByteArray) (c : Bool) (hi : i < l.length) (hn : i < 1000) (h1 : tu.length < 1000) (h2 : so.length < 1000) (hx : l.getD i ByteArray.empty = x) (hb : hexa_Begins.f n x s = some c) :
    diptychlaw01_HexaOne.l0 (n + 1) l s x5 x6 tu so (i : Int) = diptychlaw01_HexaOne.l0 n l s x5 x6 (tu ++ [x]) (if c = true then so ++ [x] else so) ((i : Int) - 1) := by
  have w3 : wrap64 ((i : Int) - 1) = ((i : Int) - 1) := w64 (by omega) (by omega)
  rw [diptychlaw01_HexaOne.l0, rdOf_nat, hx, w3]
  clear w3 hx
  rw [if_pos (by omega), if_pos (by omega), if_pos (by omega), if_pos (by omega), Option.bind_some, hb, Option.bind_some]
  cases c
  · rw [if_neg (by simp), if_neg (by simp)]
  · rw [if_pos rfl, if_pos (by omega), if_pos rfl]
theorem one_l0 (l : List ByteArray) (s : ByteArray) (hl : Small l) (hn : l.length ≤ 200) (hs : s.size ≤ 1099511627776) (R : ByteArray × Int) (hR : R = findR l s) : ∀ (i : Nat) (turned some_ : List ByteArray), i ≤ l.length →
    (∀ x, x ∈ turned ↔ x ∈ l.drop i) → (∀ x, x ∈ some_ ↔ x ∈ l.drop i ∧ beg (L x) (L s) = true) → turned.length + i = l.length → some_.length ≤ turned.length →
    Ev (fun k => diptychlaw01_HexaOne.l0 k l s R.1 R.2 turned some_ ((i : Int) - 1)) true := by
  intro i
  induction i with
  | zero =>
    intro tu so hi ht hso hl1 hl2
    have st : Small tu := fun x hx => hl x (by have := (ht x).1 hx; simpa using this)
    have ss : Small so := fun x hx => hl x (by have := ((hso x).1 hx).1; simpa using this)
    have e1 : findR tu s = R := by rw [hR]; exact findR_eq _ _ _ fun x _ => by rw [ht x]; simp
    have e2 : findR so s = R := by rw [hR]; exact findR_eq _ _ _ fun x hx => by rw [hso x]; simp [hx]
    refine Ev.both (hexa_Find_ev tu s st (by omega) hs) (hexa_Find_ev so s ss (by omega) hs) fun n h1 h2 => ?_
    simp only [diptychlaw01_HexaOne.l0]
    rw [if_neg (by omega), h1, h2, e1, e2]
    simp
  | succ i ih =>
    intro tu so hi ht hso hl1 hl2
    have hL : i < l.length := by clear hl1 hl2 hs hn; omega
    have hi' : i ≤ l.length := Nat.le_of_lt hL
    have hi2 : i < 1000 := by clear hl1 hl2 hs; omega
    have hl3 : tu.length + [ByteArray.empty].length + i = l.length := by clear hl2 hs hn; simp only [List.length_cons, List.length_nil]; omega
    have ht2 : tu.length < 1000 := by clear hl2 hs hl3; omega
    have hs2 : so.length < 1000 := by clear hs hl3 hl1; omega
    have e1 : (((i + 1 : Nat) : Int) - 1) = (i : Int) := by clear hl1 hl2 hs hn hl3; omega
    have hdr := drop_cons' l i hL ByteArray.empty
    have hsz := small_get hl i hL
    generalize hx : l.getD i ByteArray.empty = x at hdr hsz
    have ht' : ∀ y, y ∈ tu ++ [x] ↔ y ∈ l.drop i := by
      intro y
      rw [List.mem_append, ht y, hdr]
      simp only [List.mem_cons, List.mem_nil_iff, or_false]
      exact Or.comm
    by_cases cb : beg (L x) (L s) = true
    · have hso' : ∀ y, y ∈ so ++ [x] ↔ y ∈ l.drop i ∧ beg (L y) (L s) = true := by
        intro y
        rw [List.mem_append, hso y, hdr]
        simp only [List.mem_cons, List.mem_nil_iff, or_false]
        constructor
        · rintro (⟨h1, h2⟩ | rfl)
          · exact ⟨.inr h1, h2⟩
          · exact ⟨.inl rfl, cb⟩
        · rintro ⟨rfl | h1, h2⟩
          · exact .inr rfl
          · exact .inl ⟨h1, h2⟩
      refine Ev.both (hexa_Begins_ev x s hsz) (ih (tu ++ [x]) (so ++ [x]) hi' ht' hso' (by rw [List.length_append]; exact hl3) (by rw [List.length_append, List.length_append]; exact Nat.add_le_add_right hl2 1)) fun n h1 h2 => ?_
      rw [e1, one_round n l s R.1 R.2 tu so i x _ hL hi2 ht2 hs2 hx h1, if_pos cb]
      exact h2
    · have hso' : ∀ y, y ∈ so ↔ y ∈ l.drop i ∧ beg (L y) (L s) = true := by
        intro y
        rw [hso y, hdr]
        simp only [List.mem_cons]
        constructor
        · rintro ⟨h1, h2⟩; exact ⟨.inr h1, h2⟩
        · rintro ⟨rfl | h1, h2⟩
          · exact absurd h2 cb
          · exact ⟨h1, h2⟩
      refine Ev.both (hexa_Begins_ev x s hsz) (ih (tu ++ [x]) so hi' ht' hso' (by rw [List.length_append]; exact hl3) (by rw [List.length_append]; exact Nat.le_trans hl2 (Nat.le_add_right _ _))) fun n h1 h2 => ?_
      rw [e1, one_round n l s R.1 R.2 tu so i x _ hL hi2 ht2 hs2 hx h1, if_neg cb]
      exact h2

theorem HexaOne (l0 : List ByteArray) (a1 : ByteArray) (w0 : l0.length * 16 ≤ 140737488351232) (w1 : a1.size ≤ 140737488351232) : ∃ k, diptychlaw01_HexaOne.f k l0 a1 = some true := by
  refine Ev.rounds (g := fun k => diptychlaw01_HexaOne.f k l0 a1) ?_
  obtain ⟨K0, h0⟩ := Ev.get awake_ev
  obtain ⟨b, hb, hb2⟩ := few_ev l0
  obtain ⟨K1, h1⟩ := Ev.get hb
  have big : ∀ n, diptychlaw01_HexaOne.j0 (n + 1) l0 a1 true = some true := fun n => by simp [diptychlaw01_HexaOne.j0]
  cases b with
  | false =>
    refine ⟨K0 + K1 + 1, fun n hn => ?_⟩
    obtain ⟨n, rfl⟩ : ∃ m, n = m + 1 := ⟨n - 1, by omega⟩
    show diptychlaw01_HexaOne.f (n + 1) l0 a1 = _
    unfold diptychlaw01_HexaOne.f
    rw [h0 _ (by omega), h1 _ (by omega)]
    simp only [Option.bind_some]
    rw [if_pos trivial, if_neg (by simp), big]
  | true =>
    obtain ⟨hlen, hsz⟩ := hb2 rfl
    have hs : Small l0 := fun x hx => by have := hsz x hx; omega
    by_cases c1 : a1.size > 200
    · refine ⟨K0 + K1 + 1, fun n hn => ?_⟩
      obtain ⟨n, rfl⟩ : ∃ m, n = m + 1 := ⟨n - 1, by omega⟩
      show diptychlaw01_HexaOne.f (n + 1) l0 a1 = _
      unfold diptychlaw01_HexaOne.f
      rw [h0 _ (by omega), h1 _ (by omega)]
      simp only [Option.bind_some]
      rw [if_pos trivial, if_pos trivial, decide_eq_true (show (a1.size : Int) > 200 by omega), big]
    · obtain ⟨K2, h2⟩ := Ev.get (hexa_Find_ev l0 a1 hs (by omega) (by omega))
      obtain ⟨K3, h3⟩ := Ev.get (one_l0 l0 a1 hs hlen (by omega) _ rfl l0.length [] [] (by omega) (by simp) (by simp) (by simp) (by simp))
      refine ⟨K0 + K1 + K2 + K3 + 1, fun n hn => ?_⟩
      obtain ⟨n, rfl⟩ : ∃ m, n = m + 1 := ⟨n - 1, by omega⟩
      show diptychlaw01_HexaOne.f (n + 1) l0 a1 = _
      unfold diptychlaw01_HexaOne.f
      rw [h0 _ (by omega), h1 _ (by omega)]
      simp only [Option.bind_some]
      rw [if_pos trivial, if_pos trivial, decide_eq_false (show ¬ (a1.size : Int) > 200 by omega)]
      simp only [diptychlaw01_HexaOne.j0]
      rw [if_neg (by simp), h2 n (by omega)]
      simp only [Option.bind_some]
      rw [show wrap64 ((l0.length : Int) - 1) = ((l0.length : Int) - 1) from w64 (by omega) (by omega)]
      exact h3 n (by omega)

/-! ### finds -/
theorem digs_inj : ∀ a b : List UInt8, digs a = digs b → a = b := by
  intro a b h
  have := congrArg unhex h
  rw [unhex_digs, unhex_digs] at this
  exact Option.some.inj this
theorem lcp_lt : ∀ (a b : List UInt8), a.length = b.length → a ≠ b → lcp a b < a.length
  | [], [], _, h => absurd rfl h
  | [], _ :: _, h, _ => by simp at h
  | _ :: _, [], h, _ => by simp at h
  | a :: x, b :: y, h, hne => by
    simp only [lcp]
    split
    · rename_i e
      subst e
      have := lcp_lt x y (by simpa using h) (fun e => hne (by rw [e]))
      simp; omega
    · simp
theorem hexB_digs : ∀ l : List UInt8, hexB (digs l) = true
  | [] => rfl
  | b :: r => by
    have h0 := UInt8.toNat_lt b
    have ih := hexB_digs r
    unfold hexB at ih ⊢
    simp only [digs, List.all_cons, ih, Bool.and_true]
    rw [hv_hx _ (by omega), hv_hx _ (by omega)]
    simp
    omega
theorem hexB_take (l : List UInt8) (n : Nat) (h : hexB l = true) : hexB (l.take n) = true := by
  unfold hexB at h ⊢
  rw [List.all_eq_true] at h ⊢
  exact fun x hx => h x (List.mem_of_mem_take hx)
/-- What is found by k digits of b. -/
theorem found (l : List ByteArray) (b : ByteArray) (hb : b ∈ l) (same : ∀ x ∈ l, x.size = b.size) (h2 : 2 ≤ b.size) (h32 : b.size ≤ 32) (k : Nat) (h4 : 4 ≤ k) (hk : k ≤ (digs (L b)).length) (d : ByteArray) (hd : L d = (digs (L b)).take k) :
    findR l d = if needs (L b) 0 l ≤ k then (b, 0) else (⟨#[]⟩, 11) := by
  have hdl : (digs (L b)).length = 2 * b.size := by rw [digs_length, size_L]
  have hs : shortR (L d) = 0 := by
    unfold shortR
    rw [hd, if_neg (by rw [List.length_take]; omega), if_pos (hexB_take _ _ (hexB_digs _))]
  have hbeg : ∀ x, beg (L x) (L d) = decide (k ≤ lcp (digs (L b)) (digs (L x))) := fun x => by rw [hd]; exact beg_take _ _ _ hk
  have hself : beg (L b) (L d) = true := by
    rw [hd]; unfold beg
    rw [List.length_take, Nat.min_eq_left hk]; exact beq_self_eq_true _
  have ht := tells_needs (L b) l k
  unfold findR
  rw [if_pos hs]
  have hmem : b ∈ l.filter fun x => beg (L x) (L d) := List.mem_filter.2 ⟨hb, hself⟩
  by_cases c : needs (L b) 0 l ≤ k
  · rw [if_pos c]
    have ha := ht.2 c
    unfold tells at ha
    rw [List.all_eq_true] at ha
    have only : ∀ x, x ∈ (l.filter fun x => beg (L x) (L d)) ↔ x ∈ [b] := by
      intro x
      rw [List.mem_singleton, List.mem_filter]
      constructor
      · rintro ⟨hx, hx2⟩
        have := ha x hx
        rw [hbeg x] at hx2
        rw [hx2] at this
        simp only [Bool.not_true, Bool.or_false, decide_eq_true_iff] at this
        exact ext_L this
      · rintro rfl; exact ⟨hb, hself⟩
    rw [pick_eq _ _ only]
    simp [pick]
  · rw [if_neg c]
    have hf : tells (L b) k l = false := by rw [Bool.eq_false_iff]; exact fun h => c (ht.1 h)
    unfold tells at hf
    rw [List.all_eq_false] at hf
    obtain ⟨x, hx, hx2⟩ := hf
    simp only [Bool.not_eq_true, Bool.or_eq_false_iff, decide_eq_false_iff_not, Bool.not_eq_false'] at hx2
    have hxm : x ∈ l.filter fun x => beg (L x) (L d) := List.mem_filter.2 ⟨hx, by rw [hbeg x]; exact hx2.2⟩
    generalize l.filter (fun x => beg (L x) (L d)) = m at hmem hxm
    match m, hmem, hxm with
    | c :: r, hmem, hxm =>
      simp only [pick]
      rw [if_neg]
      intro hr
      have key : ∀ y ∈ c :: r, L y = L c := by
        intro y hy
        rcases List.mem_cons.1 hy with h | h
        · rw [h]
        · have := List.all_eq_true.1 hr y h
          simpa using this
      exact hx2.1 ((key x hxm).trans (key b hmem).symm)

theorem finds_l1 (l : List ByteArray) (b : ByteArray) (hl : Small l) (hn : l.length ≤ 200) (hb : b ∈ l) (same : ∀ x ∈ l, x.size = b.size) (h2 : 2 ≤ b.size) (h32 : b.size ≤ 32) (n : Nat) (hN : ∀ k, 4 ≤ k → k ≤ 2 * b.size → (n ≤ k ↔ needs (L b) 0 l ≤ k)) :
    ∀ (d k : Nat), k + d = 2 * b.size + 1 → 4 ≤ k → Ev (fun q => diptychlaw01_HexaFinds.l1 q l b (⟨(digs (L b)).toArray⟩ : ByteArray) (n : Int) (k : Int)) true := by
  have hsz : (⟨(digs (L b)).toArray⟩ : ByteArray).size = 2 * b.size := by rw [size_L, mk_L, digs_length, ← size_L]
  have hdl : (digs (L b)).length = 2 * b.size := by rw [digs_length, size_L]
  intro d
  induction d with
  | zero =>
    intro k hk h4
    refine Ev.one fun q => ?_
    simp only [diptychlaw01_HexaFinds.l1]
    rw [if_neg (by omega)]
  | succ d ih =>
    intro k hk h4
    have w3 := Lib.hid (show wrap64 ((k : Int) + 1) = ((k + 1 : Nat) : Int) from w64n (by omega) (by omega))
    have hex : L ((⟨(digs (L b)).toArray⟩ : ByteArray).extract 0 k) = (digs (L b)).take k := by rw [extract_L, mk_L]; simp
    have hf := found l b hb same h2 h32 k h4 (by omega) _ hex
    have hsm : ((⟨(digs (L b)).toArray⟩ : ByteArray).extract 0 k).size ≤ 1099511627776 := by rw [size_L, hex, List.length_take]; omega
    have hk2 := hN k h4 (by omega)
    refine Ev.both (hexa_Find_ev l _ hl (by omega) hsm) (ih (k + 1) (by omega) (by omega)) fun q h1 hq => ?_
    rw [hf] at h1
    simp only [diptychlaw01_HexaFinds.l1]
    rw [w3.out, Int.toNat_natCast, h1, if_pos (by omega), if_pos (by omega)]
    simp only [Option.bind_some]
    by_cases c : needs (L b) 0 l ≤ k
    · have := hk2.2 c
      rw [if_pos c, if_pos (by omega), if_pos rfl, if_pos rfl, if_neg (by omega)]
      exact hq
    · have : ¬ n ≤ k := fun h => c (hk2.1 h)
      rw [if_neg c, if_neg (by omega), if_pos (by omega), if_pos rfl]
      exact hq

theorem finds_l0 (l : List ByteArray) (w : Nat) (hw : w < l.length) (hl : Small l) (hn : l.length ≤ 200) : ∀ (d i : Nat), i + d = l.length → (∀ x ∈ l.take i, x.size = (l.getD 0 ByteArray.empty).size ∧ 2 ≤ x.size ∧ x.size ≤ 32) →
    Ev (fun k => diptychlaw01_HexaFinds.l0 k l (w : Int) (i : Int)) true := by
  have r0 : ∀ d : ByteArray, rdOf d l 0 = l.getD 0 d := fun d => rdOf_nat d l 0
  intro d
  induction d with
  | zero =>
    intro i hi hall
    rw [List.take_of_length_le (by omega)] at hall
    have hb : l.getD w ByteArray.empty ∈ l := by rw [List.getD_eq_getElem?_getD, List.getElem?_eq_getElem hw]; exact List.getElem_mem hw
    have h1 := hall _ hb
    have same : ∀ x ∈ l, x.size = (l.getD w ByteArray.empty).size := fun x hx => (hall x hx).1.trans h1.1.symm
    have hbs := small_get hl w hw
    generalize hg : l.getD w ByteArray.empty = b at hb h1 same hbs
    have hdl : (digs (L b)).length = 2 * b.size := by rw [digs_length, size_L]
    have hsz : (⟨(digs (L b)).toArray⟩ : ByteArray).size = 2 * b.size := by rw [size_L, mk_L, hdl]
    have hneed : needs (L b) 0 l ≤ 2 * b.size := by
      have key : ∀ (m : List ByteArray) (q : Nat), (∀ x ∈ m, x.size = b.size) → q ≤ 2 * b.size → needs (L b) q m ≤ 2 * b.size := by
        intro m
        induction m with
        | nil => intro q _ h; simpa [needs] using h
        | cons x m ih =>
          intro q hm hq
          simp only [needs]
          split
          · exact ih q (fun y hy => hm y (List.mem_cons_of_mem _ hy)) hq
          · rename_i hne
            have hx := hm x List.mem_cons_self
            have := lcp_lt (digs (L b)) (digs (L x)) (by rw [digs_length, digs_length, ← size_L, ← size_L, hx]) (fun e => hne (digs_inj _ _ e).symm)
            exact ih _ (fun y hy => hm y (List.mem_cons_of_mem _ hy)) (by omega)
      exact key l 0 same (by omega)
    have hmx := needs_max (L b) l 4
    have hle : leastR l (L b) = max 4 (needs (L b) 0 l) := by unfold leastR; omega
    have hN : ∀ k, 4 ≤ k → k ≤ 2 * b.size → (leastR l (L b) ≤ k ↔ needs (L b) 0 l ≤ k) := fun k hk1 hk2 => by omega
    have l1 := finds_l1 l b hl hn hb same h1.2.1 h1.2.2 (leastR l (L b)) hN (2 * b.size + 1 - 4) 4 (by omega) (by omega)
    obtain ⟨K1, k1⟩ := Ev.and (hexa_Digits_ev b hbs) (hexa_Least_ev l b hl (by omega) hbs)
    obtain ⟨K2, k2⟩ := Ev.get l1
    refine ⟨K1 + K2 + 2, fun n hn' => ?_⟩
    obtain ⟨n, rfl⟩ : ∃ m, n = m + 2 := ⟨n - 2, by omega⟩
    show diptychlaw01_HexaFinds.l0 (n + 2) l (w : Int) (i : Int) = _
    rw [diptychlaw01_HexaFinds.l0]
    rw [if_neg (by omega), if_pos (by omega), if_pos (by omega), rdOf_nat, hg, (k1 (n + 1) (by omega)).1, (k1 (n + 1) (by omega)).2]
    simp only [Option.bind_some]
    rw [if_neg (by omega), decide_eq_false (by omega)]
    simp only [diptychlaw01_HexaFinds.j2]
    rw [if_neg (by simp)]
    exact k2 n (by omega)
  | succ d ih =>
    intro i hi hall
    have hL : i < l.length := by omega
    have w3 := Lib.hid (show wrap64 ((i : Int) + 1) = ((i + 1 : Nat) : Int) from w64n (by omega) (by omega))
    have htk := take_succ' l i hL ByteArray.empty
    generalize hx : l.getD i ByteArray.empty = x at htk
    generalize hy : l.getD 0 ByteArray.empty = y at hall
    by_cases c : x.size = y.size ∧ 2 ≤ x.size ∧ x.size ≤ 32
    · refine Ev.succ (ih (i + 1) (by omega) (by
        rw [hy, htk]
        intro z hz
        rcases List.mem_append.1 hz with h | h
        · exact hall z h
        · simp at h; subst h; exact c)) fun n hn' => ?_
      simp only [diptychlaw01_HexaFinds.l0]
      rw [rdOf_nat, r0, hx, hy, w3.out, if_pos (by omega), if_pos (by omega), if_pos (by omega), if_pos (by omega), if_neg (by omega), if_neg (by omega)]
      exact hn'
    · refine Ev.one fun n => ?_
      simp only [diptychlaw01_HexaFinds.l0]
      rw [rdOf_nat, r0, hx, hy, if_pos (by omega), if_pos (by omega), if_pos (by omega)]
      by_cases c1 : x.size = y.size
      · rw [if_pos (by omega)]
        by_cases c2 : x.size < 2
        · rw [if_pos (by omega)]
        · rw [if_neg (by omega), if_pos (by omega)]
      · rw [if_neg (by omega)]

theorem HexaFinds (l0 : List ByteArray) (a1 : Int) (w0 : l0.length * 16 ≤ 140737488351232) (w1 : (Lit.int .i64 a1).wf = true) : ∃ k, diptychlaw01_HexaFinds.f k l0 a1 = some true := by
  refine Ev.rounds (g := fun k => diptychlaw01_HexaFinds.f k l0 a1) ?_
  obtain ⟨K0, h0⟩ := Ev.get awake_ev
  obtain ⟨b, hb, hb2⟩ := few_ev l0
  obtain ⟨K1, h1⟩ := Ev.get hb
  have big : ∀ n, diptychlaw01_HexaFinds.j0 (n + 1) l0 a1 true = some true := fun n => by simp [diptychlaw01_HexaFinds.j0]
  cases b with
  | false =>
    refine ⟨K0 + K1 + 1, fun n hn => ?_⟩
    obtain ⟨n, rfl⟩ : ∃ m, n = m + 1 := ⟨n - 1, by omega⟩
    show diptychlaw01_HexaFinds.f (n + 1) l0 a1 = _
    unfold diptychlaw01_HexaFinds.f
    rw [h0 _ (by omega), h1 _ (by omega)]
    simp only [Option.bind_some]
    rw [if_pos trivial, if_neg (by simp), big]
  | true =>
    obtain ⟨hlen, hsz⟩ := hb2 rfl
    have hs : Small l0 := fun x hx => by have := hsz x hx; omega
    by_cases c1 : a1 < 0
    · refine ⟨K0 + K1 + 1, fun n hn => ?_⟩
      obtain ⟨n, rfl⟩ : ∃ m, n = m + 1 := ⟨n - 1, by omega⟩
      show diptychlaw01_HexaFinds.f (n + 1) l0 a1 = _
      unfold diptychlaw01_HexaFinds.f
      rw [h0 _ (by omega), h1 _ (by omega)]
      simp only [Option.bind_some]
      rw [if_pos trivial, if_pos trivial, if_pos c1, big]
    by_cases c2 : a1 ≥ l0.length
    · refine ⟨K0 + K1 + 1, fun n hn => ?_⟩
      obtain ⟨n, rfl⟩ : ∃ m, n = m + 1 := ⟨n - 1, by omega⟩
      show diptychlaw01_HexaFinds.f (n + 1) l0 a1 = _
      unfold diptychlaw01_HexaFinds.f
      rw [h0 _ (by omega), h1 _ (by omega)]
      simp only [Option.bind_some]
      rw [if_pos trivial, if_pos trivial, if_neg c1, decide_eq_true c2, big]
    obtain ⟨w, rfl⟩ : ∃ m : Nat, a1 = (m : Int) := ⟨a1.toNat, by omega⟩
    obtain ⟨K2, h2⟩ := Ev.get (finds_l0 l0 w (by omega) hs hlen l0.length 0 (by omega) (by simp))
    refine ⟨K0 + K1 + K2 + 1, fun n hn => ?_⟩
    obtain ⟨n, rfl⟩ : ∃ m, n = m + 1 := ⟨n - 1, by omega⟩
    show diptychlaw01_HexaFinds.f (n + 1) l0 w = _
    unfold diptychlaw01_HexaFinds.f
    rw [h0 _ (by omega), h1 _ (by omega)]
    simp only [Option.bind_some]
    rw [if_pos trivial, if_pos trivial, if_neg c1, decide_eq_false c2]
    simp only [diptychlaw01_HexaFinds.j0]
    rw [if_neg (by simp)]
    exact h2 n (by omega)
end Go.Proofs.YtgjnpdnmcahhfaaDoor.U
