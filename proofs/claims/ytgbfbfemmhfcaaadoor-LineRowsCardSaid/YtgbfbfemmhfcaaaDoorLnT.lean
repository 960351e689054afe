/- The statements LineTexts and LineRows, over plain functions. -/
import Derived.Test.YtgbfbfemmhfcaaaDoorPx13
import Derived.Test.YtgbfbfemmhfcaaaDoorPx14
import Derived.Test.YtgbfbfemmhfcaaaDoorLnM
namespace Go.Proofs.YtgbfbfemmhfcaaaDoor.U
set_option linter.unusedVariables false
open Go.RowKit Go.Proofs.YtgbfbfemmhfcaaaDoor Go.Proofs.YtgbfbfemmhfcaaaDoor.P Go.Proofs.YtgbfbfemmhfcaaaDoorW.PrintWords

theorem LineTexts (l0 : List ByteArray) (a1 : ByteArray) (w0 : l0.length * 16 ≤ 140737488351232) (w1 : a1.size ≤ 140737488351232) : ∃ k, diptychlaw27_LineTexts.f k l0 a1 = some true := by
  obtain ⟨b, hF, hB⟩ := few_ev l0
  obtain ⟨K0, h0⟩ := Ev.and awake_ev hF
  cases b with
  | false =>
    refine ⟨K0 + 1, ?_⟩
    unfold diptychlaw27_LineTexts.f
    rw [(h0 _ (by omega)).1, Option.bind_some, if_pos rfl, (h0 _ (by omega)).2, Option.bind_some, if_neg (by decide), diptychlaw27_LineTexts.j0, if_pos rfl]
  | true =>
    obtain ⟨q1, q2⟩ := hB rfl
    have hf : ∀ n, K0 ≤ n → diptychlaw27_LineTexts.f n l0 a1 = diptychlaw27_LineTexts.j0 n l0 a1 (decide ((a1.size : Int) > 10000)) := by
      intro n hn
      unfold diptychlaw27_LineTexts.f
      rw [(h0 n hn).1, Option.bind_some, if_pos rfl, (h0 n hn).2, Option.bind_some, if_pos rfl]
    by_cases c : 10000 < a1.size
    · refine ⟨K0 + 1, ?_⟩
      rw [hf _ (by omega), show decide ((a1.size : Int) > 10000) = true from decide_eq_true (by omega), diptychlaw27_LineTexts.j0, if_pos rfl]
    · obtain ⟨K1, h1⟩ := Ev.and (line_Put_ev l0 (by omega) (by omega)) (ref_Put_ev l0 (by omega) (by omega))
      obtain ⟨K2, h2⟩ := Ev.and (line_Take_ev a1 (by omega)) (ref_Take_ev a1 (by omega))
      have hts := takeR_size a1
      have htl : (takeR a1).1.length ≤ 1099511627776 := by
        have := putL_len_le (takeR a1).1
        rw [putB_len] at this
        omega
      obtain ⟨K3, h3⟩ := Ev.get (texts_ev (takeR a1).1 (takeR a1).1 htl)
      have hj : ∀ n, K1 + K2 + K3 ≤ n → diptychlaw27_LineTexts.j0 (n + 1) l0 a1 false = diptychlaw27_LineTexts.j1 n l0 a1 (putR l0).1 (putR l0).2 false := by
        intro n hn
        rw [diptychlaw27_LineTexts.j0, if_neg (by decide), Option.bind_some, if_pos (by show 0 + l0.length < _; omega), show ([] : List ByteArray) ++ l0 = l0 from rfl, (h1 n (by omega)).1, Option.bind_some, (h1 n (by omega)).2, Option.bind_some, (h2 n (by omega)).1, Option.bind_some, (h2 n (by omega)).2, Option.bind_some, if_pos rfl, if_pos rfl, h3 n (by omega), Option.bind_some, if_pos (by simp), if_pos rfl, bne_self_eq_false]
      by_cases cl : longs l0 = true
      · refine ⟨K0 + K1 + K2 + K3 + 2, ?_⟩
        rw [hf _ (by omega), show decide ((a1.size : Int) > 10000) = false from decide_eq_false (by omega), hj _ (by omega), putR, if_pos cl, diptychlaw27_LineTexts.j1, if_neg (by decide), if_neg (by decide)]
      · have hl := (longs_lim l0).1 (by simpa using cl)
        have h4 := line_Take_ev ((⟨(putL l0).toArray⟩ : ByteArray) ++ a1) (by rw [put_app, ba_len, List.length_append, ← size_L]; omega)
        rw [put_app, takeR_put l0 hl, self_L] at h4
        obtain ⟨K4, h4⟩ := Ev.and h4 (texts_ev l0 l0 (by omega))
        refine ⟨K0 + K1 + K2 + K3 + K4 + 2, ?_⟩
        rw [hf _ (by omega), show decide ((a1.size : Int) > 10000) = false from decide_eq_false (by omega), hj _ (by omega), putR, if_neg cl, diptychlaw27_LineTexts.j1, if_neg (by decide), if_pos rfl, if_pos (by rw [ba_len]; omega), put_app, (h4 _ (by omega)).1, Option.bind_some, if_pos rfl, if_pos rfl, (h4 _ (by omega)).2, Option.bind_some, decide_eq_true rfl]
theorem rows_l0 (l m : List ByteArray) (hl : Lim l) (hm : Lim m) (h1 : l.length ≤ 500) (h2 : (putL l).length ≤ 300000) (h3 : m.length ≤ 500) (h4 : (putL m).length ≤ 300000) : ∀ (d i : Nat), i + d = l.length →
    Ev (fun k => diptychlaw27_LineRows.l0 k l m (⟨(putL l).toArray⟩ : ByteArray) (⟨(putL m).toArray⟩ : ByteArray) ((4 + (putB (l.take i)).length : Nat) : Int) (i : Int)) true := by
  intro d
  induction d with
  | zero =>
    intro i hi
    have hT := line_Take_ev ((⟨(putL l).toArray⟩ : ByteArray) ++ (⟨(putL m).toArray⟩ : ByteArray)) (by rw [put_app, ba_len, List.length_append, mk_L]; omega)
    rw [put_app, takeR_put l hl, self_L] at hT
    have hU := line_Take_ev (⟨(putL m).toArray⟩ : ByteArray) (by rw [ba_len]; omega)
    have hm2 := takeR_put m hm []
    rw [List.append_nil] at hm2
    rw [hm2] at hU
    obtain ⟨K1, hK1⟩ := Ev.and hT hU
    obtain ⟨K2, hK2⟩ := Ev.and (texts_ev l l (by omega)) (texts_ev m m (by omega))
    refine ⟨K1 + K2 + 1, fun n hn => ?_⟩
    obtain ⟨k, rfl⟩ : ∃ k, n = k + 1 := ⟨n - 1, by omega⟩
    show diptychlaw27_LineRows.l0 (k + 1) l m _ _ _ _ = _
    have hb := putB_len l
    rw [diptychlaw27_LineRows.l0, if_neg (by omega), if_pos (by rw [ba_len, ba_len]; omega), put_app, mk_L, (hK1 k (by omega)).1, Option.bind_some]
    rw [show (l, (⟨(putL m).toArray⟩ : ByteArray), (0 : Int)).2.1 = (⟨(putL m).toArray⟩ : ByteArray) from rfl, (hK1 k (by omega)).2, Option.bind_some, if_pos (by rw [ba_len, List.take_of_length_le (by omega)]; omega), if_pos rfl, if_pos rfl, if_pos rfl, if_pos (by rw [toList_L]), (hK2 k (by omega)).1, Option.bind_some, decide_eq_true rfl, if_pos rfl, (hK2 k (by omega)).2, Option.bind_some, decide_eq_true rfl]
  | succ d ih =>
    intro i hi
    have ht := putB_take l i (by omega)
    have hT := putB_take_le l (i + 1)
    have hr := rdOf_nat ByteArray.empty l i
    have hb := putB_len l
    have hn := ih (i + 1) (by omega)
    generalize l.getD i ByteArray.empty = x at ht hr
    have hlen : (putB (l.take (i + 1))).length = (putB (l.take i)).length + (4 + x.size) := by rw [ht, List.length_append, List.length_append, lenB_length, ← size_L]
    refine Ev.succ hn fun k hk => ?_
    show diptychlaw27_LineRows.l0 (k + 1) l m _ _ _ _ = _
    rw [diptychlaw27_LineRows.l0, if_pos (by omega), if_pos (by omega), hr, show wrap64 (((4 + (putB (l.take i)).length : Nat) : Int) + 4) = ((4 + (putB (l.take i)).length + 4 : Nat) : Int) from w64n (by omega) (by omega), show wrap64 (((4 + (putB (l.take i)).length + 4 : Nat) : Int) + (x.size : Int)) = ((4 + (putB (l.take (i + 1))).length : Nat) : Int) from w64n (by omega) (by omega), show wrap64 ((i : Int) + 1) = ((i + 1 : Nat) : Int) from w64n (by omega) (by omega)]
    exact hk
theorem LineRows (l0 l1 : List ByteArray) (w0 : l0.length * 16 ≤ 140737488351232) (w1 : l1.length * 16 ≤ 140737488351232) : ∃ k, diptychlaw27_LineRows.f k l0 l1 = some true := by
  obtain ⟨b, hF, hB⟩ := few_ev l0
  obtain ⟨b', hF', hB'⟩ := few_ev l1
  obtain ⟨K0, h0⟩ := Ev.and awake_ev hF
  obtain ⟨K1, h1⟩ := Ev.get hF'
  cases b with
  | false =>
    refine ⟨K0 + 1, ?_⟩
    unfold diptychlaw27_LineRows.f
    rw [(h0 _ (by omega)).1, Option.bind_some, if_pos rfl, (h0 _ (by omega)).2, Option.bind_some, if_neg (by decide), diptychlaw27_LineRows.j0, if_pos rfl]
  | true =>
    have hf : ∀ n, K0 + K1 ≤ n → diptychlaw27_LineRows.f n l0 l1 = diptychlaw27_LineRows.j0 n l0 l1 (!b') := by
      intro n hn
      unfold diptychlaw27_LineRows.f
      rw [(h0 n (by omega)).1, Option.bind_some, if_pos rfl, (h0 n (by omega)).2, Option.bind_some, if_pos rfl, h1 n (by omega), Option.bind_some]
    cases b' with
    | false =>
      refine ⟨K0 + K1 + 1, ?_⟩
      rw [hf _ (by omega), diptychlaw27_LineRows.j0, if_pos (by decide)]
    | true =>
      obtain ⟨q1, q2⟩ := hB rfl
      obtain ⟨q3, q4⟩ := hB' rfl
      obtain ⟨K2, h2⟩ := Ev.and (line_Put_ev l0 (by omega) (by omega)) (line_Put_ev l1 (by omega) (by omega))
      have hj : ∀ n, K0 + K1 + K2 ≤ n → diptychlaw27_LineRows.f (n + 1) l0 l1 = if (putR l0).2 = 0 then diptychlaw27_LineRows.j1 n l0 l1 (putR l0).1 (putR l1).1 ((putR l1).2 != 0) else diptychlaw27_LineRows.j1 n l0 l1 (putR l0).1 (putR l1).1 true := by
        intro n hn
        rw [hf _ (by omega), diptychlaw27_LineRows.j0, if_neg (by decide), (h2 n (by omega)).1, Option.bind_some, (h2 n (by omega)).2, Option.bind_some]
      by_cases c0 : longs l0 = true
      · refine ⟨K0 + K1 + K2 + 2, ?_⟩
        rw [hj _ (by omega), if_neg (by rw [putR, if_pos c0]; decide), diptychlaw27_LineRows.j1, if_pos rfl]
      · by_cases c1 : longs l1 = true
        · refine ⟨K0 + K1 + K2 + 2, ?_⟩
          rw [hj _ (by omega), if_pos (by rw [putR, if_neg c0]), show ((putR l1).2 != 0) = true from by rw [putR, if_pos c1]; decide, diptychlaw27_LineRows.j1, if_pos rfl]
        · obtain ⟨K3, h3⟩ := Ev.get (rows_l0 l0 l1 ((longs_lim l0).1 (by simpa using c0)) ((longs_lim l1).1 (by simpa using c1)) q1 q2 q3 q4 l0.length 0 (by omega))
          refine ⟨K0 + K1 + K2 + K3 + 3, ?_⟩
          rw [hj _ (by omega), if_pos (by rw [putR, if_neg c0]), show ((putR l1).2 != 0) = false from by rw [putR, if_neg c1]; rfl, diptychlaw27_LineRows.j1, if_neg (by decide), putR, if_neg c0, putR, if_neg c1]
          exact h3 _ (by omega)
end Go.Proofs.YtgbfbfemmhfcaaaDoor.U
