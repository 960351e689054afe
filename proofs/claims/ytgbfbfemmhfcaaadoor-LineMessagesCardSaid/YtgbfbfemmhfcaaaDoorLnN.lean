/- The statement LineMessages, over plain functions. -/
import Derived.Test.YtgbfbfemmhfcaaaDoorPx18
import Derived.Test.YtgbfbfemmhfcaaaDoorPx19
import Derived.Test.YtgbfbfemmhfcaaaDoorLnM
namespace Go.Proofs.YtgbfbfemmhfcaaaDoor.U
set_option linter.unusedVariables false
open Go.RowKit Go.Proofs.YtgbfbfemmhfcaaaDoor Go.Proofs.YtgbfbfemmhfcaaaDoor.P Go.Proofs.YtgbfbfemmhfcaaaDoorW.PrintWords

theorem same_ev (a b c : Int) (l : List ByteArray) (hl : l.length ≤ 1099511627776) : Ev (fun k => diptychref27_Same.f k a b c l a b c l) true :=
  Ev.map (texts_ev l l hl) fun n hn => by
    unfold diptychref27_Same.f
    rw [if_pos rfl, if_pos rfl, if_pos rfl, hn, Option.bind_some, decide_eq_true rfl]
theorem parse_len (g : ByteArray → Int) (hg : Gives g) (s : ByteArray) : (parseG g s).2.2.2.1.length ≤ 4096 := by
  by_cases c : (parseG g s).2.2.2.2 = 0
  · obtain ⟨a, b, c, l, hf, rfl⟩ := parse_ok g c
    rw [parse_print g hg hf]
    exact hf.2.2.1
  · rw [parse_bad g c]
    exact Nat.zero_le _
/-- One byte is another one: nothing is opened. -/
theorem turned (p l l' : List UInt8) (q : Nat) (b' : UInt8) (hl : l = sealL p) (hq : q < l.length) (hb : b' ≠ l.getD q 0) (hl' : l' = l.take q ++ b' :: l.drop (q + 1)) : ¬ sealL (l'.take (l'.length - 4)) = l' := by
  have hlen : l.length = p.length + 4 := by rw [hl, seal_len]
  have hlen' : l'.length = p.length + 4 := by rw [hl', List.length_append, List.length_take, List.length_cons, List.length_drop]; omega
  rw [hlen', Nat.add_sub_cancel]
  intro h
  by_cases c : q < p.length
  · have e1 : l.take q = p.take q := by rw [hl, sealL, List.take_append_of_le_length (by omega)]
    have e2 : l.drop (q + 1) = p.drop (q + 1) ++ be4 (sumN p) := by rw [hl, sealL, List.drop_append_of_le_length (by omega)]
    have e3 : l' = (p.take q ++ b' :: p.drop (q + 1)) ++ be4 (sumN p) := by rw [hl', e1, e2, List.append_assoc, List.cons_append]
    have e4 : l'.take p.length = p.take q ++ b' :: p.drop (q + 1) := by
      rw [e3, List.take_left']
      rw [List.length_append, List.length_take, List.length_cons, List.length_drop]
      omega
    have e5 := h
    rw [e4, e3, sealL] at e5
    have e6 := be4_inj (sumN_lt _) (sumN_lt _) (List.append_cancel_left e5)
    have e7 := cut_at p q c 0
    have e8 : sumN (p.take q ++ b' :: p.drop (q + 1)) = sumN (p.take q ++ p.getD q 0 :: p.drop (q + 1)) := by rw [← e7]; exact e6
    have e9 := sumN_turn _ _ _ _ e8
    refine hb (e9.trans ?_)
    rw [hl, sealL, List.getD_eq_getElem?_getD, List.getD_eq_getElem?_getD, List.getElem?_append_left c]
  · have e1 : l'.take p.length = p := by
      rw [hl', List.take_append_of_le_length (by rw [List.length_take]; omega), List.take_take, Nat.min_eq_left (by omega), hl, sealL, List.take_left]
    rw [e1, ← hl] at h
    refine hb ?_
    have e2 := congrArg (fun x => x.getD q 0) h
    rw [e2, hl', getD_mid _ _ _ _ _ (by rw [List.length_take]; omega)]
theorem bound_of {a b c : Int} {l : List ByteArray} (hf : Fine a b c l) (h : (putL l).length ≤ 300000) : (textM a b c l).size ≤ 300046 := by
  have := textM_size hf
  omega
theorem msg_j2 (a2 a3 : Int) (w3 : (Lit.int .u8 a3).wf = true) (h2 : 0 ≤ a2) {a b c : Int} {l : List ByteArray} (hf : Fine a b c l) (hs : (putL l).length ≤ 300000) : Ev (fun k => diptychlaw27_LineMessages.j2 k a2 a3 (textM a b c l) false) true := by
  have hsz : (textM a b c l).size = (putL (decs a b c ++ l)).length + 4 := by unfold textM; rw [ba_len, seal_len]
  have hbd := bound_of hf hs
  have hr : 0 ≤ a3 ∧ a3 < 256 := by
    simp [Lit.wf, IntKind.min, IntKind.max, IntKind.bits, IntKind.signed] at w3
    omega
  by_cases c0 : a3 = 0
  · refine Ev.one fun n => ?_
    show diptychlaw27_LineMessages.j2 (n + 1) a2 a3 _ _ = _
    rw [diptychlaw27_LineMessages.j2, if_neg (by decide), if_pos c0]
  · have hL : (L (textM a b c l)).length = (textM a b c l).size := (size_L _).symm
    have hopen : L (textM a b c l) = sealL (putL (decs a b c ++ l)) := rfl
    generalize textM a b c l = s at hsz hbd hL hopen
    obtain ⟨q, hq, hq2⟩ : ∃ q : Nat, Int.tmod a2 (s.size : Int) = (q : Int) ∧ q < s.size := by
      refine ⟨(Int.tmod a2 (s.size : Int)).toNat, ?_, ?_⟩
      · rw [Int.tmod_eq_emod_of_nonneg h2]
        have := Int.emod_nonneg a2 (b := (s.size : Int)) (by omega)
        omega
      · rw [Int.tmod_eq_emod_of_nonneg h2]
        have := Int.emod_nonneg a2 (b := (s.size : Int)) (by omega)
        have := Int.emod_lt_of_pos a2 (b := (s.size : Int)) (by omega)
        omega
    have hb := bt_L s q
    have hcut := cut_at (L s) q (by omega) 0
    generalize hc : (L s).getD q 0 = x at hb hcut
    have hx := UInt8.toNat_lt x
    have hxor : Go.bits .xor .u8 (x.toNat : Int) a3 = ((x.toNat ^^^ a3.toNat : Nat) : Int) := by
      have := xor8 x.toNat a3.toNat (by omega) (by omega)
      rwa [show ((a3.toNat : Nat) : Int) = a3 from by omega] at this
    have hlt : x.toNat ^^^ a3.toNat < 2 ^ 8 := Nat.xor_lt_two_pow hx (by omega)
    have hnum : strOfNums [Go.bits .xor .u8 (x.toNat : Int) a3] = ⟨[UInt8.ofNat (x.toNat ^^^ a3.toNat)].toArray⟩ := by
      rw [hxor, ← str_ints]
      simp only [ints, List.map_cons, List.map_nil]
      rw [u8_ofNat _ (by omega)]
    have hne : UInt8.ofNat (x.toNat ^^^ a3.toNat) ≠ (L s).getD q 0 := by
      rw [hc]
      intro h
      have h2 := congrArg UInt8.toNat h
      rw [u8_ofNat _ (by omega)] at h2
      have h3 : x.toNat ^^^ (x.toNat ^^^ a3.toNat) = x.toNat ^^^ x.toNat := by rw [h2]
      rw [← Nat.xor_assoc, Nat.xor_self, Nat.zero_xor] at h3
      omega
    generalize hy : UInt8.ofNat (x.toNat ^^^ a3.toNat) = y at hnum hne
    have htx : ((s.extract 0 q ++ (⟨[y].toArray⟩ : ByteArray)) ++ s.extract (q + 1) s.size) = ⟨((L s).take q ++ y :: (L s).drop (q + 1)).toArray⟩ := by
      apply ext_L
      rw [append_L, append_L, mk_L, mk_L, extract_head, mk_L, extract_tail, mk_L, List.append_assoc]
      rfl
    obtain ⟨l', hl'⟩ : ∃ l', l' = (L s).take q ++ y :: (L s).drop (q + 1) := ⟨_, rfl⟩
    rw [← hl'] at htx
    have hnot := turned _ (L s) l' q y hopen (by omega) hne hl'
    have hsize : l'.length = s.size := by rw [hl', List.length_append, List.length_take, List.length_cons, List.length_drop]; omega
    have hP := line_Parse_ev (⟨l'.toArray⟩ : ByteArray) (by rw [ba_len]; omega)
    have ho : openR (⟨l'.toArray⟩ : ByteArray) = (⟨#[]⟩, 14) := by
      unfold openR
      rw [ba_len, mk_L, if_neg (by omega), if_neg hnot]
    have hg : parseG numV (⟨l'.toArray⟩ : ByteArray) = bad 14 := by
      unfold parseG
      rw [ho, if_neg (by decide)]
    rw [hg] at hP
    have e1 : (s.extract 0 q).size = q := by rw [extract_head, ba_len, List.length_take]; omega
    have e2 : (s.extract (q + 1) s.size).size = s.size - (q + 1) := by rw [extract_tail, ba_len, List.length_drop, hL]
    have e3 : (s.extract 0 q ++ (⟨[y].toArray⟩ : ByteArray)).size = q + 1 := by rw [size_L, append_L, List.length_append, ← size_L, e1]; rfl
    have hw := Lib.hid (show wrap64 ((q : Int) + 1) = ((q + 1 : Nat) : Int) from w64n (by omega) (by omega))
    have hqh := Lib.hid hq
    clear hq
    refine Ev.step hP fun n hn => ?_
    show diptychlaw27_LineMessages.j2 (n + 1) a2 a3 s false = _
    rw [diptychlaw27_LineMessages.j2, if_neg (by decide), if_neg c0, if_neg (by omega), hqh.out, hw.out, Int.toNat_natCast, Int.toNat_natCast, if_pos (by omega), if_pos (by omega), if_pos (by omega), hb, Option.bind_some, hnum, e1, e2, e3, if_pos (by rw [ba_len]; simp only [List.length_cons, List.length_nil]; omega), if_pos (by omega), if_pos (by omega), if_pos (by omega), htx, hn, Option.bind_some]
    rfl
theorem LineMessages (a0 b0 c0 : Int) (l0 : List ByteArray) (a1 : ByteArray) (a2 a3 : Int) (w1 : a1.size ≤ 140737488351232) (w2 : (Lit.int .i64 a2).wf = true) (w3 : (Lit.int .u8 a3).wf = true) : ∃ k, diptychlaw27_LineMessages.f k a0 b0 c0 l0 a1 a2 a3 = some true := by
  obtain ⟨b, hF, hB⟩ := few_ev l0
  obtain ⟨K0, h0⟩ := Ev.and awake_ev hF
  cases b with
  | false =>
    refine ⟨K0 + 1, ?_⟩
    unfold diptychlaw27_LineMessages.f
    rw [(h0 _ (by omega)).1, Option.bind_some, if_pos rfl, (h0 _ (by omega)).2, Option.bind_some, if_neg (by decide), diptychlaw27_LineMessages.j0, if_pos rfl]
  | true =>
    obtain ⟨q1, q2⟩ := hB rfl
    have hf : ∀ n, K0 ≤ n → diptychlaw27_LineMessages.f n a0 b0 c0 l0 a1 a2 a3 = if (a1.size : Int) > 10000 then diptychlaw27_LineMessages.j0 n a1 a2 a3 true a0 b0 c0 l0 else diptychlaw27_LineMessages.j0 n a1 a2 a3 (decide (a2 < 0)) a0 b0 c0 l0 := by
      intro n hn
      unfold diptychlaw27_LineMessages.f
      rw [(h0 n hn).1, Option.bind_some, if_pos rfl, (h0 n hn).2, Option.bind_some, if_pos rfl]
    by_cases c : 10000 < a1.size
    · refine ⟨K0 + 1, ?_⟩
      rw [hf _ (by omega), if_pos (by omega), diptychlaw27_LineMessages.j0, if_pos rfl]
    · by_cases ca : a2 < 0
      · refine ⟨K0 + 1, ?_⟩
        rw [hf _ (by omega), if_neg (by omega), show decide (a2 < 0) = true from decide_eq_true ca, diptychlaw27_LineMessages.j0, if_pos rfl]
      · obtain ⟨K1, h1⟩ := Ev.and (line_Print_ev a0 b0 c0 l0 (by omega)) (ref_Print_ev a0 b0 c0 l0 (by omega))
        have hr := ref_Parse_ev a1 (by omega)
        rw [parse_same numL numV gives_L gives_V a1] at hr
        obtain ⟨K2, h2⟩ := Ev.and (line_Parse_ev a1 (by omega)) hr
        have hlen := parse_len numV gives_V a1
        obtain ⟨K3, h3⟩ := Ev.get (same_ev (parseG numV a1).1 (parseG numV a1).2.1 (parseG numV a1).2.2.1 (parseG numV a1).2.2.2.1 (by omega))
        have hj : ∀ n, K0 + K1 + K2 + K3 ≤ n → diptychlaw27_LineMessages.f (n + 1) a0 b0 c0 l0 a1 a2 a3 = diptychlaw27_LineMessages.j1 n a2 a3 (printR a0 b0 c0 l0).1 (printR a0 b0 c0 l0).2 false a0 b0 c0 l0 := by
          intro n hn
          rw [hf _ (by omega), if_neg (by omega), show decide (a2 < 0) = false from decide_eq_false ca, diptychlaw27_LineMessages.j0, if_neg (by decide), (h1 n (by omega)).1, Option.bind_some, (h1 n (by omega)).2, Option.bind_some, (h2 n (by omega)).1, Option.bind_some, (h2 n (by omega)).2, Option.bind_some, if_pos rfl, if_pos rfl, h3 n (by omega), Option.bind_some, if_pos rfl, bne_self_eq_false]
        by_cases hfine : Fine a0 b0 c0 l0
        · have hp := printR_fine hfine
          have hbd := bound_of hfine q2
          have hQ := line_Parse_ev (textM a0 b0 c0 l0) (by omega)
          rw [parse_print numV gives_V hfine] at hQ
          obtain ⟨K4, h4⟩ := Ev.and hQ (same_ev a0 b0 c0 l0 (by omega))
          obtain ⟨K5, h5⟩ := Ev.get (msg_j2 a2 a3 w3 (by omega) hfine q2)
          refine ⟨K0 + K1 + K2 + K3 + K4 + K5 + 2, ?_⟩
          rw [hj _ (by omega), hp, diptychlaw27_LineMessages.j1, if_neg (by decide), if_pos rfl, (h4 _ (by omega)).1, Option.bind_some, if_pos rfl, (h4 _ (by omega)).2, Option.bind_some]
          exact h5 _ (by omega)
        · have hp := printR_not hfine
          refine ⟨K0 + K1 + K2 + K3 + 2, ?_⟩
          rw [hj _ (by omega), diptychlaw27_LineMessages.j1, if_neg (by decide), if_neg hp.1]
end Go.Proofs.YtgbfbfemmhfcaaaDoor.U
