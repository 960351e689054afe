/- The statement LineCut, over plain functions. -/
import Derived.Test.YtgbfbfemmhfcaaaDoorPx20
import Derived.Test.YtgbfbfemmhfcaaaDoorLnM
namespace Go.Proofs.YtgbfbfemmhfcaaaDoor.U
set_option linter.unusedVariables false
open Go.RowKit Go.Proofs.YtgbfbfemmhfcaaaDoor Go.Proofs.YtgbfbfemmhfcaaaDoor.P Go.Proofs.YtgbfbfemmhfcaaaDoorW.PrintWords

theorem seal_inj {x y : List UInt8} (h : sealL x = sealL y) : x = y := by
  unfold sealL at h
  exact (List.append_inj' h rfl).1
/-- Bytes behind a message's end: nothing is parsed. -/
theorem parse_more (g : ByteArray → Int) {a b c : Int} {l : List ByteArray} (hf : Fine a b c l) (m : List UInt8) (hm : m ≠ []) : parseG g (⟨(sealL (putL (decs a b c ++ l) ++ m)).toArray⟩ : ByteArray) = bad 3 := by
  have ho := openR_seal (putL (decs a b c ++ l) ++ m)
  have hn : (parseG g (⟨(sealL (putL (decs a b c ++ l) ++ m)).toArray⟩ : ByteArray)).2.2.2.2 ≠ 0 := by
    intro h
    obtain ⟨a', b', c', l', hf', e⟩ := parse_ok g h
    have e2 := seal_inj (congrArg L e)
    rw [← List.append_nil (putL (decs a' b' c' ++ l'))] at e2
    exact hm (put_one (lim_decs a b c l hf.1.2 hf.2.1.2.2.1 hf.2.1.2.2.2 hf.2.2.2) (lim_decs a' b' c' l' hf'.1.2 hf'.2.1.2.2.1 hf'.2.1.2.2.2 hf'.2.2.2) e2).2
  rw [parse_bad g hn, ho, if_pos rfl]
/-- A beginning of a message: nothing is parsed. -/
theorem parse_cut (g : ByteArray → Int) {a b c : Int} {l : List ByteArray} (hf : Fine a b c l) (n : Nat) (hn : n < (textM a b c l).size) : (parseG g (⟨((L (textM a b c l)).take n).toArray⟩ : ByteArray)).2.2.2.2 ≠ 0 := by
  intro h
  obtain ⟨a', b', c', l', hf', e⟩ := parse_ok g h
  have e1 : (L (textM a b c l)).take n = sealL (putL (decs a' b' c' ++ l')) := congrArg L e
  have e2 : putL (decs a b c ++ l) ++ be4 (sumN (putL (decs a b c ++ l))) = putL (decs a' b' c' ++ l') ++ (be4 (sumN (putL (decs a' b' c' ++ l'))) ++ (L (textM a b c l)).drop n) := by
    have := List.take_append_drop n (L (textM a b c l))
    rw [e1] at this
    rw [← List.append_assoc]
    exact this.symm
  have e3 := (put_one (lim_decs a b c l hf.1.2 hf.2.1.2.2.1 hf.2.1.2.2.2 hf.2.2.2) (lim_decs a' b' c' l' hf'.1.2 hf'.2.1.2.2.1 hf'.2.1.2.2.2 hf'.2.2.2) e2).1
  have e4 := congrArg List.length e1
  rw [seal_len, ← e3, List.length_take] at e4
  have e5 : (textM a b c l).size = (putL (decs a b c ++ l)).length + 4 := by unfold textM; rw [ba_len, seal_len]
  rw [← size_L] at e4
  omega
theorem bound_of {a b c : Int} {l : List ByteArray} (hf : Fine a b c l) (h : (putL l).length ≤ 300000) : (textM a b c l).size ≤ 300046 := by
  have := textM_size hf
  omega
theorem cut_j1 {a b c : Int} {l : List ByteArray} (hf : Fine a b c l) (hs : (putL l).length ≤ 300000) (m : ByteArray) (hm : L m ≠ []) (hm2 : m.size ≤ 1000) : Ev (fun k => (crc_Seal.f k (⟨(putL (decs a b c ++ l) ++ L m).toArray⟩ : ByteArray)).bind fun t => (line_Parse.f k t).bind fun p => if p.1 = 0 then some (p.2.2.2.2 == 3) else some false) true := by
  have hlen := putL_decs a b c l hf.1.2 hf.2.1.2.2.1 hf.2.1.2.2.2
  have h1 := crc_Seal_ev (⟨(putL (decs a b c ++ l) ++ L m).toArray⟩ : ByteArray) (by rw [ba_len, List.length_append, ← size_L]; omega)
  rw [mk_L] at h1
  have h2 := line_Parse_ev (⟨(sealL (putL (decs a b c ++ l) ++ L m)).toArray⟩ : ByteArray) (by rw [ba_len, seal_len, List.length_append, ← size_L]; omega)
  rw [parse_more numV hf (L m) hm] at h2
  refine Ev.map2 h1 h2 fun n e1 e2 => ?_
  show Option.bind _ _ = _
  rw [e1, Option.bind_some, e2, Option.bind_some]
  rfl
theorem LineCut (a0 b0 c0 : Int) (l0 : List ByteArray) (a1 : Int) (a2 : ByteArray) (w1 : (Lit.int .i64 a1).wf = true) (w2 : a2.size ≤ 140737488351232) : ∃ k, diptychlaw27_LineCut.f k a0 b0 c0 l0 a1 a2 = some true := by
  obtain ⟨b, hF, hB⟩ := few_ev l0
  obtain ⟨K0, h0⟩ := Ev.and awake_ev hF
  cases b with
  | false =>
    refine ⟨K0 + 1, ?_⟩
    unfold diptychlaw27_LineCut.f
    rw [(h0 _ (by omega)).1, Option.bind_some, if_pos rfl, (h0 _ (by omega)).2, Option.bind_some, if_neg (by decide), diptychlaw27_LineCut.j0, if_pos rfl]
  | true =>
    obtain ⟨q1, q2⟩ := hB rfl
    have hf : ∀ n, K0 ≤ n → diptychlaw27_LineCut.f n a0 b0 c0 l0 a1 a2 = if a1 < 0 then diptychlaw27_LineCut.j0 n a1 a2 true a0 b0 c0 l0 else if (a2.size : Int) > 1000 then diptychlaw27_LineCut.j0 n a1 a2 true a0 b0 c0 l0 else diptychlaw27_LineCut.j0 n a1 a2 ((a2.size : Int) == 0) a0 b0 c0 l0 := by
      intro n hn
      unfold diptychlaw27_LineCut.f
      rw [(h0 n hn).1, Option.bind_some, if_pos rfl, (h0 n hn).2, Option.bind_some, if_pos rfl]
    by_cases c1 : a1 < 0
    · refine ⟨K0 + 1, ?_⟩
      rw [hf _ (by omega), if_pos c1, diptychlaw27_LineCut.j0, if_pos rfl]
    · by_cases c2 : 1000 < a2.size
      · refine ⟨K0 + 1, ?_⟩
        rw [hf _ (by omega), if_neg c1, if_pos (by omega), diptychlaw27_LineCut.j0, if_pos rfl]
      · by_cases c3 : a2.size = 0
        · refine ⟨K0 + 1, ?_⟩
          rw [hf _ (by omega), if_neg c1, if_neg (by omega), show ((a2.size : Int) == 0) = true from beq_iff_eq.mpr (by omega), diptychlaw27_LineCut.j0, if_pos rfl]
        · have hj : ∀ n, K0 ≤ n → diptychlaw27_LineCut.f n a0 b0 c0 l0 a1 a2 = diptychlaw27_LineCut.j0 n a1 a2 false a0 b0 c0 l0 := by
            intro n hn
            rw [hf _ hn, if_neg c1, if_neg (by omega), show ((a2.size : Int) == 0) = false from beq_eq_false_iff_ne.mpr (by omega)]
          obtain ⟨K1, h1⟩ := Ev.get (line_Print_ev a0 b0 c0 l0 (by omega))
          by_cases hfine : Fine a0 b0 c0 l0
          · have hp := printR_fine hfine
            have hbd := bound_of hfine q2
            have hm : L a2 ≠ [] := by
              intro h
              have := size_L a2
              rw [h] at this
              exact c3 this
            obtain ⟨K2, h2⟩ := Ev.get (cut_j1 hfine q2 a2 hm (by omega))
            have hsz : (textM a0 b0 c0 l0).size = (putL (decs a0 b0 c0 ++ l0)).length + 4 := by unfold textM; rw [ba_len, seal_len]
            have hcutb : (textM a0 b0 c0 l0).extract 0 ((textM a0 b0 c0 l0).size - 4) ++ a2 = ⟨(putL (decs a0 b0 c0 ++ l0) ++ L a2).toArray⟩ := by
              apply ext_L
              rw [append_L, mk_L, extract_head, mk_L, hsz, Nat.add_sub_cancel]
              congr 1
              show (sealL _).take _ = _
              rw [sealL, List.take_left]
            have he1 : ((textM a0 b0 c0 l0).extract 0 ((textM a0 b0 c0 l0).size - 4)).size ≤ 300046 := by
              rw [extract_head, ba_len, List.length_take, ← size_L]; omega
            have hcut := fun n hn => parse_cut numV hfine n hn
            generalize textM a0 b0 c0 l0 = s at hp hbd hsz hcutb he1 hcut
            have hw := Lib.hid (show wrap64 ((s.size : Int) - 4) = ((s.size - 4 : Nat) : Int) from w64n (by omega) (by omega))
            have hbody : ∀ n, K1 ≤ n → diptychlaw27_LineCut.j0 (n + 1) a1 a2 false a0 b0 c0 l0 = if a1 < (s.size : Int) then (line_Parse.f n (s.extract 0 a1.toNat)).bind fun p => if p.2.2.2.2 = 0 then diptychlaw27_LineCut.j1 n (⟨(putL (decs a0 b0 c0 ++ l0) ++ L a2).toArray⟩ : ByteArray) true else diptychlaw27_LineCut.j1 n (⟨(putL (decs a0 b0 c0 ++ l0) ++ L a2).toArray⟩ : ByteArray) (p.1 != 0) else (crc_Seal.f n (⟨(putL (decs a0 b0 c0 ++ l0) ++ L a2).toArray⟩ : ByteArray)).bind fun t => (line_Parse.f n t).bind fun p => if p.1 = 0 then some (p.2.2.2.2 == 3) else some false := by
              intro n hn
              rw [diptychlaw27_LineCut.j0, if_neg (by decide), h1 n hn, Option.bind_some, hp]
              dsimp only
              rw [if_pos rfl, hw.out, Int.toNat_natCast, if_pos (by omega), if_pos (by omega), if_pos (by omega), hcutb]
              by_cases d : a1 < (s.size : Int)
              · rw [if_pos d, if_pos d, if_pos (by omega), if_pos (by omega)]
              · rw [if_neg d, if_neg d]
            by_cases d : a1 < (s.size : Int)
            · obtain ⟨q, hq⟩ : ∃ q : Nat, a1 = (q : Int) := ⟨a1.toNat, by omega⟩
              have hne := hcut q (by omega)
              have hb := parse_bad numV hne
              have hP := line_Parse_ev (⟨((L s).take q).toArray⟩ : ByteArray) (by rw [ba_len, List.length_take, ← size_L]; omega)
              obtain ⟨K3, h3⟩ := Ev.get hP
              refine ⟨K0 + K1 + K2 + K3 + 3, ?_⟩
              rw [hj _ (by omega), hbody _ (by omega), if_pos d, hq, Int.toNat_natCast, extract_head, h3 _ (by omega), Option.bind_some, if_neg hne, hb, diptychlaw27_LineCut.j1, show ((bad (if (openR (⟨((L s).take q).toArray⟩ : ByteArray)).2 = 0 then 3 else (openR (⟨((L s).take q).toArray⟩ : ByteArray)).2)).1 != 0) = false from rfl, if_neg (by decide)]
              exact h2 _ (by omega)
            · refine ⟨K0 + K1 + K2 + 1, ?_⟩
              rw [hj _ (by omega), hbody _ (by omega), if_neg d]
              exact h2 _ (by omega)
          · have hp := printR_not hfine
            refine ⟨K0 + K1 + 1, ?_⟩
            rw [hj _ (by omega), diptychlaw27_LineCut.j0, if_neg (by decide), h1 _ (by omega), Option.bind_some, if_neg hp.1, hp.2]
            decide +kernel
end Go.Proofs.YtgbfbfemmhfcaaaDoor.U
