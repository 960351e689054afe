/- Merged out of this session's texts by a program (wip/gen/merge.py): declarations that this claim doesn't name are left out. -/
import Derived.Test.YtenbgnlkkmnmhaaMMergeKeeps4
import Derived.ProofKit
import Derived.OpenShut
import Derived.SliceStrings
import Derived.SizedLaws
import Derived.Test.YtenbgnlkkmnmhaaRows
import Derived.Lib.SmallJoins
set_option linter.unusedVariables false
set_option linter.unusedSimpArgs false
/-! E8 -/
section
namespace Go.Proofs.Ytenbgnlkkmnmhaa.Q
open Go.RowKit Go.Proofs.Ytenbgnlkkmnmhaa.P
open Go.Proofs.YtenbgnlkkmnmhaaW.PrintWords (bytesOf bytesOf_length)
set_option linter.unusedVariables false
set_option linter.unusedSimpArgs false
set_option maxRecDepth 100000
set_option maxHeartbeats 4000000
attribute [local irreducible] wpList wpQuiet qch Code.wp Oper.quiet Act.put At Region.wanted yielded
theorem MergeKeeps.calls (vb vo vt : Value) (lb lo lt : List LfL) (w0 : World) (hvb : RdF w0 3 vb lb.length (lb.map encL).flatten) (hvo : RdF w0 3 vo lo.length (lo.map encL).flatten) (hvt : RdF w0 3 vt lt.length (lt.map encL).flatten) : Calls Try.prog 4 #[vb, vo, vt] w0 fun e w' => e = .returned (.bool true) ∧ Low w0 w' := by
  refine c_fun (R := _) Try.func4 rfl 223 rfl (Nat.le_of_ble_eq_true rfl) ?_
  intro a z hA
  have s0 := hA 0 _ rfl
  have s1 := hA 1 _ rfl
  have s2 := hA 2 _ rfl
  clear hA
  refine c_seq ?_
  refine c_region ?_
  refine l_q rfl (q_assign _ _ rfl rfl ?_)
  refine l_end ?_
  refine e_fresh z.put ?_
  intro a1 z1 m1
  have s0_1 := m1 _ _ (s0.ne rfl)
  have s1_1 := m1 _ _ (s1.ne rfl)
  have s2_1 := m1 _ _ (s2.ne rfl)
  clear m1
  refine e_then ?_
  refine c_seq ?_
  refine c_seq ?_
  refine c_region ?_
  refine l_call (fun v w' => v = .bool true ∧ Low w0 w') rfl rfl rfl Try.func5 rfl (show Array.map _ _ = (#[] : Array Value) from by simp) ((Awake.calls _).mono fun _ _ ⟨e, k⟩ => ⟨_, e, rfl, k⟩) ?_
  rintro _ w2 ⟨rfl, h2⟩
  have ovb_2 := hvb.low h2
  have ovo_2 := hvo.low h2
  have ovt_2 := hvt.low h2
  refine l_q rfl (q_not (b := true) rfl (At.hit z1 rfl).ev ?_)
  refine l_end ?_
  refine e_fresh z1.put.put ?_
  intro a3 z3 m3
  have s0_3 := m3 _ _ ((s0_1.ne rfl).ne rfl)
  have s1_3 := m3 _ _ ((s1_1.ne rfl).ne rfl)
  have s2_3 := m3 _ _ ((s2_1.ne rfl).ne rfl)
  have s24_3 := m3 _ _ (At.hit z1.put rfl)
  have low3 := h2
  clear m3
  refine e_then ?_
  refine c_false s24_3 ?_
  refine wp_skip ?_
  refine e_then ?_
  refine c_seq ?_
  refine c_seq ?_
  by_cases hb4 : mayB [lb, lo, lt] = true
  · skip
    refine c_region ?_
    refine l_q rfl (q_move _ _ rfl s0_3.ev ?_)
    refine l_q rfl (q_move _ _ rfl (s1_3.ne rfl).ev ?_)
    refine l_q rfl (q_move _ _ rfl ((s2_3.ne rfl).ne rfl).ev ?_)
    refine l_lit3 rfl rfl Try.underlying44 rec22 (((At.hit z3 rfl).ne rfl).ne rfl).ev ((At.hit z3.put rfl).ne rfl).ev (At.hit z3.put.put rfl).ev (RdF.one ovb_2) (RdF.one ovo_2) (RdF.one ovt_2) ?_
    intro g28_5 w5 hg5 k5 h5
    have geg28_5 := Nat.le_trans low3.ge hg5
    have ovb_5 := ovb_2.low h5
    have ovo_5 := ovo_2.low h5
    have ovt_5 := ovt_2.low h5
    have og28_5_5 := rdFF3 k5 ovb_5 ovo_5 ovt_5
    refine l_call (fun v w' => v = .bool true ∧ Low w5 w') rfl rfl rfl Try.func6 rfl (args1 rfl (At.hit z3.put.put.put rfl).ev) (((calls_bool (May.calls _ _ ([lb, lo, lt]) (by simp) _ og28_5_5) hb4)).mono fun _ _ ⟨e, k⟩ => ⟨_, e, rfl, k⟩) ?_
    rintro _ w6 ⟨rfl, h6⟩
    have kg28_5_6 := h6.blk k5
    have ovb_6 := ovb_5.low h6
    have ovo_6 := ovo_5.low h6
    have ovt_6 := ovt_5.low h6
    have oL5_6 := og28_5_5.low h6
    refine l_q rfl (q_not (b := true) rfl (At.hit z3.put.put.put.put rfl).ev ?_)
    refine l_end ?_
    refine e_fresh z3.put.put.put.put.put.put ?_
    intro a7 z7 m7
    have s0_7 := m7 _ _ ((((((s0_3.ne rfl).ne rfl).ne rfl).ne rfl).ne rfl).ne rfl)
    have s1_7 := m7 _ _ ((((((s1_3.ne rfl).ne rfl).ne rfl).ne rfl).ne rfl).ne rfl)
    have s2_7 := m7 _ _ ((((((s2_3.ne rfl).ne rfl).ne rfl).ne rfl).ne rfl).ne rfl)
    have s30_7 := m7 _ _ (At.hit z3.put.put.put.put.put rfl)
    have low7 := ((low3.trans h5).trans h6)
    clear m7
    refine e_then ?_
    refine c_false s30_7 ?_
    refine wp_skip ?_
    refine e_then ?_
    refine c_seq ?_
    obtain ⟨kb, ko, kt⟩ := may3 hb4
    obtain ⟨rb, sb, nb, _⟩ := okRow kb
    obtain ⟨ro, so, no, _⟩ := okRow ko
    obtain ⟨rt, st, nt, _⟩ := okRow kt
    have hpl := paths_len lb lo lt
    have hol : (outF lb lo lt).length ≤ 1000 := by rw [← out_end]; exact out_len lb lo lt _ _ 1000 (by omega)
    have hbl := badA_len lb lo lt
    have hbf : (badF lb lo lt).length ≤ 1000 := by rw [← bad_end]; exact bad_len lb lo lt _ _ 1000 (by omega)
    have hd1 := diff_len lb lo
    have hd2 := diff_len lb lt
    refine c_region ?_
    refine l_q rfl (q_move _ _ rfl s0_7.ev ?_)
    refine l_q rfl (q_move _ _ rfl (s1_7.ne rfl).ev ?_)
    refine l_q rfl (q_move _ _ rfl ((s2_7.ne rfl).ne rfl).ev ?_)
    refine l_call _ rfl rfl rfl Try.func7 rfl (args3 rfl (((At.hit z7 rfl).ne rfl).ne rfl).ev ((At.hit z7.put rfl).ne rfl).ev (At.hit z7.put.put rfl).ev) (Three.calls _ _ _ lb lo lt (by omega) (by omega) (by omega) so st _ ovb_6 ovo_6 ovt_6) ?_
    rintro _ w8 ⟨p8, q8, rfl, o8, oo8, h8⟩
    replace o8 := o8.base low7.ge
    replace oo8 := oo8.base low7.ge
    have ovb_8 := ovb_6.low h8
    have ovo_8 := ovo_6.low h8
    have ovt_8 := ovt_6.low h8
    refine l_q rfl (q_move _ _ rfl (At.hit z7.put.put.put rfl).ev ?_)
    refine l_q rfl (q_extract rfl (At.hit z7.put.put.put.put rfl).ev rfl ?_)
    refine l_q rfl (q_extract rfl ((At.hit z7.put.put.put.put rfl).ne rfl).ev rfl ?_)
    refine l_q rfl (q_assign _ _ rfl ((At.hit z7.put.put.put.put.put rfl).ne rfl).ev ?_)
    refine l_fresh z7.put.put.put.put.put.put.put.put ?_
    intro a9 z9 m9
    have s0_9 := m9 _ _ ((((((((s0_7.ne rfl).ne rfl).ne rfl).ne rfl).ne rfl).ne rfl).ne rfl).ne rfl)
    have s1_9 := m9 _ _ ((((((((s1_7.ne rfl).ne rfl).ne rfl).ne rfl).ne rfl).ne rfl).ne rfl).ne rfl)
    have s2_9 := m9 _ _ ((((((((s2_7.ne rfl).ne rfl).ne rfl).ne rfl).ne rfl).ne rfl).ne rfl).ne rfl)
    have s7_9 := m9 _ _ (At.hit z7.put.put.put.put.put.put.put rfl)
    have s37_9 := m9 _ _ ((At.hit z7.put.put.put.put.put.put rfl).ne rfl)
    clear m9
    refine l_q rfl (q_assign _ _ rfl s37_9.ev ?_)
    refine l_end ?_
    refine e_fresh z9.put ?_
    intro a10 z10 m10
    have s0_10 := m10 _ _ (s0_9.ne rfl)
    have s1_10 := m10 _ _ (s1_9.ne rfl)
    have s2_10 := m10 _ _ (s2_9.ne rfl)
    have s7_10 := m10 _ _ (s7_9.ne rfl)
    have s8_10 := m10 _ _ (At.hit z9 rfl)
    have low10 := (low7.trans h8)
    clear m10
    refine e_then ?_
    refine c_seq ?_
    refine c_region ?_
    refine l_makeMap rfl rfl ?_
    intro g38_11 w11 hg11 k11 h11
    have geg38_11 := Nat.le_trans (Low.refl _).ge hg11
    have ovb_11 := ovb_8.low h11
    have ovo_11 := ovo_8.low h11
    have ovt_11 := ovt_8.low h11
    have ob8_11 := o8.low h11
    have oc8_11 := oo8.low h11
    refine l_q rfl (q_assign _ _ rfl (At.hit z10 rfl).ev ?_)
    refine l_end ?_
    refine e_fresh z10.put.put ?_
    intro a12 z12 m12
    have s0_12 := m12 _ _ ((s0_10.ne rfl).ne rfl)
    have s1_12 := m12 _ _ ((s1_10.ne rfl).ne rfl)
    have s2_12 := m12 _ _ ((s2_10.ne rfl).ne rfl)
    have s7_12 := m12 _ _ ((s7_10.ne rfl).ne rfl)
    have s8_12 := m12 _ _ ((s8_10.ne rfl).ne rfl)
    have s9_12 := m12 _ _ (At.hit z10.put rfl)
    have low12 := h11
    clear m12
    refine e_then ?_
    refine c_seq ?_
    refine c_seq ?_
    refine c_region ?_
    refine l_q rfl (q_assign _ _ rfl rfl ?_)
    refine l_end ?_
    refine e_fresh z12.put ?_
    intro a13 z13 m13
    have s0_13 := m13 _ _ (s0_12.ne rfl)
    have s1_13 := m13 _ _ (s1_12.ne rfl)
    have s2_13 := m13 _ _ (s2_12.ne rfl)
    have s7_13 := m13 _ _ (s7_12.ne rfl)
    have s8_13 := m13 _ _ (s8_12.ne rfl)
    have s9_13 := m13 _ _ (s9_12.ne rfl)
    have s10_13 := m13 _ _ (At.hit z12 rfl)
    clear m13
    refine e_then ?_
    refine wp_block ?_
    refine c_loop ((outF lb lo lt).length) (fun k a w => Fr 223 a ∧ At a 0 (vb) ∧ At a 1 (vo) ∧ At a 2 (vt) ∧ At a 7 (p8) ∧ At a 8 (q8) ∧ At a 9 (.map (some g38_11)) ∧ At a 10 (.int .i64 ((k : Nat) : Int)) ∧ MapIs w g38_11 (mapL ((outF lb lo lt).take k)) ∧ Low w8 w) ?_ ?_ ?_
    · exact ⟨z13, s0_13, s1_13, s2_13, s7_13, s8_13, s9_13, s10_13, k11, low12⟩
    · intro k a14 w14 hk14 h
      obtain ⟨z14, s0_14, s1_14, s2_14, s7_14, s8_14, s9_14, s10_14, kg38_11_14, low14⟩ := h
      clear k11 low12 s0_13 s10_13 s1_13 s2_13 s7_13 s8_13 s9_13 z13
      refine c_seq ?_
      refine c_seq ?_
      refine c_region ?_
      refine l_q rfl (q_move _ _ rfl s10_14.ev ?_)
      refine l_q rfl (q_move _ _ rfl (s7_14.ne rfl).ev ?_)
      refine l_q rfl (q_lenF rfl rfl Try.underlying22 (At.hit z14.put rfl).ev (o8.low low14).rd ?_)
      refine l_q rfl (q_lss true rfl (((At.hit z14 rfl).ne rfl).ne rfl).ev (At.hit z14.put.put rfl).ev (decide_eq_true (by omega)) ?_)
      refine l_end ?_
      refine e_fresh z14.put.put.put.put ?_
      intro a15 z15 m15
      have s0_15 := m15 _ _ ((((s0_14.ne rfl).ne rfl).ne rfl).ne rfl)
      have s1_15 := m15 _ _ ((((s1_14.ne rfl).ne rfl).ne rfl).ne rfl)
      have s2_15 := m15 _ _ ((((s2_14.ne rfl).ne rfl).ne rfl).ne rfl)
      have s7_15 := m15 _ _ ((((s7_14.ne rfl).ne rfl).ne rfl).ne rfl)
      have s8_15 := m15 _ _ ((((s8_14.ne rfl).ne rfl).ne rfl).ne rfl)
      have s9_15 := m15 _ _ ((((s9_14.ne rfl).ne rfl).ne rfl).ne rfl)
      have s10_15 := m15 _ _ ((((s10_14.ne rfl).ne rfl).ne rfl).ne rfl)
      have s42_15 := m15 _ _ (At.hit z14.put.put.put rfl)
      clear m15
      refine e_then ?_
      refine c_true s42_15 ?_
      refine wp_skip ?_
      refine e_then ?_
      refine c_seq ?_
      refine wp_block ?_
      refine c_seq ?_
      refine c_seq ?_
      by_cases hb16 : 0 < k
      · skip
        refine region_lowg hm (by kernel_rfl) ?_
        refine gs rfl (q_move _ _ rfl s10_15.ev ?_)
        refine gs rfl (q_gtr true rfl (At.hit z15 rfl).ev rfl (decide_eq_true (by omega)) ?_)
        refine gs rfl (q_move _ _ rfl (At.hit z15.put rfl).ev ?_)
        refine gsg (wanted_is (j := 2) (d := 47) (b := true) rfl rfl (At.hit z15.put.put rfl) rfl) (q_move _ _ rfl (((s7_15.ne rfl).ne rfl).ne rfl).ev ?_)
        refine gsg (wanted_is (j := 2) (d := 47) (b := true) rfl rfl ((At.hit z15.put.put rfl).ne rfl) rfl) (q_move _ _ rfl ((((s10_15.ne rfl).ne rfl).ne rfl).ne rfl).ev ?_)
        refine gsg (wanted_is (j := 2) (d := 47) (b := true) rfl rfl (((At.hit z15.put.put rfl).ne rfl).ne rfl) rfl) (q_idxF (j := k) rfl Try.underlying22 sz37 ((At.hit z15.put.put.put rfl).ne rfl).ev (o8.low low14).rd (At.hit z15.put.put.put.put rfl).ev (by omega) ?_)
        refine gsg (wanted_is (j := 2) (d := 47) (b := true) rfl rfl ((((At.hit z15.put.put rfl).ne rfl).ne rfl).ne rfl) rfl) (q_fldF 0 rfl fld37_0 (At.hit z15.put.put.put.put.put rfl).ev ((o8.low low14).rd.form (by omega)) ?_)
        refine gsg (wanted_is (j := 2) (d := 47) (b := true) rfl rfl (((((At.hit z15.put.put rfl).ne rfl).ne rfl).ne rfl).ne rfl) rfl) (q_ld1 (u := .string (((outF lb lo lt).getD k zL).f0)) rfl Try.underlying9 rfl (At.hit z15.put.put.put.put.put.put rfl).ev (fun _ h => ((o8.low low14).low h).rd) (by omega) ((flat_at encL_len zL _ k 0 (by omega) (by decide)).trans rfl) ?_)
        refine g_fresh z15.put.put.put.put.put.put.put.put ?_
        intro a17 z17 m17
        have s0_17 := m17 _ _ ((((((((s0_15.ne rfl).ne rfl).ne rfl).ne rfl).ne rfl).ne rfl).ne rfl).ne rfl)
        have s1_17 := m17 _ _ ((((((((s1_15.ne rfl).ne rfl).ne rfl).ne rfl).ne rfl).ne rfl).ne rfl).ne rfl)
        have s2_17 := m17 _ _ ((((((((s2_15.ne rfl).ne rfl).ne rfl).ne rfl).ne rfl).ne rfl).ne rfl).ne rfl)
        have s7_17 := m17 _ _ ((((((((s7_15.ne rfl).ne rfl).ne rfl).ne rfl).ne rfl).ne rfl).ne rfl).ne rfl)
        have s8_17 := m17 _ _ ((((((((s8_15.ne rfl).ne rfl).ne rfl).ne rfl).ne rfl).ne rfl).ne rfl).ne rfl)
        have s9_17 := m17 _ _ ((((((((s9_15.ne rfl).ne rfl).ne rfl).ne rfl).ne rfl).ne rfl).ne rfl).ne rfl)
        have s10_17 := m17 _ _ ((((((((s10_15.ne rfl).ne rfl).ne rfl).ne rfl).ne rfl).ne rfl).ne rfl).ne rfl)
        have s47_17 := m17 _ _ ((((((At.hit z15.put.put rfl).ne rfl).ne rfl).ne rfl).ne rfl).ne rfl)
        have s52_17 := m17 _ _ (At.hit z15.put.put.put.put.put.put.put rfl)
        clear m17
        refine gsg (wanted_is (j := 2) (d := 47) (b := true) rfl rfl s47_17 rfl) (q_move _ _ rfl s7_17.ev ?_)
        refine gsg (wanted_is (j := 2) (d := 47) (b := true) rfl rfl (s47_17.ne rfl) rfl) (q_move _ _ rfl (s10_17.ne rfl).ev ?_)
        refine gsg (wanted_is (j := 2) (d := 47) (b := true) rfl rfl ((s47_17.ne rfl).ne rfl) rfl) (q_sub ((((k : Nat) : Int) - 1)) rfl (At.hit z17.put rfl).ev rfl (i64_is (by omega) (by omega) (by omega)) ?_)
        refine gsg (wanted_is (j := 2) (d := 47) (b := true) rfl rfl (((s47_17.ne rfl).ne rfl).ne rfl) rfl) (q_idxF (j := k - 1) rfl Try.underlying22 sz37 (((At.hit z17 rfl).ne rfl).ne rfl).ev (o8.low low14).rd ((At.hit z17.put.put rfl).same (congrArg (Value.int .i64) (show ((((k : Nat) : Int) - 1) : Int) = ((k - 1 : Nat) : Int) by omega))).ev (by omega) ?_)
        refine gsg (wanted_is (j := 2) (d := 47) (b := true) rfl rfl ((((s47_17.ne rfl).ne rfl).ne rfl).ne rfl) rfl) (q_fldF 0 rfl fld37_0 (At.hit z17.put.put.put rfl).ev ((o8.low low14).rd.form (by omega)) ?_)
        refine gsg (wanted_is (j := 2) (d := 47) (b := true) rfl rfl (((((s47_17.ne rfl).ne rfl).ne rfl).ne rfl).ne rfl) rfl) (q_ld1 (u := .string (((outF lb lo lt).getD (k - 1) zL).f0)) rfl Try.underlying9 rfl (At.hit z17.put.put.put.put rfl).ev (fun _ h => ((o8.low low14).low h).rd) (by omega) ((flat_at encL_len zL _ (k - 1) 0 (by omega) (by decide)).trans rfl) ?_)
        refine gsg (wanted_is (j := 2) (d := 47) (b := true) rfl rfl ((((((s47_17.ne rfl).ne rfl).ne rfl).ne rfl).ne rfl).ne rfl) rfl) (q_strleq false rfl ((((((s52_17.ne rfl).ne rfl).ne rfl).ne rfl).ne rfl).ne rfl).ev (At.hit z17.put.put.put.put.put rfl).ev (leF (out_ord lb lo lt k hb16 (by omega))) ?_)
        refine gs rfl (q_pick (b := true) (.bool false) rfl (((((((s47_17.ne rfl).ne rfl).ne rfl).ne rfl).ne rfl).ne rfl).ne rfl).ev (At.hit z17.put.put.put.put.put.put rfl).ev ?_)
        refine gz ?_
        intro w18 h18
        have kg38_11_18 := kg38_11_14.low h18
        have ovb_18 := (ovb_8.low low14).low h18
        have ovo_18 := (ovo_8.low low14).low h18
        have ovt_18 := (ovt_8.low low14).low h18
        have ob8_18 := (o8.low low14).low h18
        have oc8_18 := (oo8.low low14).low h18
        refine e_id ?_
        refine e_fresh z17.put.put.put.put.put.put.put.put ?_
        intro a19 z19 m19
        have s0_19 := m19 _ _ ((((((((s0_17.ne rfl).ne rfl).ne rfl).ne rfl).ne rfl).ne rfl).ne rfl).ne rfl)
        have s1_19 := m19 _ _ ((((((((s1_17.ne rfl).ne rfl).ne rfl).ne rfl).ne rfl).ne rfl).ne rfl).ne rfl)
        have s2_19 := m19 _ _ ((((((((s2_17.ne rfl).ne rfl).ne rfl).ne rfl).ne rfl).ne rfl).ne rfl).ne rfl)
        have s7_19 := m19 _ _ ((((((((s7_17.ne rfl).ne rfl).ne rfl).ne rfl).ne rfl).ne rfl).ne rfl).ne rfl)
        have s8_19 := m19 _ _ ((((((((s8_17.ne rfl).ne rfl).ne rfl).ne rfl).ne rfl).ne rfl).ne rfl).ne rfl)
        have s9_19 := m19 _ _ ((((((((s9_17.ne rfl).ne rfl).ne rfl).ne rfl).ne rfl).ne rfl).ne rfl).ne rfl)
        have s10_19 := m19 _ _ ((((((((s10_17.ne rfl).ne rfl).ne rfl).ne rfl).ne rfl).ne rfl).ne rfl).ne rfl)
        have s60_19 := m19 _ _ (At.hit z17.put.put.put.put.put.put.put rfl)
        have low19 := (low14.trans h18)
        clear m19
        refine e_then ?_
        refine c_false s60_19 ?_
        refine wp_skip ?_
        refine e_then ?_
        refine region_low_tail 10 hm (by kernel_rfl) ?_
        simp only [List.take_succ_cons, List.take_zero, List.drop_succ_cons, List.drop_zero]
        refine qs (q_move _ _ rfl s9_19.ev ?_)
        refine qs (q_move _ _ rfl (s7_19.ne rfl).ev ?_)
        refine qs (q_move _ _ rfl ((s10_19.ne rfl).ne rfl).ev ?_)
        refine qs (q_idxF (j := k) rfl Try.underlying22 sz37 ((At.hit z19.put rfl).ne rfl).ev ob8_18.rd (At.hit z19.put.put rfl).ev (by omega) ?_)
        refine qs (q_fldF 0 rfl fld37_0 (At.hit z19.put.put.put rfl).ev (ob8_18.rd.form (by omega)) ?_)
        refine qs (q_ld1 (u := .string (((outF lb lo lt).getD k zL).f0)) rfl Try.underlying9 rfl (At.hit z19.put.put.put.put rfl).ev (fun _ h => (ob8_18.low h).rd) (by omega) ((flat_at encL_len zL _ k 0 (by omega) (by decide)).trans rfl) ?_)
        refine qs (q_move _ _ rfl ((((((s7_19.ne rfl).ne rfl).ne rfl).ne rfl).ne rfl).ne rfl).ev ?_)
        refine qs (q_move _ _ rfl (((((((s10_19.ne rfl).ne rfl).ne rfl).ne rfl).ne rfl).ne rfl).ne rfl).ev ?_)
        refine q_fresh z19.put.put.put.put.put.put.put.put ?_
        intro a20 z20 m20
        have s0_20 := m20 _ _ ((((((((s0_19.ne rfl).ne rfl).ne rfl).ne rfl).ne rfl).ne rfl).ne rfl).ne rfl)
        have s1_20 := m20 _ _ ((((((((s1_19.ne rfl).ne rfl).ne rfl).ne rfl).ne rfl).ne rfl).ne rfl).ne rfl)
        have s2_20 := m20 _ _ ((((((((s2_19.ne rfl).ne rfl).ne rfl).ne rfl).ne rfl).ne rfl).ne rfl).ne rfl)
        have s7_20 := m20 _ _ ((((((((s7_19.ne rfl).ne rfl).ne rfl).ne rfl).ne rfl).ne rfl).ne rfl).ne rfl)
        have s8_20 := m20 _ _ ((((((((s8_19.ne rfl).ne rfl).ne rfl).ne rfl).ne rfl).ne rfl).ne rfl).ne rfl)
        have s9_20 := m20 _ _ ((((((((s9_19.ne rfl).ne rfl).ne rfl).ne rfl).ne rfl).ne rfl).ne rfl).ne rfl)
        have s10_20 := m20 _ _ ((((((((s10_19.ne rfl).ne rfl).ne rfl).ne rfl).ne rfl).ne rfl).ne rfl).ne rfl)
        have s61_20 := m20 _ _ ((((((((At.hit z19 rfl).ne rfl).ne rfl).ne rfl).ne rfl).ne rfl).ne rfl).ne rfl)
        have s66_20 := m20 _ _ (((At.hit z19.put.put.put.put.put rfl).ne rfl).ne rfl)
        have s67_20 := m20 _ _ ((At.hit z19.put.put.put.put.put.put rfl).ne rfl)
        have s68_20 := m20 _ _ (At.hit z19.put.put.put.put.put.put.put rfl)
        clear m20
        refine qs (q_idxF (j := k) rfl Try.underlying22 sz37 s67_20.ev ob8_18.rd s68_20.ev (by omega) ?_)
        refine qs (q_ldR (vs := [.string (((outF lb lo lt).getD k zL).f0), .int .i64 (((outF lb lo lt).getD k zL).f1), .string (((outF lb lo lt).getD k zL).f2)]) rfl Try.underlying37 rfl sz37 (At.hit z20 rfl).ev (fun _ h => (ob8_18.low h).rd) (by omega) rfl (flat_part encL_len zL _ k (by omega)) ?_)
        refine qz ?_
        intro w21 h21
        have kg38_11_21 := kg38_11_18.low h21
        have ovb_21 := ovb_18.low h21
        have ovo_21 := ovo_18.low h21
        have ovt_21 := ovt_18.low h21
        have ob8_21 := ob8_18.low h21
        have oc8_21 := oc8_18.low h21
        refine l_mapPut rfl rfl rfl Try.underlying35 Try.underlying9 ((s61_20.ne rfl).ne rfl).ev ((s66_20.ne rfl).ne rfl).ev (At.hit z20.put rfl).ev kg38_11_21 ?_
        intro w22 k22 u22
        refine l_end ?_
        refine e_fresh z20.put.put ?_
        intro a23 z23 m23
        have s0_23 := m23 _ _ ((s0_20.ne rfl).ne rfl)
        have s1_23 := m23 _ _ ((s1_20.ne rfl).ne rfl)
        have s2_23 := m23 _ _ ((s2_20.ne rfl).ne rfl)
        have s7_23 := m23 _ _ ((s7_20.ne rfl).ne rfl)
        have s8_23 := m23 _ _ ((s8_20.ne rfl).ne rfl)
        have s9_23 := m23 _ _ ((s9_20.ne rfl).ne rfl)
        have s10_23 := m23 _ _ ((s10_20.ne rfl).ne rfl)
        have low23 := ((low19.trans h21).upd u22 geg38_11)
        clear m23
        refine e_in ?_
        refine e_then ?_
        refine c_region ?_
        refine l_q rfl (q_move _ _ rfl s10_23.ev ?_)
        refine l_q rfl (q_add (((k + 1 : Nat) : Int)) rfl (At.hit z23 rfl).ev rfl (i64_is (by omega) (by omega) (by omega)) ?_)
        refine l_q rfl (q_assign _ _ rfl (At.hit z23.put rfl).ev ?_)
        refine l_end ?_
        refine e_fresh z23.put.put.put ?_
        intro a24 z24 m24
        have s0_24 := m24 _ _ (((s0_23.ne rfl).ne rfl).ne rfl)
        have s1_24 := m24 _ _ (((s1_23.ne rfl).ne rfl).ne rfl)
        have s2_24 := m24 _ _ (((s2_23.ne rfl).ne rfl).ne rfl)
        have s7_24 := m24 _ _ (((s7_23.ne rfl).ne rfl).ne rfl)
        have s8_24 := m24 _ _ (((s8_23.ne rfl).ne rfl).ne rfl)
        have s9_24 := m24 _ _ (((s9_23.ne rfl).ne rfl).ne rfl)
        have s10_24 := m24 _ _ (At.hit z23.put.put rfl)
        clear m24
        rw [mapL_next (outF lb lo lt) k (by assumption)] at k22
        exact ⟨z24, s0_24, s1_24, s2_24, s7_24, s8_24, s9_24, s10_24, k22, low23⟩
      · skip
        refine region_lowg hm (by kernel_rfl) ?_
        refine gs rfl (q_move _ _ rfl s10_15.ev ?_)
        refine gs rfl (q_gtr false rfl (At.hit z15 rfl).ev rfl (decide_eq_false (by omega)) ?_)
        refine gs rfl (q_move _ _ rfl (At.hit z15.put rfl).ev ?_)
        refine gsk (wanted_is (j := 2) (d := 47) (b := false) rfl rfl (At.hit z15.put.put rfl) rfl) ?_
        refine gsk (wanted_is (j := 2) (d := 47) (b := false) rfl rfl ((At.hit z15.put.put rfl).ne rfl) rfl) ?_
        refine gsk (wanted_is (j := 2) (d := 47) (b := false) rfl rfl (((At.hit z15.put.put rfl).ne rfl).ne rfl) rfl) ?_
        refine gsk (wanted_is (j := 2) (d := 47) (b := false) rfl rfl ((((At.hit z15.put.put rfl).ne rfl).ne rfl).ne rfl) rfl) ?_
        refine gsk (wanted_is (j := 2) (d := 47) (b := false) rfl rfl (((((At.hit z15.put.put rfl).ne rfl).ne rfl).ne rfl).ne rfl) rfl) ?_
        refine g_fresh z15.put.put.put.put.put.put.put.put ?_
        intro a25 z25 m25
        have s0_25 := m25 _ _ ((((((((s0_15.ne rfl).ne rfl).ne rfl).ne rfl).ne rfl).ne rfl).ne rfl).ne rfl)
        have s1_25 := m25 _ _ ((((((((s1_15.ne rfl).ne rfl).ne rfl).ne rfl).ne rfl).ne rfl).ne rfl).ne rfl)
        have s2_25 := m25 _ _ ((((((((s2_15.ne rfl).ne rfl).ne rfl).ne rfl).ne rfl).ne rfl).ne rfl).ne rfl)
        have s7_25 := m25 _ _ ((((((((s7_15.ne rfl).ne rfl).ne rfl).ne rfl).ne rfl).ne rfl).ne rfl).ne rfl)
        have s8_25 := m25 _ _ ((((((((s8_15.ne rfl).ne rfl).ne rfl).ne rfl).ne rfl).ne rfl).ne rfl).ne rfl)
        have s9_25 := m25 _ _ ((((((((s9_15.ne rfl).ne rfl).ne rfl).ne rfl).ne rfl).ne rfl).ne rfl).ne rfl)
        have s10_25 := m25 _ _ ((((((((s10_15.ne rfl).ne rfl).ne rfl).ne rfl).ne rfl).ne rfl).ne rfl).ne rfl)
        have s47_25 := m25 _ _ ((((((At.hit z15.put.put rfl).ne rfl).ne rfl).ne rfl).ne rfl).ne rfl)
        have s52_25 := m25 _ _ (At.hit z15.put.put.put.put.put.put.put rfl)
        clear m25
        refine gsk (wanted_is (j := 2) (d := 47) (b := false) rfl rfl s47_25 rfl) ?_
        refine gsk (wanted_is (j := 2) (d := 47) (b := false) rfl rfl (s47_25.ne rfl) rfl) ?_
        refine gsk (wanted_is (j := 2) (d := 47) (b := false) rfl rfl ((s47_25.ne rfl).ne rfl) rfl) ?_
        refine gsk (wanted_is (j := 2) (d := 47) (b := false) rfl rfl (((s47_25.ne rfl).ne rfl).ne rfl) rfl) ?_
        refine gsk (wanted_is (j := 2) (d := 47) (b := false) rfl rfl ((((s47_25.ne rfl).ne rfl).ne rfl).ne rfl) rfl) ?_
        refine gsk (wanted_is (j := 2) (d := 47) (b := false) rfl rfl (((((s47_25.ne rfl).ne rfl).ne rfl).ne rfl).ne rfl) rfl) ?_
        refine gsk (wanted_is (j := 2) (d := 47) (b := false) rfl rfl ((((((s47_25.ne rfl).ne rfl).ne rfl).ne rfl).ne rfl).ne rfl) rfl) ?_
        refine gs rfl (q_pick (b := false) (.bool false) rfl (((((((s47_25.ne rfl).ne rfl).ne rfl).ne rfl).ne rfl).ne rfl).ne rfl).ev rfl ?_)
        refine gz ?_
        intro w26 h26
        have kg38_11_26 := kg38_11_14.low h26
        have ovb_26 := (ovb_8.low low14).low h26
        have ovo_26 := (ovo_8.low low14).low h26
        have ovt_26 := (ovt_8.low low14).low h26
        have ob8_26 := (o8.low low14).low h26
        have oc8_26 := (oo8.low low14).low h26
        refine e_id ?_
        refine e_fresh z25.put.put.put.put.put.put.put.put ?_
        intro a27 z27 m27
        have s0_27 := m27 _ _ ((((((((s0_25.ne rfl).ne rfl).ne rfl).ne rfl).ne rfl).ne rfl).ne rfl).ne rfl)
        have s1_27 := m27 _ _ ((((((((s1_25.ne rfl).ne rfl).ne rfl).ne rfl).ne rfl).ne rfl).ne rfl).ne rfl)
        have s2_27 := m27 _ _ ((((((((s2_25.ne rfl).ne rfl).ne rfl).ne rfl).ne rfl).ne rfl).ne rfl).ne rfl)
        have s7_27 := m27 _ _ ((((((((s7_25.ne rfl).ne rfl).ne rfl).ne rfl).ne rfl).ne rfl).ne rfl).ne rfl)
        have s8_27 := m27 _ _ ((((((((s8_25.ne rfl).ne rfl).ne rfl).ne rfl).ne rfl).ne rfl).ne rfl).ne rfl)
        have s9_27 := m27 _ _ ((((((((s9_25.ne rfl).ne rfl).ne rfl).ne rfl).ne rfl).ne rfl).ne rfl).ne rfl)
        have s10_27 := m27 _ _ ((((((((s10_25.ne rfl).ne rfl).ne rfl).ne rfl).ne rfl).ne rfl).ne rfl).ne rfl)
        have s60_27 := m27 _ _ (At.hit z25.put.put.put.put.put.put.put rfl)
        have low27 := (low14.trans h26)
        clear m27
        refine e_then ?_
        refine c_false s60_27 ?_
        refine wp_skip ?_
        refine e_then ?_
        refine region_low_tail 10 hm (by kernel_rfl) ?_
        simp only [List.take_succ_cons, List.take_zero, List.drop_succ_cons, List.drop_zero]
        refine qs (q_move _ _ rfl s9_27.ev ?_)
        refine qs (q_move _ _ rfl (s7_27.ne rfl).ev ?_)
        refine qs (q_move _ _ rfl ((s10_27.ne rfl).ne rfl).ev ?_)
        refine qs (q_idxF (j := k) rfl Try.underlying22 sz37 ((At.hit z27.put rfl).ne rfl).ev ob8_26.rd (At.hit z27.put.put rfl).ev (by omega) ?_)
        refine qs (q_fldF 0 rfl fld37_0 (At.hit z27.put.put.put rfl).ev (ob8_26.rd.form (by omega)) ?_)
        refine qs (q_ld1 (u := .string (((outF lb lo lt).getD k zL).f0)) rfl Try.underlying9 rfl (At.hit z27.put.put.put.put rfl).ev (fun _ h => (ob8_26.low h).rd) (by omega) ((flat_at encL_len zL _ k 0 (by omega) (by decide)).trans rfl) ?_)
        refine qs (q_move _ _ rfl ((((((s7_27.ne rfl).ne rfl).ne rfl).ne rfl).ne rfl).ne rfl).ev ?_)
        refine qs (q_move _ _ rfl (((((((s10_27.ne rfl).ne rfl).ne rfl).ne rfl).ne rfl).ne rfl).ne rfl).ev ?_)
        refine q_fresh z27.put.put.put.put.put.put.put.put ?_
        intro a28 z28 m28
        have s0_28 := m28 _ _ ((((((((s0_27.ne rfl).ne rfl).ne rfl).ne rfl).ne rfl).ne rfl).ne rfl).ne rfl)
        have s1_28 := m28 _ _ ((((((((s1_27.ne rfl).ne rfl).ne rfl).ne rfl).ne rfl).ne rfl).ne rfl).ne rfl)
        have s2_28 := m28 _ _ ((((((((s2_27.ne rfl).ne rfl).ne rfl).ne rfl).ne rfl).ne rfl).ne rfl).ne rfl)
        have s7_28 := m28 _ _ ((((((((s7_27.ne rfl).ne rfl).ne rfl).ne rfl).ne rfl).ne rfl).ne rfl).ne rfl)
        have s8_28 := m28 _ _ ((((((((s8_27.ne rfl).ne rfl).ne rfl).ne rfl).ne rfl).ne rfl).ne rfl).ne rfl)
        have s9_28 := m28 _ _ ((((((((s9_27.ne rfl).ne rfl).ne rfl).ne rfl).ne rfl).ne rfl).ne rfl).ne rfl)
        have s10_28 := m28 _ _ ((((((((s10_27.ne rfl).ne rfl).ne rfl).ne rfl).ne rfl).ne rfl).ne rfl).ne rfl)
        have s61_28 := m28 _ _ ((((((((At.hit z27 rfl).ne rfl).ne rfl).ne rfl).ne rfl).ne rfl).ne rfl).ne rfl)
        have s66_28 := m28 _ _ (((At.hit z27.put.put.put.put.put rfl).ne rfl).ne rfl)
        have s67_28 := m28 _ _ ((At.hit z27.put.put.put.put.put.put rfl).ne rfl)
        have s68_28 := m28 _ _ (At.hit z27.put.put.put.put.put.put.put rfl)
        clear m28
        refine qs (q_idxF (j := k) rfl Try.underlying22 sz37 s67_28.ev ob8_26.rd s68_28.ev (by omega) ?_)
        refine qs (q_ldR (vs := [.string (((outF lb lo lt).getD k zL).f0), .int .i64 (((outF lb lo lt).getD k zL).f1), .string (((outF lb lo lt).getD k zL).f2)]) rfl Try.underlying37 rfl sz37 (At.hit z28 rfl).ev (fun _ h => (ob8_26.low h).rd) (by omega) rfl (flat_part encL_len zL _ k (by omega)) ?_)
        refine qz ?_
        intro w29 h29
        have kg38_11_29 := kg38_11_26.low h29
        have ovb_29 := ovb_26.low h29
        have ovo_29 := ovo_26.low h29
        have ovt_29 := ovt_26.low h29
        have ob8_29 := ob8_26.low h29
        have oc8_29 := oc8_26.low h29
        refine l_mapPut rfl rfl rfl Try.underlying35 Try.underlying9 ((s61_28.ne rfl).ne rfl).ev ((s66_28.ne rfl).ne rfl).ev (At.hit z28.put rfl).ev kg38_11_29 ?_
        intro w30 k30 u30
        refine l_end ?_
        refine e_fresh z28.put.put ?_
        intro a31 z31 m31
        have s0_31 := m31 _ _ ((s0_28.ne rfl).ne rfl)
        have s1_31 := m31 _ _ ((s1_28.ne rfl).ne rfl)
        have s2_31 := m31 _ _ ((s2_28.ne rfl).ne rfl)
        have s7_31 := m31 _ _ ((s7_28.ne rfl).ne rfl)
        have s8_31 := m31 _ _ ((s8_28.ne rfl).ne rfl)
        have s9_31 := m31 _ _ ((s9_28.ne rfl).ne rfl)
        have s10_31 := m31 _ _ ((s10_28.ne rfl).ne rfl)
        have low31 := ((low27.trans h29).upd u30 geg38_11)
        clear m31
        refine e_in ?_
        refine e_then ?_
        refine c_region ?_
        refine l_q rfl (q_move _ _ rfl s10_31.ev ?_)
        refine l_q rfl (q_add (((k + 1 : Nat) : Int)) rfl (At.hit z31 rfl).ev rfl (i64_is (by omega) (by omega) (by omega)) ?_)
        refine l_q rfl (q_assign _ _ rfl (At.hit z31.put rfl).ev ?_)
        refine l_end ?_
        refine e_fresh z31.put.put.put ?_
        intro a32 z32 m32
        have s0_32 := m32 _ _ (((s0_31.ne rfl).ne rfl).ne rfl)
        have s1_32 := m32 _ _ (((s1_31.ne rfl).ne rfl).ne rfl)
        have s2_32 := m32 _ _ (((s2_31.ne rfl).ne rfl).ne rfl)
        have s7_32 := m32 _ _ (((s7_31.ne rfl).ne rfl).ne rfl)
        have s8_32 := m32 _ _ (((s8_31.ne rfl).ne rfl).ne rfl)
        have s9_32 := m32 _ _ (((s9_31.ne rfl).ne rfl).ne rfl)
        have s10_32 := m32 _ _ (At.hit z31.put.put rfl)
        clear m32
        rw [mapL_next (outF lb lo lt) k (by assumption)] at k30
        exact ⟨z32, s0_32, s1_32, s2_32, s7_32, s8_32, s9_32, s10_32, k30, low31⟩
    · intro a33 w33 h
      obtain ⟨z33, s0_33, s1_33, s2_33, s7_33, s8_33, s9_33, s10_33, kg38_11_33, low33⟩ := h
      clear k11 low12 s0_13 s10_13 s1_13 s2_13 s7_13 s8_13 s9_13 z13
      refine c_seq ?_
      refine c_seq ?_
      refine c_region ?_
      refine l_q rfl (q_move _ _ rfl s10_33.ev ?_)
      refine l_q rfl (q_move _ _ rfl (s7_33.ne rfl).ev ?_)
      refine l_q rfl (q_lenF rfl rfl Try.underlying22 (At.hit z33.put rfl).ev (o8.low low33).rd ?_)
      refine l_q rfl (q_lss false rfl (((At.hit z33 rfl).ne rfl).ne rfl).ev (At.hit z33.put.put rfl).ev (decide_eq_false (by omega)) ?_)
      refine l_end ?_
      refine e_fresh z33.put.put.put.put ?_
      intro a34 z34 m34
      have s0_34 := m34 _ _ ((((s0_33.ne rfl).ne rfl).ne rfl).ne rfl)
      have s1_34 := m34 _ _ ((((s1_33.ne rfl).ne rfl).ne rfl).ne rfl)
      have s2_34 := m34 _ _ ((((s2_33.ne rfl).ne rfl).ne rfl).ne rfl)
      have s7_34 := m34 _ _ ((((s7_33.ne rfl).ne rfl).ne rfl).ne rfl)
      have s8_34 := m34 _ _ ((((s8_33.ne rfl).ne rfl).ne rfl).ne rfl)
      have s9_34 := m34 _ _ ((((s9_33.ne rfl).ne rfl).ne rfl).ne rfl)
      have s10_34 := m34 _ _ ((((s10_33.ne rfl).ne rfl).ne rfl).ne rfl)
      have s42_34 := m34 _ _ (At.hit z33.put.put.put rfl)
      clear m34
      refine e_then ?_
      refine c_false s42_34 ?_
      refine wp_exit ?_
      refine x_then ?_
      refine x_then ?_
      refine in_exit ?_
      refine e_then ?_
      refine c_seq ?_
      rw [List.take_length] at kg38_11_33
      refine c_region ?_
      refine l_makeMap rfl rfl ?_
      intro g71_35 w35 hg35 k35 h35
      have lt_g38_11_g71_35 := Nat.lt_of_lt_of_le kg38_11_33.lt hg35
      have geg71_35 := Nat.le_trans low33.ge hg35
      have kg38_11_35 := kg38_11_33.low h35
      have ovb_35 := (ovb_8.low low33).low h35
      have ovo_35 := (ovo_8.low low33).low h35
      have ovt_35 := (ovt_8.low low33).low h35
      have ob8_35 := (o8.low low33).low h35
      have oc8_35 := (oo8.low low33).low h35
      refine l_makeMap rfl rfl ?_
      intro g72_36 w36 hg36 k36 h36
      have lt_g38_11_g72_36 := Nat.lt_of_lt_of_le kg38_11_35.lt hg36
      have lt_g71_35_g72_36 := Nat.lt_of_lt_of_le k35.lt hg36
      have geg72_36 := Nat.le_trans (low33.trans h35).ge hg36
      have kg38_11_36 := kg38_11_35.low h36
      have kg71_35_36 := k35.low h36
      have ovb_36 := ovb_35.low h36
      have ovo_36 := ovo_35.low h36
      have ovt_36 := ovt_35.low h36
      have ob8_36 := ob8_35.low h36
      have oc8_36 := oc8_35.low h36
      refine l_q rfl (q_assign _ _ rfl ((At.hit z34 rfl).ne rfl).ev ?_)
      refine l_q rfl (q_assign _ _ rfl ((At.hit z34.put rfl).ne rfl).ev ?_)
      refine l_end ?_
      refine e_fresh z34.put.put.put.put ?_
      intro a37 z37 m37
      have s0_37 := m37 _ _ ((((s0_34.ne rfl).ne rfl).ne rfl).ne rfl)
      have s1_37 := m37 _ _ ((((s1_34.ne rfl).ne rfl).ne rfl).ne rfl)
      have s2_37 := m37 _ _ ((((s2_34.ne rfl).ne rfl).ne rfl).ne rfl)
      have s7_37 := m37 _ _ ((((s7_34.ne rfl).ne rfl).ne rfl).ne rfl)
      have s8_37 := m37 _ _ ((((s8_34.ne rfl).ne rfl).ne rfl).ne rfl)
      have s9_37 := m37 _ _ ((((s9_34.ne rfl).ne rfl).ne rfl).ne rfl)
      have s11_37 := m37 _ _ ((At.hit z34.put.put rfl).ne rfl)
      have s12_37 := m37 _ _ (At.hit z34.put.put.put rfl)
      have low37 := ((low33.trans h35).trans h36)
      clear m37
      refine e_then ?_
      refine c_seq ?_
      refine c_region ?_
      refine l_q rfl (q_move _ _ rfl s0_37.ev ?_)
      refine l_q rfl (q_move _ _ rfl (s1_37.ne rfl).ev ?_)
      refine l_call _ rfl rfl rfl Try.func13 rfl (args2 rfl ((At.hit z37 rfl).ne rfl).ev (At.hit z37.put rfl).ev) (Diff.calls _ _ lb lo (by omega) (by omega) _ ovb_36 ovo_36) ?_
      rintro v38 w38 ⟨o38, h38⟩
      replace o38 := o38.base low37.ge
      have kg38_11_38 := kg38_11_36.low h38
      have kg71_35_38 := kg71_35_36.low h38
      have kg72_36_38 := k36.low h38
      have ovb_38 := ovb_36.low h38
      have ovo_38 := ovo_36.low h38
      have ovt_38 := ovt_36.low h38
      have ob8_38 := ob8_36.low h38
      have oc8_38 := oc8_36.low h38
      refine l_q rfl (q_move _ _ rfl (((s0_37.ne rfl).ne rfl).ne rfl).ev ?_)
      refine l_q rfl (q_move _ _ rfl ((((s2_37.ne rfl).ne rfl).ne rfl).ne rfl).ev ?_)
      refine l_call _ rfl rfl rfl Try.func13 rfl (args2 rfl ((At.hit z37.put.put.put rfl).ne rfl).ev (At.hit z37.put.put.put.put rfl).ev) (Diff.calls _ _ lb lt (by omega) (by omega) _ ovb_38 ovt_38) ?_
      rintro v39 w39 ⟨o39, h39⟩
      replace o39 := o39.base (low37.trans h38).ge
      have kg38_11_39 := kg38_11_38.low h39
      have kg71_35_39 := kg71_35_38.low h39
      have kg72_36_39 := kg72_36_38.low h39
      have ovb_39 := ovb_38.low h39
      have ovo_39 := ovo_38.low h39
      have ovt_39 := ovt_38.low h39
      have ob8_39 := ob8_38.low h39
      have oc8_39 := oc8_38.low h39
      have ob38_39 := o38.low h39
      refine l_q rfl (q_assign _ _ rfl ((((At.hit z37.put.put rfl).ne rfl).ne rfl).ne rfl).ev ?_)
      refine l_q rfl (q_assign _ _ rfl ((At.hit z37.put.put.put.put.put rfl).ne rfl).ev ?_)
      refine l_end ?_
      refine e_fresh z37.put.put.put.put.put.put.put.put ?_
      intro a40 z40 m40
      have s0_40 := m40 _ _ ((((((((s0_37.ne rfl).ne rfl).ne rfl).ne rfl).ne rfl).ne rfl).ne rfl).ne rfl)
      have s7_40 := m40 _ _ ((((((((s7_37.ne rfl).ne rfl).ne rfl).ne rfl).ne rfl).ne rfl).ne rfl).ne rfl)
      have s8_40 := m40 _ _ ((((((((s8_37.ne rfl).ne rfl).ne rfl).ne rfl).ne rfl).ne rfl).ne rfl).ne rfl)
      have s9_40 := m40 _ _ ((((((((s9_37.ne rfl).ne rfl).ne rfl).ne rfl).ne rfl).ne rfl).ne rfl).ne rfl)
      have s11_40 := m40 _ _ ((((((((s11_37.ne rfl).ne rfl).ne rfl).ne rfl).ne rfl).ne rfl).ne rfl).ne rfl)
      have s12_40 := m40 _ _ ((((((((s12_37.ne rfl).ne rfl).ne rfl).ne rfl).ne rfl).ne rfl).ne rfl).ne rfl)
      have s13_40 := m40 _ _ ((At.hit z37.put.put.put.put.put.put rfl).ne rfl)
      have s14_40 := m40 _ _ (At.hit z37.put.put.put.put.put.put.put rfl)
      have low40 := ((low37.trans h38).trans h39)
      clear m40
      refine e_then ?_
      refine c_seq ?_
      refine c_seq ?_
      refine c_region ?_
      refine l_q rfl (q_assign _ _ rfl rfl ?_)
      refine l_end ?_
      refine e_fresh z40.put ?_
      intro a41 z41 m41
      have s0_41 := m41 _ _ (s0_40.ne rfl)
      have s7_41 := m41 _ _ (s7_40.ne rfl)
      have s8_41 := m41 _ _ (s8_40.ne rfl)
      have s9_41 := m41 _ _ (s9_40.ne rfl)
      have s11_41 := m41 _ _ (s11_40.ne rfl)
      have s12_41 := m41 _ _ (s12_40.ne rfl)
      have s13_41 := m41 _ _ (s13_40.ne rfl)
      have s14_41 := m41 _ _ (s14_40.ne rfl)
      have s15_41 := m41 _ _ (At.hit z40 rfl)
      clear m41
      refine e_then ?_
      refine wp_block ?_
      refine c_loop ((diffL lb lo).length) (fun k a w => Fr 223 a ∧ At a 0 (vb) ∧ At a 7 (p8) ∧ At a 8 (q8) ∧ At a 9 (.map (some g38_11)) ∧ At a 11 (.map (some g71_35)) ∧ At a 12 (.map (some g72_36)) ∧ At a 13 (v38) ∧ At a 14 (v39) ∧ At a 15 (.int .i64 ((k : Nat) : Int)) ∧ MapIs w g38_11 (mapL (outF lb lo lt)) ∧ MapIs w g71_35 (mapB (pathsTn ((diffL lb lo).take k))) ∧ MapIs w g72_36 ([]) ∧ OwnF w w8.heap.size 42 7 v38 (diffL lb lo).length (((diffL lb lo).map encT).flatten) ∧ OwnF w w8.heap.size 42 7 v39 (diffL lb lt).length (((diffL lb lt).map encT).flatten) ∧ Low w8 w) ?_ ?_ ?_
      · exact ⟨z41, s0_41, s7_41, s8_41, s9_41, s11_41, s12_41, s13_41, s14_41, s15_41, kg38_11_39, kg71_35_39, kg72_36_39, ob38_39, o39, low40⟩
      · intro k a42 w42 hk42 h
        obtain ⟨z42, s0_42, s7_42, s8_42, s9_42, s11_42, s12_42, s13_42, s14_42, s15_42, kg38_11_42, kg71_35_42, kg72_36_42, ob38_42, ob39_42, low42⟩ := h
        clear kg38_11_39 kg71_35_39 kg72_36_39 low40 s0_41 s11_41 s12_41 s13_41 s14_41 s15_41 s7_41 s8_41 s9_41 z41
        refine c_seq ?_
        refine c_seq ?_
        refine c_region ?_
        refine l_q rfl (q_move _ _ rfl s15_42.ev ?_)
        refine l_q rfl (q_move _ _ rfl (s13_42.ne rfl).ev ?_)
        refine l_q rfl (q_lenF rfl rfl Try.underlying39 (At.hit z42.put rfl).ev ob38_42.rd ?_)
        refine l_q rfl (q_lss true rfl (((At.hit z42 rfl).ne rfl).ne rfl).ev (At.hit z42.put.put rfl).ev (decide_eq_true (by omega)) ?_)
        refine l_end ?_
        refine e_fresh z42.put.put.put.put ?_
        intro a43 z43 m43
        have s0_43 := m43 _ _ ((((s0_42.ne rfl).ne rfl).ne rfl).ne rfl)
        have s7_43 := m43 _ _ ((((s7_42.ne rfl).ne rfl).ne rfl).ne rfl)
        have s8_43 := m43 _ _ ((((s8_42.ne rfl).ne rfl).ne rfl).ne rfl)
        have s9_43 := m43 _ _ ((((s9_42.ne rfl).ne rfl).ne rfl).ne rfl)
        have s11_43 := m43 _ _ ((((s11_42.ne rfl).ne rfl).ne rfl).ne rfl)
        have s12_43 := m43 _ _ ((((s12_42.ne rfl).ne rfl).ne rfl).ne rfl)
        have s13_43 := m43 _ _ ((((s13_42.ne rfl).ne rfl).ne rfl).ne rfl)
        have s14_43 := m43 _ _ ((((s14_42.ne rfl).ne rfl).ne rfl).ne rfl)
        have s15_43 := m43 _ _ ((((s15_42.ne rfl).ne rfl).ne rfl).ne rfl)
        have s82_43 := m43 _ _ (At.hit z42.put.put.put rfl)
        clear m43
        refine e_then ?_
        refine c_true s82_43 ?_
        refine wp_skip ?_
        refine e_then ?_
        refine c_seq ?_
        refine wp_block ?_
        refine c_region ?_
        refine l_q rfl (q_move _ _ rfl s11_43.ev ?_)
        refine l_q rfl (q_move _ _ rfl (s13_43.ne rfl).ev ?_)
        refine l_q rfl (q_move _ _ rfl ((s15_43.ne rfl).ne rfl).ev ?_)
        refine l_q rfl (q_idxF (j := k) rfl Try.underlying39 sz42 ((At.hit z43.put rfl).ne rfl).ev ob38_42.rd (At.hit z43.put.put rfl).ev (by omega) ?_)
        refine l_q rfl (q_fldF 0 rfl fld42_0 (At.hit z43.put.put.put rfl).ev (ob38_42.rd.form (by omega)) ?_)
        refine l_q rfl (q_ld1 (u := .string (((diffL lb lo).getD k zT).f0)) rfl Try.underlying9 rfl (At.hit z43.put.put.put.put rfl).ev (fun _ e => by rw [e]; exact ob38_42.rd) (by omega) ((flat_at encT_len zT _ k 0 (by omega) (by decide)).trans rfl) ?_)
        refine l_mapPut rfl rfl rfl Try.underlying38 Try.underlying9 ((((((At.hit z43 rfl).ne rfl).ne rfl).ne rfl).ne rfl).ne rfl).ev (At.hit z43.put.put.put.put.put rfl).ev rfl kg71_35_42 ?_
        intro w44 k44 u44
        replace k44 : MapIs w44 g71_35 (mput (mapB (pathsTn ((diffL lb lo).take k))) (((diffL lb lo).getD k zT).f0) (.bool true)) := k44
        have ob38_44 := ob38_42.updm u44 kg71_35_42
        have ob39_44 := ob39_42.updm u44 kg71_35_42
        have kg38_11_44 := kg38_11_42.upd u44 (by omega)
        have kg72_36_44 := kg72_36_42.upd u44 (by omega)
        refine l_end ?_
        refine e_fresh z43.put.put.put.put.put.put ?_
        intro a45 z45 m45
        have s0_45 := m45 _ _ ((((((s0_43.ne rfl).ne rfl).ne rfl).ne rfl).ne rfl).ne rfl)
        have s7_45 := m45 _ _ ((((((s7_43.ne rfl).ne rfl).ne rfl).ne rfl).ne rfl).ne rfl)
        have s8_45 := m45 _ _ ((((((s8_43.ne rfl).ne rfl).ne rfl).ne rfl).ne rfl).ne rfl)
        have s9_45 := m45 _ _ ((((((s9_43.ne rfl).ne rfl).ne rfl).ne rfl).ne rfl).ne rfl)
        have s11_45 := m45 _ _ ((((((s11_43.ne rfl).ne rfl).ne rfl).ne rfl).ne rfl).ne rfl)
        have s12_45 := m45 _ _ ((((((s12_43.ne rfl).ne rfl).ne rfl).ne rfl).ne rfl).ne rfl)
        have s13_45 := m45 _ _ ((((((s13_43.ne rfl).ne rfl).ne rfl).ne rfl).ne rfl).ne rfl)
        have s14_45 := m45 _ _ ((((((s14_43.ne rfl).ne rfl).ne rfl).ne rfl).ne rfl).ne rfl)
        have s15_45 := m45 _ _ ((((((s15_43.ne rfl).ne rfl).ne rfl).ne rfl).ne rfl).ne rfl)
        have low45 := (low42.upd u44 geg71_35)
        clear m45
        refine e_in ?_
        refine e_then ?_
        refine c_region ?_
        refine l_q rfl (q_move _ _ rfl s15_45.ev ?_)
        refine l_q rfl (q_add (((k + 1 : Nat) : Int)) rfl (At.hit z45 rfl).ev rfl (i64_is (by omega) (by omega) (by omega)) ?_)
        refine l_q rfl (q_assign _ _ rfl (At.hit z45.put rfl).ev ?_)
        refine l_end ?_
        refine e_fresh z45.put.put.put ?_
        intro a46 z46 m46
        have s0_46 := m46 _ _ (((s0_45.ne rfl).ne rfl).ne rfl)
        have s7_46 := m46 _ _ (((s7_45.ne rfl).ne rfl).ne rfl)
        have s8_46 := m46 _ _ (((s8_45.ne rfl).ne rfl).ne rfl)
        have s9_46 := m46 _ _ (((s9_45.ne rfl).ne rfl).ne rfl)
        have s11_46 := m46 _ _ (((s11_45.ne rfl).ne rfl).ne rfl)
        have s12_46 := m46 _ _ (((s12_45.ne rfl).ne rfl).ne rfl)
        have s13_46 := m46 _ _ (((s13_45.ne rfl).ne rfl).ne rfl)
        have s14_46 := m46 _ _ (((s14_45.ne rfl).ne rfl).ne rfl)
        have s15_46 := m46 _ _ (At.hit z45.put.put rfl)
        clear m46
        rw [mapB_snoc, pathsTn_next (diffL lb lo) k (by assumption)] at k44
        exact ⟨z46, s0_46, s7_46, s8_46, s9_46, s11_46, s12_46, s13_46, s14_46, s15_46, kg38_11_44, k44, kg72_36_44, ob38_44, ob39_44, low45⟩
      · intro a47 w47 h
        obtain ⟨z47, s0_47, s7_47, s8_47, s9_47, s11_47, s12_47, s13_47, s14_47, s15_47, kg38_11_47, kg71_35_47, kg72_36_47, ob38_47, ob39_47, low47⟩ := h
        clear kg38_11_39 kg71_35_39 kg72_36_39 low40 s0_41 s11_41 s12_41 s13_41 s14_41 s15_41 s7_41 s8_41 s9_41 z41
        refine c_seq ?_
        refine c_seq ?_
        refine c_region ?_
        refine l_q rfl (q_move _ _ rfl s15_47.ev ?_)
        refine l_q rfl (q_move _ _ rfl (s13_47.ne rfl).ev ?_)
        refine l_q rfl (q_lenF rfl rfl Try.underlying39 (At.hit z47.put rfl).ev ob38_47.rd ?_)
        refine l_q rfl (q_lss false rfl (((At.hit z47 rfl).ne rfl).ne rfl).ev (At.hit z47.put.put rfl).ev (decide_eq_false (by omega)) ?_)
        refine l_end ?_
        refine e_fresh z47.put.put.put.put ?_
        intro a48 z48 m48
        have s0_48 := m48 _ _ ((((s0_47.ne rfl).ne rfl).ne rfl).ne rfl)
        have s7_48 := m48 _ _ ((((s7_47.ne rfl).ne rfl).ne rfl).ne rfl)
        have s8_48 := m48 _ _ ((((s8_47.ne rfl).ne rfl).ne rfl).ne rfl)
        have s9_48 := m48 _ _ ((((s9_47.ne rfl).ne rfl).ne rfl).ne rfl)
        have s11_48 := m48 _ _ ((((s11_47.ne rfl).ne rfl).ne rfl).ne rfl)
        have s12_48 := m48 _ _ ((((s12_47.ne rfl).ne rfl).ne rfl).ne rfl)
        have s13_48 := m48 _ _ ((((s13_47.ne rfl).ne rfl).ne rfl).ne rfl)
        have s14_48 := m48 _ _ ((((s14_47.ne rfl).ne rfl).ne rfl).ne rfl)
        have s15_48 := m48 _ _ ((((s15_47.ne rfl).ne rfl).ne rfl).ne rfl)
        have s82_48 := m48 _ _ (At.hit z47.put.put.put rfl)
        clear m48
        refine e_then ?_
        refine c_false s82_48 ?_
        refine wp_exit ?_
        refine x_then ?_
        refine x_then ?_
        refine in_exit ?_
        refine e_then ?_
        refine c_seq ?_
        refine c_seq ?_
        rw [List.take_length] at kg71_35_47
        refine c_region ?_
        refine l_q rfl (q_assign _ _ rfl rfl ?_)
        refine l_end ?_
        refine e_fresh z48.put ?_
        intro a49 z49 m49
        have s0_49 := m49 _ _ (s0_48.ne rfl)
        have s7_49 := m49 _ _ (s7_48.ne rfl)
        have s8_49 := m49 _ _ (s8_48.ne rfl)
        have s9_49 := m49 _ _ (s9_48.ne rfl)
        have s11_49 := m49 _ _ (s11_48.ne rfl)
        have s12_49 := m49 _ _ (s12_48.ne rfl)
        have s13_49 := m49 _ _ (s13_48.ne rfl)
        have s14_49 := m49 _ _ (s14_48.ne rfl)
        have s16_49 := m49 _ _ (At.hit z48 rfl)
        clear m49
        refine e_then ?_
        refine wp_block ?_
        refine c_loop ((diffL lb lt).length) (fun k a w => Fr 223 a ∧ At a 0 (vb) ∧ At a 7 (p8) ∧ At a 8 (q8) ∧ At a 9 (.map (some g38_11)) ∧ At a 11 (.map (some g71_35)) ∧ At a 12 (.map (some g72_36)) ∧ At a 13 (v38) ∧ At a 14 (v39) ∧ At a 16 (.int .i64 ((k : Nat) : Int)) ∧ MapIs w g38_11 (mapL (outF lb lo lt)) ∧ MapIs w g71_35 (mapB (pathsTn (diffL lb lo))) ∧ MapIs w g72_36 (mapB (pathsTn ((diffL lb lt).take k))) ∧ OwnF w w8.heap.size 42 7 v38 (diffL lb lo).length (((diffL lb lo).map encT).flatten) ∧ OwnF w w8.heap.size 42 7 v39 (diffL lb lt).length (((diffL lb lt).map encT).flatten) ∧ Low w8 w) ?_ ?_ ?_
        · exact ⟨z49, s0_49, s7_49, s8_49, s9_49, s11_49, s12_49, s13_49, s14_49, s16_49, kg38_11_47, kg71_35_47, kg72_36_47, ob38_47, ob39_47, low47⟩
        · intro k a50 w50 hk50 h
          obtain ⟨z50, s0_50, s7_50, s8_50, s9_50, s11_50, s12_50, s13_50, s14_50, s16_50, kg38_11_50, kg71_35_50, kg72_36_50, ob38_50, ob39_50, low50⟩ := h
          clear kg38_11_47 kg71_35_47 kg72_36_47 low47 s0_49 s11_49 s12_49 s13_49 s14_49 s16_49 s7_49 s8_49 s9_49 z49
          refine c_seq ?_
          refine c_seq ?_
          refine c_region ?_
          refine l_q rfl (q_move _ _ rfl s16_50.ev ?_)
          refine l_q rfl (q_move _ _ rfl (s14_50.ne rfl).ev ?_)
          refine l_q rfl (q_lenF rfl rfl Try.underlying39 (At.hit z50.put rfl).ev ob39_50.rd ?_)
          refine l_q rfl (q_lss true rfl (((At.hit z50 rfl).ne rfl).ne rfl).ev (At.hit z50.put.put rfl).ev (decide_eq_true (by omega)) ?_)
          refine l_end ?_
          refine e_fresh z50.put.put.put.put ?_
          intro a51 z51 m51
          have s0_51 := m51 _ _ ((((s0_50.ne rfl).ne rfl).ne rfl).ne rfl)
          have s7_51 := m51 _ _ ((((s7_50.ne rfl).ne rfl).ne rfl).ne rfl)
          have s8_51 := m51 _ _ ((((s8_50.ne rfl).ne rfl).ne rfl).ne rfl)
          have s9_51 := m51 _ _ ((((s9_50.ne rfl).ne rfl).ne rfl).ne rfl)
          have s11_51 := m51 _ _ ((((s11_50.ne rfl).ne rfl).ne rfl).ne rfl)
          have s12_51 := m51 _ _ ((((s12_50.ne rfl).ne rfl).ne rfl).ne rfl)
          have s13_51 := m51 _ _ ((((s13_50.ne rfl).ne rfl).ne rfl).ne rfl)
          have s14_51 := m51 _ _ ((((s14_50.ne rfl).ne rfl).ne rfl).ne rfl)
          have s16_51 := m51 _ _ ((((s16_50.ne rfl).ne rfl).ne rfl).ne rfl)
          have s94_51 := m51 _ _ (At.hit z50.put.put.put rfl)
          clear m51
          refine e_then ?_
          refine c_true s94_51 ?_
          refine wp_skip ?_
          refine e_then ?_
          refine c_seq ?_
          refine wp_block ?_
          refine c_seq ?_
          refine c_region ?_
          refine l_q rfl (q_move _ _ rfl s12_51.ev ?_)
          refine l_q rfl (q_move _ _ rfl (s14_51.ne rfl).ev ?_)
          refine l_q rfl (q_move _ _ rfl ((s16_51.ne rfl).ne rfl).ev ?_)
          refine l_q rfl (q_idxF (j := k) rfl Try.underlying39 sz42 ((At.hit z51.put rfl).ne rfl).ev ob39_50.rd (At.hit z51.put.put rfl).ev (by omega) ?_)
          refine l_q rfl (q_fldF 0 rfl fld42_0 (At.hit z51.put.put.put rfl).ev (ob39_50.rd.form (by omega)) ?_)
          refine l_q rfl (q_ld1 (u := .string (((diffL lb lt).getD k zT).f0)) rfl Try.underlying9 rfl (At.hit z51.put.put.put.put rfl).ev (fun _ e => by rw [e]; exact ob39_50.rd) (by omega) ((flat_at encT_len zT _ k 0 (by omega) (by decide)).trans rfl) ?_)
          refine l_mapPut rfl rfl rfl Try.underlying38 Try.underlying9 ((((((At.hit z51 rfl).ne rfl).ne rfl).ne rfl).ne rfl).ne rfl).ev (At.hit z51.put.put.put.put.put rfl).ev rfl kg72_36_50 ?_
          intro w52 k52 u52
          replace k52 : MapIs w52 g72_36 (mput (mapB (pathsTn ((diffL lb lt).take k))) (((diffL lb lt).getD k zT).f0) (.bool true)) := k52
          have ob38_52 := ob38_50.updm u52 kg72_36_50
          have ob39_52 := ob39_50.updm u52 kg72_36_50
          have kg38_11_52 := kg38_11_50.upd u52 (by omega)
          have kg71_35_52 := kg71_35_50.upd u52 (by omega)
          refine l_end ?_
          refine e_fresh z51.put.put.put.put.put.put ?_
          intro a53 z53 m53
          have s0_53 := m53 _ _ ((((((s0_51.ne rfl).ne rfl).ne rfl).ne rfl).ne rfl).ne rfl)
          have s7_53 := m53 _ _ ((((((s7_51.ne rfl).ne rfl).ne rfl).ne rfl).ne rfl).ne rfl)
          have s8_53 := m53 _ _ ((((((s8_51.ne rfl).ne rfl).ne rfl).ne rfl).ne rfl).ne rfl)
          have s9_53 := m53 _ _ ((((((s9_51.ne rfl).ne rfl).ne rfl).ne rfl).ne rfl).ne rfl)
          have s11_53 := m53 _ _ ((((((s11_51.ne rfl).ne rfl).ne rfl).ne rfl).ne rfl).ne rfl)
          have s12_53 := m53 _ _ ((((((s12_51.ne rfl).ne rfl).ne rfl).ne rfl).ne rfl).ne rfl)
          have s13_53 := m53 _ _ ((((((s13_51.ne rfl).ne rfl).ne rfl).ne rfl).ne rfl).ne rfl)
          have s14_53 := m53 _ _ ((((((s14_51.ne rfl).ne rfl).ne rfl).ne rfl).ne rfl).ne rfl)
          have s16_53 := m53 _ _ ((((((s16_51.ne rfl).ne rfl).ne rfl).ne rfl).ne rfl).ne rfl)
          have low53 := (low50.upd u52 geg72_36)
          clear m53
          refine e_then ?_
          refine c_seq ?_
          by_cases hb54 : memB ((diffL lb lt).getD k zT).f0 (pathsTn (diffL lb lo)) = true
          · skip
            refine region_lowg hm (by kernel_rfl) ?_
            refine gs rfl (q_move _ _ rfl s11_53.ev ?_)
            refine gs rfl (q_move _ _ rfl (s14_53.ne rfl).ev ?_)
            refine gs rfl (q_move _ _ rfl ((s16_53.ne rfl).ne rfl).ev ?_)
            refine gs rfl (q_idxF (j := k) rfl Try.underlying39 sz42 ((At.hit z53.put rfl).ne rfl).ev ob39_52.rd (At.hit z53.put.put rfl).ev (by omega) ?_)
            refine gs rfl (q_fldF 0 rfl fld42_0 (At.hit z53.put.put.put rfl).ev (ob39_52.rd.form (by omega)) ?_)
            refine gs rfl (q_ld1 (u := .string (((diffL lb lt).getD k zT).f0)) rfl Try.underlying9 rfl (At.hit z53.put.put.put.put rfl).ev (fun _ h => (ob39_52.low h).rd) (by omega) ((flat_at encT_len zT _ k 0 (by omega) (by decide)).trans rfl) ?_)
            refine gs rfl (q_look (.bool true) rfl Try.underlying38 Try.underlying9 zero4 ((((((At.hit z53 rfl).ne rfl).ne rfl).ne rfl).ne rfl).ne rfl).ev (At.hit z53.put.put.put.put.put rfl).ev (fun _ h => kg71_35_52.low h) ((look_mapB (pathsTn (diffL lb lo)) (((diffL lb lt).getD k zT).f0)).trans (congrArg Value.bool hb54)) ?_)
            refine gs rfl (q_not (b := true) rfl (At.hit z53.put.put.put.put.put.put rfl).ev ?_)
            refine g_fresh z53.put.put.put.put.put.put.put.put ?_
            intro a55 z55 m55
            have s0_55 := m55 _ _ ((((((((s0_53.ne rfl).ne rfl).ne rfl).ne rfl).ne rfl).ne rfl).ne rfl).ne rfl)
            have s7_55 := m55 _ _ ((((((((s7_53.ne rfl).ne rfl).ne rfl).ne rfl).ne rfl).ne rfl).ne rfl).ne rfl)
            have s8_55 := m55 _ _ ((((((((s8_53.ne rfl).ne rfl).ne rfl).ne rfl).ne rfl).ne rfl).ne rfl).ne rfl)
            have s9_55 := m55 _ _ ((((((((s9_53.ne rfl).ne rfl).ne rfl).ne rfl).ne rfl).ne rfl).ne rfl).ne rfl)
            have s11_55 := m55 _ _ ((((((((s11_53.ne rfl).ne rfl).ne rfl).ne rfl).ne rfl).ne rfl).ne rfl).ne rfl)
            have s12_55 := m55 _ _ ((((((((s12_53.ne rfl).ne rfl).ne rfl).ne rfl).ne rfl).ne rfl).ne rfl).ne rfl)
            have s13_55 := m55 _ _ ((((((((s13_53.ne rfl).ne rfl).ne rfl).ne rfl).ne rfl).ne rfl).ne rfl).ne rfl)
            have s14_55 := m55 _ _ ((((((((s14_53.ne rfl).ne rfl).ne rfl).ne rfl).ne rfl).ne rfl).ne rfl).ne rfl)
            have s16_55 := m55 _ _ ((((((((s16_53.ne rfl).ne rfl).ne rfl).ne rfl).ne rfl).ne rfl).ne rfl).ne rfl)
            have s110_55 := m55 _ _ (At.hit z53.put.put.put.put.put.put.put rfl)
            clear m55
            refine gs rfl (q_move _ _ rfl s110_55.ev ?_)
            refine gsk (wanted_is (j := 8) (d := 111) (b := false) rfl rfl (At.hit z55 rfl) rfl) ?_
            refine gsk (wanted_is (j := 8) (d := 111) (b := false) rfl rfl ((At.hit z55 rfl).ne rfl) rfl) ?_
            refine gsk (wanted_is (j := 8) (d := 111) (b := false) rfl rfl (((At.hit z55 rfl).ne rfl).ne rfl) rfl) ?_
            refine gsk (wanted_is (j := 8) (d := 111) (b := false) rfl rfl ((((At.hit z55 rfl).ne rfl).ne rfl).ne rfl) rfl) ?_
            refine gsk (wanted_is (j := 8) (d := 111) (b := false) rfl rfl (((((At.hit z55 rfl).ne rfl).ne rfl).ne rfl).ne rfl) rfl) ?_
            refine gsk (wanted_is (j := 8) (d := 111) (b := false) rfl rfl ((((((At.hit z55 rfl).ne rfl).ne rfl).ne rfl).ne rfl).ne rfl) rfl) ?_
            refine gsk (wanted_is (j := 8) (d := 111) (b := false) rfl rfl (((((((At.hit z55 rfl).ne rfl).ne rfl).ne rfl).ne rfl).ne rfl).ne rfl) rfl) ?_
            refine g_fresh z55.put.put.put.put.put.put.put.put ?_
            intro a56 z56 m56
            have s0_56 := m56 _ _ ((((((((s0_55.ne rfl).ne rfl).ne rfl).ne rfl).ne rfl).ne rfl).ne rfl).ne rfl)
            have s7_56 := m56 _ _ ((((((((s7_55.ne rfl).ne rfl).ne rfl).ne rfl).ne rfl).ne rfl).ne rfl).ne rfl)
            have s8_56 := m56 _ _ ((((((((s8_55.ne rfl).ne rfl).ne rfl).ne rfl).ne rfl).ne rfl).ne rfl).ne rfl)
            have s9_56 := m56 _ _ ((((((((s9_55.ne rfl).ne rfl).ne rfl).ne rfl).ne rfl).ne rfl).ne rfl).ne rfl)
            have s11_56 := m56 _ _ ((((((((s11_55.ne rfl).ne rfl).ne rfl).ne rfl).ne rfl).ne rfl).ne rfl).ne rfl)
            have s12_56 := m56 _ _ ((((((((s12_55.ne rfl).ne rfl).ne rfl).ne rfl).ne rfl).ne rfl).ne rfl).ne rfl)
            have s13_56 := m56 _ _ ((((((((s13_55.ne rfl).ne rfl).ne rfl).ne rfl).ne rfl).ne rfl).ne rfl).ne rfl)
            have s14_56 := m56 _ _ ((((((((s14_55.ne rfl).ne rfl).ne rfl).ne rfl).ne rfl).ne rfl).ne rfl).ne rfl)
            have s16_56 := m56 _ _ ((((((((s16_55.ne rfl).ne rfl).ne rfl).ne rfl).ne rfl).ne rfl).ne rfl).ne rfl)
            have s111_56 := m56 _ _ ((((((((At.hit z55 rfl).ne rfl).ne rfl).ne rfl).ne rfl).ne rfl).ne rfl).ne rfl)
            have s118_56 := m56 _ _ (At.hit z55.put.put.put.put.put.put.put rfl)
            clear m56
            refine gsk (wanted_is (j := 8) (d := 111) (b := false) rfl rfl s111_56 rfl) ?_
            refine gsk (wanted_is (j := 8) (d := 111) (b := false) rfl rfl (s111_56.ne rfl) rfl) ?_
            refine gsk (wanted_is (j := 8) (d := 111) (b := false) rfl rfl ((s111_56.ne rfl).ne rfl) rfl) ?_
            refine gsk (wanted_is (j := 8) (d := 111) (b := false) rfl rfl (((s111_56.ne rfl).ne rfl).ne rfl) rfl) ?_
            refine gsk (wanted_is (j := 8) (d := 111) (b := false) rfl rfl ((((s111_56.ne rfl).ne rfl).ne rfl).ne rfl) rfl) ?_
            refine gsk (wanted_is (j := 8) (d := 111) (b := false) rfl rfl (((((s111_56.ne rfl).ne rfl).ne rfl).ne rfl).ne rfl) rfl) ?_
            refine gs rfl (q_pick (b := false) (.bool false) rfl ((((((s111_56.ne rfl).ne rfl).ne rfl).ne rfl).ne rfl).ne rfl).ev rfl ?_)
            refine gz ?_
            intro w57 h57
            have kg38_11_57 := kg38_11_52.low h57
            have kg71_35_57 := kg71_35_52.low h57
            have kg72_36_57 := k52.low h57
            have ob38_57 := ob38_52.low h57
            have ob39_57 := ob39_52.low h57
            have ovb_57 := (ovb_8.low (low50.upd u52 geg72_36)).low h57
            have ob8_57 := (o8.low (low50.upd u52 geg72_36)).low h57
            have oc8_57 := (oo8.low (low50.upd u52 geg72_36)).low h57
            refine e_id ?_
            refine e_fresh z56.put.put.put.put.put.put.put ?_
            intro a58 z58 m58
            have s0_58 := m58 _ _ (((((((s0_56.ne rfl).ne rfl).ne rfl).ne rfl).ne rfl).ne rfl).ne rfl)
            have s7_58 := m58 _ _ (((((((s7_56.ne rfl).ne rfl).ne rfl).ne rfl).ne rfl).ne rfl).ne rfl)
            have s8_58 := m58 _ _ (((((((s8_56.ne rfl).ne rfl).ne rfl).ne rfl).ne rfl).ne rfl).ne rfl)
            have s9_58 := m58 _ _ (((((((s9_56.ne rfl).ne rfl).ne rfl).ne rfl).ne rfl).ne rfl).ne rfl)
            have s11_58 := m58 _ _ (((((((s11_56.ne rfl).ne rfl).ne rfl).ne rfl).ne rfl).ne rfl).ne rfl)
            have s12_58 := m58 _ _ (((((((s12_56.ne rfl).ne rfl).ne rfl).ne rfl).ne rfl).ne rfl).ne rfl)
            have s13_58 := m58 _ _ (((((((s13_56.ne rfl).ne rfl).ne rfl).ne rfl).ne rfl).ne rfl).ne rfl)
            have s14_58 := m58 _ _ (((((((s14_56.ne rfl).ne rfl).ne rfl).ne rfl).ne rfl).ne rfl).ne rfl)
            have s16_58 := m58 _ _ (((((((s16_56.ne rfl).ne rfl).ne rfl).ne rfl).ne rfl).ne rfl).ne rfl)
            have s125_58 := m58 _ _ (At.hit z56.put.put.put.put.put.put rfl)
            have low58 := (low53.trans h57)
            clear m58
            refine e_then ?_
            refine c_false s125_58 ?_
            refine wp_skip ?_
            refine e_in ?_
            refine e_then ?_
            refine c_region ?_
            refine l_q rfl (q_move _ _ rfl s16_58.ev ?_)
            refine l_q rfl (q_add (((k + 1 : Nat) : Int)) rfl (At.hit z58 rfl).ev rfl (i64_is (by omega) (by omega) (by omega)) ?_)
            refine l_q rfl (q_assign _ _ rfl (At.hit z58.put rfl).ev ?_)
            refine l_end ?_
            refine e_fresh z58.put.put.put ?_
            intro a59 z59 m59
            have s0_59 := m59 _ _ (((s0_58.ne rfl).ne rfl).ne rfl)
            have s7_59 := m59 _ _ (((s7_58.ne rfl).ne rfl).ne rfl)
            have s8_59 := m59 _ _ (((s8_58.ne rfl).ne rfl).ne rfl)
            have s9_59 := m59 _ _ (((s9_58.ne rfl).ne rfl).ne rfl)
            have s11_59 := m59 _ _ (((s11_58.ne rfl).ne rfl).ne rfl)
            have s12_59 := m59 _ _ (((s12_58.ne rfl).ne rfl).ne rfl)
            have s13_59 := m59 _ _ (((s13_58.ne rfl).ne rfl).ne rfl)
            have s14_59 := m59 _ _ (((s14_58.ne rfl).ne rfl).ne rfl)
            have s16_59 := m59 _ _ (At.hit z58.put.put rfl)
            clear m59
            rw [mapB_snoc, pathsTn_next (diffL lb lt) k (by assumption)] at kg72_36_57
            exact ⟨z59, s0_59, s7_59, s8_59, s9_59, s11_59, s12_59, s13_59, s14_59, s16_59, kg38_11_57, kg71_35_57, kg72_36_57, ob38_57, ob39_57, low58⟩
          · skip
            refine region_lowg hm (by kernel_rfl) ?_
            refine gs rfl (q_move _ _ rfl s11_53.ev ?_)
            refine gs rfl (q_move _ _ rfl (s14_53.ne rfl).ev ?_)
            refine gs rfl (q_move _ _ rfl ((s16_53.ne rfl).ne rfl).ev ?_)
            refine gs rfl (q_idxF (j := k) rfl Try.underlying39 sz42 ((At.hit z53.put rfl).ne rfl).ev ob39_52.rd (At.hit z53.put.put rfl).ev (by omega) ?_)
            refine gs rfl (q_fldF 0 rfl fld42_0 (At.hit z53.put.put.put rfl).ev (ob39_52.rd.form (by omega)) ?_)
            refine gs rfl (q_ld1 (u := .string (((diffL lb lt).getD k zT).f0)) rfl Try.underlying9 rfl (At.hit z53.put.put.put.put rfl).ev (fun _ h => (ob39_52.low h).rd) (by omega) ((flat_at encT_len zT _ k 0 (by omega) (by decide)).trans rfl) ?_)
            refine gs rfl (q_look (.bool false) rfl Try.underlying38 Try.underlying9 zero4 ((((((At.hit z53 rfl).ne rfl).ne rfl).ne rfl).ne rfl).ne rfl).ev (At.hit z53.put.put.put.put.put rfl).ev (fun _ h => kg71_35_52.low h) ((look_mapB (pathsTn (diffL lb lo)) (((diffL lb lt).getD k zT).f0)).trans (congrArg Value.bool (eq_false_of_ne_true hb54))) ?_)
            refine gs rfl (q_not (b := false) rfl (At.hit z53.put.put.put.put.put.put rfl).ev ?_)
            refine g_fresh z53.put.put.put.put.put.put.put.put ?_
            intro a60 z60 m60
            have s0_60 := m60 _ _ ((((((((s0_53.ne rfl).ne rfl).ne rfl).ne rfl).ne rfl).ne rfl).ne rfl).ne rfl)
            have s7_60 := m60 _ _ ((((((((s7_53.ne rfl).ne rfl).ne rfl).ne rfl).ne rfl).ne rfl).ne rfl).ne rfl)
            have s8_60 := m60 _ _ ((((((((s8_53.ne rfl).ne rfl).ne rfl).ne rfl).ne rfl).ne rfl).ne rfl).ne rfl)
            have s9_60 := m60 _ _ ((((((((s9_53.ne rfl).ne rfl).ne rfl).ne rfl).ne rfl).ne rfl).ne rfl).ne rfl)
            have s11_60 := m60 _ _ ((((((((s11_53.ne rfl).ne rfl).ne rfl).ne rfl).ne rfl).ne rfl).ne rfl).ne rfl)
            have s12_60 := m60 _ _ ((((((((s12_53.ne rfl).ne rfl).ne rfl).ne rfl).ne rfl).ne rfl).ne rfl).ne rfl)
            have s13_60 := m60 _ _ ((((((((s13_53.ne rfl).ne rfl).ne rfl).ne rfl).ne rfl).ne rfl).ne rfl).ne rfl)
            have s14_60 := m60 _ _ ((((((((s14_53.ne rfl).ne rfl).ne rfl).ne rfl).ne rfl).ne rfl).ne rfl).ne rfl)
            have s16_60 := m60 _ _ ((((((((s16_53.ne rfl).ne rfl).ne rfl).ne rfl).ne rfl).ne rfl).ne rfl).ne rfl)
            have s110_60 := m60 _ _ (At.hit z53.put.put.put.put.put.put.put rfl)
            clear m60
            refine gs rfl (q_move _ _ rfl s110_60.ev ?_)
            refine gsg (wanted_is (j := 8) (d := 111) (b := true) rfl rfl (At.hit z60 rfl) rfl) (q_move _ _ rfl (s9_60.ne rfl).ev ?_)
            refine gsg (wanted_is (j := 8) (d := 111) (b := true) rfl rfl ((At.hit z60 rfl).ne rfl) rfl) (q_move _ _ rfl ((s14_60.ne rfl).ne rfl).ev ?_)
            refine gsg (wanted_is (j := 8) (d := 111) (b := true) rfl rfl (((At.hit z60 rfl).ne rfl).ne rfl) rfl) (q_move _ _ rfl (((s16_60.ne rfl).ne rfl).ne rfl).ev ?_)
            refine gsg (wanted_is (j := 8) (d := 111) (b := true) rfl rfl ((((At.hit z60 rfl).ne rfl).ne rfl).ne rfl) rfl) (q_idxF (j := k) rfl Try.underlying39 sz42 ((At.hit z60.put.put rfl).ne rfl).ev ob39_52.rd (At.hit z60.put.put.put rfl).ev (by omega) ?_)
            refine gsg (wanted_is (j := 8) (d := 111) (b := true) rfl rfl (((((At.hit z60 rfl).ne rfl).ne rfl).ne rfl).ne rfl) rfl) (q_fldF 0 rfl fld42_0 (At.hit z60.put.put.put.put rfl).ev (ob39_52.rd.form (by omega)) ?_)
            refine gsg (wanted_is (j := 8) (d := 111) (b := true) rfl rfl ((((((At.hit z60 rfl).ne rfl).ne rfl).ne rfl).ne rfl).ne rfl) rfl) (q_ld1 (u := .string (((diffL lb lt).getD k zT).f0)) rfl Try.underlying9 rfl (At.hit z60.put.put.put.put.put rfl).ev (fun _ h => (ob39_52.low h).rd) (by omega) ((flat_at encT_len zT _ k 0 (by omega) (by decide)).trans rfl) ?_)
            refine gsg (wanted_is (j := 8) (d := 111) (b := true) rfl rfl (((((((At.hit z60 rfl).ne rfl).ne rfl).ne rfl).ne rfl).ne rfl).ne rfl) rfl) (q_look (.agg (#[.string ((findL (outF lb lo lt) (((diffL lb lt).getD k zT).f0)).f0), .int .i64 ((findL (outF lb lo lt) (((diffL lb lt).getD k zT).f0)).f1), .string ((findL (outF lb lo lt) (((diffL lb lt).getD k zT).f0)).f2)])) rfl Try.underlying35 Try.underlying9 zero37 ((((((At.hit z60.put rfl).ne rfl).ne rfl).ne rfl).ne rfl).ne rfl).ev (At.hit z60.put.put.put.put.put.put rfl).ev (fun _ h => kg38_11_52.low h) (look_mapL (outF lb lo lt) (((diffL lb lt).getD k zT).f0)) ?_)
            refine g_fresh z60.put.put.put.put.put.put.put.put ?_
            intro a61 z61 m61
            have s0_61 := m61 _ _ ((((((((s0_60.ne rfl).ne rfl).ne rfl).ne rfl).ne rfl).ne rfl).ne rfl).ne rfl)
            have s7_61 := m61 _ _ ((((((((s7_60.ne rfl).ne rfl).ne rfl).ne rfl).ne rfl).ne rfl).ne rfl).ne rfl)
            have s8_61 := m61 _ _ ((((((((s8_60.ne rfl).ne rfl).ne rfl).ne rfl).ne rfl).ne rfl).ne rfl).ne rfl)
            have s9_61 := m61 _ _ ((((((((s9_60.ne rfl).ne rfl).ne rfl).ne rfl).ne rfl).ne rfl).ne rfl).ne rfl)
            have s11_61 := m61 _ _ ((((((((s11_60.ne rfl).ne rfl).ne rfl).ne rfl).ne rfl).ne rfl).ne rfl).ne rfl)
            have s12_61 := m61 _ _ ((((((((s12_60.ne rfl).ne rfl).ne rfl).ne rfl).ne rfl).ne rfl).ne rfl).ne rfl)
            have s13_61 := m61 _ _ ((((((((s13_60.ne rfl).ne rfl).ne rfl).ne rfl).ne rfl).ne rfl).ne rfl).ne rfl)
            have s14_61 := m61 _ _ ((((((((s14_60.ne rfl).ne rfl).ne rfl).ne rfl).ne rfl).ne rfl).ne rfl).ne rfl)
            have s16_61 := m61 _ _ ((((((((s16_60.ne rfl).ne rfl).ne rfl).ne rfl).ne rfl).ne rfl).ne rfl).ne rfl)
            have s111_61 := m61 _ _ ((((((((At.hit z60 rfl).ne rfl).ne rfl).ne rfl).ne rfl).ne rfl).ne rfl).ne rfl)
            have s118_61 := m61 _ _ (At.hit z60.put.put.put.put.put.put.put rfl)
            clear m61
            refine gsg (wanted_is (j := 8) (d := 111) (b := true) rfl rfl s111_61 rfl) (q_move _ _ rfl s14_61.ev ?_)
            refine gsg (wanted_is (j := 8) (d := 111) (b := true) rfl rfl (s111_61.ne rfl) rfl) (q_move _ _ rfl (s16_61.ne rfl).ev ?_)
            refine gsg (wanted_is (j := 8) (d := 111) (b := true) rfl rfl ((s111_61.ne rfl).ne rfl) rfl) (q_idxF (j := k) rfl Try.underlying39 sz42 ((At.hit z61 rfl).ne rfl).ev ob39_52.rd (At.hit z61.put rfl).ev (by omega) ?_)
            refine gsg (wanted_is (j := 8) (d := 111) (b := true) rfl rfl (((s111_61.ne rfl).ne rfl).ne rfl) rfl) (q_fldF 4 rfl fld42_2 (At.hit z61.put.put rfl).ev (ob39_52.rd.form (by omega)) ?_)
            refine gsg (wanted_is (j := 8) (d := 111) (b := true) rfl rfl ((((s111_61.ne rfl).ne rfl).ne rfl).ne rfl) rfl) (q_ldRm (vs := [.string ((((diffL lb lt).getD k zT).f2).f0), .int .i64 ((((diffL lb lt).getD k zT).f2).f1), .string ((((diffL lb lt).getD k zT).f2).f2)]) rfl Try.underlying37 rfl sz37 (At.hit z61.put.put.put rfl).ev (fun _ h => (ob39_52.low h).rd) (by omega) rfl ((flat_sub encT_len zT _ k 4 3 (by omega) (by decide)).trans rfl) ?_)
            refine gsg (wanted_is (j := 8) (d := 111) (b := true) rfl rfl (((((s111_61.ne rfl).ne rfl).ne rfl).ne rfl).ne rfl) rfl) (q_ne3 false rfl guard37 (((((s118_61.ne rfl).ne rfl).ne rfl).ne rfl).ne rfl).ev (At.hit z61.put.put.put.put rfl).ev (eq37 9998 ((findL (outF lb lo lt) (((diffL lb lt).getD k zT).f0)).f0) ((findL (outF lb lo lt) (((diffL lb lt).getD k zT).f0)).f1) ((findL (outF lb lo lt) (((diffL lb lt).getD k zT).f0)).f2) ((((diffL lb lt).getD k zT).f2).f0) ((((diffL lb lt).getD k zT).f2).f1) ((((diffL lb lt).getD k zT).f2).f2)) (neL_false (keep2 rb ro rt (by assumption) (eq_false_of_ne_true hb54))) ?_)
            refine gs rfl (q_pick (b := true) (.bool false) rfl ((((((s111_61.ne rfl).ne rfl).ne rfl).ne rfl).ne rfl).ne rfl).ev (At.hit z61.put.put.put.put.put rfl).ev ?_)
            refine gz ?_
            intro w62 h62
            have kg38_11_62 := kg38_11_52.low h62
            have kg71_35_62 := kg71_35_52.low h62
            have kg72_36_62 := k52.low h62
            have ob38_62 := ob38_52.low h62
            have ob39_62 := ob39_52.low h62
            have ovb_62 := (ovb_8.low (low50.upd u52 geg72_36)).low h62
            have ob8_62 := (o8.low (low50.upd u52 geg72_36)).low h62
            have oc8_62 := (oo8.low (low50.upd u52 geg72_36)).low h62
            refine e_id ?_
            refine e_fresh z61.put.put.put.put.put.put.put ?_
            intro a63 z63 m63
            have s0_63 := m63 _ _ (((((((s0_61.ne rfl).ne rfl).ne rfl).ne rfl).ne rfl).ne rfl).ne rfl)
            have s7_63 := m63 _ _ (((((((s7_61.ne rfl).ne rfl).ne rfl).ne rfl).ne rfl).ne rfl).ne rfl)
            have s8_63 := m63 _ _ (((((((s8_61.ne rfl).ne rfl).ne rfl).ne rfl).ne rfl).ne rfl).ne rfl)
            have s9_63 := m63 _ _ (((((((s9_61.ne rfl).ne rfl).ne rfl).ne rfl).ne rfl).ne rfl).ne rfl)
            have s11_63 := m63 _ _ (((((((s11_61.ne rfl).ne rfl).ne rfl).ne rfl).ne rfl).ne rfl).ne rfl)
            have s12_63 := m63 _ _ (((((((s12_61.ne rfl).ne rfl).ne rfl).ne rfl).ne rfl).ne rfl).ne rfl)
            have s13_63 := m63 _ _ (((((((s13_61.ne rfl).ne rfl).ne rfl).ne rfl).ne rfl).ne rfl).ne rfl)
            have s14_63 := m63 _ _ (((((((s14_61.ne rfl).ne rfl).ne rfl).ne rfl).ne rfl).ne rfl).ne rfl)
            have s16_63 := m63 _ _ (((((((s16_61.ne rfl).ne rfl).ne rfl).ne rfl).ne rfl).ne rfl).ne rfl)
            have s125_63 := m63 _ _ (At.hit z61.put.put.put.put.put.put rfl)
            have low63 := (low53.trans h62)
            clear m63
            refine e_then ?_
            refine c_false s125_63 ?_
            refine wp_skip ?_
            refine e_in ?_
            refine e_then ?_
            refine c_region ?_
            refine l_q rfl (q_move _ _ rfl s16_63.ev ?_)
            refine l_q rfl (q_add (((k + 1 : Nat) : Int)) rfl (At.hit z63 rfl).ev rfl (i64_is (by omega) (by omega) (by omega)) ?_)
            refine l_q rfl (q_assign _ _ rfl (At.hit z63.put rfl).ev ?_)
            refine l_end ?_
            refine e_fresh z63.put.put.put ?_
            intro a64 z64 m64
            have s0_64 := m64 _ _ (((s0_63.ne rfl).ne rfl).ne rfl)
            have s7_64 := m64 _ _ (((s7_63.ne rfl).ne rfl).ne rfl)
            have s8_64 := m64 _ _ (((s8_63.ne rfl).ne rfl).ne rfl)
            have s9_64 := m64 _ _ (((s9_63.ne rfl).ne rfl).ne rfl)
            have s11_64 := m64 _ _ (((s11_63.ne rfl).ne rfl).ne rfl)
            have s12_64 := m64 _ _ (((s12_63.ne rfl).ne rfl).ne rfl)
            have s13_64 := m64 _ _ (((s13_63.ne rfl).ne rfl).ne rfl)
            have s14_64 := m64 _ _ (((s14_63.ne rfl).ne rfl).ne rfl)
            have s16_64 := m64 _ _ (At.hit z63.put.put rfl)
            clear m64
            rw [mapB_snoc, pathsTn_next (diffL lb lt) k (by assumption)] at kg72_36_62
            exact ⟨z64, s0_64, s7_64, s8_64, s9_64, s11_64, s12_64, s13_64, s14_64, s16_64, kg38_11_62, kg71_35_62, kg72_36_62, ob38_62, ob39_62, low63⟩
        · intro a65 w65 h
          obtain ⟨z65, s0_65, s7_65, s8_65, s9_65, s11_65, s12_65, s13_65, s14_65, s16_65, kg38_11_65, kg71_35_65, kg72_36_65, ob38_65, ob39_65, low65⟩ := h
          clear kg38_11_47 kg71_35_47 kg72_36_47 low47 s0_49 s11_49 s12_49 s13_49 s14_49 s16_49 s7_49 s8_49 s9_49 z49
          refine c_seq ?_
          refine c_seq ?_
          refine c_region ?_
          refine l_q rfl (q_move _ _ rfl s16_65.ev ?_)
          refine l_q rfl (q_move _ _ rfl (s14_65.ne rfl).ev ?_)
          refine l_q rfl (q_lenF rfl rfl Try.underlying39 (At.hit z65.put rfl).ev ob39_65.rd ?_)
          refine l_q rfl (q_lss false rfl (((At.hit z65 rfl).ne rfl).ne rfl).ev (At.hit z65.put.put rfl).ev (decide_eq_false (by omega)) ?_)
          refine l_end ?_
          refine e_fresh z65.put.put.put.put ?_
          intro a66 z66 m66
          have s0_66 := m66 _ _ ((((s0_65.ne rfl).ne rfl).ne rfl).ne rfl)
          have s7_66 := m66 _ _ ((((s7_65.ne rfl).ne rfl).ne rfl).ne rfl)
          have s8_66 := m66 _ _ ((((s8_65.ne rfl).ne rfl).ne rfl).ne rfl)
          have s9_66 := m66 _ _ ((((s9_65.ne rfl).ne rfl).ne rfl).ne rfl)
          have s11_66 := m66 _ _ ((((s11_65.ne rfl).ne rfl).ne rfl).ne rfl)
          have s12_66 := m66 _ _ ((((s12_65.ne rfl).ne rfl).ne rfl).ne rfl)
          have s13_66 := m66 _ _ ((((s13_65.ne rfl).ne rfl).ne rfl).ne rfl)
          have s14_66 := m66 _ _ ((((s14_65.ne rfl).ne rfl).ne rfl).ne rfl)
          have s16_66 := m66 _ _ ((((s16_65.ne rfl).ne rfl).ne rfl).ne rfl)
          have s94_66 := m66 _ _ (At.hit z65.put.put.put rfl)
          clear m66
          refine e_then ?_
          refine c_false s94_66 ?_
          refine wp_exit ?_
          refine x_then ?_
          refine x_then ?_
          refine in_exit ?_
          refine e_then ?_
          refine c_seq ?_
          refine c_seq ?_
          rw [List.take_length] at kg72_36_65
          refine c_region ?_
          refine l_q rfl (q_assign _ _ rfl rfl ?_)
          refine l_end ?_
          refine e_fresh z66.put ?_
          intro a67 z67 m67
          have s0_67 := m67 _ _ (s0_66.ne rfl)
          have s7_67 := m67 _ _ (s7_66.ne rfl)
          have s8_67 := m67 _ _ (s8_66.ne rfl)
          have s9_67 := m67 _ _ (s9_66.ne rfl)
          have s11_67 := m67 _ _ (s11_66.ne rfl)
          have s12_67 := m67 _ _ (s12_66.ne rfl)
          have s13_67 := m67 _ _ (s13_66.ne rfl)
          have s17_67 := m67 _ _ (At.hit z66 rfl)
          clear m67
          refine e_then ?_
          refine wp_block ?_
          refine c_loop ((diffL lb lo).length) (fun k a w => Fr 223 a ∧ At a 0 (vb) ∧ At a 7 (p8) ∧ At a 8 (q8) ∧ At a 9 (.map (some g38_11)) ∧ At a 11 (.map (some g71_35)) ∧ At a 12 (.map (some g72_36)) ∧ At a 13 (v38) ∧ At a 17 (.int .i64 ((k : Nat) : Int)) ∧ MapIs w g38_11 (mapL (outF lb lo lt)) ∧ MapIs w g71_35 (mapB (pathsTn (diffL lb lo))) ∧ MapIs w g72_36 (mapB (pathsTn (diffL lb lt))) ∧ OwnF w w8.heap.size 42 7 v38 (diffL lb lo).length (((diffL lb lo).map encT).flatten) ∧ Low w8 w) ?_ ?_ ?_
          · exact ⟨z67, s0_67, s7_67, s8_67, s9_67, s11_67, s12_67, s13_67, s17_67, kg38_11_65, kg71_35_65, kg72_36_65, ob38_65, low65⟩
          · intro k a68 w68 hk68 h
            obtain ⟨z68, s0_68, s7_68, s8_68, s9_68, s11_68, s12_68, s13_68, s17_68, kg38_11_68, kg71_35_68, kg72_36_68, ob38_68, low68⟩ := h
            clear kg38_11_65 kg71_35_65 kg72_36_65 low65 s0_67 s11_67 s12_67 s13_67 s17_67 s7_67 s8_67 s9_67 z67
            refine c_seq ?_
            refine c_seq ?_
            refine c_region ?_
            refine l_q rfl (q_move _ _ rfl s17_68.ev ?_)
            refine l_q rfl (q_move _ _ rfl (s13_68.ne rfl).ev ?_)
            refine l_q rfl (q_lenF rfl rfl Try.underlying39 (At.hit z68.put rfl).ev ob38_68.rd ?_)
            refine l_q rfl (q_lss true rfl (((At.hit z68 rfl).ne rfl).ne rfl).ev (At.hit z68.put.put rfl).ev (decide_eq_true (by omega)) ?_)
            refine l_end ?_
            refine e_fresh z68.put.put.put.put ?_
            intro a69 z69 m69
            have s0_69 := m69 _ _ ((((s0_68.ne rfl).ne rfl).ne rfl).ne rfl)
            have s7_69 := m69 _ _ ((((s7_68.ne rfl).ne rfl).ne rfl).ne rfl)
            have s8_69 := m69 _ _ ((((s8_68.ne rfl).ne rfl).ne rfl).ne rfl)
            have s9_69 := m69 _ _ ((((s9_68.ne rfl).ne rfl).ne rfl).ne rfl)
            have s11_69 := m69 _ _ ((((s11_68.ne rfl).ne rfl).ne rfl).ne rfl)
            have s12_69 := m69 _ _ ((((s12_68.ne rfl).ne rfl).ne rfl).ne rfl)
            have s13_69 := m69 _ _ ((((s13_68.ne rfl).ne rfl).ne rfl).ne rfl)
            have s17_69 := m69 _ _ ((((s17_68.ne rfl).ne rfl).ne rfl).ne rfl)
            have s129_69 := m69 _ _ (At.hit z68.put.put.put rfl)
            clear m69
            refine e_then ?_
            refine c_true s129_69 ?_
            refine wp_skip ?_
            refine e_then ?_
            refine c_seq ?_
            refine wp_block ?_
            refine c_seq ?_
            refine region_low hm (by kernel_rfl) ?_
            refine qs (q_move _ _ rfl s9_69.ev ?_)
            refine qs (q_move _ _ rfl (s13_69.ne rfl).ev ?_)
            refine qs (q_move _ _ rfl ((s17_69.ne rfl).ne rfl).ev ?_)
            refine qs (q_idxF (j := k) rfl Try.underlying39 sz42 ((At.hit z69.put rfl).ne rfl).ev ob38_68.rd (At.hit z69.put.put rfl).ev (by omega) ?_)
            refine qs (q_fldF 0 rfl fld42_0 (At.hit z69.put.put.put rfl).ev (ob38_68.rd.form (by omega)) ?_)
            refine qs (q_ld1 (u := .string (((diffL lb lo).getD k zT).f0)) rfl Try.underlying9 rfl (At.hit z69.put.put.put.put rfl).ev (fun _ h => (ob38_68.low h).rd) (by omega) ((flat_at encT_len zT _ k 0 (by omega) (by decide)).trans rfl) ?_)
            refine qs (q_look (.agg (#[.string ((findL (outF lb lo lt) (((diffL lb lo).getD k zT).f0)).f0), .int .i64 ((findL (outF lb lo lt) (((diffL lb lo).getD k zT).f0)).f1), .string ((findL (outF lb lo lt) (((diffL lb lo).getD k zT).f0)).f2)])) rfl Try.underlying35 Try.underlying9 zero37 ((((((At.hit z69 rfl).ne rfl).ne rfl).ne rfl).ne rfl).ne rfl).ev (At.hit z69.put.put.put.put.put rfl).ev (fun _ h => kg38_11_68.low h) (look_mapL (outF lb lo lt) (((diffL lb lo).getD k zT).f0)) ?_)
            refine qs (q_move _ _ rfl (((((((s13_69.ne rfl).ne rfl).ne rfl).ne rfl).ne rfl).ne rfl).ne rfl).ev ?_)
            refine q_fresh z69.put.put.put.put.put.put.put.put ?_
            intro a70 z70 m70
            have s0_70 := m70 _ _ ((((((((s0_69.ne rfl).ne rfl).ne rfl).ne rfl).ne rfl).ne rfl).ne rfl).ne rfl)
            have s7_70 := m70 _ _ ((((((((s7_69.ne rfl).ne rfl).ne rfl).ne rfl).ne rfl).ne rfl).ne rfl).ne rfl)
            have s8_70 := m70 _ _ ((((((((s8_69.ne rfl).ne rfl).ne rfl).ne rfl).ne rfl).ne rfl).ne rfl).ne rfl)
            have s9_70 := m70 _ _ ((((((((s9_69.ne rfl).ne rfl).ne rfl).ne rfl).ne rfl).ne rfl).ne rfl).ne rfl)
            have s11_70 := m70 _ _ ((((((((s11_69.ne rfl).ne rfl).ne rfl).ne rfl).ne rfl).ne rfl).ne rfl).ne rfl)
            have s12_70 := m70 _ _ ((((((((s12_69.ne rfl).ne rfl).ne rfl).ne rfl).ne rfl).ne rfl).ne rfl).ne rfl)
            have s13_70 := m70 _ _ ((((((((s13_69.ne rfl).ne rfl).ne rfl).ne rfl).ne rfl).ne rfl).ne rfl).ne rfl)
            have s17_70 := m70 _ _ ((((((((s17_69.ne rfl).ne rfl).ne rfl).ne rfl).ne rfl).ne rfl).ne rfl).ne rfl)
            have s138_70 := m70 _ _ ((At.hit z69.put.put.put.put.put.put rfl).ne rfl)
            have s139_70 := m70 _ _ (At.hit z69.put.put.put.put.put.put.put rfl)
            clear m70
            refine qs (q_move _ _ rfl s17_70.ev ?_)
            refine qs (q_idxF (j := k) rfl Try.underlying39 sz42 (s139_70.ne rfl).ev ob38_68.rd (At.hit z70 rfl).ev (by omega) ?_)
            refine qs (q_fldF 4 rfl fld42_2 (At.hit z70.put rfl).ev (ob38_68.rd.form (by omega)) ?_)
            refine qs (q_ldRm (vs := [.string ((((diffL lb lo).getD k zT).f2).f0), .int .i64 ((((diffL lb lo).getD k zT).f2).f1), .string ((((diffL lb lo).getD k zT).f2).f2)]) rfl Try.underlying37 rfl sz37 (At.hit z70.put.put rfl).ev (fun _ h => (ob38_68.low h).rd) (by omega) rfl ((flat_sub encT_len zT _ k 4 3 (by omega) (by decide)).trans rfl) ?_)
            refine qs (q_ne3 false rfl guard37 ((((s138_70.ne rfl).ne rfl).ne rfl).ne rfl).ev (At.hit z70.put.put.put rfl).ev (eq37 9998 ((findL (outF lb lo lt) (((diffL lb lo).getD k zT).f0)).f0) ((findL (outF lb lo lt) (((diffL lb lo).getD k zT).f0)).f1) ((findL (outF lb lo lt) (((diffL lb lo).getD k zT).f0)).f2) ((((diffL lb lo).getD k zT).f2).f0) ((((diffL lb lo).getD k zT).f2).f1) ((((diffL lb lo).getD k zT).f2).f2)) (neL_false (keep3 rb ro (by assumption))) ?_)
            refine qz ?_
            intro w71 h71
            have kg38_11_71 := kg38_11_68.low h71
            have kg71_35_71 := kg71_35_68.low h71
            have kg72_36_71 := kg72_36_68.low h71
            have ob38_71 := ob38_68.low h71
            have ovb_71 := (ovb_8.low low68).low h71
            have ob8_71 := (o8.low low68).low h71
            have oc8_71 := (oo8.low low68).low h71
            refine e_id ?_
            refine e_fresh z70.put.put.put.put.put ?_
            intro a72 z72 m72
            have s0_72 := m72 _ _ (((((s0_70.ne rfl).ne rfl).ne rfl).ne rfl).ne rfl)
            have s7_72 := m72 _ _ (((((s7_70.ne rfl).ne rfl).ne rfl).ne rfl).ne rfl)
            have s8_72 := m72 _ _ (((((s8_70.ne rfl).ne rfl).ne rfl).ne rfl).ne rfl)
            have s9_72 := m72 _ _ (((((s9_70.ne rfl).ne rfl).ne rfl).ne rfl).ne rfl)
            have s11_72 := m72 _ _ (((((s11_70.ne rfl).ne rfl).ne rfl).ne rfl).ne rfl)
            have s12_72 := m72 _ _ (((((s12_70.ne rfl).ne rfl).ne rfl).ne rfl).ne rfl)
            have s13_72 := m72 _ _ (((((s13_70.ne rfl).ne rfl).ne rfl).ne rfl).ne rfl)
            have s17_72 := m72 _ _ (((((s17_70.ne rfl).ne rfl).ne rfl).ne rfl).ne rfl)
            have s144_72 := m72 _ _ (At.hit z70.put.put.put.put rfl)
            have low72 := (low68.trans h71)
            clear m72
            refine e_then ?_
            refine c_false s144_72 ?_
            refine wp_skip ?_
            refine e_in ?_
            refine e_then ?_
            refine c_region ?_
            refine l_q rfl (q_move _ _ rfl s17_72.ev ?_)
            refine l_q rfl (q_add (((k + 1 : Nat) : Int)) rfl (At.hit z72 rfl).ev rfl (i64_is (by omega) (by omega) (by omega)) ?_)
            refine l_q rfl (q_assign _ _ rfl (At.hit z72.put rfl).ev ?_)
            refine l_end ?_
            refine e_fresh z72.put.put.put ?_
            intro a73 z73 m73
            have s0_73 := m73 _ _ (((s0_72.ne rfl).ne rfl).ne rfl)
            have s7_73 := m73 _ _ (((s7_72.ne rfl).ne rfl).ne rfl)
            have s8_73 := m73 _ _ (((s8_72.ne rfl).ne rfl).ne rfl)
            have s9_73 := m73 _ _ (((s9_72.ne rfl).ne rfl).ne rfl)
            have s11_73 := m73 _ _ (((s11_72.ne rfl).ne rfl).ne rfl)
            have s12_73 := m73 _ _ (((s12_72.ne rfl).ne rfl).ne rfl)
            have s13_73 := m73 _ _ (((s13_72.ne rfl).ne rfl).ne rfl)
            have s17_73 := m73 _ _ (At.hit z72.put.put rfl)
            clear m73
            exact ⟨z73, s0_73, s7_73, s8_73, s9_73, s11_73, s12_73, s13_73, s17_73, kg38_11_71, kg71_35_71, kg72_36_71, ob38_71, low72⟩
          · intro a74 w74 h
            obtain ⟨z74, s0_74, s7_74, s8_74, s9_74, s11_74, s12_74, s13_74, s17_74, kg38_11_74, kg71_35_74, kg72_36_74, ob38_74, low74⟩ := h
            clear kg38_11_65 kg71_35_65 kg72_36_65 low65 s0_67 s11_67 s12_67 s13_67 s17_67 s7_67 s8_67 s9_67 z67
            refine c_seq ?_
            refine c_seq ?_
            refine c_region ?_
            refine l_q rfl (q_move _ _ rfl s17_74.ev ?_)
            refine l_q rfl (q_move _ _ rfl (s13_74.ne rfl).ev ?_)
            refine l_q rfl (q_lenF rfl rfl Try.underlying39 (At.hit z74.put rfl).ev ob38_74.rd ?_)
            refine l_q rfl (q_lss false rfl (((At.hit z74 rfl).ne rfl).ne rfl).ev (At.hit z74.put.put rfl).ev (decide_eq_false (by omega)) ?_)
            refine l_end ?_
            refine e_fresh z74.put.put.put.put ?_
            intro a75 z75 m75
            have s0_75 := m75 _ _ ((((s0_74.ne rfl).ne rfl).ne rfl).ne rfl)
            have s7_75 := m75 _ _ ((((s7_74.ne rfl).ne rfl).ne rfl).ne rfl)
            have s8_75 := m75 _ _ ((((s8_74.ne rfl).ne rfl).ne rfl).ne rfl)
            have s9_75 := m75 _ _ ((((s9_74.ne rfl).ne rfl).ne rfl).ne rfl)
            have s11_75 := m75 _ _ ((((s11_74.ne rfl).ne rfl).ne rfl).ne rfl)
            have s12_75 := m75 _ _ ((((s12_74.ne rfl).ne rfl).ne rfl).ne rfl)
            have s13_75 := m75 _ _ ((((s13_74.ne rfl).ne rfl).ne rfl).ne rfl)
            have s17_75 := m75 _ _ ((((s17_74.ne rfl).ne rfl).ne rfl).ne rfl)
            have s129_75 := m75 _ _ (At.hit z74.put.put.put rfl)
            clear m75
            refine e_then ?_
            refine c_false s129_75 ?_
            refine wp_exit ?_
            refine x_then ?_
            refine x_then ?_
            refine in_exit ?_
            refine e_then ?_
            refine c_seq ?_
            refine c_seq ?_
            refine c_region ?_
            refine l_q rfl (q_assign _ _ rfl rfl ?_)
            refine l_end ?_
            refine e_fresh z75.put ?_
            intro a76 z76 m76
            have s0_76 := m76 _ _ (s0_75.ne rfl)
            have s7_76 := m76 _ _ (s7_75.ne rfl)
            have s8_76 := m76 _ _ (s8_75.ne rfl)
            have s9_76 := m76 _ _ (s9_75.ne rfl)
            have s11_76 := m76 _ _ (s11_75.ne rfl)
            have s12_76 := m76 _ _ (s12_75.ne rfl)
            have s18_76 := m76 _ _ (At.hit z75 rfl)
            clear m76
            refine e_then ?_
            refine wp_block ?_
            refine c_loop lb.length (fun k a w => Fr 223 a ∧ At a 0 (vb) ∧ At a 7 (p8) ∧ At a 8 (q8) ∧ At a 9 (.map (some g38_11)) ∧ At a 11 (.map (some g71_35)) ∧ At a 12 (.map (some g72_36)) ∧ At a 18 (.int .i64 ((k : Nat) : Int)) ∧ MapIs w g38_11 (mapL (outF lb lo lt)) ∧ MapIs w g71_35 (mapB (pathsTn (diffL lb lo))) ∧ MapIs w g72_36 (mapB (pathsTn (diffL lb lt))) ∧ Low w8 w) ?_ ?_ ?_
            · exact ⟨z76, s0_76, s7_76, s8_76, s9_76, s11_76, s12_76, s18_76, kg38_11_74, kg71_35_74, kg72_36_74, low74⟩
            · intro k a77 w77 hk77 h
              obtain ⟨z77, s0_77, s7_77, s8_77, s9_77, s11_77, s12_77, s18_77, kg38_11_77, kg71_35_77, kg72_36_77, low77⟩ := h
              clear kg38_11_74 kg71_35_74 kg72_36_74 low74 s0_76 s11_76 s12_76 s18_76 s7_76 s8_76 s9_76 z76
              refine c_seq ?_
              refine c_seq ?_
              refine c_region ?_
              refine l_q rfl (q_move _ _ rfl s18_77.ev ?_)
              refine l_q rfl (q_move _ _ rfl (s0_77.ne rfl).ev ?_)
              refine l_q rfl (q_lenF rfl rfl Try.underlying22 (At.hit z77.put rfl).ev (ovb_8.low low77) ?_)
              refine l_q rfl (q_lss true rfl (((At.hit z77 rfl).ne rfl).ne rfl).ev (At.hit z77.put.put rfl).ev (decide_eq_true (by omega)) ?_)
              refine l_end ?_
              refine e_fresh z77.put.put.put.put ?_
              intro a78 z78 m78
              have s0_78 := m78 _ _ ((((s0_77.ne rfl).ne rfl).ne rfl).ne rfl)
              have s7_78 := m78 _ _ ((((s7_77.ne rfl).ne rfl).ne rfl).ne rfl)
              have s8_78 := m78 _ _ ((((s8_77.ne rfl).ne rfl).ne rfl).ne rfl)
              have s9_78 := m78 _ _ ((((s9_77.ne rfl).ne rfl).ne rfl).ne rfl)
              have s11_78 := m78 _ _ ((((s11_77.ne rfl).ne rfl).ne rfl).ne rfl)
              have s12_78 := m78 _ _ ((((s12_77.ne rfl).ne rfl).ne rfl).ne rfl)
              have s18_78 := m78 _ _ ((((s18_77.ne rfl).ne rfl).ne rfl).ne rfl)
              have s148_78 := m78 _ _ (At.hit z77.put.put.put rfl)
              clear m78
              refine e_then ?_
              refine c_true s148_78 ?_
              refine wp_skip ?_
              refine e_then ?_
              refine c_seq ?_
              refine wp_block ?_
              refine c_seq ?_
              by_cases hb79 : memB (lb.getD k zL).f0 (pathsTn (diffL lb lo)) = true
              · skip
                refine region_lowg hm (by kernel_rfl) ?_
                refine gs rfl (q_move _ _ rfl s11_78.ev ?_)
                refine gs rfl (q_move _ _ rfl (s0_78.ne rfl).ev ?_)
                refine gs rfl (q_move _ _ rfl ((s18_78.ne rfl).ne rfl).ev ?_)
                refine gs rfl (q_idxF (j := k) rfl Try.underlying22 sz37 ((At.hit z78.put rfl).ne rfl).ev (ovb_8.low low77) (At.hit z78.put.put rfl).ev (by omega) ?_)
                refine gs rfl (q_fldF 0 rfl fld37_0 (At.hit z78.put.put.put rfl).ev ((ovb_8.low low77).form (by omega)) ?_)
                refine gs rfl (q_ld1 (u := .string ((lb.getD k zL).f0)) rfl Try.underlying9 rfl (At.hit z78.put.put.put.put rfl).ev (fun _ h => ((ovb_8.low low77).low h)) (by omega) ((flat_at encL_len zL _ k 0 (by omega) (by decide)).trans rfl) ?_)
                refine gs rfl (q_look (.bool true) rfl Try.underlying38 Try.underlying9 zero4 ((((((At.hit z78 rfl).ne rfl).ne rfl).ne rfl).ne rfl).ne rfl).ev (At.hit z78.put.put.put.put.put rfl).ev (fun _ h => kg71_35_77.low h) ((look_mapB (pathsTn (diffL lb lo)) ((lb.getD k zL).f0)).trans (congrArg Value.bool hb79)) ?_)
                refine gs rfl (q_not (b := true) rfl (At.hit z78.put.put.put.put.put.put rfl).ev ?_)
                refine g_fresh z78.put.put.put.put.put.put.put.put ?_
                intro a80 z80 m80
                have s0_80 := m80 _ _ ((((((((s0_78.ne rfl).ne rfl).ne rfl).ne rfl).ne rfl).ne rfl).ne rfl).ne rfl)
                have s7_80 := m80 _ _ ((((((((s7_78.ne rfl).ne rfl).ne rfl).ne rfl).ne rfl).ne rfl).ne rfl).ne rfl)
                have s8_80 := m80 _ _ ((((((((s8_78.ne rfl).ne rfl).ne rfl).ne rfl).ne rfl).ne rfl).ne rfl).ne rfl)
                have s9_80 := m80 _ _ ((((((((s9_78.ne rfl).ne rfl).ne rfl).ne rfl).ne rfl).ne rfl).ne rfl).ne rfl)
                have s11_80 := m80 _ _ ((((((((s11_78.ne rfl).ne rfl).ne rfl).ne rfl).ne rfl).ne rfl).ne rfl).ne rfl)
                have s12_80 := m80 _ _ ((((((((s12_78.ne rfl).ne rfl).ne rfl).ne rfl).ne rfl).ne rfl).ne rfl).ne rfl)
                have s18_80 := m80 _ _ ((((((((s18_78.ne rfl).ne rfl).ne rfl).ne rfl).ne rfl).ne rfl).ne rfl).ne rfl)
                have s158_80 := m80 _ _ (At.hit z78.put.put.put.put.put.put.put rfl)
                clear m80
                refine gs rfl (q_move _ _ rfl s158_80.ev ?_)
                refine gsk (wanted_is (j := 8) (d := 159) (b := false) rfl rfl (At.hit z80 rfl) rfl) ?_
                refine gsk (wanted_is (j := 8) (d := 159) (b := false) rfl rfl ((At.hit z80 rfl).ne rfl) rfl) ?_
                refine gsk (wanted_is (j := 8) (d := 159) (b := false) rfl rfl (((At.hit z80 rfl).ne rfl).ne rfl) rfl) ?_
                refine gsk (wanted_is (j := 8) (d := 159) (b := false) rfl rfl ((((At.hit z80 rfl).ne rfl).ne rfl).ne rfl) rfl) ?_
                refine gsk (wanted_is (j := 8) (d := 159) (b := false) rfl rfl (((((At.hit z80 rfl).ne rfl).ne rfl).ne rfl).ne rfl) rfl) ?_
                refine gsk (wanted_is (j := 8) (d := 159) (b := false) rfl rfl ((((((At.hit z80 rfl).ne rfl).ne rfl).ne rfl).ne rfl).ne rfl) rfl) ?_
                refine gsk (wanted_is (j := 8) (d := 159) (b := false) rfl rfl (((((((At.hit z80 rfl).ne rfl).ne rfl).ne rfl).ne rfl).ne rfl).ne rfl) rfl) ?_
                refine g_fresh z80.put.put.put.put.put.put.put.put ?_
                intro a81 z81 m81
                have s0_81 := m81 _ _ ((((((((s0_80.ne rfl).ne rfl).ne rfl).ne rfl).ne rfl).ne rfl).ne rfl).ne rfl)
                have s7_81 := m81 _ _ ((((((((s7_80.ne rfl).ne rfl).ne rfl).ne rfl).ne rfl).ne rfl).ne rfl).ne rfl)
                have s8_81 := m81 _ _ ((((((((s8_80.ne rfl).ne rfl).ne rfl).ne rfl).ne rfl).ne rfl).ne rfl).ne rfl)
                have s9_81 := m81 _ _ ((((((((s9_80.ne rfl).ne rfl).ne rfl).ne rfl).ne rfl).ne rfl).ne rfl).ne rfl)
                have s11_81 := m81 _ _ ((((((((s11_80.ne rfl).ne rfl).ne rfl).ne rfl).ne rfl).ne rfl).ne rfl).ne rfl)
                have s12_81 := m81 _ _ ((((((((s12_80.ne rfl).ne rfl).ne rfl).ne rfl).ne rfl).ne rfl).ne rfl).ne rfl)
                have s18_81 := m81 _ _ ((((((((s18_80.ne rfl).ne rfl).ne rfl).ne rfl).ne rfl).ne rfl).ne rfl).ne rfl)
                have s159_81 := m81 _ _ ((((((((At.hit z80 rfl).ne rfl).ne rfl).ne rfl).ne rfl).ne rfl).ne rfl).ne rfl)
                have s166_81 := m81 _ _ (At.hit z80.put.put.put.put.put.put.put rfl)
                clear m81
                refine gsk (wanted_is (j := 8) (d := 159) (b := false) rfl rfl s159_81 rfl) ?_
                refine gs rfl (q_pick (b := false) (.bool false) rfl (s159_81.ne rfl).ev rfl ?_)
                refine gs rfl (q_move _ _ rfl (At.hit z81.put rfl).ev ?_)
                refine gsk (wanted_is (j := 18) (d := 169) (b := false) rfl rfl (At.hit z81.put.put rfl) rfl) ?_
                refine gsk (wanted_is (j := 18) (d := 169) (b := false) rfl rfl ((At.hit z81.put.put rfl).ne rfl) rfl) ?_
                refine gsk (wanted_is (j := 18) (d := 169) (b := false) rfl rfl (((At.hit z81.put.put rfl).ne rfl).ne rfl) rfl) ?_
                refine gsk (wanted_is (j := 18) (d := 169) (b := false) rfl rfl ((((At.hit z81.put.put rfl).ne rfl).ne rfl).ne rfl) rfl) ?_
                refine gsk (wanted_is (j := 18) (d := 169) (b := false) rfl rfl (((((At.hit z81.put.put rfl).ne rfl).ne rfl).ne rfl).ne rfl) rfl) ?_
                refine g_fresh z81.put.put.put.put.put.put.put.put ?_
                intro a82 z82 m82
                have s0_82 := m82 _ _ ((((((((s0_81.ne rfl).ne rfl).ne rfl).ne rfl).ne rfl).ne rfl).ne rfl).ne rfl)
                have s7_82 := m82 _ _ ((((((((s7_81.ne rfl).ne rfl).ne rfl).ne rfl).ne rfl).ne rfl).ne rfl).ne rfl)
                have s8_82 := m82 _ _ ((((((((s8_81.ne rfl).ne rfl).ne rfl).ne rfl).ne rfl).ne rfl).ne rfl).ne rfl)
                have s9_82 := m82 _ _ ((((((((s9_81.ne rfl).ne rfl).ne rfl).ne rfl).ne rfl).ne rfl).ne rfl).ne rfl)
                have s11_82 := m82 _ _ ((((((((s11_81.ne rfl).ne rfl).ne rfl).ne rfl).ne rfl).ne rfl).ne rfl).ne rfl)
                have s12_82 := m82 _ _ ((((((((s12_81.ne rfl).ne rfl).ne rfl).ne rfl).ne rfl).ne rfl).ne rfl).ne rfl)
                have s18_82 := m82 _ _ ((((((((s18_81.ne rfl).ne rfl).ne rfl).ne rfl).ne rfl).ne rfl).ne rfl).ne rfl)
                have s169_82 := m82 _ _ ((((((At.hit z81.put.put rfl).ne rfl).ne rfl).ne rfl).ne rfl).ne rfl)
                have s170_82 := m82 _ _ (((((At.hit z81.put.put.put rfl).ne rfl).ne rfl).ne rfl).ne rfl)
                have s174_82 := m82 _ _ (At.hit z81.put.put.put.put.put.put.put rfl)
                clear m82
                refine gsk (wanted_is (j := 18) (d := 169) (b := false) rfl rfl s169_82 rfl) ?_
                refine gsk (wanted_is (j := 18) (d := 169) (b := false) rfl rfl (s169_82.ne rfl) rfl) ?_
                refine gsk (wanted_is (j := 18) (d := 169) (b := false) rfl rfl ((s169_82.ne rfl).ne rfl) rfl) ?_
                refine gsk (wanted_is (j := 18) (d := 169) (b := false) rfl rfl (((s169_82.ne rfl).ne rfl).ne rfl) rfl) ?_
                refine gsk (wanted_is (j := 18) (d := 169) (b := false) rfl rfl ((((s169_82.ne rfl).ne rfl).ne rfl).ne rfl) rfl) ?_
                refine gsk (wanted_is (j := 18) (d := 169) (b := false) rfl rfl (((((s169_82.ne rfl).ne rfl).ne rfl).ne rfl).ne rfl) rfl) ?_
                refine gsk (wanted_is (j := 18) (d := 169) (b := false) rfl rfl ((((((s169_82.ne rfl).ne rfl).ne rfl).ne rfl).ne rfl).ne rfl) rfl) ?_
                refine gs rfl (q_pick (b := false) (.bool false) rfl (((((((s169_82.ne rfl).ne rfl).ne rfl).ne rfl).ne rfl).ne rfl).ne rfl).ev rfl ?_)
                refine gz ?_
                intro w83 h83
                have kg38_11_83 := kg38_11_77.low h83
                have kg71_35_83 := kg71_35_77.low h83
                have kg72_36_83 := kg72_36_77.low h83
                have ovb_83 := (ovb_8.low low77).low h83
                have ob8_83 := (o8.low low77).low h83
                have oc8_83 := (oo8.low low77).low h83
                refine e_id ?_
                refine e_fresh z82.put.put.put.put.put.put.put.put ?_
                intro a84 z84 m84
                have s0_84 := m84 _ _ ((((((((s0_82.ne rfl).ne rfl).ne rfl).ne rfl).ne rfl).ne rfl).ne rfl).ne rfl)
                have s7_84 := m84 _ _ ((((((((s7_82.ne rfl).ne rfl).ne rfl).ne rfl).ne rfl).ne rfl).ne rfl).ne rfl)
                have s8_84 := m84 _ _ ((((((((s8_82.ne rfl).ne rfl).ne rfl).ne rfl).ne rfl).ne rfl).ne rfl).ne rfl)
                have s9_84 := m84 _ _ ((((((((s9_82.ne rfl).ne rfl).ne rfl).ne rfl).ne rfl).ne rfl).ne rfl).ne rfl)
                have s11_84 := m84 _ _ ((((((((s11_82.ne rfl).ne rfl).ne rfl).ne rfl).ne rfl).ne rfl).ne rfl).ne rfl)
                have s12_84 := m84 _ _ ((((((((s12_82.ne rfl).ne rfl).ne rfl).ne rfl).ne rfl).ne rfl).ne rfl).ne rfl)
                have s18_84 := m84 _ _ ((((((((s18_82.ne rfl).ne rfl).ne rfl).ne rfl).ne rfl).ne rfl).ne rfl).ne rfl)
                have s182_84 := m84 _ _ (At.hit z82.put.put.put.put.put.put.put rfl)
                have low84 := (low77.trans h83)
                clear m84
                refine e_then ?_
                refine c_false s182_84 ?_
                refine wp_skip ?_
                refine e_in ?_
                refine e_then ?_
                refine c_region ?_
                refine l_q rfl (q_move _ _ rfl s18_84.ev ?_)
                refine l_q rfl (q_add (((k + 1 : Nat) : Int)) rfl (At.hit z84 rfl).ev rfl (i64_is (by omega) (by omega) (by omega)) ?_)
                refine l_q rfl (q_assign _ _ rfl (At.hit z84.put rfl).ev ?_)
                refine l_end ?_
                refine e_fresh z84.put.put.put ?_
                intro a85 z85 m85
                have s0_85 := m85 _ _ (((s0_84.ne rfl).ne rfl).ne rfl)
                have s7_85 := m85 _ _ (((s7_84.ne rfl).ne rfl).ne rfl)
                have s8_85 := m85 _ _ (((s8_84.ne rfl).ne rfl).ne rfl)
                have s9_85 := m85 _ _ (((s9_84.ne rfl).ne rfl).ne rfl)
                have s11_85 := m85 _ _ (((s11_84.ne rfl).ne rfl).ne rfl)
                have s12_85 := m85 _ _ (((s12_84.ne rfl).ne rfl).ne rfl)
                have s18_85 := m85 _ _ (At.hit z84.put.put rfl)
                clear m85
                exact ⟨z85, s0_85, s7_85, s8_85, s9_85, s11_85, s12_85, s18_85, kg38_11_83, kg71_35_83, kg72_36_83, low84⟩
              · skip
                by_cases hb86 : memB (lb.getD k zL).f0 (pathsTn (diffL lb lt)) = true
                · skip
                  refine region_lowg hm (by kernel_rfl) ?_
                  refine gs rfl (q_move _ _ rfl s11_78.ev ?_)
                  refine gs rfl (q_move _ _ rfl (s0_78.ne rfl).ev ?_)
                  refine gs rfl (q_move _ _ rfl ((s18_78.ne rfl).ne rfl).ev ?_)
                  refine gs rfl (q_idxF (j := k) rfl Try.underlying22 sz37 ((At.hit z78.put rfl).ne rfl).ev (ovb_8.low low77) (At.hit z78.put.put rfl).ev (by omega) ?_)
                  refine gs rfl (q_fldF 0 rfl fld37_0 (At.hit z78.put.put.put rfl).ev ((ovb_8.low low77).form (by omega)) ?_)
                  refine gs rfl (q_ld1 (u := .string ((lb.getD k zL).f0)) rfl Try.underlying9 rfl (At.hit z78.put.put.put.put rfl).ev (fun _ h => ((ovb_8.low low77).low h)) (by omega) ((flat_at encL_len zL _ k 0 (by omega) (by decide)).trans rfl) ?_)
                  refine gs rfl (q_look (.bool false) rfl Try.underlying38 Try.underlying9 zero4 ((((((At.hit z78 rfl).ne rfl).ne rfl).ne rfl).ne rfl).ne rfl).ev (At.hit z78.put.put.put.put.put rfl).ev (fun _ h => kg71_35_77.low h) ((look_mapB (pathsTn (diffL lb lo)) ((lb.getD k zL).f0)).trans (congrArg Value.bool (eq_false_of_ne_true hb79))) ?_)
                  refine gs rfl (q_not (b := false) rfl (At.hit z78.put.put.put.put.put.put rfl).ev ?_)
                  refine g_fresh z78.put.put.put.put.put.put.put.put ?_
                  intro a87 z87 m87
                  have s0_87 := m87 _ _ ((((((((s0_78.ne rfl).ne rfl).ne rfl).ne rfl).ne rfl).ne rfl).ne rfl).ne rfl)
                  have s7_87 := m87 _ _ ((((((((s7_78.ne rfl).ne rfl).ne rfl).ne rfl).ne rfl).ne rfl).ne rfl).ne rfl)
                  have s8_87 := m87 _ _ ((((((((s8_78.ne rfl).ne rfl).ne rfl).ne rfl).ne rfl).ne rfl).ne rfl).ne rfl)
                  have s9_87 := m87 _ _ ((((((((s9_78.ne rfl).ne rfl).ne rfl).ne rfl).ne rfl).ne rfl).ne rfl).ne rfl)
                  have s11_87 := m87 _ _ ((((((((s11_78.ne rfl).ne rfl).ne rfl).ne rfl).ne rfl).ne rfl).ne rfl).ne rfl)
                  have s12_87 := m87 _ _ ((((((((s12_78.ne rfl).ne rfl).ne rfl).ne rfl).ne rfl).ne rfl).ne rfl).ne rfl)
                  have s18_87 := m87 _ _ ((((((((s18_78.ne rfl).ne rfl).ne rfl).ne rfl).ne rfl).ne rfl).ne rfl).ne rfl)
                  have s158_87 := m87 _ _ (At.hit z78.put.put.put.put.put.put.put rfl)
                  clear m87
                  refine gs rfl (q_move _ _ rfl s158_87.ev ?_)
                  refine gsg (wanted_is (j := 8) (d := 159) (b := true) rfl rfl (At.hit z87 rfl) rfl) (q_move _ _ rfl (s12_87.ne rfl).ev ?_)
                  refine gsg (wanted_is (j := 8) (d := 159) (b := true) rfl rfl ((At.hit z87 rfl).ne rfl) rfl) (q_move _ _ rfl ((s0_87.ne rfl).ne rfl).ev ?_)
                  refine gsg (wanted_is (j := 8) (d := 159) (b := true) rfl rfl (((At.hit z87 rfl).ne rfl).ne rfl) rfl) (q_move _ _ rfl (((s18_87.ne rfl).ne rfl).ne rfl).ev ?_)
                  refine gsg (wanted_is (j := 8) (d := 159) (b := true) rfl rfl ((((At.hit z87 rfl).ne rfl).ne rfl).ne rfl) rfl) (q_idxF (j := k) rfl Try.underlying22 sz37 ((At.hit z87.put.put rfl).ne rfl).ev (ovb_8.low low77) (At.hit z87.put.put.put rfl).ev (by omega) ?_)
                  refine gsg (wanted_is (j := 8) (d := 159) (b := true) rfl rfl (((((At.hit z87 rfl).ne rfl).ne rfl).ne rfl).ne rfl) rfl) (q_fldF 0 rfl fld37_0 (At.hit z87.put.put.put.put rfl).ev ((ovb_8.low low77).form (by omega)) ?_)
                  refine gsg (wanted_is (j := 8) (d := 159) (b := true) rfl rfl ((((((At.hit z87 rfl).ne rfl).ne rfl).ne rfl).ne rfl).ne rfl) rfl) (q_ld1 (u := .string ((lb.getD k zL).f0)) rfl Try.underlying9 rfl (At.hit z87.put.put.put.put.put rfl).ev (fun _ h => ((ovb_8.low low77).low h)) (by omega) ((flat_at encL_len zL _ k 0 (by omega) (by decide)).trans rfl) ?_)
                  refine gsg (wanted_is (j := 8) (d := 159) (b := true) rfl rfl (((((((At.hit z87 rfl).ne rfl).ne rfl).ne rfl).ne rfl).ne rfl).ne rfl) rfl) (q_look (.bool true) rfl Try.underlying38 Try.underlying9 zero4 ((((((At.hit z87.put rfl).ne rfl).ne rfl).ne rfl).ne rfl).ne rfl).ev (At.hit z87.put.put.put.put.put.put rfl).ev (fun _ h => kg72_36_77.low h) ((look_mapB (pathsTn (diffL lb lt)) ((lb.getD k zL).f0)).trans (congrArg Value.bool hb86)) ?_)
                  refine g_fresh z87.put.put.put.put.put.put.put.put ?_
                  intro a88 z88 m88
                  have s0_88 := m88 _ _ ((((((((s0_87.ne rfl).ne rfl).ne rfl).ne rfl).ne rfl).ne rfl).ne rfl).ne rfl)
                  have s7_88 := m88 _ _ ((((((((s7_87.ne rfl).ne rfl).ne rfl).ne rfl).ne rfl).ne rfl).ne rfl).ne rfl)
                  have s8_88 := m88 _ _ ((((((((s8_87.ne rfl).ne rfl).ne rfl).ne rfl).ne rfl).ne rfl).ne rfl).ne rfl)
                  have s9_88 := m88 _ _ ((((((((s9_87.ne rfl).ne rfl).ne rfl).ne rfl).ne rfl).ne rfl).ne rfl).ne rfl)
                  have s11_88 := m88 _ _ ((((((((s11_87.ne rfl).ne rfl).ne rfl).ne rfl).ne rfl).ne rfl).ne rfl).ne rfl)
                  have s12_88 := m88 _ _ ((((((((s12_87.ne rfl).ne rfl).ne rfl).ne rfl).ne rfl).ne rfl).ne rfl).ne rfl)
                  have s18_88 := m88 _ _ ((((((((s18_87.ne rfl).ne rfl).ne rfl).ne rfl).ne rfl).ne rfl).ne rfl).ne rfl)
                  have s159_88 := m88 _ _ ((((((((At.hit z87 rfl).ne rfl).ne rfl).ne rfl).ne rfl).ne rfl).ne rfl).ne rfl)
                  have s166_88 := m88 _ _ (At.hit z87.put.put.put.put.put.put.put rfl)
                  clear m88
                  refine gsg (wanted_is (j := 8) (d := 159) (b := true) rfl rfl s159_88 rfl) (q_not (b := true) rfl s166_88.ev ?_)
                  refine gs rfl (q_pick (b := true) (.bool false) rfl (s159_88.ne rfl).ev (At.hit z88 rfl).ev ?_)
                  refine gs rfl (q_move _ _ rfl (At.hit z88.put rfl).ev ?_)
                  refine gsk (wanted_is (j := 18) (d := 169) (b := false) rfl rfl (At.hit z88.put.put rfl) rfl) ?_
                  refine gsk (wanted_is (j := 18) (d := 169) (b := false) rfl rfl ((At.hit z88.put.put rfl).ne rfl) rfl) ?_
                  refine gsk (wanted_is (j := 18) (d := 169) (b := false) rfl rfl (((At.hit z88.put.put rfl).ne rfl).ne rfl) rfl) ?_
                  refine gsk (wanted_is (j := 18) (d := 169) (b := false) rfl rfl ((((At.hit z88.put.put rfl).ne rfl).ne rfl).ne rfl) rfl) ?_
                  refine gsk (wanted_is (j := 18) (d := 169) (b := false) rfl rfl (((((At.hit z88.put.put rfl).ne rfl).ne rfl).ne rfl).ne rfl) rfl) ?_
                  refine g_fresh z88.put.put.put.put.put.put.put.put ?_
                  intro a89 z89 m89
                  have s0_89 := m89 _ _ ((((((((s0_88.ne rfl).ne rfl).ne rfl).ne rfl).ne rfl).ne rfl).ne rfl).ne rfl)
                  have s7_89 := m89 _ _ ((((((((s7_88.ne rfl).ne rfl).ne rfl).ne rfl).ne rfl).ne rfl).ne rfl).ne rfl)
                  have s8_89 := m89 _ _ ((((((((s8_88.ne rfl).ne rfl).ne rfl).ne rfl).ne rfl).ne rfl).ne rfl).ne rfl)
                  have s9_89 := m89 _ _ ((((((((s9_88.ne rfl).ne rfl).ne rfl).ne rfl).ne rfl).ne rfl).ne rfl).ne rfl)
                  have s11_89 := m89 _ _ ((((((((s11_88.ne rfl).ne rfl).ne rfl).ne rfl).ne rfl).ne rfl).ne rfl).ne rfl)
                  have s12_89 := m89 _ _ ((((((((s12_88.ne rfl).ne rfl).ne rfl).ne rfl).ne rfl).ne rfl).ne rfl).ne rfl)
                  have s18_89 := m89 _ _ ((((((((s18_88.ne rfl).ne rfl).ne rfl).ne rfl).ne rfl).ne rfl).ne rfl).ne rfl)
                  have s169_89 := m89 _ _ ((((((At.hit z88.put.put rfl).ne rfl).ne rfl).ne rfl).ne rfl).ne rfl)
                  have s170_89 := m89 _ _ (((((At.hit z88.put.put.put rfl).ne rfl).ne rfl).ne rfl).ne rfl)
                  have s174_89 := m89 _ _ (At.hit z88.put.put.put.put.put.put.put rfl)
                  clear m89
                  refine gsk (wanted_is (j := 18) (d := 169) (b := false) rfl rfl s169_89 rfl) ?_
                  refine gsk (wanted_is (j := 18) (d := 169) (b := false) rfl rfl (s169_89.ne rfl) rfl) ?_
                  refine gsk (wanted_is (j := 18) (d := 169) (b := false) rfl rfl ((s169_89.ne rfl).ne rfl) rfl) ?_
                  refine gsk (wanted_is (j := 18) (d := 169) (b := false) rfl rfl (((s169_89.ne rfl).ne rfl).ne rfl) rfl) ?_
                  refine gsk (wanted_is (j := 18) (d := 169) (b := false) rfl rfl ((((s169_89.ne rfl).ne rfl).ne rfl).ne rfl) rfl) ?_
                  refine gsk (wanted_is (j := 18) (d := 169) (b := false) rfl rfl (((((s169_89.ne rfl).ne rfl).ne rfl).ne rfl).ne rfl) rfl) ?_
                  refine gsk (wanted_is (j := 18) (d := 169) (b := false) rfl rfl ((((((s169_89.ne rfl).ne rfl).ne rfl).ne rfl).ne rfl).ne rfl) rfl) ?_
                  refine gs rfl (q_pick (b := false) (.bool false) rfl (((((((s169_89.ne rfl).ne rfl).ne rfl).ne rfl).ne rfl).ne rfl).ne rfl).ev rfl ?_)
                  refine gz ?_
                  intro w90 h90
                  have kg38_11_90 := kg38_11_77.low h90
                  have kg71_35_90 := kg71_35_77.low h90
                  have kg72_36_90 := kg72_36_77.low h90
                  have ovb_90 := (ovb_8.low low77).low h90
                  have ob8_90 := (o8.low low77).low h90
                  have oc8_90 := (oo8.low low77).low h90
                  refine e_id ?_
                  refine e_fresh z89.put.put.put.put.put.put.put.put ?_
                  intro a91 z91 m91
                  have s0_91 := m91 _ _ ((((((((s0_89.ne rfl).ne rfl).ne rfl).ne rfl).ne rfl).ne rfl).ne rfl).ne rfl)
                  have s7_91 := m91 _ _ ((((((((s7_89.ne rfl).ne rfl).ne rfl).ne rfl).ne rfl).ne rfl).ne rfl).ne rfl)
                  have s8_91 := m91 _ _ ((((((((s8_89.ne rfl).ne rfl).ne rfl).ne rfl).ne rfl).ne rfl).ne rfl).ne rfl)
                  have s9_91 := m91 _ _ ((((((((s9_89.ne rfl).ne rfl).ne rfl).ne rfl).ne rfl).ne rfl).ne rfl).ne rfl)
                  have s11_91 := m91 _ _ ((((((((s11_89.ne rfl).ne rfl).ne rfl).ne rfl).ne rfl).ne rfl).ne rfl).ne rfl)
                  have s12_91 := m91 _ _ ((((((((s12_89.ne rfl).ne rfl).ne rfl).ne rfl).ne rfl).ne rfl).ne rfl).ne rfl)
                  have s18_91 := m91 _ _ ((((((((s18_89.ne rfl).ne rfl).ne rfl).ne rfl).ne rfl).ne rfl).ne rfl).ne rfl)
                  have s182_91 := m91 _ _ (At.hit z89.put.put.put.put.put.put.put rfl)
                  have low91 := (low77.trans h90)
                  clear m91
                  refine e_then ?_
                  refine c_false s182_91 ?_
                  refine wp_skip ?_
                  refine e_in ?_
                  refine e_then ?_
                  refine c_region ?_
                  refine l_q rfl (q_move _ _ rfl s18_91.ev ?_)
                  refine l_q rfl (q_add (((k + 1 : Nat) : Int)) rfl (At.hit z91 rfl).ev rfl (i64_is (by omega) (by omega) (by omega)) ?_)
                  refine l_q rfl (q_assign _ _ rfl (At.hit z91.put rfl).ev ?_)
                  refine l_end ?_
                  refine e_fresh z91.put.put.put ?_
                  intro a92 z92 m92
                  have s0_92 := m92 _ _ (((s0_91.ne rfl).ne rfl).ne rfl)
                  have s7_92 := m92 _ _ (((s7_91.ne rfl).ne rfl).ne rfl)
                  have s8_92 := m92 _ _ (((s8_91.ne rfl).ne rfl).ne rfl)
                  have s9_92 := m92 _ _ (((s9_91.ne rfl).ne rfl).ne rfl)
                  have s11_92 := m92 _ _ (((s11_91.ne rfl).ne rfl).ne rfl)
                  have s12_92 := m92 _ _ (((s12_91.ne rfl).ne rfl).ne rfl)
                  have s18_92 := m92 _ _ (At.hit z91.put.put rfl)
                  clear m92
                  exact ⟨z92, s0_92, s7_92, s8_92, s9_92, s11_92, s12_92, s18_92, kg38_11_90, kg71_35_90, kg72_36_90, low91⟩
                · skip
                  refine region_lowg hm (by kernel_rfl) ?_
                  refine gs rfl (q_move _ _ rfl s11_78.ev ?_)
                  refine gs rfl (q_move _ _ rfl (s0_78.ne rfl).ev ?_)
                  refine gs rfl (q_move _ _ rfl ((s18_78.ne rfl).ne rfl).ev ?_)
                  refine gs rfl (q_idxF (j := k) rfl Try.underlying22 sz37 ((At.hit z78.put rfl).ne rfl).ev (ovb_8.low low77) (At.hit z78.put.put rfl).ev (by omega) ?_)
                  refine gs rfl (q_fldF 0 rfl fld37_0 (At.hit z78.put.put.put rfl).ev ((ovb_8.low low77).form (by omega)) ?_)
                  refine gs rfl (q_ld1 (u := .string ((lb.getD k zL).f0)) rfl Try.underlying9 rfl (At.hit z78.put.put.put.put rfl).ev (fun _ h => ((ovb_8.low low77).low h)) (by omega) ((flat_at encL_len zL _ k 0 (by omega) (by decide)).trans rfl) ?_)
                  refine gs rfl (q_look (.bool false) rfl Try.underlying38 Try.underlying9 zero4 ((((((At.hit z78 rfl).ne rfl).ne rfl).ne rfl).ne rfl).ne rfl).ev (At.hit z78.put.put.put.put.put rfl).ev (fun _ h => kg71_35_77.low h) ((look_mapB (pathsTn (diffL lb lo)) ((lb.getD k zL).f0)).trans (congrArg Value.bool (eq_false_of_ne_true hb79))) ?_)
                  refine gs rfl (q_not (b := false) rfl (At.hit z78.put.put.put.put.put.put rfl).ev ?_)
                  refine g_fresh z78.put.put.put.put.put.put.put.put ?_
                  intro a93 z93 m93
                  have s0_93 := m93 _ _ ((((((((s0_78.ne rfl).ne rfl).ne rfl).ne rfl).ne rfl).ne rfl).ne rfl).ne rfl)
                  have s7_93 := m93 _ _ ((((((((s7_78.ne rfl).ne rfl).ne rfl).ne rfl).ne rfl).ne rfl).ne rfl).ne rfl)
                  have s8_93 := m93 _ _ ((((((((s8_78.ne rfl).ne rfl).ne rfl).ne rfl).ne rfl).ne rfl).ne rfl).ne rfl)
                  have s9_93 := m93 _ _ ((((((((s9_78.ne rfl).ne rfl).ne rfl).ne rfl).ne rfl).ne rfl).ne rfl).ne rfl)
                  have s11_93 := m93 _ _ ((((((((s11_78.ne rfl).ne rfl).ne rfl).ne rfl).ne rfl).ne rfl).ne rfl).ne rfl)
                  have s12_93 := m93 _ _ ((((((((s12_78.ne rfl).ne rfl).ne rfl).ne rfl).ne rfl).ne rfl).ne rfl).ne rfl)
                  have s18_93 := m93 _ _ ((((((((s18_78.ne rfl).ne rfl).ne rfl).ne rfl).ne rfl).ne rfl).ne rfl).ne rfl)
                  have s158_93 := m93 _ _ (At.hit z78.put.put.put.put.put.put.put rfl)
                  clear m93
                  refine gs rfl (q_move _ _ rfl s158_93.ev ?_)
                  refine gsg (wanted_is (j := 8) (d := 159) (b := true) rfl rfl (At.hit z93 rfl) rfl) (q_move _ _ rfl (s12_93.ne rfl).ev ?_)
                  refine gsg (wanted_is (j := 8) (d := 159) (b := true) rfl rfl ((At.hit z93 rfl).ne rfl) rfl) (q_move _ _ rfl ((s0_93.ne rfl).ne rfl).ev ?_)
                  refine gsg (wanted_is (j := 8) (d := 159) (b := true) rfl rfl (((At.hit z93 rfl).ne rfl).ne rfl) rfl) (q_move _ _ rfl (((s18_93.ne rfl).ne rfl).ne rfl).ev ?_)
                  refine gsg (wanted_is (j := 8) (d := 159) (b := true) rfl rfl ((((At.hit z93 rfl).ne rfl).ne rfl).ne rfl) rfl) (q_idxF (j := k) rfl Try.underlying22 sz37 ((At.hit z93.put.put rfl).ne rfl).ev (ovb_8.low low77) (At.hit z93.put.put.put rfl).ev (by omega) ?_)
                  refine gsg (wanted_is (j := 8) (d := 159) (b := true) rfl rfl (((((At.hit z93 rfl).ne rfl).ne rfl).ne rfl).ne rfl) rfl) (q_fldF 0 rfl fld37_0 (At.hit z93.put.put.put.put rfl).ev ((ovb_8.low low77).form (by omega)) ?_)
                  refine gsg (wanted_is (j := 8) (d := 159) (b := true) rfl rfl ((((((At.hit z93 rfl).ne rfl).ne rfl).ne rfl).ne rfl).ne rfl) rfl) (q_ld1 (u := .string ((lb.getD k zL).f0)) rfl Try.underlying9 rfl (At.hit z93.put.put.put.put.put rfl).ev (fun _ h => ((ovb_8.low low77).low h)) (by omega) ((flat_at encL_len zL _ k 0 (by omega) (by decide)).trans rfl) ?_)
                  refine gsg (wanted_is (j := 8) (d := 159) (b := true) rfl rfl (((((((At.hit z93 rfl).ne rfl).ne rfl).ne rfl).ne rfl).ne rfl).ne rfl) rfl) (q_look (.bool false) rfl Try.underlying38 Try.underlying9 zero4 ((((((At.hit z93.put rfl).ne rfl).ne rfl).ne rfl).ne rfl).ne rfl).ev (At.hit z93.put.put.put.put.put.put rfl).ev (fun _ h => kg72_36_77.low h) ((look_mapB (pathsTn (diffL lb lt)) ((lb.getD k zL).f0)).trans (congrArg Value.bool (eq_false_of_ne_true hb86))) ?_)
                  refine g_fresh z93.put.put.put.put.put.put.put.put ?_
                  intro a94 z94 m94
                  have s0_94 := m94 _ _ ((((((((s0_93.ne rfl).ne rfl).ne rfl).ne rfl).ne rfl).ne rfl).ne rfl).ne rfl)
                  have s7_94 := m94 _ _ ((((((((s7_93.ne rfl).ne rfl).ne rfl).ne rfl).ne rfl).ne rfl).ne rfl).ne rfl)
                  have s8_94 := m94 _ _ ((((((((s8_93.ne rfl).ne rfl).ne rfl).ne rfl).ne rfl).ne rfl).ne rfl).ne rfl)
                  have s9_94 := m94 _ _ ((((((((s9_93.ne rfl).ne rfl).ne rfl).ne rfl).ne rfl).ne rfl).ne rfl).ne rfl)
                  have s11_94 := m94 _ _ ((((((((s11_93.ne rfl).ne rfl).ne rfl).ne rfl).ne rfl).ne rfl).ne rfl).ne rfl)
                  have s12_94 := m94 _ _ ((((((((s12_93.ne rfl).ne rfl).ne rfl).ne rfl).ne rfl).ne rfl).ne rfl).ne rfl)
                  have s18_94 := m94 _ _ ((((((((s18_93.ne rfl).ne rfl).ne rfl).ne rfl).ne rfl).ne rfl).ne rfl).ne rfl)
                  have s159_94 := m94 _ _ ((((((((At.hit z93 rfl).ne rfl).ne rfl).ne rfl).ne rfl).ne rfl).ne rfl).ne rfl)
                  have s166_94 := m94 _ _ (At.hit z93.put.put.put.put.put.put.put rfl)
                  clear m94
                  refine gsg (wanted_is (j := 8) (d := 159) (b := true) rfl rfl s159_94 rfl) (q_not (b := false) rfl s166_94.ev ?_)
                  refine gs rfl (q_pick (b := true) (.bool true) rfl (s159_94.ne rfl).ev (At.hit z94 rfl).ev ?_)
                  refine gs rfl (q_move _ _ rfl (At.hit z94.put rfl).ev ?_)
                  refine gsg (wanted_is (j := 18) (d := 169) (b := true) rfl rfl (At.hit z94.put.put rfl) rfl) (q_move _ _ rfl (((s9_94.ne rfl).ne rfl).ne rfl).ev ?_)
                  refine gsg (wanted_is (j := 18) (d := 169) (b := true) rfl rfl ((At.hit z94.put.put rfl).ne rfl) rfl) (q_move _ _ rfl ((((s0_94.ne rfl).ne rfl).ne rfl).ne rfl).ev ?_)
                  refine gsg (wanted_is (j := 18) (d := 169) (b := true) rfl rfl (((At.hit z94.put.put rfl).ne rfl).ne rfl) rfl) (q_move _ _ rfl (((((s18_94.ne rfl).ne rfl).ne rfl).ne rfl).ne rfl).ev ?_)
                  refine gsg (wanted_is (j := 18) (d := 169) (b := true) rfl rfl ((((At.hit z94.put.put rfl).ne rfl).ne rfl).ne rfl) rfl) (q_idxF (j := k) rfl Try.underlying22 sz37 ((At.hit z94.put.put.put.put rfl).ne rfl).ev (ovb_8.low low77) (At.hit z94.put.put.put.put.put rfl).ev (by omega) ?_)
                  refine gsg (wanted_is (j := 18) (d := 169) (b := true) rfl rfl (((((At.hit z94.put.put rfl).ne rfl).ne rfl).ne rfl).ne rfl) rfl) (q_fldF 0 rfl fld37_0 (At.hit z94.put.put.put.put.put.put rfl).ev ((ovb_8.low low77).form (by omega)) ?_)
                  refine g_fresh z94.put.put.put.put.put.put.put.put ?_
                  intro a95 z95 m95
                  have s0_95 := m95 _ _ ((((((((s0_94.ne rfl).ne rfl).ne rfl).ne rfl).ne rfl).ne rfl).ne rfl).ne rfl)
                  have s7_95 := m95 _ _ ((((((((s7_94.ne rfl).ne rfl).ne rfl).ne rfl).ne rfl).ne rfl).ne rfl).ne rfl)
                  have s8_95 := m95 _ _ ((((((((s8_94.ne rfl).ne rfl).ne rfl).ne rfl).ne rfl).ne rfl).ne rfl).ne rfl)
                  have s9_95 := m95 _ _ ((((((((s9_94.ne rfl).ne rfl).ne rfl).ne rfl).ne rfl).ne rfl).ne rfl).ne rfl)
                  have s11_95 := m95 _ _ ((((((((s11_94.ne rfl).ne rfl).ne rfl).ne rfl).ne rfl).ne rfl).ne rfl).ne rfl)
                  have s12_95 := m95 _ _ ((((((((s12_94.ne rfl).ne rfl).ne rfl).ne rfl).ne rfl).ne rfl).ne rfl).ne rfl)
                  have s18_95 := m95 _ _ ((((((((s18_94.ne rfl).ne rfl).ne rfl).ne rfl).ne rfl).ne rfl).ne rfl).ne rfl)
                  have s169_95 := m95 _ _ ((((((At.hit z94.put.put rfl).ne rfl).ne rfl).ne rfl).ne rfl).ne rfl)
                  have s170_95 := m95 _ _ (((((At.hit z94.put.put.put rfl).ne rfl).ne rfl).ne rfl).ne rfl)
                  have s174_95 := m95 _ _ (At.hit z94.put.put.put.put.put.put.put rfl)
                  clear m95
                  refine gsg (wanted_is (j := 18) (d := 169) (b := true) rfl rfl s169_95 rfl) (q_ld1 (u := .string ((lb.getD k zL).f0)) rfl Try.underlying9 rfl s174_95.ev (fun _ h => ((ovb_8.low low77).low h)) (by omega) ((flat_at encL_len zL _ k 0 (by omega) (by decide)).trans rfl) ?_)
                  refine gsg (wanted_is (j := 18) (d := 169) (b := true) rfl rfl (s169_95.ne rfl) rfl) (q_look (.agg (#[.string ((findL (outF lb lo lt) ((lb.getD k zL).f0)).f0), .int .i64 ((findL (outF lb lo lt) ((lb.getD k zL).f0)).f1), .string ((findL (outF lb lo lt) ((lb.getD k zL).f0)).f2)])) rfl Try.underlying35 Try.underlying9 zero37 (s170_95.ne rfl).ev (At.hit z95 rfl).ev (fun _ h => kg38_11_77.low h) (look_mapL (outF lb lo lt) ((lb.getD k zL).f0)) ?_)
                  refine gsg (wanted_is (j := 18) (d := 169) (b := true) rfl rfl ((s169_95.ne rfl).ne rfl) rfl) (q_move _ _ rfl ((s0_95.ne rfl).ne rfl).ev ?_)
                  refine gsg (wanted_is (j := 18) (d := 169) (b := true) rfl rfl (((s169_95.ne rfl).ne rfl).ne rfl) rfl) (q_move _ _ rfl (((s18_95.ne rfl).ne rfl).ne rfl).ev ?_)
                  refine gsg (wanted_is (j := 18) (d := 169) (b := true) rfl rfl ((((s169_95.ne rfl).ne rfl).ne rfl).ne rfl) rfl) (q_idxF (j := k) rfl Try.underlying22 sz37 ((At.hit z95.put.put rfl).ne rfl).ev (ovb_8.low low77) (At.hit z95.put.put.put rfl).ev (by omega) ?_)
                  refine gsg (wanted_is (j := 18) (d := 169) (b := true) rfl rfl (((((s169_95.ne rfl).ne rfl).ne rfl).ne rfl).ne rfl) rfl) (q_ldR (vs := [.string ((lb.getD k zL).f0), .int .i64 ((lb.getD k zL).f1), .string ((lb.getD k zL).f2)]) rfl Try.underlying37 rfl sz37 (At.hit z95.put.put.put.put rfl).ev (fun _ h => ((ovb_8.low low77).low h)) (by omega) rfl (flat_part encL_len zL _ k (by omega)) ?_)
                  refine gsg (wanted_is (j := 18) (d := 169) (b := true) rfl rfl ((((((s169_95.ne rfl).ne rfl).ne rfl).ne rfl).ne rfl).ne rfl) rfl) (q_ne3 false rfl guard37 (((((At.hit z95.put rfl).ne rfl).ne rfl).ne rfl).ne rfl).ev (At.hit z95.put.put.put.put.put rfl).ev (eq37 9998 ((findL (outF lb lo lt) ((lb.getD k zL).f0)).f0) ((findL (outF lb lo lt) ((lb.getD k zL).f0)).f1) ((findL (outF lb lo lt) ((lb.getD k zL).f0)).f2) ((lb.getD k zL).f0) ((lb.getD k zL).f1) ((lb.getD k zL).f2)) (neL_false (keep4 rb ro rt (by assumption) (eq_false_of_ne_true hb79) (eq_false_of_ne_true hb86))) ?_)
                  refine gs rfl (q_pick (b := true) (.bool false) rfl (((((((s169_95.ne rfl).ne rfl).ne rfl).ne rfl).ne rfl).ne rfl).ne rfl).ev (At.hit z95.put.put.put.put.put.put rfl).ev ?_)
                  refine gz ?_
                  intro w96 h96
                  have kg38_11_96 := kg38_11_77.low h96
                  have kg71_35_96 := kg71_35_77.low h96
                  have kg72_36_96 := kg72_36_77.low h96
                  have ovb_96 := (ovb_8.low low77).low h96
                  have ob8_96 := (o8.low low77).low h96
                  have oc8_96 := (oo8.low low77).low h96
                  refine e_id ?_
                  refine e_fresh z95.put.put.put.put.put.put.put.put ?_
                  intro a97 z97 m97
                  have s0_97 := m97 _ _ ((((((((s0_95.ne rfl).ne rfl).ne rfl).ne rfl).ne rfl).ne rfl).ne rfl).ne rfl)
                  have s7_97 := m97 _ _ ((((((((s7_95.ne rfl).ne rfl).ne rfl).ne rfl).ne rfl).ne rfl).ne rfl).ne rfl)
                  have s8_97 := m97 _ _ ((((((((s8_95.ne rfl).ne rfl).ne rfl).ne rfl).ne rfl).ne rfl).ne rfl).ne rfl)
                  have s9_97 := m97 _ _ ((((((((s9_95.ne rfl).ne rfl).ne rfl).ne rfl).ne rfl).ne rfl).ne rfl).ne rfl)
                  have s11_97 := m97 _ _ ((((((((s11_95.ne rfl).ne rfl).ne rfl).ne rfl).ne rfl).ne rfl).ne rfl).ne rfl)
                  have s12_97 := m97 _ _ ((((((((s12_95.ne rfl).ne rfl).ne rfl).ne rfl).ne rfl).ne rfl).ne rfl).ne rfl)
                  have s18_97 := m97 _ _ ((((((((s18_95.ne rfl).ne rfl).ne rfl).ne rfl).ne rfl).ne rfl).ne rfl).ne rfl)
                  have s182_97 := m97 _ _ (At.hit z95.put.put.put.put.put.put.put rfl)
                  have low97 := (low77.trans h96)
                  clear m97
                  refine e_then ?_
                  refine c_false s182_97 ?_
                  refine wp_skip ?_
                  refine e_in ?_
                  refine e_then ?_
                  refine c_region ?_
                  refine l_q rfl (q_move _ _ rfl s18_97.ev ?_)
                  refine l_q rfl (q_add (((k + 1 : Nat) : Int)) rfl (At.hit z97 rfl).ev rfl (i64_is (by omega) (by omega) (by omega)) ?_)
                  refine l_q rfl (q_assign _ _ rfl (At.hit z97.put rfl).ev ?_)
                  refine l_end ?_
                  refine e_fresh z97.put.put.put ?_
                  intro a98 z98 m98
                  have s0_98 := m98 _ _ (((s0_97.ne rfl).ne rfl).ne rfl)
                  have s7_98 := m98 _ _ (((s7_97.ne rfl).ne rfl).ne rfl)
                  have s8_98 := m98 _ _ (((s8_97.ne rfl).ne rfl).ne rfl)
                  have s9_98 := m98 _ _ (((s9_97.ne rfl).ne rfl).ne rfl)
                  have s11_98 := m98 _ _ (((s11_97.ne rfl).ne rfl).ne rfl)
                  have s12_98 := m98 _ _ (((s12_97.ne rfl).ne rfl).ne rfl)
                  have s18_98 := m98 _ _ (At.hit z97.put.put rfl)
                  clear m98
                  exact ⟨z98, s0_98, s7_98, s8_98, s9_98, s11_98, s12_98, s18_98, kg38_11_96, kg71_35_96, kg72_36_96, low97⟩
            · intro a99 w99 h
              obtain ⟨z99, s0_99, s7_99, s8_99, s9_99, s11_99, s12_99, s18_99, kg38_11_99, kg71_35_99, kg72_36_99, low99⟩ := h
              clear kg38_11_74 kg71_35_74 kg72_36_74 low74 s0_76 s11_76 s12_76 s18_76 s7_76 s8_76 s9_76 z76
              refine c_seq ?_
              refine c_seq ?_
              refine c_region ?_
              refine l_q rfl (q_move _ _ rfl s18_99.ev ?_)
              refine l_q rfl (q_move _ _ rfl (s0_99.ne rfl).ev ?_)
              refine l_q rfl (q_lenF rfl rfl Try.underlying22 (At.hit z99.put rfl).ev (ovb_8.low low99) ?_)
              refine l_q rfl (q_lss false rfl (((At.hit z99 rfl).ne rfl).ne rfl).ev (At.hit z99.put.put rfl).ev (decide_eq_false (by omega)) ?_)
              refine l_end ?_
              refine e_fresh z99.put.put.put.put ?_
              intro a100 z100 m100
              have s0_100 := m100 _ _ ((((s0_99.ne rfl).ne rfl).ne rfl).ne rfl)
              have s7_100 := m100 _ _ ((((s7_99.ne rfl).ne rfl).ne rfl).ne rfl)
              have s8_100 := m100 _ _ ((((s8_99.ne rfl).ne rfl).ne rfl).ne rfl)
              have s9_100 := m100 _ _ ((((s9_99.ne rfl).ne rfl).ne rfl).ne rfl)
              have s11_100 := m100 _ _ ((((s11_99.ne rfl).ne rfl).ne rfl).ne rfl)
              have s12_100 := m100 _ _ ((((s12_99.ne rfl).ne rfl).ne rfl).ne rfl)
              have s18_100 := m100 _ _ ((((s18_99.ne rfl).ne rfl).ne rfl).ne rfl)
              have s148_100 := m100 _ _ (At.hit z99.put.put.put rfl)
              clear m100
              refine e_then ?_
              refine c_false s148_100 ?_
              refine wp_exit ?_
              refine x_then ?_
              refine x_then ?_
              refine in_exit ?_
              refine e_then ?_
              refine c_seq ?_
              refine c_seq ?_
              refine c_region ?_
              refine l_q rfl (q_assign _ _ rfl rfl ?_)
              refine l_end ?_
              refine e_fresh z100.put ?_
              intro a101 z101 m101
              have s7_101 := m101 _ _ (s7_100.ne rfl)
              have s8_101 := m101 _ _ (s8_100.ne rfl)
              have s11_101 := m101 _ _ (s11_100.ne rfl)
              have s12_101 := m101 _ _ (s12_100.ne rfl)
              have s19_101 := m101 _ _ (At.hit z100 rfl)
              clear m101
              refine e_then ?_
              refine wp_block ?_
              refine c_loop ((badA lb lo lt).length) (fun k a w => Fr 223 a ∧ At a 7 (p8) ∧ At a 8 (q8) ∧ At a 11 (.map (some g71_35)) ∧ At a 12 (.map (some g72_36)) ∧ At a 19 (.int .i64 ((k : Nat) : Int)) ∧ MapIs w g71_35 (mapB (pathsTn (diffL lb lo))) ∧ MapIs w g72_36 (mapB (pathsTn (diffL lb lt))) ∧ Low w8 w) ?_ ?_ ?_
              · exact ⟨z101, s7_101, s8_101, s11_101, s12_101, s19_101, kg71_35_99, kg72_36_99, low99⟩
              · intro k a102 w102 hk102 h
                obtain ⟨z102, s7_102, s8_102, s11_102, s12_102, s19_102, kg71_35_102, kg72_36_102, low102⟩ := h
                clear kg71_35_99 kg72_36_99 low99 s11_101 s12_101 s19_101 s7_101 s8_101 z101
                refine c_seq ?_
                refine c_seq ?_
                refine c_region ?_
                refine l_q rfl (q_move _ _ rfl s19_102.ev ?_)
                refine l_q rfl (q_move _ _ rfl (s8_102.ne rfl).ev ?_)
                refine l_q rfl (q_lenF rfl rfl Try.underlying25 (At.hit z102.put rfl).ev (oo8.low low102).rd ?_)
                refine l_q rfl (q_lss true rfl (((At.hit z102 rfl).ne rfl).ne rfl).ev (At.hit z102.put.put rfl).ev (decide_eq_true (by omega)) ?_)
                refine l_end ?_
                refine e_fresh z102.put.put.put.put ?_
                intro a103 z103 m103
                have s7_103 := m103 _ _ ((((s7_102.ne rfl).ne rfl).ne rfl).ne rfl)
                have s8_103 := m103 _ _ ((((s8_102.ne rfl).ne rfl).ne rfl).ne rfl)
                have s11_103 := m103 _ _ ((((s11_102.ne rfl).ne rfl).ne rfl).ne rfl)
                have s12_103 := m103 _ _ ((((s12_102.ne rfl).ne rfl).ne rfl).ne rfl)
                have s19_103 := m103 _ _ ((((s19_102.ne rfl).ne rfl).ne rfl).ne rfl)
                have s186_103 := m103 _ _ (At.hit z102.put.put.put rfl)
                clear m103
                refine e_then ?_
                refine c_true s186_103 ?_
                refine wp_skip ?_
                refine e_then ?_
                refine c_seq ?_
                refine wp_block ?_
                refine c_seq ?_
                refine c_region ?_
                refine l_q rfl (q_move _ _ rfl s8_103.ev ?_)
                refine l_q rfl (q_move _ _ rfl (s19_103.ne rfl).ev ?_)
                refine l_q rfl (q_idxF (j := k) rfl Try.underlying25 sz9 ((At.hit z103 rfl).ne rfl).ev (oo8.low low102).rd (At.hit z103.put rfl).ev (by omega) ?_)
                refine l_q rfl (q_ld1 (u := .string ((badA lb lo lt).getD k ByteArray.empty)) rfl Try.underlying9 rfl (At.hit z103.put.put rfl).ev (fun _ e => by rw [e]; exact (oo8.low low102).rd) (by omega) ((flat_at encS_len ByteArray.empty _ k 0 (by omega) (by decide)).trans rfl) ?_)
                refine l_q rfl (q_assign _ _ rfl (At.hit z103.put.put.put rfl).ev ?_)
                refine l_end ?_
                refine e_fresh z103.put.put.put.put.put ?_
                intro a104 z104 m104
                have s7_104 := m104 _ _ (((((s7_103.ne rfl).ne rfl).ne rfl).ne rfl).ne rfl)
                have s8_104 := m104 _ _ (((((s8_103.ne rfl).ne rfl).ne rfl).ne rfl).ne rfl)
                have s11_104 := m104 _ _ (((((s11_103.ne rfl).ne rfl).ne rfl).ne rfl).ne rfl)
                have s12_104 := m104 _ _ (((((s12_103.ne rfl).ne rfl).ne rfl).ne rfl).ne rfl)
                have s19_104 := m104 _ _ (((((s19_103.ne rfl).ne rfl).ne rfl).ne rfl).ne rfl)
                have s20_104 := m104 _ _ (At.hit z103.put.put.put.put rfl)
                clear m104
                refine e_then ?_
                refine c_seq ?_
                refine c_region ?_
                refine l_q rfl (q_assign _ _ rfl rfl ?_)
                refine l_end ?_
                refine e_fresh z104.put ?_
                intro a105 z105 m105
                have s7_105 := m105 _ _ (s7_104.ne rfl)
                have s8_105 := m105 _ _ (s8_104.ne rfl)
                have s11_105 := m105 _ _ (s11_104.ne rfl)
                have s12_105 := m105 _ _ (s12_104.ne rfl)
                have s19_105 := m105 _ _ (s19_104.ne rfl)
                have s20_105 := m105 _ _ (s20_104.ne rfl)
                have s21_105 := m105 _ _ (At.hit z104 rfl)
                clear m105
                refine e_then ?_
                refine c_seq ?_
                refine c_seq ?_
                refine c_region ?_
                refine l_q rfl (q_assign _ _ rfl rfl ?_)
                refine l_end ?_
                refine e_fresh z105.put ?_
                intro a106 z106 m106
                have s7_106 := m106 _ _ (s7_105.ne rfl)
                have s8_106 := m106 _ _ (s8_105.ne rfl)
                have s11_106 := m106 _ _ (s11_105.ne rfl)
                have s12_106 := m106 _ _ (s12_105.ne rfl)
                have s19_106 := m106 _ _ (s19_105.ne rfl)
                have s20_106 := m106 _ _ (s20_105.ne rfl)
                have s21_106 := m106 _ _ (s21_105.ne rfl)
                have s22_106 := m106 _ _ (At.hit z105 rfl)
                clear m106
                refine e_then ?_
                refine wp_block ?_
                refine c_loop ((outF lb lo lt).length) (fun m a w => Fr 223 a ∧ At a 7 (p8) ∧ At a 8 (q8) ∧ At a 11 (.map (some g71_35)) ∧ At a 12 (.map (some g72_36)) ∧ At a 19 (.int .i64 ((k : Nat) : Int)) ∧ At a 20 (.string ((badA lb lo lt).getD k ByteArray.empty)) ∧ At a 21 (.bool (anyW (outF lb lo lt) ((badA lb lo lt).getD k ByteArray.empty) m)) ∧ At a 22 (.int .i64 ((m : Nat) : Int)) ∧ MapIs w g71_35 (mapB (pathsTn (diffL lb lo))) ∧ MapIs w g72_36 (mapB (pathsTn (diffL lb lt))) ∧ Low w8 w) ?_ ?_ ?_
                · exact ⟨z106, s7_106, s8_106, s11_106, s12_106, s19_106, s20_106, s21_106, s22_106, kg71_35_102, kg72_36_102, low102⟩
                · intro m a107 w107 hk107 h
                  obtain ⟨z107, s7_107, s8_107, s11_107, s12_107, s19_107, s20_107, s21_107, s22_107, kg71_35_107, kg72_36_107, low107⟩ := h
                  clear kg71_35_102 kg72_36_102 low102 s11_106 s12_106 s19_106 s20_106 s21_106 s22_106 s7_106 s8_106 z106
                  refine c_seq ?_
                  refine c_seq ?_
                  refine c_region ?_
                  refine l_q rfl (q_move _ _ rfl s22_107.ev ?_)
                  refine l_q rfl (q_move _ _ rfl (s7_107.ne rfl).ev ?_)
                  refine l_q rfl (q_lenF rfl rfl Try.underlying22 (At.hit z107.put rfl).ev (o8.low low107).rd ?_)
                  refine l_q rfl (q_lss true rfl (((At.hit z107 rfl).ne rfl).ne rfl).ev (At.hit z107.put.put rfl).ev (decide_eq_true (by omega)) ?_)
                  refine l_end ?_
                  refine e_fresh z107.put.put.put.put ?_
                  intro a108 z108 m108
                  have s7_108 := m108 _ _ ((((s7_107.ne rfl).ne rfl).ne rfl).ne rfl)
                  have s8_108 := m108 _ _ ((((s8_107.ne rfl).ne rfl).ne rfl).ne rfl)
                  have s11_108 := m108 _ _ ((((s11_107.ne rfl).ne rfl).ne rfl).ne rfl)
                  have s12_108 := m108 _ _ ((((s12_107.ne rfl).ne rfl).ne rfl).ne rfl)
                  have s19_108 := m108 _ _ ((((s19_107.ne rfl).ne rfl).ne rfl).ne rfl)
                  have s20_108 := m108 _ _ ((((s20_107.ne rfl).ne rfl).ne rfl).ne rfl)
                  have s21_108 := m108 _ _ ((((s21_107.ne rfl).ne rfl).ne rfl).ne rfl)
                  have s22_108 := m108 _ _ ((((s22_107.ne rfl).ne rfl).ne rfl).ne rfl)
                  have s196_108 := m108 _ _ (At.hit z107.put.put.put rfl)
                  clear m108
                  refine e_then ?_
                  refine c_true s196_108 ?_
                  refine wp_skip ?_
                  refine e_then ?_
                  refine c_seq ?_
                  refine wp_block ?_
                  cases hc109 : anyW (outF lb lo lt) ((badA lb lo lt).getD k ByteArray.empty) m with
                  | true =>
                    have hs109 := s21_108.same (congrArg Value.bool hc109)
                    refine c_region ?_
                    refine l_q rfl (q_move _ _ rfl hs109.ev ?_)
                    refine l_q rfl (q_move _ _ rfl (At.hit z108 rfl).ev ?_)
                    refine l_skip (wanted_is (j := 1) (d := 200) (b := true) rfl rfl (At.hit z108.put rfl) rfl) ?_
                    refine l_skip (wanted_is (j := 1) (d := 200) (b := true) rfl rfl ((At.hit z108.put rfl).ne rfl) rfl) ?_
                    refine l_skip (wanted_is (j := 1) (d := 200) (b := true) rfl rfl (((At.hit z108.put rfl).ne rfl).ne rfl) rfl) ?_
                    refine l_skip (wanted_is (j := 1) (d := 200) (b := true) rfl rfl ((((At.hit z108.put rfl).ne rfl).ne rfl).ne rfl) rfl) ?_
                    refine l_skip (wanted_is (j := 1) (d := 200) (b := true) rfl rfl (((((At.hit z108.put rfl).ne rfl).ne rfl).ne rfl).ne rfl) rfl) ?_
                    refine l_skip (wanted_is (j := 1) (d := 200) (b := true) rfl rfl ((((((At.hit z108.put rfl).ne rfl).ne rfl).ne rfl).ne rfl).ne rfl) rfl) ?_
                    refine l_fresh z108.put.put.put.put.put.put.put.put ?_
                    intro a110 z110 m110
                    have s7_110 := m110 _ _ ((((((((s7_108.ne rfl).ne rfl).ne rfl).ne rfl).ne rfl).ne rfl).ne rfl).ne rfl)
                    have s8_110 := m110 _ _ ((((((((s8_108.ne rfl).ne rfl).ne rfl).ne rfl).ne rfl).ne rfl).ne rfl).ne rfl)
                    have s11_110 := m110 _ _ ((((((((s11_108.ne rfl).ne rfl).ne rfl).ne rfl).ne rfl).ne rfl).ne rfl).ne rfl)
                    have s12_110 := m110 _ _ ((((((((s12_108.ne rfl).ne rfl).ne rfl).ne rfl).ne rfl).ne rfl).ne rfl).ne rfl)
                    have s19_110 := m110 _ _ ((((((((s19_108.ne rfl).ne rfl).ne rfl).ne rfl).ne rfl).ne rfl).ne rfl).ne rfl)
                    have s20_110 := m110 _ _ ((((((((s20_108.ne rfl).ne rfl).ne rfl).ne rfl).ne rfl).ne rfl).ne rfl).ne rfl)
                    have s21_110 := m110 _ _ ((((((((hs109.ne rfl).ne rfl).ne rfl).ne rfl).ne rfl).ne rfl).ne rfl).ne rfl)
                    have s22_110 := m110 _ _ ((((((((s22_108.ne rfl).ne rfl).ne rfl).ne rfl).ne rfl).ne rfl).ne rfl).ne rfl)
                    have s200_110 := m110 _ _ (((((((At.hit z108.put rfl).ne rfl).ne rfl).ne rfl).ne rfl).ne rfl).ne rfl)
                    have s205_110 := m110 _ _ ((At.hit z108.put.put.put.put.put.put rfl).ne rfl)
                    have s206_110 := m110 _ _ (At.hit z108.put.put.put.put.put.put.put rfl)
                    clear m110
                    refine l_skip (wanted_is (j := 1) (d := 200) (b := true) rfl rfl s200_110 rfl) ?_
                    refine l_q rfl (q_pick (b := true) (.bool true) rfl (s200_110.ne rfl).ev rfl ?_)
                    refine l_q rfl (q_assign _ _ rfl (At.hit z110.put rfl).ev ?_)
                    refine l_end ?_
                    refine e_fresh z110.put.put.put ?_
                    intro a111 z111 m111
                    have s7_111 := m111 _ _ (((s7_110.ne rfl).ne rfl).ne rfl)
                    have s8_111 := m111 _ _ (((s8_110.ne rfl).ne rfl).ne rfl)
                    have s11_111 := m111 _ _ (((s11_110.ne rfl).ne rfl).ne rfl)
                    have s12_111 := m111 _ _ (((s12_110.ne rfl).ne rfl).ne rfl)
                    have s19_111 := m111 _ _ (((s19_110.ne rfl).ne rfl).ne rfl)
                    have s20_111 := m111 _ _ (((s20_110.ne rfl).ne rfl).ne rfl)
                    have s21_111 := m111 _ _ (At.hit z110.put.put rfl)
                    have s22_111 := m111 _ _ (((s22_110.ne rfl).ne rfl).ne rfl)
                    clear m111
                    refine e_in ?_
                    refine e_then ?_
                    refine c_region ?_
                    refine l_q rfl (q_move _ _ rfl s22_111.ev ?_)
                    refine l_q rfl (q_add (((m + 1 : Nat) : Int)) rfl (At.hit z111 rfl).ev rfl (i64_is (by omega) (by omega) (by omega)) ?_)
                    refine l_q rfl (q_assign _ _ rfl (At.hit z111.put rfl).ev ?_)
                    refine l_end ?_
                    refine e_fresh z111.put.put.put ?_
                    intro a112 z112 m112
                    have s7_112 := m112 _ _ (((s7_111.ne rfl).ne rfl).ne rfl)
                    have s8_112 := m112 _ _ (((s8_111.ne rfl).ne rfl).ne rfl)
                    have s11_112 := m112 _ _ (((s11_111.ne rfl).ne rfl).ne rfl)
                    have s12_112 := m112 _ _ (((s12_111.ne rfl).ne rfl).ne rfl)
                    have s19_112 := m112 _ _ (((s19_111.ne rfl).ne rfl).ne rfl)
                    have s20_112 := m112 _ _ (((s20_111.ne rfl).ne rfl).ne rfl)
                    have s21_112 := m112 _ _ (((s21_111.ne rfl).ne rfl).ne rfl)
                    have s22_112 := m112 _ _ (At.hit z111.put.put rfl)
                    clear m112
                    exact ⟨z112, s7_112, s8_112, s11_112, s12_112, s19_112, s20_112, (s21_112.same (congrArg Value.bool (anyW_true hc109).symm)), s22_112, kg71_35_107, kg72_36_107, low107⟩
                  | false =>
                    have hs109 := s21_108.same (congrArg Value.bool hc109)
                    refine c_region ?_
                    refine l_q rfl (q_move _ _ rfl hs109.ev ?_)
                    refine l_q rfl (q_move _ _ rfl (At.hit z108 rfl).ev ?_)
                    refine l_qg (wanted_is (j := 1) (d := 200) (b := false) rfl rfl (At.hit z108.put rfl) rfl) (q_move _ _ rfl ((s7_108.ne rfl).ne rfl).ev ?_)
                    refine l_qg (wanted_is (j := 1) (d := 200) (b := false) rfl rfl ((At.hit z108.put rfl).ne rfl) rfl) (q_move _ _ rfl (((s22_108.ne rfl).ne rfl).ne rfl).ev ?_)
                    refine l_qg (wanted_is (j := 1) (d := 200) (b := false) rfl rfl (((At.hit z108.put rfl).ne rfl).ne rfl) rfl) (q_idxF (j := m) rfl Try.underlying22 sz37 ((At.hit z108.put.put rfl).ne rfl).ev (o8.low low107).rd (At.hit z108.put.put.put rfl).ev (by omega) ?_)
                    refine l_qg (wanted_is (j := 1) (d := 200) (b := false) rfl rfl ((((At.hit z108.put rfl).ne rfl).ne rfl).ne rfl) rfl) (q_fldF 0 rfl fld37_0 (At.hit z108.put.put.put.put rfl).ev ((o8.low low107).rd.form (by omega)) ?_)
                    refine l_qg (wanted_is (j := 1) (d := 200) (b := false) rfl rfl (((((At.hit z108.put rfl).ne rfl).ne rfl).ne rfl).ne rfl) rfl) (q_ld1 (u := .string (((outF lb lo lt).getD m zL).f0)) rfl Try.underlying9 rfl (At.hit z108.put.put.put.put.put rfl).ev (fun _ e => by rw [e]; exact (o8.low low107).rd) (by omega) ((flat_at encL_len zL _ m 0 (by omega) (by decide)).trans rfl) ?_)
                    refine l_qg (wanted_is (j := 1) (d := 200) (b := false) rfl rfl ((((((At.hit z108.put rfl).ne rfl).ne rfl).ne rfl).ne rfl).ne rfl) rfl) (q_move _ _ rfl (((((((s20_108.ne rfl).ne rfl).ne rfl).ne rfl).ne rfl).ne rfl).ne rfl).ev ?_)
                    refine l_fresh z108.put.put.put.put.put.put.put.put ?_
                    intro a113 z113 m113
                    have s7_113 := m113 _ _ ((((((((s7_108.ne rfl).ne rfl).ne rfl).ne rfl).ne rfl).ne rfl).ne rfl).ne rfl)
                    have s8_113 := m113 _ _ ((((((((s8_108.ne rfl).ne rfl).ne rfl).ne rfl).ne rfl).ne rfl).ne rfl).ne rfl)
                    have s11_113 := m113 _ _ ((((((((s11_108.ne rfl).ne rfl).ne rfl).ne rfl).ne rfl).ne rfl).ne rfl).ne rfl)
                    have s12_113 := m113 _ _ ((((((((s12_108.ne rfl).ne rfl).ne rfl).ne rfl).ne rfl).ne rfl).ne rfl).ne rfl)
                    have s19_113 := m113 _ _ ((((((((s19_108.ne rfl).ne rfl).ne rfl).ne rfl).ne rfl).ne rfl).ne rfl).ne rfl)
                    have s20_113 := m113 _ _ ((((((((s20_108.ne rfl).ne rfl).ne rfl).ne rfl).ne rfl).ne rfl).ne rfl).ne rfl)
                    have s21_113 := m113 _ _ ((((((((hs109.ne rfl).ne rfl).ne rfl).ne rfl).ne rfl).ne rfl).ne rfl).ne rfl)
                    have s22_113 := m113 _ _ ((((((((s22_108.ne rfl).ne rfl).ne rfl).ne rfl).ne rfl).ne rfl).ne rfl).ne rfl)
                    have s200_113 := m113 _ _ (((((((At.hit z108.put rfl).ne rfl).ne rfl).ne rfl).ne rfl).ne rfl).ne rfl)
                    have s205_113 := m113 _ _ ((At.hit z108.put.put.put.put.put.put rfl).ne rfl)
                    have s206_113 := m113 _ _ (At.hit z108.put.put.put.put.put.put.put rfl)
                    clear m113
                    refine l_callg (fun v w' => v = .bool (within (((outF lb lo lt).getD m zL).f0) ((badA lb lo lt).getD k ByteArray.empty)) ∧ Low w107 w') (wanted_is (j := 1) (d := 200) (b := false) rfl rfl s200_113 rfl) rfl rfl Try.func14 rfl (args2 rfl s205_113.ev s206_113.ev) ((Within.calls (((outF lb lo lt).getD m zL).f0) ((badA lb lo lt).getD k ByteArray.empty) _).mono fun _ _ ⟨e, k⟩ => ⟨_, e, rfl, k⟩) ?_
                    rintro _ w114 ⟨rfl, h114⟩
                    have kg71_35_114 := kg71_35_107.low h114
                    have kg72_36_114 := kg72_36_107.low h114
                    have ob8_114 := (o8.low low107).low h114
                    have oc8_114 := (oo8.low low107).low h114
                    refine l_q rfl (q_pick (b := false) (.bool (within (((outF lb lo lt).getD m zL).f0) ((badA lb lo lt).getD k ByteArray.empty))) rfl (s200_113.ne rfl).ev (At.hit z113 rfl).ev ?_)
                    refine l_q rfl (q_assign _ _ rfl (At.hit z113.put rfl).ev ?_)
                    refine l_end ?_
                    refine e_fresh z113.put.put.put ?_
                    intro a115 z115 m115
                    have s7_115 := m115 _ _ (((s7_113.ne rfl).ne rfl).ne rfl)
                    have s8_115 := m115 _ _ (((s8_113.ne rfl).ne rfl).ne rfl)
                    have s11_115 := m115 _ _ (((s11_113.ne rfl).ne rfl).ne rfl)
                    have s12_115 := m115 _ _ (((s12_113.ne rfl).ne rfl).ne rfl)
                    have s19_115 := m115 _ _ (((s19_113.ne rfl).ne rfl).ne rfl)
                    have s20_115 := m115 _ _ (((s20_113.ne rfl).ne rfl).ne rfl)
                    have s21_115 := m115 _ _ (At.hit z113.put.put rfl)
                    have s22_115 := m115 _ _ (((s22_113.ne rfl).ne rfl).ne rfl)
                    have low115 := (low107.trans h114)
                    clear m115
                    refine e_in ?_
                    refine e_then ?_
                    refine c_region ?_
                    refine l_q rfl (q_move _ _ rfl s22_115.ev ?_)
                    refine l_q rfl (q_add (((m + 1 : Nat) : Int)) rfl (At.hit z115 rfl).ev rfl (i64_is (by omega) (by omega) (by omega)) ?_)
                    refine l_q rfl (q_assign _ _ rfl (At.hit z115.put rfl).ev ?_)
                    refine l_end ?_
                    refine e_fresh z115.put.put.put ?_
                    intro a116 z116 m116
                    have s7_116 := m116 _ _ (((s7_115.ne rfl).ne rfl).ne rfl)
                    have s8_116 := m116 _ _ (((s8_115.ne rfl).ne rfl).ne rfl)
                    have s11_116 := m116 _ _ (((s11_115.ne rfl).ne rfl).ne rfl)
                    have s12_116 := m116 _ _ (((s12_115.ne rfl).ne rfl).ne rfl)
                    have s19_116 := m116 _ _ (((s19_115.ne rfl).ne rfl).ne rfl)
                    have s20_116 := m116 _ _ (((s20_115.ne rfl).ne rfl).ne rfl)
                    have s21_116 := m116 _ _ (((s21_115.ne rfl).ne rfl).ne rfl)
                    have s22_116 := m116 _ _ (At.hit z115.put.put rfl)
                    clear m116
                    exact ⟨z116, s7_116, s8_116, s11_116, s12_116, s19_116, s20_116, (s21_116.same (congrArg Value.bool (anyW_false hc109).symm)), s22_116, kg71_35_114, kg72_36_114, low115⟩
                · intro a117 w117 h
                  obtain ⟨z117, s7_117, s8_117, s11_117, s12_117, s19_117, s20_117, s21_117, s22_117, kg71_35_117, kg72_36_117, low117⟩ := h
                  clear kg71_35_102 kg72_36_102 low102 s11_106 s12_106 s19_106 s20_106 s21_106 s22_106 s7_106 s8_106 z106
                  refine c_seq ?_
                  refine c_seq ?_
                  refine c_region ?_
                  refine l_q rfl (q_move _ _ rfl s22_117.ev ?_)
                  refine l_q rfl (q_move _ _ rfl (s7_117.ne rfl).ev ?_)
                  refine l_q rfl (q_lenF rfl rfl Try.underlying22 (At.hit z117.put rfl).ev (o8.low low117).rd ?_)
                  refine l_q rfl (q_lss false rfl (((At.hit z117 rfl).ne rfl).ne rfl).ev (At.hit z117.put.put rfl).ev (decide_eq_false (by omega)) ?_)
                  refine l_end ?_
                  refine e_fresh z117.put.put.put.put ?_
                  intro a118 z118 m118
                  have s7_118 := m118 _ _ ((((s7_117.ne rfl).ne rfl).ne rfl).ne rfl)
                  have s8_118 := m118 _ _ ((((s8_117.ne rfl).ne rfl).ne rfl).ne rfl)
                  have s11_118 := m118 _ _ ((((s11_117.ne rfl).ne rfl).ne rfl).ne rfl)
                  have s12_118 := m118 _ _ ((((s12_117.ne rfl).ne rfl).ne rfl).ne rfl)
                  have s19_118 := m118 _ _ ((((s19_117.ne rfl).ne rfl).ne rfl).ne rfl)
                  have s20_118 := m118 _ _ ((((s20_117.ne rfl).ne rfl).ne rfl).ne rfl)
                  have s21_118 := m118 _ _ ((((s21_117.ne rfl).ne rfl).ne rfl).ne rfl)
                  have s22_118 := m118 _ _ ((((s22_117.ne rfl).ne rfl).ne rfl).ne rfl)
                  have s196_118 := m118 _ _ (At.hit z117.put.put.put rfl)
                  clear m118
                  refine e_then ?_
                  refine c_false s196_118 ?_
                  refine wp_exit ?_
                  refine x_then ?_
                  refine x_then ?_
                  refine in_exit ?_
                  refine e_then ?_
                  refine c_seq ?_
                  cases hc119 : anyW (outF lb lo lt) ((badA lb lo lt).getD k ByteArray.empty) ((outF lb lo lt).length) with
                  | true =>
                    have hs119 := s21_118.same (congrArg Value.bool hc119)
                    refine c_region ?_
                    refine l_q rfl (q_move _ _ rfl hs119.ev ?_)
                    refine l_q rfl (q_not (b := true) rfl (At.hit z118 rfl).ev ?_)
                    refine l_q rfl (q_move _ _ rfl (At.hit z118.put rfl).ev ?_)
                    refine l_skip (wanted_is (j := 2) (d := 211) (b := false) rfl rfl (At.hit z118.put.put rfl) rfl) ?_
                    refine l_skip (wanted_is (j := 2) (d := 211) (b := false) rfl rfl ((At.hit z118.put.put rfl).ne rfl) rfl) ?_
                    refine l_skip (wanted_is (j := 2) (d := 211) (b := false) rfl rfl (((At.hit z118.put.put rfl).ne rfl).ne rfl) rfl) ?_
                    refine l_skip (wanted_is (j := 2) (d := 211) (b := false) rfl rfl ((((At.hit z118.put.put rfl).ne rfl).ne rfl).ne rfl) rfl) ?_
                    refine l_skip (wanted_is (j := 2) (d := 211) (b := false) rfl rfl (((((At.hit z118.put.put rfl).ne rfl).ne rfl).ne rfl).ne rfl) rfl) ?_
                    refine l_fresh z118.put.put.put.put.put.put.put.put ?_
                    intro a120 z120 m120
                    have s7_120 := m120 _ _ ((((((((s7_118.ne rfl).ne rfl).ne rfl).ne rfl).ne rfl).ne rfl).ne rfl).ne rfl)
                    have s8_120 := m120 _ _ ((((((((s8_118.ne rfl).ne rfl).ne rfl).ne rfl).ne rfl).ne rfl).ne rfl).ne rfl)
                    have s11_120 := m120 _ _ ((((((((s11_118.ne rfl).ne rfl).ne rfl).ne rfl).ne rfl).ne rfl).ne rfl).ne rfl)
                    have s12_120 := m120 _ _ ((((((((s12_118.ne rfl).ne rfl).ne rfl).ne rfl).ne rfl).ne rfl).ne rfl).ne rfl)
                    have s19_120 := m120 _ _ ((((((((s19_118.ne rfl).ne rfl).ne rfl).ne rfl).ne rfl).ne rfl).ne rfl).ne rfl)
                    have s20_120 := m120 _ _ ((((((((s20_118.ne rfl).ne rfl).ne rfl).ne rfl).ne rfl).ne rfl).ne rfl).ne rfl)
                    have s211_120 := m120 _ _ ((((((At.hit z118.put.put rfl).ne rfl).ne rfl).ne rfl).ne rfl).ne rfl)
                    have s216_120 := m120 _ _ (At.hit z118.put.put.put.put.put.put.put rfl)
                    clear m120
                    refine l_skip (wanted_un (j := 7) (d := 216) rfl rfl s216_120) ?_
                    refine l_skip (wanted_un (j := 7) (d := 216) rfl rfl (s216_120.ne rfl)) ?_
                    refine l_skip (wanted_un (j := 7) (d := 216) rfl rfl ((s216_120.ne rfl).ne rfl)) ?_
                    refine l_skip (wanted_un (j := 7) (d := 216) rfl rfl (((s216_120.ne rfl).ne rfl).ne rfl)) ?_
                    refine l_skip (wanted_is (j := 2) (d := 211) (b := false) rfl rfl ((((s211_120.ne rfl).ne rfl).ne rfl).ne rfl) rfl) ?_
                    refine l_q rfl (q_pick (b := false) (.bool false) rfl (((((s211_120.ne rfl).ne rfl).ne rfl).ne rfl).ne rfl).ev rfl ?_)
                    refine l_end ?_
                    refine e_fresh z120.put.put.put.put.put.put ?_
                    intro a121 z121 m121
                    have s7_121 := m121 _ _ ((((((s7_120.ne rfl).ne rfl).ne rfl).ne rfl).ne rfl).ne rfl)
                    have s8_121 := m121 _ _ ((((((s8_120.ne rfl).ne rfl).ne rfl).ne rfl).ne rfl).ne rfl)
                    have s11_121 := m121 _ _ ((((((s11_120.ne rfl).ne rfl).ne rfl).ne rfl).ne rfl).ne rfl)
                    have s12_121 := m121 _ _ ((((((s12_120.ne rfl).ne rfl).ne rfl).ne rfl).ne rfl).ne rfl)
                    have s19_121 := m121 _ _ ((((((s19_120.ne rfl).ne rfl).ne rfl).ne rfl).ne rfl).ne rfl)
                    have s222_121 := m121 _ _ (At.hit z120.put.put.put.put.put rfl)
                    clear m121
                    refine e_then ?_
                    refine c_false s222_121 ?_
                    refine wp_skip ?_
                    refine e_in ?_
                    refine e_then ?_
                    refine c_region ?_
                    refine l_q rfl (q_move _ _ rfl s19_121.ev ?_)
                    refine l_q rfl (q_add (((k + 1 : Nat) : Int)) rfl (At.hit z121 rfl).ev rfl (i64_is (by omega) (by omega) (by omega)) ?_)
                    refine l_q rfl (q_assign _ _ rfl (At.hit z121.put rfl).ev ?_)
                    refine l_end ?_
                    refine e_fresh z121.put.put.put ?_
                    intro a122 z122 m122
                    have s7_122 := m122 _ _ (((s7_121.ne rfl).ne rfl).ne rfl)
                    have s8_122 := m122 _ _ (((s8_121.ne rfl).ne rfl).ne rfl)
                    have s11_122 := m122 _ _ (((s11_121.ne rfl).ne rfl).ne rfl)
                    have s12_122 := m122 _ _ (((s12_121.ne rfl).ne rfl).ne rfl)
                    have s19_122 := m122 _ _ (At.hit z121.put.put rfl)
                    clear m122
                    exact ⟨z122, s7_122, s8_122, s11_122, s12_122, s19_122, kg71_35_117, kg72_36_117, low117⟩
                  | false =>
                    have hs119 := s21_118.same (congrArg Value.bool hc119)
                    refine c_region ?_
                    refine l_q rfl (q_move _ _ rfl hs119.ev ?_)
                    refine l_q rfl (q_not (b := false) rfl (At.hit z118 rfl).ev ?_)
                    refine l_q rfl (q_move _ _ rfl (At.hit z118.put rfl).ev ?_)
                    refine l_qg (wanted_is (j := 2) (d := 211) (b := true) rfl rfl (At.hit z118.put.put rfl) rfl) (q_move _ _ rfl (((s11_118.ne rfl).ne rfl).ne rfl).ev ?_)
                    refine l_qg (wanted_is (j := 2) (d := 211) (b := true) rfl rfl ((At.hit z118.put.put rfl).ne rfl) rfl) (q_move _ _ rfl ((((s20_118.ne rfl).ne rfl).ne rfl).ne rfl).ev ?_)
                    refine l_qg (wanted_is (j := 2) (d := 211) (b := true) rfl rfl (((At.hit z118.put.put rfl).ne rfl).ne rfl) rfl) (q_look (.bool true) rfl Try.underlying38 Try.underlying9 zero4 ((At.hit z118.put.put.put rfl).ne rfl).ev (At.hit z118.put.put.put.put rfl).ev (fun _ e => by rw [e]; exact kg71_35_117) ((look_mapB (pathsTn (diffL lb lo)) ((badA lb lo lt).getD k ByteArray.empty)).trans (congrArg Value.bool (keep5 rb ro rt (by assumption) hc119).1)) ?_)
                    refine l_qg (wanted_is (j := 2) (d := 211) (b := true) rfl rfl ((((At.hit z118.put.put rfl).ne rfl).ne rfl).ne rfl) rfl) (q_not (b := true) rfl (At.hit z118.put.put.put.put.put rfl).ev ?_)
                    refine l_qg (wanted_is (j := 2) (d := 211) (b := true) rfl rfl (((((At.hit z118.put.put rfl).ne rfl).ne rfl).ne rfl).ne rfl) rfl) (q_move _ _ rfl (At.hit z118.put.put.put.put.put.put rfl).ev ?_)
                    refine l_fresh z118.put.put.put.put.put.put.put.put ?_
                    intro a123 z123 m123
                    have s7_123 := m123 _ _ ((((((((s7_118.ne rfl).ne rfl).ne rfl).ne rfl).ne rfl).ne rfl).ne rfl).ne rfl)
                    have s8_123 := m123 _ _ ((((((((s8_118.ne rfl).ne rfl).ne rfl).ne rfl).ne rfl).ne rfl).ne rfl).ne rfl)
                    have s11_123 := m123 _ _ ((((((((s11_118.ne rfl).ne rfl).ne rfl).ne rfl).ne rfl).ne rfl).ne rfl).ne rfl)
                    have s12_123 := m123 _ _ ((((((((s12_118.ne rfl).ne rfl).ne rfl).ne rfl).ne rfl).ne rfl).ne rfl).ne rfl)
                    have s19_123 := m123 _ _ ((((((((s19_118.ne rfl).ne rfl).ne rfl).ne rfl).ne rfl).ne rfl).ne rfl).ne rfl)
                    have s20_123 := m123 _ _ ((((((((s20_118.ne rfl).ne rfl).ne rfl).ne rfl).ne rfl).ne rfl).ne rfl).ne rfl)
                    have s211_123 := m123 _ _ ((((((At.hit z118.put.put rfl).ne rfl).ne rfl).ne rfl).ne rfl).ne rfl)
                    have s216_123 := m123 _ _ (At.hit z118.put.put.put.put.put.put.put rfl)
                    clear m123
                    refine l_qg (wanted_is (j := 7) (d := 216) (b := false) rfl rfl s216_123 rfl) (q_move _ _ rfl s12_123.ev ?_)
                    refine l_qg (wanted_is (j := 7) (d := 216) (b := false) rfl rfl (s216_123.ne rfl) rfl) (q_move _ _ rfl (s20_123.ne rfl).ev ?_)
                    refine l_qg (wanted_is (j := 7) (d := 216) (b := false) rfl rfl ((s216_123.ne rfl).ne rfl) rfl) (q_look (.bool true) rfl Try.underlying38 Try.underlying9 zero4 ((At.hit z123 rfl).ne rfl).ev (At.hit z123.put rfl).ev (fun _ e => by rw [e]; exact kg72_36_117) ((look_mapB (pathsTn (diffL lb lt)) ((badA lb lo lt).getD k ByteArray.empty)).trans (congrArg Value.bool (keep5 rb ro rt (by assumption) hc119).2)) ?_)
                    refine l_qg (wanted_is (j := 7) (d := 216) (b := false) rfl rfl (((s216_123.ne rfl).ne rfl).ne rfl) rfl) (q_not (b := true) rfl (At.hit z123.put.put rfl).ev ?_)
                    refine l_qg (wanted_is (j := 2) (d := 211) (b := true) rfl rfl ((((s211_123.ne rfl).ne rfl).ne rfl).ne rfl) rfl) (q_pick (b := false) (.bool false) rfl ((((s216_123.ne rfl).ne rfl).ne rfl).ne rfl).ev (At.hit z123.put.put.put rfl).ev ?_)
                    refine l_q rfl (q_pick (b := true) (.bool false) rfl (((((s211_123.ne rfl).ne rfl).ne rfl).ne rfl).ne rfl).ev (At.hit z123.put.put.put.put rfl).ev ?_)
                    refine l_end ?_
                    refine e_fresh z123.put.put.put.put.put.put ?_
                    intro a124 z124 m124
                    have s7_124 := m124 _ _ ((((((s7_123.ne rfl).ne rfl).ne rfl).ne rfl).ne rfl).ne rfl)
                    have s8_124 := m124 _ _ ((((((s8_123.ne rfl).ne rfl).ne rfl).ne rfl).ne rfl).ne rfl)
                    have s11_124 := m124 _ _ ((((((s11_123.ne rfl).ne rfl).ne rfl).ne rfl).ne rfl).ne rfl)
                    have s12_124 := m124 _ _ ((((((s12_123.ne rfl).ne rfl).ne rfl).ne rfl).ne rfl).ne rfl)
                    have s19_124 := m124 _ _ ((((((s19_123.ne rfl).ne rfl).ne rfl).ne rfl).ne rfl).ne rfl)
                    have s222_124 := m124 _ _ (At.hit z123.put.put.put.put.put rfl)
                    clear m124
                    refine e_then ?_
                    refine c_false s222_124 ?_
                    refine wp_skip ?_
                    refine e_in ?_
                    refine e_then ?_
                    refine c_region ?_
                    refine l_q rfl (q_move _ _ rfl s19_124.ev ?_)
                    refine l_q rfl (q_add (((k + 1 : Nat) : Int)) rfl (At.hit z124 rfl).ev rfl (i64_is (by omega) (by omega) (by omega)) ?_)
                    refine l_q rfl (q_assign _ _ rfl (At.hit z124.put rfl).ev ?_)
                    refine l_end ?_
                    refine e_fresh z124.put.put.put ?_
                    intro a125 z125 m125
                    have s7_125 := m125 _ _ (((s7_124.ne rfl).ne rfl).ne rfl)
                    have s8_125 := m125 _ _ (((s8_124.ne rfl).ne rfl).ne rfl)
                    have s11_125 := m125 _ _ (((s11_124.ne rfl).ne rfl).ne rfl)
                    have s12_125 := m125 _ _ (((s12_124.ne rfl).ne rfl).ne rfl)
                    have s19_125 := m125 _ _ (At.hit z124.put.put rfl)
                    clear m125
                    exact ⟨z125, s7_125, s8_125, s11_125, s12_125, s19_125, kg71_35_117, kg72_36_117, low117⟩
              · intro a126 w126 h
                obtain ⟨z126, s7_126, s8_126, s11_126, s12_126, s19_126, kg71_35_126, kg72_36_126, low126⟩ := h
                clear kg71_35_99 kg72_36_99 low99 s11_101 s12_101 s19_101 s7_101 s8_101 z101
                refine c_seq ?_
                refine c_seq ?_
                refine c_region ?_
                refine l_q rfl (q_move _ _ rfl s19_126.ev ?_)
                refine l_q rfl (q_move _ _ rfl (s8_126.ne rfl).ev ?_)
                refine l_q rfl (q_lenF rfl rfl Try.underlying25 (At.hit z126.put rfl).ev (oo8.low low126).rd ?_)
                refine l_q rfl (q_lss false rfl (((At.hit z126 rfl).ne rfl).ne rfl).ev (At.hit z126.put.put rfl).ev (decide_eq_false (by omega)) ?_)
                refine l_end ?_
                refine e_fresh z126.put.put.put.put ?_
                intro a127 z127 m127
                have s7_127 := m127 _ _ ((((s7_126.ne rfl).ne rfl).ne rfl).ne rfl)
                have s8_127 := m127 _ _ ((((s8_126.ne rfl).ne rfl).ne rfl).ne rfl)
                have s11_127 := m127 _ _ ((((s11_126.ne rfl).ne rfl).ne rfl).ne rfl)
                have s12_127 := m127 _ _ ((((s12_126.ne rfl).ne rfl).ne rfl).ne rfl)
                have s19_127 := m127 _ _ ((((s19_126.ne rfl).ne rfl).ne rfl).ne rfl)
                have s186_127 := m127 _ _ (At.hit z126.put.put.put rfl)
                clear m127
                refine e_then ?_
                refine c_false s186_127 ?_
                refine wp_exit ?_
                refine x_then ?_
                refine x_then ?_
                refine in_exit ?_
                refine e_then ?_
                refine c_seq ?_
                refine c_region ?_
                refine l_q rfl (q_assign _ _ rfl rfl ?_)
                refine l_end ?_
                refine e_fresh z127.put ?_
                intro a128 z128 m128
                have s6_128 := m128 _ _ (At.hit z127 rfl)
                clear m128
                refine e_then ?_
                refine wp_ret ?_
                refine r_tmp rfl z128.defers s6_128 ?_
                exact ⟨rfl, (low10.trans low126)⟩
  · skip
    refine c_region ?_
    refine l_q rfl (q_move _ _ rfl s0_3.ev ?_)
    refine l_q rfl (q_move _ _ rfl (s1_3.ne rfl).ev ?_)
    refine l_q rfl (q_move _ _ rfl ((s2_3.ne rfl).ne rfl).ev ?_)
    refine l_lit3 rfl rfl Try.underlying44 rec22 (((At.hit z3 rfl).ne rfl).ne rfl).ev ((At.hit z3.put rfl).ne rfl).ev (At.hit z3.put.put rfl).ev (RdF.one ovb_2) (RdF.one ovo_2) (RdF.one ovt_2) ?_
    intro g28_129 w129 hg129 k129 h129
    have geg28_129 := Nat.le_trans low3.ge hg129
    have ovb_129 := ovb_2.low h129
    have ovo_129 := ovo_2.low h129
    have ovt_129 := ovt_2.low h129
    have og28_129_129 := rdFF3 k129 ovb_129 ovo_129 ovt_129
    refine l_call (fun v w' => v = .bool false ∧ Low w129 w') rfl rfl rfl Try.func6 rfl (args1 rfl (At.hit z3.put.put.put rfl).ev) (((calls_bool (May.calls _ _ ([lb, lo, lt]) (by simp) _ og28_129_129) (eq_false_of_ne_true hb4))).mono fun _ _ ⟨e, k⟩ => ⟨_, e, rfl, k⟩) ?_
    rintro _ w130 ⟨rfl, h130⟩
    have kg28_129_130 := h130.blk k129
    have ovb_130 := ovb_129.low h130
    have ovo_130 := ovo_129.low h130
    have ovt_130 := ovt_129.low h130
    have oL129_130 := og28_129_129.low h130
    refine l_q rfl (q_not (b := false) rfl (At.hit z3.put.put.put.put rfl).ev ?_)
    refine l_end ?_
    refine e_fresh z3.put.put.put.put.put.put ?_
    intro a131 z131 m131
    have s0_131 := m131 _ _ ((((((s0_3.ne rfl).ne rfl).ne rfl).ne rfl).ne rfl).ne rfl)
    have s1_131 := m131 _ _ ((((((s1_3.ne rfl).ne rfl).ne rfl).ne rfl).ne rfl).ne rfl)
    have s2_131 := m131 _ _ ((((((s2_3.ne rfl).ne rfl).ne rfl).ne rfl).ne rfl).ne rfl)
    have s30_131 := m131 _ _ (At.hit z3.put.put.put.put.put rfl)
    have low131 := ((low3.trans h129).trans h130)
    clear m131
    refine e_then ?_
    refine c_true s30_131 ?_
    refine c_seq ?_
    refine c_region ?_
    refine l_q rfl (q_assign _ _ rfl rfl ?_)
    refine l_end ?_
    refine e_fresh z131.put ?_
    intro a132 z132 m132
    have s6_132 := m132 _ _ (At.hit z131 rfl)
    clear m132
    refine e_then ?_
    refine wp_ret ?_
    refine ret_then ?_
    refine r_tmp rfl z132.defers s6_132 ?_
    exact ⟨rfl, low131⟩
end Go.Proofs.Ytenbgnlkkmnmhaa.Q
end
/-! R0 -/
section
namespace Go.Proofs.Ytenbgnlkkmnmhaa.R
open Go.ChangeShapes Go.WideShapes Go.RowKit Go.Proofs.YtenbgnlkkmnmhaaW.PrintWords
end Go.Proofs.Ytenbgnlkkmnmhaa.R
end
/-! R4 -/
section
namespace Go.Proofs.Ytenbgnlkkmnmhaa.R
open Go.ChangeShapes Go.WideShapes Go.RowKit Go.Joins Go.Deep Go.WideElems Go.Maps Go.Proofs.Ytenbgnlkkmnmhaa.Q
theorem open_leaves {H : Type} {enc : TypeId × Value → H} {P : Program} {W : World} {base : Nat} {spare : Nat → Bool} {held : Bool} {t e : TypeId} {f0 f1 f2 : Field} {a : Option Addr} {len cap : Nat} {d : DataW H} {ps : List MemPlace}
    (hu : P.underlying t = some (.slice e)) (hs : P.underlying e = some (.struct #[f0, f1, f2])) (hone : oneCellFields P #[f0, f1, f2] = true) (hC : P.cellsOf e = 3)
    (h0 : P.underlying f0.type = some .string) (h1 : P.underlying f1.type = some (.int .i64)) (h2 : P.underlying f2.type = some .string)
    (h : DataW.Trod enc P W base spare held t (.slice a len cap) d ps) :
    ∃ l : List LfL, RdF W 3 (.slice a len cap) l.length (l.map encL).flatten := by
  obtain ⟨fuel, hf⟩ := h
  rcases DataW.trod_slice hu hf with ⟨hcs, _⟩ | ⟨x, n, c, elems, rest, m, _, hcs, _, _, hl, hm, hlen, hel, _⟩
  · simp [Value.cells] at hcs
    obtain ⟨rfl, rfl, rfl⟩ := hcs
    exact ⟨[], (OwnF.nil W 0 0 3).rd⟩
  · simp [Value.cells] at hcs
    obtain ⟨rfl, rfl, rfl⟩ := hcs
    have each : ∀ i, i < len → ∃ y : LfL, ∀ k u, (encL y)[k]? = some u → W.cell? (x.add (i * 3 + k)) = some u := by
      intro i hi
      have hx : elems[i]? = some (elems[i]'(by omega)) := List.getElem?_eq_getElem (by omega)
      have hb := hel i hi
      rw [hx, Option.bind_eq_some_iff] at hb
      obtain ⟨cs, hcells, hd⟩ := hb
      obtain ⟨_, hln, hcell⟩ := World.cells?_some hcells
      rw [hC] at hln hcell
      match cs, hln with
      | [c0, c1, c2], _ =>
        obtain ⟨y0, y1, y2, q, _, _, g0, g1, g2⟩ := trod_struct3 hs hd
        obtain ⟨o0, k0⟩ := hone_of hone 0 f0 rfl
        obtain ⟨o1, k1⟩ := hone_of hone 1 f1 rfl
        obtain ⟨o2, k2⟩ := hone_of hone 2 f2 rfl
        obtain ⟨s0, e0, _, _⟩ := DataW.trod_string h0 (by simpa [o0, k0] using g0 : DataW.trod enc P W base spare held q f0.type [c0] = some y0)
        obtain ⟨s1, e1, _, _⟩ := DataW.trod_int h1 (by simpa [o1, k1] using g1 : DataW.trod enc P W base spare held q f1.type [c1] = some y1)
        obtain ⟨s2, e2, _, _⟩ := DataW.trod_string h2 (by simpa [o2, k2] using g2 : DataW.trod enc P W base spare held q f2.type [c2] = some y2)
        injection e0 with e0; injection e1 with e1; injection e2 with e2
        subst e0; subst e1; subst e2
        refine ⟨⟨s0, s1, s2⟩, fun k u hk => ?_⟩
        have hk3 : k < 3 := (List.getElem?_eq_some_iff.1 hk).1
        have := hcell k hk3
        rw [Addr.add_add] at this
        rw [this]
        exact hk
    let f : Fin len → LfL := fun i => Classical.choose (each i.val i.isLt)
    have hfs : ∀ i : Fin len, ∀ k u, (encL (f i))[k]? = some u → W.cell? (x.add (i.val * 3 + k)) = some u := fun i => Classical.choose_spec (each i.val i.isLt)
    have hlL : (List.ofFn f).length = len := by simp
    have hg : ∀ i, (hi : i < len) → (List.ofFn f).getD i zL = f ⟨i, hi⟩ := fun i hi => by simp [List.getD_eq_getElem?_getD, hi]
    have hall : ∀ j u, ((List.ofFn f).map encL).flatten[j]? = some u → W.cell? (x.add j) = some u := by
      intro j u hj
      have hlt : j < len * 3 := by
        have := (List.getElem?_eq_some_iff.1 hj).1
        rw [flat_len encL_len, hlL] at this
        exact this
      have hq : j / 3 < len := by omega
      have e : j = j / 3 * 3 + j % 3 := by omega
      rw [e, flat_at encL_len zL _ _ _ (by rw [hlL]; exact hq) (by omega), hg _ hq] at hj
      rw [e]
      exact hfs ⟨j / 3, hq⟩ _ _ hj
    refine ⟨List.ofFn f, ?_⟩
    rw [hlL]
    refine ⟨by rw [flat_len encL_len, hlL], some x, cap, rfl, hl, fun hp => ?_⟩
    have hc0 := hall 0 (.string ((List.ofFn f).getD 0 zL).f0) (by
      have := flat_at encL_len zL (List.ofFn f) 0 0 (by rw [hlL]; exact hp) (by decide)
      rw [Nat.zero_mul, Nat.add_zero] at this
      rw [this]
      rfl)
    have hx0 : x.add 0 = x := by simp [Addr.add]
    rw [hx0] at hc0
    have hsp := World.cell?_spot hc0
    obtain ⟨xb, xo, xs⟩ := x
    cases hsp
    exact ⟨xb, xo, rfl, World.block_lt_of_cell? _ _ hc0, fun j u hj => by rw [← Addr.add_mid]; exact hall j u hj⟩
end Go.Proofs.Ytenbgnlkkmnmhaa.R
end
