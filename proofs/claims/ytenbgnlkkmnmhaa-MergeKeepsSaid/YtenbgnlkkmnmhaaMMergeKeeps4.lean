/- Merged out of this session's texts by a program (wip/gen/merge.py): declarations that this claim doesn't name are left out. -/
import Derived.Test.YtenbgnlkkmnmhaaMMergeKeeps3
set_option linter.unusedVariables false
set_option linter.unusedSimpArgs false
/-! E6 -/
section
namespace Go.Proofs.Ytenbgnlkkmnmhaa.Q
open Go.RowKit Go.Proofs.Ytenbgnlkkmnmhaa.P
open Go.Proofs.YtenbgnlkkmnmhaaW.PrintWords (bytesOf bytesOf_length)
set_option linter.unusedVariables false
set_option linter.unusedSimpArgs false
set_option maxRecDepth 100000
set_option maxHeartbeats 4000000
attribute [local irreducible] wpList wpQuiet qch Code.wp Oper.quiet Act.put At Region.wanted yielded
theorem May.calls (v : Value) (vs : List Value) (L : List (List LfL)) (hLn : L.length ≤ 1000000) (w0 : World) (hv : RdFF w0 3 encL v vs L) : Calls Try.prog 6 #[v] w0 fun e w' => e = .returned (.bool (mayB L)) ∧ Low w0 w' := by
  refine c_fun (R := _) Try.func6 rfl 59 rfl (Nat.le_of_ble_eq_true rfl) ?_
  intro a z hA
  have s0 := hA 0 _ rfl
  clear hA
  refine c_seq ?_
  refine c_region ?_
  refine l_q rfl (q_assign _ _ rfl rfl ?_)
  refine l_end ?_
  refine e_fresh z.put ?_
  intro a1 z1 m1
  have s0_1 := m1 _ _ (s0.ne rfl)
  clear m1
  refine e_then ?_
  refine c_seq ?_
  refine c_seq ?_
  refine c_region ?_
  refine l_q rfl (q_assign _ _ rfl rfl ?_)
  refine l_end ?_
  refine e_fresh z1.put ?_
  intro a2 z2 m2
  have s0_2 := m2 _ _ (s0_1.ne rfl)
  have s3_2 := m2 _ _ (At.hit z1 rfl)
  clear m2
  refine e_then ?_
  refine wp_block ?_
  refine c_loop (okN L) (fun k a w => Fr 59 a ∧ At a 0 (v) ∧ At a 3 (.int .i64 ((k : Nat) : Int)) ∧ Low w0 w) ?_ ?_ ?_
  · exact ⟨z2, s0_2, s3_2, (Low.refl _)⟩
  · intro k a3 w3 hk3 h
    obtain ⟨z3, s0_3, s3_3, low3⟩ := h
    clear s0_2 s3_2 z2
    have hle := okN_le L
    have hrk : rowOk (L.getD k []) = true := okN_round (by assumption)
    have hf60 := (few_all (rowOk_few hrk)).1
    refine c_seq ?_
    refine c_seq ?_
    refine c_region ?_
    refine l_q rfl (q_move _ _ rfl s3_3.ev ?_)
    refine l_q rfl (q_move _ _ rfl (s0_3.ne rfl).ev ?_)
    refine l_q rfl (q_lenF rfl rfl Try.underlying44 (At.hit z3.put rfl).ev (hv.low low3).1 ?_)
    refine l_q rfl (q_lss true rfl (((At.hit z3 rfl).ne rfl).ne rfl).ev (At.hit z3.put.put rfl).ev (decide_eq_true (by omega)) ?_)
    refine l_end ?_
    refine e_fresh z3.put.put.put.put ?_
    intro a4 z4 m4
    have s0_4 := m4 _ _ ((((s0_3.ne rfl).ne rfl).ne rfl).ne rfl)
    have s3_4 := m4 _ _ ((((s3_3.ne rfl).ne rfl).ne rfl).ne rfl)
    have s8_4 := m4 _ _ (At.hit z3.put.put.put rfl)
    clear m4
    refine e_then ?_
    refine c_true s8_4 ?_
    refine wp_skip ?_
    refine e_then ?_
    refine c_seq ?_
    refine wp_block ?_
    refine c_seq ?_
    refine c_seq ?_
    refine c_region ?_
    refine l_q rfl (q_move _ _ rfl s0_4.ev ?_)
    refine l_q rfl (q_move _ _ rfl (s3_4.ne rfl).ev ?_)
    refine l_q rfl (q_idxF (j := k) rfl Try.underlying44 sz22 ((At.hit z4 rfl).ne rfl).ev (hv.low low3).1 (At.hit z4.put rfl).ev (by omega) ?_)
    refine l_q rfl (q_ld1 (u := (vs.getD k nilS)) rfl Try.underlying22 rfl (At.hit z4.put.put rfl).ev (fun _ e => by rw [e]; exact (hv.low low3).1) (by omega) (RdFF.cell (hv.low low3) (by omega)) ?_)
    refine l_call (fun v w' => v = .bool true ∧ Low w3 w') rfl rfl rfl Try.func15 rfl (args1 rfl (At.hit z4.put.put.put rfl).ev) (((calls_bool (Few.calls _ (L.getD k []) _ (RdFF.row (k := k) (hv.low low3) (by omega))) (rowOk_few hrk))).mono fun _ _ ⟨e, k⟩ => ⟨_, e, rfl, k⟩) ?_
    rintro _ w6 ⟨rfl, h6⟩
    have ov_6 := (hv.low low3).low h6
    have oy5_6 := (RdFF.row (k := k) (hv.low low3) (by omega)).low h6
    refine l_q rfl (q_not (b := true) rfl (At.hit z4.put.put.put.put rfl).ev ?_)
    refine l_end ?_
    refine e_fresh z4.put.put.put.put.put.put ?_
    intro a7 z7 m7
    have s0_7 := m7 _ _ ((((((s0_4.ne rfl).ne rfl).ne rfl).ne rfl).ne rfl).ne rfl)
    have s3_7 := m7 _ _ ((((((s3_4.ne rfl).ne rfl).ne rfl).ne rfl).ne rfl).ne rfl)
    have s16_7 := m7 _ _ (At.hit z4.put.put.put.put.put rfl)
    have low7 := (low3.trans h6)
    clear m7
    refine e_then ?_
    refine c_false s16_7 ?_
    refine wp_skip ?_
    refine e_then ?_
    refine c_seq ?_
    refine c_region ?_
    refine l_q rfl (q_assign _ _ rfl rfl ?_)
    refine l_end ?_
    refine e_fresh z7.put ?_
    intro a8 z8 m8
    have s0_8 := m8 _ _ (s0_7.ne rfl)
    have s3_8 := m8 _ _ (s3_7.ne rfl)
    have s4_8 := m8 _ _ (At.hit z7 rfl)
    clear m8
    refine e_then ?_
    refine wp_block ?_
    refine c_loop ((L.getD k []).length) (fun m a w => Fr 59 a ∧ At a 0 (v) ∧ At a 3 (.int .i64 ((k : Nat) : Int)) ∧ At a 4 (.int .i64 ((m : Nat) : Int)) ∧ Low w0 w) ?_ ?_ ?_
    · exact ⟨z8, s0_8, s3_8, s4_8, low7⟩
    · intro m a9 w9 hk9 h
      obtain ⟨z9, s0_9, s3_9, s4_9, low9⟩ := h
      clear low7 s0_8 s3_8 s4_8 z8
      have hod : ordAt (L.getD k []) m := ordN_round (by rw [rowOk_ord hrk]; assumption)
      obtain ⟨hne, hlt⟩ := hod
      refine c_seq ?_
      refine c_seq ?_
      refine c_region ?_
      refine l_q rfl (q_move _ _ rfl s4_9.ev ?_)
      refine l_q rfl (q_move _ _ rfl (s0_9.ne rfl).ev ?_)
      refine l_q rfl (q_move _ _ rfl ((s3_9.ne rfl).ne rfl).ev ?_)
      refine l_q rfl (q_idxF (j := k) rfl Try.underlying44 sz22 ((At.hit z9.put rfl).ne rfl).ev (hv.low low9).1 (At.hit z9.put.put rfl).ev (by omega) ?_)
      refine l_q rfl (q_ld1 (u := (vs.getD k nilS)) rfl Try.underlying22 rfl (At.hit z9.put.put.put rfl).ev (fun _ e => by rw [e]; exact (hv.low low9).1) (by omega) (RdFF.cell (hv.low low9) (by omega)) ?_)
      refine l_q rfl (q_lenF rfl rfl Try.underlying22 (At.hit z9.put.put.put.put rfl).ev (RdFF.row (k := k) (hv.low low9) (by omega)) ?_)
      refine l_q rfl (q_lss true rfl ((((((At.hit z9 rfl).ne rfl).ne rfl).ne rfl).ne rfl).ne rfl).ev (At.hit z9.put.put.put.put.put rfl).ev (decide_eq_true (by omega)) ?_)
      refine l_end ?_
      refine e_fresh z9.put.put.put.put.put.put.put ?_
      intro a11 z11 m11
      have s0_11 := m11 _ _ (((((((s0_9.ne rfl).ne rfl).ne rfl).ne rfl).ne rfl).ne rfl).ne rfl)
      have s3_11 := m11 _ _ (((((((s3_9.ne rfl).ne rfl).ne rfl).ne rfl).ne rfl).ne rfl).ne rfl)
      have s4_11 := m11 _ _ (((((((s4_9.ne rfl).ne rfl).ne rfl).ne rfl).ne rfl).ne rfl).ne rfl)
      have s23_11 := m11 _ _ (At.hit z9.put.put.put.put.put.put rfl)
      clear m11
      refine e_then ?_
      refine c_true s23_11 ?_
      refine wp_skip ?_
      refine e_then ?_
      refine c_seq ?_
      refine wp_block ?_
      refine c_seq ?_
      by_cases hb12 : 0 < m
      · skip
        refine region_lowg hm (by kernel_rfl) ?_
        refine gs rfl (q_move _ _ rfl s0_11.ev ?_)
        refine gs rfl (q_move _ _ rfl (s3_11.ne rfl).ev ?_)
        refine gs rfl (q_idxF (j := k) rfl Try.underlying44 sz22 ((At.hit z11 rfl).ne rfl).ev (hv.low low9).1 (At.hit z11.put rfl).ev (by omega) ?_)
        refine gs rfl (q_ld1 (u := (vs.getD k nilS)) rfl Try.underlying22 rfl (At.hit z11.put.put rfl).ev (fun _ h => ((hv.low low9).low h).1) (by omega) (RdFF.cell (hv.low low9) (by omega)) ?_)
        refine gs rfl (q_move _ _ rfl ((((s4_11.ne rfl).ne rfl).ne rfl).ne rfl).ev ?_)
        refine gs rfl (q_idxF (j := m) rfl Try.underlying22 sz37 ((At.hit z11.put.put.put rfl).ne rfl).ev (RdFF.row (k := k) (hv.low low9) (by omega)) (At.hit z11.put.put.put.put rfl).ev (by omega) ?_)
        refine gs rfl (q_fldF 0 rfl fld37_0 (At.hit z11.put.put.put.put.put rfl).ev ((RdFF.row (k := k) (hv.low low9) (by omega)).form (by omega)) ?_)
        refine gs rfl (q_ld1 (u := .string (((L.getD k []).getD m zL).f0)) rfl Try.underlying9 rfl (At.hit z11.put.put.put.put.put.put rfl).ev (fun _ h => ((RdFF.row (k := k) (hv.low low9) (by omega)).low h)) (by omega) ((flat_at encL_len zL _ m 0 (by omega) (by decide)).trans rfl) ?_)
        refine g_fresh z11.put.put.put.put.put.put.put.put ?_
        intro a14 z14 m14
        have s0_14 := m14 _ _ ((((((((s0_11.ne rfl).ne rfl).ne rfl).ne rfl).ne rfl).ne rfl).ne rfl).ne rfl)
        have s3_14 := m14 _ _ ((((((((s3_11.ne rfl).ne rfl).ne rfl).ne rfl).ne rfl).ne rfl).ne rfl).ne rfl)
        have s4_14 := m14 _ _ ((((((((s4_11.ne rfl).ne rfl).ne rfl).ne rfl).ne rfl).ne rfl).ne rfl).ne rfl)
        have s33_14 := m14 _ _ (At.hit z11.put.put.put.put.put.put.put rfl)
        clear m14
        refine gs rfl (q_streq false rfl s33_14.ev rfl (strF hne) ?_)
        refine gs rfl (q_move _ _ rfl (At.hit z14 rfl).ev ?_)
        refine gsg (wanted_is (j := 9) (d := 35) (b := false) rfl rfl (At.hit z14.put rfl) rfl) (q_move _ _ rfl ((s4_14.ne rfl).ne rfl).ev ?_)
        refine gsg (wanted_is (j := 9) (d := 35) (b := false) rfl rfl ((At.hit z14.put rfl).ne rfl) rfl) (q_gtr true rfl (At.hit z14.put.put rfl).ev rfl (decide_eq_true (by omega)) ?_)
        refine gsg (wanted_is (j := 9) (d := 35) (b := false) rfl rfl (((At.hit z14.put rfl).ne rfl).ne rfl) rfl) (q_move _ _ rfl (At.hit z14.put.put.put rfl).ev ?_)
        refine gsg (wanted_is (j := 12) (d := 38) (b := true) rfl rfl (At.hit z14.put.put.put.put rfl) rfl) (q_move _ _ rfl (((((s0_14.ne rfl).ne rfl).ne rfl).ne rfl).ne rfl).ev ?_)
        refine gsg (wanted_is (j := 12) (d := 38) (b := true) rfl rfl ((At.hit z14.put.put.put.put rfl).ne rfl) rfl) (q_move _ _ rfl ((((((s3_14.ne rfl).ne rfl).ne rfl).ne rfl).ne rfl).ne rfl).ev ?_)
        refine gsg (wanted_is (j := 12) (d := 38) (b := true) rfl rfl (((At.hit z14.put.put.put.put rfl).ne rfl).ne rfl) rfl) (q_idxF (j := k) rfl Try.underlying44 sz22 ((At.hit z14.put.put.put.put.put rfl).ne rfl).ev (hv.low low9).1 (At.hit z14.put.put.put.put.put.put rfl).ev (by omega) ?_)
        refine g_fresh z14.put.put.put.put.put.put.put.put ?_
        intro a15 z15 m15
        have s0_15 := m15 _ _ ((((((((s0_14.ne rfl).ne rfl).ne rfl).ne rfl).ne rfl).ne rfl).ne rfl).ne rfl)
        have s3_15 := m15 _ _ ((((((((s3_14.ne rfl).ne rfl).ne rfl).ne rfl).ne rfl).ne rfl).ne rfl).ne rfl)
        have s4_15 := m15 _ _ ((((((((s4_14.ne rfl).ne rfl).ne rfl).ne rfl).ne rfl).ne rfl).ne rfl).ne rfl)
        have s35_15 := m15 _ _ (((((((At.hit z14.put rfl).ne rfl).ne rfl).ne rfl).ne rfl).ne rfl).ne rfl)
        have s38_15 := m15 _ _ ((((At.hit z14.put.put.put.put rfl).ne rfl).ne rfl).ne rfl)
        have s41_15 := m15 _ _ (At.hit z14.put.put.put.put.put.put.put rfl)
        clear m15
        refine gsg (wanted_is (j := 12) (d := 38) (b := true) rfl rfl s38_15 rfl) (q_ld1 (u := (vs.getD k nilS)) rfl Try.underlying22 rfl s41_15.ev (fun _ h => ((hv.low low9).low h).1) (by omega) (RdFF.cell (hv.low low9) (by omega)) ?_)
        refine gsg (wanted_is (j := 12) (d := 38) (b := true) rfl rfl (s38_15.ne rfl) rfl) (q_move _ _ rfl (s4_15.ne rfl).ev ?_)
        refine gsg (wanted_is (j := 12) (d := 38) (b := true) rfl rfl ((s38_15.ne rfl).ne rfl) rfl) (q_idxF (j := m) rfl Try.underlying22 sz37 ((At.hit z15 rfl).ne rfl).ev (RdFF.row (k := k) (hv.low low9) (by omega)) (At.hit z15.put rfl).ev (by omega) ?_)
        refine gsg (wanted_is (j := 12) (d := 38) (b := true) rfl rfl (((s38_15.ne rfl).ne rfl).ne rfl) rfl) (q_fldF 0 rfl fld37_0 (At.hit z15.put.put rfl).ev ((RdFF.row (k := k) (hv.low low9) (by omega)).form (by omega)) ?_)
        refine gsg (wanted_is (j := 12) (d := 38) (b := true) rfl rfl ((((s38_15.ne rfl).ne rfl).ne rfl).ne rfl) rfl) (q_ld1 (u := .string (((L.getD k []).getD m zL).f0)) rfl Try.underlying9 rfl (At.hit z15.put.put.put rfl).ev (fun _ h => ((RdFF.row (k := k) (hv.low low9) (by omega)).low h)) (by omega) ((flat_at encL_len zL _ m 0 (by omega) (by decide)).trans rfl) ?_)
        refine gsg (wanted_is (j := 12) (d := 38) (b := true) rfl rfl (((((s38_15.ne rfl).ne rfl).ne rfl).ne rfl).ne rfl) rfl) (q_move _ _ rfl (((((s0_15.ne rfl).ne rfl).ne rfl).ne rfl).ne rfl).ev ?_)
        refine gsg (wanted_is (j := 12) (d := 38) (b := true) rfl rfl ((((((s38_15.ne rfl).ne rfl).ne rfl).ne rfl).ne rfl).ne rfl) rfl) (q_move _ _ rfl ((((((s3_15.ne rfl).ne rfl).ne rfl).ne rfl).ne rfl).ne rfl).ev ?_)
        refine gsg (wanted_is (j := 12) (d := 38) (b := true) rfl rfl (((((((s38_15.ne rfl).ne rfl).ne rfl).ne rfl).ne rfl).ne rfl).ne rfl) rfl) (q_idxF (j := k) rfl Try.underlying44 sz22 ((At.hit z15.put.put.put.put.put rfl).ne rfl).ev (hv.low low9).1 (At.hit z15.put.put.put.put.put.put rfl).ev (by omega) ?_)
        refine g_fresh z15.put.put.put.put.put.put.put.put ?_
        intro a17 z17 m17
        have s0_17 := m17 _ _ ((((((((s0_15.ne rfl).ne rfl).ne rfl).ne rfl).ne rfl).ne rfl).ne rfl).ne rfl)
        have s3_17 := m17 _ _ ((((((((s3_15.ne rfl).ne rfl).ne rfl).ne rfl).ne rfl).ne rfl).ne rfl).ne rfl)
        have s4_17 := m17 _ _ ((((((((s4_15.ne rfl).ne rfl).ne rfl).ne rfl).ne rfl).ne rfl).ne rfl).ne rfl)
        have s35_17 := m17 _ _ ((((((((s35_15.ne rfl).ne rfl).ne rfl).ne rfl).ne rfl).ne rfl).ne rfl).ne rfl)
        have s38_17 := m17 _ _ ((((((((s38_15.ne rfl).ne rfl).ne rfl).ne rfl).ne rfl).ne rfl).ne rfl).ne rfl)
        have s46_17 := m17 _ _ ((((At.hit z15.put.put.put.put rfl).ne rfl).ne rfl).ne rfl)
        have s49_17 := m17 _ _ (At.hit z15.put.put.put.put.put.put.put rfl)
        clear m17
        refine gsg (wanted_is (j := 12) (d := 38) (b := true) rfl rfl s38_17 rfl) (q_ld1 (u := (vs.getD k nilS)) rfl Try.underlying22 rfl s49_17.ev (fun _ h => ((hv.low low9).low h).1) (by omega) (RdFF.cell (hv.low low9) (by omega)) ?_)
        refine gsg (wanted_is (j := 12) (d := 38) (b := true) rfl rfl (s38_17.ne rfl) rfl) (q_move _ _ rfl (s4_17.ne rfl).ev ?_)
        refine gsg (wanted_is (j := 12) (d := 38) (b := true) rfl rfl ((s38_17.ne rfl).ne rfl) rfl) (q_sub ((((m : Nat) : Int) - 1)) rfl (At.hit z17.put rfl).ev rfl (i64_is (by omega) (by omega) (by omega)) ?_)
        refine gsg (wanted_is (j := 12) (d := 38) (b := true) rfl rfl (((s38_17.ne rfl).ne rfl).ne rfl) rfl) (q_idxF (j := m - 1) rfl Try.underlying22 sz37 (((At.hit z17 rfl).ne rfl).ne rfl).ev (RdFF.row (k := k) (hv.low low9) (by omega)) ((At.hit z17.put.put rfl).same (congrArg (Value.int .i64) (show ((((m : Nat) : Int) - 1) : Int) = ((m - 1 : Nat) : Int) by omega))).ev (by omega) ?_)
        refine gsg (wanted_is (j := 12) (d := 38) (b := true) rfl rfl ((((s38_17.ne rfl).ne rfl).ne rfl).ne rfl) rfl) (q_fldF 0 rfl fld37_0 (At.hit z17.put.put.put rfl).ev ((RdFF.row (k := k) (hv.low low9) (by omega)).form (by omega)) ?_)
        refine gsg (wanted_is (j := 12) (d := 38) (b := true) rfl rfl (((((s38_17.ne rfl).ne rfl).ne rfl).ne rfl).ne rfl) rfl) (q_ld1 (u := .string (((L.getD k []).getD (m - 1) zL).f0)) rfl Try.underlying9 rfl (At.hit z17.put.put.put.put rfl).ev (fun _ h => ((RdFF.row (k := k) (hv.low low9) (by omega)).low h)) (by omega) ((flat_at encL_len zL _ (m - 1) 0 (by omega) (by decide)).trans rfl) ?_)
        refine gsg (wanted_is (j := 12) (d := 38) (b := true) rfl rfl ((((((s38_17.ne rfl).ne rfl).ne rfl).ne rfl).ne rfl).ne rfl) rfl) (q_strleq false rfl ((((((s46_17.ne rfl).ne rfl).ne rfl).ne rfl).ne rfl).ne rfl).ev (At.hit z17.put.put.put.put.put rfl).ev (leF (hlt hb12)) ?_)
        refine gsg (wanted_is (j := 9) (d := 35) (b := false) rfl rfl (((((((s35_17.ne rfl).ne rfl).ne rfl).ne rfl).ne rfl).ne rfl).ne rfl) rfl) (q_pick (b := true) (.bool false) rfl (((((((s38_17.ne rfl).ne rfl).ne rfl).ne rfl).ne rfl).ne rfl).ne rfl).ev (At.hit z17.put.put.put.put.put.put rfl).ev ?_)
        refine g_fresh z17.put.put.put.put.put.put.put.put ?_
        intro a19 z19 m19
        have s0_19 := m19 _ _ ((((((((s0_17.ne rfl).ne rfl).ne rfl).ne rfl).ne rfl).ne rfl).ne rfl).ne rfl)
        have s3_19 := m19 _ _ ((((((((s3_17.ne rfl).ne rfl).ne rfl).ne rfl).ne rfl).ne rfl).ne rfl).ne rfl)
        have s4_19 := m19 _ _ ((((((((s4_17.ne rfl).ne rfl).ne rfl).ne rfl).ne rfl).ne rfl).ne rfl).ne rfl)
        have s35_19 := m19 _ _ ((((((((s35_17.ne rfl).ne rfl).ne rfl).ne rfl).ne rfl).ne rfl).ne rfl).ne rfl)
        have s57_19 := m19 _ _ (At.hit z17.put.put.put.put.put.put.put rfl)
        clear m19
        refine gs rfl (q_pick (b := false) (.bool false) rfl s35_19.ev s57_19.ev ?_)
        refine gz ?_
        intro w20 h20
        have ov_20 := (hv.low low9).low h20
        have oy13_20 := (RdFF.row (k := k) (hv.low low9) (by omega)).low h20
        have oy16_20 := (RdFF.row (k := k) (hv.low low9) (by omega)).low h20
        have oy18_20 := (RdFF.row (k := k) (hv.low low9) (by omega)).low h20
        refine e_id ?_
        refine e_fresh z19.put ?_
        intro a21 z21 m21
        have s0_21 := m21 _ _ (s0_19.ne rfl)
        have s3_21 := m21 _ _ (s3_19.ne rfl)
        have s4_21 := m21 _ _ (s4_19.ne rfl)
        have s58_21 := m21 _ _ (At.hit z19 rfl)
        have low21 := (low9.trans h20)
        clear m21
        refine e_then ?_
        refine c_false s58_21 ?_
        refine wp_skip ?_
        refine e_in ?_
        refine e_then ?_
        refine c_region ?_
        refine l_q rfl (q_move _ _ rfl s4_21.ev ?_)
        refine l_q rfl (q_add (((m + 1 : Nat) : Int)) rfl (At.hit z21 rfl).ev rfl (i64_is (by omega) (by omega) (by omega)) ?_)
        refine l_q rfl (q_assign _ _ rfl (At.hit z21.put rfl).ev ?_)
        refine l_end ?_
        refine e_fresh z21.put.put.put ?_
        intro a22 z22 m22
        have s0_22 := m22 _ _ (((s0_21.ne rfl).ne rfl).ne rfl)
        have s3_22 := m22 _ _ (((s3_21.ne rfl).ne rfl).ne rfl)
        have s4_22 := m22 _ _ (At.hit z21.put.put rfl)
        clear m22
        exact ⟨z22, s0_22, s3_22, s4_22, low21⟩
      · skip
        refine region_lowg hm (by kernel_rfl) ?_
        refine gs rfl (q_move _ _ rfl s0_11.ev ?_)
        refine gs rfl (q_move _ _ rfl (s3_11.ne rfl).ev ?_)
        refine gs rfl (q_idxF (j := k) rfl Try.underlying44 sz22 ((At.hit z11 rfl).ne rfl).ev (hv.low low9).1 (At.hit z11.put rfl).ev (by omega) ?_)
        refine gs rfl (q_ld1 (u := (vs.getD k nilS)) rfl Try.underlying22 rfl (At.hit z11.put.put rfl).ev (fun _ h => ((hv.low low9).low h).1) (by omega) (RdFF.cell (hv.low low9) (by omega)) ?_)
        refine gs rfl (q_move _ _ rfl ((((s4_11.ne rfl).ne rfl).ne rfl).ne rfl).ev ?_)
        refine gs rfl (q_idxF (j := m) rfl Try.underlying22 sz37 ((At.hit z11.put.put.put rfl).ne rfl).ev (RdFF.row (k := k) (hv.low low9) (by omega)) (At.hit z11.put.put.put.put rfl).ev (by omega) ?_)
        refine gs rfl (q_fldF 0 rfl fld37_0 (At.hit z11.put.put.put.put.put rfl).ev ((RdFF.row (k := k) (hv.low low9) (by omega)).form (by omega)) ?_)
        refine gs rfl (q_ld1 (u := .string (((L.getD k []).getD m zL).f0)) rfl Try.underlying9 rfl (At.hit z11.put.put.put.put.put.put rfl).ev (fun _ h => ((RdFF.row (k := k) (hv.low low9) (by omega)).low h)) (by omega) ((flat_at encL_len zL _ m 0 (by omega) (by decide)).trans rfl) ?_)
        refine g_fresh z11.put.put.put.put.put.put.put.put ?_
        intro a24 z24 m24
        have s0_24 := m24 _ _ ((((((((s0_11.ne rfl).ne rfl).ne rfl).ne rfl).ne rfl).ne rfl).ne rfl).ne rfl)
        have s3_24 := m24 _ _ ((((((((s3_11.ne rfl).ne rfl).ne rfl).ne rfl).ne rfl).ne rfl).ne rfl).ne rfl)
        have s4_24 := m24 _ _ ((((((((s4_11.ne rfl).ne rfl).ne rfl).ne rfl).ne rfl).ne rfl).ne rfl).ne rfl)
        have s33_24 := m24 _ _ (At.hit z11.put.put.put.put.put.put.put rfl)
        clear m24
        refine gs rfl (q_streq false rfl s33_24.ev rfl (strF hne) ?_)
        refine gs rfl (q_move _ _ rfl (At.hit z24 rfl).ev ?_)
        refine gsg (wanted_is (j := 9) (d := 35) (b := false) rfl rfl (At.hit z24.put rfl) rfl) (q_move _ _ rfl ((s4_24.ne rfl).ne rfl).ev ?_)
        refine gsg (wanted_is (j := 9) (d := 35) (b := false) rfl rfl ((At.hit z24.put rfl).ne rfl) rfl) (q_gtr false rfl (At.hit z24.put.put rfl).ev rfl (decide_eq_false (by omega)) ?_)
        refine gsg (wanted_is (j := 9) (d := 35) (b := false) rfl rfl (((At.hit z24.put rfl).ne rfl).ne rfl) rfl) (q_move _ _ rfl (At.hit z24.put.put.put rfl).ev ?_)
        refine gsk (wanted_is (j := 12) (d := 38) (b := false) rfl rfl (At.hit z24.put.put.put.put rfl) rfl) ?_
        refine gsk (wanted_is (j := 12) (d := 38) (b := false) rfl rfl ((At.hit z24.put.put.put.put rfl).ne rfl) rfl) ?_
        refine gsk (wanted_is (j := 12) (d := 38) (b := false) rfl rfl (((At.hit z24.put.put.put.put rfl).ne rfl).ne rfl) rfl) ?_
        refine g_fresh z24.put.put.put.put.put.put.put.put ?_
        intro a25 z25 m25
        have s0_25 := m25 _ _ ((((((((s0_24.ne rfl).ne rfl).ne rfl).ne rfl).ne rfl).ne rfl).ne rfl).ne rfl)
        have s3_25 := m25 _ _ ((((((((s3_24.ne rfl).ne rfl).ne rfl).ne rfl).ne rfl).ne rfl).ne rfl).ne rfl)
        have s4_25 := m25 _ _ ((((((((s4_24.ne rfl).ne rfl).ne rfl).ne rfl).ne rfl).ne rfl).ne rfl).ne rfl)
        have s35_25 := m25 _ _ (((((((At.hit z24.put rfl).ne rfl).ne rfl).ne rfl).ne rfl).ne rfl).ne rfl)
        have s38_25 := m25 _ _ ((((At.hit z24.put.put.put.put rfl).ne rfl).ne rfl).ne rfl)
        have s41_25 := m25 _ _ (At.hit z24.put.put.put.put.put.put.put rfl)
        clear m25
        refine gsk (wanted_is (j := 12) (d := 38) (b := false) rfl rfl s38_25 rfl) ?_
        refine gsk (wanted_is (j := 12) (d := 38) (b := false) rfl rfl (s38_25.ne rfl) rfl) ?_
        refine gsk (wanted_is (j := 12) (d := 38) (b := false) rfl rfl ((s38_25.ne rfl).ne rfl) rfl) ?_
        refine gsk (wanted_is (j := 12) (d := 38) (b := false) rfl rfl (((s38_25.ne rfl).ne rfl).ne rfl) rfl) ?_
        refine gsk (wanted_is (j := 12) (d := 38) (b := false) rfl rfl ((((s38_25.ne rfl).ne rfl).ne rfl).ne rfl) rfl) ?_
        refine gsk (wanted_is (j := 12) (d := 38) (b := false) rfl rfl (((((s38_25.ne rfl).ne rfl).ne rfl).ne rfl).ne rfl) rfl) ?_
        refine gsk (wanted_is (j := 12) (d := 38) (b := false) rfl rfl ((((((s38_25.ne rfl).ne rfl).ne rfl).ne rfl).ne rfl).ne rfl) rfl) ?_
        refine gsk (wanted_is (j := 12) (d := 38) (b := false) rfl rfl (((((((s38_25.ne rfl).ne rfl).ne rfl).ne rfl).ne rfl).ne rfl).ne rfl) rfl) ?_
        refine g_fresh z25.put.put.put.put.put.put.put.put ?_
        intro a26 z26 m26
        have s0_26 := m26 _ _ ((((((((s0_25.ne rfl).ne rfl).ne rfl).ne rfl).ne rfl).ne rfl).ne rfl).ne rfl)
        have s3_26 := m26 _ _ ((((((((s3_25.ne rfl).ne rfl).ne rfl).ne rfl).ne rfl).ne rfl).ne rfl).ne rfl)
        have s4_26 := m26 _ _ ((((((((s4_25.ne rfl).ne rfl).ne rfl).ne rfl).ne rfl).ne rfl).ne rfl).ne rfl)
        have s35_26 := m26 _ _ ((((((((s35_25.ne rfl).ne rfl).ne rfl).ne rfl).ne rfl).ne rfl).ne rfl).ne rfl)
        have s38_26 := m26 _ _ ((((((((s38_25.ne rfl).ne rfl).ne rfl).ne rfl).ne rfl).ne rfl).ne rfl).ne rfl)
        have s46_26 := m26 _ _ ((((At.hit z25.put.put.put.put rfl).ne rfl).ne rfl).ne rfl)
        have s49_26 := m26 _ _ (At.hit z25.put.put.put.put.put.put.put rfl)
        clear m26
        refine gsk (wanted_is (j := 12) (d := 38) (b := false) rfl rfl s38_26 rfl) ?_
        refine gsk (wanted_is (j := 12) (d := 38) (b := false) rfl rfl (s38_26.ne rfl) rfl) ?_
        refine gsk (wanted_is (j := 12) (d := 38) (b := false) rfl rfl ((s38_26.ne rfl).ne rfl) rfl) ?_
        refine gsk (wanted_is (j := 12) (d := 38) (b := false) rfl rfl (((s38_26.ne rfl).ne rfl).ne rfl) rfl) ?_
        refine gsk (wanted_is (j := 12) (d := 38) (b := false) rfl rfl ((((s38_26.ne rfl).ne rfl).ne rfl).ne rfl) rfl) ?_
        refine gsk (wanted_is (j := 12) (d := 38) (b := false) rfl rfl (((((s38_26.ne rfl).ne rfl).ne rfl).ne rfl).ne rfl) rfl) ?_
        refine gsk (wanted_is (j := 12) (d := 38) (b := false) rfl rfl ((((((s38_26.ne rfl).ne rfl).ne rfl).ne rfl).ne rfl).ne rfl) rfl) ?_
        refine gsg (wanted_is (j := 9) (d := 35) (b := false) rfl rfl (((((((s35_26.ne rfl).ne rfl).ne rfl).ne rfl).ne rfl).ne rfl).ne rfl) rfl) (q_pick (b := false) (.bool false) rfl (((((((s38_26.ne rfl).ne rfl).ne rfl).ne rfl).ne rfl).ne rfl).ne rfl).ev rfl ?_)
        refine g_fresh z26.put.put.put.put.put.put.put.put ?_
        intro a27 z27 m27
        have s0_27 := m27 _ _ ((((((((s0_26.ne rfl).ne rfl).ne rfl).ne rfl).ne rfl).ne rfl).ne rfl).ne rfl)
        have s3_27 := m27 _ _ ((((((((s3_26.ne rfl).ne rfl).ne rfl).ne rfl).ne rfl).ne rfl).ne rfl).ne rfl)
        have s4_27 := m27 _ _ ((((((((s4_26.ne rfl).ne rfl).ne rfl).ne rfl).ne rfl).ne rfl).ne rfl).ne rfl)
        have s35_27 := m27 _ _ ((((((((s35_26.ne rfl).ne rfl).ne rfl).ne rfl).ne rfl).ne rfl).ne rfl).ne rfl)
        have s57_27 := m27 _ _ (At.hit z26.put.put.put.put.put.put.put rfl)
        clear m27
        refine gs rfl (q_pick (b := false) (.bool false) rfl s35_27.ev s57_27.ev ?_)
        refine gz ?_
        intro w28 h28
        have ov_28 := (hv.low low9).low h28
        have oy23_28 := (RdFF.row (k := k) (hv.low low9) (by omega)).low h28
        refine e_id ?_
        refine e_fresh z27.put ?_
        intro a29 z29 m29
        have s0_29 := m29 _ _ (s0_27.ne rfl)
        have s3_29 := m29 _ _ (s3_27.ne rfl)
        have s4_29 := m29 _ _ (s4_27.ne rfl)
        have s58_29 := m29 _ _ (At.hit z27 rfl)
        have low29 := (low9.trans h28)
        clear m29
        refine e_then ?_
        refine c_false s58_29 ?_
        refine wp_skip ?_
        refine e_in ?_
        refine e_then ?_
        refine c_region ?_
        refine l_q rfl (q_move _ _ rfl s4_29.ev ?_)
        refine l_q rfl (q_add (((m + 1 : Nat) : Int)) rfl (At.hit z29 rfl).ev rfl (i64_is (by omega) (by omega) (by omega)) ?_)
        refine l_q rfl (q_assign _ _ rfl (At.hit z29.put rfl).ev ?_)
        refine l_end ?_
        refine e_fresh z29.put.put.put ?_
        intro a30 z30 m30
        have s0_30 := m30 _ _ (((s0_29.ne rfl).ne rfl).ne rfl)
        have s3_30 := m30 _ _ (((s3_29.ne rfl).ne rfl).ne rfl)
        have s4_30 := m30 _ _ (At.hit z29.put.put rfl)
        clear m30
        exact ⟨z30, s0_30, s3_30, s4_30, low29⟩
    · intro a31 w31 h
      obtain ⟨z31, s0_31, s3_31, s4_31, low31⟩ := h
      clear low7 s0_8 s3_8 s4_8 z8
      refine c_seq ?_
      refine c_seq ?_
      refine c_region ?_
      refine l_q rfl (q_move _ _ rfl s4_31.ev ?_)
      refine l_q rfl (q_move _ _ rfl (s0_31.ne rfl).ev ?_)
      refine l_q rfl (q_move _ _ rfl ((s3_31.ne rfl).ne rfl).ev ?_)
      refine l_q rfl (q_idxF (j := k) rfl Try.underlying44 sz22 ((At.hit z31.put rfl).ne rfl).ev (hv.low low31).1 (At.hit z31.put.put rfl).ev (by omega) ?_)
      refine l_q rfl (q_ld1 (u := (vs.getD k nilS)) rfl Try.underlying22 rfl (At.hit z31.put.put.put rfl).ev (fun _ e => by rw [e]; exact (hv.low low31).1) (by omega) (RdFF.cell (hv.low low31) (by omega)) ?_)
      refine l_q rfl (q_lenF rfl rfl Try.underlying22 (At.hit z31.put.put.put.put rfl).ev (RdFF.row (k := k) (hv.low low31) (by omega)) ?_)
      refine l_q rfl (q_lss false rfl ((((((At.hit z31 rfl).ne rfl).ne rfl).ne rfl).ne rfl).ne rfl).ev (At.hit z31.put.put.put.put.put rfl).ev (decide_eq_false (by omega)) ?_)
      refine l_end ?_
      refine e_fresh z31.put.put.put.put.put.put.put ?_
      intro a33 z33 m33
      have s0_33 := m33 _ _ (((((((s0_31.ne rfl).ne rfl).ne rfl).ne rfl).ne rfl).ne rfl).ne rfl)
      have s3_33 := m33 _ _ (((((((s3_31.ne rfl).ne rfl).ne rfl).ne rfl).ne rfl).ne rfl).ne rfl)
      have s4_33 := m33 _ _ (((((((s4_31.ne rfl).ne rfl).ne rfl).ne rfl).ne rfl).ne rfl).ne rfl)
      have s23_33 := m33 _ _ (At.hit z31.put.put.put.put.put.put rfl)
      clear m33
      refine e_then ?_
      refine c_false s23_33 ?_
      refine wp_exit ?_
      refine x_then ?_
      refine x_then ?_
      refine in_exit ?_
      refine e_in ?_
      refine e_then ?_
      refine c_region ?_
      refine l_q rfl (q_move _ _ rfl s3_33.ev ?_)
      refine l_q rfl (q_add (((k + 1 : Nat) : Int)) rfl (At.hit z33 rfl).ev rfl (i64_is (by omega) (by omega) (by omega)) ?_)
      refine l_q rfl (q_assign _ _ rfl (At.hit z33.put rfl).ev ?_)
      refine l_end ?_
      refine e_fresh z33.put.put.put ?_
      intro a34 z34 m34
      have s0_34 := m34 _ _ (((s0_33.ne rfl).ne rfl).ne rfl)
      have s3_34 := m34 _ _ (At.hit z33.put.put rfl)
      clear m34
      exact ⟨z34, s0_34, s3_34, low31⟩
  · intro a35 w35 h
    obtain ⟨z35, s0_35, s3_35, low35⟩ := h
    clear s0_2 s3_2 z2
    have hle := okN_le L
    refine c_seq ?_
    refine c_seq ?_
    by_cases hb36 : okN L < L.length
    · skip
      refine c_region ?_
      refine l_q rfl (q_move _ _ rfl s3_35.ev ?_)
      refine l_q rfl (q_move _ _ rfl (s0_35.ne rfl).ev ?_)
      refine l_q rfl (q_lenF rfl rfl Try.underlying44 (At.hit z35.put rfl).ev (hv.low low35).1 ?_)
      refine l_q rfl (q_lss true rfl (((At.hit z35 rfl).ne rfl).ne rfl).ev (At.hit z35.put.put rfl).ev (decide_eq_true (by omega)) ?_)
      refine l_end ?_
      refine e_fresh z35.put.put.put.put ?_
      intro a37 z37 m37
      have s0_37 := m37 _ _ ((((s0_35.ne rfl).ne rfl).ne rfl).ne rfl)
      have s3_37 := m37 _ _ ((((s3_35.ne rfl).ne rfl).ne rfl).ne rfl)
      have s8_37 := m37 _ _ (At.hit z35.put.put.put rfl)
      clear m37
      refine e_then ?_
      refine c_true s8_37 ?_
      refine wp_skip ?_
      refine e_then ?_
      refine c_seq ?_
      refine wp_block ?_
      refine c_seq ?_
      refine c_seq ?_
      by_cases hb38 : fewB (L.getD (okN L) []) = true
      · skip
        refine c_region ?_
        refine l_q rfl (q_move _ _ rfl s0_37.ev ?_)
        refine l_q rfl (q_move _ _ rfl (s3_37.ne rfl).ev ?_)
        refine l_q rfl (q_idxF (j := (okN L)) rfl Try.underlying44 sz22 ((At.hit z37 rfl).ne rfl).ev (hv.low low35).1 (At.hit z37.put rfl).ev (by omega) ?_)
        refine l_q rfl (q_ld1 (u := (vs.getD (okN L) nilS)) rfl Try.underlying22 rfl (At.hit z37.put.put rfl).ev (fun _ e => by rw [e]; exact (hv.low low35).1) (by omega) (RdFF.cell (hv.low low35) (by omega)) ?_)
        refine l_call (fun v w' => v = .bool true ∧ Low w35 w') rfl rfl rfl Try.func15 rfl (args1 rfl (At.hit z37.put.put.put rfl).ev) (((calls_bool (Few.calls _ (L.getD (okN L) []) _ (RdFF.row (k := (okN L)) (hv.low low35) (by omega))) hb38)).mono fun _ _ ⟨e, k⟩ => ⟨_, e, rfl, k⟩) ?_
        rintro _ w40 ⟨rfl, h40⟩
        have ov_40 := (hv.low low35).low h40
        have oy39_40 := (RdFF.row (k := (okN L)) (hv.low low35) (by omega)).low h40
        refine l_q rfl (q_not (b := true) rfl (At.hit z37.put.put.put.put rfl).ev ?_)
        refine l_end ?_
        refine e_fresh z37.put.put.put.put.put.put ?_
        intro a41 z41 m41
        have s0_41 := m41 _ _ ((((((s0_37.ne rfl).ne rfl).ne rfl).ne rfl).ne rfl).ne rfl)
        have s3_41 := m41 _ _ ((((((s3_37.ne rfl).ne rfl).ne rfl).ne rfl).ne rfl).ne rfl)
        have s16_41 := m41 _ _ (At.hit z37.put.put.put.put.put rfl)
        have low41 := (low35.trans h40)
        clear m41
        refine e_then ?_
        refine c_false s16_41 ?_
        refine wp_skip ?_
        refine e_then ?_
        refine c_seq ?_
        refine c_region ?_
        refine l_q rfl (q_assign _ _ rfl rfl ?_)
        refine l_end ?_
        refine e_fresh z41.put ?_
        intro a42 z42 m42
        have s0_42 := m42 _ _ (s0_41.ne rfl)
        have s3_42 := m42 _ _ (s3_41.ne rfl)
        have s4_42 := m42 _ _ (At.hit z41 rfl)
        clear m42
        refine e_then ?_
        refine wp_block ?_
        refine c_loop (ordN (L.getD (okN L) [])) (fun m a w => Fr 59 a ∧ At a 0 (v) ∧ At a 3 (.int .i64 (((okN L) : Nat) : Int)) ∧ At a 4 (.int .i64 ((m : Nat) : Int)) ∧ Low w0 w) ?_ ?_ ?_
        · exact ⟨z42, s0_42, s3_42, s4_42, low41⟩
        · intro m a43 w43 hk43 h
          obtain ⟨z43, s0_43, s3_43, s4_43, low43⟩ := h
          clear low41 s0_42 s3_42 s4_42 z42
          have hon := rowOk_not (okN_stop hb36) hb38
          have hf60 := (few_all hb38).1
          have hod : ordAt (L.getD (okN L) []) m := ordN_round (by assumption)
          obtain ⟨hne, hlt⟩ := hod
          refine c_seq ?_
          refine c_seq ?_
          refine c_region ?_
          refine l_q rfl (q_move _ _ rfl s4_43.ev ?_)
          refine l_q rfl (q_move _ _ rfl (s0_43.ne rfl).ev ?_)
          refine l_q rfl (q_move _ _ rfl ((s3_43.ne rfl).ne rfl).ev ?_)
          refine l_q rfl (q_idxF (j := (okN L)) rfl Try.underlying44 sz22 ((At.hit z43.put rfl).ne rfl).ev (hv.low low43).1 (At.hit z43.put.put rfl).ev (by omega) ?_)
          refine l_q rfl (q_ld1 (u := (vs.getD (okN L) nilS)) rfl Try.underlying22 rfl (At.hit z43.put.put.put rfl).ev (fun _ e => by rw [e]; exact (hv.low low43).1) (by omega) (RdFF.cell (hv.low low43) (by omega)) ?_)
          refine l_q rfl (q_lenF rfl rfl Try.underlying22 (At.hit z43.put.put.put.put rfl).ev (RdFF.row (k := (okN L)) (hv.low low43) (by omega)) ?_)
          refine l_q rfl (q_lss true rfl ((((((At.hit z43 rfl).ne rfl).ne rfl).ne rfl).ne rfl).ne rfl).ev (At.hit z43.put.put.put.put.put rfl).ev (decide_eq_true (by omega)) ?_)
          refine l_end ?_
          refine e_fresh z43.put.put.put.put.put.put.put ?_
          intro a45 z45 m45
          have s0_45 := m45 _ _ (((((((s0_43.ne rfl).ne rfl).ne rfl).ne rfl).ne rfl).ne rfl).ne rfl)
          have s3_45 := m45 _ _ (((((((s3_43.ne rfl).ne rfl).ne rfl).ne rfl).ne rfl).ne rfl).ne rfl)
          have s4_45 := m45 _ _ (((((((s4_43.ne rfl).ne rfl).ne rfl).ne rfl).ne rfl).ne rfl).ne rfl)
          have s23_45 := m45 _ _ (At.hit z43.put.put.put.put.put.put rfl)
          clear m45
          refine e_then ?_
          refine c_true s23_45 ?_
          refine wp_skip ?_
          refine e_then ?_
          refine c_seq ?_
          refine wp_block ?_
          refine c_seq ?_
          by_cases hb46 : 0 < m
          · skip
            refine region_lowg hm (by kernel_rfl) ?_
            refine gs rfl (q_move _ _ rfl s0_45.ev ?_)
            refine gs rfl (q_move _ _ rfl (s3_45.ne rfl).ev ?_)
            refine gs rfl (q_idxF (j := (okN L)) rfl Try.underlying44 sz22 ((At.hit z45 rfl).ne rfl).ev (hv.low low43).1 (At.hit z45.put rfl).ev (by omega) ?_)
            refine gs rfl (q_ld1 (u := (vs.getD (okN L) nilS)) rfl Try.underlying22 rfl (At.hit z45.put.put rfl).ev (fun _ h => ((hv.low low43).low h).1) (by omega) (RdFF.cell (hv.low low43) (by omega)) ?_)
            refine gs rfl (q_move _ _ rfl ((((s4_45.ne rfl).ne rfl).ne rfl).ne rfl).ev ?_)
            refine gs rfl (q_idxF (j := m) rfl Try.underlying22 sz37 ((At.hit z45.put.put.put rfl).ne rfl).ev (RdFF.row (k := (okN L)) (hv.low low43) (by omega)) (At.hit z45.put.put.put.put rfl).ev (by omega) ?_)
            refine gs rfl (q_fldF 0 rfl fld37_0 (At.hit z45.put.put.put.put.put rfl).ev ((RdFF.row (k := (okN L)) (hv.low low43) (by omega)).form (by omega)) ?_)
            refine gs rfl (q_ld1 (u := .string (((L.getD (okN L) []).getD m zL).f0)) rfl Try.underlying9 rfl (At.hit z45.put.put.put.put.put.put rfl).ev (fun _ h => ((RdFF.row (k := (okN L)) (hv.low low43) (by omega)).low h)) (by omega) ((flat_at encL_len zL _ m 0 (by omega) (by decide)).trans rfl) ?_)
            refine g_fresh z45.put.put.put.put.put.put.put.put ?_
            intro a48 z48 m48
            have s0_48 := m48 _ _ ((((((((s0_45.ne rfl).ne rfl).ne rfl).ne rfl).ne rfl).ne rfl).ne rfl).ne rfl)
            have s3_48 := m48 _ _ ((((((((s3_45.ne rfl).ne rfl).ne rfl).ne rfl).ne rfl).ne rfl).ne rfl).ne rfl)
            have s4_48 := m48 _ _ ((((((((s4_45.ne rfl).ne rfl).ne rfl).ne rfl).ne rfl).ne rfl).ne rfl).ne rfl)
            have s33_48 := m48 _ _ (At.hit z45.put.put.put.put.put.put.put rfl)
            clear m48
            refine gs rfl (q_streq false rfl s33_48.ev rfl (strF hne) ?_)
            refine gs rfl (q_move _ _ rfl (At.hit z48 rfl).ev ?_)
            refine gsg (wanted_is (j := 9) (d := 35) (b := false) rfl rfl (At.hit z48.put rfl) rfl) (q_move _ _ rfl ((s4_48.ne rfl).ne rfl).ev ?_)
            refine gsg (wanted_is (j := 9) (d := 35) (b := false) rfl rfl ((At.hit z48.put rfl).ne rfl) rfl) (q_gtr true rfl (At.hit z48.put.put rfl).ev rfl (decide_eq_true (by omega)) ?_)
            refine gsg (wanted_is (j := 9) (d := 35) (b := false) rfl rfl (((At.hit z48.put rfl).ne rfl).ne rfl) rfl) (q_move _ _ rfl (At.hit z48.put.put.put rfl).ev ?_)
            refine gsg (wanted_is (j := 12) (d := 38) (b := true) rfl rfl (At.hit z48.put.put.put.put rfl) rfl) (q_move _ _ rfl (((((s0_48.ne rfl).ne rfl).ne rfl).ne rfl).ne rfl).ev ?_)
            refine gsg (wanted_is (j := 12) (d := 38) (b := true) rfl rfl ((At.hit z48.put.put.put.put rfl).ne rfl) rfl) (q_move _ _ rfl ((((((s3_48.ne rfl).ne rfl).ne rfl).ne rfl).ne rfl).ne rfl).ev ?_)
            refine gsg (wanted_is (j := 12) (d := 38) (b := true) rfl rfl (((At.hit z48.put.put.put.put rfl).ne rfl).ne rfl) rfl) (q_idxF (j := (okN L)) rfl Try.underlying44 sz22 ((At.hit z48.put.put.put.put.put rfl).ne rfl).ev (hv.low low43).1 (At.hit z48.put.put.put.put.put.put rfl).ev (by omega) ?_)
            refine g_fresh z48.put.put.put.put.put.put.put.put ?_
            intro a49 z49 m49
            have s0_49 := m49 _ _ ((((((((s0_48.ne rfl).ne rfl).ne rfl).ne rfl).ne rfl).ne rfl).ne rfl).ne rfl)
            have s3_49 := m49 _ _ ((((((((s3_48.ne rfl).ne rfl).ne rfl).ne rfl).ne rfl).ne rfl).ne rfl).ne rfl)
            have s4_49 := m49 _ _ ((((((((s4_48.ne rfl).ne rfl).ne rfl).ne rfl).ne rfl).ne rfl).ne rfl).ne rfl)
            have s35_49 := m49 _ _ (((((((At.hit z48.put rfl).ne rfl).ne rfl).ne rfl).ne rfl).ne rfl).ne rfl)
            have s38_49 := m49 _ _ ((((At.hit z48.put.put.put.put rfl).ne rfl).ne rfl).ne rfl)
            have s41_49 := m49 _ _ (At.hit z48.put.put.put.put.put.put.put rfl)
            clear m49
            refine gsg (wanted_is (j := 12) (d := 38) (b := true) rfl rfl s38_49 rfl) (q_ld1 (u := (vs.getD (okN L) nilS)) rfl Try.underlying22 rfl s41_49.ev (fun _ h => ((hv.low low43).low h).1) (by omega) (RdFF.cell (hv.low low43) (by omega)) ?_)
            refine gsg (wanted_is (j := 12) (d := 38) (b := true) rfl rfl (s38_49.ne rfl) rfl) (q_move _ _ rfl (s4_49.ne rfl).ev ?_)
            refine gsg (wanted_is (j := 12) (d := 38) (b := true) rfl rfl ((s38_49.ne rfl).ne rfl) rfl) (q_idxF (j := m) rfl Try.underlying22 sz37 ((At.hit z49 rfl).ne rfl).ev (RdFF.row (k := (okN L)) (hv.low low43) (by omega)) (At.hit z49.put rfl).ev (by omega) ?_)
            refine gsg (wanted_is (j := 12) (d := 38) (b := true) rfl rfl (((s38_49.ne rfl).ne rfl).ne rfl) rfl) (q_fldF 0 rfl fld37_0 (At.hit z49.put.put rfl).ev ((RdFF.row (k := (okN L)) (hv.low low43) (by omega)).form (by omega)) ?_)
            refine gsg (wanted_is (j := 12) (d := 38) (b := true) rfl rfl ((((s38_49.ne rfl).ne rfl).ne rfl).ne rfl) rfl) (q_ld1 (u := .string (((L.getD (okN L) []).getD m zL).f0)) rfl Try.underlying9 rfl (At.hit z49.put.put.put rfl).ev (fun _ h => ((RdFF.row (k := (okN L)) (hv.low low43) (by omega)).low h)) (by omega) ((flat_at encL_len zL _ m 0 (by omega) (by decide)).trans rfl) ?_)
            refine gsg (wanted_is (j := 12) (d := 38) (b := true) rfl rfl (((((s38_49.ne rfl).ne rfl).ne rfl).ne rfl).ne rfl) rfl) (q_move _ _ rfl (((((s0_49.ne rfl).ne rfl).ne rfl).ne rfl).ne rfl).ev ?_)
            refine gsg (wanted_is (j := 12) (d := 38) (b := true) rfl rfl ((((((s38_49.ne rfl).ne rfl).ne rfl).ne rfl).ne rfl).ne rfl) rfl) (q_move _ _ rfl ((((((s3_49.ne rfl).ne rfl).ne rfl).ne rfl).ne rfl).ne rfl).ev ?_)
            refine gsg (wanted_is (j := 12) (d := 38) (b := true) rfl rfl (((((((s38_49.ne rfl).ne rfl).ne rfl).ne rfl).ne rfl).ne rfl).ne rfl) rfl) (q_idxF (j := (okN L)) rfl Try.underlying44 sz22 ((At.hit z49.put.put.put.put.put rfl).ne rfl).ev (hv.low low43).1 (At.hit z49.put.put.put.put.put.put rfl).ev (by omega) ?_)
            refine g_fresh z49.put.put.put.put.put.put.put.put ?_
            intro a51 z51 m51
            have s0_51 := m51 _ _ ((((((((s0_49.ne rfl).ne rfl).ne rfl).ne rfl).ne rfl).ne rfl).ne rfl).ne rfl)
            have s3_51 := m51 _ _ ((((((((s3_49.ne rfl).ne rfl).ne rfl).ne rfl).ne rfl).ne rfl).ne rfl).ne rfl)
            have s4_51 := m51 _ _ ((((((((s4_49.ne rfl).ne rfl).ne rfl).ne rfl).ne rfl).ne rfl).ne rfl).ne rfl)
            have s35_51 := m51 _ _ ((((((((s35_49.ne rfl).ne rfl).ne rfl).ne rfl).ne rfl).ne rfl).ne rfl).ne rfl)
            have s38_51 := m51 _ _ ((((((((s38_49.ne rfl).ne rfl).ne rfl).ne rfl).ne rfl).ne rfl).ne rfl).ne rfl)
            have s46_51 := m51 _ _ ((((At.hit z49.put.put.put.put rfl).ne rfl).ne rfl).ne rfl)
            have s49_51 := m51 _ _ (At.hit z49.put.put.put.put.put.put.put rfl)
            clear m51
            refine gsg (wanted_is (j := 12) (d := 38) (b := true) rfl rfl s38_51 rfl) (q_ld1 (u := (vs.getD (okN L) nilS)) rfl Try.underlying22 rfl s49_51.ev (fun _ h => ((hv.low low43).low h).1) (by omega) (RdFF.cell (hv.low low43) (by omega)) ?_)
            refine gsg (wanted_is (j := 12) (d := 38) (b := true) rfl rfl (s38_51.ne rfl) rfl) (q_move _ _ rfl (s4_51.ne rfl).ev ?_)
            refine gsg (wanted_is (j := 12) (d := 38) (b := true) rfl rfl ((s38_51.ne rfl).ne rfl) rfl) (q_sub ((((m : Nat) : Int) - 1)) rfl (At.hit z51.put rfl).ev rfl (i64_is (by omega) (by omega) (by omega)) ?_)
            refine gsg (wanted_is (j := 12) (d := 38) (b := true) rfl rfl (((s38_51.ne rfl).ne rfl).ne rfl) rfl) (q_idxF (j := m - 1) rfl Try.underlying22 sz37 (((At.hit z51 rfl).ne rfl).ne rfl).ev (RdFF.row (k := (okN L)) (hv.low low43) (by omega)) ((At.hit z51.put.put rfl).same (congrArg (Value.int .i64) (show ((((m : Nat) : Int) - 1) : Int) = ((m - 1 : Nat) : Int) by omega))).ev (by omega) ?_)
            refine gsg (wanted_is (j := 12) (d := 38) (b := true) rfl rfl ((((s38_51.ne rfl).ne rfl).ne rfl).ne rfl) rfl) (q_fldF 0 rfl fld37_0 (At.hit z51.put.put.put rfl).ev ((RdFF.row (k := (okN L)) (hv.low low43) (by omega)).form (by omega)) ?_)
            refine gsg (wanted_is (j := 12) (d := 38) (b := true) rfl rfl (((((s38_51.ne rfl).ne rfl).ne rfl).ne rfl).ne rfl) rfl) (q_ld1 (u := .string (((L.getD (okN L) []).getD (m - 1) zL).f0)) rfl Try.underlying9 rfl (At.hit z51.put.put.put.put rfl).ev (fun _ h => ((RdFF.row (k := (okN L)) (hv.low low43) (by omega)).low h)) (by omega) ((flat_at encL_len zL _ (m - 1) 0 (by omega) (by decide)).trans rfl) ?_)
            refine gsg (wanted_is (j := 12) (d := 38) (b := true) rfl rfl ((((((s38_51.ne rfl).ne rfl).ne rfl).ne rfl).ne rfl).ne rfl) rfl) (q_strleq false rfl ((((((s46_51.ne rfl).ne rfl).ne rfl).ne rfl).ne rfl).ne rfl).ev (At.hit z51.put.put.put.put.put rfl).ev (leF (hlt hb46)) ?_)
            refine gsg (wanted_is (j := 9) (d := 35) (b := false) rfl rfl (((((((s35_51.ne rfl).ne rfl).ne rfl).ne rfl).ne rfl).ne rfl).ne rfl) rfl) (q_pick (b := true) (.bool false) rfl (((((((s38_51.ne rfl).ne rfl).ne rfl).ne rfl).ne rfl).ne rfl).ne rfl).ev (At.hit z51.put.put.put.put.put.put rfl).ev ?_)
            refine g_fresh z51.put.put.put.put.put.put.put.put ?_
            intro a53 z53 m53
            have s0_53 := m53 _ _ ((((((((s0_51.ne rfl).ne rfl).ne rfl).ne rfl).ne rfl).ne rfl).ne rfl).ne rfl)
            have s3_53 := m53 _ _ ((((((((s3_51.ne rfl).ne rfl).ne rfl).ne rfl).ne rfl).ne rfl).ne rfl).ne rfl)
            have s4_53 := m53 _ _ ((((((((s4_51.ne rfl).ne rfl).ne rfl).ne rfl).ne rfl).ne rfl).ne rfl).ne rfl)
            have s35_53 := m53 _ _ ((((((((s35_51.ne rfl).ne rfl).ne rfl).ne rfl).ne rfl).ne rfl).ne rfl).ne rfl)
            have s57_53 := m53 _ _ (At.hit z51.put.put.put.put.put.put.put rfl)
            clear m53
            refine gs rfl (q_pick (b := false) (.bool false) rfl s35_53.ev s57_53.ev ?_)
            refine gz ?_
            intro w54 h54
            have ov_54 := (hv.low low43).low h54
            have oy47_54 := (RdFF.row (k := (okN L)) (hv.low low43) (by omega)).low h54
            have oy50_54 := (RdFF.row (k := (okN L)) (hv.low low43) (by omega)).low h54
            have oy52_54 := (RdFF.row (k := (okN L)) (hv.low low43) (by omega)).low h54
            refine e_id ?_
            refine e_fresh z53.put ?_
            intro a55 z55 m55
            have s0_55 := m55 _ _ (s0_53.ne rfl)
            have s3_55 := m55 _ _ (s3_53.ne rfl)
            have s4_55 := m55 _ _ (s4_53.ne rfl)
            have s58_55 := m55 _ _ (At.hit z53 rfl)
            have low55 := (low43.trans h54)
            clear m55
            refine e_then ?_
            refine c_false s58_55 ?_
            refine wp_skip ?_
            refine e_in ?_
            refine e_then ?_
            refine c_region ?_
            refine l_q rfl (q_move _ _ rfl s4_55.ev ?_)
            refine l_q rfl (q_add (((m + 1 : Nat) : Int)) rfl (At.hit z55 rfl).ev rfl (i64_is (by omega) (by omega) (by omega)) ?_)
            refine l_q rfl (q_assign _ _ rfl (At.hit z55.put rfl).ev ?_)
            refine l_end ?_
            refine e_fresh z55.put.put.put ?_
            intro a56 z56 m56
            have s0_56 := m56 _ _ (((s0_55.ne rfl).ne rfl).ne rfl)
            have s3_56 := m56 _ _ (((s3_55.ne rfl).ne rfl).ne rfl)
            have s4_56 := m56 _ _ (At.hit z55.put.put rfl)
            clear m56
            exact ⟨z56, s0_56, s3_56, s4_56, low55⟩
          · skip
            refine region_lowg hm (by kernel_rfl) ?_
            refine gs rfl (q_move _ _ rfl s0_45.ev ?_)
            refine gs rfl (q_move _ _ rfl (s3_45.ne rfl).ev ?_)
            refine gs rfl (q_idxF (j := (okN L)) rfl Try.underlying44 sz22 ((At.hit z45 rfl).ne rfl).ev (hv.low low43).1 (At.hit z45.put rfl).ev (by omega) ?_)
            refine gs rfl (q_ld1 (u := (vs.getD (okN L) nilS)) rfl Try.underlying22 rfl (At.hit z45.put.put rfl).ev (fun _ h => ((hv.low low43).low h).1) (by omega) (RdFF.cell (hv.low low43) (by omega)) ?_)
            refine gs rfl (q_move _ _ rfl ((((s4_45.ne rfl).ne rfl).ne rfl).ne rfl).ev ?_)
            refine gs rfl (q_idxF (j := m) rfl Try.underlying22 sz37 ((At.hit z45.put.put.put rfl).ne rfl).ev (RdFF.row (k := (okN L)) (hv.low low43) (by omega)) (At.hit z45.put.put.put.put rfl).ev (by omega) ?_)
            refine gs rfl (q_fldF 0 rfl fld37_0 (At.hit z45.put.put.put.put.put rfl).ev ((RdFF.row (k := (okN L)) (hv.low low43) (by omega)).form (by omega)) ?_)
            refine gs rfl (q_ld1 (u := .string (((L.getD (okN L) []).getD m zL).f0)) rfl Try.underlying9 rfl (At.hit z45.put.put.put.put.put.put rfl).ev (fun _ h => ((RdFF.row (k := (okN L)) (hv.low low43) (by omega)).low h)) (by omega) ((flat_at encL_len zL _ m 0 (by omega) (by decide)).trans rfl) ?_)
            refine g_fresh z45.put.put.put.put.put.put.put.put ?_
            intro a58 z58 m58
            have s0_58 := m58 _ _ ((((((((s0_45.ne rfl).ne rfl).ne rfl).ne rfl).ne rfl).ne rfl).ne rfl).ne rfl)
            have s3_58 := m58 _ _ ((((((((s3_45.ne rfl).ne rfl).ne rfl).ne rfl).ne rfl).ne rfl).ne rfl).ne rfl)
            have s4_58 := m58 _ _ ((((((((s4_45.ne rfl).ne rfl).ne rfl).ne rfl).ne rfl).ne rfl).ne rfl).ne rfl)
            have s33_58 := m58 _ _ (At.hit z45.put.put.put.put.put.put.put rfl)
            clear m58
            refine gs rfl (q_streq false rfl s33_58.ev rfl (strF hne) ?_)
            refine gs rfl (q_move _ _ rfl (At.hit z58 rfl).ev ?_)
            refine gsg (wanted_is (j := 9) (d := 35) (b := false) rfl rfl (At.hit z58.put rfl) rfl) (q_move _ _ rfl ((s4_58.ne rfl).ne rfl).ev ?_)
            refine gsg (wanted_is (j := 9) (d := 35) (b := false) rfl rfl ((At.hit z58.put rfl).ne rfl) rfl) (q_gtr false rfl (At.hit z58.put.put rfl).ev rfl (decide_eq_false (by omega)) ?_)
            refine gsg (wanted_is (j := 9) (d := 35) (b := false) rfl rfl (((At.hit z58.put rfl).ne rfl).ne rfl) rfl) (q_move _ _ rfl (At.hit z58.put.put.put rfl).ev ?_)
            refine gsk (wanted_is (j := 12) (d := 38) (b := false) rfl rfl (At.hit z58.put.put.put.put rfl) rfl) ?_
            refine gsk (wanted_is (j := 12) (d := 38) (b := false) rfl rfl ((At.hit z58.put.put.put.put rfl).ne rfl) rfl) ?_
            refine gsk (wanted_is (j := 12) (d := 38) (b := false) rfl rfl (((At.hit z58.put.put.put.put rfl).ne rfl).ne rfl) rfl) ?_
            refine g_fresh z58.put.put.put.put.put.put.put.put ?_
            intro a59 z59 m59
            have s0_59 := m59 _ _ ((((((((s0_58.ne rfl).ne rfl).ne rfl).ne rfl).ne rfl).ne rfl).ne rfl).ne rfl)
            have s3_59 := m59 _ _ ((((((((s3_58.ne rfl).ne rfl).ne rfl).ne rfl).ne rfl).ne rfl).ne rfl).ne rfl)
            have s4_59 := m59 _ _ ((((((((s4_58.ne rfl).ne rfl).ne rfl).ne rfl).ne rfl).ne rfl).ne rfl).ne rfl)
            have s35_59 := m59 _ _ (((((((At.hit z58.put rfl).ne rfl).ne rfl).ne rfl).ne rfl).ne rfl).ne rfl)
            have s38_59 := m59 _ _ ((((At.hit z58.put.put.put.put rfl).ne rfl).ne rfl).ne rfl)
            have s41_59 := m59 _ _ (At.hit z58.put.put.put.put.put.put.put rfl)
            clear m59
            refine gsk (wanted_is (j := 12) (d := 38) (b := false) rfl rfl s38_59 rfl) ?_
            refine gsk (wanted_is (j := 12) (d := 38) (b := false) rfl rfl (s38_59.ne rfl) rfl) ?_
            refine gsk (wanted_is (j := 12) (d := 38) (b := false) rfl rfl ((s38_59.ne rfl).ne rfl) rfl) ?_
            refine gsk (wanted_is (j := 12) (d := 38) (b := false) rfl rfl (((s38_59.ne rfl).ne rfl).ne rfl) rfl) ?_
            refine gsk (wanted_is (j := 12) (d := 38) (b := false) rfl rfl ((((s38_59.ne rfl).ne rfl).ne rfl).ne rfl) rfl) ?_
            refine gsk (wanted_is (j := 12) (d := 38) (b := false) rfl rfl (((((s38_59.ne rfl).ne rfl).ne rfl).ne rfl).ne rfl) rfl) ?_
            refine gsk (wanted_is (j := 12) (d := 38) (b := false) rfl rfl ((((((s38_59.ne rfl).ne rfl).ne rfl).ne rfl).ne rfl).ne rfl) rfl) ?_
            refine gsk (wanted_is (j := 12) (d := 38) (b := false) rfl rfl (((((((s38_59.ne rfl).ne rfl).ne rfl).ne rfl).ne rfl).ne rfl).ne rfl) rfl) ?_
            refine g_fresh z59.put.put.put.put.put.put.put.put ?_
            intro a60 z60 m60
            have s0_60 := m60 _ _ ((((((((s0_59.ne rfl).ne rfl).ne rfl).ne rfl).ne rfl).ne rfl).ne rfl).ne rfl)
            have s3_60 := m60 _ _ ((((((((s3_59.ne rfl).ne rfl).ne rfl).ne rfl).ne rfl).ne rfl).ne rfl).ne rfl)
            have s4_60 := m60 _ _ ((((((((s4_59.ne rfl).ne rfl).ne rfl).ne rfl).ne rfl).ne rfl).ne rfl).ne rfl)
            have s35_60 := m60 _ _ ((((((((s35_59.ne rfl).ne rfl).ne rfl).ne rfl).ne rfl).ne rfl).ne rfl).ne rfl)
            have s38_60 := m60 _ _ ((((((((s38_59.ne rfl).ne rfl).ne rfl).ne rfl).ne rfl).ne rfl).ne rfl).ne rfl)
            have s46_60 := m60 _ _ ((((At.hit z59.put.put.put.put rfl).ne rfl).ne rfl).ne rfl)
            have s49_60 := m60 _ _ (At.hit z59.put.put.put.put.put.put.put rfl)
            clear m60
            refine gsk (wanted_is (j := 12) (d := 38) (b := false) rfl rfl s38_60 rfl) ?_
            refine gsk (wanted_is (j := 12) (d := 38) (b := false) rfl rfl (s38_60.ne rfl) rfl) ?_
            refine gsk (wanted_is (j := 12) (d := 38) (b := false) rfl rfl ((s38_60.ne rfl).ne rfl) rfl) ?_
            refine gsk (wanted_is (j := 12) (d := 38) (b := false) rfl rfl (((s38_60.ne rfl).ne rfl).ne rfl) rfl) ?_
            refine gsk (wanted_is (j := 12) (d := 38) (b := false) rfl rfl ((((s38_60.ne rfl).ne rfl).ne rfl).ne rfl) rfl) ?_
            refine gsk (wanted_is (j := 12) (d := 38) (b := false) rfl rfl (((((s38_60.ne rfl).ne rfl).ne rfl).ne rfl).ne rfl) rfl) ?_
            refine gsk (wanted_is (j := 12) (d := 38) (b := false) rfl rfl ((((((s38_60.ne rfl).ne rfl).ne rfl).ne rfl).ne rfl).ne rfl) rfl) ?_
            refine gsg (wanted_is (j := 9) (d := 35) (b := false) rfl rfl (((((((s35_60.ne rfl).ne rfl).ne rfl).ne rfl).ne rfl).ne rfl).ne rfl) rfl) (q_pick (b := false) (.bool false) rfl (((((((s38_60.ne rfl).ne rfl).ne rfl).ne rfl).ne rfl).ne rfl).ne rfl).ev rfl ?_)
            refine g_fresh z60.put.put.put.put.put.put.put.put ?_
            intro a61 z61 m61
            have s0_61 := m61 _ _ ((((((((s0_60.ne rfl).ne rfl).ne rfl).ne rfl).ne rfl).ne rfl).ne rfl).ne rfl)
            have s3_61 := m61 _ _ ((((((((s3_60.ne rfl).ne rfl).ne rfl).ne rfl).ne rfl).ne rfl).ne rfl).ne rfl)
            have s4_61 := m61 _ _ ((((((((s4_60.ne rfl).ne rfl).ne rfl).ne rfl).ne rfl).ne rfl).ne rfl).ne rfl)
            have s35_61 := m61 _ _ ((((((((s35_60.ne rfl).ne rfl).ne rfl).ne rfl).ne rfl).ne rfl).ne rfl).ne rfl)
            have s57_61 := m61 _ _ (At.hit z60.put.put.put.put.put.put.put rfl)
            clear m61
            refine gs rfl (q_pick (b := false) (.bool false) rfl s35_61.ev s57_61.ev ?_)
            refine gz ?_
            intro w62 h62
            have ov_62 := (hv.low low43).low h62
            have oy57_62 := (RdFF.row (k := (okN L)) (hv.low low43) (by omega)).low h62
            refine e_id ?_
            refine e_fresh z61.put ?_
            intro a63 z63 m63
            have s0_63 := m63 _ _ (s0_61.ne rfl)
            have s3_63 := m63 _ _ (s3_61.ne rfl)
            have s4_63 := m63 _ _ (s4_61.ne rfl)
            have s58_63 := m63 _ _ (At.hit z61 rfl)
            have low63 := (low43.trans h62)
            clear m63
            refine e_then ?_
            refine c_false s58_63 ?_
            refine wp_skip ?_
            refine e_in ?_
            refine e_then ?_
            refine c_region ?_
            refine l_q rfl (q_move _ _ rfl s4_63.ev ?_)
            refine l_q rfl (q_add (((m + 1 : Nat) : Int)) rfl (At.hit z63 rfl).ev rfl (i64_is (by omega) (by omega) (by omega)) ?_)
            refine l_q rfl (q_assign _ _ rfl (At.hit z63.put rfl).ev ?_)
            refine l_end ?_
            refine e_fresh z63.put.put.put ?_
            intro a64 z64 m64
            have s0_64 := m64 _ _ (((s0_63.ne rfl).ne rfl).ne rfl)
            have s3_64 := m64 _ _ (((s3_63.ne rfl).ne rfl).ne rfl)
            have s4_64 := m64 _ _ (At.hit z63.put.put rfl)
            clear m64
            exact ⟨z64, s0_64, s3_64, s4_64, low63⟩
        · intro a65 w65 h
          obtain ⟨z65, s0_65, s3_65, s4_65, low65⟩ := h
          clear low41 s0_42 s3_42 s4_42 z42
          have hon := rowOk_not (okN_stop hb36) hb38
          have hf60 := (few_all hb38).1
          refine c_seq ?_
          refine c_seq ?_
          refine c_region ?_
          refine l_q rfl (q_move _ _ rfl s4_65.ev ?_)
          refine l_q rfl (q_move _ _ rfl (s0_65.ne rfl).ev ?_)
          refine l_q rfl (q_move _ _ rfl ((s3_65.ne rfl).ne rfl).ev ?_)
          refine l_q rfl (q_idxF (j := (okN L)) rfl Try.underlying44 sz22 ((At.hit z65.put rfl).ne rfl).ev (hv.low low65).1 (At.hit z65.put.put rfl).ev (by omega) ?_)
          refine l_q rfl (q_ld1 (u := (vs.getD (okN L) nilS)) rfl Try.underlying22 rfl (At.hit z65.put.put.put rfl).ev (fun _ e => by rw [e]; exact (hv.low low65).1) (by omega) (RdFF.cell (hv.low low65) (by omega)) ?_)
          refine l_q rfl (q_lenF rfl rfl Try.underlying22 (At.hit z65.put.put.put.put rfl).ev (RdFF.row (k := (okN L)) (hv.low low65) (by omega)) ?_)
          refine l_q rfl (q_lss true rfl ((((((At.hit z65 rfl).ne rfl).ne rfl).ne rfl).ne rfl).ne rfl).ev (At.hit z65.put.put.put.put.put rfl).ev (decide_eq_true (by omega)) ?_)
          refine l_end ?_
          refine e_fresh z65.put.put.put.put.put.put.put ?_
          intro a67 z67 m67
          have s0_67 := m67 _ _ (((((((s0_65.ne rfl).ne rfl).ne rfl).ne rfl).ne rfl).ne rfl).ne rfl)
          have s3_67 := m67 _ _ (((((((s3_65.ne rfl).ne rfl).ne rfl).ne rfl).ne rfl).ne rfl).ne rfl)
          have s4_67 := m67 _ _ (((((((s4_65.ne rfl).ne rfl).ne rfl).ne rfl).ne rfl).ne rfl).ne rfl)
          have s23_67 := m67 _ _ (At.hit z65.put.put.put.put.put.put rfl)
          clear m67
          refine e_then ?_
          refine c_true s23_67 ?_
          refine wp_skip ?_
          refine e_then ?_
          refine c_seq ?_
          refine wp_block ?_
          refine c_seq ?_
          by_cases hb68 : ((L.getD (okN L) []).getD (ordN (L.getD (okN L) [])) zL).f0 = (⟨#[]⟩ : ByteArray)
          · skip
            refine region_lowg hm (by kernel_rfl) ?_
            refine gs rfl (q_move _ _ rfl s0_67.ev ?_)
            refine gs rfl (q_move _ _ rfl (s3_67.ne rfl).ev ?_)
            refine gs rfl (q_idxF (j := (okN L)) rfl Try.underlying44 sz22 ((At.hit z67 rfl).ne rfl).ev (hv.low low65).1 (At.hit z67.put rfl).ev (by omega) ?_)
            refine gs rfl (q_ld1 (u := (vs.getD (okN L) nilS)) rfl Try.underlying22 rfl (At.hit z67.put.put rfl).ev (fun _ h => ((hv.low low65).low h).1) (by omega) (RdFF.cell (hv.low low65) (by omega)) ?_)
            refine gs rfl (q_move _ _ rfl ((((s4_67.ne rfl).ne rfl).ne rfl).ne rfl).ev ?_)
            refine gs rfl (q_idxF (j := (ordN (L.getD (okN L) []))) rfl Try.underlying22 sz37 ((At.hit z67.put.put.put rfl).ne rfl).ev (RdFF.row (k := (okN L)) (hv.low low65) (by omega)) (At.hit z67.put.put.put.put rfl).ev (by omega) ?_)
            refine gs rfl (q_fldF 0 rfl fld37_0 (At.hit z67.put.put.put.put.put rfl).ev ((RdFF.row (k := (okN L)) (hv.low low65) (by omega)).form (by omega)) ?_)
            refine gs rfl (q_ld1 (u := .string (((L.getD (okN L) []).getD (ordN (L.getD (okN L) [])) zL).f0)) rfl Try.underlying9 rfl (At.hit z67.put.put.put.put.put.put rfl).ev (fun _ h => ((RdFF.row (k := (okN L)) (hv.low low65) (by omega)).low h)) (by omega) ((flat_at encL_len zL _ (ordN (L.getD (okN L) [])) 0 (by omega) (by decide)).trans rfl) ?_)
            refine g_fresh z67.put.put.put.put.put.put.put.put ?_
            intro a70 z70 m70
            have s0_70 := m70 _ _ ((((((((s0_67.ne rfl).ne rfl).ne rfl).ne rfl).ne rfl).ne rfl).ne rfl).ne rfl)
            have s3_70 := m70 _ _ ((((((((s3_67.ne rfl).ne rfl).ne rfl).ne rfl).ne rfl).ne rfl).ne rfl).ne rfl)
            have s4_70 := m70 _ _ ((((((((s4_67.ne rfl).ne rfl).ne rfl).ne rfl).ne rfl).ne rfl).ne rfl).ne rfl)
            have s33_70 := m70 _ _ (At.hit z67.put.put.put.put.put.put.put rfl)
            clear m70
            refine gs rfl (q_streq true rfl s33_70.ev rfl (strT hb68) ?_)
            refine gs rfl (q_move _ _ rfl (At.hit z70 rfl).ev ?_)
            refine gsk (wanted_is (j := 9) (d := 35) (b := true) rfl rfl (At.hit z70.put rfl) rfl) ?_
            refine gsk (wanted_is (j := 9) (d := 35) (b := true) rfl rfl ((At.hit z70.put rfl).ne rfl) rfl) ?_
            refine gsk (wanted_is (j := 9) (d := 35) (b := true) rfl rfl (((At.hit z70.put rfl).ne rfl).ne rfl) rfl) ?_
            refine gsk (wanted_un (j := 12) (d := 38) rfl rfl (At.hit z70.put.put.put.put rfl)) ?_
            refine gsk (wanted_un (j := 12) (d := 38) rfl rfl ((At.hit z70.put.put.put.put rfl).ne rfl)) ?_
            refine gsk (wanted_un (j := 12) (d := 38) rfl rfl (((At.hit z70.put.put.put.put rfl).ne rfl).ne rfl)) ?_
            refine g_fresh z70.put.put.put.put.put.put.put.put ?_
            intro a71 z71 m71
            have s0_71 := m71 _ _ ((((((((s0_70.ne rfl).ne rfl).ne rfl).ne rfl).ne rfl).ne rfl).ne rfl).ne rfl)
            have s3_71 := m71 _ _ ((((((((s3_70.ne rfl).ne rfl).ne rfl).ne rfl).ne rfl).ne rfl).ne rfl).ne rfl)
            have s4_71 := m71 _ _ ((((((((s4_70.ne rfl).ne rfl).ne rfl).ne rfl).ne rfl).ne rfl).ne rfl).ne rfl)
            have s35_71 := m71 _ _ (((((((At.hit z70.put rfl).ne rfl).ne rfl).ne rfl).ne rfl).ne rfl).ne rfl)
            have s38_71 := m71 _ _ ((((At.hit z70.put.put.put.put rfl).ne rfl).ne rfl).ne rfl)
            have s41_71 := m71 _ _ (At.hit z70.put.put.put.put.put.put.put rfl)
            clear m71
            refine gsk (wanted_un (j := 12) (d := 38) rfl rfl s38_71) ?_
            refine gsk (wanted_un (j := 12) (d := 38) rfl rfl (s38_71.ne rfl)) ?_
            refine gsk (wanted_un (j := 12) (d := 38) rfl rfl ((s38_71.ne rfl).ne rfl)) ?_
            refine gsk (wanted_un (j := 12) (d := 38) rfl rfl (((s38_71.ne rfl).ne rfl).ne rfl)) ?_
            refine gsk (wanted_un (j := 12) (d := 38) rfl rfl ((((s38_71.ne rfl).ne rfl).ne rfl).ne rfl)) ?_
            refine gsk (wanted_un (j := 12) (d := 38) rfl rfl (((((s38_71.ne rfl).ne rfl).ne rfl).ne rfl).ne rfl)) ?_
            refine gsk (wanted_un (j := 12) (d := 38) rfl rfl ((((((s38_71.ne rfl).ne rfl).ne rfl).ne rfl).ne rfl).ne rfl)) ?_
            refine gsk (wanted_un (j := 12) (d := 38) rfl rfl (((((((s38_71.ne rfl).ne rfl).ne rfl).ne rfl).ne rfl).ne rfl).ne rfl)) ?_
            refine g_fresh z71.put.put.put.put.put.put.put.put ?_
            intro a72 z72 m72
            have s3_72 := m72 _ _ ((((((((s3_71.ne rfl).ne rfl).ne rfl).ne rfl).ne rfl).ne rfl).ne rfl).ne rfl)
            have s4_72 := m72 _ _ ((((((((s4_71.ne rfl).ne rfl).ne rfl).ne rfl).ne rfl).ne rfl).ne rfl).ne rfl)
            have s35_72 := m72 _ _ ((((((((s35_71.ne rfl).ne rfl).ne rfl).ne rfl).ne rfl).ne rfl).ne rfl).ne rfl)
            have s38_72 := m72 _ _ ((((((((s38_71.ne rfl).ne rfl).ne rfl).ne rfl).ne rfl).ne rfl).ne rfl).ne rfl)
            have s46_72 := m72 _ _ ((((At.hit z71.put.put.put.put rfl).ne rfl).ne rfl).ne rfl)
            have s49_72 := m72 _ _ (At.hit z71.put.put.put.put.put.put.put rfl)
            clear m72
            refine gsk (wanted_un (j := 12) (d := 38) rfl rfl s38_72) ?_
            refine gsk (wanted_un (j := 12) (d := 38) rfl rfl (s38_72.ne rfl)) ?_
            refine gsk (wanted_un (j := 12) (d := 38) rfl rfl ((s38_72.ne rfl).ne rfl)) ?_
            refine gsk (wanted_un (j := 12) (d := 38) rfl rfl (((s38_72.ne rfl).ne rfl).ne rfl)) ?_
            refine gsk (wanted_un (j := 12) (d := 38) rfl rfl ((((s38_72.ne rfl).ne rfl).ne rfl).ne rfl)) ?_
            refine gsk (wanted_un (j := 12) (d := 38) rfl rfl (((((s38_72.ne rfl).ne rfl).ne rfl).ne rfl).ne rfl)) ?_
            refine gsk (wanted_un (j := 12) (d := 38) rfl rfl ((((((s38_72.ne rfl).ne rfl).ne rfl).ne rfl).ne rfl).ne rfl)) ?_
            refine gsk (wanted_is (j := 9) (d := 35) (b := true) rfl rfl (((((((s35_72.ne rfl).ne rfl).ne rfl).ne rfl).ne rfl).ne rfl).ne rfl) rfl) ?_
            refine g_fresh z72.put.put.put.put.put.put.put.put ?_
            intro a73 z73 m73
            have s3_73 := m73 _ _ ((((((((s3_72.ne rfl).ne rfl).ne rfl).ne rfl).ne rfl).ne rfl).ne rfl).ne rfl)
            have s4_73 := m73 _ _ ((((((((s4_72.ne rfl).ne rfl).ne rfl).ne rfl).ne rfl).ne rfl).ne rfl).ne rfl)
            have s35_73 := m73 _ _ ((((((((s35_72.ne rfl).ne rfl).ne rfl).ne rfl).ne rfl).ne rfl).ne rfl).ne rfl)
            have s57_73 := m73 _ _ (At.hit z72.put.put.put.put.put.put.put rfl)
            clear m73
            refine gs rfl (q_pick (b := true) (.bool true) rfl s35_73.ev rfl ?_)
            refine gz ?_
            intro w74 h74
            have ov_74 := (hv.low low65).low h74
            have oy69_74 := (RdFF.row (k := (okN L)) (hv.low low65) (by omega)).low h74
            refine e_id ?_
            refine e_fresh z73.put ?_
            intro a75 z75 m75
            have s3_75 := m75 _ _ (s3_73.ne rfl)
            have s4_75 := m75 _ _ (s4_73.ne rfl)
            have s58_75 := m75 _ _ (At.hit z73 rfl)
            have low75 := (low65.trans h74)
            clear m75
            refine e_then ?_
            refine c_true s58_75 ?_
            refine c_seq ?_
            refine c_region ?_
            refine l_q rfl (q_assign _ _ rfl rfl ?_)
            refine l_end ?_
            refine e_fresh z75.put ?_
            intro a76 z76 m76
            have s2_76 := m76 _ _ (At.hit z75 rfl)
            clear m76
            refine e_then ?_
            refine wp_ret ?_
            refine ret_in ?_
            refine ret_then ?_
            refine ret_then ?_
            refine ret_in ?_
            refine ret_in ?_
            refine ret_then ?_
            refine ret_then ?_
            refine ret_in ?_
            refine ret_then ?_
            refine r_tmp rfl z76.defers s2_76 ?_
            exact ⟨by unfold mayB; rw [decide_eq_false (by omega)]; rfl, low75⟩
          · skip
            by_cases hb77 : 0 < (ordN (L.getD (okN L) []))
            · skip
              by_cases hb78 : ¬ lessB ((L.getD (okN L) []).getD ((ordN (L.getD (okN L) [])) - 1) zL).f0 ((L.getD (okN L) []).getD (ordN (L.getD (okN L) [])) zL).f0 = true
              · skip
                refine region_lowg hm (by kernel_rfl) ?_
                refine gs rfl (q_move _ _ rfl s0_67.ev ?_)
                refine gs rfl (q_move _ _ rfl (s3_67.ne rfl).ev ?_)
                refine gs rfl (q_idxF (j := (okN L)) rfl Try.underlying44 sz22 ((At.hit z67 rfl).ne rfl).ev (hv.low low65).1 (At.hit z67.put rfl).ev (by omega) ?_)
                refine gs rfl (q_ld1 (u := (vs.getD (okN L) nilS)) rfl Try.underlying22 rfl (At.hit z67.put.put rfl).ev (fun _ h => ((hv.low low65).low h).1) (by omega) (RdFF.cell (hv.low low65) (by omega)) ?_)
                refine gs rfl (q_move _ _ rfl ((((s4_67.ne rfl).ne rfl).ne rfl).ne rfl).ev ?_)
                refine gs rfl (q_idxF (j := (ordN (L.getD (okN L) []))) rfl Try.underlying22 sz37 ((At.hit z67.put.put.put rfl).ne rfl).ev (RdFF.row (k := (okN L)) (hv.low low65) (by omega)) (At.hit z67.put.put.put.put rfl).ev (by omega) ?_)
                refine gs rfl (q_fldF 0 rfl fld37_0 (At.hit z67.put.put.put.put.put rfl).ev ((RdFF.row (k := (okN L)) (hv.low low65) (by omega)).form (by omega)) ?_)
                refine gs rfl (q_ld1 (u := .string (((L.getD (okN L) []).getD (ordN (L.getD (okN L) [])) zL).f0)) rfl Try.underlying9 rfl (At.hit z67.put.put.put.put.put.put rfl).ev (fun _ h => ((RdFF.row (k := (okN L)) (hv.low low65) (by omega)).low h)) (by omega) ((flat_at encL_len zL _ (ordN (L.getD (okN L) [])) 0 (by omega) (by decide)).trans rfl) ?_)
                refine g_fresh z67.put.put.put.put.put.put.put.put ?_
                intro a80 z80 m80
                have s0_80 := m80 _ _ ((((((((s0_67.ne rfl).ne rfl).ne rfl).ne rfl).ne rfl).ne rfl).ne rfl).ne rfl)
                have s3_80 := m80 _ _ ((((((((s3_67.ne rfl).ne rfl).ne rfl).ne rfl).ne rfl).ne rfl).ne rfl).ne rfl)
                have s4_80 := m80 _ _ ((((((((s4_67.ne rfl).ne rfl).ne rfl).ne rfl).ne rfl).ne rfl).ne rfl).ne rfl)
                have s33_80 := m80 _ _ (At.hit z67.put.put.put.put.put.put.put rfl)
                clear m80
                refine gs rfl (q_streq false rfl s33_80.ev rfl (strF hb68) ?_)
                refine gs rfl (q_move _ _ rfl (At.hit z80 rfl).ev ?_)
                refine gsg (wanted_is (j := 9) (d := 35) (b := false) rfl rfl (At.hit z80.put rfl) rfl) (q_move _ _ rfl ((s4_80.ne rfl).ne rfl).ev ?_)
                refine gsg (wanted_is (j := 9) (d := 35) (b := false) rfl rfl ((At.hit z80.put rfl).ne rfl) rfl) (q_gtr true rfl (At.hit z80.put.put rfl).ev rfl (decide_eq_true (by omega)) ?_)
                refine gsg (wanted_is (j := 9) (d := 35) (b := false) rfl rfl (((At.hit z80.put rfl).ne rfl).ne rfl) rfl) (q_move _ _ rfl (At.hit z80.put.put.put rfl).ev ?_)
                refine gsg (wanted_is (j := 12) (d := 38) (b := true) rfl rfl (At.hit z80.put.put.put.put rfl) rfl) (q_move _ _ rfl (((((s0_80.ne rfl).ne rfl).ne rfl).ne rfl).ne rfl).ev ?_)
                refine gsg (wanted_is (j := 12) (d := 38) (b := true) rfl rfl ((At.hit z80.put.put.put.put rfl).ne rfl) rfl) (q_move _ _ rfl ((((((s3_80.ne rfl).ne rfl).ne rfl).ne rfl).ne rfl).ne rfl).ev ?_)
                refine gsg (wanted_is (j := 12) (d := 38) (b := true) rfl rfl (((At.hit z80.put.put.put.put rfl).ne rfl).ne rfl) rfl) (q_idxF (j := (okN L)) rfl Try.underlying44 sz22 ((At.hit z80.put.put.put.put.put rfl).ne rfl).ev (hv.low low65).1 (At.hit z80.put.put.put.put.put.put rfl).ev (by omega) ?_)
                refine g_fresh z80.put.put.put.put.put.put.put.put ?_
                intro a81 z81 m81
                have s0_81 := m81 _ _ ((((((((s0_80.ne rfl).ne rfl).ne rfl).ne rfl).ne rfl).ne rfl).ne rfl).ne rfl)
                have s3_81 := m81 _ _ ((((((((s3_80.ne rfl).ne rfl).ne rfl).ne rfl).ne rfl).ne rfl).ne rfl).ne rfl)
                have s4_81 := m81 _ _ ((((((((s4_80.ne rfl).ne rfl).ne rfl).ne rfl).ne rfl).ne rfl).ne rfl).ne rfl)
                have s35_81 := m81 _ _ (((((((At.hit z80.put rfl).ne rfl).ne rfl).ne rfl).ne rfl).ne rfl).ne rfl)
                have s38_81 := m81 _ _ ((((At.hit z80.put.put.put.put rfl).ne rfl).ne rfl).ne rfl)
                have s41_81 := m81 _ _ (At.hit z80.put.put.put.put.put.put.put rfl)
                clear m81
                refine gsg (wanted_is (j := 12) (d := 38) (b := true) rfl rfl s38_81 rfl) (q_ld1 (u := (vs.getD (okN L) nilS)) rfl Try.underlying22 rfl s41_81.ev (fun _ h => ((hv.low low65).low h).1) (by omega) (RdFF.cell (hv.low low65) (by omega)) ?_)
                refine gsg (wanted_is (j := 12) (d := 38) (b := true) rfl rfl (s38_81.ne rfl) rfl) (q_move _ _ rfl (s4_81.ne rfl).ev ?_)
                refine gsg (wanted_is (j := 12) (d := 38) (b := true) rfl rfl ((s38_81.ne rfl).ne rfl) rfl) (q_idxF (j := (ordN (L.getD (okN L) []))) rfl Try.underlying22 sz37 ((At.hit z81 rfl).ne rfl).ev (RdFF.row (k := (okN L)) (hv.low low65) (by omega)) (At.hit z81.put rfl).ev (by omega) ?_)
                refine gsg (wanted_is (j := 12) (d := 38) (b := true) rfl rfl (((s38_81.ne rfl).ne rfl).ne rfl) rfl) (q_fldF 0 rfl fld37_0 (At.hit z81.put.put rfl).ev ((RdFF.row (k := (okN L)) (hv.low low65) (by omega)).form (by omega)) ?_)
                refine gsg (wanted_is (j := 12) (d := 38) (b := true) rfl rfl ((((s38_81.ne rfl).ne rfl).ne rfl).ne rfl) rfl) (q_ld1 (u := .string (((L.getD (okN L) []).getD (ordN (L.getD (okN L) [])) zL).f0)) rfl Try.underlying9 rfl (At.hit z81.put.put.put rfl).ev (fun _ h => ((RdFF.row (k := (okN L)) (hv.low low65) (by omega)).low h)) (by omega) ((flat_at encL_len zL _ (ordN (L.getD (okN L) [])) 0 (by omega) (by decide)).trans rfl) ?_)
                refine gsg (wanted_is (j := 12) (d := 38) (b := true) rfl rfl (((((s38_81.ne rfl).ne rfl).ne rfl).ne rfl).ne rfl) rfl) (q_move _ _ rfl (((((s0_81.ne rfl).ne rfl).ne rfl).ne rfl).ne rfl).ev ?_)
                refine gsg (wanted_is (j := 12) (d := 38) (b := true) rfl rfl ((((((s38_81.ne rfl).ne rfl).ne rfl).ne rfl).ne rfl).ne rfl) rfl) (q_move _ _ rfl ((((((s3_81.ne rfl).ne rfl).ne rfl).ne rfl).ne rfl).ne rfl).ev ?_)
                refine gsg (wanted_is (j := 12) (d := 38) (b := true) rfl rfl (((((((s38_81.ne rfl).ne rfl).ne rfl).ne rfl).ne rfl).ne rfl).ne rfl) rfl) (q_idxF (j := (okN L)) rfl Try.underlying44 sz22 ((At.hit z81.put.put.put.put.put rfl).ne rfl).ev (hv.low low65).1 (At.hit z81.put.put.put.put.put.put rfl).ev (by omega) ?_)
                refine g_fresh z81.put.put.put.put.put.put.put.put ?_
                intro a83 z83 m83
                have s3_83 := m83 _ _ ((((((((s3_81.ne rfl).ne rfl).ne rfl).ne rfl).ne rfl).ne rfl).ne rfl).ne rfl)
                have s4_83 := m83 _ _ ((((((((s4_81.ne rfl).ne rfl).ne rfl).ne rfl).ne rfl).ne rfl).ne rfl).ne rfl)
                have s35_83 := m83 _ _ ((((((((s35_81.ne rfl).ne rfl).ne rfl).ne rfl).ne rfl).ne rfl).ne rfl).ne rfl)
                have s38_83 := m83 _ _ ((((((((s38_81.ne rfl).ne rfl).ne rfl).ne rfl).ne rfl).ne rfl).ne rfl).ne rfl)
                have s46_83 := m83 _ _ ((((At.hit z81.put.put.put.put rfl).ne rfl).ne rfl).ne rfl)
                have s49_83 := m83 _ _ (At.hit z81.put.put.put.put.put.put.put rfl)
                clear m83
                refine gsg (wanted_is (j := 12) (d := 38) (b := true) rfl rfl s38_83 rfl) (q_ld1 (u := (vs.getD (okN L) nilS)) rfl Try.underlying22 rfl s49_83.ev (fun _ h => ((hv.low low65).low h).1) (by omega) (RdFF.cell (hv.low low65) (by omega)) ?_)
                refine gsg (wanted_is (j := 12) (d := 38) (b := true) rfl rfl (s38_83.ne rfl) rfl) (q_move _ _ rfl (s4_83.ne rfl).ev ?_)
                refine gsg (wanted_is (j := 12) (d := 38) (b := true) rfl rfl ((s38_83.ne rfl).ne rfl) rfl) (q_sub ((((ordN (L.getD (okN L) []) : Nat) : Int) - 1)) rfl (At.hit z83.put rfl).ev rfl (i64_is (by omega) (by omega) (by omega)) ?_)
                refine gsg (wanted_is (j := 12) (d := 38) (b := true) rfl rfl (((s38_83.ne rfl).ne rfl).ne rfl) rfl) (q_idxF (j := (ordN (L.getD (okN L) [])) - 1) rfl Try.underlying22 sz37 (((At.hit z83 rfl).ne rfl).ne rfl).ev (RdFF.row (k := (okN L)) (hv.low low65) (by omega)) ((At.hit z83.put.put rfl).same (congrArg (Value.int .i64) (show ((((ordN (L.getD (okN L) []) : Nat) : Int) - 1) : Int) = (((ordN (L.getD (okN L) [])) - 1 : Nat) : Int) by omega))).ev (by omega) ?_)
                refine gsg (wanted_is (j := 12) (d := 38) (b := true) rfl rfl ((((s38_83.ne rfl).ne rfl).ne rfl).ne rfl) rfl) (q_fldF 0 rfl fld37_0 (At.hit z83.put.put.put rfl).ev ((RdFF.row (k := (okN L)) (hv.low low65) (by omega)).form (by omega)) ?_)
                refine gsg (wanted_is (j := 12) (d := 38) (b := true) rfl rfl (((((s38_83.ne rfl).ne rfl).ne rfl).ne rfl).ne rfl) rfl) (q_ld1 (u := .string (((L.getD (okN L) []).getD ((ordN (L.getD (okN L) [])) - 1) zL).f0)) rfl Try.underlying9 rfl (At.hit z83.put.put.put.put rfl).ev (fun _ h => ((RdFF.row (k := (okN L)) (hv.low low65) (by omega)).low h)) (by omega) ((flat_at encL_len zL _ ((ordN (L.getD (okN L) [])) - 1) 0 (by omega) (by decide)).trans rfl) ?_)
                refine gsg (wanted_is (j := 12) (d := 38) (b := true) rfl rfl ((((((s38_83.ne rfl).ne rfl).ne rfl).ne rfl).ne rfl).ne rfl) rfl) (q_strleq true rfl ((((((s46_83.ne rfl).ne rfl).ne rfl).ne rfl).ne rfl).ne rfl).ev (At.hit z83.put.put.put.put.put rfl).ev (leT hb78) ?_)
                refine gsg (wanted_is (j := 9) (d := 35) (b := false) rfl rfl (((((((s35_83.ne rfl).ne rfl).ne rfl).ne rfl).ne rfl).ne rfl).ne rfl) rfl) (q_pick (b := true) (.bool true) rfl (((((((s38_83.ne rfl).ne rfl).ne rfl).ne rfl).ne rfl).ne rfl).ne rfl).ev (At.hit z83.put.put.put.put.put.put rfl).ev ?_)
                refine g_fresh z83.put.put.put.put.put.put.put.put ?_
                intro a85 z85 m85
                have s3_85 := m85 _ _ ((((((((s3_83.ne rfl).ne rfl).ne rfl).ne rfl).ne rfl).ne rfl).ne rfl).ne rfl)
                have s4_85 := m85 _ _ ((((((((s4_83.ne rfl).ne rfl).ne rfl).ne rfl).ne rfl).ne rfl).ne rfl).ne rfl)
                have s35_85 := m85 _ _ ((((((((s35_83.ne rfl).ne rfl).ne rfl).ne rfl).ne rfl).ne rfl).ne rfl).ne rfl)
                have s57_85 := m85 _ _ (At.hit z83.put.put.put.put.put.put.put rfl)
                clear m85
                refine gs rfl (q_pick (b := false) (.bool true) rfl s35_85.ev s57_85.ev ?_)
                refine gz ?_
                intro w86 h86
                have ov_86 := (hv.low low65).low h86
                have oy79_86 := (RdFF.row (k := (okN L)) (hv.low low65) (by omega)).low h86
                have oy82_86 := (RdFF.row (k := (okN L)) (hv.low low65) (by omega)).low h86
                have oy84_86 := (RdFF.row (k := (okN L)) (hv.low low65) (by omega)).low h86
                refine e_id ?_
                refine e_fresh z85.put ?_
                intro a87 z87 m87
                have s3_87 := m87 _ _ (s3_85.ne rfl)
                have s4_87 := m87 _ _ (s4_85.ne rfl)
                have s58_87 := m87 _ _ (At.hit z85 rfl)
                have low87 := (low65.trans h86)
                clear m87
                refine e_then ?_
                refine c_true s58_87 ?_
                refine c_seq ?_
                refine c_region ?_
                refine l_q rfl (q_assign _ _ rfl rfl ?_)
                refine l_end ?_
                refine e_fresh z87.put ?_
                intro a88 z88 m88
                have s2_88 := m88 _ _ (At.hit z87 rfl)
                clear m88
                refine e_then ?_
                refine wp_ret ?_
                refine ret_in ?_
                refine ret_then ?_
                refine ret_then ?_
                refine ret_in ?_
                refine ret_in ?_
                refine ret_then ?_
                refine ret_then ?_
                refine ret_in ?_
                refine ret_then ?_
                refine r_tmp rfl z88.defers s2_88 ?_
                exact ⟨by unfold mayB; rw [decide_eq_false (by omega)]; rfl, low87⟩
              · skip
                refine region_lowg hm (by kernel_rfl) ?_
                refine gs rfl (q_move _ _ rfl s0_67.ev ?_)
                refine gs rfl (q_move _ _ rfl (s3_67.ne rfl).ev ?_)
                refine gs rfl (q_idxF (j := (okN L)) rfl Try.underlying44 sz22 ((At.hit z67 rfl).ne rfl).ev (hv.low low65).1 (At.hit z67.put rfl).ev (by omega) ?_)
                refine gs rfl (q_ld1 (u := (vs.getD (okN L) nilS)) rfl Try.underlying22 rfl (At.hit z67.put.put rfl).ev (fun _ h => ((hv.low low65).low h).1) (by omega) (RdFF.cell (hv.low low65) (by omega)) ?_)
                refine gs rfl (q_move _ _ rfl ((((s4_67.ne rfl).ne rfl).ne rfl).ne rfl).ev ?_)
                refine gs rfl (q_idxF (j := (ordN (L.getD (okN L) []))) rfl Try.underlying22 sz37 ((At.hit z67.put.put.put rfl).ne rfl).ev (RdFF.row (k := (okN L)) (hv.low low65) (by omega)) (At.hit z67.put.put.put.put rfl).ev (by omega) ?_)
                refine gs rfl (q_fldF 0 rfl fld37_0 (At.hit z67.put.put.put.put.put rfl).ev ((RdFF.row (k := (okN L)) (hv.low low65) (by omega)).form (by omega)) ?_)
                refine gs rfl (q_ld1 (u := .string (((L.getD (okN L) []).getD (ordN (L.getD (okN L) [])) zL).f0)) rfl Try.underlying9 rfl (At.hit z67.put.put.put.put.put.put rfl).ev (fun _ h => ((RdFF.row (k := (okN L)) (hv.low low65) (by omega)).low h)) (by omega) ((flat_at encL_len zL _ (ordN (L.getD (okN L) [])) 0 (by omega) (by decide)).trans rfl) ?_)
                refine g_fresh z67.put.put.put.put.put.put.put.put ?_
                intro a90 z90 m90
                have s0_90 := m90 _ _ ((((((((s0_67.ne rfl).ne rfl).ne rfl).ne rfl).ne rfl).ne rfl).ne rfl).ne rfl)
                have s3_90 := m90 _ _ ((((((((s3_67.ne rfl).ne rfl).ne rfl).ne rfl).ne rfl).ne rfl).ne rfl).ne rfl)
                have s4_90 := m90 _ _ ((((((((s4_67.ne rfl).ne rfl).ne rfl).ne rfl).ne rfl).ne rfl).ne rfl).ne rfl)
                have s33_90 := m90 _ _ (At.hit z67.put.put.put.put.put.put.put rfl)
                clear m90
                refine gs rfl (q_streq false rfl s33_90.ev rfl (strF hb68) ?_)
                refine gs rfl (q_move _ _ rfl (At.hit z90 rfl).ev ?_)
                refine gsg (wanted_is (j := 9) (d := 35) (b := false) rfl rfl (At.hit z90.put rfl) rfl) (q_move _ _ rfl ((s4_90.ne rfl).ne rfl).ev ?_)
                refine gsg (wanted_is (j := 9) (d := 35) (b := false) rfl rfl ((At.hit z90.put rfl).ne rfl) rfl) (q_gtr true rfl (At.hit z90.put.put rfl).ev rfl (decide_eq_true (by omega)) ?_)
                refine gsg (wanted_is (j := 9) (d := 35) (b := false) rfl rfl (((At.hit z90.put rfl).ne rfl).ne rfl) rfl) (q_move _ _ rfl (At.hit z90.put.put.put rfl).ev ?_)
                refine gsg (wanted_is (j := 12) (d := 38) (b := true) rfl rfl (At.hit z90.put.put.put.put rfl) rfl) (q_move _ _ rfl (((((s0_90.ne rfl).ne rfl).ne rfl).ne rfl).ne rfl).ev ?_)
                refine gsg (wanted_is (j := 12) (d := 38) (b := true) rfl rfl ((At.hit z90.put.put.put.put rfl).ne rfl) rfl) (q_move _ _ rfl ((((((s3_90.ne rfl).ne rfl).ne rfl).ne rfl).ne rfl).ne rfl).ev ?_)
                refine gsg (wanted_is (j := 12) (d := 38) (b := true) rfl rfl (((At.hit z90.put.put.put.put rfl).ne rfl).ne rfl) rfl) (q_idxF (j := (okN L)) rfl Try.underlying44 sz22 ((At.hit z90.put.put.put.put.put rfl).ne rfl).ev (hv.low low65).1 (At.hit z90.put.put.put.put.put.put rfl).ev (by omega) ?_)
                refine g_fresh z90.put.put.put.put.put.put.put.put ?_
                intro a91 z91 m91
                have s0_91 := m91 _ _ ((((((((s0_90.ne rfl).ne rfl).ne rfl).ne rfl).ne rfl).ne rfl).ne rfl).ne rfl)
                have s3_91 := m91 _ _ ((((((((s3_90.ne rfl).ne rfl).ne rfl).ne rfl).ne rfl).ne rfl).ne rfl).ne rfl)
                have s4_91 := m91 _ _ ((((((((s4_90.ne rfl).ne rfl).ne rfl).ne rfl).ne rfl).ne rfl).ne rfl).ne rfl)
                have s35_91 := m91 _ _ (((((((At.hit z90.put rfl).ne rfl).ne rfl).ne rfl).ne rfl).ne rfl).ne rfl)
                have s38_91 := m91 _ _ ((((At.hit z90.put.put.put.put rfl).ne rfl).ne rfl).ne rfl)
                have s41_91 := m91 _ _ (At.hit z90.put.put.put.put.put.put.put rfl)
                clear m91
                refine gsg (wanted_is (j := 12) (d := 38) (b := true) rfl rfl s38_91 rfl) (q_ld1 (u := (vs.getD (okN L) nilS)) rfl Try.underlying22 rfl s41_91.ev (fun _ h => ((hv.low low65).low h).1) (by omega) (RdFF.cell (hv.low low65) (by omega)) ?_)
                refine gsg (wanted_is (j := 12) (d := 38) (b := true) rfl rfl (s38_91.ne rfl) rfl) (q_move _ _ rfl (s4_91.ne rfl).ev ?_)
                refine gsg (wanted_is (j := 12) (d := 38) (b := true) rfl rfl ((s38_91.ne rfl).ne rfl) rfl) (q_idxF (j := (ordN (L.getD (okN L) []))) rfl Try.underlying22 sz37 ((At.hit z91 rfl).ne rfl).ev (RdFF.row (k := (okN L)) (hv.low low65) (by omega)) (At.hit z91.put rfl).ev (by omega) ?_)
                refine gsg (wanted_is (j := 12) (d := 38) (b := true) rfl rfl (((s38_91.ne rfl).ne rfl).ne rfl) rfl) (q_fldF 0 rfl fld37_0 (At.hit z91.put.put rfl).ev ((RdFF.row (k := (okN L)) (hv.low low65) (by omega)).form (by omega)) ?_)
                refine gsg (wanted_is (j := 12) (d := 38) (b := true) rfl rfl ((((s38_91.ne rfl).ne rfl).ne rfl).ne rfl) rfl) (q_ld1 (u := .string (((L.getD (okN L) []).getD (ordN (L.getD (okN L) [])) zL).f0)) rfl Try.underlying9 rfl (At.hit z91.put.put.put rfl).ev (fun _ h => ((RdFF.row (k := (okN L)) (hv.low low65) (by omega)).low h)) (by omega) ((flat_at encL_len zL _ (ordN (L.getD (okN L) [])) 0 (by omega) (by decide)).trans rfl) ?_)
                refine gsg (wanted_is (j := 12) (d := 38) (b := true) rfl rfl (((((s38_91.ne rfl).ne rfl).ne rfl).ne rfl).ne rfl) rfl) (q_move _ _ rfl (((((s0_91.ne rfl).ne rfl).ne rfl).ne rfl).ne rfl).ev ?_)
                refine gsg (wanted_is (j := 12) (d := 38) (b := true) rfl rfl ((((((s38_91.ne rfl).ne rfl).ne rfl).ne rfl).ne rfl).ne rfl) rfl) (q_move _ _ rfl ((((((s3_91.ne rfl).ne rfl).ne rfl).ne rfl).ne rfl).ne rfl).ev ?_)
                refine gsg (wanted_is (j := 12) (d := 38) (b := true) rfl rfl (((((((s38_91.ne rfl).ne rfl).ne rfl).ne rfl).ne rfl).ne rfl).ne rfl) rfl) (q_idxF (j := (okN L)) rfl Try.underlying44 sz22 ((At.hit z91.put.put.put.put.put rfl).ne rfl).ev (hv.low low65).1 (At.hit z91.put.put.put.put.put.put rfl).ev (by omega) ?_)
                refine g_fresh z91.put.put.put.put.put.put.put.put ?_
                intro a93 z93 m93
                have s3_93 := m93 _ _ ((((((((s3_91.ne rfl).ne rfl).ne rfl).ne rfl).ne rfl).ne rfl).ne rfl).ne rfl)
                have s4_93 := m93 _ _ ((((((((s4_91.ne rfl).ne rfl).ne rfl).ne rfl).ne rfl).ne rfl).ne rfl).ne rfl)
                have s35_93 := m93 _ _ ((((((((s35_91.ne rfl).ne rfl).ne rfl).ne rfl).ne rfl).ne rfl).ne rfl).ne rfl)
                have s38_93 := m93 _ _ ((((((((s38_91.ne rfl).ne rfl).ne rfl).ne rfl).ne rfl).ne rfl).ne rfl).ne rfl)
                have s46_93 := m93 _ _ ((((At.hit z91.put.put.put.put rfl).ne rfl).ne rfl).ne rfl)
                have s49_93 := m93 _ _ (At.hit z91.put.put.put.put.put.put.put rfl)
                clear m93
                refine gsg (wanted_is (j := 12) (d := 38) (b := true) rfl rfl s38_93 rfl) (q_ld1 (u := (vs.getD (okN L) nilS)) rfl Try.underlying22 rfl s49_93.ev (fun _ h => ((hv.low low65).low h).1) (by omega) (RdFF.cell (hv.low low65) (by omega)) ?_)
                refine gsg (wanted_is (j := 12) (d := 38) (b := true) rfl rfl (s38_93.ne rfl) rfl) (q_move _ _ rfl (s4_93.ne rfl).ev ?_)
                refine gsg (wanted_is (j := 12) (d := 38) (b := true) rfl rfl ((s38_93.ne rfl).ne rfl) rfl) (q_sub ((((ordN (L.getD (okN L) []) : Nat) : Int) - 1)) rfl (At.hit z93.put rfl).ev rfl (i64_is (by omega) (by omega) (by omega)) ?_)
                refine gsg (wanted_is (j := 12) (d := 38) (b := true) rfl rfl (((s38_93.ne rfl).ne rfl).ne rfl) rfl) (q_idxF (j := (ordN (L.getD (okN L) [])) - 1) rfl Try.underlying22 sz37 (((At.hit z93 rfl).ne rfl).ne rfl).ev (RdFF.row (k := (okN L)) (hv.low low65) (by omega)) ((At.hit z93.put.put rfl).same (congrArg (Value.int .i64) (show ((((ordN (L.getD (okN L) []) : Nat) : Int) - 1) : Int) = (((ordN (L.getD (okN L) [])) - 1 : Nat) : Int) by omega))).ev (by omega) ?_)
                refine gsg (wanted_is (j := 12) (d := 38) (b := true) rfl rfl ((((s38_93.ne rfl).ne rfl).ne rfl).ne rfl) rfl) (q_fldF 0 rfl fld37_0 (At.hit z93.put.put.put rfl).ev ((RdFF.row (k := (okN L)) (hv.low low65) (by omega)).form (by omega)) ?_)
                refine gsg (wanted_is (j := 12) (d := 38) (b := true) rfl rfl (((((s38_93.ne rfl).ne rfl).ne rfl).ne rfl).ne rfl) rfl) (q_ld1 (u := .string (((L.getD (okN L) []).getD ((ordN (L.getD (okN L) [])) - 1) zL).f0)) rfl Try.underlying9 rfl (At.hit z93.put.put.put.put rfl).ev (fun _ h => ((RdFF.row (k := (okN L)) (hv.low low65) (by omega)).low h)) (by omega) ((flat_at encL_len zL _ ((ordN (L.getD (okN L) [])) - 1) 0 (by omega) (by decide)).trans rfl) ?_)
                refine gsg (wanted_is (j := 12) (d := 38) (b := true) rfl rfl ((((((s38_93.ne rfl).ne rfl).ne rfl).ne rfl).ne rfl).ne rfl) rfl) (q_strleq false rfl ((((((s46_93.ne rfl).ne rfl).ne rfl).ne rfl).ne rfl).ne rfl).ev (At.hit z93.put.put.put.put.put rfl).ev (leF (Decidable.not_not.1 hb78)) ?_)
                refine gsg (wanted_is (j := 9) (d := 35) (b := false) rfl rfl (((((((s35_93.ne rfl).ne rfl).ne rfl).ne rfl).ne rfl).ne rfl).ne rfl) rfl) (q_pick (b := true) (.bool false) rfl (((((((s38_93.ne rfl).ne rfl).ne rfl).ne rfl).ne rfl).ne rfl).ne rfl).ev (At.hit z93.put.put.put.put.put.put rfl).ev ?_)
                refine g_fresh z93.put.put.put.put.put.put.put.put ?_
                intro a95 z95 m95
                have s3_95 := m95 _ _ ((((((((s3_93.ne rfl).ne rfl).ne rfl).ne rfl).ne rfl).ne rfl).ne rfl).ne rfl)
                have s4_95 := m95 _ _ ((((((((s4_93.ne rfl).ne rfl).ne rfl).ne rfl).ne rfl).ne rfl).ne rfl).ne rfl)
                have s35_95 := m95 _ _ ((((((((s35_93.ne rfl).ne rfl).ne rfl).ne rfl).ne rfl).ne rfl).ne rfl).ne rfl)
                have s57_95 := m95 _ _ (At.hit z93.put.put.put.put.put.put.put rfl)
                clear m95
                refine gs rfl (q_pick (b := false) (.bool false) rfl s35_95.ev s57_95.ev ?_)
                refine gz ?_
                intro w96 h96
                have ov_96 := (hv.low low65).low h96
                have oy89_96 := (RdFF.row (k := (okN L)) (hv.low low65) (by omega)).low h96
                have oy92_96 := (RdFF.row (k := (okN L)) (hv.low low65) (by omega)).low h96
                have oy94_96 := (RdFF.row (k := (okN L)) (hv.low low65) (by omega)).low h96
                refine e_id ?_
                refine e_fresh z95.put ?_
                intro a97 z97 m97
                have s3_97 := m97 _ _ (s3_95.ne rfl)
                have s4_97 := m97 _ _ (s4_95.ne rfl)
                have s58_97 := m97 _ _ (At.hit z95 rfl)
                have low97 := (low65.trans h96)
                clear m97
                refine e_then ?_
                refine c_false s58_97 ?_
                refine wp_skip ?_
                refine e_in ?_
                refine e_then ?_
                refine c_region ?_
                refine l_q rfl (q_move _ _ rfl s4_97.ev ?_)
                refine l_q rfl (q_add ((((ordN (L.getD (okN L) [])) + 1 : Nat) : Int)) rfl (At.hit z97 rfl).ev rfl (i64_is (by omega) (by omega) (by omega)) ?_)
                refine l_q rfl (q_assign _ _ rfl (At.hit z97.put rfl).ev ?_)
                refine l_end ?_
                refine e_fresh z97.put.put.put ?_
                intro a98 z98 m98
                have s3_98 := m98 _ _ (((s3_97.ne rfl).ne rfl).ne rfl)
                clear m98
                exact absurd ⟨hb68, fun h => Decidable.not_not.1 hb78⟩ (ordN_stop hon)
            · skip
              refine region_lowg hm (by kernel_rfl) ?_
              refine gs rfl (q_move _ _ rfl s0_67.ev ?_)
              refine gs rfl (q_move _ _ rfl (s3_67.ne rfl).ev ?_)
              refine gs rfl (q_idxF (j := (okN L)) rfl Try.underlying44 sz22 ((At.hit z67 rfl).ne rfl).ev (hv.low low65).1 (At.hit z67.put rfl).ev (by omega) ?_)
              refine gs rfl (q_ld1 (u := (vs.getD (okN L) nilS)) rfl Try.underlying22 rfl (At.hit z67.put.put rfl).ev (fun _ h => ((hv.low low65).low h).1) (by omega) (RdFF.cell (hv.low low65) (by omega)) ?_)
              refine gs rfl (q_move _ _ rfl ((((s4_67.ne rfl).ne rfl).ne rfl).ne rfl).ev ?_)
              refine gs rfl (q_idxF (j := (ordN (L.getD (okN L) []))) rfl Try.underlying22 sz37 ((At.hit z67.put.put.put rfl).ne rfl).ev (RdFF.row (k := (okN L)) (hv.low low65) (by omega)) (At.hit z67.put.put.put.put rfl).ev (by omega) ?_)
              refine gs rfl (q_fldF 0 rfl fld37_0 (At.hit z67.put.put.put.put.put rfl).ev ((RdFF.row (k := (okN L)) (hv.low low65) (by omega)).form (by omega)) ?_)
              refine gs rfl (q_ld1 (u := .string (((L.getD (okN L) []).getD (ordN (L.getD (okN L) [])) zL).f0)) rfl Try.underlying9 rfl (At.hit z67.put.put.put.put.put.put rfl).ev (fun _ h => ((RdFF.row (k := (okN L)) (hv.low low65) (by omega)).low h)) (by omega) ((flat_at encL_len zL _ (ordN (L.getD (okN L) [])) 0 (by omega) (by decide)).trans rfl) ?_)
              refine g_fresh z67.put.put.put.put.put.put.put.put ?_
              intro a100 z100 m100
              have s0_100 := m100 _ _ ((((((((s0_67.ne rfl).ne rfl).ne rfl).ne rfl).ne rfl).ne rfl).ne rfl).ne rfl)
              have s3_100 := m100 _ _ ((((((((s3_67.ne rfl).ne rfl).ne rfl).ne rfl).ne rfl).ne rfl).ne rfl).ne rfl)
              have s4_100 := m100 _ _ ((((((((s4_67.ne rfl).ne rfl).ne rfl).ne rfl).ne rfl).ne rfl).ne rfl).ne rfl)
              have s33_100 := m100 _ _ (At.hit z67.put.put.put.put.put.put.put rfl)
              clear m100
              refine gs rfl (q_streq false rfl s33_100.ev rfl (strF hb68) ?_)
              refine gs rfl (q_move _ _ rfl (At.hit z100 rfl).ev ?_)
              refine gsg (wanted_is (j := 9) (d := 35) (b := false) rfl rfl (At.hit z100.put rfl) rfl) (q_move _ _ rfl ((s4_100.ne rfl).ne rfl).ev ?_)
              refine gsg (wanted_is (j := 9) (d := 35) (b := false) rfl rfl ((At.hit z100.put rfl).ne rfl) rfl) (q_gtr false rfl (At.hit z100.put.put rfl).ev rfl (decide_eq_false (by omega)) ?_)
              refine gsg (wanted_is (j := 9) (d := 35) (b := false) rfl rfl (((At.hit z100.put rfl).ne rfl).ne rfl) rfl) (q_move _ _ rfl (At.hit z100.put.put.put rfl).ev ?_)
              refine gsk (wanted_is (j := 12) (d := 38) (b := false) rfl rfl (At.hit z100.put.put.put.put rfl) rfl) ?_
              refine gsk (wanted_is (j := 12) (d := 38) (b := false) rfl rfl ((At.hit z100.put.put.put.put rfl).ne rfl) rfl) ?_
              refine gsk (wanted_is (j := 12) (d := 38) (b := false) rfl rfl (((At.hit z100.put.put.put.put rfl).ne rfl).ne rfl) rfl) ?_
              refine g_fresh z100.put.put.put.put.put.put.put.put ?_
              intro a101 z101 m101
              have s0_101 := m101 _ _ ((((((((s0_100.ne rfl).ne rfl).ne rfl).ne rfl).ne rfl).ne rfl).ne rfl).ne rfl)
              have s3_101 := m101 _ _ ((((((((s3_100.ne rfl).ne rfl).ne rfl).ne rfl).ne rfl).ne rfl).ne rfl).ne rfl)
              have s4_101 := m101 _ _ ((((((((s4_100.ne rfl).ne rfl).ne rfl).ne rfl).ne rfl).ne rfl).ne rfl).ne rfl)
              have s35_101 := m101 _ _ (((((((At.hit z100.put rfl).ne rfl).ne rfl).ne rfl).ne rfl).ne rfl).ne rfl)
              have s38_101 := m101 _ _ ((((At.hit z100.put.put.put.put rfl).ne rfl).ne rfl).ne rfl)
              have s41_101 := m101 _ _ (At.hit z100.put.put.put.put.put.put.put rfl)
              clear m101
              refine gsk (wanted_is (j := 12) (d := 38) (b := false) rfl rfl s38_101 rfl) ?_
              refine gsk (wanted_is (j := 12) (d := 38) (b := false) rfl rfl (s38_101.ne rfl) rfl) ?_
              refine gsk (wanted_is (j := 12) (d := 38) (b := false) rfl rfl ((s38_101.ne rfl).ne rfl) rfl) ?_
              refine gsk (wanted_is (j := 12) (d := 38) (b := false) rfl rfl (((s38_101.ne rfl).ne rfl).ne rfl) rfl) ?_
              refine gsk (wanted_is (j := 12) (d := 38) (b := false) rfl rfl ((((s38_101.ne rfl).ne rfl).ne rfl).ne rfl) rfl) ?_
              refine gsk (wanted_is (j := 12) (d := 38) (b := false) rfl rfl (((((s38_101.ne rfl).ne rfl).ne rfl).ne rfl).ne rfl) rfl) ?_
              refine gsk (wanted_is (j := 12) (d := 38) (b := false) rfl rfl ((((((s38_101.ne rfl).ne rfl).ne rfl).ne rfl).ne rfl).ne rfl) rfl) ?_
              refine gsk (wanted_is (j := 12) (d := 38) (b := false) rfl rfl (((((((s38_101.ne rfl).ne rfl).ne rfl).ne rfl).ne rfl).ne rfl).ne rfl) rfl) ?_
              refine g_fresh z101.put.put.put.put.put.put.put.put ?_
              intro a102 z102 m102
              have s3_102 := m102 _ _ ((((((((s3_101.ne rfl).ne rfl).ne rfl).ne rfl).ne rfl).ne rfl).ne rfl).ne rfl)
              have s4_102 := m102 _ _ ((((((((s4_101.ne rfl).ne rfl).ne rfl).ne rfl).ne rfl).ne rfl).ne rfl).ne rfl)
              have s35_102 := m102 _ _ ((((((((s35_101.ne rfl).ne rfl).ne rfl).ne rfl).ne rfl).ne rfl).ne rfl).ne rfl)
              have s38_102 := m102 _ _ ((((((((s38_101.ne rfl).ne rfl).ne rfl).ne rfl).ne rfl).ne rfl).ne rfl).ne rfl)
              have s46_102 := m102 _ _ ((((At.hit z101.put.put.put.put rfl).ne rfl).ne rfl).ne rfl)
              have s49_102 := m102 _ _ (At.hit z101.put.put.put.put.put.put.put rfl)
              clear m102
              refine gsk (wanted_is (j := 12) (d := 38) (b := false) rfl rfl s38_102 rfl) ?_
              refine gsk (wanted_is (j := 12) (d := 38) (b := false) rfl rfl (s38_102.ne rfl) rfl) ?_
              refine gsk (wanted_is (j := 12) (d := 38) (b := false) rfl rfl ((s38_102.ne rfl).ne rfl) rfl) ?_
              refine gsk (wanted_is (j := 12) (d := 38) (b := false) rfl rfl (((s38_102.ne rfl).ne rfl).ne rfl) rfl) ?_
              refine gsk (wanted_is (j := 12) (d := 38) (b := false) rfl rfl ((((s38_102.ne rfl).ne rfl).ne rfl).ne rfl) rfl) ?_
              refine gsk (wanted_is (j := 12) (d := 38) (b := false) rfl rfl (((((s38_102.ne rfl).ne rfl).ne rfl).ne rfl).ne rfl) rfl) ?_
              refine gsk (wanted_is (j := 12) (d := 38) (b := false) rfl rfl ((((((s38_102.ne rfl).ne rfl).ne rfl).ne rfl).ne rfl).ne rfl) rfl) ?_
              refine gsg (wanted_is (j := 9) (d := 35) (b := false) rfl rfl (((((((s35_102.ne rfl).ne rfl).ne rfl).ne rfl).ne rfl).ne rfl).ne rfl) rfl) (q_pick (b := false) (.bool false) rfl (((((((s38_102.ne rfl).ne rfl).ne rfl).ne rfl).ne rfl).ne rfl).ne rfl).ev rfl ?_)
              refine g_fresh z102.put.put.put.put.put.put.put.put ?_
              intro a103 z103 m103
              have s3_103 := m103 _ _ ((((((((s3_102.ne rfl).ne rfl).ne rfl).ne rfl).ne rfl).ne rfl).ne rfl).ne rfl)
              have s4_103 := m103 _ _ ((((((((s4_102.ne rfl).ne rfl).ne rfl).ne rfl).ne rfl).ne rfl).ne rfl).ne rfl)
              have s35_103 := m103 _ _ ((((((((s35_102.ne rfl).ne rfl).ne rfl).ne rfl).ne rfl).ne rfl).ne rfl).ne rfl)
              have s57_103 := m103 _ _ (At.hit z102.put.put.put.put.put.put.put rfl)
              clear m103
              refine gs rfl (q_pick (b := false) (.bool false) rfl s35_103.ev s57_103.ev ?_)
              refine gz ?_
              intro w104 h104
              have ov_104 := (hv.low low65).low h104
              have oy99_104 := (RdFF.row (k := (okN L)) (hv.low low65) (by omega)).low h104
              refine e_id ?_
              refine e_fresh z103.put ?_
              intro a105 z105 m105
              have s3_105 := m105 _ _ (s3_103.ne rfl)
              have s4_105 := m105 _ _ (s4_103.ne rfl)
              have s58_105 := m105 _ _ (At.hit z103 rfl)
              have low105 := (low65.trans h104)
              clear m105
              refine e_then ?_
              refine c_false s58_105 ?_
              refine wp_skip ?_
              refine e_in ?_
              refine e_then ?_
              refine c_region ?_
              refine l_q rfl (q_move _ _ rfl s4_105.ev ?_)
              refine l_q rfl (q_add ((((ordN (L.getD (okN L) [])) + 1 : Nat) : Int)) rfl (At.hit z105 rfl).ev rfl (i64_is (by omega) (by omega) (by omega)) ?_)
              refine l_q rfl (q_assign _ _ rfl (At.hit z105.put rfl).ev ?_)
              refine l_end ?_
              refine e_fresh z105.put.put.put ?_
              intro a106 z106 m106
              have s3_106 := m106 _ _ (((s3_105.ne rfl).ne rfl).ne rfl)
              clear m106
              exact absurd ⟨hb68, fun h => absurd h hb77⟩ (ordN_stop hon)
      · skip
        refine c_region ?_
        refine l_q rfl (q_move _ _ rfl s0_37.ev ?_)
        refine l_q rfl (q_move _ _ rfl (s3_37.ne rfl).ev ?_)
        refine l_q rfl (q_idxF (j := (okN L)) rfl Try.underlying44 sz22 ((At.hit z37 rfl).ne rfl).ev (hv.low low35).1 (At.hit z37.put rfl).ev (by omega) ?_)
        refine l_q rfl (q_ld1 (u := (vs.getD (okN L) nilS)) rfl Try.underlying22 rfl (At.hit z37.put.put rfl).ev (fun _ e => by rw [e]; exact (hv.low low35).1) (by omega) (RdFF.cell (hv.low low35) (by omega)) ?_)
        refine l_call (fun v w' => v = .bool false ∧ Low w35 w') rfl rfl rfl Try.func15 rfl (args1 rfl (At.hit z37.put.put.put rfl).ev) (((calls_bool (Few.calls _ (L.getD (okN L) []) _ (RdFF.row (k := (okN L)) (hv.low low35) (by omega))) (eq_false_of_ne_true hb38))).mono fun _ _ ⟨e, k⟩ => ⟨_, e, rfl, k⟩) ?_
        rintro _ w108 ⟨rfl, h108⟩
        have ov_108 := (hv.low low35).low h108
        have oy107_108 := (RdFF.row (k := (okN L)) (hv.low low35) (by omega)).low h108
        refine l_q rfl (q_not (b := false) rfl (At.hit z37.put.put.put.put rfl).ev ?_)
        refine l_end ?_
        refine e_fresh z37.put.put.put.put.put.put ?_
        intro a109 z109 m109
        have s0_109 := m109 _ _ ((((((s0_37.ne rfl).ne rfl).ne rfl).ne rfl).ne rfl).ne rfl)
        have s3_109 := m109 _ _ ((((((s3_37.ne rfl).ne rfl).ne rfl).ne rfl).ne rfl).ne rfl)
        have s16_109 := m109 _ _ (At.hit z37.put.put.put.put.put rfl)
        have low109 := (low35.trans h108)
        clear m109
        refine e_then ?_
        refine c_true s16_109 ?_
        refine c_seq ?_
        refine c_region ?_
        refine l_q rfl (q_assign _ _ rfl rfl ?_)
        refine l_end ?_
        refine e_fresh z109.put ?_
        intro a110 z110 m110
        have s2_110 := m110 _ _ (At.hit z109 rfl)
        clear m110
        refine e_then ?_
        refine wp_ret ?_
        refine ret_then ?_
        refine ret_in ?_
        refine ret_then ?_
        refine ret_then ?_
        refine ret_in ?_
        refine ret_then ?_
        refine r_tmp rfl z110.defers s2_110 ?_
        exact ⟨by unfold mayB; rw [decide_eq_false (by omega)]; rfl, low109⟩
    · skip
      refine c_region ?_
      refine l_q rfl (q_move _ _ rfl s3_35.ev ?_)
      refine l_q rfl (q_move _ _ rfl (s0_35.ne rfl).ev ?_)
      refine l_q rfl (q_lenF rfl rfl Try.underlying44 (At.hit z35.put rfl).ev (hv.low low35).1 ?_)
      refine l_q rfl (q_lss false rfl (((At.hit z35 rfl).ne rfl).ne rfl).ev (At.hit z35.put.put rfl).ev (decide_eq_false (by omega)) ?_)
      refine l_end ?_
      refine e_fresh z35.put.put.put.put ?_
      intro a111 z111 m111
      have s0_111 := m111 _ _ ((((s0_35.ne rfl).ne rfl).ne rfl).ne rfl)
      have s3_111 := m111 _ _ ((((s3_35.ne rfl).ne rfl).ne rfl).ne rfl)
      have s8_111 := m111 _ _ (At.hit z35.put.put.put rfl)
      clear m111
      refine e_then ?_
      refine c_false s8_111 ?_
      refine wp_exit ?_
      refine x_then ?_
      refine x_then ?_
      refine in_exit ?_
      refine e_then ?_
      refine c_seq ?_
      refine c_region ?_
      refine l_q rfl (q_assign _ _ rfl rfl ?_)
      refine l_end ?_
      refine e_fresh z111.put ?_
      intro a112 z112 m112
      have s2_112 := m112 _ _ (At.hit z111 rfl)
      clear m112
      refine e_then ?_
      refine wp_ret ?_
      refine r_tmp rfl z112.defers s2_112 ?_
      exact ⟨by unfold mayB; rw [decide_eq_true (by omega)]; rfl, low35⟩
theorem Awake.calls (w0 : World) : Calls Try.prog 5 #[] w0 fun e w' => e = .returned (.bool true) ∧ Low w0 w' := by
  refine c_fun (R := _) Try.func5 rfl 67 rfl (Nat.le_of_ble_eq_true rfl) ?_
  intro a z hA
  clear hA
  refine c_seq ?_
  refine c_region ?_
  refine l_q rfl (q_assign _ _ rfl rfl ?_)
  refine l_end ?_
  refine e_fresh z.put ?_
  intro a1 z1 m1
  clear m1
  refine e_then ?_
  refine c_seq ?_
  refine c_region ?_
  refine l_q rfl (q_build (cs := #[.string leafA.f0, .int .i64 leafA.f1, .string leafA.f2]) rfl rfl (by kernel_rfl) ?_)
  refine l_q rfl (q_build (cs := #[.string leafB.f0, .int .i64 leafB.f1, .string leafB.f2]) rfl rfl (by kernel_rfl) ?_)
  refine l_q rfl (q_build (cs := #[.string leafC.f0, .int .i64 leafC.f1, .string leafC.f2]) rfl rfl (by kernel_rfl) ?_)
  refine l_alloc rfl rfl zero37 ?_
  intro g1 w2 hg2 k2 h2
  have geg1 := Nat.le_trans (Low.refl _).ge hg2
  refine l_alloc rfl rfl zero37 ?_
  intro g2 w3 hg3 k3 h3
  have lt_g1_g2 := Nat.lt_of_lt_of_le (heap_lt k2) hg3
  have geg2 := Nat.le_trans h2.ge hg3
  have kg1_3 := h3.blk k2
  refine l_alloc rfl rfl zero37 ?_
  intro g3 w4 hg4 k4 h4
  have lt_g1_g3 := Nat.lt_of_lt_of_le (heap_lt kg1_3) hg4
  have lt_g2_g3 := Nat.lt_of_lt_of_le (heap_lt k3) hg4
  have geg3 := Nat.le_trans (h2.trans h3).ge hg4
  have kg1_4 := h4.blk kg1_3
  have kg2_4 := h4.blk k3
  refine l_row rfl rfl rfl (sz37.trans (congrArg some rfl.symm)) (((At.hit z1.put.put.put rfl).ne rfl).ne rfl).ev ((((((At.hit z1 rfl).ne rfl).ne rfl).ne rfl).ne rfl).ne rfl).ev (by simp [Value.oneCell']) kg1_4 (rfl.trans rfl.symm) ?_
  intro w5 k5 u5
  have kg2_5 := u5.blk kg2_4 (by omega)
  have kg3_5 := u5.blk k4 (by omega)
  refine l_row rfl rfl rfl (sz37.trans (congrArg some rfl.symm)) ((At.hit z1.put.put.put.put rfl).ne rfl).ev (((((At.hit z1.put rfl).ne rfl).ne rfl).ne rfl).ne rfl).ev (by simp [Value.oneCell']) kg2_5 (rfl.trans rfl.symm) ?_
  intro w6 k6 u6
  have kg1_6 := u6.blk k5 (by omega)
  have kg3_6 := u6.blk kg3_5 (by omega)
  refine l_row rfl rfl rfl (sz37.trans (congrArg some rfl.symm)) (At.hit z1.put.put.put.put.put rfl).ev ((((At.hit z1.put.put rfl).ne rfl).ne rfl).ne rfl).ev (by simp [Value.oneCell']) kg3_6 (rfl.trans rfl.symm) ?_
  intro w7 k7 u7
  have kg1_7 := u7.blk kg1_6 (by omega)
  have kg2_7 := u7.blk k6 (by omega)
  refine l_end ?_
  refine e_fresh z1.put.put.put.put.put.put ?_
  intro a8 z8 m8
  have s1_8 := m8 _ _ (((At.hit z1.put.put.put rfl).ne rfl).ne rfl)
  have s2_8 := m8 _ _ ((At.hit z1.put.put.put.put rfl).ne rfl)
  have s3_8 := m8 _ _ (At.hit z1.put.put.put.put.put rfl)
  have low8 := (((((h2.trans h3).trans h4).upd u5 geg1).upd u6 geg2).upd u7 geg3)
  clear m8
  refine e_then ?_
  refine c_seq ?_
  refine c_region ?_
  refine l_q rfl (q_row rfl Try.underlying37 rfl (sz37.trans (congrArg some rfl.symm)) s1_8.ev (fun _ e => by rw [e]; exact kg1_7) ?_)
  refine l_buildF (vs := [.string leafA.f0, .int .i64 leafA.f1, .string leafA.f2]) rfl rfl Try.underlying22 rec37 (At.hit z8 rfl).ev rfl rfl (by decide) (by decide) ?_
  intro g13_9 w9 hg9 k9 h9
  have lt_g1_g13_9 := Nat.lt_of_lt_of_le (heap_lt kg1_7) hg9
  have lt_g2_g13_9 := Nat.lt_of_lt_of_le (heap_lt kg2_7) hg9
  have lt_g3_g13_9 := Nat.lt_of_lt_of_le (heap_lt k7) hg9
  have geg13_9 := Nat.le_trans low8.ge hg9
  have kg1_9 := h9.blk kg1_7
  have kg2_9 := h9.blk kg2_7
  have kg3_9 := h9.blk k7
  have ol9 : RdF w9 3 (.slice (some ⟨g13_9, 0, none⟩) 1 1) ([leafA]).length ([leafA].map encL).flatten := rdF_rec k9 rfl
  refine l_q rfl (q_row rfl Try.underlying37 rfl (sz37.trans (congrArg some rfl.symm)) ((s1_8.ne rfl).ne rfl).ev (fun _ e => by rw [e]; exact kg1_9) ?_)
  refine l_q rfl (q_row rfl Try.underlying37 rfl (sz37.trans (congrArg some rfl.symm)) (((s2_8.ne rfl).ne rfl).ne rfl).ev (fun _ e => by rw [e]; exact kg2_9) ?_)
  refine l_two3 rfl rfl Try.underlying22 rec37 ((At.hit z8.put.put rfl).ne rfl).ev (At.hit z8.put.put.put rfl).ev ?_
  intro g16_10 w10 hg10 k10 h10
  have lt_g1_g16_10 := Nat.lt_of_lt_of_le (heap_lt kg1_9) hg10
  have lt_g2_g16_10 := Nat.lt_of_lt_of_le (heap_lt kg2_9) hg10
  have lt_g3_g16_10 := Nat.lt_of_lt_of_le (heap_lt kg3_9) hg10
  have lt_g13_9_g16_10 := Nat.lt_of_lt_of_le (heap_lt k9) hg10
  have geg16_10 := Nat.le_trans (low8.trans h9).ge hg10
  have kg1_10 := h10.blk kg1_9
  have kg2_10 := h10.blk kg2_9
  have kg3_10 := h10.blk kg3_9
  have kg13_9_10 := h10.blk k9
  have oL9_10 := ol9.low h10
  have ol10 : RdF w10 3 (.slice (some ⟨g16_10, 0, none⟩) 2 2) ([leafA, leafB]).length ([leafA, leafB].map encL).flatten := rdF_rec k10 rfl
  refine l_call _ rfl rfl rfl Try.func7 rfl (args3 rfl ((((At.hit z8.put rfl).ne rfl).ne rfl).ne rfl).ev (At.hit z8.put.put.put.put rfl).ev rfl) (Three.calls _ _ _ ([leafA]) ([leafA, leafB]) ([]) (by decide) (by decide) (by decide) shortAB shortN _ oL9_10 ol10 (OwnF.nil w10 0 0 _).rd) ?_
  rintro _ w11 ⟨p11, q11, rfl, o11, oo11, h11⟩
  replace o11 := o11.base ((low8.trans h9).trans h10).ge
  replace oo11 := oo11.base ((low8.trans h9).trans h10).ge
  have kg1_11 := h11.blk kg1_10
  have kg2_11 := h11.blk kg2_10
  have kg3_11 := h11.blk kg3_10
  have kg13_9_11 := h11.blk kg13_9_10
  have kg16_10_11 := h11.blk k10
  have oL9_11 := oL9_10.low h11
  have oL10_11 := ol10.low h11
  replace o11 := OwnF.castL o11 (show outF [leafA] [leafA, leafB] [] = [leafB] from aw1)
  replace oo11 := OwnF.castL oo11 (show badA [leafA] [leafA, leafB] [] = ([] : List ByteArray) from aw2)
  refine l_q rfl (q_move _ _ rfl (At.hit z8.put.put.put.put.put rfl).ev ?_)
  refine l_q rfl (q_extract rfl (At.hit z8.put.put.put.put.put.put rfl).ev rfl ?_)
  refine l_fresh z8.put.put.put.put.put.put.put.put ?_
  intro a12 z12 m12
  have s1_12 := m12 _ _ ((((((((s1_8.ne rfl).ne rfl).ne rfl).ne rfl).ne rfl).ne rfl).ne rfl).ne rfl)
  have s2_12 := m12 _ _ ((((((((s2_8.ne rfl).ne rfl).ne rfl).ne rfl).ne rfl).ne rfl).ne rfl).ne rfl)
  have s3_12 := m12 _ _ ((((((((s3_8.ne rfl).ne rfl).ne rfl).ne rfl).ne rfl).ne rfl).ne rfl).ne rfl)
  have s11_12 := m12 _ _ ((At.hit z8.put.put.put.put.put.put rfl).ne rfl)
  have s18_12 := m12 _ _ (At.hit z8.put.put.put.put.put.put.put rfl)
  clear m12
  refine l_q rfl (q_extract rfl s11_12.ev rfl ?_)
  refine l_q rfl (q_assign _ _ rfl (s18_12.ne rfl).ev ?_)
  refine l_q rfl (q_assign _ _ rfl ((At.hit z12 rfl).ne rfl).ev ?_)
  refine l_end ?_
  refine e_fresh z12.put.put.put ?_
  intro a13 z13 m13
  have s1_13 := m13 _ _ (((s1_12.ne rfl).ne rfl).ne rfl)
  have s2_13 := m13 _ _ (((s2_12.ne rfl).ne rfl).ne rfl)
  have s3_13 := m13 _ _ (((s3_12.ne rfl).ne rfl).ne rfl)
  have s4_13 := m13 _ _ ((At.hit z12.put rfl).ne rfl)
  have s5_13 := m13 _ _ (At.hit z12.put.put rfl)
  have low13 := (((low8.trans h9).trans h10).trans h11)
  clear m13
  refine e_then ?_
  refine c_seq ?_
  refine c_region ?_
  refine l_q rfl (q_row rfl Try.underlying37 rfl (sz37.trans (congrArg some rfl.symm)) s1_13.ev (fun _ e => by rw [e]; exact kg1_11) ?_)
  refine l_buildF (vs := [.string leafA.f0, .int .i64 leafA.f1, .string leafA.f2]) rfl rfl Try.underlying22 rec37 (At.hit z13 rfl).ev rfl rfl (by decide) (by decide) ?_
  intro g22_14 w14 hg14 k14 h14
  have onb11_g22_14 : ∀ k, Value.ownBlock p11 = some k → k < g22_14 := fun k hk => Nat.lt_of_lt_of_le (OwnF.own_lt o11 hk) hg14
  have lt_g1_g22_14 := Nat.lt_of_lt_of_le (heap_lt kg1_11) hg14
  have lt_g2_g22_14 := Nat.lt_of_lt_of_le (heap_lt kg2_11) hg14
  have lt_g3_g22_14 := Nat.lt_of_lt_of_le (heap_lt kg3_11) hg14
  have geg22_14 := Nat.le_trans low13.ge hg14
  have kg1_14 := h14.blk kg1_11
  have kg2_14 := h14.blk kg2_11
  have kg3_14 := h14.blk kg3_11
  have ob11_14 := o11.low h14
  have oc11_14 := oo11.low h14
  have ol14 : RdF w14 3 (.slice (some ⟨g22_14, 0, none⟩) 1 1) ([leafA]).length ([leafA].map encL).flatten := rdF_rec k14 rfl
  refine l_q rfl (q_row rfl Try.underlying37 rfl (sz37.trans (congrArg some rfl.symm)) ((s3_13.ne rfl).ne rfl).ev (fun _ e => by rw [e]; exact kg3_14) ?_)
  refine l_buildF (vs := [.string leafC.f0, .int .i64 leafC.f1, .string leafC.f2]) rfl rfl Try.underlying22 rec37 (At.hit z13.put.put rfl).ev rfl rfl (by decide) (by decide) ?_
  intro g24_15 w15 hg15 k15 h15
  have onb11_g24_15 : ∀ k, Value.ownBlock p11 = some k → k < g24_15 := fun k hk => Nat.lt_of_lt_of_le (OwnF.own_lt ob11_14 hk) hg15
  have lt_g1_g24_15 := Nat.lt_of_lt_of_le (heap_lt kg1_14) hg15
  have lt_g2_g24_15 := Nat.lt_of_lt_of_le (heap_lt kg2_14) hg15
  have lt_g3_g24_15 := Nat.lt_of_lt_of_le (heap_lt kg3_14) hg15
  have lt_g22_14_g24_15 := Nat.lt_of_lt_of_le (heap_lt k14) hg15
  have geg24_15 := Nat.le_trans (low13.trans h14).ge hg15
  have kg1_15 := h15.blk kg1_14
  have kg2_15 := h15.blk kg2_14
  have kg3_15 := h15.blk kg3_14
  have kg22_14_15 := h15.blk k14
  have ob11_15 := ob11_14.low h15
  have oc11_15 := oc11_14.low h15
  have oL14_15 := ol14.low h15
  have ol15 : RdF w15 3 (.slice (some ⟨g24_15, 0, none⟩) 1 1) ([leafC]).length ([leafC].map encL).flatten := rdF_rec k15 rfl
  refine l_call _ rfl rfl rfl Try.func7 rfl (args3 rfl (((At.hit z13.put rfl).ne rfl).ne rfl).ev rfl (At.hit z13.put.put.put rfl).ev) (Three.calls _ _ _ ([leafA]) ([]) ([leafC]) (by decide) (by decide) (by decide) shortN shortC _ oL14_15 (OwnF.nil w15 0 0 _).rd ol15) ?_
  rintro _ w16 ⟨p16, q16, rfl, o16, oo16, h16⟩
  replace o16 := o16.base ((low13.trans h14).trans h15).ge
  replace oo16 := oo16.base ((low13.trans h14).trans h15).ge
  have kg1_16 := h16.blk kg1_15
  have kg2_16 := h16.blk kg2_15
  have kg3_16 := h16.blk kg3_15
  have kg22_14_16 := h16.blk kg22_14_15
  have kg24_15_16 := h16.blk k15
  have ob11_16 := ob11_15.low h16
  have oc11_16 := oc11_15.low h16
  have oL14_16 := oL14_15.low h16
  have oL15_16 := ol15.low h16
  replace oo16 := OwnF.castL oo16 (show badA [leafA] [] [leafC] = ([⟨#[97]⟩] : List ByteArray) from aw3)
  refine l_q rfl (q_move _ _ rfl (At.hit z13.put.put.put.put rfl).ev ?_)
  refine l_q rfl (q_extract rfl (At.hit z13.put.put.put.put.put rfl).ev rfl ?_)
  refine l_q rfl (q_extract rfl ((At.hit z13.put.put.put.put.put rfl).ne rfl).ev rfl ?_)
  refine l_fresh z13.put.put.put.put.put.put.put.put ?_
  intro a17 z17 m17
  have s1_17 := m17 _ _ ((((((((s1_13.ne rfl).ne rfl).ne rfl).ne rfl).ne rfl).ne rfl).ne rfl).ne rfl)
  have s2_17 := m17 _ _ ((((((((s2_13.ne rfl).ne rfl).ne rfl).ne rfl).ne rfl).ne rfl).ne rfl).ne rfl)
  have s3_17 := m17 _ _ ((((((((s3_13.ne rfl).ne rfl).ne rfl).ne rfl).ne rfl).ne rfl).ne rfl).ne rfl)
  have s4_17 := m17 _ _ ((((((((s4_13.ne rfl).ne rfl).ne rfl).ne rfl).ne rfl).ne rfl).ne rfl).ne rfl)
  have s5_17 := m17 _ _ ((((((((s5_13.ne rfl).ne rfl).ne rfl).ne rfl).ne rfl).ne rfl).ne rfl).ne rfl)
  have s26_17 := m17 _ _ ((At.hit z13.put.put.put.put.put.put rfl).ne rfl)
  have s27_17 := m17 _ _ (At.hit z13.put.put.put.put.put.put.put rfl)
  clear m17
  refine l_q rfl (q_assign _ _ rfl s26_17.ev ?_)
  refine l_q rfl (q_assign _ _ rfl (s27_17.ne rfl).ev ?_)
  refine l_end ?_
  refine e_fresh z17.put.put ?_
  intro a18 z18 m18
  have s1_18 := m18 _ _ ((s1_17.ne rfl).ne rfl)
  have s2_18 := m18 _ _ ((s2_17.ne rfl).ne rfl)
  have s3_18 := m18 _ _ ((s3_17.ne rfl).ne rfl)
  have s4_18 := m18 _ _ ((s4_17.ne rfl).ne rfl)
  have s5_18 := m18 _ _ ((s5_17.ne rfl).ne rfl)
  have s7_18 := m18 _ _ (At.hit z17.put rfl)
  have low18 := (((low13.trans h14).trans h15).trans h16)
  clear m18
  refine e_then ?_
  refine c_seq ?_
  refine region_someg (TL [Is (p11), Is (.int .i64 (((([leafB]).length) : Nat) : Int)), Is (.bool true), Is (.bool true), Is (p11), Is (pAt p11 (0 * 3)), Is (.agg (#[.string ((([leafB]).getD 0 zL).f0), .int .i64 ((([leafB]).getD 0 zL).f1), .string ((([leafB]).getD 0 zL).f2)])), Is (.agg (#[.string leafB.f0, .int .i64 leafB.f1, .string leafB.f2])), Is (.bool true), Is (.bool true), Is (.bool true), Is (q11), Is (.int .i64 (((([] : List ByteArray).length) : Nat) : Int)), Is (.bool true), Is (.bool true), Is (.bool true), Is (q16), Is (.int .i64 (((([⟨#[97]⟩] : List ByteArray).length) : Nat) : Int)), Is (.bool true), Is (.bool true), Is (.bool true), Is (q16), Is (pAt q16 (0 * 1)), Is (.string (([⟨#[97]⟩] : List ByteArray).getD 0 ByteArray.empty)), Is (.bool true), Is (.bool true), Is (.bool true), Is (.agg (#[.string leafA.f0, .int .i64 leafA.f1, .string leafA.f2])), RowT [leafA], Is (.bool true), Is (.bool true), Is (.bool true), Is (.agg (#[.string leafC.f0, .int .i64 leafC.f1, .string leafC.f2])), RowT [leafC], Is (.agg (#[.string leafA.f0, .int .i64 leafA.f1, .string leafA.f2])), RowT [leafA], Is (.bool false), Is (.bool true), Is (.bool true), Is (.bool true)]) Low hm (by kernel_rfl) z18 (low_drawn _) (fun _ _ _ h k => Low.trans h k) (TL_cons ?_ (TL_cons ?_ (TL_cons ?_ (TL_cons ?_ (TL_cons ?_ (TL_cons ?_ (TL_cons ?_ (TL_cons ?_ (TL_cons ?_ (TL_cons ?_ (TL_cons ?_ (TL_cons ?_ (TL_cons ?_ (TL_cons ?_ (TL_cons ?_ (TL_cons ?_ (TL_cons ?_ (TL_cons ?_ (TL_cons ?_ (TL_cons ?_ (TL_cons ?_ (TL_cons ?_ (TL_cons ?_ (TL_cons ?_ (TL_cons ?_ (TL_cons ?_ (TL_cons ?_ (TL_cons ?_ (TL_cons ?_ (TL_cons ?_ (TL_cons ?_ (TL_cons ?_ (TL_cons ?_ (TL_cons ?_ (TL_cons ?_ (TL_cons ?_ (TL_cons ?_ (TL_cons ?_ (TL_cons ?_ (TL_cons ?_ TL_nil)))))))))))))))))))))))))))))))))))))))) (allS_cons ?_ (allS_cons ?_ (allS_cons ?_ (allS_cons ?_ (allS_cons ?_ (allS_cons ?_ (allS_cons ?_ (allS_cons ?_ (allS_cons ?_ (allS_cons ?_ (allS_cons ?_ (allS_cons ?_ (allS_cons ?_ (allS_cons ?_ (allS_cons ?_ (allS_cons ?_ (allS_cons ?_ (allS_cons ?_ (allS_cons ?_ (allS_cons ?_ (allS_cons ?_ (allS_cons ?_ (allS_cons ?_ (allS_cons ?_ (allS_cons ?_ (allS_cons ?_ (allS_cons ?_ (allS_cons ?_ (allS_cons ?_ (allS_cons ?_ (allS_cons ?_ (allS_cons ?_ (allS_cons ?_ (allS_cons ?_ (allS_cons ?_ (allS_cons ?_ (allS_cons ?_ (allS_cons ?_ (allS_cons ?_ (allS_cons ?_ allS_nil)))))))))))))))))))))))))))))))))))))))) (allG_none rfl (allG_none rfl (allG_none rfl (allG_none rfl (allG_some 3 true 31 rfl rfl rfl (fun _ _ h => h) (allG_some 3 true 31 rfl rfl rfl (fun _ _ h => h) (allG_some 3 true 31 rfl rfl rfl (fun _ _ h => h) (allG_some 3 true 31 rfl rfl rfl (fun _ _ h => h) (allG_some 3 true 31 rfl rfl rfl (fun _ _ h => h) (allG_none rfl (allG_none rfl (allG_some 10 true 38 rfl rfl rfl (fun _ _ h => h) (allG_some 10 true 38 rfl rfl rfl (fun _ _ h => h) (allG_some 10 true 38 rfl rfl rfl (fun _ _ h => h) (allG_none rfl (allG_none rfl (allG_some 15 true 43 rfl rfl rfl (fun _ _ h => h) (allG_some 15 true 43 rfl rfl rfl (fun _ _ h => h) (allG_some 15 true 43 rfl rfl rfl (fun _ _ h => h) (allG_none rfl (allG_none rfl (allG_some 20 true 48 rfl rfl rfl (fun _ _ h => h) (allG_some 20 true 48 rfl rfl rfl (fun _ _ h => h) (allG_some 20 true 48 rfl rfl rfl (fun _ _ h => h) (allG_some 20 true 48 rfl rfl rfl (fun _ _ h => h) (allG_none rfl (allG_none rfl (allG_some 26 true 54 rfl rfl rfl (fun _ _ h => h) (allG_some 26 true 54 rfl rfl rfl (fun _ _ h => h) (allG_some 26 true 54 rfl rfl rfl (fun _ _ h => h) (allG_none rfl (allG_none rfl (allG_some 31 true 59 rfl rfl rfl (fun _ _ h => h) (allG_some 31 true 59 rfl rfl rfl (fun _ _ h => h) (allG_some 31 true 59 rfl rfl rfl (fun _ _ h => h) (allG_some 31 true 59 rfl rfl rfl (fun _ _ h => h) (allG_some 31 true 59 rfl rfl rfl (fun _ _ h => h) (allG_some 31 true 59 rfl rfl rfl (fun _ _ h => h) (allG_none rfl (allG_none rfl allG_nil)))))))))))))))))))))))))))))))))))))))) ?_
  · exact StL_is _
  · exact StL_is _
  · exact StL_is _
  · exact StL_is _
  · exact StL_is _
  · exact StL_is _
  · exact StL_is _
  · exact StL_is _
  · exact StL_is _
  · exact StL_is _
  · exact StL_is _
  · exact StL_is _
  · exact StL_is _
  · exact StL_is _
  · exact StL_is _
  · exact StL_is _
  · exact StL_is _
  · exact StL_is _
  · exact StL_is _
  · exact StL_is _
  · exact StL_is _
  · exact StL_is _
  · exact StL_is _
  · exact StL_is _
  · exact StL_is _
  · exact StL_is _
  · exact StL_is _
  · exact StL_is _
  · exact StL_row _
  · exact StL_is _
  · exact StL_is _
  · exact StL_is _
  · exact StL_is _
  · exact StL_row _
  · exact StL_is _
  · exact StL_row _
  · exact StL_is _
  · exact StL_is _
  · exact StL_is _
  · exact StL_is _
  · exact (stepS_val (p11) _ rfl rfl rfl Low.refl (fun _ => rfl) fun a w z lw kp kn => q_move _ _ rfl (kp _ _ rfl s4_18).ev rfl)
  · exact (stepS_val (.int .i64 (((([leafB]).length) : Nat) : Int)) _ rfl rfl rfl Low.refl (fun _ => rfl) fun a w z lw kp kn => q_lenF rfl rfl Try.underlying22 (at_is (u := p11) (w := w) (kn 0 _ rfl rfl)).ev (ob11_16.low lw).rd rfl)
  · exact (stepS_val (.bool true) _ rfl rfl rfl Low.refl (fun _ => rfl) fun a w z lw kp kn => q_eql true rfl (at_is (u := .int .i64 (((([leafB]).length) : Nat) : Int)) (w := w) (kn 1 _ rfl rfl)).ev rfl (decide_eq_true rfl) rfl)
  · exact (stepS_val (.bool true) _ rfl rfl rfl Low.refl (fun _ => rfl) fun a w z lw kp kn => q_move _ _ rfl (at_is (u := .bool true) (w := w) (kn 2 _ rfl rfl)).ev rfl)
  · exact (stepS_val (p11) _ rfl rfl rfl Low.refl (fun _ => rfl) fun a w z lw kp kn => q_move _ _ rfl (kp _ _ rfl s4_18).ev rfl)
  · exact (stepS_val (pAt p11 (0 * 3)) _ rfl rfl rfl Low.refl (fun _ => rfl) fun a w z lw kp kn => q_idxF (j := 0) rfl Try.underlying22 sz37 (at_is (u := p11) (w := w) (kn 4 _ rfl rfl)).ev (ob11_16.low lw).rd rfl (by decide) rfl)
  · exact (stepS_val (.agg (#[.string ((([leafB]).getD 0 zL).f0), .int .i64 ((([leafB]).getD 0 zL).f1), .string ((([leafB]).getD 0 zL).f2)])) _ rfl rfl rfl Low.refl (fun _ => rfl) fun a w z lw kp kn => q_ldR (vs := [.string ((([leafB]).getD 0 zL).f0), .int .i64 ((([leafB]).getD 0 zL).f1), .string ((([leafB]).getD 0 zL).f2)]) rfl Try.underlying37 rfl sz37 (at_is (u := pAt p11 (0 * 3)) (w := w) (kn 5 _ rfl rfl)).ev (fun _ e => by rw [e]; exact (ob11_16.low lw).rd) (by decide) rfl (flat_part encL_len zL _ 0 (by decide)) rfl)
  · exact (stepS_val (.agg (#[.string leafB.f0, .int .i64 leafB.f1, .string leafB.f2])) _ rfl rfl rfl Low.refl (fun _ => rfl) fun a w z lw kp kn => q_row rfl Try.underlying37 rfl (sz37.trans (congrArg some rfl.symm)) (kp _ _ rfl s2_18).ev (fun _ e => by rw [e]; exact (lw.blk kg2_16)) rfl)
  · exact (stepS_val (.bool true) _ rfl rfl rfl Low.refl (fun _ => rfl) fun a w z lw kp kn => q_eq3 true rfl guard37 (at_is (u := .agg (#[.string ((([leafB]).getD 0 zL).f0), .int .i64 ((([leafB]).getD 0 zL).f1), .string ((([leafB]).getD 0 zL).f2)])) (w := w) (kn 6 _ rfl rfl)).ev (at_is (u := .agg (#[.string leafB.f0, .int .i64 leafB.f1, .string leafB.f2])) (w := w) (kn 7 _ rfl rfl)).ev (eq37 9998 ((([leafB]).getD 0 zL).f0) ((([leafB]).getD 0 zL).f1) ((([leafB]).getD 0 zL).f2) leafB.f0 leafB.f1 leafB.f2) (eqL_true rfl) rfl)
  · exact (stepS_val (.bool true) _ rfl rfl rfl Low.refl (fun _ => rfl) fun a w z lw kp kn => q_pick (b := true) (.bool true) rfl (at_is (u := .bool true) (w := w) (kn 3 _ rfl rfl)).ev (at_is (u := .bool true) (w := w) (kn 8 _ rfl rfl)).ev rfl)
  · exact (stepS_val (.bool true) _ rfl rfl rfl Low.refl (fun _ => rfl) fun a w z lw kp kn => q_move _ _ rfl (at_is (u := .bool true) (w := w) (kn 9 _ rfl rfl)).ev rfl)
  · exact (stepS_val (q11) _ rfl rfl rfl Low.refl (fun _ => rfl) fun a w z lw kp kn => q_move _ _ rfl (kp _ _ rfl s5_18).ev rfl)
  · exact (stepS_val (.int .i64 (((([] : List ByteArray).length) : Nat) : Int)) _ rfl rfl rfl Low.refl (fun _ => rfl) fun a w z lw kp kn => q_lenF rfl rfl Try.underlying25 (at_is (u := q11) (w := w) (kn 11 _ rfl rfl)).ev (oc11_16.low lw).rd rfl)
  · exact (stepS_val (.bool true) _ rfl rfl rfl Low.refl (fun _ => rfl) fun a w z lw kp kn => q_eql true rfl (at_is (u := .int .i64 (((([] : List ByteArray).length) : Nat) : Int)) (w := w) (kn 12 _ rfl rfl)).ev rfl (decide_eq_true rfl) rfl)
  · exact (stepS_val (.bool true) _ rfl rfl rfl Low.refl (fun _ => rfl) fun a w z lw kp kn => q_pick (b := true) (.bool true) rfl (at_is (u := .bool true) (w := w) (kn 10 _ rfl rfl)).ev (at_is (u := .bool true) (w := w) (kn 13 _ rfl rfl)).ev rfl)
  · exact (stepS_val (.bool true) _ rfl rfl rfl Low.refl (fun _ => rfl) fun a w z lw kp kn => q_move _ _ rfl (at_is (u := .bool true) (w := w) (kn 14 _ rfl rfl)).ev rfl)
  · exact (stepS_val (q16) _ rfl rfl rfl Low.refl (fun _ => rfl) fun a w z lw kp kn => q_move _ _ rfl (kp _ _ rfl s7_18).ev rfl)
  · exact (stepS_val (.int .i64 (((([⟨#[97]⟩] : List ByteArray).length) : Nat) : Int)) _ rfl rfl rfl Low.refl (fun _ => rfl) fun a w z lw kp kn => q_lenF rfl rfl Try.underlying25 (at_is (u := q16) (w := w) (kn 16 _ rfl rfl)).ev (oo16.low lw).rd rfl)
  · exact (stepS_val (.bool true) _ rfl rfl rfl Low.refl (fun _ => rfl) fun a w z lw kp kn => q_eql true rfl (at_is (u := .int .i64 (((([⟨#[97]⟩] : List ByteArray).length) : Nat) : Int)) (w := w) (kn 17 _ rfl rfl)).ev rfl (decide_eq_true rfl) rfl)
  · exact (stepS_val (.bool true) _ rfl rfl rfl Low.refl (fun _ => rfl) fun a w z lw kp kn => q_pick (b := true) (.bool true) rfl (at_is (u := .bool true) (w := w) (kn 15 _ rfl rfl)).ev (at_is (u := .bool true) (w := w) (kn 18 _ rfl rfl)).ev rfl)
  · exact (stepS_val (.bool true) _ rfl rfl rfl Low.refl (fun _ => rfl) fun a w z lw kp kn => q_move _ _ rfl (at_is (u := .bool true) (w := w) (kn 19 _ rfl rfl)).ev rfl)
  · exact (stepS_val (q16) _ rfl rfl rfl Low.refl (fun _ => rfl) fun a w z lw kp kn => q_move _ _ rfl (kp _ _ rfl s7_18).ev rfl)
  · exact (stepS_val (pAt q16 (0 * 1)) _ rfl rfl rfl Low.refl (fun _ => rfl) fun a w z lw kp kn => q_idxF (j := 0) rfl Try.underlying25 sz9 (at_is (u := q16) (w := w) (kn 21 _ rfl rfl)).ev (oo16.low lw).rd rfl (by decide) rfl)
  · exact (stepS_val (.string (([⟨#[97]⟩] : List ByteArray).getD 0 ByteArray.empty)) _ rfl rfl rfl Low.refl (fun _ => rfl) fun a w z lw kp kn => q_ld1 (u := .string (([⟨#[97]⟩] : List ByteArray).getD 0 ByteArray.empty)) rfl Try.underlying9 rfl (at_is (u := pAt q16 (0 * 1)) (w := w) (kn 22 _ rfl rfl)).ev (fun _ e => by rw [e]; exact (oo16.low lw).rd) (by decide) ((flat_at encS_len ByteArray.empty _ 0 0 (by decide) (by decide)).trans rfl) rfl)
  · exact (stepS_val (.bool true) _ rfl rfl rfl Low.refl (fun _ => rfl) fun a w z lw kp kn => q_streq true rfl (at_is (u := .string (([⟨#[97]⟩] : List ByteArray).getD 0 ByteArray.empty)) (w := w) (kn 23 _ rfl rfl)).ev rfl (strT rfl) rfl)
  · exact (stepS_val (.bool true) _ rfl rfl rfl Low.refl (fun _ => rfl) fun a w z lw kp kn => q_pick (b := true) (.bool true) rfl (at_is (u := .bool true) (w := w) (kn 20 _ rfl rfl)).ev (at_is (u := .bool true) (w := w) (kn 24 _ rfl rfl)).ev rfl)
  · exact (stepS_val (.bool true) _ rfl rfl rfl Low.refl (fun _ => rfl) fun a w z lw kp kn => q_move _ _ rfl (at_is (u := .bool true) (w := w) (kn 25 _ rfl rfl)).ev rfl)
  · exact (stepS_val (.agg (#[.string leafA.f0, .int .i64 leafA.f1, .string leafA.f2])) _ rfl rfl rfl Low.refl (fun _ => rfl) fun a w z lw kp kn => q_row rfl Try.underlying37 rfl (sz37.trans (congrArg some rfl.symm)) (kp _ _ rfl s1_18).ev (fun _ e => by rw [e]; exact (lw.blk kg1_16)) rfl)
  · exact (stepS _ rfl rfl fun a w z lw kp kn => l_buildF (vs := [.string leafA.f0, .int .i64 leafA.f1, .string leafA.f2]) rfl rfl Try.underlying22 rec37 (at_is (u := .agg #[.string leafA.f0, .int .i64 leafA.f1, .string leafA.f2]) (w := w) (kn 27 _ rfl rfl)).ev rfl rfl (by decide) (by decide) (fun g w' hg k h => l_end ⟨_, rfl, h, (rdF_rec k rfl : RdF w' 3 _ 1 _)⟩))
  · exact (stepS _ rfl rfl fun a w z lw kp kn => Exists.elim (kn 28 _ rfl rfl) fun u hu => l_call (fun v w' => v = .bool true ∧ Low w w') rfl rfl rfl Try.func12 rfl (args3 rfl rfl rfl hu.1.ev) ((calls_bool (Clean.calls _ _ u [] [] [leafA] (by decide) (by decide) (by decide) shortN shortA _ (OwnF.nil _ 0 0 _).rd (OwnF.nil _ 0 0 _).rd hu.2) aw4).mono fun _ _ ⟨e, k⟩ => ⟨_, e, rfl, k⟩) fun _ _ hv => l_end ⟨_, rfl, hv.2, hv.1⟩)
  · exact (stepS_val (.bool true) _ rfl rfl rfl Low.refl (fun _ => rfl) fun a w z lw kp kn => q_pick (b := true) (.bool true) rfl (at_is (u := .bool true) (w := w) (kn 26 _ rfl rfl)).ev (at_is (u := .bool true) (w := w) (kn 29 _ rfl rfl)).ev rfl)
  · exact (stepS_val (.bool true) _ rfl rfl rfl Low.refl (fun _ => rfl) fun a w z lw kp kn => q_move _ _ rfl (at_is (u := .bool true) (w := w) (kn 30 _ rfl rfl)).ev rfl)
  · exact (stepS_val (.agg (#[.string leafC.f0, .int .i64 leafC.f1, .string leafC.f2])) _ rfl rfl rfl Low.refl (fun _ => rfl) fun a w z lw kp kn => q_row rfl Try.underlying37 rfl (sz37.trans (congrArg some rfl.symm)) (kp _ _ rfl s3_18).ev (fun _ e => by rw [e]; exact (lw.blk kg3_16)) rfl)
  · exact (stepS _ rfl rfl fun a w z lw kp kn => l_buildF (vs := [.string leafC.f0, .int .i64 leafC.f1, .string leafC.f2]) rfl rfl Try.underlying22 rec37 (at_is (u := .agg #[.string leafC.f0, .int .i64 leafC.f1, .string leafC.f2]) (w := w) (kn 32 _ rfl rfl)).ev rfl rfl (by decide) (by decide) (fun g w' hg k h => l_end ⟨_, rfl, h, (rdF_rec k rfl : RdF w' 3 _ 1 _)⟩))
  · exact (stepS_val (.agg (#[.string leafA.f0, .int .i64 leafA.f1, .string leafA.f2])) _ rfl rfl rfl Low.refl (fun _ => rfl) fun a w z lw kp kn => q_row rfl Try.underlying37 rfl (sz37.trans (congrArg some rfl.symm)) (kp _ _ rfl s1_18).ev (fun _ e => by rw [e]; exact (lw.blk kg1_16)) rfl)
  · exact (stepS _ rfl rfl fun a w z lw kp kn => l_buildF (vs := [.string leafA.f0, .int .i64 leafA.f1, .string leafA.f2]) rfl rfl Try.underlying22 rec37 (at_is (u := .agg #[.string leafA.f0, .int .i64 leafA.f1, .string leafA.f2]) (w := w) (kn 34 _ rfl rfl)).ev rfl rfl (by decide) (by decide) (fun g w' hg k h => l_end ⟨_, rfl, h, (rdF_rec k rfl : RdF w' 3 _ 1 _)⟩))
  · exact (stepS _ rfl rfl fun a w z lw kp kn => Exists.elim (kn 33 _ rfl rfl) fun u hu => Exists.elim (kn 35 _ rfl rfl) fun v hv => l_call (fun v w' => v = .bool false ∧ Low w w') rfl rfl rfl Try.func12 rfl (args3 rfl rfl hu.1.ev hv.1.ev) ((calls_bool (Clean.calls _ u v [] [leafC] [leafA] (by decide) (by decide) (by decide) shortC shortA _ (OwnF.nil _ 0 0 _).rd hu.2 hv.2) aw5).mono fun _ _ ⟨e, k⟩ => ⟨_, e, rfl, k⟩) fun _ _ hx => l_end ⟨_, rfl, hx.2, hx.1⟩)
  · exact (stepS_val (.bool true) _ rfl rfl rfl Low.refl (fun _ => rfl) fun a w z lw kp kn => q_not (b := false) rfl (at_is (u := .bool false) (w := w) (kn 36 _ rfl rfl)).ev rfl)
  · exact (stepS_val (.bool true) _ rfl rfl rfl Low.refl (fun _ => rfl) fun a w z lw kp kn => q_pick (b := true) (.bool true) rfl (at_is (u := .bool true) (w := w) (kn 31 _ rfl rfl)).ev (at_is (u := .bool true) (w := w) (kn 37 _ rfl rfl)).ev rfl)
  · exact (stepS_val (.bool true) _ rfl rfl rfl Low.refl (fun _ => rfl) fun a w z lw kp kn => q_assign _ _ rfl (at_is (u := .bool true) (w := w) (kn 38 _ rfl rfl)).ev rfl)
  intro a19 w19 z19 h19 kp kn
  have s1_19 := kp _ _ rfl s1_18
  have s2_19 := kp _ _ rfl s2_18
  have s3_19 := kp _ _ rfl s3_18
  have s4_19 := kp _ _ rfl s4_18
  have s5_19 := kp _ _ rfl s5_18
  have s7_19 := kp _ _ rfl s7_18
  have s28_19 := at_is (u := p11) (w := w19) (kn 0 _ rfl)
  have s29_19 := at_is (u := .int .i64 (((([leafB]).length) : Nat) : Int)) (w := w19) (kn 1 _ rfl)
  have s30_19 := at_is (u := .bool true) (w := w19) (kn 2 _ rfl)
  have s31_19 := at_is (u := .bool true) (w := w19) (kn 3 _ rfl)
  have s32_19 := at_is (u := p11) (w := w19) (kn 4 _ rfl)
  have s33_19 := at_is (u := pAt p11 (0 * 3)) (w := w19) (kn 5 _ rfl)
  have s34_19 := at_is (u := .agg (#[.string ((([leafB]).getD 0 zL).f0), .int .i64 ((([leafB]).getD 0 zL).f1), .string ((([leafB]).getD 0 zL).f2)])) (w := w19) (kn 6 _ rfl)
  have s35_19 := at_is (u := .agg (#[.string leafB.f0, .int .i64 leafB.f1, .string leafB.f2])) (w := w19) (kn 7 _ rfl)
  have s36_19 := at_is (u := .bool true) (w := w19) (kn 8 _ rfl)
  have s37_19 := at_is (u := .bool true) (w := w19) (kn 9 _ rfl)
  have s38_19 := at_is (u := .bool true) (w := w19) (kn 10 _ rfl)
  have s39_19 := at_is (u := q11) (w := w19) (kn 11 _ rfl)
  have s40_19 := at_is (u := .int .i64 (((([] : List ByteArray).length) : Nat) : Int)) (w := w19) (kn 12 _ rfl)
  have s41_19 := at_is (u := .bool true) (w := w19) (kn 13 _ rfl)
  have s42_19 := at_is (u := .bool true) (w := w19) (kn 14 _ rfl)
  have s43_19 := at_is (u := .bool true) (w := w19) (kn 15 _ rfl)
  have s44_19 := at_is (u := q16) (w := w19) (kn 16 _ rfl)
  have s45_19 := at_is (u := .int .i64 (((([⟨#[97]⟩] : List ByteArray).length) : Nat) : Int)) (w := w19) (kn 17 _ rfl)
  have s46_19 := at_is (u := .bool true) (w := w19) (kn 18 _ rfl)
  have s47_19 := at_is (u := .bool true) (w := w19) (kn 19 _ rfl)
  have s48_19 := at_is (u := .bool true) (w := w19) (kn 20 _ rfl)
  have s49_19 := at_is (u := q16) (w := w19) (kn 21 _ rfl)
  have s50_19 := at_is (u := pAt q16 (0 * 1)) (w := w19) (kn 22 _ rfl)
  have s51_19 := at_is (u := .string (([⟨#[97]⟩] : List ByteArray).getD 0 ByteArray.empty)) (w := w19) (kn 23 _ rfl)
  have s52_19 := at_is (u := .bool true) (w := w19) (kn 24 _ rfl)
  have s53_19 := at_is (u := .bool true) (w := w19) (kn 25 _ rfl)
  have s54_19 := at_is (u := .bool true) (w := w19) (kn 26 _ rfl)
  have s55_19 := at_is (u := .agg (#[.string leafA.f0, .int .i64 leafA.f1, .string leafA.f2])) (w := w19) (kn 27 _ rfl)
  have s57_19 := at_is (u := .bool true) (w := w19) (kn 29 _ rfl)
  have s58_19 := at_is (u := .bool true) (w := w19) (kn 30 _ rfl)
  have s59_19 := at_is (u := .bool true) (w := w19) (kn 31 _ rfl)
  have s60_19 := at_is (u := .agg (#[.string leafC.f0, .int .i64 leafC.f1, .string leafC.f2])) (w := w19) (kn 32 _ rfl)
  have s62_19 := at_is (u := .agg (#[.string leafA.f0, .int .i64 leafA.f1, .string leafA.f2])) (w := w19) (kn 34 _ rfl)
  have s64_19 := at_is (u := .bool false) (w := w19) (kn 36 _ rfl)
  have s65_19 := at_is (u := .bool true) (w := w19) (kn 37 _ rfl)
  have s66_19 := at_is (u := .bool true) (w := w19) (kn 38 _ rfl)
  have s0_19 := at_is (u := .bool true) (w := w19) (kn 39 _ rfl)
  have kg1_19 := h19.blk kg1_16
  have kg2_19 := h19.blk kg2_16
  have kg3_19 := h19.blk kg3_16
  have ob11_19 := ob11_16.low h19
  have oc11_19 := oc11_16.low h19
  have oc16_19 := oo16.low h19
  clear kp kn
  refine e_fresh z19 ?_
  intro a20 z20 m20
  have s0_20 := m20 _ _ s0_19
  have low20 := (low18.trans h19)
  clear m20
  refine e_then ?_
  refine wp_ret ?_
  refine r_tmp rfl z20.defers s0_20 ?_
  exact ⟨rfl, low20⟩
theorem MergeThree.calls (vb vo vt : Value) (lb lo lt : List LfL) (w0 : World) (hvb : RdF w0 3 vb lb.length (lb.map encL).flatten) (hvo : RdF w0 3 vo lo.length (lo.map encL).flatten) (hvt : RdF w0 3 vt lt.length (lt.map encL).flatten) : Calls Try.prog 3 #[vb, vo, vt] w0 fun e w' => e = .returned (.bool true) ∧ Low w0 w' := by
  refine c_fun (R := _) Try.func3 rfl 55 rfl (Nat.le_of_ble_eq_true rfl) ?_
  intro a z hA
  have s0 := hA 0 _ rfl
  have s1 := hA 1 _ rfl
  have s2 := hA 2 _ rfl
  clear hA
  refine c_seq ?_
  refine c_region ?_
  refine l_q rfl (q_assign _ _ rfl rfl ?_)
  refine l_end ?_
  refine e_fresh z.put ?_
  intro a1 z1 m1
  have s0_1 := m1 _ _ (s0.ne rfl)
  have s1_1 := m1 _ _ (s1.ne rfl)
  have s2_1 := m1 _ _ (s2.ne rfl)
  clear m1
  refine e_then ?_
  refine c_seq ?_
  refine c_seq ?_
  refine c_region ?_
  refine l_call (fun v w' => v = .bool true ∧ Low w0 w') rfl rfl rfl Try.func5 rfl (show Array.map _ _ = (#[] : Array Value) from by simp) ((Awake.calls _).mono fun _ _ ⟨e, k⟩ => ⟨_, e, rfl, k⟩) ?_
  rintro _ w2 ⟨rfl, h2⟩
  have ovb_2 := hvb.low h2
  have ovo_2 := hvo.low h2
  have ovt_2 := hvt.low h2
  refine l_q rfl (q_not (b := true) rfl (At.hit z1 rfl).ev ?_)
  refine l_end ?_
  refine e_fresh z1.put.put ?_
  intro a3 z3 m3
  have s0_3 := m3 _ _ ((s0_1.ne rfl).ne rfl)
  have s1_3 := m3 _ _ ((s1_1.ne rfl).ne rfl)
  have s2_3 := m3 _ _ ((s2_1.ne rfl).ne rfl)
  have s12_3 := m3 _ _ (At.hit z1.put rfl)
  have low3 := h2
  clear m3
  refine e_then ?_
  refine c_false s12_3 ?_
  refine wp_skip ?_
  refine e_then ?_
  refine c_seq ?_
  refine c_seq ?_
  by_cases hb4 : mayB [lb, lo, lt] = true
  · skip
    refine c_region ?_
    refine l_q rfl (q_move _ _ rfl s0_3.ev ?_)
    refine l_q rfl (q_move _ _ rfl (s1_3.ne rfl).ev ?_)
    refine l_q rfl (q_move _ _ rfl ((s2_3.ne rfl).ne rfl).ev ?_)
    refine l_lit3 rfl rfl Try.underlying44 rec22 (((At.hit z3 rfl).ne rfl).ne rfl).ev ((At.hit z3.put rfl).ne rfl).ev (At.hit z3.put.put rfl).ev (RdF.one ovb_2) (RdF.one ovo_2) (RdF.one ovt_2) ?_
    intro g16_5 w5 hg5 k5 h5
    have geg16_5 := Nat.le_trans low3.ge hg5
    have ovb_5 := ovb_2.low h5
    have ovo_5 := ovo_2.low h5
    have ovt_5 := ovt_2.low h5
    have og16_5_5 := rdFF3 k5 ovb_5 ovo_5 ovt_5
    refine l_call (fun v w' => v = .bool true ∧ Low w5 w') rfl rfl rfl Try.func6 rfl (args1 rfl (At.hit z3.put.put.put rfl).ev) (((calls_bool (May.calls _ _ ([lb, lo, lt]) (by simp) _ og16_5_5) hb4)).mono fun _ _ ⟨e, k⟩ => ⟨_, e, rfl, k⟩) ?_
    rintro _ w6 ⟨rfl, h6⟩
    have kg16_5_6 := h6.blk k5
    have ovb_6 := ovb_5.low h6
    have ovo_6 := ovo_5.low h6
    have ovt_6 := ovt_5.low h6
    have oL5_6 := og16_5_5.low h6
    refine l_q rfl (q_not (b := true) rfl (At.hit z3.put.put.put.put rfl).ev ?_)
    refine l_end ?_
    refine e_fresh z3.put.put.put.put.put.put ?_
    intro a7 z7 m7
    have s0_7 := m7 _ _ ((((((s0_3.ne rfl).ne rfl).ne rfl).ne rfl).ne rfl).ne rfl)
    have s1_7 := m7 _ _ ((((((s1_3.ne rfl).ne rfl).ne rfl).ne rfl).ne rfl).ne rfl)
    have s2_7 := m7 _ _ ((((((s2_3.ne rfl).ne rfl).ne rfl).ne rfl).ne rfl).ne rfl)
    have s18_7 := m7 _ _ (At.hit z3.put.put.put.put.put rfl)
    have low7 := ((low3.trans h5).trans h6)
    clear m7
    refine e_then ?_
    refine c_false s18_7 ?_
    refine wp_skip ?_
    refine e_then ?_
    refine c_seq ?_
    obtain ⟨kb, ko, kt⟩ := may3 hb4
    obtain ⟨rb, sb, nb, _⟩ := okRow kb
    obtain ⟨ro, so, no, _⟩ := okRow ko
    obtain ⟨rt, st, nt, _⟩ := okRow kt
    have hpl := paths_len lb lo lt
    have hol : (outF lb lo lt).length ≤ 1000 := by rw [← out_end]; exact out_len lb lo lt _ _ 1000 (by omega)
    have hbl := badA_len lb lo lt
    have hbf : (badF lb lo lt).length ≤ 1000 := by rw [← bad_end]; exact bad_len lb lo lt _ _ 1000 (by omega)
    refine c_region ?_
    refine l_q rfl (q_move _ _ rfl s0_7.ev ?_)
    refine l_q rfl (q_move _ _ rfl (s1_7.ne rfl).ev ?_)
    refine l_q rfl (q_move _ _ rfl ((s2_7.ne rfl).ne rfl).ev ?_)
    refine l_call _ rfl rfl rfl Try.func7 rfl (args3 rfl (((At.hit z7 rfl).ne rfl).ne rfl).ev ((At.hit z7.put rfl).ne rfl).ev (At.hit z7.put.put rfl).ev) (Three.calls _ _ _ lb lo lt (by omega) (by omega) (by omega) so st _ ovb_6 ovo_6 ovt_6) ?_
    rintro _ w8 ⟨p8, q8, rfl, o8, oo8, h8⟩
    replace o8 := o8.base low7.ge
    replace oo8 := oo8.base low7.ge
    have ovb_8 := ovb_6.low h8
    have ovo_8 := ovo_6.low h8
    have ovt_8 := ovt_6.low h8
    refine l_q rfl (q_move _ _ rfl (At.hit z7.put.put.put rfl).ev ?_)
    refine l_q rfl (q_extract rfl (At.hit z7.put.put.put.put rfl).ev rfl ?_)
    refine l_q rfl (q_extract rfl ((At.hit z7.put.put.put.put rfl).ne rfl).ev rfl ?_)
    refine l_q rfl (q_assign _ _ rfl ((At.hit z7.put.put.put.put.put rfl).ne rfl).ev ?_)
    refine l_fresh z7.put.put.put.put.put.put.put.put ?_
    intro a9 z9 m9
    have s0_9 := m9 _ _ ((((((((s0_7.ne rfl).ne rfl).ne rfl).ne rfl).ne rfl).ne rfl).ne rfl).ne rfl)
    have s1_9 := m9 _ _ ((((((((s1_7.ne rfl).ne rfl).ne rfl).ne rfl).ne rfl).ne rfl).ne rfl).ne rfl)
    have s2_9 := m9 _ _ ((((((((s2_7.ne rfl).ne rfl).ne rfl).ne rfl).ne rfl).ne rfl).ne rfl).ne rfl)
    have s7_9 := m9 _ _ (At.hit z7.put.put.put.put.put.put.put rfl)
    have s25_9 := m9 _ _ ((At.hit z7.put.put.put.put.put.put rfl).ne rfl)
    clear m9
    refine l_q rfl (q_assign _ _ rfl s25_9.ev ?_)
    refine l_end ?_
    refine e_fresh z9.put ?_
    intro a10 z10 m10
    have s0_10 := m10 _ _ (s0_9.ne rfl)
    have s1_10 := m10 _ _ (s1_9.ne rfl)
    have s2_10 := m10 _ _ (s2_9.ne rfl)
    have s7_10 := m10 _ _ (s7_9.ne rfl)
    have s8_10 := m10 _ _ (At.hit z9 rfl)
    have low10 := (low7.trans h8)
    clear m10
    refine e_then ?_
    refine c_seq ?_
    refine c_region ?_
    refine l_q rfl (q_move _ _ rfl s0_10.ev ?_)
    refine l_call _ rfl rfl rfl Try.func9 rfl (args1 rfl (At.hit z10 rfl).ev) (Of.calls _ lb (by omega) _ ovb_8) ?_
    rintro v11 w11 ⟨o11, h11⟩
    replace o11 := o11.base low10.ge
    have ovb_11 := ovb_8.low h11
    have ovo_11 := ovo_8.low h11
    have ovt_11 := ovt_8.low h11
    have ob8_11 := o8.low h11
    have oc8_11 := oo8.low h11
    refine l_q rfl (q_move _ _ rfl ((s1_10.ne rfl).ne rfl).ev ?_)
    refine l_call _ rfl rfl rfl Try.func9 rfl (args1 rfl (At.hit z10.put.put rfl).ev) (Of.calls _ lo (by omega) _ ovo_11) ?_
    rintro v12 w12 ⟨o12, h12⟩
    replace o12 := o12.base (low10.trans h11).ge
    have ovb_12 := ovb_11.low h12
    have ovo_12 := ovo_11.low h12
    have ovt_12 := ovt_11.low h12
    have ob8_12 := ob8_11.low h12
    have oc8_12 := oc8_11.low h12
    have ob11_12 := o11.low h12
    refine l_q rfl (q_move _ _ rfl ((((s2_10.ne rfl).ne rfl).ne rfl).ne rfl).ev ?_)
    refine l_call _ rfl rfl rfl Try.func9 rfl (args1 rfl (At.hit z10.put.put.put.put rfl).ev) (Of.calls _ lt (by omega) _ ovt_12) ?_
    rintro v13 w13 ⟨o13, h13⟩
    replace o13 := o13.base ((low10.trans h11).trans h12).ge
    have ovb_13 := ovb_12.low h13
    have ovo_13 := ovo_12.low h13
    have ovt_13 := ovt_12.low h13
    have ob8_13 := ob8_12.low h13
    have oc8_13 := oc8_12.low h13
    have ob11_13 := ob11_12.low h13
    have ob12_13 := o12.low h13
    refine l_call _ rfl rfl rfl Try.func8 rfl (args3 rfl (((((At.hit z10.put rfl).ne rfl).ne rfl).ne rfl).ne rfl).ev (((At.hit z10.put.put.put rfl).ne rfl).ne rfl).ev (At.hit z10.put.put.put.put.put rfl).ev) (ThreeR.calls _ _ _ (lb.map toR) (lo.map toR) (lt.map toR) (by rw [List.length_map]; omega) (by rw [List.length_map]; omega) (by rw [List.length_map]; omega) _ ob11_13.rd ob12_13.rd o13.rd) ?_
    rintro _ w14 ⟨p14, q14, rfl, o14, oo14, h14⟩
    replace o14 := o14.base (((low10.trans h11).trans h12).trans h13).ge
    replace oo14 := oo14.base (((low10.trans h11).trans h12).trans h13).ge
    have ovb_14 := ovb_13.low h14
    have ovo_14 := ovo_13.low h14
    have ovt_14 := ovt_13.low h14
    have ob8_14 := ob8_13.low h14
    have oc8_14 := oc8_13.low h14
    have ob11_14 := ob11_13.low h14
    have ob12_14 := ob12_13.low h14
    have ob13_14 := o13.low h14
    refine l_q rfl (q_move _ _ rfl (At.hit z10.put.put.put.put.put.put rfl).ev ?_)
    refine l_fresh z10.put.put.put.put.put.put.put.put ?_
    intro a15 z15 m15
    have s0_15 := m15 _ _ ((((((((s0_10.ne rfl).ne rfl).ne rfl).ne rfl).ne rfl).ne rfl).ne rfl).ne rfl)
    have s1_15 := m15 _ _ ((((((((s1_10.ne rfl).ne rfl).ne rfl).ne rfl).ne rfl).ne rfl).ne rfl).ne rfl)
    have s2_15 := m15 _ _ ((((((((s2_10.ne rfl).ne rfl).ne rfl).ne rfl).ne rfl).ne rfl).ne rfl).ne rfl)
    have s7_15 := m15 _ _ ((((((((s7_10.ne rfl).ne rfl).ne rfl).ne rfl).ne rfl).ne rfl).ne rfl).ne rfl)
    have s8_15 := m15 _ _ ((((((((s8_10.ne rfl).ne rfl).ne rfl).ne rfl).ne rfl).ne rfl).ne rfl).ne rfl)
    have s26_15 := m15 _ _ (At.hit z10.put.put.put.put.put.put.put rfl)
    clear m15
    refine l_q rfl (q_extract rfl s26_15.ev rfl ?_)
    refine l_q rfl (q_extract rfl (s26_15.ne rfl).ev rfl ?_)
    refine l_q rfl (q_assign _ _ rfl ((At.hit z15 rfl).ne rfl).ev ?_)
    refine l_q rfl (q_assign _ _ rfl ((At.hit z15.put rfl).ne rfl).ev ?_)
    refine l_end ?_
    refine e_fresh z15.put.put.put.put ?_
    intro a16 z16 m16
    have s0_16 := m16 _ _ ((((s0_15.ne rfl).ne rfl).ne rfl).ne rfl)
    have s1_16 := m16 _ _ ((((s1_15.ne rfl).ne rfl).ne rfl).ne rfl)
    have s2_16 := m16 _ _ ((((s2_15.ne rfl).ne rfl).ne rfl).ne rfl)
    have s7_16 := m16 _ _ ((((s7_15.ne rfl).ne rfl).ne rfl).ne rfl)
    have s8_16 := m16 _ _ ((((s8_15.ne rfl).ne rfl).ne rfl).ne rfl)
    have s9_16 := m16 _ _ ((At.hit z15.put.put rfl).ne rfl)
    have s10_16 := m16 _ _ (At.hit z15.put.put.put rfl)
    have low16 := ((((low10.trans h11).trans h12).trans h13).trans h14)
    clear m16
    refine e_then ?_
    refine c_seq ?_
    refine c_region ?_
    refine l_q rfl (q_move _ _ rfl s7_16.ev ?_)
    refine l_call _ rfl rfl rfl Try.func9 rfl (args1 rfl (At.hit z16 rfl).ev) (Of.calls _ (outF lb lo lt) (by omega) _ ob8_14.rd) ?_
    rintro v17 w17 ⟨o17, h17⟩
    replace o17 := o17.base low16.ge
    have ovb_17 := ovb_14.low h17
    have ovo_17 := ovo_14.low h17
    have ovt_17 := ovt_14.low h17
    have ob8_17 := ob8_14.low h17
    have oc8_17 := oc8_14.low h17
    have ob14_17 := o14.low h17
    have oc14_17 := oo14.low h17
    refine l_q rfl (q_move _ _ rfl ((s9_16.ne rfl).ne rfl).ev ?_)
    refine l_call (fun v w' => v = .bool true ∧ Low w17 w') rfl rfl rfl Try.func10 rfl (args2 rfl ((At.hit z16.put rfl).ne rfl).ev (At.hit z16.put.put rfl).ev) (((calls_bool (Same.calls _ _ ((outF lb lo lt).map toR) (outS (lb.map toR) (lo.map toR) (lt.map toR)) (by rw [List.length_map]; omega) (by rw [← out_same rb ro rt, List.length_map]; omega) _ o17.rd ob14_17.rd) (decide_eq_true (out_same rb ro rt)))).mono fun _ _ ⟨e, k⟩ => ⟨_, e, rfl, k⟩) ?_
    rintro _ w18 ⟨rfl, h18⟩
    have ovb_18 := ovb_17.low h18
    have ovo_18 := ovo_17.low h18
    have ovt_18 := ovt_17.low h18
    have ob8_18 := ob8_17.low h18
    have oc8_18 := oc8_17.low h18
    have ob14_18 := ob14_17.low h18
    have oc14_18 := oc14_17.low h18
    have ob17_18 := o17.low h18
    refine l_q rfl (q_move _ _ rfl (At.hit z16.put.put.put rfl).ev ?_)
    refine l_qg (wanted_is (j := 4) (d := 40) (b := true) rfl rfl (At.hit z16.put.put.put.put rfl) rfl) (q_move _ _ rfl (((((s8_16.ne rfl).ne rfl).ne rfl).ne rfl).ne rfl).ev ?_)
    refine l_qg (wanted_is (j := 4) (d := 40) (b := true) rfl rfl ((At.hit z16.put.put.put.put rfl).ne rfl) rfl) (q_move _ _ rfl ((((((s10_16.ne rfl).ne rfl).ne rfl).ne rfl).ne rfl).ne rfl).ev ?_)
    refine l_callg (fun v w' => v = .bool true ∧ Low w18 w') (wanted_is (j := 4) (d := 40) (b := true) rfl rfl (((At.hit z16.put.put.put.put rfl).ne rfl).ne rfl) rfl) rfl rfl Try.func11 rfl (args2 rfl ((At.hit z16.put.put.put.put.put rfl).ne rfl).ev (At.hit z16.put.put.put.put.put.put rfl).ev) (((calls_bool (Texts.calls _ _ (badA lb lo lt) (wantS (lb.map toR) (lo.map toR) (lt.map toR)) (by omega) (by rw [← want_same rb ro rt]; omega) _ oc8_18.rd oc14_18.rd) (decide_eq_true (want_same rb ro rt)))).mono fun _ _ ⟨e, k⟩ => ⟨_, e, rfl, k⟩) ?_
    rintro _ w19 ⟨rfl, h19⟩
    have ovb_19 := ovb_18.low h19
    have ovo_19 := ovo_18.low h19
    have ovt_19 := ovt_18.low h19
    have ob8_19 := ob8_18.low h19
    have oc8_19 := oc8_18.low h19
    have ob14_19 := ob14_18.low h19
    have oc14_19 := oc14_18.low h19
    have ob17_19 := ob17_18.low h19
    refine l_fresh z16.put.put.put.put.put.put.put.put ?_
    intro a20 z20 m20
    have s0_20 := m20 _ _ ((((((((s0_16.ne rfl).ne rfl).ne rfl).ne rfl).ne rfl).ne rfl).ne rfl).ne rfl)
    have s1_20 := m20 _ _ ((((((((s1_16.ne rfl).ne rfl).ne rfl).ne rfl).ne rfl).ne rfl).ne rfl).ne rfl)
    have s2_20 := m20 _ _ ((((((((s2_16.ne rfl).ne rfl).ne rfl).ne rfl).ne rfl).ne rfl).ne rfl).ne rfl)
    have s10_20 := m20 _ _ ((((((((s10_16.ne rfl).ne rfl).ne rfl).ne rfl).ne rfl).ne rfl).ne rfl).ne rfl)
    have s40_20 := m20 _ _ ((((At.hit z16.put.put.put.put rfl).ne rfl).ne rfl).ne rfl)
    have s43_20 := m20 _ _ (At.hit z16.put.put.put.put.put.put.put rfl)
    clear m20
    refine l_q rfl (q_pick (b := true) (.bool true) rfl s40_20.ev s43_20.ev ?_)
    refine l_q rfl (q_move _ _ rfl (At.hit z20 rfl).ev ?_)
    refine l_qg (wanted_is (j := 9) (d := 45) (b := true) rfl rfl (At.hit z20.put rfl) rfl) (q_move _ _ rfl ((s0_20.ne rfl).ne rfl).ev ?_)
    refine l_qg (wanted_is (j := 9) (d := 45) (b := true) rfl rfl ((At.hit z20.put rfl).ne rfl) rfl) (q_move _ _ rfl (((s1_20.ne rfl).ne rfl).ne rfl).ev ?_)
    refine l_qg (wanted_is (j := 9) (d := 45) (b := true) rfl rfl (((At.hit z20.put rfl).ne rfl).ne rfl) rfl) (q_move _ _ rfl ((((s2_20.ne rfl).ne rfl).ne rfl).ne rfl).ev ?_)
    refine l_callg (fun v w' => v = .bool ((badA lb lo lt).isEmpty) ∧ Low w19 w') (wanted_is (j := 9) (d := 45) (b := true) rfl rfl ((((At.hit z20.put rfl).ne rfl).ne rfl).ne rfl) rfl) rfl rfl Try.func12 rfl (args3 rfl (((At.hit z20.put.put rfl).ne rfl).ne rfl).ev ((At.hit z20.put.put.put rfl).ne rfl).ev (At.hit z20.put.put.put.put rfl).ev) ((Clean.calls _ _ _ lb lo lt (by omega) (by omega) (by omega) so st _ ovb_19 ovo_19 ovt_19).mono fun _ _ ⟨e, k⟩ => ⟨_, e, rfl, k⟩) ?_
    rintro _ w21 ⟨rfl, h21⟩
    have ovb_21 := ovb_19.low h21
    have ovo_21 := ovo_19.low h21
    have ovt_21 := ovt_19.low h21
    have ob8_21 := ob8_19.low h21
    have oc8_21 := oc8_19.low h21
    have ob14_21 := ob14_19.low h21
    have oc14_21 := oc14_19.low h21
    have ob17_21 := ob17_19.low h21
    refine l_qg (wanted_is (j := 9) (d := 45) (b := true) rfl rfl (((((At.hit z20.put rfl).ne rfl).ne rfl).ne rfl).ne rfl) rfl) (q_move _ _ rfl ((((((s10_20.ne rfl).ne rfl).ne rfl).ne rfl).ne rfl).ne rfl).ev ?_)
    refine l_qg (wanted_is (j := 9) (d := 45) (b := true) rfl rfl ((((((At.hit z20.put rfl).ne rfl).ne rfl).ne rfl).ne rfl).ne rfl) rfl) (q_lenF rfl rfl Try.underlying25 (At.hit z20.put.put.put.put.put.put rfl).ev oc14_21.rd ?_)
    refine l_fresh z20.put.put.put.put.put.put.put.put ?_
    intro a22 z22 m22
    have s45_22 := m22 _ _ (((((((At.hit z20.put rfl).ne rfl).ne rfl).ne rfl).ne rfl).ne rfl).ne rfl)
    have s49_22 := m22 _ _ (((At.hit z20.put.put.put.put.put rfl).ne rfl).ne rfl)
    have s51_22 := m22 _ _ (At.hit z20.put.put.put.put.put.put.put rfl)
    clear m22
    refine l_qg (wanted_is (j := 9) (d := 45) (b := true) rfl rfl s45_22 rfl) (q_eql _ rfl s51_22.ev rfl rfl ?_)
    refine l_qg (wanted_is (j := 9) (d := 45) (b := true) rfl rfl (s45_22.ne rfl) rfl) (q_boolq true rfl Try.underlying4 (s49_22.ne rfl).ev (At.hit z22 rfl).ev (by rw [want_same rb ro rt, len_zero]; exact beq_self_eq_true _) ?_)
    refine l_q rfl (q_pick (b := true) (.bool true) rfl ((s45_22.ne rfl).ne rfl).ev (At.hit z22.put rfl).ev ?_)
    refine l_q rfl (q_assign _ _ rfl (At.hit z22.put.put rfl).ev ?_)
    refine l_end ?_
    refine e_fresh z22.put.put.put.put ?_
    intro a23 z23 m23
    have s6_23 := m23 _ _ (At.hit z22.put.put.put rfl)
    have low23 := ((((low16.trans h17).trans h18).trans h19).trans h21)
    clear m23
    refine e_then ?_
    refine wp_ret ?_
    refine r_tmp rfl z23.defers s6_23 ?_
    exact ⟨rfl, low23⟩
  · skip
    refine c_region ?_
    refine l_q rfl (q_move _ _ rfl s0_3.ev ?_)
    refine l_q rfl (q_move _ _ rfl (s1_3.ne rfl).ev ?_)
    refine l_q rfl (q_move _ _ rfl ((s2_3.ne rfl).ne rfl).ev ?_)
    refine l_lit3 rfl rfl Try.underlying44 rec22 (((At.hit z3 rfl).ne rfl).ne rfl).ev ((At.hit z3.put rfl).ne rfl).ev (At.hit z3.put.put rfl).ev (RdF.one ovb_2) (RdF.one ovo_2) (RdF.one ovt_2) ?_
    intro g16_24 w24 hg24 k24 h24
    have geg16_24 := Nat.le_trans low3.ge hg24
    have ovb_24 := ovb_2.low h24
    have ovo_24 := ovo_2.low h24
    have ovt_24 := ovt_2.low h24
    have og16_24_24 := rdFF3 k24 ovb_24 ovo_24 ovt_24
    refine l_call (fun v w' => v = .bool false ∧ Low w24 w') rfl rfl rfl Try.func6 rfl (args1 rfl (At.hit z3.put.put.put rfl).ev) (((calls_bool (May.calls _ _ ([lb, lo, lt]) (by simp) _ og16_24_24) (eq_false_of_ne_true hb4))).mono fun _ _ ⟨e, k⟩ => ⟨_, e, rfl, k⟩) ?_
    rintro _ w25 ⟨rfl, h25⟩
    have kg16_24_25 := h25.blk k24
    have ovb_25 := ovb_24.low h25
    have ovo_25 := ovo_24.low h25
    have ovt_25 := ovt_24.low h25
    have oL24_25 := og16_24_24.low h25
    refine l_q rfl (q_not (b := false) rfl (At.hit z3.put.put.put.put rfl).ev ?_)
    refine l_end ?_
    refine e_fresh z3.put.put.put.put.put.put ?_
    intro a26 z26 m26
    have s0_26 := m26 _ _ ((((((s0_3.ne rfl).ne rfl).ne rfl).ne rfl).ne rfl).ne rfl)
    have s1_26 := m26 _ _ ((((((s1_3.ne rfl).ne rfl).ne rfl).ne rfl).ne rfl).ne rfl)
    have s2_26 := m26 _ _ ((((((s2_3.ne rfl).ne rfl).ne rfl).ne rfl).ne rfl).ne rfl)
    have s18_26 := m26 _ _ (At.hit z3.put.put.put.put.put rfl)
    have low26 := ((low3.trans h24).trans h25)
    clear m26
    refine e_then ?_
    refine c_true s18_26 ?_
    refine c_seq ?_
    refine c_region ?_
    refine l_q rfl (q_assign _ _ rfl rfl ?_)
    refine l_end ?_
    refine e_fresh z26.put ?_
    intro a27 z27 m27
    have s6_27 := m27 _ _ (At.hit z26 rfl)
    clear m27
    refine e_then ?_
    refine wp_ret ?_
    refine ret_then ?_
    refine r_tmp rfl z27.defers s6_27 ?_
    exact ⟨rfl, low26⟩
end Go.Proofs.Ytenbgnlkkmnmhaa.Q
end
/-! E7 -/
section
namespace Go.Proofs.Ytenbgnlkkmnmhaa.Q
open Go.RowKit Go.Proofs.Ytenbgnlkkmnmhaa.P
open Go.Proofs.YtenbgnlkkmnmhaaW.PrintWords (bytesOf bytesOf_length)
set_option linter.unusedVariables false
set_option linter.unusedSimpArgs false
set_option maxRecDepth 100000
set_option maxHeartbeats 4000000
attribute [local irreducible] wpList wpQuiet qch Code.wp Oper.quiet Act.put At Region.wanted yielded
theorem Diff.calls (va vb : Value) (la lb : List LfL) (hla : la.length ≤ 100000) (hlb : lb.length ≤ 100000) (w0 : World) (hva : RdF w0 3 va la.length (la.map encL).flatten) (hvb : RdF w0 3 vb lb.length (lb.map encL).flatten) : Calls Try.prog 13 #[va, vb] w0 fun e w' => ∃ x, e = .returned x ∧ OwnF w' w0.heap.size 42 7 x (diffL la lb).length ((diffL la lb).map encT).flatten ∧ Low w0 w' := by
  refine c_fun (R := _) Try.func13 rfl 113 rfl (Nat.le_of_ble_eq_true rfl) ?_
  intro a z hA
  have s0 := hA 0 _ rfl
  have s1 := hA 1 _ rfl
  clear hA
  refine c_seq ?_
  refine c_region ?_
  refine l_q rfl (q_assign _ _ rfl rfl ?_)
  refine l_end ?_
  refine e_fresh z.put ?_
  intro a1 z1 m1
  have s0_1 := m1 _ _ (s0.ne rfl)
  have s1_1 := m1 _ _ (s1.ne rfl)
  clear m1
  refine e_then ?_
  refine c_seq ?_
  refine c_region ?_
  refine l_q rfl (q_assign _ _ rfl rfl ?_)
  refine l_end ?_
  refine e_fresh z1.put ?_
  intro a2 z2 m2
  have s0_2 := m2 _ _ (s0_1.ne rfl)
  have s1_2 := m2 _ _ (s1_1.ne rfl)
  have s5_2 := m2 _ _ (At.hit z1 rfl)
  clear m2
  refine e_then ?_
  refine c_seq ?_
  refine c_seq ?_
  refine c_region ?_
  refine l_q rfl (q_assign _ _ rfl rfl ?_)
  refine l_q rfl (q_assign _ _ rfl rfl ?_)
  refine l_end ?_
  refine e_fresh z2.put.put ?_
  intro a3 z3 m3
  have s0_3 := m3 _ _ ((s0_2.ne rfl).ne rfl)
  have s1_3 := m3 _ _ ((s1_2.ne rfl).ne rfl)
  have s5_3 := m3 _ _ ((s5_2.ne rfl).ne rfl)
  have s6_3 := m3 _ _ ((At.hit z2 rfl).ne rfl)
  have s7_3 := m3 _ _ (At.hit z2.put rfl)
  clear m3
  refine e_then ?_
  refine wp_block ?_
  have h0i : dI la lb 0 = 0 := rfl
  have h0k : dK la lb 0 = 0 := rfl
  refine c_loop (dN la lb) (fun r a w => ∃ v5 : Value, Fr 113 a ∧ At a 0 (va) ∧ At a 1 (vb) ∧ At a 5 (v5) ∧ At a 6 (.int .i64 (((dI la lb r) : Nat) : Int)) ∧ At a 7 (.int .i64 (((dK la lb r) : Nat) : Int)) ∧ OwnF w w0.heap.size 42 7 v5 (dO la lb r).length (((dO la lb r).map encT).flatten) ∧ Low w0 w) ?_ ?_ ?_
  · exact ⟨.slice none 0 0, z3, s0_3, s1_3, s5_3, (s6_3.same (congrArg (Value.int .i64) (by omega))), (s7_3.same (congrArg (Value.int .i64) (by omega))), (OwnF.nil _ _ _ _), (Low.refl _)⟩
  · intro r a4 w4 hk4 h
    obtain ⟨v5_4, z4, s0_4, s1_4, s5_4, s6_4, s7_4, ox5_4, low4⟩ := h
    clear s0_3 s1_3 s5_3 s6_3 s7_3 z3
    have hdr : r < dN la lb := by assumption
    obtain ⟨hdi, hdk, hdo⟩ := d_round (Nat.le_of_lt hdr)
    have hdm := d_more hdr
    have hdn := dN_lt la lb
    refine c_seq ?_
    refine c_seq ?_
    by_cases hb5 : dI la lb r < la.length
    · skip
      refine c_region ?_
      refine l_q rfl (q_move _ _ rfl s6_4.ev ?_)
      refine l_q rfl (q_move _ _ rfl (s0_4.ne rfl).ev ?_)
      refine l_q rfl (q_lenF rfl rfl Try.underlying22 (At.hit z4.put rfl).ev (hva.low low4) ?_)
      refine l_q rfl (q_lss true rfl (((At.hit z4 rfl).ne rfl).ne rfl).ev (At.hit z4.put.put rfl).ev (decide_eq_true (by omega)) ?_)
      refine l_q rfl (q_move _ _ rfl (At.hit z4.put.put.put rfl).ev ?_)
      refine l_skip (wanted_is (j := 4) (d := 13) (b := true) rfl rfl (At.hit z4.put.put.put.put rfl) rfl) ?_
      refine l_skip (wanted_is (j := 4) (d := 13) (b := true) rfl rfl ((At.hit z4.put.put.put.put rfl).ne rfl) rfl) ?_
      refine l_skip (wanted_is (j := 4) (d := 13) (b := true) rfl rfl (((At.hit z4.put.put.put.put rfl).ne rfl).ne rfl) rfl) ?_
      refine l_fresh z4.put.put.put.put.put.put.put.put ?_
      intro a6 z6 m6
      have s0_6 := m6 _ _ ((((((((s0_4.ne rfl).ne rfl).ne rfl).ne rfl).ne rfl).ne rfl).ne rfl).ne rfl)
      have s1_6 := m6 _ _ ((((((((s1_4.ne rfl).ne rfl).ne rfl).ne rfl).ne rfl).ne rfl).ne rfl).ne rfl)
      have s5_6 := m6 _ _ ((((((((s5_4.ne rfl).ne rfl).ne rfl).ne rfl).ne rfl).ne rfl).ne rfl).ne rfl)
      have s6_6 := m6 _ _ ((((((((s6_4.ne rfl).ne rfl).ne rfl).ne rfl).ne rfl).ne rfl).ne rfl).ne rfl)
      have s7_6 := m6 _ _ ((((((((s7_4.ne rfl).ne rfl).ne rfl).ne rfl).ne rfl).ne rfl).ne rfl).ne rfl)
      have s13_6 := m6 _ _ ((((At.hit z4.put.put.put.put rfl).ne rfl).ne rfl).ne rfl)
      have s14_6 := m6 _ _ (((At.hit z4.put.put.put.put.put rfl).ne rfl).ne rfl)
      have s16_6 := m6 _ _ (At.hit z4.put.put.put.put.put.put.put rfl)
      clear m6
      refine l_skip (wanted_is (j := 4) (d := 13) (b := true) rfl rfl s13_6 rfl) ?_
      refine l_q rfl (q_pick (b := true) (.bool true) rfl (s13_6.ne rfl).ev rfl ?_)
      refine l_end ?_
      refine e_fresh z6.put.put ?_
      intro a7 z7 m7
      have s0_7 := m7 _ _ ((s0_6.ne rfl).ne rfl)
      have s1_7 := m7 _ _ ((s1_6.ne rfl).ne rfl)
      have s5_7 := m7 _ _ ((s5_6.ne rfl).ne rfl)
      have s6_7 := m7 _ _ ((s6_6.ne rfl).ne rfl)
      have s7_7 := m7 _ _ ((s7_6.ne rfl).ne rfl)
      have s18_7 := m7 _ _ (At.hit z6.put rfl)
      clear m7
      refine e_then ?_
      refine c_true s18_7 ?_
      refine wp_skip ?_
      refine e_then ?_
      refine wp_block ?_
      refine c_seq ?_
      refine c_region ?_
      refine l_alloc rfl rfl zero42 ?_
      intro g8 w8 hg8 k8 h8
      have onx5_g8 : ∀ k, Value.ownBlock v5_4 = some k → k < g8 := fun k hk => Nat.lt_of_lt_of_le (OwnF.own_lt ox5_4 hk) hg8
      have geg8 := Nat.le_trans low4.ge hg8
      have ox5_8 := ox5_4.low h8
      have ova_8 := (hva.low low4).low h8
      have ovb_8 := (hvb.low low4).low h8
      refine l_end ?_
      refine e_fresh z7.put ?_
      intro a9 z9 m9
      have s0_9 := m9 _ _ (s0_7.ne rfl)
      have s1_9 := m9 _ _ (s1_7.ne rfl)
      have s5_9 := m9 _ _ (s5_7.ne rfl)
      have s6_9 := m9 _ _ (s6_7.ne rfl)
      have s7_9 := m9 _ _ (s7_7.ne rfl)
      have s8_9 := m9 _ _ (At.hit z7 rfl)
      have low9 := (low4.trans h8)
      clear m9
      refine e_then ?_
      refine c_seq ?_
      refine wp_block ?_
      refine c_seq ?_
      by_cases hb10 : dK la lb r = lb.length
      · skip
        refine region_lowg hm (by kernel_rfl) ?_
        refine gs rfl (q_move _ _ rfl s7_9.ev ?_)
        refine gs rfl (q_move _ _ rfl (s1_9.ne rfl).ev ?_)
        refine gs rfl (q_lenF rfl rfl Try.underlying22 (At.hit z9.put rfl).ev ovb_8 ?_)
        refine gs rfl (q_eql true rfl (((At.hit z9 rfl).ne rfl).ne rfl).ev (At.hit z9.put.put rfl).ev (decide_eq_true (by omega)) ?_)
        refine gs rfl (q_move _ _ rfl (At.hit z9.put.put.put rfl).ev ?_)
        refine gsk (wanted_is (j := 4) (d := 42) (b := true) rfl rfl (At.hit z9.put.put.put.put rfl) rfl) ?_
        refine gsk (wanted_is (j := 4) (d := 42) (b := true) rfl rfl ((At.hit z9.put.put.put.put rfl).ne rfl) rfl) ?_
        refine gsk (wanted_is (j := 4) (d := 42) (b := true) rfl rfl (((At.hit z9.put.put.put.put rfl).ne rfl).ne rfl) rfl) ?_
        refine g_fresh z9.put.put.put.put.put.put.put.put ?_
        intro a11 z11 m11
        have s0_11 := m11 _ _ ((((((((s0_9.ne rfl).ne rfl).ne rfl).ne rfl).ne rfl).ne rfl).ne rfl).ne rfl)
        have s1_11 := m11 _ _ ((((((((s1_9.ne rfl).ne rfl).ne rfl).ne rfl).ne rfl).ne rfl).ne rfl).ne rfl)
        have s5_11 := m11 _ _ ((((((((s5_9.ne rfl).ne rfl).ne rfl).ne rfl).ne rfl).ne rfl).ne rfl).ne rfl)
        have s6_11 := m11 _ _ ((((((((s6_9.ne rfl).ne rfl).ne rfl).ne rfl).ne rfl).ne rfl).ne rfl).ne rfl)
        have s7_11 := m11 _ _ ((((((((s7_9.ne rfl).ne rfl).ne rfl).ne rfl).ne rfl).ne rfl).ne rfl).ne rfl)
        have s8_11 := m11 _ _ ((((((((s8_9.ne rfl).ne rfl).ne rfl).ne rfl).ne rfl).ne rfl).ne rfl).ne rfl)
        have s42_11 := m11 _ _ ((((At.hit z9.put.put.put.put rfl).ne rfl).ne rfl).ne rfl)
        have s43_11 := m11 _ _ (((At.hit z9.put.put.put.put.put rfl).ne rfl).ne rfl)
        have s45_11 := m11 _ _ (At.hit z9.put.put.put.put.put.put.put rfl)
        clear m11
        refine gsk (wanted_is (j := 4) (d := 42) (b := true) rfl rfl s42_11 rfl) ?_
        refine gsk (wanted_is (j := 4) (d := 42) (b := true) rfl rfl (s42_11.ne rfl) rfl) ?_
        refine gsk (wanted_un (j := 9) (d := 47) rfl rfl (At.hit z11.put rfl)) ?_
        refine gsk (wanted_un (j := 9) (d := 47) rfl rfl ((At.hit z11.put rfl).ne rfl)) ?_
        refine gsk (wanted_un (j := 9) (d := 47) rfl rfl (((At.hit z11.put rfl).ne rfl).ne rfl)) ?_
        refine gsk (wanted_un (j := 9) (d := 47) rfl rfl ((((At.hit z11.put rfl).ne rfl).ne rfl).ne rfl)) ?_
        refine gsk (wanted_un (j := 9) (d := 47) rfl rfl (((((At.hit z11.put rfl).ne rfl).ne rfl).ne rfl).ne rfl)) ?_
        refine gsk (wanted_un (j := 9) (d := 47) rfl rfl ((((((At.hit z11.put rfl).ne rfl).ne rfl).ne rfl).ne rfl).ne rfl)) ?_
        refine g_fresh z11.put.put.put.put.put.put.put.put ?_
        intro a12 z12 m12
        have s0_12 := m12 _ _ ((((((((s0_11.ne rfl).ne rfl).ne rfl).ne rfl).ne rfl).ne rfl).ne rfl).ne rfl)
        have s1_12 := m12 _ _ ((((((((s1_11.ne rfl).ne rfl).ne rfl).ne rfl).ne rfl).ne rfl).ne rfl).ne rfl)
        have s5_12 := m12 _ _ ((((((((s5_11.ne rfl).ne rfl).ne rfl).ne rfl).ne rfl).ne rfl).ne rfl).ne rfl)
        have s6_12 := m12 _ _ ((((((((s6_11.ne rfl).ne rfl).ne rfl).ne rfl).ne rfl).ne rfl).ne rfl).ne rfl)
        have s7_12 := m12 _ _ ((((((((s7_11.ne rfl).ne rfl).ne rfl).ne rfl).ne rfl).ne rfl).ne rfl).ne rfl)
        have s8_12 := m12 _ _ ((((((((s8_11.ne rfl).ne rfl).ne rfl).ne rfl).ne rfl).ne rfl).ne rfl).ne rfl)
        have s42_12 := m12 _ _ ((((((((s42_11.ne rfl).ne rfl).ne rfl).ne rfl).ne rfl).ne rfl).ne rfl).ne rfl)
        have s47_12 := m12 _ _ (((((((At.hit z11.put rfl).ne rfl).ne rfl).ne rfl).ne rfl).ne rfl).ne rfl)
        have s52_12 := m12 _ _ ((At.hit z11.put.put.put.put.put.put rfl).ne rfl)
        have s53_12 := m12 _ _ (At.hit z11.put.put.put.put.put.put.put rfl)
        clear m12
        refine gsk (wanted_un (j := 9) (d := 47) rfl rfl s47_12) ?_
        refine gsk (wanted_un (j := 9) (d := 47) rfl rfl (s47_12.ne rfl)) ?_
        refine gsk (wanted_un (j := 9) (d := 47) rfl rfl ((s47_12.ne rfl).ne rfl)) ?_
        refine gsk (wanted_un (j := 9) (d := 47) rfl rfl (((s47_12.ne rfl).ne rfl).ne rfl)) ?_
        refine gsk (wanted_un (j := 9) (d := 47) rfl rfl ((((s47_12.ne rfl).ne rfl).ne rfl).ne rfl)) ?_
        refine gsk (wanted_is (j := 4) (d := 42) (b := true) rfl rfl (((((s42_12.ne rfl).ne rfl).ne rfl).ne rfl).ne rfl) rfl) ?_
        refine gs rfl (q_pick (b := true) (.bool true) rfl ((((((s42_12.ne rfl).ne rfl).ne rfl).ne rfl).ne rfl).ne rfl).ev rfl ?_)
        refine gs rfl (q_assign _ _ rfl (At.hit z12.put.put.put.put.put.put rfl).ev ?_)
        refine gz ?_
        intro w13 h13
        have kg8_13 := h13.blk k8
        have ox5_13 := ox5_8.low h13
        have ova_13 := ova_8.low h13
        have ovb_13 := ovb_8.low h13
        refine e_id ?_
        refine e_fresh z12.put.put.put.put.put.put.put.put ?_
        intro a14 z14 m14
        have s0_14 := m14 _ _ ((((((((s0_12.ne rfl).ne rfl).ne rfl).ne rfl).ne rfl).ne rfl).ne rfl).ne rfl)
        have s1_14 := m14 _ _ ((((((((s1_12.ne rfl).ne rfl).ne rfl).ne rfl).ne rfl).ne rfl).ne rfl).ne rfl)
        have s5_14 := m14 _ _ ((((((((s5_12.ne rfl).ne rfl).ne rfl).ne rfl).ne rfl).ne rfl).ne rfl).ne rfl)
        have s6_14 := m14 _ _ ((((((((s6_12.ne rfl).ne rfl).ne rfl).ne rfl).ne rfl).ne rfl).ne rfl).ne rfl)
        have s7_14 := m14 _ _ ((((((((s7_12.ne rfl).ne rfl).ne rfl).ne rfl).ne rfl).ne rfl).ne rfl).ne rfl)
        have s8_14 := m14 _ _ ((((((((s8_12.ne rfl).ne rfl).ne rfl).ne rfl).ne rfl).ne rfl).ne rfl).ne rfl)
        have s37_14 := m14 _ _ (At.hit z12.put.put.put.put.put.put.put rfl)
        have low14 := (low9.trans h13)
        clear m14
        refine e_then ?_
        refine c_true s37_14 ?_
        refine c_seq ?_
        refine region_low_tail 10 hm (by kernel_rfl) ?_
        simp only [List.take_succ_cons, List.take_zero, List.drop_succ_cons, List.drop_zero]
        refine qs (q_move _ _ rfl s0_14.ev ?_)
        refine qs (q_move _ _ rfl (s6_14.ne rfl).ev ?_)
        refine qs (q_idxF (j := (dI la lb r)) rfl Try.underlying22 sz37 ((At.hit z14 rfl).ne rfl).ev ova_13 (At.hit z14.put rfl).ev (by omega) ?_)
        refine qs (q_fldF 0 rfl fld37_0 (At.hit z14.put.put rfl).ev (ova_13.form (by omega)) ?_)
        refine qs (q_ld1 (u := .string ((la.getD (dI la lb r) zL).f0)) rfl Try.underlying9 rfl (At.hit z14.put.put.put rfl).ev (fun _ h => (ova_13.low h)) (by omega) ((flat_at encL_len zL _ (dI la lb r) 0 (by omega) (by decide)).trans rfl) ?_)
        refine qs (q_move _ _ rfl (((((s0_14.ne rfl).ne rfl).ne rfl).ne rfl).ne rfl).ev ?_)
        refine qs (q_move _ _ rfl ((((((s6_14.ne rfl).ne rfl).ne rfl).ne rfl).ne rfl).ne rfl).ev ?_)
        refine qs (q_idxF (j := (dI la lb r)) rfl Try.underlying22 sz37 ((At.hit z14.put.put.put.put.put rfl).ne rfl).ev ova_13 (At.hit z14.put.put.put.put.put.put rfl).ev (by omega) ?_)
        refine q_fresh z14.put.put.put.put.put.put.put.put ?_
        intro a15 z15 m15
        have s0_15 := m15 _ _ ((((((((s0_14.ne rfl).ne rfl).ne rfl).ne rfl).ne rfl).ne rfl).ne rfl).ne rfl)
        have s1_15 := m15 _ _ ((((((((s1_14.ne rfl).ne rfl).ne rfl).ne rfl).ne rfl).ne rfl).ne rfl).ne rfl)
        have s5_15 := m15 _ _ ((((((((s5_14.ne rfl).ne rfl).ne rfl).ne rfl).ne rfl).ne rfl).ne rfl).ne rfl)
        have s6_15 := m15 _ _ ((((((((s6_14.ne rfl).ne rfl).ne rfl).ne rfl).ne rfl).ne rfl).ne rfl).ne rfl)
        have s7_15 := m15 _ _ ((((((((s7_14.ne rfl).ne rfl).ne rfl).ne rfl).ne rfl).ne rfl).ne rfl).ne rfl)
        have s8_15 := m15 _ _ ((((((((s8_14.ne rfl).ne rfl).ne rfl).ne rfl).ne rfl).ne rfl).ne rfl).ne rfl)
        have s65_15 := m15 _ _ ((((At.hit z14.put.put.put.put rfl).ne rfl).ne rfl).ne rfl)
        have s68_15 := m15 _ _ (At.hit z14.put.put.put.put.put.put.put rfl)
        clear m15
        refine qs (q_ldR (vs := [.string ((la.getD (dI la lb r) zL).f0), .int .i64 ((la.getD (dI la lb r) zL).f1), .string ((la.getD (dI la lb r) zL).f2)]) rfl Try.underlying37 rfl sz37 s68_15.ev (fun _ h => (ova_13.low h)) (by omega) rfl (flat_part encL_len zL _ (dI la lb r) (by omega)) ?_)
        refine qs (q_build rfl (parts2 (s65_15.ne rfl).ev (At.hit z15 rfl).ev) (turn_ab _ _ _ _) ?_)
        refine qz ?_
        intro w16 h16
        have kg8_16 := h16.blk kg8_13
        have ox5_16 := ox5_13.low h16
        have ova_16 := ova_13.low h16
        have ovb_16 := ovb_13.low h16
        refine l_row rfl rfl rfl (sz42.trans (congrArg some rfl.symm)) ((s8_15.ne rfl).ne rfl).ev (At.hit z15.put rfl).ev (by simp [Value.oneCell']) kg8_16 (rfl.trans rfl.symm) ?_
        intro w17 k17 u17
        have ox5_17 := ox5_16.updn u17 onx5_g8
        refine l_end ?_
        refine e_fresh z15.put.put ?_
        intro a18 z18 m18
        have s0_18 := m18 _ _ ((s0_15.ne rfl).ne rfl)
        have s1_18 := m18 _ _ ((s1_15.ne rfl).ne rfl)
        have s5_18 := m18 _ _ ((s5_15.ne rfl).ne rfl)
        have s6_18 := m18 _ _ ((s6_15.ne rfl).ne rfl)
        have s7_18 := m18 _ _ ((s7_15.ne rfl).ne rfl)
        have s8_18 := m18 _ _ ((s8_15.ne rfl).ne rfl)
        have low18 := ((low14.trans h16).upd u17 geg8)
        clear m18
        refine e_then ?_
        refine c_region ?_
        refine l_q rfl (q_move _ _ rfl s6_18.ev ?_)
        refine l_q rfl (q_add ((((dI la lb r) + 1 : Nat) : Int)) rfl (At.hit z18 rfl).ev rfl (i64_is (by omega) (by omega) (by omega)) ?_)
        refine l_q rfl (q_assign _ _ rfl (At.hit z18.put rfl).ev ?_)
        refine l_end ?_
        refine e_fresh z18.put.put.put ?_
        intro a19 z19 m19
        have s0_19 := m19 _ _ (((s0_18.ne rfl).ne rfl).ne rfl)
        have s1_19 := m19 _ _ (((s1_18.ne rfl).ne rfl).ne rfl)
        have s5_19 := m19 _ _ (((s5_18.ne rfl).ne rfl).ne rfl)
        have s6_19 := m19 _ _ (At.hit z18.put.put rfl)
        have s7_19 := m19 _ _ (((s7_18.ne rfl).ne rfl).ne rfl)
        have s8_19 := m19 _ _ (((s8_18.ne rfl).ne rfl).ne rfl)
        clear m19
        refine e_in ?_
        refine e_then ?_
        refine c_seq ?_
        by_cases hb20 : ¬ (la.getD (dI la lb r) zL) = zL
        · skip
          refine c_region ?_
          refine l_q rfl (q_fld 1 rfl (by kernel_rfl) s8_19.ev ?_)
          refine l_q rfl (q_mid (vs := #[.string ((la.getD (dI la lb r) zL).f0), .int .i64 ((la.getD (dI la lb r) zL).f1), .string ((la.getD (dI la lb r) zL).f2)]) rfl Try.underlying37 rfl sz37 (At.hit z19 rfl).ev (fun _ e => by rw [e]; exact k17) rfl ?_)
          refine l_q rfl (q_fld 4 rfl (by kernel_rfl) ((s8_19.ne rfl).ne rfl).ev ?_)
          refine l_q rfl (q_mid (vs := #[.string zL.f0, .int .i64 zL.f1, .string zL.f2]) rfl Try.underlying37 rfl sz37 (At.hit z19.put.put rfl).ev (fun _ e => by rw [e]; exact k17) rfl ?_)
          refine l_q rfl (q_ne3 true rfl guard37 (((At.hit z19.put rfl).ne rfl).ne rfl).ev (At.hit z19.put.put.put rfl).ev (eq37 9998 ((la.getD (dI la lb r) zL).f0) ((la.getD (dI la lb r) zL).f1) ((la.getD (dI la lb r) zL).f2) zL.f0 zL.f1 zL.f2) (neL_true hb20) ?_)
          refine l_end ?_
          refine e_fresh z19.put.put.put.put.put ?_
          intro a21 z21 m21
          have s0_21 := m21 _ _ (((((s0_19.ne rfl).ne rfl).ne rfl).ne rfl).ne rfl)
          have s1_21 := m21 _ _ (((((s1_19.ne rfl).ne rfl).ne rfl).ne rfl).ne rfl)
          have s5_21 := m21 _ _ (((((s5_19.ne rfl).ne rfl).ne rfl).ne rfl).ne rfl)
          have s6_21 := m21 _ _ (((((s6_19.ne rfl).ne rfl).ne rfl).ne rfl).ne rfl)
          have s7_21 := m21 _ _ (((((s7_19.ne rfl).ne rfl).ne rfl).ne rfl).ne rfl)
          have s8_21 := m21 _ _ (((((s8_19.ne rfl).ne rfl).ne rfl).ne rfl).ne rfl)
          have s107_21 := m21 _ _ (At.hit z19.put.put.put.put rfl)
          clear m21
          refine e_then ?_
          refine c_true s107_21 ?_
          refine c_region ?_
          refine l_q rfl (q_move _ _ rfl s5_21.ev ?_)
          refine l_q rfl (q_row rfl Try.underlying42 rfl (sz42.trans (congrArg some rfl.symm)) (s8_21.ne rfl).ev (fun _ e => by rw [e]; exact k17) ?_)
          refine l_buildF (vs := [.string ((la.getD (dI la lb r) zL).f0), .string ((la.getD (dI la lb r) zL).f0), .int .i64 ((la.getD (dI la lb r) zL).f1), .string ((la.getD (dI la lb r) zL).f2), .string zL.f0, .int .i64 zL.f1, .string zL.f2]) rfl rfl Try.underlying39 rec42 (At.hit z21.put rfl).ev rfl rfl (by decide) (by decide) ?_
          intro g110_22 w22 hg22 k22 h22
          have onx5_g110_22 : ∀ k, Value.ownBlock v5_4 = some k → k < g110_22 := fun k hk => Nat.lt_of_lt_of_le (OwnF.own_lt ox5_17 hk) hg22
          have lt_g8_g110_22 := Nat.lt_of_lt_of_le (heap_lt k17) hg22
          have geg110_22 := Nat.le_trans low18.ge hg22
          have kg8_22 := h22.blk k17
          have ox5_22 := ox5_17.low h22
          have ova_22 := (hva.low ((low14.trans h16).upd u17 geg8)).low h22
          have ovb_22 := (hvb.low ((low14.trans h16).upd u17 geg8)).low h22
          refine l_appF (B := w0.heap.size) rfl rfl Try.underlying39 rec42 (((At.hit z21 rfl).ne rfl).ne rfl).ev (At.hit z21.put.put rfl).ev k22 rfl (by decide) rfl ox5_22 (low18.trans h22).ge (by omega) ?_
          intro v23 w23 o23 gr23
          have kg8_23 := gr23.blkn kg8_22 onx5_g8
          have lw23 := (low18.trans h22).grw gr23
          replace o23 := o23.cast (show _ = ((dO la lb r) ++ [(⟨(la.getD (dI la lb r) zL).f0, (la.getD (dI la lb r) zL), zL⟩ : TnL)]).length by rw [List.length_append]; rfl) (flat_snoc (enc := encT) (dO la lb r) (⟨(la.getD (dI la lb r) zL).f0, (la.getD (dI la lb r) zL), zL⟩ : TnL))
          refine l_q rfl (q_assign _ _ rfl (At.hit z21.put.put.put rfl).ev ?_)
          refine l_end ?_
          refine e_fresh z21.put.put.put.put.put ?_
          intro a24 z24 m24
          have s0_24 := m24 _ _ (((((s0_21.ne rfl).ne rfl).ne rfl).ne rfl).ne rfl)
          have s1_24 := m24 _ _ (((((s1_21.ne rfl).ne rfl).ne rfl).ne rfl).ne rfl)
          have s5_24 := m24 _ _ (At.hit z21.put.put.put.put rfl)
          have s6_24 := m24 _ _ (((((s6_21.ne rfl).ne rfl).ne rfl).ne rfl).ne rfl)
          have s7_24 := m24 _ _ (((((s7_21.ne rfl).ne rfl).ne rfl).ne rfl).ne rfl)
          have low24 := lw23
          clear m24
          refine e_in ?_
          obtain ⟨e1_25, e2_25, e3_25⟩ := d_1 (a := la) (b := lb) (r := r) (.inl hb10)
          have c26 := OwnF.castL o23 (show (dO la lb r) ++ [(⟨(la.getD (dI la lb r) zL).f0, (la.getD (dI la lb r) zL), zL⟩ : TnL)] = dO la lb (r + 1) from (add_new (t := ⟨_, _, _⟩) hb20).symm.trans e3_25.symm)
          exact ⟨v23, z24, s0_24, s1_24, s5_24, (s6_24.same (congrArg (Value.int .i64) (by omega))), (s7_24.same (congrArg (Value.int .i64) (by omega))), c26, low24⟩
        · skip
          refine c_region ?_
          refine l_q rfl (q_fld 1 rfl (by kernel_rfl) s8_19.ev ?_)
          refine l_q rfl (q_mid (vs := #[.string ((la.getD (dI la lb r) zL).f0), .int .i64 ((la.getD (dI la lb r) zL).f1), .string ((la.getD (dI la lb r) zL).f2)]) rfl Try.underlying37 rfl sz37 (At.hit z19 rfl).ev (fun _ e => by rw [e]; exact k17) rfl ?_)
          refine l_q rfl (q_fld 4 rfl (by kernel_rfl) ((s8_19.ne rfl).ne rfl).ev ?_)
          refine l_q rfl (q_mid (vs := #[.string zL.f0, .int .i64 zL.f1, .string zL.f2]) rfl Try.underlying37 rfl sz37 (At.hit z19.put.put rfl).ev (fun _ e => by rw [e]; exact k17) rfl ?_)
          refine l_q rfl (q_ne3 false rfl guard37 (((At.hit z19.put rfl).ne rfl).ne rfl).ev (At.hit z19.put.put.put rfl).ev (eq37 9998 ((la.getD (dI la lb r) zL).f0) ((la.getD (dI la lb r) zL).f1) ((la.getD (dI la lb r) zL).f2) zL.f0 zL.f1 zL.f2) (neL_false (Decidable.not_not.1 hb20)) ?_)
          refine l_end ?_
          refine e_fresh z19.put.put.put.put.put ?_
          intro a27 z27 m27
          have s0_27 := m27 _ _ (((((s0_19.ne rfl).ne rfl).ne rfl).ne rfl).ne rfl)
          have s1_27 := m27 _ _ (((((s1_19.ne rfl).ne rfl).ne rfl).ne rfl).ne rfl)
          have s5_27 := m27 _ _ (((((s5_19.ne rfl).ne rfl).ne rfl).ne rfl).ne rfl)
          have s6_27 := m27 _ _ (((((s6_19.ne rfl).ne rfl).ne rfl).ne rfl).ne rfl)
          have s7_27 := m27 _ _ (((((s7_19.ne rfl).ne rfl).ne rfl).ne rfl).ne rfl)
          have s8_27 := m27 _ _ (((((s8_19.ne rfl).ne rfl).ne rfl).ne rfl).ne rfl)
          have s107_27 := m27 _ _ (At.hit z19.put.put.put.put rfl)
          clear m27
          refine e_then ?_
          refine c_false s107_27 ?_
          refine wp_skip ?_
          refine e_in ?_
          obtain ⟨e1_28, e2_28, e3_28⟩ := d_1 (a := la) (b := lb) (r := r) (.inl hb10)
          have c29 := OwnF.castL ox5_17 (show dO la lb r = dO la lb (r + 1) from (add_same (t := ⟨(la.getD (dI la lb r) zL).f0, (la.getD (dI la lb r) zL), zL⟩) (Decidable.not_not.1 hb20)).symm.trans e3_28.symm)
          exact ⟨v5_4, z27, s0_27, s1_27, s5_27, (s6_27.same (congrArg (Value.int .i64) (by omega))), (s7_27.same (congrArg (Value.int .i64) (by omega))), c29, low18⟩
      · skip
        by_cases hb30 : lessB (la.getD (dI la lb r) zL).f0 (lb.getD (dK la lb r) zL).f0 = true
        · skip
          refine region_lowg hm (by kernel_rfl) ?_
          refine gs rfl (q_move _ _ rfl s7_9.ev ?_)
          refine gs rfl (q_move _ _ rfl (s1_9.ne rfl).ev ?_)
          refine gs rfl (q_lenF rfl rfl Try.underlying22 (At.hit z9.put rfl).ev ovb_8 ?_)
          refine gs rfl (q_eql false rfl (((At.hit z9 rfl).ne rfl).ne rfl).ev (At.hit z9.put.put rfl).ev (decide_eq_false (by omega)) ?_)
          refine gs rfl (q_move _ _ rfl (At.hit z9.put.put.put rfl).ev ?_)
          refine gsg (wanted_is (j := 4) (d := 42) (b := false) rfl rfl (At.hit z9.put.put.put.put rfl) rfl) (q_move _ _ rfl (((((s6_9.ne rfl).ne rfl).ne rfl).ne rfl).ne rfl).ev ?_)
          refine gsg (wanted_is (j := 4) (d := 42) (b := false) rfl rfl ((At.hit z9.put.put.put.put rfl).ne rfl) rfl) (q_move _ _ rfl ((((((s0_9.ne rfl).ne rfl).ne rfl).ne rfl).ne rfl).ne rfl).ev ?_)
          refine gsg (wanted_is (j := 4) (d := 42) (b := false) rfl rfl (((At.hit z9.put.put.put.put rfl).ne rfl).ne rfl) rfl) (q_lenF rfl rfl Try.underlying22 (At.hit z9.put.put.put.put.put.put rfl).ev ova_8 ?_)
          refine g_fresh z9.put.put.put.put.put.put.put.put ?_
          intro a31 z31 m31
          have s0_31 := m31 _ _ ((((((((s0_9.ne rfl).ne rfl).ne rfl).ne rfl).ne rfl).ne rfl).ne rfl).ne rfl)
          have s1_31 := m31 _ _ ((((((((s1_9.ne rfl).ne rfl).ne rfl).ne rfl).ne rfl).ne rfl).ne rfl).ne rfl)
          have s5_31 := m31 _ _ ((((((((s5_9.ne rfl).ne rfl).ne rfl).ne rfl).ne rfl).ne rfl).ne rfl).ne rfl)
          have s6_31 := m31 _ _ ((((((((s6_9.ne rfl).ne rfl).ne rfl).ne rfl).ne rfl).ne rfl).ne rfl).ne rfl)
          have s7_31 := m31 _ _ ((((((((s7_9.ne rfl).ne rfl).ne rfl).ne rfl).ne rfl).ne rfl).ne rfl).ne rfl)
          have s8_31 := m31 _ _ ((((((((s8_9.ne rfl).ne rfl).ne rfl).ne rfl).ne rfl).ne rfl).ne rfl).ne rfl)
          have s42_31 := m31 _ _ ((((At.hit z9.put.put.put.put rfl).ne rfl).ne rfl).ne rfl)
          have s43_31 := m31 _ _ (((At.hit z9.put.put.put.put.put rfl).ne rfl).ne rfl)
          have s45_31 := m31 _ _ (At.hit z9.put.put.put.put.put.put.put rfl)
          clear m31
          refine gsg (wanted_is (j := 4) (d := 42) (b := false) rfl rfl s42_31 rfl) (q_lss true rfl s43_31.ev s45_31.ev (decide_eq_true (by omega)) ?_)
          refine gsg (wanted_is (j := 4) (d := 42) (b := false) rfl rfl (s42_31.ne rfl) rfl) (q_move _ _ rfl (At.hit z31 rfl).ev ?_)
          refine gsg (wanted_is (j := 9) (d := 47) (b := true) rfl rfl (At.hit z31.put rfl) rfl) (q_move _ _ rfl ((s0_31.ne rfl).ne rfl).ev ?_)
          refine gsg (wanted_is (j := 9) (d := 47) (b := true) rfl rfl ((At.hit z31.put rfl).ne rfl) rfl) (q_move _ _ rfl (((s6_31.ne rfl).ne rfl).ne rfl).ev ?_)
          refine gsg (wanted_is (j := 9) (d := 47) (b := true) rfl rfl (((At.hit z31.put rfl).ne rfl).ne rfl) rfl) (q_idxF (j := (dI la lb r)) rfl Try.underlying22 sz37 ((At.hit z31.put.put rfl).ne rfl).ev ova_8 (At.hit z31.put.put.put rfl).ev (by omega) ?_)
          refine gsg (wanted_is (j := 9) (d := 47) (b := true) rfl rfl ((((At.hit z31.put rfl).ne rfl).ne rfl).ne rfl) rfl) (q_fldF 0 rfl fld37_0 (At.hit z31.put.put.put.put rfl).ev (ova_8.form (by omega)) ?_)
          refine gsg (wanted_is (j := 9) (d := 47) (b := true) rfl rfl (((((At.hit z31.put rfl).ne rfl).ne rfl).ne rfl).ne rfl) rfl) (q_ld1 (u := .string ((la.getD (dI la lb r) zL).f0)) rfl Try.underlying9 rfl (At.hit z31.put.put.put.put.put rfl).ev (fun _ h => (ova_8.low h)) (by omega) ((flat_at encL_len zL _ (dI la lb r) 0 (by omega) (by decide)).trans rfl) ?_)
          refine gsg (wanted_is (j := 9) (d := 47) (b := true) rfl rfl ((((((At.hit z31.put rfl).ne rfl).ne rfl).ne rfl).ne rfl).ne rfl) rfl) (q_move _ _ rfl (((((((s1_31.ne rfl).ne rfl).ne rfl).ne rfl).ne rfl).ne rfl).ne rfl).ev ?_)
          refine g_fresh z31.put.put.put.put.put.put.put.put ?_
          intro a32 z32 m32
          have s0_32 := m32 _ _ ((((((((s0_31.ne rfl).ne rfl).ne rfl).ne rfl).ne rfl).ne rfl).ne rfl).ne rfl)
          have s1_32 := m32 _ _ ((((((((s1_31.ne rfl).ne rfl).ne rfl).ne rfl).ne rfl).ne rfl).ne rfl).ne rfl)
          have s5_32 := m32 _ _ ((((((((s5_31.ne rfl).ne rfl).ne rfl).ne rfl).ne rfl).ne rfl).ne rfl).ne rfl)
          have s6_32 := m32 _ _ ((((((((s6_31.ne rfl).ne rfl).ne rfl).ne rfl).ne rfl).ne rfl).ne rfl).ne rfl)
          have s7_32 := m32 _ _ ((((((((s7_31.ne rfl).ne rfl).ne rfl).ne rfl).ne rfl).ne rfl).ne rfl).ne rfl)
          have s8_32 := m32 _ _ ((((((((s8_31.ne rfl).ne rfl).ne rfl).ne rfl).ne rfl).ne rfl).ne rfl).ne rfl)
          have s42_32 := m32 _ _ ((((((((s42_31.ne rfl).ne rfl).ne rfl).ne rfl).ne rfl).ne rfl).ne rfl).ne rfl)
          have s47_32 := m32 _ _ (((((((At.hit z31.put rfl).ne rfl).ne rfl).ne rfl).ne rfl).ne rfl).ne rfl)
          have s52_32 := m32 _ _ ((At.hit z31.put.put.put.put.put.put rfl).ne rfl)
          have s53_32 := m32 _ _ (At.hit z31.put.put.put.put.put.put.put rfl)
          clear m32
          refine gsg (wanted_is (j := 9) (d := 47) (b := true) rfl rfl s47_32 rfl) (q_move _ _ rfl s7_32.ev ?_)
          refine gsg (wanted_is (j := 9) (d := 47) (b := true) rfl rfl (s47_32.ne rfl) rfl) (q_idxF (j := (dK la lb r)) rfl Try.underlying22 sz37 (s53_32.ne rfl).ev ovb_8 (At.hit z32 rfl).ev (by omega) ?_)
          refine gsg (wanted_is (j := 9) (d := 47) (b := true) rfl rfl ((s47_32.ne rfl).ne rfl) rfl) (q_fldF 0 rfl fld37_0 (At.hit z32.put rfl).ev (ovb_8.form (by omega)) ?_)
          refine gsg (wanted_is (j := 9) (d := 47) (b := true) rfl rfl (((s47_32.ne rfl).ne rfl).ne rfl) rfl) (q_ld1 (u := .string ((lb.getD (dK la lb r) zL).f0)) rfl Try.underlying9 rfl (At.hit z32.put.put rfl).ev (fun _ h => (ovb_8.low h)) (by omega) ((flat_at encL_len zL _ (dK la lb r) 0 (by omega) (by decide)).trans rfl) ?_)
          refine gsg (wanted_is (j := 9) (d := 47) (b := true) rfl rfl ((((s47_32.ne rfl).ne rfl).ne rfl).ne rfl) rfl) (q_strlss true rfl ((((s52_32.ne rfl).ne rfl).ne rfl).ne rfl).ev (At.hit z32.put.put.put rfl).ev hb30 ?_)
          refine gsg (wanted_is (j := 4) (d := 42) (b := false) rfl rfl (((((s42_32.ne rfl).ne rfl).ne rfl).ne rfl).ne rfl) rfl) (q_pick (b := true) (.bool true) rfl (((((s47_32.ne rfl).ne rfl).ne rfl).ne rfl).ne rfl).ev (At.hit z32.put.put.put.put rfl).ev ?_)
          refine gs rfl (q_pick (b := false) (.bool true) rfl ((((((s42_32.ne rfl).ne rfl).ne rfl).ne rfl).ne rfl).ne rfl).ev (At.hit z32.put.put.put.put.put rfl).ev ?_)
          refine gs rfl (q_assign _ _ rfl (At.hit z32.put.put.put.put.put.put rfl).ev ?_)
          refine gz ?_
          intro w33 h33
          have kg8_33 := h33.blk k8
          have ox5_33 := ox5_8.low h33
          have ova_33 := ova_8.low h33
          have ovb_33 := ovb_8.low h33
          refine e_id ?_
          refine e_fresh z32.put.put.put.put.put.put.put.put ?_
          intro a34 z34 m34
          have s0_34 := m34 _ _ ((((((((s0_32.ne rfl).ne rfl).ne rfl).ne rfl).ne rfl).ne rfl).ne rfl).ne rfl)
          have s1_34 := m34 _ _ ((((((((s1_32.ne rfl).ne rfl).ne rfl).ne rfl).ne rfl).ne rfl).ne rfl).ne rfl)
          have s5_34 := m34 _ _ ((((((((s5_32.ne rfl).ne rfl).ne rfl).ne rfl).ne rfl).ne rfl).ne rfl).ne rfl)
          have s6_34 := m34 _ _ ((((((((s6_32.ne rfl).ne rfl).ne rfl).ne rfl).ne rfl).ne rfl).ne rfl).ne rfl)
          have s7_34 := m34 _ _ ((((((((s7_32.ne rfl).ne rfl).ne rfl).ne rfl).ne rfl).ne rfl).ne rfl).ne rfl)
          have s8_34 := m34 _ _ ((((((((s8_32.ne rfl).ne rfl).ne rfl).ne rfl).ne rfl).ne rfl).ne rfl).ne rfl)
          have s37_34 := m34 _ _ (At.hit z32.put.put.put.put.put.put.put rfl)
          have low34 := (low9.trans h33)
          clear m34
          refine e_then ?_
          refine c_true s37_34 ?_
          refine c_seq ?_
          refine region_low_tail 10 hm (by kernel_rfl) ?_
          simp only [List.take_succ_cons, List.take_zero, List.drop_succ_cons, List.drop_zero]
          refine qs (q_move _ _ rfl s0_34.ev ?_)
          refine qs (q_move _ _ rfl (s6_34.ne rfl).ev ?_)
          refine qs (q_idxF (j := (dI la lb r)) rfl Try.underlying22 sz37 ((At.hit z34 rfl).ne rfl).ev ova_33 (At.hit z34.put rfl).ev (by omega) ?_)
          refine qs (q_fldF 0 rfl fld37_0 (At.hit z34.put.put rfl).ev (ova_33.form (by omega)) ?_)
          refine qs (q_ld1 (u := .string ((la.getD (dI la lb r) zL).f0)) rfl Try.underlying9 rfl (At.hit z34.put.put.put rfl).ev (fun _ h => (ova_33.low h)) (by omega) ((flat_at encL_len zL _ (dI la lb r) 0 (by omega) (by decide)).trans rfl) ?_)
          refine qs (q_move _ _ rfl (((((s0_34.ne rfl).ne rfl).ne rfl).ne rfl).ne rfl).ev ?_)
          refine qs (q_move _ _ rfl ((((((s6_34.ne rfl).ne rfl).ne rfl).ne rfl).ne rfl).ne rfl).ev ?_)
          refine qs (q_idxF (j := (dI la lb r)) rfl Try.underlying22 sz37 ((At.hit z34.put.put.put.put.put rfl).ne rfl).ev ova_33 (At.hit z34.put.put.put.put.put.put rfl).ev (by omega) ?_)
          refine q_fresh z34.put.put.put.put.put.put.put.put ?_
          intro a35 z35 m35
          have s0_35 := m35 _ _ ((((((((s0_34.ne rfl).ne rfl).ne rfl).ne rfl).ne rfl).ne rfl).ne rfl).ne rfl)
          have s1_35 := m35 _ _ ((((((((s1_34.ne rfl).ne rfl).ne rfl).ne rfl).ne rfl).ne rfl).ne rfl).ne rfl)
          have s5_35 := m35 _ _ ((((((((s5_34.ne rfl).ne rfl).ne rfl).ne rfl).ne rfl).ne rfl).ne rfl).ne rfl)
          have s6_35 := m35 _ _ ((((((((s6_34.ne rfl).ne rfl).ne rfl).ne rfl).ne rfl).ne rfl).ne rfl).ne rfl)
          have s7_35 := m35 _ _ ((((((((s7_34.ne rfl).ne rfl).ne rfl).ne rfl).ne rfl).ne rfl).ne rfl).ne rfl)
          have s8_35 := m35 _ _ ((((((((s8_34.ne rfl).ne rfl).ne rfl).ne rfl).ne rfl).ne rfl).ne rfl).ne rfl)
          have s65_35 := m35 _ _ ((((At.hit z34.put.put.put.put rfl).ne rfl).ne rfl).ne rfl)
          have s68_35 := m35 _ _ (At.hit z34.put.put.put.put.put.put.put rfl)
          clear m35
          refine qs (q_ldR (vs := [.string ((la.getD (dI la lb r) zL).f0), .int .i64 ((la.getD (dI la lb r) zL).f1), .string ((la.getD (dI la lb r) zL).f2)]) rfl Try.underlying37 rfl sz37 s68_35.ev (fun _ h => (ova_33.low h)) (by omega) rfl (flat_part encL_len zL _ (dI la lb r) (by omega)) ?_)
          refine qs (q_build rfl (parts2 (s65_35.ne rfl).ev (At.hit z35 rfl).ev) (turn_ab _ _ _ _) ?_)
          refine qz ?_
          intro w36 h36
          have kg8_36 := h36.blk kg8_33
          have ox5_36 := ox5_33.low h36
          have ova_36 := ova_33.low h36
          have ovb_36 := ovb_33.low h36
          refine l_row rfl rfl rfl (sz42.trans (congrArg some rfl.symm)) ((s8_35.ne rfl).ne rfl).ev (At.hit z35.put rfl).ev (by simp [Value.oneCell']) kg8_36 (rfl.trans rfl.symm) ?_
          intro w37 k37 u37
          have ox5_37 := ox5_36.updn u37 onx5_g8
          refine l_end ?_
          refine e_fresh z35.put.put ?_
          intro a38 z38 m38
          have s0_38 := m38 _ _ ((s0_35.ne rfl).ne rfl)
          have s1_38 := m38 _ _ ((s1_35.ne rfl).ne rfl)
          have s5_38 := m38 _ _ ((s5_35.ne rfl).ne rfl)
          have s6_38 := m38 _ _ ((s6_35.ne rfl).ne rfl)
          have s7_38 := m38 _ _ ((s7_35.ne rfl).ne rfl)
          have s8_38 := m38 _ _ ((s8_35.ne rfl).ne rfl)
          have low38 := ((low34.trans h36).upd u37 geg8)
          clear m38
          refine e_then ?_
          refine c_region ?_
          refine l_q rfl (q_move _ _ rfl s6_38.ev ?_)
          refine l_q rfl (q_add ((((dI la lb r) + 1 : Nat) : Int)) rfl (At.hit z38 rfl).ev rfl (i64_is (by omega) (by omega) (by omega)) ?_)
          refine l_q rfl (q_assign _ _ rfl (At.hit z38.put rfl).ev ?_)
          refine l_end ?_
          refine e_fresh z38.put.put.put ?_
          intro a39 z39 m39
          have s0_39 := m39 _ _ (((s0_38.ne rfl).ne rfl).ne rfl)
          have s1_39 := m39 _ _ (((s1_38.ne rfl).ne rfl).ne rfl)
          have s5_39 := m39 _ _ (((s5_38.ne rfl).ne rfl).ne rfl)
          have s6_39 := m39 _ _ (At.hit z38.put.put rfl)
          have s7_39 := m39 _ _ (((s7_38.ne rfl).ne rfl).ne rfl)
          have s8_39 := m39 _ _ (((s8_38.ne rfl).ne rfl).ne rfl)
          clear m39
          refine e_in ?_
          refine e_then ?_
          refine c_seq ?_
          by_cases hb40 : ¬ (la.getD (dI la lb r) zL) = zL
          · skip
            refine c_region ?_
            refine l_q rfl (q_fld 1 rfl (by kernel_rfl) s8_39.ev ?_)
            refine l_q rfl (q_mid (vs := #[.string ((la.getD (dI la lb r) zL).f0), .int .i64 ((la.getD (dI la lb r) zL).f1), .string ((la.getD (dI la lb r) zL).f2)]) rfl Try.underlying37 rfl sz37 (At.hit z39 rfl).ev (fun _ e => by rw [e]; exact k37) rfl ?_)
            refine l_q rfl (q_fld 4 rfl (by kernel_rfl) ((s8_39.ne rfl).ne rfl).ev ?_)
            refine l_q rfl (q_mid (vs := #[.string zL.f0, .int .i64 zL.f1, .string zL.f2]) rfl Try.underlying37 rfl sz37 (At.hit z39.put.put rfl).ev (fun _ e => by rw [e]; exact k37) rfl ?_)
            refine l_q rfl (q_ne3 true rfl guard37 (((At.hit z39.put rfl).ne rfl).ne rfl).ev (At.hit z39.put.put.put rfl).ev (eq37 9998 ((la.getD (dI la lb r) zL).f0) ((la.getD (dI la lb r) zL).f1) ((la.getD (dI la lb r) zL).f2) zL.f0 zL.f1 zL.f2) (neL_true hb40) ?_)
            refine l_end ?_
            refine e_fresh z39.put.put.put.put.put ?_
            intro a41 z41 m41
            have s0_41 := m41 _ _ (((((s0_39.ne rfl).ne rfl).ne rfl).ne rfl).ne rfl)
            have s1_41 := m41 _ _ (((((s1_39.ne rfl).ne rfl).ne rfl).ne rfl).ne rfl)
            have s5_41 := m41 _ _ (((((s5_39.ne rfl).ne rfl).ne rfl).ne rfl).ne rfl)
            have s6_41 := m41 _ _ (((((s6_39.ne rfl).ne rfl).ne rfl).ne rfl).ne rfl)
            have s7_41 := m41 _ _ (((((s7_39.ne rfl).ne rfl).ne rfl).ne rfl).ne rfl)
            have s8_41 := m41 _ _ (((((s8_39.ne rfl).ne rfl).ne rfl).ne rfl).ne rfl)
            have s107_41 := m41 _ _ (At.hit z39.put.put.put.put rfl)
            clear m41
            refine e_then ?_
            refine c_true s107_41 ?_
            refine c_region ?_
            refine l_q rfl (q_move _ _ rfl s5_41.ev ?_)
            refine l_q rfl (q_row rfl Try.underlying42 rfl (sz42.trans (congrArg some rfl.symm)) (s8_41.ne rfl).ev (fun _ e => by rw [e]; exact k37) ?_)
            refine l_buildF (vs := [.string ((la.getD (dI la lb r) zL).f0), .string ((la.getD (dI la lb r) zL).f0), .int .i64 ((la.getD (dI la lb r) zL).f1), .string ((la.getD (dI la lb r) zL).f2), .string zL.f0, .int .i64 zL.f1, .string zL.f2]) rfl rfl Try.underlying39 rec42 (At.hit z41.put rfl).ev rfl rfl (by decide) (by decide) ?_
            intro g110_42 w42 hg42 k42 h42
            have onx5_g110_42 : ∀ k, Value.ownBlock v5_4 = some k → k < g110_42 := fun k hk => Nat.lt_of_lt_of_le (OwnF.own_lt ox5_37 hk) hg42
            have lt_g8_g110_42 := Nat.lt_of_lt_of_le (heap_lt k37) hg42
            have geg110_42 := Nat.le_trans low38.ge hg42
            have kg8_42 := h42.blk k37
            have ox5_42 := ox5_37.low h42
            have ova_42 := (hva.low ((low34.trans h36).upd u37 geg8)).low h42
            have ovb_42 := (hvb.low ((low34.trans h36).upd u37 geg8)).low h42
            refine l_appF (B := w0.heap.size) rfl rfl Try.underlying39 rec42 (((At.hit z41 rfl).ne rfl).ne rfl).ev (At.hit z41.put.put rfl).ev k42 rfl (by decide) rfl ox5_42 (low38.trans h42).ge (by omega) ?_
            intro v43 w43 o43 gr43
            have kg8_43 := gr43.blkn kg8_42 onx5_g8
            have lw43 := (low38.trans h42).grw gr43
            replace o43 := o43.cast (show _ = ((dO la lb r) ++ [(⟨(la.getD (dI la lb r) zL).f0, (la.getD (dI la lb r) zL), zL⟩ : TnL)]).length by rw [List.length_append]; rfl) (flat_snoc (enc := encT) (dO la lb r) (⟨(la.getD (dI la lb r) zL).f0, (la.getD (dI la lb r) zL), zL⟩ : TnL))
            refine l_q rfl (q_assign _ _ rfl (At.hit z41.put.put.put rfl).ev ?_)
            refine l_end ?_
            refine e_fresh z41.put.put.put.put.put ?_
            intro a44 z44 m44
            have s0_44 := m44 _ _ (((((s0_41.ne rfl).ne rfl).ne rfl).ne rfl).ne rfl)
            have s1_44 := m44 _ _ (((((s1_41.ne rfl).ne rfl).ne rfl).ne rfl).ne rfl)
            have s5_44 := m44 _ _ (At.hit z41.put.put.put.put rfl)
            have s6_44 := m44 _ _ (((((s6_41.ne rfl).ne rfl).ne rfl).ne rfl).ne rfl)
            have s7_44 := m44 _ _ (((((s7_41.ne rfl).ne rfl).ne rfl).ne rfl).ne rfl)
            have low44 := lw43
            clear m44
            refine e_in ?_
            obtain ⟨e1_45, e2_45, e3_45⟩ := d_1 (a := la) (b := lb) (r := r) (.inr ⟨hb5, hb30⟩)
            have c46 := OwnF.castL o43 (show (dO la lb r) ++ [(⟨(la.getD (dI la lb r) zL).f0, (la.getD (dI la lb r) zL), zL⟩ : TnL)] = dO la lb (r + 1) from (add_new (t := ⟨_, _, _⟩) hb40).symm.trans e3_45.symm)
            exact ⟨v43, z44, s0_44, s1_44, s5_44, (s6_44.same (congrArg (Value.int .i64) (by omega))), (s7_44.same (congrArg (Value.int .i64) (by omega))), c46, low44⟩
          · skip
            refine c_region ?_
            refine l_q rfl (q_fld 1 rfl (by kernel_rfl) s8_39.ev ?_)
            refine l_q rfl (q_mid (vs := #[.string ((la.getD (dI la lb r) zL).f0), .int .i64 ((la.getD (dI la lb r) zL).f1), .string ((la.getD (dI la lb r) zL).f2)]) rfl Try.underlying37 rfl sz37 (At.hit z39 rfl).ev (fun _ e => by rw [e]; exact k37) rfl ?_)
            refine l_q rfl (q_fld 4 rfl (by kernel_rfl) ((s8_39.ne rfl).ne rfl).ev ?_)
            refine l_q rfl (q_mid (vs := #[.string zL.f0, .int .i64 zL.f1, .string zL.f2]) rfl Try.underlying37 rfl sz37 (At.hit z39.put.put rfl).ev (fun _ e => by rw [e]; exact k37) rfl ?_)
            refine l_q rfl (q_ne3 false rfl guard37 (((At.hit z39.put rfl).ne rfl).ne rfl).ev (At.hit z39.put.put.put rfl).ev (eq37 9998 ((la.getD (dI la lb r) zL).f0) ((la.getD (dI la lb r) zL).f1) ((la.getD (dI la lb r) zL).f2) zL.f0 zL.f1 zL.f2) (neL_false (Decidable.not_not.1 hb40)) ?_)
            refine l_end ?_
            refine e_fresh z39.put.put.put.put.put ?_
            intro a47 z47 m47
            have s0_47 := m47 _ _ (((((s0_39.ne rfl).ne rfl).ne rfl).ne rfl).ne rfl)
            have s1_47 := m47 _ _ (((((s1_39.ne rfl).ne rfl).ne rfl).ne rfl).ne rfl)
            have s5_47 := m47 _ _ (((((s5_39.ne rfl).ne rfl).ne rfl).ne rfl).ne rfl)
            have s6_47 := m47 _ _ (((((s6_39.ne rfl).ne rfl).ne rfl).ne rfl).ne rfl)
            have s7_47 := m47 _ _ (((((s7_39.ne rfl).ne rfl).ne rfl).ne rfl).ne rfl)
            have s8_47 := m47 _ _ (((((s8_39.ne rfl).ne rfl).ne rfl).ne rfl).ne rfl)
            have s107_47 := m47 _ _ (At.hit z39.put.put.put.put rfl)
            clear m47
            refine e_then ?_
            refine c_false s107_47 ?_
            refine wp_skip ?_
            refine e_in ?_
            obtain ⟨e1_48, e2_48, e3_48⟩ := d_1 (a := la) (b := lb) (r := r) (.inr ⟨hb5, hb30⟩)
            have c49 := OwnF.castL ox5_37 (show dO la lb r = dO la lb (r + 1) from (add_same (t := ⟨(la.getD (dI la lb r) zL).f0, (la.getD (dI la lb r) zL), zL⟩) (Decidable.not_not.1 hb40)).symm.trans e3_48.symm)
            exact ⟨v5_4, z47, s0_47, s1_47, s5_47, (s6_47.same (congrArg (Value.int .i64) (by omega))), (s7_47.same (congrArg (Value.int .i64) (by omega))), c49, low38⟩
        · skip
          refine region_lowg hm (by kernel_rfl) ?_
          refine gs rfl (q_move _ _ rfl s7_9.ev ?_)
          refine gs rfl (q_move _ _ rfl (s1_9.ne rfl).ev ?_)
          refine gs rfl (q_lenF rfl rfl Try.underlying22 (At.hit z9.put rfl).ev ovb_8 ?_)
          refine gs rfl (q_eql false rfl (((At.hit z9 rfl).ne rfl).ne rfl).ev (At.hit z9.put.put rfl).ev (decide_eq_false (by omega)) ?_)
          refine gs rfl (q_move _ _ rfl (At.hit z9.put.put.put rfl).ev ?_)
          refine gsg (wanted_is (j := 4) (d := 42) (b := false) rfl rfl (At.hit z9.put.put.put.put rfl) rfl) (q_move _ _ rfl (((((s6_9.ne rfl).ne rfl).ne rfl).ne rfl).ne rfl).ev ?_)
          refine gsg (wanted_is (j := 4) (d := 42) (b := false) rfl rfl ((At.hit z9.put.put.put.put rfl).ne rfl) rfl) (q_move _ _ rfl ((((((s0_9.ne rfl).ne rfl).ne rfl).ne rfl).ne rfl).ne rfl).ev ?_)
          refine gsg (wanted_is (j := 4) (d := 42) (b := false) rfl rfl (((At.hit z9.put.put.put.put rfl).ne rfl).ne rfl) rfl) (q_lenF rfl rfl Try.underlying22 (At.hit z9.put.put.put.put.put.put rfl).ev ova_8 ?_)
          refine g_fresh z9.put.put.put.put.put.put.put.put ?_
          intro a50 z50 m50
          have s0_50 := m50 _ _ ((((((((s0_9.ne rfl).ne rfl).ne rfl).ne rfl).ne rfl).ne rfl).ne rfl).ne rfl)
          have s1_50 := m50 _ _ ((((((((s1_9.ne rfl).ne rfl).ne rfl).ne rfl).ne rfl).ne rfl).ne rfl).ne rfl)
          have s5_50 := m50 _ _ ((((((((s5_9.ne rfl).ne rfl).ne rfl).ne rfl).ne rfl).ne rfl).ne rfl).ne rfl)
          have s6_50 := m50 _ _ ((((((((s6_9.ne rfl).ne rfl).ne rfl).ne rfl).ne rfl).ne rfl).ne rfl).ne rfl)
          have s7_50 := m50 _ _ ((((((((s7_9.ne rfl).ne rfl).ne rfl).ne rfl).ne rfl).ne rfl).ne rfl).ne rfl)
          have s8_50 := m50 _ _ ((((((((s8_9.ne rfl).ne rfl).ne rfl).ne rfl).ne rfl).ne rfl).ne rfl).ne rfl)
          have s42_50 := m50 _ _ ((((At.hit z9.put.put.put.put rfl).ne rfl).ne rfl).ne rfl)
          have s43_50 := m50 _ _ (((At.hit z9.put.put.put.put.put rfl).ne rfl).ne rfl)
          have s45_50 := m50 _ _ (At.hit z9.put.put.put.put.put.put.put rfl)
          clear m50
          refine gsg (wanted_is (j := 4) (d := 42) (b := false) rfl rfl s42_50 rfl) (q_lss true rfl s43_50.ev s45_50.ev (decide_eq_true (by omega)) ?_)
          refine gsg (wanted_is (j := 4) (d := 42) (b := false) rfl rfl (s42_50.ne rfl) rfl) (q_move _ _ rfl (At.hit z50 rfl).ev ?_)
          refine gsg (wanted_is (j := 9) (d := 47) (b := true) rfl rfl (At.hit z50.put rfl) rfl) (q_move _ _ rfl ((s0_50.ne rfl).ne rfl).ev ?_)
          refine gsg (wanted_is (j := 9) (d := 47) (b := true) rfl rfl ((At.hit z50.put rfl).ne rfl) rfl) (q_move _ _ rfl (((s6_50.ne rfl).ne rfl).ne rfl).ev ?_)
          refine gsg (wanted_is (j := 9) (d := 47) (b := true) rfl rfl (((At.hit z50.put rfl).ne rfl).ne rfl) rfl) (q_idxF (j := (dI la lb r)) rfl Try.underlying22 sz37 ((At.hit z50.put.put rfl).ne rfl).ev ova_8 (At.hit z50.put.put.put rfl).ev (by omega) ?_)
          refine gsg (wanted_is (j := 9) (d := 47) (b := true) rfl rfl ((((At.hit z50.put rfl).ne rfl).ne rfl).ne rfl) rfl) (q_fldF 0 rfl fld37_0 (At.hit z50.put.put.put.put rfl).ev (ova_8.form (by omega)) ?_)
          refine gsg (wanted_is (j := 9) (d := 47) (b := true) rfl rfl (((((At.hit z50.put rfl).ne rfl).ne rfl).ne rfl).ne rfl) rfl) (q_ld1 (u := .string ((la.getD (dI la lb r) zL).f0)) rfl Try.underlying9 rfl (At.hit z50.put.put.put.put.put rfl).ev (fun _ h => (ova_8.low h)) (by omega) ((flat_at encL_len zL _ (dI la lb r) 0 (by omega) (by decide)).trans rfl) ?_)
          refine gsg (wanted_is (j := 9) (d := 47) (b := true) rfl rfl ((((((At.hit z50.put rfl).ne rfl).ne rfl).ne rfl).ne rfl).ne rfl) rfl) (q_move _ _ rfl (((((((s1_50.ne rfl).ne rfl).ne rfl).ne rfl).ne rfl).ne rfl).ne rfl).ev ?_)
          refine g_fresh z50.put.put.put.put.put.put.put.put ?_
          intro a51 z51 m51
          have s0_51 := m51 _ _ ((((((((s0_50.ne rfl).ne rfl).ne rfl).ne rfl).ne rfl).ne rfl).ne rfl).ne rfl)
          have s1_51 := m51 _ _ ((((((((s1_50.ne rfl).ne rfl).ne rfl).ne rfl).ne rfl).ne rfl).ne rfl).ne rfl)
          have s5_51 := m51 _ _ ((((((((s5_50.ne rfl).ne rfl).ne rfl).ne rfl).ne rfl).ne rfl).ne rfl).ne rfl)
          have s6_51 := m51 _ _ ((((((((s6_50.ne rfl).ne rfl).ne rfl).ne rfl).ne rfl).ne rfl).ne rfl).ne rfl)
          have s7_51 := m51 _ _ ((((((((s7_50.ne rfl).ne rfl).ne rfl).ne rfl).ne rfl).ne rfl).ne rfl).ne rfl)
          have s8_51 := m51 _ _ ((((((((s8_50.ne rfl).ne rfl).ne rfl).ne rfl).ne rfl).ne rfl).ne rfl).ne rfl)
          have s42_51 := m51 _ _ ((((((((s42_50.ne rfl).ne rfl).ne rfl).ne rfl).ne rfl).ne rfl).ne rfl).ne rfl)
          have s47_51 := m51 _ _ (((((((At.hit z50.put rfl).ne rfl).ne rfl).ne rfl).ne rfl).ne rfl).ne rfl)
          have s52_51 := m51 _ _ ((At.hit z50.put.put.put.put.put.put rfl).ne rfl)
          have s53_51 := m51 _ _ (At.hit z50.put.put.put.put.put.put.put rfl)
          clear m51
          refine gsg (wanted_is (j := 9) (d := 47) (b := true) rfl rfl s47_51 rfl) (q_move _ _ rfl s7_51.ev ?_)
          refine gsg (wanted_is (j := 9) (d := 47) (b := true) rfl rfl (s47_51.ne rfl) rfl) (q_idxF (j := (dK la lb r)) rfl Try.underlying22 sz37 (s53_51.ne rfl).ev ovb_8 (At.hit z51 rfl).ev (by omega) ?_)
          refine gsg (wanted_is (j := 9) (d := 47) (b := true) rfl rfl ((s47_51.ne rfl).ne rfl) rfl) (q_fldF 0 rfl fld37_0 (At.hit z51.put rfl).ev (ovb_8.form (by omega)) ?_)
          refine gsg (wanted_is (j := 9) (d := 47) (b := true) rfl rfl (((s47_51.ne rfl).ne rfl).ne rfl) rfl) (q_ld1 (u := .string ((lb.getD (dK la lb r) zL).f0)) rfl Try.underlying9 rfl (At.hit z51.put.put rfl).ev (fun _ h => (ovb_8.low h)) (by omega) ((flat_at encL_len zL _ (dK la lb r) 0 (by omega) (by decide)).trans rfl) ?_)
          refine gsg (wanted_is (j := 9) (d := 47) (b := true) rfl rfl ((((s47_51.ne rfl).ne rfl).ne rfl).ne rfl) rfl) (q_strlss false rfl ((((s52_51.ne rfl).ne rfl).ne rfl).ne rfl).ev (At.hit z51.put.put.put rfl).ev (eq_false_of_ne_true hb30) ?_)
          refine gsg (wanted_is (j := 4) (d := 42) (b := false) rfl rfl (((((s42_51.ne rfl).ne rfl).ne rfl).ne rfl).ne rfl) rfl) (q_pick (b := true) (.bool false) rfl (((((s47_51.ne rfl).ne rfl).ne rfl).ne rfl).ne rfl).ev (At.hit z51.put.put.put.put rfl).ev ?_)
          refine gs rfl (q_pick (b := false) (.bool false) rfl ((((((s42_51.ne rfl).ne rfl).ne rfl).ne rfl).ne rfl).ne rfl).ev (At.hit z51.put.put.put.put.put rfl).ev ?_)
          refine gs rfl (q_assign _ _ rfl (At.hit z51.put.put.put.put.put.put rfl).ev ?_)
          refine gz ?_
          intro w52 h52
          have kg8_52 := h52.blk k8
          have ox5_52 := ox5_8.low h52
          have ova_52 := ova_8.low h52
          have ovb_52 := ovb_8.low h52
          refine e_id ?_
          refine e_fresh z51.put.put.put.put.put.put.put.put ?_
          intro a53 z53 m53
          have s0_53 := m53 _ _ ((((((((s0_51.ne rfl).ne rfl).ne rfl).ne rfl).ne rfl).ne rfl).ne rfl).ne rfl)
          have s1_53 := m53 _ _ ((((((((s1_51.ne rfl).ne rfl).ne rfl).ne rfl).ne rfl).ne rfl).ne rfl).ne rfl)
          have s5_53 := m53 _ _ ((((((((s5_51.ne rfl).ne rfl).ne rfl).ne rfl).ne rfl).ne rfl).ne rfl).ne rfl)
          have s6_53 := m53 _ _ ((((((((s6_51.ne rfl).ne rfl).ne rfl).ne rfl).ne rfl).ne rfl).ne rfl).ne rfl)
          have s7_53 := m53 _ _ ((((((((s7_51.ne rfl).ne rfl).ne rfl).ne rfl).ne rfl).ne rfl).ne rfl).ne rfl)
          have s8_53 := m53 _ _ ((((((((s8_51.ne rfl).ne rfl).ne rfl).ne rfl).ne rfl).ne rfl).ne rfl).ne rfl)
          have s37_53 := m53 _ _ (At.hit z51.put.put.put.put.put.put.put rfl)
          have low53 := (low9.trans h52)
          clear m53
          refine e_then ?_
          refine c_false s37_53 ?_
          refine c_seq ?_
          by_cases hb54 : lessB (lb.getD (dK la lb r) zL).f0 (la.getD (dI la lb r) zL).f0 = true
          · skip
            refine region_lowg hm (by kernel_rfl) ?_
            refine gs rfl (q_move _ _ rfl s6_53.ev ?_)
            refine gs rfl (q_move _ _ rfl (s0_53.ne rfl).ev ?_)
            refine gs rfl (q_lenF rfl rfl Try.underlying22 (At.hit z53.put rfl).ev ova_52 ?_)
            refine gs rfl (q_eql false rfl (((At.hit z53 rfl).ne rfl).ne rfl).ev (At.hit z53.put.put rfl).ev (decide_eq_false (by omega)) ?_)
            refine gs rfl (q_move _ _ rfl (At.hit z53.put.put.put rfl).ev ?_)
            refine gsg (wanted_is (j := 4) (d := 78) (b := false) rfl rfl (At.hit z53.put.put.put.put rfl) rfl) (q_move _ _ rfl (((((s1_53.ne rfl).ne rfl).ne rfl).ne rfl).ne rfl).ev ?_)
            refine gsg (wanted_is (j := 4) (d := 78) (b := false) rfl rfl ((At.hit z53.put.put.put.put rfl).ne rfl) rfl) (q_move _ _ rfl ((((((s7_53.ne rfl).ne rfl).ne rfl).ne rfl).ne rfl).ne rfl).ev ?_)
            refine gsg (wanted_is (j := 4) (d := 78) (b := false) rfl rfl (((At.hit z53.put.put.put.put rfl).ne rfl).ne rfl) rfl) (q_idxF (j := (dK la lb r)) rfl Try.underlying22 sz37 ((At.hit z53.put.put.put.put.put rfl).ne rfl).ev ovb_52 (At.hit z53.put.put.put.put.put.put rfl).ev (by omega) ?_)
            refine g_fresh z53.put.put.put.put.put.put.put.put ?_
            intro a55 z55 m55
            have s0_55 := m55 _ _ ((((((((s0_53.ne rfl).ne rfl).ne rfl).ne rfl).ne rfl).ne rfl).ne rfl).ne rfl)
            have s1_55 := m55 _ _ ((((((((s1_53.ne rfl).ne rfl).ne rfl).ne rfl).ne rfl).ne rfl).ne rfl).ne rfl)
            have s5_55 := m55 _ _ ((((((((s5_53.ne rfl).ne rfl).ne rfl).ne rfl).ne rfl).ne rfl).ne rfl).ne rfl)
            have s6_55 := m55 _ _ ((((((((s6_53.ne rfl).ne rfl).ne rfl).ne rfl).ne rfl).ne rfl).ne rfl).ne rfl)
            have s7_55 := m55 _ _ ((((((((s7_53.ne rfl).ne rfl).ne rfl).ne rfl).ne rfl).ne rfl).ne rfl).ne rfl)
            have s8_55 := m55 _ _ ((((((((s8_53.ne rfl).ne rfl).ne rfl).ne rfl).ne rfl).ne rfl).ne rfl).ne rfl)
            have s78_55 := m55 _ _ ((((At.hit z53.put.put.put.put rfl).ne rfl).ne rfl).ne rfl)
            have s81_55 := m55 _ _ (At.hit z53.put.put.put.put.put.put.put rfl)
            clear m55
            refine gsg (wanted_is (j := 4) (d := 78) (b := false) rfl rfl s78_55 rfl) (q_fldF 0 rfl fld37_0 s81_55.ev (ovb_52.form (by omega)) ?_)
            refine gsg (wanted_is (j := 4) (d := 78) (b := false) rfl rfl (s78_55.ne rfl) rfl) (q_ld1 (u := .string ((lb.getD (dK la lb r) zL).f0)) rfl Try.underlying9 rfl (At.hit z55 rfl).ev (fun _ h => (ovb_52.low h)) (by omega) ((flat_at encL_len zL _ (dK la lb r) 0 (by omega) (by decide)).trans rfl) ?_)
            refine gsg (wanted_is (j := 4) (d := 78) (b := false) rfl rfl ((s78_55.ne rfl).ne rfl) rfl) (q_move _ _ rfl ((s0_55.ne rfl).ne rfl).ev ?_)
            refine gsg (wanted_is (j := 4) (d := 78) (b := false) rfl rfl (((s78_55.ne rfl).ne rfl).ne rfl) rfl) (q_move _ _ rfl (((s6_55.ne rfl).ne rfl).ne rfl).ev ?_)
            refine gsg (wanted_is (j := 4) (d := 78) (b := false) rfl rfl ((((s78_55.ne rfl).ne rfl).ne rfl).ne rfl) rfl) (q_idxF (j := (dI la lb r)) rfl Try.underlying22 sz37 ((At.hit z55.put.put rfl).ne rfl).ev ova_52 (At.hit z55.put.put.put rfl).ev (by omega) ?_)
            refine gsg (wanted_is (j := 4) (d := 78) (b := false) rfl rfl (((((s78_55.ne rfl).ne rfl).ne rfl).ne rfl).ne rfl) rfl) (q_fldF 0 rfl fld37_0 (At.hit z55.put.put.put.put rfl).ev (ova_52.form (by omega)) ?_)
            refine gsg (wanted_is (j := 4) (d := 78) (b := false) rfl rfl ((((((s78_55.ne rfl).ne rfl).ne rfl).ne rfl).ne rfl).ne rfl) rfl) (q_ld1 (u := .string ((la.getD (dI la lb r) zL).f0)) rfl Try.underlying9 rfl (At.hit z55.put.put.put.put.put rfl).ev (fun _ h => (ova_52.low h)) (by omega) ((flat_at encL_len zL _ (dI la lb r) 0 (by omega) (by decide)).trans rfl) ?_)
            refine gsg (wanted_is (j := 4) (d := 78) (b := false) rfl rfl (((((((s78_55.ne rfl).ne rfl).ne rfl).ne rfl).ne rfl).ne rfl).ne rfl) rfl) (q_strlss true rfl ((((((At.hit z55.put rfl).ne rfl).ne rfl).ne rfl).ne rfl).ne rfl).ev (At.hit z55.put.put.put.put.put.put rfl).ev hb54 ?_)
            refine g_fresh z55.put.put.put.put.put.put.put.put ?_
            intro a56 z56 m56
            have s0_56 := m56 _ _ ((((((((s0_55.ne rfl).ne rfl).ne rfl).ne rfl).ne rfl).ne rfl).ne rfl).ne rfl)
            have s1_56 := m56 _ _ ((((((((s1_55.ne rfl).ne rfl).ne rfl).ne rfl).ne rfl).ne rfl).ne rfl).ne rfl)
            have s5_56 := m56 _ _ ((((((((s5_55.ne rfl).ne rfl).ne rfl).ne rfl).ne rfl).ne rfl).ne rfl).ne rfl)
            have s6_56 := m56 _ _ ((((((((s6_55.ne rfl).ne rfl).ne rfl).ne rfl).ne rfl).ne rfl).ne rfl).ne rfl)
            have s7_56 := m56 _ _ ((((((((s7_55.ne rfl).ne rfl).ne rfl).ne rfl).ne rfl).ne rfl).ne rfl).ne rfl)
            have s8_56 := m56 _ _ ((((((((s8_55.ne rfl).ne rfl).ne rfl).ne rfl).ne rfl).ne rfl).ne rfl).ne rfl)
            have s78_56 := m56 _ _ ((((((((s78_55.ne rfl).ne rfl).ne rfl).ne rfl).ne rfl).ne rfl).ne rfl).ne rfl)
            have s89_56 := m56 _ _ (At.hit z55.put.put.put.put.put.put.put rfl)
            clear m56
            refine gs rfl (q_pick (b := false) (.bool true) rfl s78_56.ev s89_56.ev ?_)
            refine gs rfl (q_assign _ _ rfl (At.hit z56 rfl).ev ?_)
            refine gz ?_
            intro w57 h57
            have kg8_57 := h57.blk kg8_52
            have ox5_57 := ox5_52.low h57
            have ova_57 := ova_52.low h57
            have ovb_57 := ovb_52.low h57
            refine e_id ?_
            refine e_fresh z56.put.put ?_
            intro a58 z58 m58
            have s0_58 := m58 _ _ ((s0_56.ne rfl).ne rfl)
            have s1_58 := m58 _ _ ((s1_56.ne rfl).ne rfl)
            have s5_58 := m58 _ _ ((s5_56.ne rfl).ne rfl)
            have s6_58 := m58 _ _ ((s6_56.ne rfl).ne rfl)
            have s7_58 := m58 _ _ ((s7_56.ne rfl).ne rfl)
            have s8_58 := m58 _ _ ((s8_56.ne rfl).ne rfl)
            have s73_58 := m58 _ _ (At.hit z56.put rfl)
            have low58 := (low53.trans h57)
            clear m58
            refine e_then ?_
            refine c_true s73_58 ?_
            refine c_seq ?_
            refine region_low_tail 10 hm (by kernel_rfl) ?_
            simp only [List.take_succ_cons, List.take_zero, List.drop_succ_cons, List.drop_zero]
            refine qs (q_move _ _ rfl s1_58.ev ?_)
            refine qs (q_move _ _ rfl (s7_58.ne rfl).ev ?_)
            refine qs (q_idxF (j := (dK la lb r)) rfl Try.underlying22 sz37 ((At.hit z58 rfl).ne rfl).ev ovb_57 (At.hit z58.put rfl).ev (by omega) ?_)
            refine qs (q_fldF 0 rfl fld37_0 (At.hit z58.put.put rfl).ev (ovb_57.form (by omega)) ?_)
            refine qs (q_ld1 (u := .string ((lb.getD (dK la lb r) zL).f0)) rfl Try.underlying9 rfl (At.hit z58.put.put.put rfl).ev (fun _ h => (ovb_57.low h)) (by omega) ((flat_at encL_len zL _ (dK la lb r) 0 (by omega) (by decide)).trans rfl) ?_)
            refine qs (q_move _ _ rfl (((((s1_58.ne rfl).ne rfl).ne rfl).ne rfl).ne rfl).ev ?_)
            refine qs (q_move _ _ rfl ((((((s7_58.ne rfl).ne rfl).ne rfl).ne rfl).ne rfl).ne rfl).ev ?_)
            refine qs (q_idxF (j := (dK la lb r)) rfl Try.underlying22 sz37 ((At.hit z58.put.put.put.put.put rfl).ne rfl).ev ovb_57 (At.hit z58.put.put.put.put.put.put rfl).ev (by omega) ?_)
            refine q_fresh z58.put.put.put.put.put.put.put.put ?_
            intro a59 z59 m59
            have s0_59 := m59 _ _ ((((((((s0_58.ne rfl).ne rfl).ne rfl).ne rfl).ne rfl).ne rfl).ne rfl).ne rfl)
            have s1_59 := m59 _ _ ((((((((s1_58.ne rfl).ne rfl).ne rfl).ne rfl).ne rfl).ne rfl).ne rfl).ne rfl)
            have s5_59 := m59 _ _ ((((((((s5_58.ne rfl).ne rfl).ne rfl).ne rfl).ne rfl).ne rfl).ne rfl).ne rfl)
            have s6_59 := m59 _ _ ((((((((s6_58.ne rfl).ne rfl).ne rfl).ne rfl).ne rfl).ne rfl).ne rfl).ne rfl)
            have s7_59 := m59 _ _ ((((((((s7_58.ne rfl).ne rfl).ne rfl).ne rfl).ne rfl).ne rfl).ne rfl).ne rfl)
            have s8_59 := m59 _ _ ((((((((s8_58.ne rfl).ne rfl).ne rfl).ne rfl).ne rfl).ne rfl).ne rfl).ne rfl)
            have s95_59 := m59 _ _ ((((At.hit z58.put.put.put.put rfl).ne rfl).ne rfl).ne rfl)
            have s98_59 := m59 _ _ (At.hit z58.put.put.put.put.put.put.put rfl)
            clear m59
            refine qs (q_ldR (vs := [.string ((lb.getD (dK la lb r) zL).f0), .int .i64 ((lb.getD (dK la lb r) zL).f1), .string ((lb.getD (dK la lb r) zL).f2)]) rfl Try.underlying37 rfl sz37 s98_59.ev (fun _ h => (ovb_57.low h)) (by omega) rfl (flat_part encL_len zL _ (dK la lb r) (by omega)) ?_)
            refine qs (q_build rfl (parts2 (s95_59.ne rfl).ev (At.hit z59 rfl).ev) (turn_ac _ _ _ _) ?_)
            refine qz ?_
            intro w60 h60
            have kg8_60 := h60.blk kg8_57
            have ox5_60 := ox5_57.low h60
            have ova_60 := ova_57.low h60
            have ovb_60 := ovb_57.low h60
            refine l_row rfl rfl rfl (sz42.trans (congrArg some rfl.symm)) ((s8_59.ne rfl).ne rfl).ev (At.hit z59.put rfl).ev (by simp [Value.oneCell']) kg8_60 (rfl.trans rfl.symm) ?_
            intro w61 k61 u61
            have ox5_61 := ox5_60.updn u61 onx5_g8
            refine l_end ?_
            refine e_fresh z59.put.put ?_
            intro a62 z62 m62
            have s0_62 := m62 _ _ ((s0_59.ne rfl).ne rfl)
            have s1_62 := m62 _ _ ((s1_59.ne rfl).ne rfl)
            have s5_62 := m62 _ _ ((s5_59.ne rfl).ne rfl)
            have s6_62 := m62 _ _ ((s6_59.ne rfl).ne rfl)
            have s7_62 := m62 _ _ ((s7_59.ne rfl).ne rfl)
            have s8_62 := m62 _ _ ((s8_59.ne rfl).ne rfl)
            have low62 := ((low58.trans h60).upd u61 geg8)
            clear m62
            refine e_then ?_
            refine c_region ?_
            refine l_q rfl (q_move _ _ rfl s7_62.ev ?_)
            refine l_q rfl (q_add ((((dK la lb r) + 1 : Nat) : Int)) rfl (At.hit z62 rfl).ev rfl (i64_is (by omega) (by omega) (by omega)) ?_)
            refine l_q rfl (q_assign _ _ rfl (At.hit z62.put rfl).ev ?_)
            refine l_end ?_
            refine e_fresh z62.put.put.put ?_
            intro a63 z63 m63
            have s0_63 := m63 _ _ (((s0_62.ne rfl).ne rfl).ne rfl)
            have s1_63 := m63 _ _ (((s1_62.ne rfl).ne rfl).ne rfl)
            have s5_63 := m63 _ _ (((s5_62.ne rfl).ne rfl).ne rfl)
            have s6_63 := m63 _ _ (((s6_62.ne rfl).ne rfl).ne rfl)
            have s7_63 := m63 _ _ (At.hit z62.put.put rfl)
            have s8_63 := m63 _ _ (((s8_62.ne rfl).ne rfl).ne rfl)
            clear m63
            refine e_in ?_
            refine e_then ?_
            refine c_seq ?_
            by_cases hb64 : ¬ zL = (lb.getD (dK la lb r) zL)
            · skip
              refine c_region ?_
              refine l_q rfl (q_fld 1 rfl (by kernel_rfl) s8_63.ev ?_)
              refine l_q rfl (q_mid (vs := #[.string zL.f0, .int .i64 zL.f1, .string zL.f2]) rfl Try.underlying37 rfl sz37 (At.hit z63 rfl).ev (fun _ e => by rw [e]; exact k61) rfl ?_)
              refine l_q rfl (q_fld 4 rfl (by kernel_rfl) ((s8_63.ne rfl).ne rfl).ev ?_)
              refine l_q rfl (q_mid (vs := #[.string ((lb.getD (dK la lb r) zL).f0), .int .i64 ((lb.getD (dK la lb r) zL).f1), .string ((lb.getD (dK la lb r) zL).f2)]) rfl Try.underlying37 rfl sz37 (At.hit z63.put.put rfl).ev (fun _ e => by rw [e]; exact k61) rfl ?_)
              refine l_q rfl (q_ne3 true rfl guard37 (((At.hit z63.put rfl).ne rfl).ne rfl).ev (At.hit z63.put.put.put rfl).ev (eq37 9998 zL.f0 zL.f1 zL.f2 ((lb.getD (dK la lb r) zL).f0) ((lb.getD (dK la lb r) zL).f1) ((lb.getD (dK la lb r) zL).f2)) (neL_true hb64) ?_)
              refine l_end ?_
              refine e_fresh z63.put.put.put.put.put ?_
              intro a65 z65 m65
              have s0_65 := m65 _ _ (((((s0_63.ne rfl).ne rfl).ne rfl).ne rfl).ne rfl)
              have s1_65 := m65 _ _ (((((s1_63.ne rfl).ne rfl).ne rfl).ne rfl).ne rfl)
              have s5_65 := m65 _ _ (((((s5_63.ne rfl).ne rfl).ne rfl).ne rfl).ne rfl)
              have s6_65 := m65 _ _ (((((s6_63.ne rfl).ne rfl).ne rfl).ne rfl).ne rfl)
              have s7_65 := m65 _ _ (((((s7_63.ne rfl).ne rfl).ne rfl).ne rfl).ne rfl)
              have s8_65 := m65 _ _ (((((s8_63.ne rfl).ne rfl).ne rfl).ne rfl).ne rfl)
              have s107_65 := m65 _ _ (At.hit z63.put.put.put.put rfl)
              clear m65
              refine e_then ?_
              refine c_true s107_65 ?_
              refine c_region ?_
              refine l_q rfl (q_move _ _ rfl s5_65.ev ?_)
              refine l_q rfl (q_row rfl Try.underlying42 rfl (sz42.trans (congrArg some rfl.symm)) (s8_65.ne rfl).ev (fun _ e => by rw [e]; exact k61) ?_)
              refine l_buildF (vs := [.string ((lb.getD (dK la lb r) zL).f0), .string zL.f0, .int .i64 zL.f1, .string zL.f2, .string ((lb.getD (dK la lb r) zL).f0), .int .i64 ((lb.getD (dK la lb r) zL).f1), .string ((lb.getD (dK la lb r) zL).f2)]) rfl rfl Try.underlying39 rec42 (At.hit z65.put rfl).ev rfl rfl (by decide) (by decide) ?_
              intro g110_66 w66 hg66 k66 h66
              have onx5_g110_66 : ∀ k, Value.ownBlock v5_4 = some k → k < g110_66 := fun k hk => Nat.lt_of_lt_of_le (OwnF.own_lt ox5_61 hk) hg66
              have lt_g8_g110_66 := Nat.lt_of_lt_of_le (heap_lt k61) hg66
              have geg110_66 := Nat.le_trans low62.ge hg66
              have kg8_66 := h66.blk k61
              have ox5_66 := ox5_61.low h66
              have ova_66 := (hva.low ((low58.trans h60).upd u61 geg8)).low h66
              have ovb_66 := (hvb.low ((low58.trans h60).upd u61 geg8)).low h66
              refine l_appF (B := w0.heap.size) rfl rfl Try.underlying39 rec42 (((At.hit z65 rfl).ne rfl).ne rfl).ev (At.hit z65.put.put rfl).ev k66 rfl (by decide) rfl ox5_66 (low62.trans h66).ge (by omega) ?_
              intro v67 w67 o67 gr67
              have kg8_67 := gr67.blkn kg8_66 onx5_g8
              have lw67 := (low62.trans h66).grw gr67
              replace o67 := o67.cast (show _ = ((dO la lb r) ++ [(⟨(lb.getD (dK la lb r) zL).f0, zL, (lb.getD (dK la lb r) zL)⟩ : TnL)]).length by rw [List.length_append]; rfl) (flat_snoc (enc := encT) (dO la lb r) (⟨(lb.getD (dK la lb r) zL).f0, zL, (lb.getD (dK la lb r) zL)⟩ : TnL))
              refine l_q rfl (q_assign _ _ rfl (At.hit z65.put.put.put rfl).ev ?_)
              refine l_end ?_
              refine e_fresh z65.put.put.put.put.put ?_
              intro a68 z68 m68
              have s0_68 := m68 _ _ (((((s0_65.ne rfl).ne rfl).ne rfl).ne rfl).ne rfl)
              have s1_68 := m68 _ _ (((((s1_65.ne rfl).ne rfl).ne rfl).ne rfl).ne rfl)
              have s5_68 := m68 _ _ (At.hit z65.put.put.put.put rfl)
              have s6_68 := m68 _ _ (((((s6_65.ne rfl).ne rfl).ne rfl).ne rfl).ne rfl)
              have s7_68 := m68 _ _ (((((s7_65.ne rfl).ne rfl).ne rfl).ne rfl).ne rfl)
              have low68 := lw67
              clear m68
              refine e_in ?_
              obtain ⟨e1_69, e2_69, e3_69⟩ := d_2 (a := la) (b := lb) (r := r) (fun h => h.elim hb10 (fun h => hb30 h.2)) (.inr hb54)
              have c70 := OwnF.castL o67 (show (dO la lb r) ++ [(⟨(lb.getD (dK la lb r) zL).f0, zL, (lb.getD (dK la lb r) zL)⟩ : TnL)] = dO la lb (r + 1) from (add_new (t := ⟨_, _, _⟩) hb64).symm.trans e3_69.symm)
              exact ⟨v67, z68, s0_68, s1_68, s5_68, (s6_68.same (congrArg (Value.int .i64) (by omega))), (s7_68.same (congrArg (Value.int .i64) (by omega))), c70, low68⟩
            · skip
              refine c_region ?_
              refine l_q rfl (q_fld 1 rfl (by kernel_rfl) s8_63.ev ?_)
              refine l_q rfl (q_mid (vs := #[.string zL.f0, .int .i64 zL.f1, .string zL.f2]) rfl Try.underlying37 rfl sz37 (At.hit z63 rfl).ev (fun _ e => by rw [e]; exact k61) rfl ?_)
              refine l_q rfl (q_fld 4 rfl (by kernel_rfl) ((s8_63.ne rfl).ne rfl).ev ?_)
              refine l_q rfl (q_mid (vs := #[.string ((lb.getD (dK la lb r) zL).f0), .int .i64 ((lb.getD (dK la lb r) zL).f1), .string ((lb.getD (dK la lb r) zL).f2)]) rfl Try.underlying37 rfl sz37 (At.hit z63.put.put rfl).ev (fun _ e => by rw [e]; exact k61) rfl ?_)
              refine l_q rfl (q_ne3 false rfl guard37 (((At.hit z63.put rfl).ne rfl).ne rfl).ev (At.hit z63.put.put.put rfl).ev (eq37 9998 zL.f0 zL.f1 zL.f2 ((lb.getD (dK la lb r) zL).f0) ((lb.getD (dK la lb r) zL).f1) ((lb.getD (dK la lb r) zL).f2)) (neL_false (Decidable.not_not.1 hb64)) ?_)
              refine l_end ?_
              refine e_fresh z63.put.put.put.put.put ?_
              intro a71 z71 m71
              have s0_71 := m71 _ _ (((((s0_63.ne rfl).ne rfl).ne rfl).ne rfl).ne rfl)
              have s1_71 := m71 _ _ (((((s1_63.ne rfl).ne rfl).ne rfl).ne rfl).ne rfl)
              have s5_71 := m71 _ _ (((((s5_63.ne rfl).ne rfl).ne rfl).ne rfl).ne rfl)
              have s6_71 := m71 _ _ (((((s6_63.ne rfl).ne rfl).ne rfl).ne rfl).ne rfl)
              have s7_71 := m71 _ _ (((((s7_63.ne rfl).ne rfl).ne rfl).ne rfl).ne rfl)
              have s8_71 := m71 _ _ (((((s8_63.ne rfl).ne rfl).ne rfl).ne rfl).ne rfl)
              have s107_71 := m71 _ _ (At.hit z63.put.put.put.put rfl)
              clear m71
              refine e_then ?_
              refine c_false s107_71 ?_
              refine wp_skip ?_
              refine e_in ?_
              obtain ⟨e1_72, e2_72, e3_72⟩ := d_2 (a := la) (b := lb) (r := r) (fun h => h.elim hb10 (fun h => hb30 h.2)) (.inr hb54)
              have c73 := OwnF.castL ox5_61 (show dO la lb r = dO la lb (r + 1) from (add_same (t := ⟨(lb.getD (dK la lb r) zL).f0, zL, (lb.getD (dK la lb r) zL)⟩) (Decidable.not_not.1 hb64)).symm.trans e3_72.symm)
              exact ⟨v5_4, z71, s0_71, s1_71, s5_71, (s6_71.same (congrArg (Value.int .i64) (by omega))), (s7_71.same (congrArg (Value.int .i64) (by omega))), c73, low62⟩
          · skip
            refine region_lowg hm (by kernel_rfl) ?_
            refine gs rfl (q_move _ _ rfl s6_53.ev ?_)
            refine gs rfl (q_move _ _ rfl (s0_53.ne rfl).ev ?_)
            refine gs rfl (q_lenF rfl rfl Try.underlying22 (At.hit z53.put rfl).ev ova_52 ?_)
            refine gs rfl (q_eql false rfl (((At.hit z53 rfl).ne rfl).ne rfl).ev (At.hit z53.put.put rfl).ev (decide_eq_false (by omega)) ?_)
            refine gs rfl (q_move _ _ rfl (At.hit z53.put.put.put rfl).ev ?_)
            refine gsg (wanted_is (j := 4) (d := 78) (b := false) rfl rfl (At.hit z53.put.put.put.put rfl) rfl) (q_move _ _ rfl (((((s1_53.ne rfl).ne rfl).ne rfl).ne rfl).ne rfl).ev ?_)
            refine gsg (wanted_is (j := 4) (d := 78) (b := false) rfl rfl ((At.hit z53.put.put.put.put rfl).ne rfl) rfl) (q_move _ _ rfl ((((((s7_53.ne rfl).ne rfl).ne rfl).ne rfl).ne rfl).ne rfl).ev ?_)
            refine gsg (wanted_is (j := 4) (d := 78) (b := false) rfl rfl (((At.hit z53.put.put.put.put rfl).ne rfl).ne rfl) rfl) (q_idxF (j := (dK la lb r)) rfl Try.underlying22 sz37 ((At.hit z53.put.put.put.put.put rfl).ne rfl).ev ovb_52 (At.hit z53.put.put.put.put.put.put rfl).ev (by omega) ?_)
            refine g_fresh z53.put.put.put.put.put.put.put.put ?_
            intro a74 z74 m74
            have s0_74 := m74 _ _ ((((((((s0_53.ne rfl).ne rfl).ne rfl).ne rfl).ne rfl).ne rfl).ne rfl).ne rfl)
            have s1_74 := m74 _ _ ((((((((s1_53.ne rfl).ne rfl).ne rfl).ne rfl).ne rfl).ne rfl).ne rfl).ne rfl)
            have s5_74 := m74 _ _ ((((((((s5_53.ne rfl).ne rfl).ne rfl).ne rfl).ne rfl).ne rfl).ne rfl).ne rfl)
            have s6_74 := m74 _ _ ((((((((s6_53.ne rfl).ne rfl).ne rfl).ne rfl).ne rfl).ne rfl).ne rfl).ne rfl)
            have s7_74 := m74 _ _ ((((((((s7_53.ne rfl).ne rfl).ne rfl).ne rfl).ne rfl).ne rfl).ne rfl).ne rfl)
            have s8_74 := m74 _ _ ((((((((s8_53.ne rfl).ne rfl).ne rfl).ne rfl).ne rfl).ne rfl).ne rfl).ne rfl)
            have s78_74 := m74 _ _ ((((At.hit z53.put.put.put.put rfl).ne rfl).ne rfl).ne rfl)
            have s81_74 := m74 _ _ (At.hit z53.put.put.put.put.put.put.put rfl)
            clear m74
            refine gsg (wanted_is (j := 4) (d := 78) (b := false) rfl rfl s78_74 rfl) (q_fldF 0 rfl fld37_0 s81_74.ev (ovb_52.form (by omega)) ?_)
            refine gsg (wanted_is (j := 4) (d := 78) (b := false) rfl rfl (s78_74.ne rfl) rfl) (q_ld1 (u := .string ((lb.getD (dK la lb r) zL).f0)) rfl Try.underlying9 rfl (At.hit z74 rfl).ev (fun _ h => (ovb_52.low h)) (by omega) ((flat_at encL_len zL _ (dK la lb r) 0 (by omega) (by decide)).trans rfl) ?_)
            refine gsg (wanted_is (j := 4) (d := 78) (b := false) rfl rfl ((s78_74.ne rfl).ne rfl) rfl) (q_move _ _ rfl ((s0_74.ne rfl).ne rfl).ev ?_)
            refine gsg (wanted_is (j := 4) (d := 78) (b := false) rfl rfl (((s78_74.ne rfl).ne rfl).ne rfl) rfl) (q_move _ _ rfl (((s6_74.ne rfl).ne rfl).ne rfl).ev ?_)
            refine gsg (wanted_is (j := 4) (d := 78) (b := false) rfl rfl ((((s78_74.ne rfl).ne rfl).ne rfl).ne rfl) rfl) (q_idxF (j := (dI la lb r)) rfl Try.underlying22 sz37 ((At.hit z74.put.put rfl).ne rfl).ev ova_52 (At.hit z74.put.put.put rfl).ev (by omega) ?_)
            refine gsg (wanted_is (j := 4) (d := 78) (b := false) rfl rfl (((((s78_74.ne rfl).ne rfl).ne rfl).ne rfl).ne rfl) rfl) (q_fldF 0 rfl fld37_0 (At.hit z74.put.put.put.put rfl).ev (ova_52.form (by omega)) ?_)
            refine gsg (wanted_is (j := 4) (d := 78) (b := false) rfl rfl ((((((s78_74.ne rfl).ne rfl).ne rfl).ne rfl).ne rfl).ne rfl) rfl) (q_ld1 (u := .string ((la.getD (dI la lb r) zL).f0)) rfl Try.underlying9 rfl (At.hit z74.put.put.put.put.put rfl).ev (fun _ h => (ova_52.low h)) (by omega) ((flat_at encL_len zL _ (dI la lb r) 0 (by omega) (by decide)).trans rfl) ?_)
            refine gsg (wanted_is (j := 4) (d := 78) (b := false) rfl rfl (((((((s78_74.ne rfl).ne rfl).ne rfl).ne rfl).ne rfl).ne rfl).ne rfl) rfl) (q_strlss false rfl ((((((At.hit z74.put rfl).ne rfl).ne rfl).ne rfl).ne rfl).ne rfl).ev (At.hit z74.put.put.put.put.put.put rfl).ev (eq_false_of_ne_true hb54) ?_)
            refine g_fresh z74.put.put.put.put.put.put.put.put ?_
            intro a75 z75 m75
            have s0_75 := m75 _ _ ((((((((s0_74.ne rfl).ne rfl).ne rfl).ne rfl).ne rfl).ne rfl).ne rfl).ne rfl)
            have s1_75 := m75 _ _ ((((((((s1_74.ne rfl).ne rfl).ne rfl).ne rfl).ne rfl).ne rfl).ne rfl).ne rfl)
            have s5_75 := m75 _ _ ((((((((s5_74.ne rfl).ne rfl).ne rfl).ne rfl).ne rfl).ne rfl).ne rfl).ne rfl)
            have s6_75 := m75 _ _ ((((((((s6_74.ne rfl).ne rfl).ne rfl).ne rfl).ne rfl).ne rfl).ne rfl).ne rfl)
            have s7_75 := m75 _ _ ((((((((s7_74.ne rfl).ne rfl).ne rfl).ne rfl).ne rfl).ne rfl).ne rfl).ne rfl)
            have s8_75 := m75 _ _ ((((((((s8_74.ne rfl).ne rfl).ne rfl).ne rfl).ne rfl).ne rfl).ne rfl).ne rfl)
            have s78_75 := m75 _ _ ((((((((s78_74.ne rfl).ne rfl).ne rfl).ne rfl).ne rfl).ne rfl).ne rfl).ne rfl)
            have s89_75 := m75 _ _ (At.hit z74.put.put.put.put.put.put.put rfl)
            clear m75
            refine gs rfl (q_pick (b := false) (.bool false) rfl s78_75.ev s89_75.ev ?_)
            refine gs rfl (q_assign _ _ rfl (At.hit z75 rfl).ev ?_)
            refine gz ?_
            intro w76 h76
            have kg8_76 := h76.blk kg8_52
            have ox5_76 := ox5_52.low h76
            have ova_76 := ova_52.low h76
            have ovb_76 := ovb_52.low h76
            refine e_id ?_
            refine e_fresh z75.put.put ?_
            intro a77 z77 m77
            have s0_77 := m77 _ _ ((s0_75.ne rfl).ne rfl)
            have s1_77 := m77 _ _ ((s1_75.ne rfl).ne rfl)
            have s5_77 := m77 _ _ ((s5_75.ne rfl).ne rfl)
            have s6_77 := m77 _ _ ((s6_75.ne rfl).ne rfl)
            have s7_77 := m77 _ _ ((s7_75.ne rfl).ne rfl)
            have s8_77 := m77 _ _ ((s8_75.ne rfl).ne rfl)
            have s73_77 := m77 _ _ (At.hit z75.put rfl)
            have low77 := (low53.trans h76)
            clear m77
            refine e_then ?_
            refine c_false s73_77 ?_
            refine c_seq ?_
            refine region_low_tail 14 hm (by kernel_rfl) ?_
            simp only [List.take_succ_cons, List.take_zero, List.drop_succ_cons, List.drop_zero]
            refine qs (q_move _ _ rfl s0_77.ev ?_)
            refine qs (q_move _ _ rfl (s6_77.ne rfl).ev ?_)
            refine qs (q_idxF (j := (dI la lb r)) rfl Try.underlying22 sz37 ((At.hit z77 rfl).ne rfl).ev ova_76 (At.hit z77.put rfl).ev (by omega) ?_)
            refine qs (q_fldF 0 rfl fld37_0 (At.hit z77.put.put rfl).ev (ova_76.form (by omega)) ?_)
            refine qs (q_ld1 (u := .string ((la.getD (dI la lb r) zL).f0)) rfl Try.underlying9 rfl (At.hit z77.put.put.put rfl).ev (fun _ h => (ova_76.low h)) (by omega) ((flat_at encL_len zL _ (dI la lb r) 0 (by omega) (by decide)).trans rfl) ?_)
            refine qs (q_move _ _ rfl (((((s0_77.ne rfl).ne rfl).ne rfl).ne rfl).ne rfl).ev ?_)
            refine qs (q_move _ _ rfl ((((((s6_77.ne rfl).ne rfl).ne rfl).ne rfl).ne rfl).ne rfl).ev ?_)
            refine qs (q_idxF (j := (dI la lb r)) rfl Try.underlying22 sz37 ((At.hit z77.put.put.put.put.put rfl).ne rfl).ev ova_76 (At.hit z77.put.put.put.put.put.put rfl).ev (by omega) ?_)
            refine q_fresh z77.put.put.put.put.put.put.put.put ?_
            intro a78 z78 m78
            have s0_78 := m78 _ _ ((((((((s0_77.ne rfl).ne rfl).ne rfl).ne rfl).ne rfl).ne rfl).ne rfl).ne rfl)
            have s1_78 := m78 _ _ ((((((((s1_77.ne rfl).ne rfl).ne rfl).ne rfl).ne rfl).ne rfl).ne rfl).ne rfl)
            have s5_78 := m78 _ _ ((((((((s5_77.ne rfl).ne rfl).ne rfl).ne rfl).ne rfl).ne rfl).ne rfl).ne rfl)
            have s6_78 := m78 _ _ ((((((((s6_77.ne rfl).ne rfl).ne rfl).ne rfl).ne rfl).ne rfl).ne rfl).ne rfl)
            have s7_78 := m78 _ _ ((((((((s7_77.ne rfl).ne rfl).ne rfl).ne rfl).ne rfl).ne rfl).ne rfl).ne rfl)
            have s8_78 := m78 _ _ ((((((((s8_77.ne rfl).ne rfl).ne rfl).ne rfl).ne rfl).ne rfl).ne rfl).ne rfl)
            have s23_78 := m78 _ _ ((((At.hit z77.put.put.put.put rfl).ne rfl).ne rfl).ne rfl)
            have s26_78 := m78 _ _ (At.hit z77.put.put.put.put.put.put.put rfl)
            clear m78
            refine qs (q_ldR (vs := [.string ((la.getD (dI la lb r) zL).f0), .int .i64 ((la.getD (dI la lb r) zL).f1), .string ((la.getD (dI la lb r) zL).f2)]) rfl Try.underlying37 rfl sz37 s26_78.ev (fun _ h => (ova_76.low h)) (by omega) rfl (flat_part encL_len zL _ (dI la lb r) (by omega)) ?_)
            refine qs (q_move _ _ rfl (s1_78.ne rfl).ev ?_)
            refine qs (q_move _ _ rfl ((s7_78.ne rfl).ne rfl).ev ?_)
            refine qs (q_idxF (j := (dK la lb r)) rfl Try.underlying22 sz37 ((At.hit z78.put rfl).ne rfl).ev ovb_76 (At.hit z78.put.put rfl).ev (by omega) ?_)
            refine qs (q_ldR (vs := [.string ((lb.getD (dK la lb r) zL).f0), .int .i64 ((lb.getD (dK la lb r) zL).f1), .string ((lb.getD (dK la lb r) zL).f2)]) rfl Try.underlying37 rfl sz37 (At.hit z78.put.put.put rfl).ev (fun _ h => (ovb_76.low h)) (by omega) rfl (flat_part encL_len zL _ (dK la lb r) (by omega)) ?_)
            refine qs (q_build rfl (parts3 (((((s23_78.ne rfl).ne rfl).ne rfl).ne rfl).ne rfl).ev (((((At.hit z78 rfl).ne rfl).ne rfl).ne rfl).ne rfl).ev (At.hit z78.put.put.put.put rfl).ev) (turn_abc _ _ _ _ _ _ _) ?_)
            refine qz ?_
            intro w79 h79
            have kg8_79 := h79.blk kg8_76
            have ox5_79 := ox5_76.low h79
            have ova_79 := ova_76.low h79
            have ovb_79 := ovb_76.low h79
            refine l_row rfl rfl rfl (sz42.trans (congrArg some rfl.symm)) ((((((s8_78.ne rfl).ne rfl).ne rfl).ne rfl).ne rfl).ne rfl).ev (At.hit z78.put.put.put.put.put rfl).ev (by simp [Value.oneCell']) kg8_79 (rfl.trans rfl.symm) ?_
            intro w80 k80 u80
            have ox5_80 := ox5_79.updn u80 onx5_g8
            refine l_end ?_
            refine e_fresh z78.put.put.put.put.put.put ?_
            intro a81 z81 m81
            have s0_81 := m81 _ _ ((((((s0_78.ne rfl).ne rfl).ne rfl).ne rfl).ne rfl).ne rfl)
            have s1_81 := m81 _ _ ((((((s1_78.ne rfl).ne rfl).ne rfl).ne rfl).ne rfl).ne rfl)
            have s5_81 := m81 _ _ ((((((s5_78.ne rfl).ne rfl).ne rfl).ne rfl).ne rfl).ne rfl)
            have s6_81 := m81 _ _ ((((((s6_78.ne rfl).ne rfl).ne rfl).ne rfl).ne rfl).ne rfl)
            have s7_81 := m81 _ _ ((((((s7_78.ne rfl).ne rfl).ne rfl).ne rfl).ne rfl).ne rfl)
            have s8_81 := m81 _ _ ((((((s8_78.ne rfl).ne rfl).ne rfl).ne rfl).ne rfl).ne rfl)
            have low81 := ((low77.trans h79).upd u80 geg8)
            clear m81
            refine e_then ?_
            refine c_region ?_
            refine l_q rfl (q_move _ _ rfl s6_81.ev ?_)
            refine l_q rfl (q_add ((((dI la lb r) + 1 : Nat) : Int)) rfl (At.hit z81 rfl).ev rfl (i64_is (by omega) (by omega) (by omega)) ?_)
            refine l_q rfl (q_move _ _ rfl ((s7_81.ne rfl).ne rfl).ev ?_)
            refine l_q rfl (q_add ((((dK la lb r) + 1 : Nat) : Int)) rfl (At.hit z81.put.put rfl).ev rfl (i64_is (by omega) (by omega) (by omega)) ?_)
            refine l_q rfl (q_assign _ _ rfl (((At.hit z81.put rfl).ne rfl).ne rfl).ev ?_)
            refine l_q rfl (q_assign _ _ rfl ((At.hit z81.put.put.put rfl).ne rfl).ev ?_)
            refine l_end ?_
            refine e_fresh z81.put.put.put.put.put.put ?_
            intro a82 z82 m82
            have s0_82 := m82 _ _ ((((((s0_81.ne rfl).ne rfl).ne rfl).ne rfl).ne rfl).ne rfl)
            have s1_82 := m82 _ _ ((((((s1_81.ne rfl).ne rfl).ne rfl).ne rfl).ne rfl).ne rfl)
            have s5_82 := m82 _ _ ((((((s5_81.ne rfl).ne rfl).ne rfl).ne rfl).ne rfl).ne rfl)
            have s6_82 := m82 _ _ ((At.hit z81.put.put.put.put rfl).ne rfl)
            have s7_82 := m82 _ _ (At.hit z81.put.put.put.put.put rfl)
            have s8_82 := m82 _ _ ((((((s8_81.ne rfl).ne rfl).ne rfl).ne rfl).ne rfl).ne rfl)
            clear m82
            refine e_in ?_
            refine e_then ?_
            refine c_seq ?_
            by_cases hb83 : ¬ (la.getD (dI la lb r) zL) = (lb.getD (dK la lb r) zL)
            · skip
              refine c_region ?_
              refine l_q rfl (q_fld 1 rfl (by kernel_rfl) s8_82.ev ?_)
              refine l_q rfl (q_mid (vs := #[.string ((la.getD (dI la lb r) zL).f0), .int .i64 ((la.getD (dI la lb r) zL).f1), .string ((la.getD (dI la lb r) zL).f2)]) rfl Try.underlying37 rfl sz37 (At.hit z82 rfl).ev (fun _ e => by rw [e]; exact k80) rfl ?_)
              refine l_q rfl (q_fld 4 rfl (by kernel_rfl) ((s8_82.ne rfl).ne rfl).ev ?_)
              refine l_q rfl (q_mid (vs := #[.string ((lb.getD (dK la lb r) zL).f0), .int .i64 ((lb.getD (dK la lb r) zL).f1), .string ((lb.getD (dK la lb r) zL).f2)]) rfl Try.underlying37 rfl sz37 (At.hit z82.put.put rfl).ev (fun _ e => by rw [e]; exact k80) rfl ?_)
              refine l_q rfl (q_ne3 true rfl guard37 (((At.hit z82.put rfl).ne rfl).ne rfl).ev (At.hit z82.put.put.put rfl).ev (eq37 9998 ((la.getD (dI la lb r) zL).f0) ((la.getD (dI la lb r) zL).f1) ((la.getD (dI la lb r) zL).f2) ((lb.getD (dK la lb r) zL).f0) ((lb.getD (dK la lb r) zL).f1) ((lb.getD (dK la lb r) zL).f2)) (neL_true hb83) ?_)
              refine l_end ?_
              refine e_fresh z82.put.put.put.put.put ?_
              intro a84 z84 m84
              have s0_84 := m84 _ _ (((((s0_82.ne rfl).ne rfl).ne rfl).ne rfl).ne rfl)
              have s1_84 := m84 _ _ (((((s1_82.ne rfl).ne rfl).ne rfl).ne rfl).ne rfl)
              have s5_84 := m84 _ _ (((((s5_82.ne rfl).ne rfl).ne rfl).ne rfl).ne rfl)
              have s6_84 := m84 _ _ (((((s6_82.ne rfl).ne rfl).ne rfl).ne rfl).ne rfl)
              have s7_84 := m84 _ _ (((((s7_82.ne rfl).ne rfl).ne rfl).ne rfl).ne rfl)
              have s8_84 := m84 _ _ (((((s8_82.ne rfl).ne rfl).ne rfl).ne rfl).ne rfl)
              have s107_84 := m84 _ _ (At.hit z82.put.put.put.put rfl)
              clear m84
              refine e_then ?_
              refine c_true s107_84 ?_
              refine c_region ?_
              refine l_q rfl (q_move _ _ rfl s5_84.ev ?_)
              refine l_q rfl (q_row rfl Try.underlying42 rfl (sz42.trans (congrArg some rfl.symm)) (s8_84.ne rfl).ev (fun _ e => by rw [e]; exact k80) ?_)
              refine l_buildF (vs := [.string ((la.getD (dI la lb r) zL).f0), .string ((la.getD (dI la lb r) zL).f0), .int .i64 ((la.getD (dI la lb r) zL).f1), .string ((la.getD (dI la lb r) zL).f2), .string ((lb.getD (dK la lb r) zL).f0), .int .i64 ((lb.getD (dK la lb r) zL).f1), .string ((lb.getD (dK la lb r) zL).f2)]) rfl rfl Try.underlying39 rec42 (At.hit z84.put rfl).ev rfl rfl (by decide) (by decide) ?_
              intro g110_85 w85 hg85 k85 h85
              have onx5_g110_85 : ∀ k, Value.ownBlock v5_4 = some k → k < g110_85 := fun k hk => Nat.lt_of_lt_of_le (OwnF.own_lt ox5_80 hk) hg85
              have lt_g8_g110_85 := Nat.lt_of_lt_of_le (heap_lt k80) hg85
              have geg110_85 := Nat.le_trans low81.ge hg85
              have kg8_85 := h85.blk k80
              have ox5_85 := ox5_80.low h85
              have ova_85 := (hva.low ((low77.trans h79).upd u80 geg8)).low h85
              have ovb_85 := (hvb.low ((low77.trans h79).upd u80 geg8)).low h85
              refine l_appF (B := w0.heap.size) rfl rfl Try.underlying39 rec42 (((At.hit z84 rfl).ne rfl).ne rfl).ev (At.hit z84.put.put rfl).ev k85 rfl (by decide) rfl ox5_85 (low81.trans h85).ge (by omega) ?_
              intro v86 w86 o86 gr86
              have kg8_86 := gr86.blkn kg8_85 onx5_g8
              have lw86 := (low81.trans h85).grw gr86
              replace o86 := o86.cast (show _ = ((dO la lb r) ++ [(⟨(la.getD (dI la lb r) zL).f0, (la.getD (dI la lb r) zL), (lb.getD (dK la lb r) zL)⟩ : TnL)]).length by rw [List.length_append]; rfl) (flat_snoc (enc := encT) (dO la lb r) (⟨(la.getD (dI la lb r) zL).f0, (la.getD (dI la lb r) zL), (lb.getD (dK la lb r) zL)⟩ : TnL))
              refine l_q rfl (q_assign _ _ rfl (At.hit z84.put.put.put rfl).ev ?_)
              refine l_end ?_
              refine e_fresh z84.put.put.put.put.put ?_
              intro a87 z87 m87
              have s0_87 := m87 _ _ (((((s0_84.ne rfl).ne rfl).ne rfl).ne rfl).ne rfl)
              have s1_87 := m87 _ _ (((((s1_84.ne rfl).ne rfl).ne rfl).ne rfl).ne rfl)
              have s5_87 := m87 _ _ (At.hit z84.put.put.put.put rfl)
              have s6_87 := m87 _ _ (((((s6_84.ne rfl).ne rfl).ne rfl).ne rfl).ne rfl)
              have s7_87 := m87 _ _ (((((s7_84.ne rfl).ne rfl).ne rfl).ne rfl).ne rfl)
              have low87 := lw86
              clear m87
              refine e_in ?_
              obtain ⟨e1_88, e2_88, e3_88⟩ := d_3 (a := la) (b := lb) (r := r) (fun h => h.elim hb10 (fun h => hb30 h.2)) (fun h => h.elim (fun h => by omega) hb54)
              have c89 := OwnF.castL o86 (show (dO la lb r) ++ [(⟨(la.getD (dI la lb r) zL).f0, (la.getD (dI la lb r) zL), (lb.getD (dK la lb r) zL)⟩ : TnL)] = dO la lb (r + 1) from (add_new (t := ⟨_, _, _⟩) hb83).symm.trans e3_88.symm)
              exact ⟨v86, z87, s0_87, s1_87, s5_87, (s6_87.same (congrArg (Value.int .i64) (by omega))), (s7_87.same (congrArg (Value.int .i64) (by omega))), c89, low87⟩
            · skip
              refine c_region ?_
              refine l_q rfl (q_fld 1 rfl (by kernel_rfl) s8_82.ev ?_)
              refine l_q rfl (q_mid (vs := #[.string ((la.getD (dI la lb r) zL).f0), .int .i64 ((la.getD (dI la lb r) zL).f1), .string ((la.getD (dI la lb r) zL).f2)]) rfl Try.underlying37 rfl sz37 (At.hit z82 rfl).ev (fun _ e => by rw [e]; exact k80) rfl ?_)
              refine l_q rfl (q_fld 4 rfl (by kernel_rfl) ((s8_82.ne rfl).ne rfl).ev ?_)
              refine l_q rfl (q_mid (vs := #[.string ((lb.getD (dK la lb r) zL).f0), .int .i64 ((lb.getD (dK la lb r) zL).f1), .string ((lb.getD (dK la lb r) zL).f2)]) rfl Try.underlying37 rfl sz37 (At.hit z82.put.put rfl).ev (fun _ e => by rw [e]; exact k80) rfl ?_)
              refine l_q rfl (q_ne3 false rfl guard37 (((At.hit z82.put rfl).ne rfl).ne rfl).ev (At.hit z82.put.put.put rfl).ev (eq37 9998 ((la.getD (dI la lb r) zL).f0) ((la.getD (dI la lb r) zL).f1) ((la.getD (dI la lb r) zL).f2) ((lb.getD (dK la lb r) zL).f0) ((lb.getD (dK la lb r) zL).f1) ((lb.getD (dK la lb r) zL).f2)) (neL_false (Decidable.not_not.1 hb83)) ?_)
              refine l_end ?_
              refine e_fresh z82.put.put.put.put.put ?_
              intro a90 z90 m90
              have s0_90 := m90 _ _ (((((s0_82.ne rfl).ne rfl).ne rfl).ne rfl).ne rfl)
              have s1_90 := m90 _ _ (((((s1_82.ne rfl).ne rfl).ne rfl).ne rfl).ne rfl)
              have s5_90 := m90 _ _ (((((s5_82.ne rfl).ne rfl).ne rfl).ne rfl).ne rfl)
              have s6_90 := m90 _ _ (((((s6_82.ne rfl).ne rfl).ne rfl).ne rfl).ne rfl)
              have s7_90 := m90 _ _ (((((s7_82.ne rfl).ne rfl).ne rfl).ne rfl).ne rfl)
              have s8_90 := m90 _ _ (((((s8_82.ne rfl).ne rfl).ne rfl).ne rfl).ne rfl)
              have s107_90 := m90 _ _ (At.hit z82.put.put.put.put rfl)
              clear m90
              refine e_then ?_
              refine c_false s107_90 ?_
              refine wp_skip ?_
              refine e_in ?_
              obtain ⟨e1_91, e2_91, e3_91⟩ := d_3 (a := la) (b := lb) (r := r) (fun h => h.elim hb10 (fun h => hb30 h.2)) (fun h => h.elim (fun h => by omega) hb54)
              have c92 := OwnF.castL ox5_80 (show dO la lb r = dO la lb (r + 1) from (add_same (t := ⟨(la.getD (dI la lb r) zL).f0, (la.getD (dI la lb r) zL), (lb.getD (dK la lb r) zL)⟩) (Decidable.not_not.1 hb83)).symm.trans e3_91.symm)
              exact ⟨v5_4, z90, s0_90, s1_90, s5_90, (s6_90.same (congrArg (Value.int .i64) (by omega))), (s7_90.same (congrArg (Value.int .i64) (by omega))), c92, low81⟩
    · skip
      refine c_region ?_
      refine l_q rfl (q_move _ _ rfl s6_4.ev ?_)
      refine l_q rfl (q_move _ _ rfl (s0_4.ne rfl).ev ?_)
      refine l_q rfl (q_lenF rfl rfl Try.underlying22 (At.hit z4.put rfl).ev (hva.low low4) ?_)
      refine l_q rfl (q_lss false rfl (((At.hit z4 rfl).ne rfl).ne rfl).ev (At.hit z4.put.put rfl).ev (decide_eq_false (by omega)) ?_)
      refine l_q rfl (q_move _ _ rfl (At.hit z4.put.put.put rfl).ev ?_)
      refine l_qg (wanted_is (j := 4) (d := 13) (b := false) rfl rfl (At.hit z4.put.put.put.put rfl) rfl) (q_move _ _ rfl (((((s7_4.ne rfl).ne rfl).ne rfl).ne rfl).ne rfl).ev ?_)
      refine l_qg (wanted_is (j := 4) (d := 13) (b := false) rfl rfl ((At.hit z4.put.put.put.put rfl).ne rfl) rfl) (q_move _ _ rfl ((((((s1_4.ne rfl).ne rfl).ne rfl).ne rfl).ne rfl).ne rfl).ev ?_)
      refine l_qg (wanted_is (j := 4) (d := 13) (b := false) rfl rfl (((At.hit z4.put.put.put.put rfl).ne rfl).ne rfl) rfl) (q_lenF rfl rfl Try.underlying22 (At.hit z4.put.put.put.put.put.put rfl).ev (hvb.low low4) ?_)
      refine l_fresh z4.put.put.put.put.put.put.put.put ?_
      intro a93 z93 m93
      have s0_93 := m93 _ _ ((((((((s0_4.ne rfl).ne rfl).ne rfl).ne rfl).ne rfl).ne rfl).ne rfl).ne rfl)
      have s1_93 := m93 _ _ ((((((((s1_4.ne rfl).ne rfl).ne rfl).ne rfl).ne rfl).ne rfl).ne rfl).ne rfl)
      have s5_93 := m93 _ _ ((((((((s5_4.ne rfl).ne rfl).ne rfl).ne rfl).ne rfl).ne rfl).ne rfl).ne rfl)
      have s6_93 := m93 _ _ ((((((((s6_4.ne rfl).ne rfl).ne rfl).ne rfl).ne rfl).ne rfl).ne rfl).ne rfl)
      have s7_93 := m93 _ _ ((((((((s7_4.ne rfl).ne rfl).ne rfl).ne rfl).ne rfl).ne rfl).ne rfl).ne rfl)
      have s13_93 := m93 _ _ ((((At.hit z4.put.put.put.put rfl).ne rfl).ne rfl).ne rfl)
      have s14_93 := m93 _ _ (((At.hit z4.put.put.put.put.put rfl).ne rfl).ne rfl)
      have s16_93 := m93 _ _ (At.hit z4.put.put.put.put.put.put.put rfl)
      clear m93
      refine l_qg (wanted_is (j := 4) (d := 13) (b := false) rfl rfl s13_93 rfl) (q_lss true rfl s14_93.ev s16_93.ev (decide_eq_true (by omega)) ?_)
      refine l_q rfl (q_pick (b := false) (.bool true) rfl (s13_93.ne rfl).ev (At.hit z93 rfl).ev ?_)
      refine l_end ?_
      refine e_fresh z93.put.put ?_
      intro a94 z94 m94
      have s0_94 := m94 _ _ ((s0_93.ne rfl).ne rfl)
      have s1_94 := m94 _ _ ((s1_93.ne rfl).ne rfl)
      have s5_94 := m94 _ _ ((s5_93.ne rfl).ne rfl)
      have s6_94 := m94 _ _ ((s6_93.ne rfl).ne rfl)
      have s7_94 := m94 _ _ ((s7_93.ne rfl).ne rfl)
      have s18_94 := m94 _ _ (At.hit z93.put rfl)
      clear m94
      refine e_then ?_
      refine c_true s18_94 ?_
      refine wp_skip ?_
      refine e_then ?_
      refine wp_block ?_
      refine c_seq ?_
      refine c_region ?_
      refine l_alloc rfl rfl zero42 ?_
      intro g8 w95 hg95 k95 h95
      have onx5_g8 : ∀ k, Value.ownBlock v5_4 = some k → k < g8 := fun k hk => Nat.lt_of_lt_of_le (OwnF.own_lt ox5_4 hk) hg95
      have geg8 := Nat.le_trans low4.ge hg95
      have ox5_95 := ox5_4.low h95
      have ova_95 := (hva.low low4).low h95
      have ovb_95 := (hvb.low low4).low h95
      refine l_end ?_
      refine e_fresh z94.put ?_
      intro a96 z96 m96
      have s0_96 := m96 _ _ (s0_94.ne rfl)
      have s1_96 := m96 _ _ (s1_94.ne rfl)
      have s5_96 := m96 _ _ (s5_94.ne rfl)
      have s6_96 := m96 _ _ (s6_94.ne rfl)
      have s7_96 := m96 _ _ (s7_94.ne rfl)
      have s8_96 := m96 _ _ (At.hit z94 rfl)
      have low96 := (low4.trans h95)
      clear m96
      refine e_then ?_
      refine c_seq ?_
      refine wp_block ?_
      refine c_seq ?_
      refine region_lowg hm (by kernel_rfl) ?_
      refine gs rfl (q_move _ _ rfl s7_96.ev ?_)
      refine gs rfl (q_move _ _ rfl (s1_96.ne rfl).ev ?_)
      refine gs rfl (q_lenF rfl rfl Try.underlying22 (At.hit z96.put rfl).ev ovb_95 ?_)
      refine gs rfl (q_eql false rfl (((At.hit z96 rfl).ne rfl).ne rfl).ev (At.hit z96.put.put rfl).ev (decide_eq_false (by omega)) ?_)
      refine gs rfl (q_move _ _ rfl (At.hit z96.put.put.put rfl).ev ?_)
      refine gsg (wanted_is (j := 4) (d := 42) (b := false) rfl rfl (At.hit z96.put.put.put.put rfl) rfl) (q_move _ _ rfl (((((s6_96.ne rfl).ne rfl).ne rfl).ne rfl).ne rfl).ev ?_)
      refine gsg (wanted_is (j := 4) (d := 42) (b := false) rfl rfl ((At.hit z96.put.put.put.put rfl).ne rfl) rfl) (q_move _ _ rfl ((((((s0_96.ne rfl).ne rfl).ne rfl).ne rfl).ne rfl).ne rfl).ev ?_)
      refine gsg (wanted_is (j := 4) (d := 42) (b := false) rfl rfl (((At.hit z96.put.put.put.put rfl).ne rfl).ne rfl) rfl) (q_lenF rfl rfl Try.underlying22 (At.hit z96.put.put.put.put.put.put rfl).ev ova_95 ?_)
      refine g_fresh z96.put.put.put.put.put.put.put.put ?_
      intro a97 z97 m97
      have s0_97 := m97 _ _ ((((((((s0_96.ne rfl).ne rfl).ne rfl).ne rfl).ne rfl).ne rfl).ne rfl).ne rfl)
      have s1_97 := m97 _ _ ((((((((s1_96.ne rfl).ne rfl).ne rfl).ne rfl).ne rfl).ne rfl).ne rfl).ne rfl)
      have s5_97 := m97 _ _ ((((((((s5_96.ne rfl).ne rfl).ne rfl).ne rfl).ne rfl).ne rfl).ne rfl).ne rfl)
      have s6_97 := m97 _ _ ((((((((s6_96.ne rfl).ne rfl).ne rfl).ne rfl).ne rfl).ne rfl).ne rfl).ne rfl)
      have s7_97 := m97 _ _ ((((((((s7_96.ne rfl).ne rfl).ne rfl).ne rfl).ne rfl).ne rfl).ne rfl).ne rfl)
      have s8_97 := m97 _ _ ((((((((s8_96.ne rfl).ne rfl).ne rfl).ne rfl).ne rfl).ne rfl).ne rfl).ne rfl)
      have s42_97 := m97 _ _ ((((At.hit z96.put.put.put.put rfl).ne rfl).ne rfl).ne rfl)
      have s43_97 := m97 _ _ (((At.hit z96.put.put.put.put.put rfl).ne rfl).ne rfl)
      have s45_97 := m97 _ _ (At.hit z96.put.put.put.put.put.put.put rfl)
      clear m97
      refine gsg (wanted_is (j := 4) (d := 42) (b := false) rfl rfl s42_97 rfl) (q_lss false rfl s43_97.ev s45_97.ev (decide_eq_false (by omega)) ?_)
      refine gsg (wanted_is (j := 4) (d := 42) (b := false) rfl rfl (s42_97.ne rfl) rfl) (q_move _ _ rfl (At.hit z97 rfl).ev ?_)
      refine gsk (wanted_is (j := 9) (d := 47) (b := false) rfl rfl (At.hit z97.put rfl) rfl) ?_
      refine gsk (wanted_is (j := 9) (d := 47) (b := false) rfl rfl ((At.hit z97.put rfl).ne rfl) rfl) ?_
      refine gsk (wanted_is (j := 9) (d := 47) (b := false) rfl rfl (((At.hit z97.put rfl).ne rfl).ne rfl) rfl) ?_
      refine gsk (wanted_is (j := 9) (d := 47) (b := false) rfl rfl ((((At.hit z97.put rfl).ne rfl).ne rfl).ne rfl) rfl) ?_
      refine gsk (wanted_is (j := 9) (d := 47) (b := false) rfl rfl (((((At.hit z97.put rfl).ne rfl).ne rfl).ne rfl).ne rfl) rfl) ?_
      refine gsk (wanted_is (j := 9) (d := 47) (b := false) rfl rfl ((((((At.hit z97.put rfl).ne rfl).ne rfl).ne rfl).ne rfl).ne rfl) rfl) ?_
      refine g_fresh z97.put.put.put.put.put.put.put.put ?_
      intro a98 z98 m98
      have s0_98 := m98 _ _ ((((((((s0_97.ne rfl).ne rfl).ne rfl).ne rfl).ne rfl).ne rfl).ne rfl).ne rfl)
      have s1_98 := m98 _ _ ((((((((s1_97.ne rfl).ne rfl).ne rfl).ne rfl).ne rfl).ne rfl).ne rfl).ne rfl)
      have s5_98 := m98 _ _ ((((((((s5_97.ne rfl).ne rfl).ne rfl).ne rfl).ne rfl).ne rfl).ne rfl).ne rfl)
      have s6_98 := m98 _ _ ((((((((s6_97.ne rfl).ne rfl).ne rfl).ne rfl).ne rfl).ne rfl).ne rfl).ne rfl)
      have s7_98 := m98 _ _ ((((((((s7_97.ne rfl).ne rfl).ne rfl).ne rfl).ne rfl).ne rfl).ne rfl).ne rfl)
      have s8_98 := m98 _ _ ((((((((s8_97.ne rfl).ne rfl).ne rfl).ne rfl).ne rfl).ne rfl).ne rfl).ne rfl)
      have s42_98 := m98 _ _ ((((((((s42_97.ne rfl).ne rfl).ne rfl).ne rfl).ne rfl).ne rfl).ne rfl).ne rfl)
      have s47_98 := m98 _ _ (((((((At.hit z97.put rfl).ne rfl).ne rfl).ne rfl).ne rfl).ne rfl).ne rfl)
      have s52_98 := m98 _ _ ((At.hit z97.put.put.put.put.put.put rfl).ne rfl)
      have s53_98 := m98 _ _ (At.hit z97.put.put.put.put.put.put.put rfl)
      clear m98
      refine gsk (wanted_is (j := 9) (d := 47) (b := false) rfl rfl s47_98 rfl) ?_
      refine gsk (wanted_is (j := 9) (d := 47) (b := false) rfl rfl (s47_98.ne rfl) rfl) ?_
      refine gsk (wanted_is (j := 9) (d := 47) (b := false) rfl rfl ((s47_98.ne rfl).ne rfl) rfl) ?_
      refine gsk (wanted_is (j := 9) (d := 47) (b := false) rfl rfl (((s47_98.ne rfl).ne rfl).ne rfl) rfl) ?_
      refine gsk (wanted_is (j := 9) (d := 47) (b := false) rfl rfl ((((s47_98.ne rfl).ne rfl).ne rfl).ne rfl) rfl) ?_
      refine gsg (wanted_is (j := 4) (d := 42) (b := false) rfl rfl (((((s42_98.ne rfl).ne rfl).ne rfl).ne rfl).ne rfl) rfl) (q_pick (b := false) (.bool false) rfl (((((s47_98.ne rfl).ne rfl).ne rfl).ne rfl).ne rfl).ev rfl ?_)
      refine gs rfl (q_pick (b := false) (.bool false) rfl ((((((s42_98.ne rfl).ne rfl).ne rfl).ne rfl).ne rfl).ne rfl).ev (At.hit z98.put.put.put.put.put rfl).ev ?_)
      refine gs rfl (q_assign _ _ rfl (At.hit z98.put.put.put.put.put.put rfl).ev ?_)
      refine gz ?_
      intro w99 h99
      have kg8_99 := h99.blk k95
      have ox5_99 := ox5_95.low h99
      have ova_99 := ova_95.low h99
      have ovb_99 := ovb_95.low h99
      refine e_id ?_
      refine e_fresh z98.put.put.put.put.put.put.put.put ?_
      intro a100 z100 m100
      have s0_100 := m100 _ _ ((((((((s0_98.ne rfl).ne rfl).ne rfl).ne rfl).ne rfl).ne rfl).ne rfl).ne rfl)
      have s1_100 := m100 _ _ ((((((((s1_98.ne rfl).ne rfl).ne rfl).ne rfl).ne rfl).ne rfl).ne rfl).ne rfl)
      have s5_100 := m100 _ _ ((((((((s5_98.ne rfl).ne rfl).ne rfl).ne rfl).ne rfl).ne rfl).ne rfl).ne rfl)
      have s6_100 := m100 _ _ ((((((((s6_98.ne rfl).ne rfl).ne rfl).ne rfl).ne rfl).ne rfl).ne rfl).ne rfl)
      have s7_100 := m100 _ _ ((((((((s7_98.ne rfl).ne rfl).ne rfl).ne rfl).ne rfl).ne rfl).ne rfl).ne rfl)
      have s8_100 := m100 _ _ ((((((((s8_98.ne rfl).ne rfl).ne rfl).ne rfl).ne rfl).ne rfl).ne rfl).ne rfl)
      have s37_100 := m100 _ _ (At.hit z98.put.put.put.put.put.put.put rfl)
      have low100 := (low96.trans h99)
      clear m100
      refine e_then ?_
      refine c_false s37_100 ?_
      refine c_seq ?_
      refine region_lowg hm (by kernel_rfl) ?_
      refine gs rfl (q_move _ _ rfl s6_100.ev ?_)
      refine gs rfl (q_move _ _ rfl (s0_100.ne rfl).ev ?_)
      refine gs rfl (q_lenF rfl rfl Try.underlying22 (At.hit z100.put rfl).ev ova_99 ?_)
      refine gs rfl (q_eql true rfl (((At.hit z100 rfl).ne rfl).ne rfl).ev (At.hit z100.put.put rfl).ev (decide_eq_true (by omega)) ?_)
      refine gs rfl (q_move _ _ rfl (At.hit z100.put.put.put rfl).ev ?_)
      refine gsk (wanted_is (j := 4) (d := 78) (b := true) rfl rfl (At.hit z100.put.put.put.put rfl) rfl) ?_
      refine gsk (wanted_is (j := 4) (d := 78) (b := true) rfl rfl ((At.hit z100.put.put.put.put rfl).ne rfl) rfl) ?_
      refine gsk (wanted_is (j := 4) (d := 78) (b := true) rfl rfl (((At.hit z100.put.put.put.put rfl).ne rfl).ne rfl) rfl) ?_
      refine g_fresh z100.put.put.put.put.put.put.put.put ?_
      intro a101 z101 m101
      have s0_101 := m101 _ _ ((((((((s0_100.ne rfl).ne rfl).ne rfl).ne rfl).ne rfl).ne rfl).ne rfl).ne rfl)
      have s1_101 := m101 _ _ ((((((((s1_100.ne rfl).ne rfl).ne rfl).ne rfl).ne rfl).ne rfl).ne rfl).ne rfl)
      have s5_101 := m101 _ _ ((((((((s5_100.ne rfl).ne rfl).ne rfl).ne rfl).ne rfl).ne rfl).ne rfl).ne rfl)
      have s6_101 := m101 _ _ ((((((((s6_100.ne rfl).ne rfl).ne rfl).ne rfl).ne rfl).ne rfl).ne rfl).ne rfl)
      have s7_101 := m101 _ _ ((((((((s7_100.ne rfl).ne rfl).ne rfl).ne rfl).ne rfl).ne rfl).ne rfl).ne rfl)
      have s8_101 := m101 _ _ ((((((((s8_100.ne rfl).ne rfl).ne rfl).ne rfl).ne rfl).ne rfl).ne rfl).ne rfl)
      have s78_101 := m101 _ _ ((((At.hit z100.put.put.put.put rfl).ne rfl).ne rfl).ne rfl)
      have s81_101 := m101 _ _ (At.hit z100.put.put.put.put.put.put.put rfl)
      clear m101
      refine gsk (wanted_is (j := 4) (d := 78) (b := true) rfl rfl s78_101 rfl) ?_
      refine gsk (wanted_is (j := 4) (d := 78) (b := true) rfl rfl (s78_101.ne rfl) rfl) ?_
      refine gsk (wanted_is (j := 4) (d := 78) (b := true) rfl rfl ((s78_101.ne rfl).ne rfl) rfl) ?_
      refine gsk (wanted_is (j := 4) (d := 78) (b := true) rfl rfl (((s78_101.ne rfl).ne rfl).ne rfl) rfl) ?_
      refine gsk (wanted_is (j := 4) (d := 78) (b := true) rfl rfl ((((s78_101.ne rfl).ne rfl).ne rfl).ne rfl) rfl) ?_
      refine gsk (wanted_is (j := 4) (d := 78) (b := true) rfl rfl (((((s78_101.ne rfl).ne rfl).ne rfl).ne rfl).ne rfl) rfl) ?_
      refine gsk (wanted_is (j := 4) (d := 78) (b := true) rfl rfl ((((((s78_101.ne rfl).ne rfl).ne rfl).ne rfl).ne rfl).ne rfl) rfl) ?_
      refine gsk (wanted_is (j := 4) (d := 78) (b := true) rfl rfl (((((((s78_101.ne rfl).ne rfl).ne rfl).ne rfl).ne rfl).ne rfl).ne rfl) rfl) ?_
      refine g_fresh z101.put.put.put.put.put.put.put.put ?_
      intro a102 z102 m102
      have s0_102 := m102 _ _ ((((((((s0_101.ne rfl).ne rfl).ne rfl).ne rfl).ne rfl).ne rfl).ne rfl).ne rfl)
      have s1_102 := m102 _ _ ((((((((s1_101.ne rfl).ne rfl).ne rfl).ne rfl).ne rfl).ne rfl).ne rfl).ne rfl)
      have s5_102 := m102 _ _ ((((((((s5_101.ne rfl).ne rfl).ne rfl).ne rfl).ne rfl).ne rfl).ne rfl).ne rfl)
      have s6_102 := m102 _ _ ((((((((s6_101.ne rfl).ne rfl).ne rfl).ne rfl).ne rfl).ne rfl).ne rfl).ne rfl)
      have s7_102 := m102 _ _ ((((((((s7_101.ne rfl).ne rfl).ne rfl).ne rfl).ne rfl).ne rfl).ne rfl).ne rfl)
      have s8_102 := m102 _ _ ((((((((s8_101.ne rfl).ne rfl).ne rfl).ne rfl).ne rfl).ne rfl).ne rfl).ne rfl)
      have s78_102 := m102 _ _ ((((((((s78_101.ne rfl).ne rfl).ne rfl).ne rfl).ne rfl).ne rfl).ne rfl).ne rfl)
      have s89_102 := m102 _ _ (At.hit z101.put.put.put.put.put.put.put rfl)
      clear m102
      refine gs rfl (q_pick (b := true) (.bool true) rfl s78_102.ev rfl ?_)
      refine gs rfl (q_assign _ _ rfl (At.hit z102 rfl).ev ?_)
      refine gz ?_
      intro w103 h103
      have kg8_103 := h103.blk kg8_99
      have ox5_103 := ox5_99.low h103
      have ova_103 := ova_99.low h103
      have ovb_103 := ovb_99.low h103
      refine e_id ?_
      refine e_fresh z102.put.put ?_
      intro a104 z104 m104
      have s0_104 := m104 _ _ ((s0_102.ne rfl).ne rfl)
      have s1_104 := m104 _ _ ((s1_102.ne rfl).ne rfl)
      have s5_104 := m104 _ _ ((s5_102.ne rfl).ne rfl)
      have s6_104 := m104 _ _ ((s6_102.ne rfl).ne rfl)
      have s7_104 := m104 _ _ ((s7_102.ne rfl).ne rfl)
      have s8_104 := m104 _ _ ((s8_102.ne rfl).ne rfl)
      have s73_104 := m104 _ _ (At.hit z102.put rfl)
      have low104 := (low100.trans h103)
      clear m104
      refine e_then ?_
      refine c_true s73_104 ?_
      refine c_seq ?_
      refine region_low_tail 10 hm (by kernel_rfl) ?_
      simp only [List.take_succ_cons, List.take_zero, List.drop_succ_cons, List.drop_zero]
      refine qs (q_move _ _ rfl s1_104.ev ?_)
      refine qs (q_move _ _ rfl (s7_104.ne rfl).ev ?_)
      refine qs (q_idxF (j := (dK la lb r)) rfl Try.underlying22 sz37 ((At.hit z104 rfl).ne rfl).ev ovb_103 (At.hit z104.put rfl).ev (by omega) ?_)
      refine qs (q_fldF 0 rfl fld37_0 (At.hit z104.put.put rfl).ev (ovb_103.form (by omega)) ?_)
      refine qs (q_ld1 (u := .string ((lb.getD (dK la lb r) zL).f0)) rfl Try.underlying9 rfl (At.hit z104.put.put.put rfl).ev (fun _ h => (ovb_103.low h)) (by omega) ((flat_at encL_len zL _ (dK la lb r) 0 (by omega) (by decide)).trans rfl) ?_)
      refine qs (q_move _ _ rfl (((((s1_104.ne rfl).ne rfl).ne rfl).ne rfl).ne rfl).ev ?_)
      refine qs (q_move _ _ rfl ((((((s7_104.ne rfl).ne rfl).ne rfl).ne rfl).ne rfl).ne rfl).ev ?_)
      refine qs (q_idxF (j := (dK la lb r)) rfl Try.underlying22 sz37 ((At.hit z104.put.put.put.put.put rfl).ne rfl).ev ovb_103 (At.hit z104.put.put.put.put.put.put rfl).ev (by omega) ?_)
      refine q_fresh z104.put.put.put.put.put.put.put.put ?_
      intro a105 z105 m105
      have s0_105 := m105 _ _ ((((((((s0_104.ne rfl).ne rfl).ne rfl).ne rfl).ne rfl).ne rfl).ne rfl).ne rfl)
      have s1_105 := m105 _ _ ((((((((s1_104.ne rfl).ne rfl).ne rfl).ne rfl).ne rfl).ne rfl).ne rfl).ne rfl)
      have s5_105 := m105 _ _ ((((((((s5_104.ne rfl).ne rfl).ne rfl).ne rfl).ne rfl).ne rfl).ne rfl).ne rfl)
      have s6_105 := m105 _ _ ((((((((s6_104.ne rfl).ne rfl).ne rfl).ne rfl).ne rfl).ne rfl).ne rfl).ne rfl)
      have s7_105 := m105 _ _ ((((((((s7_104.ne rfl).ne rfl).ne rfl).ne rfl).ne rfl).ne rfl).ne rfl).ne rfl)
      have s8_105 := m105 _ _ ((((((((s8_104.ne rfl).ne rfl).ne rfl).ne rfl).ne rfl).ne rfl).ne rfl).ne rfl)
      have s95_105 := m105 _ _ ((((At.hit z104.put.put.put.put rfl).ne rfl).ne rfl).ne rfl)
      have s98_105 := m105 _ _ (At.hit z104.put.put.put.put.put.put.put rfl)
      clear m105
      refine qs (q_ldR (vs := [.string ((lb.getD (dK la lb r) zL).f0), .int .i64 ((lb.getD (dK la lb r) zL).f1), .string ((lb.getD (dK la lb r) zL).f2)]) rfl Try.underlying37 rfl sz37 s98_105.ev (fun _ h => (ovb_103.low h)) (by omega) rfl (flat_part encL_len zL _ (dK la lb r) (by omega)) ?_)
      refine qs (q_build rfl (parts2 (s95_105.ne rfl).ev (At.hit z105 rfl).ev) (turn_ac _ _ _ _) ?_)
      refine qz ?_
      intro w106 h106
      have kg8_106 := h106.blk kg8_103
      have ox5_106 := ox5_103.low h106
      have ova_106 := ova_103.low h106
      have ovb_106 := ovb_103.low h106
      refine l_row rfl rfl rfl (sz42.trans (congrArg some rfl.symm)) ((s8_105.ne rfl).ne rfl).ev (At.hit z105.put rfl).ev (by simp [Value.oneCell']) kg8_106 (rfl.trans rfl.symm) ?_
      intro w107 k107 u107
      have ox5_107 := ox5_106.updn u107 onx5_g8
      refine l_end ?_
      refine e_fresh z105.put.put ?_
      intro a108 z108 m108
      have s0_108 := m108 _ _ ((s0_105.ne rfl).ne rfl)
      have s1_108 := m108 _ _ ((s1_105.ne rfl).ne rfl)
      have s5_108 := m108 _ _ ((s5_105.ne rfl).ne rfl)
      have s6_108 := m108 _ _ ((s6_105.ne rfl).ne rfl)
      have s7_108 := m108 _ _ ((s7_105.ne rfl).ne rfl)
      have s8_108 := m108 _ _ ((s8_105.ne rfl).ne rfl)
      have low108 := ((low104.trans h106).upd u107 geg8)
      clear m108
      refine e_then ?_
      refine c_region ?_
      refine l_q rfl (q_move _ _ rfl s7_108.ev ?_)
      refine l_q rfl (q_add ((((dK la lb r) + 1 : Nat) : Int)) rfl (At.hit z108 rfl).ev rfl (i64_is (by omega) (by omega) (by omega)) ?_)
      refine l_q rfl (q_assign _ _ rfl (At.hit z108.put rfl).ev ?_)
      refine l_end ?_
      refine e_fresh z108.put.put.put ?_
      intro a109 z109 m109
      have s0_109 := m109 _ _ (((s0_108.ne rfl).ne rfl).ne rfl)
      have s1_109 := m109 _ _ (((s1_108.ne rfl).ne rfl).ne rfl)
      have s5_109 := m109 _ _ (((s5_108.ne rfl).ne rfl).ne rfl)
      have s6_109 := m109 _ _ (((s6_108.ne rfl).ne rfl).ne rfl)
      have s7_109 := m109 _ _ (At.hit z108.put.put rfl)
      have s8_109 := m109 _ _ (((s8_108.ne rfl).ne rfl).ne rfl)
      clear m109
      refine e_in ?_
      refine e_then ?_
      refine c_seq ?_
      by_cases hb110 : ¬ zL = (lb.getD (dK la lb r) zL)
      · skip
        refine c_region ?_
        refine l_q rfl (q_fld 1 rfl (by kernel_rfl) s8_109.ev ?_)
        refine l_q rfl (q_mid (vs := #[.string zL.f0, .int .i64 zL.f1, .string zL.f2]) rfl Try.underlying37 rfl sz37 (At.hit z109 rfl).ev (fun _ e => by rw [e]; exact k107) rfl ?_)
        refine l_q rfl (q_fld 4 rfl (by kernel_rfl) ((s8_109.ne rfl).ne rfl).ev ?_)
        refine l_q rfl (q_mid (vs := #[.string ((lb.getD (dK la lb r) zL).f0), .int .i64 ((lb.getD (dK la lb r) zL).f1), .string ((lb.getD (dK la lb r) zL).f2)]) rfl Try.underlying37 rfl sz37 (At.hit z109.put.put rfl).ev (fun _ e => by rw [e]; exact k107) rfl ?_)
        refine l_q rfl (q_ne3 true rfl guard37 (((At.hit z109.put rfl).ne rfl).ne rfl).ev (At.hit z109.put.put.put rfl).ev (eq37 9998 zL.f0 zL.f1 zL.f2 ((lb.getD (dK la lb r) zL).f0) ((lb.getD (dK la lb r) zL).f1) ((lb.getD (dK la lb r) zL).f2)) (neL_true hb110) ?_)
        refine l_end ?_
        refine e_fresh z109.put.put.put.put.put ?_
        intro a111 z111 m111
        have s0_111 := m111 _ _ (((((s0_109.ne rfl).ne rfl).ne rfl).ne rfl).ne rfl)
        have s1_111 := m111 _ _ (((((s1_109.ne rfl).ne rfl).ne rfl).ne rfl).ne rfl)
        have s5_111 := m111 _ _ (((((s5_109.ne rfl).ne rfl).ne rfl).ne rfl).ne rfl)
        have s6_111 := m111 _ _ (((((s6_109.ne rfl).ne rfl).ne rfl).ne rfl).ne rfl)
        have s7_111 := m111 _ _ (((((s7_109.ne rfl).ne rfl).ne rfl).ne rfl).ne rfl)
        have s8_111 := m111 _ _ (((((s8_109.ne rfl).ne rfl).ne rfl).ne rfl).ne rfl)
        have s107_111 := m111 _ _ (At.hit z109.put.put.put.put rfl)
        clear m111
        refine e_then ?_
        refine c_true s107_111 ?_
        refine c_region ?_
        refine l_q rfl (q_move _ _ rfl s5_111.ev ?_)
        refine l_q rfl (q_row rfl Try.underlying42 rfl (sz42.trans (congrArg some rfl.symm)) (s8_111.ne rfl).ev (fun _ e => by rw [e]; exact k107) ?_)
        refine l_buildF (vs := [.string ((lb.getD (dK la lb r) zL).f0), .string zL.f0, .int .i64 zL.f1, .string zL.f2, .string ((lb.getD (dK la lb r) zL).f0), .int .i64 ((lb.getD (dK la lb r) zL).f1), .string ((lb.getD (dK la lb r) zL).f2)]) rfl rfl Try.underlying39 rec42 (At.hit z111.put rfl).ev rfl rfl (by decide) (by decide) ?_
        intro g110_112 w112 hg112 k112 h112
        have onx5_g110_112 : ∀ k, Value.ownBlock v5_4 = some k → k < g110_112 := fun k hk => Nat.lt_of_lt_of_le (OwnF.own_lt ox5_107 hk) hg112
        have lt_g8_g110_112 := Nat.lt_of_lt_of_le (heap_lt k107) hg112
        have geg110_112 := Nat.le_trans low108.ge hg112
        have kg8_112 := h112.blk k107
        have ox5_112 := ox5_107.low h112
        have ova_112 := (hva.low ((low104.trans h106).upd u107 geg8)).low h112
        have ovb_112 := (hvb.low ((low104.trans h106).upd u107 geg8)).low h112
        refine l_appF (B := w0.heap.size) rfl rfl Try.underlying39 rec42 (((At.hit z111 rfl).ne rfl).ne rfl).ev (At.hit z111.put.put rfl).ev k112 rfl (by decide) rfl ox5_112 (low108.trans h112).ge (by omega) ?_
        intro v113 w113 o113 gr113
        have kg8_113 := gr113.blkn kg8_112 onx5_g8
        have lw113 := (low108.trans h112).grw gr113
        replace o113 := o113.cast (show _ = ((dO la lb r) ++ [(⟨(lb.getD (dK la lb r) zL).f0, zL, (lb.getD (dK la lb r) zL)⟩ : TnL)]).length by rw [List.length_append]; rfl) (flat_snoc (enc := encT) (dO la lb r) (⟨(lb.getD (dK la lb r) zL).f0, zL, (lb.getD (dK la lb r) zL)⟩ : TnL))
        refine l_q rfl (q_assign _ _ rfl (At.hit z111.put.put.put rfl).ev ?_)
        refine l_end ?_
        refine e_fresh z111.put.put.put.put.put ?_
        intro a114 z114 m114
        have s0_114 := m114 _ _ (((((s0_111.ne rfl).ne rfl).ne rfl).ne rfl).ne rfl)
        have s1_114 := m114 _ _ (((((s1_111.ne rfl).ne rfl).ne rfl).ne rfl).ne rfl)
        have s5_114 := m114 _ _ (At.hit z111.put.put.put.put rfl)
        have s6_114 := m114 _ _ (((((s6_111.ne rfl).ne rfl).ne rfl).ne rfl).ne rfl)
        have s7_114 := m114 _ _ (((((s7_111.ne rfl).ne rfl).ne rfl).ne rfl).ne rfl)
        have low114 := lw113
        clear m114
        refine e_in ?_
        obtain ⟨e1_115, e2_115, e3_115⟩ := d_2 (a := la) (b := lb) (r := r) (fun h => h.elim (fun h => by omega) (fun h => by have := h.1; omega)) (.inl (by omega))
        have c116 := OwnF.castL o113 (show (dO la lb r) ++ [(⟨(lb.getD (dK la lb r) zL).f0, zL, (lb.getD (dK la lb r) zL)⟩ : TnL)] = dO la lb (r + 1) from (add_new (t := ⟨_, _, _⟩) hb110).symm.trans e3_115.symm)
        exact ⟨v113, z114, s0_114, s1_114, s5_114, (s6_114.same (congrArg (Value.int .i64) (by omega))), (s7_114.same (congrArg (Value.int .i64) (by omega))), c116, low114⟩
      · skip
        refine c_region ?_
        refine l_q rfl (q_fld 1 rfl (by kernel_rfl) s8_109.ev ?_)
        refine l_q rfl (q_mid (vs := #[.string zL.f0, .int .i64 zL.f1, .string zL.f2]) rfl Try.underlying37 rfl sz37 (At.hit z109 rfl).ev (fun _ e => by rw [e]; exact k107) rfl ?_)
        refine l_q rfl (q_fld 4 rfl (by kernel_rfl) ((s8_109.ne rfl).ne rfl).ev ?_)
        refine l_q rfl (q_mid (vs := #[.string ((lb.getD (dK la lb r) zL).f0), .int .i64 ((lb.getD (dK la lb r) zL).f1), .string ((lb.getD (dK la lb r) zL).f2)]) rfl Try.underlying37 rfl sz37 (At.hit z109.put.put rfl).ev (fun _ e => by rw [e]; exact k107) rfl ?_)
        refine l_q rfl (q_ne3 false rfl guard37 (((At.hit z109.put rfl).ne rfl).ne rfl).ev (At.hit z109.put.put.put rfl).ev (eq37 9998 zL.f0 zL.f1 zL.f2 ((lb.getD (dK la lb r) zL).f0) ((lb.getD (dK la lb r) zL).f1) ((lb.getD (dK la lb r) zL).f2)) (neL_false (Decidable.not_not.1 hb110)) ?_)
        refine l_end ?_
        refine e_fresh z109.put.put.put.put.put ?_
        intro a117 z117 m117
        have s0_117 := m117 _ _ (((((s0_109.ne rfl).ne rfl).ne rfl).ne rfl).ne rfl)
        have s1_117 := m117 _ _ (((((s1_109.ne rfl).ne rfl).ne rfl).ne rfl).ne rfl)
        have s5_117 := m117 _ _ (((((s5_109.ne rfl).ne rfl).ne rfl).ne rfl).ne rfl)
        have s6_117 := m117 _ _ (((((s6_109.ne rfl).ne rfl).ne rfl).ne rfl).ne rfl)
        have s7_117 := m117 _ _ (((((s7_109.ne rfl).ne rfl).ne rfl).ne rfl).ne rfl)
        have s8_117 := m117 _ _ (((((s8_109.ne rfl).ne rfl).ne rfl).ne rfl).ne rfl)
        have s107_117 := m117 _ _ (At.hit z109.put.put.put.put rfl)
        clear m117
        refine e_then ?_
        refine c_false s107_117 ?_
        refine wp_skip ?_
        refine e_in ?_
        obtain ⟨e1_118, e2_118, e3_118⟩ := d_2 (a := la) (b := lb) (r := r) (fun h => h.elim (fun h => by omega) (fun h => by have := h.1; omega)) (.inl (by omega))
        have c119 := OwnF.castL ox5_107 (show dO la lb r = dO la lb (r + 1) from (add_same (t := ⟨(lb.getD (dK la lb r) zL).f0, zL, (lb.getD (dK la lb r) zL)⟩) (Decidable.not_not.1 hb110)).symm.trans e3_118.symm)
        exact ⟨v5_4, z117, s0_117, s1_117, s5_117, (s6_117.same (congrArg (Value.int .i64) (by omega))), (s7_117.same (congrArg (Value.int .i64) (by omega))), c119, low108⟩
  · intro a120 w120 h
    obtain ⟨v5_120, z120, s0_120, s1_120, s5_120, s6_120, s7_120, ox5_120, low120⟩ := h
    clear s0_3 s1_3 s5_3 s6_3 s7_3 z3
    obtain ⟨hdi, hdk⟩ := d_end la lb
    refine c_seq ?_
    refine c_seq ?_
    refine c_region ?_
    refine l_q rfl (q_move _ _ rfl s6_120.ev ?_)
    refine l_q rfl (q_move _ _ rfl (s0_120.ne rfl).ev ?_)
    refine l_q rfl (q_lenF rfl rfl Try.underlying22 (At.hit z120.put rfl).ev (hva.low low120) ?_)
    refine l_q rfl (q_lss false rfl (((At.hit z120 rfl).ne rfl).ne rfl).ev (At.hit z120.put.put rfl).ev (decide_eq_false (by omega)) ?_)
    refine l_q rfl (q_move _ _ rfl (At.hit z120.put.put.put rfl).ev ?_)
    refine l_qg (wanted_is (j := 4) (d := 13) (b := false) rfl rfl (At.hit z120.put.put.put.put rfl) rfl) (q_move _ _ rfl (((((s7_120.ne rfl).ne rfl).ne rfl).ne rfl).ne rfl).ev ?_)
    refine l_qg (wanted_is (j := 4) (d := 13) (b := false) rfl rfl ((At.hit z120.put.put.put.put rfl).ne rfl) rfl) (q_move _ _ rfl ((((((s1_120.ne rfl).ne rfl).ne rfl).ne rfl).ne rfl).ne rfl).ev ?_)
    refine l_qg (wanted_is (j := 4) (d := 13) (b := false) rfl rfl (((At.hit z120.put.put.put.put rfl).ne rfl).ne rfl) rfl) (q_lenF rfl rfl Try.underlying22 (At.hit z120.put.put.put.put.put.put rfl).ev (hvb.low low120) ?_)
    refine l_fresh z120.put.put.put.put.put.put.put.put ?_
    intro a121 z121 m121
    have s0_121 := m121 _ _ ((((((((s0_120.ne rfl).ne rfl).ne rfl).ne rfl).ne rfl).ne rfl).ne rfl).ne rfl)
    have s1_121 := m121 _ _ ((((((((s1_120.ne rfl).ne rfl).ne rfl).ne rfl).ne rfl).ne rfl).ne rfl).ne rfl)
    have s5_121 := m121 _ _ ((((((((s5_120.ne rfl).ne rfl).ne rfl).ne rfl).ne rfl).ne rfl).ne rfl).ne rfl)
    have s6_121 := m121 _ _ ((((((((s6_120.ne rfl).ne rfl).ne rfl).ne rfl).ne rfl).ne rfl).ne rfl).ne rfl)
    have s7_121 := m121 _ _ ((((((((s7_120.ne rfl).ne rfl).ne rfl).ne rfl).ne rfl).ne rfl).ne rfl).ne rfl)
    have s13_121 := m121 _ _ ((((At.hit z120.put.put.put.put rfl).ne rfl).ne rfl).ne rfl)
    have s14_121 := m121 _ _ (((At.hit z120.put.put.put.put.put rfl).ne rfl).ne rfl)
    have s16_121 := m121 _ _ (At.hit z120.put.put.put.put.put.put.put rfl)
    clear m121
    refine l_qg (wanted_is (j := 4) (d := 13) (b := false) rfl rfl s13_121 rfl) (q_lss false rfl s14_121.ev s16_121.ev (decide_eq_false (by omega)) ?_)
    refine l_q rfl (q_pick (b := false) (.bool false) rfl (s13_121.ne rfl).ev (At.hit z121 rfl).ev ?_)
    refine l_end ?_
    refine e_fresh z121.put.put ?_
    intro a122 z122 m122
    have s0_122 := m122 _ _ ((s0_121.ne rfl).ne rfl)
    have s1_122 := m122 _ _ ((s1_121.ne rfl).ne rfl)
    have s5_122 := m122 _ _ ((s5_121.ne rfl).ne rfl)
    have s6_122 := m122 _ _ ((s6_121.ne rfl).ne rfl)
    have s7_122 := m122 _ _ ((s7_121.ne rfl).ne rfl)
    have s18_122 := m122 _ _ (At.hit z121.put rfl)
    clear m122
    refine e_then ?_
    refine c_false s18_122 ?_
    refine wp_exit ?_
    refine x_then ?_
    refine x_then ?_
    refine in_exit ?_
    refine e_then ?_
    refine c_seq ?_
    refine c_region ?_
    refine l_q rfl (q_move _ _ rfl s5_122.ev ?_)
    refine l_q rfl (q_assign _ _ rfl (At.hit z122 rfl).ev ?_)
    refine l_end ?_
    refine e_fresh z122.put.put ?_
    intro a123 z123 m123
    have s4_123 := m123 _ _ (At.hit z122.put rfl)
    clear m123
    refine e_then ?_
    refine wp_ret ?_
    refine r_tmp rfl z123.defers s4_123 ?_
    exact ⟨_, rfl, ox5_120, low120⟩
end Go.Proofs.Ytenbgnlkkmnmhaa.Q
end
/-! M9 -/
section
namespace Go.Proofs.Ytenbgnlkkmnmhaa.Q
open Go.RowKit
set_option linter.unusedSimpArgs false
theorem getD_mem {α : Type} {l : List α} {d : α} {i : Nat} (h : i < l.length) : l.getD i d ∈ l := by
  rw [List.getD_eq_getElem?_getD, List.getElem?_eq_getElem h]
  exact List.getElem_mem h
theorem mem_getD {α : Type} {l : List α} (d : α) {x : α} (h : x ∈ l) : ∃ i, i < l.length ∧ l.getD i d = x := by
  obtain ⟨i, hi, rfl⟩ := List.mem_iff_getElem.1 h
  exact ⟨i, hi, by rw [List.getD_eq_getElem?_getD, List.getElem?_eq_getElem hi]; rfl⟩
theorem riseG {l : List LfL} (h : RiseL l) {i j : Nat} (hij : i < j) (hj : j < l.length) : lessB (l.getD i zL).f0 (l.getD j zL).f0 = true := by
  have := List.pairwise_iff_getElem.1 h i j (by omega) hj hij
  rw [List.getD_eq_getElem?_getD, List.getD_eq_getElem?_getD, List.getElem?_eq_getElem hj, List.getElem?_eq_getElem (show i < l.length by omega)]
  exact this
theorem findL_none {l : List LfL} {p : ByteArray} (h : ∀ i, i < l.length → ¬ (l.getD i zL).f0 = p) : findL l p = zL :=
  fold_none l p zL fun x hx => by
    obtain ⟨i, hi, rfl⟩ := mem_getD zL hx
    exact h i hi
theorem findL_at : ∀ {l : List LfL}, RiseL l → ∀ {x : LfL}, x ∈ l → findL l x.f0 = x
  | [], _, x, h => by cases h
  | y :: l, h, x, hx => by
    have h' := List.pairwise_cons.1 h
    unfold findL
    rw [List.foldl_cons]
    rcases List.mem_cons.1 hx with e | e
    · subst e
      rw [if_pos rfl, fold_none l _ _ fun z hz e => lessB_ne (h'.1 z hz) e.symm]
    · rw [if_neg (fun k => lessB_ne (h'.1 x e) k)]
      exact findL_at h'.2 e
theorem findL_getD {l : List LfL} (h : RiseL l) {i : Nat} (hi : i < l.length) : findL l (l.getD i zL).f0 = l.getD i zL := findL_at h (getD_mem hi)
structure InvD (a b : List LfL) (i k : Nat) (o : List TnL) : Prop where
  hi : i ≤ a.length
  hk : k ≤ b.length
  ab : ∀ i' k', i' < i → k ≤ k' → k' < b.length → lessB (a.getD i' zL).f0 (b.getD k' zL).f0 = true
  ba : ∀ i' k', k' < k → i ≤ i' → i' < a.length → lessB (b.getD k' zL).f0 (a.getD i' zL).f0 = true
  sound : ∀ t ∈ o, t.f1 = findL a t.f0 ∧ t.f2 = findL b t.f0 ∧ ¬ t.f1 = t.f2
  full : ∀ p, ¬ findL a p = findL b p → (∃ t ∈ o, t.f0 = p) ∨ (∃ i', i ≤ i' ∧ i' < a.length ∧ (a.getD i' zL).f0 = p) ∨ (∃ k', k ≤ k' ∧ k' < b.length ∧ (b.getD k' zL).f0 = p)
theorem invD_zero (a b : List LfL) : InvD a b 0 0 [] where
  hi := Nat.zero_le _
  hk := Nat.zero_le _
  ab := fun _ _ h => absurd h (Nat.not_lt_zero _)
  ba := fun _ _ h => absurd h (Nat.not_lt_zero _)
  sound := fun _ h => by cases h
  full := fun p h => by
    right
    rcases findL_mem a p with ha | ha
    · rcases findL_mem b p with hb | hb
      · exact absurd (ha.trans hb.symm) h
      · obtain ⟨j, hj, e⟩ := mem_getD zL hb.1
        exact .inr ⟨j, Nat.zero_le _, hj, by rw [e]; exact hb.2⟩
    · obtain ⟨j, hj, e⟩ := mem_getD zL ha.1
      exact .inl ⟨j, Nat.zero_le _, hj, by rw [e]; exact ha.2⟩
theorem mem_addT {o : List TnL} {t u : TnL} : u ∈ addT o t ↔ u ∈ o ∨ (u = t ∧ ¬ t.f1 = t.f2) := by
  unfold addT
  split
  · rename_i h
    exact ⟨.inl, fun k => k.resolve_right fun q => q.2 h⟩
  · rename_i h
    rw [List.mem_append, List.mem_singleton]
    exact ⟨fun k => k.imp id fun e => ⟨e, h⟩, fun k => k.imp id fun e => e.1⟩
theorem invD_step {a b : List LfL} (ra : RiseL a) (rb : RiseL b) {s : Nat × Nat × List TnL} (h : InvD a b s.1 s.2.1 s.2.2) (hm : s.1 < a.length ∨ s.2.1 < b.length) : InvD a b (stepD a b s).1 (stepD a b s).2.1 (stepD a b s).2.2 := by
  obtain ⟨i, k, o⟩ := s
  simp only at h hm
  unfold stepD
  by_cases h1 : c1 a b i k
  · rw [if_pos h1]
    have hi : i < a.length := by
      rcases h1 with h1 | h1
      · omega
      · exact h1.1
    have hlt : ∀ k', k ≤ k' → k' < b.length → lessB (a.getD i zL).f0 (b.getD k' zL).f0 = true := fun k' hk hk' => by
      rcases h1 with h1 | h1
      · omega
      · by_cases e : k = k'
        · subst e; exact h1.2
        · exact lessB_trans h1.2 (riseG rb (by omega) hk')
    have hfa := findL_getD ra hi
    have hfb : findL b (a.getD i zL).f0 = zL := findL_none fun j hj e => by
      rcases Nat.lt_or_ge j k with hjk | hjk
      · exact lessB_ne (h.ba i j hjk (Nat.le_refl _) hi) e
      · exact lessB_ne (hlt j hjk hj) e.symm
    refine ⟨hi, h.hk, fun i' k' hi' hk hk' => ?_, fun i' k' hk' hi' hi'' => h.ba i' k' hk' (by simp only at hi'; omega) hi'', fun t ht => ?_, fun p hp => ?_⟩
    · by_cases e : i' = i
      · subst e; exact hlt k' hk hk'
      · exact h.ab i' k' (by simp only at hi'; omega) hk hk'
    · rcases mem_addT.1 ht with ht | ⟨rfl, hne⟩
      · exact h.sound t ht
      · exact ⟨hfa.symm, hfb.symm, hne⟩
    · rcases h.full p hp with ⟨t, ht, e⟩ | ⟨i', hi', hi'', e⟩ | hq
      · exact .inl ⟨t, mem_addT.2 (.inl ht), e⟩
      · by_cases ei : i' = i
        · subst ei
          refine .inl ⟨_, mem_addT.2 (.inr ⟨rfl, fun q => ?_⟩), e⟩
          rw [← e, hfa, hfb] at hp
          exact hp q
        · exact .inr (.inl ⟨i', by simp only; omega, hi'', e⟩)
      · exact .inr (.inr hq)
  · rw [if_neg h1]
    have hk : k < b.length := by
      have := h.hk
      rcases Nat.lt_or_ge k b.length with q | q
      · exact q
      · exact absurd (.inl (by omega)) h1
    by_cases h2 : c2 a b i k
    · rw [if_pos h2]
      have hlt : ∀ i', i ≤ i' → i' < a.length → lessB (b.getD k zL).f0 (a.getD i' zL).f0 = true := fun i' hi hi' => by
        rcases h2 with h2 | h2
        · omega
        · by_cases e : i = i'
          · subst e; exact h2
          · exact lessB_trans h2 (riseG ra (by omega) hi')
      have hfb := findL_getD rb hk
      have hfa : findL a (b.getD k zL).f0 = zL := findL_none fun j hj e => by
        rcases Nat.lt_or_ge j i with hji | hji
        · exact lessB_ne (h.ab j k hji (Nat.le_refl _) hk) e
        · exact lessB_ne (hlt j hji hj) e.symm
      refine ⟨h.hi, hk, fun i' k' hi' hk' hk'' => h.ab i' k' hi' (by simp only at hk'; omega) hk'', fun i' k' hk' hi' hi'' => ?_, fun t ht => ?_, fun p hp => ?_⟩
      · by_cases e : k' = k
        · subst e; exact hlt i' hi' hi''
        · exact h.ba i' k' (by simp only at hk'; omega) hi' hi''
      · rcases mem_addT.1 ht with ht | ⟨rfl, hne⟩
        · exact h.sound t ht
        · exact ⟨hfa.symm, hfb.symm, hne⟩
      · rcases h.full p hp with ⟨t, ht, e⟩ | hq | ⟨k', hk', hk'', e⟩
        · exact .inl ⟨t, mem_addT.2 (.inl ht), e⟩
        · exact .inr (.inl hq)
        · by_cases ek : k' = k
          · subst ek
            refine .inl ⟨_, mem_addT.2 (.inr ⟨rfl, fun q => ?_⟩), e⟩
            rw [← e, hfa, hfb] at hp
            exact hp q
          · exact .inr (.inr ⟨k', by simp only; omega, hk'', e⟩)
    · rw [if_neg h2]
      have hi : i < a.length := by
        have := h.hi
        rcases Nat.lt_or_ge i a.length with q | q
        · exact q
        · exact absurd (.inl (by omega)) h2
      have e0 : (a.getD i zL).f0 = (b.getD k zL).f0 := by
        refine lessB_tri ?_ ?_
        · exact eq_false_of_ne_true fun q => h1 (.inr ⟨hi, q⟩)
        · exact eq_false_of_ne_true fun q => h2 (.inr q)
      have hfa := findL_getD ra hi
      have hfb := findL_getD rb hk
      rw [← e0] at hfb
      refine ⟨hi, hk, fun i' k' hi' hk' hk'' => ?_, fun i' k' hk' hi' hi'' => ?_, fun t ht => ?_, fun p hp => ?_⟩
      · by_cases e : i' = i
        · subst e
          rw [e0]
          exact riseG rb (by simp only at hk'; omega) hk''
        · exact h.ab i' k' (by simp only at hi'; omega) (by simp only at hk'; omega) hk''
      · by_cases e : k' = k
        · subst e
          rw [← e0]
          exact riseG ra (by simp only at hi'; omega) hi''
        · exact h.ba i' k' (by simp only at hk'; omega) (by simp only at hi'; omega) hi''
      · rcases mem_addT.1 ht with ht | ⟨rfl, hne⟩
        · exact h.sound t ht
        · exact ⟨hfa.symm, hfb.symm, hne⟩
      · have hnew : ∀ q, (a.getD i zL).f0 = q → ¬ findL a q = findL b q → ∃ t ∈ addT o ⟨(a.getD i zL).f0, a.getD i zL, b.getD k zL⟩, t.f0 = q := fun q eq hq => by
          refine ⟨_, mem_addT.2 (.inr ⟨rfl, fun z => ?_⟩), eq⟩
          rw [← eq, hfa, hfb] at hq
          exact hq z
        rcases h.full p hp with ⟨t, ht, e⟩ | ⟨i', hi', hi'', e⟩ | ⟨k', hk', hk'', e⟩
        · exact .inl ⟨t, mem_addT.2 (.inl ht), e⟩
        · by_cases ei : i' = i
          · subst ei; exact .inl (hnew p e hp)
          · exact .inr (.inl ⟨i', by simp only; omega, hi'', e⟩)
        · by_cases ek : k' = k
          · subst ek; exact .inl (hnew p (e0.trans e) hp)
          · exact .inr (.inr ⟨k', by simp only; omega, hk'', e⟩)
theorem invD_all {a b : List LfL} (ra : RiseL a) (rb : RiseL b) : ∀ r, r ≤ dN a b → InvD a b (dI a b r) (dK a b r) (dO a b r)
  | 0, _ => invD_zero a b
  | r + 1, h => invD_step ra rb (invD_all ra rb r (by omega)) (d_more (by omega))
section
variable {a b : List LfL}
theorem diff_sound (ra : RiseL a) (rb : RiseL b) {t : TnL} (h : t ∈ diffL a b) : t.f1 = findL a t.f0 ∧ t.f2 = findL b t.f0 ∧ ¬ t.f1 = t.f2 := (invD_all ra rb _ (Nat.le_refl _)).sound t h
theorem diff_full (ra : RiseL a) (rb : RiseL b) {p : ByteArray} (h : ¬ findL a p = findL b p) : ∃ t ∈ diffL a b, t.f0 = p := by
  have e := d_end a b
  rcases (invD_all ra rb _ (Nat.le_refl _)).full p h with h | ⟨i, h1, h2, _⟩ | ⟨k, h1, h2, _⟩
  · exact h
  · rw [e.1] at h1; omega
  · rw [e.2] at h1; omega
end
theorem diff_len (a b : List LfL) : (diffL a b).length ≤ a.length + b.length := by
  have h1 := (d_round (a := a) (b := b) (Nat.le_refl (dN a b))).2.2
  have h2 := dN_lt a b
  unfold diffL
  omega
def pathsTn (l : List TnL) : List ByteArray := l.map (·.f0)
theorem pathsTn_next (l : List TnL) (k : Nat) (h : k < l.length) : pathsTn (l.take k) ++ [(l.getD k zT).f0] = pathsTn (l.take (k + 1)) := by
  unfold pathsTn
  rw [getD_next l k zT h, List.map_append]
  rfl
theorem same_of {a b : List LfL} (ra : RiseL a) (rb : RiseL b) {p : ByteArray} (h : memB p (pathsTn (diffL a b)) = false) : findL a p = findL b p := by
  apply Classical.byContradiction
  intro hne
  obtain ⟨t, ht, e⟩ := diff_full ra rb hne
  have : memB p (pathsTn (diffL a b)) = true := (memB_iff _ _).2 (List.mem_map.2 ⟨t, ht, e⟩)
  rw [h] at this
  cases this
theorem differs {a b : List LfL} (ra : RiseL a) (rb : RiseL b) {p : ByteArray} (h : ¬ findL a p = findL b p) : memB p (pathsTn (diffL a b)) = true := by
  obtain ⟨t, ht, e⟩ := diff_full ra rb h
  exact (memB_iff _ _).2 (List.mem_map.2 ⟨t, ht, e⟩)
theorem pathsT_mem {b o t : List LfL} {x : LfL} (h : x ∈ b ∨ x ∈ o ∨ x ∈ t) : x.f0 ∈ pathsT b o t := by
  unfold pathsT
  rw [compB_mem, sortB_mem, List.mem_map]
  refine ⟨x, ?_, rfl⟩
  rw [List.mem_append, List.mem_append]
  exact h
theorem find_out (b o t : List LfL) (p : ByteArray) : findL (outF b o t) p = cellT b o t p := by
  have hr := outF_rise b o t
  by_cases h : ∃ x ∈ outF b o t, x.f0 = p
  · obtain ⟨x, hx, rfl⟩ := h
    rw [findL_at hr hx]
    exact (out_mem hx).2.2.1.symm
  · rw [findL_none fun i hi e => h ⟨_, getD_mem hi, e⟩]
    rcases cellT_mem b o t p with hc | ⟨hc, hp⟩
    · exact hc.symm
    · apply Classical.byContradiction
      intro hne
      refine h ⟨cellT b o t p, ?_, hp⟩
      unfold outF outT
      rw [List.mem_filter, List.mem_map]
      refine ⟨⟨p, ?_, rfl⟩, decide_eq_true fun q => hne q.symm⟩
      rw [← hp]
      exact pathsT_mem (.inr hc)
section
variable {b o t : List LfL}
theorem out_ord (b o t : List LfL) (k : Nat) (h0 : 0 < k) (hk : k < (outF b o t).length) : lessB ((outF b o t).getD (k - 1) zL).f0 ((outF b o t).getD k zL).f0 = true := riseG (outF_rise b o t) (by omega) hk
theorem keep2 (rb : RiseL b) (ro : RiseL o) (rt : RiseL t) {k : Nat} (hk : k < (diffL b t).length) (h : memB ((diffL b t).getD k zT).f0 (pathsTn (diffL b o)) = false) : findL (outF b o t) ((diffL b t).getD k zT).f0 = ((diffL b t).getD k zT).f2 := by
  obtain ⟨h1, h2, h3⟩ := diff_sound rb rt (getD_mem (d := zT) hk)
  have h4 := same_of rb ro h
  rw [find_out, h2]
  rw [h1, h2] at h3
  exact cell_3 (fun e => h3 (h4.trans e)) (fun e => h3 e.symm) h4.symm
theorem keep3 (rb : RiseL b) (ro : RiseL o) {k : Nat} (hk : k < (diffL b o).length) : findL (outF b o t) ((diffL b o).getD k zT).f0 = ((diffL b o).getD k zT).f2 := by
  obtain ⟨h1, h2, h3⟩ := diff_sound rb ro (getD_mem (d := zT) hk)
  rw [find_out, h2]
  rw [h1, h2] at h3
  unfold cellT
  split
  · rfl
  · rw [if_neg fun e => h3 e.symm]
theorem keep4 (rb : RiseL b) (ro : RiseL o) (rt : RiseL t) {k : Nat} (hk : k < b.length) (h1 : memB (b.getD k zL).f0 (pathsTn (diffL b o)) = false) (h2 : memB (b.getD k zL).f0 (pathsTn (diffL b t)) = false) : findL (outF b o t) (b.getD k zL).f0 = b.getD k zL := by
  rw [find_out, cell_2 (same_of rb rt h2).symm, ← same_of rb ro h1]
  exact findL_getD rb hk
def anyW (l : List LfL) (p : ByteArray) : Nat → Bool
  | 0 => false
  | m + 1 => anyW l p m || within (l.getD m zL).f0 p
theorem anyW_true {l : List LfL} {p : ByteArray} {m : Nat} (h : anyW l p m = true) : anyW l p (m + 1) = true := by rw [anyW, h]; rfl
theorem anyW_false {l : List LfL} {p : ByteArray} {m : Nat} (h : anyW l p m = false) : anyW l p (m + 1) = within (l.getD m zL).f0 p := by rw [anyW, h]; rfl
theorem anyW_at {l : List LfL} {p : ByteArray} : ∀ {n m : Nat}, m < n → within (l.getD m zL).f0 p = true → anyW l p n = true
  | n + 1, m, h, hw => by
    rw [anyW]
    by_cases e : m = n
    · subst e; rw [hw, Bool.or_true]
    · rw [anyW_at (by omega) hw]; rfl
theorem keep5 (rb : RiseL b) (ro : RiseL o) (rt : RiseL t) {k : Nat} (hk : k < (badA b o t).length) (h : anyW (outF b o t) ((badA b o t).getD k ByteArray.empty) (outF b o t).length = false) :
    memB ((badA b o t).getD k ByteArray.empty) (pathsTn (diffL b o)) = true ∧ memB ((badA b o t).getD k ByteArray.empty) (pathsTn (diffL b t)) = true := by
  have hm := (badA_mem b o t _).1 (getD_mem (d := ByteArray.empty) hk)
  generalize (badA b o t).getD k ByteArray.empty = p at *
  rcases hm with hm | ⟨j, hj, hu, rfl⟩
  · have hc := of_decide_eq_true (List.mem_filter.1 hm).2
    exact ⟨differs rb ro fun e => hc.2.2 e.symm, differs rb rt fun e => hc.2.1 e.symm⟩
  · obtain ⟨m, hm, hw⟩ := (under_iff (outF_rise b o t) hj).1 hu
    rw [anyW_at hm hw] at h
    cases h
end
end Go.Proofs.Ytenbgnlkkmnmhaa.Q
end
