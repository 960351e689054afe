/- Merged out of this session's texts by a program (wip/gen/merge.py): declarations that this claim doesn't name are left out. -/
import Derived.Test.YtenbgnlkkmnmhaaMMergeThree3
import Derived.ProofKit
import Derived.OpenShut
import Derived.SliceStrings
import Derived.SizedLaws
import Derived.Test.YtenbgnlkkmnmhaaRows
import Derived.Lib.SmallJoins
set_option linter.unusedVariables false
set_option linter.unusedSimpArgs false
/-! E6 -/
section
namespace Go.Proofs.Ytenbgnlkkmnmhaa.Q
open Go.RowKit Go.Proofs.Ytenbgnlkkmnmhaa.P
open Go.Proofs.YtenbgnlkkmnmhaaW.PrintWords (bytesOf bytesOf_length)
set_option linter.unusedVariables false
set_option linter.unusedSimpArgs false
set_option maxRecDepth 100000
set_option maxHeartbeats 4000000
attribute [local irreducible] wpList wpQuiet qch Code.wp Oper.quiet Act.put At Region.wanted yielded
theorem May.calls (v : Value) (vs : List Value) (L : List (List LfL)) (hLn : L.length ≤ 1000000) (w0 : World) (hv : RdFF w0 3 encL v vs L) : Calls Try.prog 6 #[v] w0 fun e w' => e = .returned (.bool (mayB L)) ∧ Low w0 w' := by
  refine c_fun (R := _) Try.func6 rfl 59 rfl (Nat.le_of_ble_eq_true rfl) ?_
  intro a z hA
  have s0 := hA 0 _ rfl
  clear hA
  refine c_seq ?_
  refine c_region ?_
  refine l_q rfl (q_assign _ _ rfl rfl ?_)
  refine l_end ?_
  refine e_fresh z.put ?_
  intro a1 z1 m1
  have s0_1 := m1 _ _ (s0.ne rfl)
  clear m1
  refine e_then ?_
  refine c_seq ?_
  refine c_seq ?_
  refine c_region ?_
  refine l_q rfl (q_assign _ _ rfl rfl ?_)
  refine l_end ?_
  refine e_fresh z1.put ?_
  intro a2 z2 m2
  have s0_2 := m2 _ _ (s0_1.ne rfl)
  have s3_2 := m2 _ _ (At.hit z1 rfl)
  clear m2
  refine e_then ?_
  refine wp_block ?_
  refine c_loop (okN L) (fun k a w => Fr 59 a ∧ At a 0 (v) ∧ At a 3 (.int .i64 ((k : Nat) : Int)) ∧ Low w0 w) ?_ ?_ ?_
  · exact ⟨z2, s0_2, s3_2, (Low.refl _)⟩
  · intro k a3 w3 hk3 h
    obtain ⟨z3, s0_3, s3_3, low3⟩ := h
    clear s0_2 s3_2 z2
    have hle := okN_le L
    have hrk : rowOk (L.getD k []) = true := okN_round (by assumption)
    have hf60 := (few_all (rowOk_few hrk)).1
    refine c_seq ?_
    refine c_seq ?_
    refine c_region ?_
    refine l_q rfl (q_move _ _ rfl s3_3.ev ?_)
    refine l_q rfl (q_move _ _ rfl (s0_3.ne rfl).ev ?_)
    refine l_q rfl (q_lenF rfl rfl Try.underlying44 (At.hit z3.put rfl).ev (hv.low low3).1 ?_)
    refine l_q rfl (q_lss true rfl (((At.hit z3 rfl).ne rfl).ne rfl).ev (At.hit z3.put.put rfl).ev (decide_eq_true (by omega)) ?_)
    refine l_end ?_
    refine e_fresh z3.put.put.put.put ?_
    intro a4 z4 m4
    have s0_4 := m4 _ _ ((((s0_3.ne rfl).ne rfl).ne rfl).ne rfl)
    have s3_4 := m4 _ _ ((((s3_3.ne rfl).ne rfl).ne rfl).ne rfl)
    have s8_4 := m4 _ _ (At.hit z3.put.put.put rfl)
    clear m4
    refine e_then ?_
    refine c_true s8_4 ?_
    refine wp_skip ?_
    refine e_then ?_
    refine c_seq ?_
    refine wp_block ?_
    refine c_seq ?_
    refine c_seq ?_
    refine c_region ?_
    refine l_q rfl (q_move _ _ rfl s0_4.ev ?_)
    refine l_q rfl (q_move _ _ rfl (s3_4.ne rfl).ev ?_)
    refine l_q rfl (q_idxF (j := k) rfl Try.underlying44 sz22 ((At.hit z4 rfl).ne rfl).ev (hv.low low3).1 (At.hit z4.put rfl).ev (by omega) ?_)
    refine l_q rfl (q_ld1 (u := (vs.getD k nilS)) rfl Try.underlying22 rfl (At.hit z4.put.put rfl).ev (fun _ e => by rw [e]; exact (hv.low low3).1) (by omega) (RdFF.cell (hv.low low3) (by omega)) ?_)
    refine l_call (fun v w' => v = .bool true ∧ Low w3 w') rfl rfl rfl Try.func15 rfl (args1 rfl (At.hit z4.put.put.put rfl).ev) (((calls_bool (Few.calls _ (L.getD k []) _ (RdFF.row (k := k) (hv.low low3) (by omega))) (rowOk_few hrk))).mono fun _ _ ⟨e, k⟩ => ⟨_, e, rfl, k⟩) ?_
    rintro _ w6 ⟨rfl, h6⟩
    have ov_6 := (hv.low low3).low h6
    have oy5_6 := (RdFF.row (k := k) (hv.low low3) (by omega)).low h6
    refine l_q rfl (q_not (b := true) rfl (At.hit z4.put.put.put.put rfl).ev ?_)
    refine l_end ?_
    refine e_fresh z4.put.put.put.put.put.put ?_
    intro a7 z7 m7
    have s0_7 := m7 _ _ ((((((s0_4.ne rfl).ne rfl).ne rfl).ne rfl).ne rfl).ne rfl)
    have s3_7 := m7 _ _ ((((((s3_4.ne rfl).ne rfl).ne rfl).ne rfl).ne rfl).ne rfl)
    have s16_7 := m7 _ _ (At.hit z4.put.put.put.put.put rfl)
    have low7 := (low3.trans h6)
    clear m7
    refine e_then ?_
    refine c_false s16_7 ?_
    refine wp_skip ?_
    refine e_then ?_
    refine c_seq ?_
    refine c_region ?_
    refine l_q rfl (q_assign _ _ rfl rfl ?_)
    refine l_end ?_
    refine e_fresh z7.put ?_
    intro a8 z8 m8
    have s0_8 := m8 _ _ (s0_7.ne rfl)
    have s3_8 := m8 _ _ (s3_7.ne rfl)
    have s4_8 := m8 _ _ (At.hit z7 rfl)
    clear m8
    refine e_then ?_
    refine wp_block ?_
    refine c_loop ((L.getD k []).length) (fun m a w => Fr 59 a ∧ At a 0 (v) ∧ At a 3 (.int .i64 ((k : Nat) : Int)) ∧ At a 4 (.int .i64 ((m : Nat) : Int)) ∧ Low w0 w) ?_ ?_ ?_
    · exact ⟨z8, s0_8, s3_8, s4_8, low7⟩
    · intro m a9 w9 hk9 h
      obtain ⟨z9, s0_9, s3_9, s4_9, low9⟩ := h
      clear low7 s0_8 s3_8 s4_8 z8
      have hod : ordAt (L.getD k []) m := ordN_round (by rw [rowOk_ord hrk]; assumption)
      obtain ⟨hne, hlt⟩ := hod
      refine c_seq ?_
      refine c_seq ?_
      refine c_region ?_
      refine l_q rfl (q_move _ _ rfl s4_9.ev ?_)
      refine l_q rfl (q_move _ _ rfl (s0_9.ne rfl).ev ?_)
      refine l_q rfl (q_move _ _ rfl ((s3_9.ne rfl).ne rfl).ev ?_)
      refine l_q rfl (q_idxF (j := k) rfl Try.underlying44 sz22 ((At.hit z9.put rfl).ne rfl).ev (hv.low low9).1 (At.hit z9.put.put rfl).ev (by omega) ?_)
      refine l_q rfl (q_ld1 (u := (vs.getD k nilS)) rfl Try.underlying22 rfl (At.hit z9.put.put.put rfl).ev (fun _ e => by rw [e]; exact (hv.low low9).1) (by omega) (RdFF.cell (hv.low low9) (by omega)) ?_)
      refine l_q rfl (q_lenF rfl rfl Try.underlying22 (At.hit z9.put.put.put.put rfl).ev (RdFF.row (k := k) (hv.low low9) (by omega)) ?_)
      refine l_q rfl (q_lss true rfl ((((((At.hit z9 rfl).ne rfl).ne rfl).ne rfl).ne rfl).ne rfl).ev (At.hit z9.put.put.put.put.put rfl).ev (decide_eq_true (by omega)) ?_)
      refine l_end ?_
      refine e_fresh z9.put.put.put.put.put.put.put ?_
      intro a11 z11 m11
      have s0_11 := m11 _ _ (((((((s0_9.ne rfl).ne rfl).ne rfl).ne rfl).ne rfl).ne rfl).ne rfl)
      have s3_11 := m11 _ _ (((((((s3_9.ne rfl).ne rfl).ne rfl).ne rfl).ne rfl).ne rfl).ne rfl)
      have s4_11 := m11 _ _ (((((((s4_9.ne rfl).ne rfl).ne rfl).ne rfl).ne rfl).ne rfl).ne rfl)
      have s23_11 := m11 _ _ (At.hit z9.put.put.put.put.put.put rfl)
      clear m11
      refine e_then ?_
      refine c_true s23_11 ?_
      refine wp_skip ?_
      refine e_then ?_
      refine c_seq ?_
      refine wp_block ?_
      refine c_seq ?_
      by_cases hb12 : 0 < m
      · skip
        refine region_lowg hm (by kernel_rfl) ?_
        refine gs rfl (q_move _ _ rfl s0_11.ev ?_)
        refine gs rfl (q_move _ _ rfl (s3_11.ne rfl).ev ?_)
        refine gs rfl (q_idxF (j := k) rfl Try.underlying44 sz22 ((At.hit z11 rfl).ne rfl).ev (hv.low low9).1 (At.hit z11.put rfl).ev (by omega) ?_)
        refine gs rfl (q_ld1 (u := (vs.getD k nilS)) rfl Try.underlying22 rfl (At.hit z11.put.put rfl).ev (fun _ h => ((hv.low low9).low h).1) (by omega) (RdFF.cell (hv.low low9) (by omega)) ?_)
        refine gs rfl (q_move _ _ rfl ((((s4_11.ne rfl).ne rfl).ne rfl).ne rfl).ev ?_)
        refine gs rfl (q_idxF (j := m) rfl Try.underlying22 sz37 ((At.hit z11.put.put.put rfl).ne rfl).ev (RdFF.row (k := k) (hv.low low9) (by omega)) (At.hit z11.put.put.put.put rfl).ev (by omega) ?_)
        refine gs rfl (q_fldF 0 rfl fld37_0 (At.hit z11.put.put.put.put.put rfl).ev ((RdFF.row (k := k) (hv.low low9) (by omega)).form (by omega)) ?_)
        refine gs rfl (q_ld1 (u := .string (((L.getD k []).getD m zL).f0)) rfl Try.underlying9 rfl (At.hit z11.put.put.put.put.put.put rfl).ev (fun _ h => ((RdFF.row (k := k) (hv.low low9) (by omega)).low h)) (by omega) ((flat_at encL_len zL _ m 0 (by omega) (by decide)).trans rfl) ?_)
        refine g_fresh z11.put.put.put.put.put.put.put.put ?_
        intro a14 z14 m14
        have s0_14 := m14 _ _ ((((((((s0_11.ne rfl).ne rfl).ne rfl).ne rfl).ne rfl).ne rfl).ne rfl).ne rfl)
        have s3_14 := m14 _ _ ((((((((s3_11.ne rfl).ne rfl).ne rfl).ne rfl).ne rfl).ne rfl).ne rfl).ne rfl)
        have s4_14 := m14 _ _ ((((((((s4_11.ne rfl).ne rfl).ne rfl).ne rfl).ne rfl).ne rfl).ne rfl).ne rfl)
        have s33_14 := m14 _ _ (At.hit z11.put.put.put.put.put.put.put rfl)
        clear m14
        refine gs rfl (q_streq false rfl s33_14.ev rfl (strF hne) ?_)
        refine gs rfl (q_move _ _ rfl (At.hit z14 rfl).ev ?_)
        refine gsg (wanted_is (j := 9) (d := 35) (b := false) rfl rfl (At.hit z14.put rfl) rfl) (q_move _ _ rfl ((s4_14.ne rfl).ne rfl).ev ?_)
        refine gsg (wanted_is (j := 9) (d := 35) (b := false) rfl rfl ((At.hit z14.put rfl).ne rfl) rfl) (q_gtr true rfl (At.hit z14.put.put rfl).ev rfl (decide_eq_true (by omega)) ?_)
        refine gsg (wanted_is (j := 9) (d := 35) (b := false) rfl rfl (((At.hit z14.put rfl).ne rfl).ne rfl) rfl) (q_move _ _ rfl (At.hit z14.put.put.put rfl).ev ?_)
        refine gsg (wanted_is (j := 12) (d := 38) (b := true) rfl rfl (At.hit z14.put.put.put.put rfl) rfl) (q_move _ _ rfl (((((s0_14.ne rfl).ne rfl).ne rfl).ne rfl).ne rfl).ev ?_)
        refine gsg (wanted_is (j := 12) (d := 38) (b := true) rfl rfl ((At.hit z14.put.put.put.put rfl).ne rfl) rfl) (q_move _ _ rfl ((((((s3_14.ne rfl).ne rfl).ne rfl).ne rfl).ne rfl).ne rfl).ev ?_)
        refine gsg (wanted_is (j := 12) (d := 38) (b := true) rfl rfl (((At.hit z14.put.put.put.put rfl).ne rfl).ne rfl) rfl) (q_idxF (j := k) rfl Try.underlying44 sz22 ((At.hit z14.put.put.put.put.put rfl).ne rfl).ev (hv.low low9).1 (At.hit z14.put.put.put.put.put.put rfl).ev (by omega) ?_)
        refine g_fresh z14.put.put.put.put.put.put.put.put ?_
        intro a15 z15 m15
        have s0_15 := m15 _ _ ((((((((s0_14.ne rfl).ne rfl).ne rfl).ne rfl).ne rfl).ne rfl).ne rfl).ne rfl)
        have s3_15 := m15 _ _ ((((((((s3_14.ne rfl).ne rfl).ne rfl).ne rfl).ne rfl).ne rfl).ne rfl).ne rfl)
        have s4_15 := m15 _ _ ((((((((s4_14.ne rfl).ne rfl).ne rfl).ne rfl).ne rfl).ne rfl).ne rfl).ne rfl)
        have s35_15 := m15 _ _ (((((((At.hit z14.put rfl).ne rfl).ne rfl).ne rfl).ne rfl).ne rfl).ne rfl)
        have s38_15 := m15 _ _ ((((At.hit z14.put.put.put.put rfl).ne rfl).ne rfl).ne rfl)
        have s41_15 := m15 _ _ (At.hit z14.put.put.put.put.put.put.put rfl)
        clear m15
        refine gsg (wanted_is (j := 12) (d := 38) (b := true) rfl rfl s38_15 rfl) (q_ld1 (u := (vs.getD k nilS)) rfl Try.underlying22 rfl s41_15.ev (fun _ h => ((hv.low low9).low h).1) (by omega) (RdFF.cell (hv.low low9) (by omega)) ?_)
        refine gsg (wanted_is (j := 12) (d := 38) (b := true) rfl rfl (s38_15.ne rfl) rfl) (q_move _ _ rfl (s4_15.ne rfl).ev ?_)
        refine gsg (wanted_is (j := 12) (d := 38) (b := true) rfl rfl ((s38_15.ne rfl).ne rfl) rfl) (q_idxF (j := m) rfl Try.underlying22 sz37 ((At.hit z15 rfl).ne rfl).ev (RdFF.row (k := k) (hv.low low9) (by omega)) (At.hit z15.put rfl).ev (by omega) ?_)
        refine gsg (wanted_is (j := 12) (d := 38) (b := true) rfl rfl (((s38_15.ne rfl).ne rfl).ne rfl) rfl) (q_fldF 0 rfl fld37_0 (At.hit z15.put.put rfl).ev ((RdFF.row (k := k) (hv.low low9) (by omega)).form (by omega)) ?_)
        refine gsg (wanted_is (j := 12) (d := 38) (b := true) rfl rfl ((((s38_15.ne rfl).ne rfl).ne rfl).ne rfl) rfl) (q_ld1 (u := .string (((L.getD k []).getD m zL).f0)) rfl Try.underlying9 rfl (At.hit z15.put.put.put rfl).ev (fun _ h => ((RdFF.row (k := k) (hv.low low9) (by omega)).low h)) (by omega) ((flat_at encL_len zL _ m 0 (by omega) (by decide)).trans rfl) ?_)
        refine gsg (wanted_is (j := 12) (d := 38) (b := true) rfl rfl (((((s38_15.ne rfl).ne rfl).ne rfl).ne rfl).ne rfl) rfl) (q_move _ _ rfl (((((s0_15.ne rfl).ne rfl).ne rfl).ne rfl).ne rfl).ev ?_)
        refine gsg (wanted_is (j := 12) (d := 38) (b := true) rfl rfl ((((((s38_15.ne rfl).ne rfl).ne rfl).ne rfl).ne rfl).ne rfl) rfl) (q_move _ _ rfl ((((((s3_15.ne rfl).ne rfl).ne rfl).ne rfl).ne rfl).ne rfl).ev ?_)
        refine gsg (wanted_is (j := 12) (d := 38) (b := true) rfl rfl (((((((s38_15.ne rfl).ne rfl).ne rfl).ne rfl).ne rfl).ne rfl).ne rfl) rfl) (q_idxF (j := k) rfl Try.underlying44 sz22 ((At.hit z15.put.put.put.put.put rfl).ne rfl).ev (hv.low low9).1 (At.hit z15.put.put.put.put.put.put rfl).ev (by omega) ?_)
        refine g_fresh z15.put.put.put.put.put.put.put.put ?_
        intro a17 z17 m17
        have s0_17 := m17 _ _ ((((((((s0_15.ne rfl).ne rfl).ne rfl).ne rfl).ne rfl).ne rfl).ne rfl).ne rfl)
        have s3_17 := m17 _ _ ((((((((s3_15.ne rfl).ne rfl).ne rfl).ne rfl).ne rfl).ne rfl).ne rfl).ne rfl)
        have s4_17 := m17 _ _ ((((((((s4_15.ne rfl).ne rfl).ne rfl).ne rfl).ne rfl).ne rfl).ne rfl).ne rfl)
        have s35_17 := m17 _ _ ((((((((s35_15.ne rfl).ne rfl).ne rfl).ne rfl).ne rfl).ne rfl).ne rfl).ne rfl)
        have s38_17 := m17 _ _ ((((((((s38_15.ne rfl).ne rfl).ne rfl).ne rfl).ne rfl).ne rfl).ne rfl).ne rfl)
        have s46_17 := m17 _ _ ((((At.hit z15.put.put.put.put rfl).ne rfl).ne rfl).ne rfl)
        have s49_17 := m17 _ _ (At.hit z15.put.put.put.put.put.put.put rfl)
        clear m17
        refine gsg (wanted_is (j := 12) (d := 38) (b := true) rfl rfl s38_17 rfl) (q_ld1 (u := (vs.getD k nilS)) rfl Try.underlying22 rfl s49_17.ev (fun _ h => ((hv.low low9).low h).1) (by omega) (RdFF.cell (hv.low low9) (by omega)) ?_)
        refine gsg (wanted_is (j := 12) (d := 38) (b := true) rfl rfl (s38_17.ne rfl) rfl) (q_move _ _ rfl (s4_17.ne rfl).ev ?_)
        refine gsg (wanted_is (j := 12) (d := 38) (b := true) rfl rfl ((s38_17.ne rfl).ne rfl) rfl) (q_sub ((((m : Nat) : Int) - 1)) rfl (At.hit z17.put rfl).ev rfl (i64_is (by omega) (by omega) (by omega)) ?_)
        refine gsg (wanted_is (j := 12) (d := 38) (b := true) rfl rfl (((s38_17.ne rfl).ne rfl).ne rfl) rfl) (q_idxF (j := m - 1) rfl Try.underlying22 sz37 (((At.hit z17 rfl).ne rfl).ne rfl).ev (RdFF.row (k := k) (hv.low low9) (by omega)) ((At.hit z17.put.put rfl).same (congrArg (Value.int .i64) (show ((((m : Nat) : Int) - 1) : Int) = ((m - 1 : Nat) : Int) by omega))).ev (by omega) ?_)
        refine gsg (wanted_is (j := 12) (d := 38) (b := true) rfl rfl ((((s38_17.ne rfl).ne rfl).ne rfl).ne rfl) rfl) (q_fldF 0 rfl fld37_0 (At.hit z17.put.put.put rfl).ev ((RdFF.row (k := k) (hv.low low9) (by omega)).form (by omega)) ?_)
        refine gsg (wanted_is (j := 12) (d := 38) (b := true) rfl rfl (((((s38_17.ne rfl).ne rfl).ne rfl).ne rfl).ne rfl) rfl) (q_ld1 (u := .string (((L.getD k []).getD (m - 1) zL).f0)) rfl Try.underlying9 rfl (At.hit z17.put.put.put.put rfl).ev (fun _ h => ((RdFF.row (k := k) (hv.low low9) (by omega)).low h)) (by omega) ((flat_at encL_len zL _ (m - 1) 0 (by omega) (by decide)).trans rfl) ?_)
        refine gsg (wanted_is (j := 12) (d := 38) (b := true) rfl rfl ((((((s38_17.ne rfl).ne rfl).ne rfl).ne rfl).ne rfl).ne rfl) rfl) (q_strleq false rfl ((((((s46_17.ne rfl).ne rfl).ne rfl).ne rfl).ne rfl).ne rfl).ev (At.hit z17.put.put.put.put.put rfl).ev (leF (hlt hb12)) ?_)
        refine gsg (wanted_is (j := 9) (d := 35) (b := false) rfl rfl (((((((s35_17.ne rfl).ne rfl).ne rfl).ne rfl).ne rfl).ne rfl).ne rfl) rfl) (q_pick (b := true) (.bool false) rfl (((((((s38_17.ne rfl).ne rfl).ne rfl).ne rfl).ne rfl).ne rfl).ne rfl).ev (At.hit z17.put.put.put.put.put.put rfl).ev ?_)
        refine g_fresh z17.put.put.put.put.put.put.put.put ?_
        intro a19 z19 m19
        have s0_19 := m19 _ _ ((((((((s0_17.ne rfl).ne rfl).ne rfl).ne rfl).ne rfl).ne rfl).ne rfl).ne rfl)
        have s3_19 := m19 _ _ ((((((((s3_17.ne rfl).ne rfl).ne rfl).ne rfl).ne rfl).ne rfl).ne rfl).ne rfl)
        have s4_19 := m19 _ _ ((((((((s4_17.ne rfl).ne rfl).ne rfl).ne rfl).ne rfl).ne rfl).ne rfl).ne rfl)
        have s35_19 := m19 _ _ ((((((((s35_17.ne rfl).ne rfl).ne rfl).ne rfl).ne rfl).ne rfl).ne rfl).ne rfl)
        have s57_19 := m19 _ _ (At.hit z17.put.put.put.put.put.put.put rfl)
        clear m19
        refine gs rfl (q_pick (b := false) (.bool false) rfl s35_19.ev s57_19.ev ?_)
        refine gz ?_
        intro w20 h20
        have ov_20 := (hv.low low9).low h20
        have oy13_20 := (RdFF.row (k := k) (hv.low low9) (by omega)).low h20
        have oy16_20 := (RdFF.row (k := k) (hv.low low9) (by omega)).low h20
        have oy18_20 := (RdFF.row (k := k) (hv.low low9) (by omega)).low h20
        refine e_id ?_
        refine e_fresh z19.put ?_
        intro a21 z21 m21
        have s0_21 := m21 _ _ (s0_19.ne rfl)
        have s3_21 := m21 _ _ (s3_19.ne rfl)
        have s4_21 := m21 _ _ (s4_19.ne rfl)
        have s58_21 := m21 _ _ (At.hit z19 rfl)
        have low21 := (low9.trans h20)
        clear m21
        refine e_then ?_
        refine c_false s58_21 ?_
        refine wp_skip ?_
        refine e_in ?_
        refine e_then ?_
        refine c_region ?_
        refine l_q rfl (q_move _ _ rfl s4_21.ev ?_)
        refine l_q rfl (q_add (((m + 1 : Nat) : Int)) rfl (At.hit z21 rfl).ev rfl (i64_is (by omega) (by omega) (by omega)) ?_)
        refine l_q rfl (q_assign _ _ rfl (At.hit z21.put rfl).ev ?_)
        refine l_end ?_
        refine e_fresh z21.put.put.put ?_
        intro a22 z22 m22
        have s0_22 := m22 _ _ (((s0_21.ne rfl).ne rfl).ne rfl)
        have s3_22 := m22 _ _ (((s3_21.ne rfl).ne rfl).ne rfl)
        have s4_22 := m22 _ _ (At.hit z21.put.put rfl)
        clear m22
        exact ⟨z22, s0_22, s3_22, s4_22, low21⟩
      · skip
        refine region_lowg hm (by kernel_rfl) ?_
        refine gs rfl (q_move _ _ rfl s0_11.ev ?_)
        refine gs rfl (q_move _ _ rfl (s3_11.ne rfl).ev ?_)
        refine gs rfl (q_idxF (j := k) rfl Try.underlying44 sz22 ((At.hit z11 rfl).ne rfl).ev (hv.low low9).1 (At.hit z11.put rfl).ev (by omega) ?_)
        refine gs rfl (q_ld1 (u := (vs.getD k nilS)) rfl Try.underlying22 rfl (At.hit z11.put.put rfl).ev (fun _ h => ((hv.low low9).low h).1) (by omega) (RdFF.cell (hv.low low9) (by omega)) ?_)
        refine gs rfl (q_move _ _ rfl ((((s4_11.ne rfl).ne rfl).ne rfl).ne rfl).ev ?_)
        refine gs rfl (q_idxF (j := m) rfl Try.underlying22 sz37 ((At.hit z11.put.put.put rfl).ne rfl).ev (RdFF.row (k := k) (hv.low low9) (by omega)) (At.hit z11.put.put.put.put rfl).ev (by omega) ?_)
        refine gs rfl (q_fldF 0 rfl fld37_0 (At.hit z11.put.put.put.put.put rfl).ev ((RdFF.row (k := k) (hv.low low9) (by omega)).form (by omega)) ?_)
        refine gs rfl (q_ld1 (u := .string (((L.getD k []).getD m zL).f0)) rfl Try.underlying9 rfl (At.hit z11.put.put.put.put.put.put rfl).ev (fun _ h => ((RdFF.row (k := k) (hv.low low9) (by omega)).low h)) (by omega) ((flat_at encL_len zL _ m 0 (by omega) (by decide)).trans rfl) ?_)
        refine g_fresh z11.put.put.put.put.put.put.put.put ?_
        intro a24 z24 m24
        have s0_24 := m24 _ _ ((((((((s0_11.ne rfl).ne rfl).ne rfl).ne rfl).ne rfl).ne rfl).ne rfl).ne rfl)
        have s3_24 := m24 _ _ ((((((((s3_11.ne rfl).ne rfl).ne rfl).ne rfl).ne rfl).ne rfl).ne rfl).ne rfl)
        have s4_24 := m24 _ _ ((((((((s4_11.ne rfl).ne rfl).ne rfl).ne rfl).ne rfl).ne rfl).ne rfl).ne rfl)
        have s33_24 := m24 _ _ (At.hit z11.put.put.put.put.put.put.put rfl)
        clear m24
        refine gs rfl (q_streq false rfl s33_24.ev rfl (strF hne) ?_)
        refine gs rfl (q_move _ _ rfl (At.hit z24 rfl).ev ?_)
        refine gsg (wanted_is (j := 9) (d := 35) (b := false) rfl rfl (At.hit z24.put rfl) rfl) (q_move _ _ rfl ((s4_24.ne rfl).ne rfl).ev ?_)
        refine gsg (wanted_is (j := 9) (d := 35) (b := false) rfl rfl ((At.hit z24.put rfl).ne rfl) rfl) (q_gtr false rfl (At.hit z24.put.put rfl).ev rfl (decide_eq_false (by omega)) ?_)
        refine gsg (wanted_is (j := 9) (d := 35) (b := false) rfl rfl (((At.hit z24.put rfl).ne rfl).ne rfl) rfl) (q_move _ _ rfl (At.hit z24.put.put.put rfl).ev ?_)
        refine gsk (wanted_is (j := 12) (d := 38) (b := false) rfl rfl (At.hit z24.put.put.put.put rfl) rfl) ?_
        refine gsk (wanted_is (j := 12) (d := 38) (b := false) rfl rfl ((At.hit z24.put.put.put.put rfl).ne rfl) rfl) ?_
        refine gsk (wanted_is (j := 12) (d := 38) (b := false) rfl rfl (((At.hit z24.put.put.put.put rfl).ne rfl).ne rfl) rfl) ?_
        refine g_fresh z24.put.put.put.put.put.put.put.put ?_
        intro a25 z25 m25
        have s0_25 := m25 _ _ ((((((((s0_24.ne rfl).ne rfl).ne rfl).ne rfl).ne rfl).ne rfl).ne rfl).ne rfl)
        have s3_25 := m25 _ _ ((((((((s3_24.ne rfl).ne rfl).ne rfl).ne rfl).ne rfl).ne rfl).ne rfl).ne rfl)
        have s4_25 := m25 _ _ ((((((((s4_24.ne rfl).ne rfl).ne rfl).ne rfl).ne rfl).ne rfl).ne rfl).ne rfl)
        have s35_25 := m25 _ _ (((((((At.hit z24.put rfl).ne rfl).ne rfl).ne rfl).ne rfl).ne rfl).ne rfl)
        have s38_25 := m25 _ _ ((((At.hit z24.put.put.put.put rfl).ne rfl).ne rfl).ne rfl)
        have s41_25 := m25 _ _ (At.hit z24.put.put.put.put.put.put.put rfl)
        clear m25
        refine gsk (wanted_is (j := 12) (d := 38) (b := false) rfl rfl s38_25 rfl) ?_
        refine gsk (wanted_is (j := 12) (d := 38) (b := false) rfl rfl (s38_25.ne rfl) rfl) ?_
        refine gsk (wanted_is (j := 12) (d := 38) (b := false) rfl rfl ((s38_25.ne rfl).ne rfl) rfl) ?_
        refine gsk (wanted_is (j := 12) (d := 38) (b := false) rfl rfl (((s38_25.ne rfl).ne rfl).ne rfl) rfl) ?_
        refine gsk (wanted_is (j := 12) (d := 38) (b := false) rfl rfl ((((s38_25.ne rfl).ne rfl).ne rfl).ne rfl) rfl) ?_
        refine gsk (wanted_is (j := 12) (d := 38) (b := false) rfl rfl (((((s38_25.ne rfl).ne rfl).ne rfl).ne rfl).ne rfl) rfl) ?_
        refine gsk (wanted_is (j := 12) (d := 38) (b := false) rfl rfl ((((((s38_25.ne rfl).ne rfl).ne rfl).ne rfl).ne rfl).ne rfl) rfl) ?_
        refine gsk (wanted_is (j := 12) (d := 38) (b := false) rfl rfl (((((((s38_25.ne rfl).ne rfl).ne rfl).ne rfl).ne rfl).ne rfl).ne rfl) rfl) ?_
        refine g_fresh z25.put.put.put.put.put.put.put.put ?_
        intro a26 z26 m26
        have s0_26 := m26 _ _ ((((((((s0_25.ne rfl).ne rfl).ne rfl).ne rfl).ne rfl).ne rfl).ne rfl).ne rfl)
        have s3_26 := m26 _ _ ((((((((s3_25.ne rfl).ne rfl).ne rfl).ne rfl).ne rfl).ne rfl).ne rfl).ne rfl)
        have s4_26 := m26 _ _ ((((((((s4_25.ne rfl).ne rfl).ne rfl).ne rfl).ne rfl).ne rfl).ne rfl).ne rfl)
        have s35_26 := m26 _ _ ((((((((s35_25.ne rfl).ne rfl).ne rfl).ne rfl).ne rfl).ne rfl).ne rfl).ne rfl)
        have s38_26 := m26 _ _ ((((((((s38_25.ne rfl).ne rfl).ne rfl).ne rfl).ne rfl).ne rfl).ne rfl).ne rfl)
        have s46_26 := m26 _ _ ((((At.hit z25.put.put.put.put rfl).ne rfl).ne rfl).ne rfl)
        have s49_26 := m26 _ _ (At.hit z25.put.put.put.put.put.put.put rfl)
        clear m26
        refine gsk (wanted_is (j := 12) (d := 38) (b := false) rfl rfl s38_26 rfl) ?_
        refine gsk (wanted_is (j := 12) (d := 38) (b := false) rfl rfl (s38_26.ne rfl) rfl) ?_
        refine gsk (wanted_is (j := 12) (d := 38) (b := false) rfl rfl ((s38_26.ne rfl).ne rfl) rfl) ?_
        refine gsk (wanted_is (j := 12) (d := 38) (b := false) rfl rfl (((s38_26.ne rfl).ne rfl).ne rfl) rfl) ?_
        refine gsk (wanted_is (j := 12) (d := 38) (b := false) rfl rfl ((((s38_26.ne rfl).ne rfl).ne rfl).ne rfl) rfl) ?_
        refine gsk (wanted_is (j := 12) (d := 38) (b := false) rfl rfl (((((s38_26.ne rfl).ne rfl).ne rfl).ne rfl).ne rfl) rfl) ?_
        refine gsk (wanted_is (j := 12) (d := 38) (b := false) rfl rfl ((((((s38_26.ne rfl).ne rfl).ne rfl).ne rfl).ne rfl).ne rfl) rfl) ?_
        refine gsg (wanted_is (j := 9) (d := 35) (b := false) rfl rfl (((((((s35_26.ne rfl).ne rfl).ne rfl).ne rfl).ne rfl).ne rfl).ne rfl) rfl) (q_pick (b := false) (.bool false) rfl (((((((s38_26.ne rfl).ne rfl).ne rfl).ne rfl).ne rfl).ne rfl).ne rfl).ev rfl ?_)
        refine g_fresh z26.put.put.put.put.put.put.put.put ?_
        intro a27 z27 m27
        have s0_27 := m27 _ _ ((((((((s0_26.ne rfl).ne rfl).ne rfl).ne rfl).ne rfl).ne rfl).ne rfl).ne rfl)
        have s3_27 := m27 _ _ ((((((((s3_26.ne rfl).ne rfl).ne rfl).ne rfl).ne rfl).ne rfl).ne rfl).ne rfl)
        have s4_27 := m27 _ _ ((((((((s4_26.ne rfl).ne rfl).ne rfl).ne rfl).ne rfl).ne rfl).ne rfl).ne rfl)
        have s35_27 := m27 _ _ ((((((((s35_26.ne rfl).ne rfl).ne rfl).ne rfl).ne rfl).ne rfl).ne rfl).ne rfl)
        have s57_27 := m27 _ _ (At.hit z26.put.put.put.put.put.put.put rfl)
        clear m27
        refine gs rfl (q_pick (b := false) (.bool false) rfl s35_27.ev s57_27.ev ?_)
        refine gz ?_
        intro w28 h28
        have ov_28 := (hv.low low9).low h28
        have oy23_28 := (RdFF.row (k := k) (hv.low low9) (by omega)).low h28
        refine e_id ?_
        refine e_fresh z27.put ?_
        intro a29 z29 m29
        have s0_29 := m29 _ _ (s0_27.ne rfl)
        have s3_29 := m29 _ _ (s3_27.ne rfl)
        have s4_29 := m29 _ _ (s4_27.ne rfl)
        have s58_29 := m29 _ _ (At.hit z27 rfl)
        have low29 := (low9.trans h28)
        clear m29
        refine e_then ?_
        refine c_false s58_29 ?_
        refine wp_skip ?_
        refine e_in ?_
        refine e_then ?_
        refine c_region ?_
        refine l_q rfl (q_move _ _ rfl s4_29.ev ?_)
        refine l_q rfl (q_add (((m + 1 : Nat) : Int)) rfl (At.hit z29 rfl).ev rfl (i64_is (by omega) (by omega) (by omega)) ?_)
        refine l_q rfl (q_assign _ _ rfl (At.hit z29.put rfl).ev ?_)
        refine l_end ?_
        refine e_fresh z29.put.put.put ?_
        intro a30 z30 m30
        have s0_30 := m30 _ _ (((s0_29.ne rfl).ne rfl).ne rfl)
        have s3_30 := m30 _ _ (((s3_29.ne rfl).ne rfl).ne rfl)
        have s4_30 := m30 _ _ (At.hit z29.put.put rfl)
        clear m30
        exact ⟨z30, s0_30, s3_30, s4_30, low29⟩
    · intro a31 w31 h
      obtain ⟨z31, s0_31, s3_31, s4_31, low31⟩ := h
      clear low7 s0_8 s3_8 s4_8 z8
      refine c_seq ?_
      refine c_seq ?_
      refine c_region ?_
      refine l_q rfl (q_move _ _ rfl s4_31.ev ?_)
      refine l_q rfl (q_move _ _ rfl (s0_31.ne rfl).ev ?_)
      refine l_q rfl (q_move _ _ rfl ((s3_31.ne rfl).ne rfl).ev ?_)
      refine l_q rfl (q_idxF (j := k) rfl Try.underlying44 sz22 ((At.hit z31.put rfl).ne rfl).ev (hv.low low31).1 (At.hit z31.put.put rfl).ev (by omega) ?_)
      refine l_q rfl (q_ld1 (u := (vs.getD k nilS)) rfl Try.underlying22 rfl (At.hit z31.put.put.put rfl).ev (fun _ e => by rw [e]; exact (hv.low low31).1) (by omega) (RdFF.cell (hv.low low31) (by omega)) ?_)
      refine l_q rfl (q_lenF rfl rfl Try.underlying22 (At.hit z31.put.put.put.put rfl).ev (RdFF.row (k := k) (hv.low low31) (by omega)) ?_)
      refine l_q rfl (q_lss false rfl ((((((At.hit z31 rfl).ne rfl).ne rfl).ne rfl).ne rfl).ne rfl).ev (At.hit z31.put.put.put.put.put rfl).ev (decide_eq_false (by omega)) ?_)
      refine l_end ?_
      refine e_fresh z31.put.put.put.put.put.put.put ?_
      intro a33 z33 m33
      have s0_33 := m33 _ _ (((((((s0_31.ne rfl).ne rfl).ne rfl).ne rfl).ne rfl).ne rfl).ne rfl)
      have s3_33 := m33 _ _ (((((((s3_31.ne rfl).ne rfl).ne rfl).ne rfl).ne rfl).ne rfl).ne rfl)
      have s4_33 := m33 _ _ (((((((s4_31.ne rfl).ne rfl).ne rfl).ne rfl).ne rfl).ne rfl).ne rfl)
      have s23_33 := m33 _ _ (At.hit z31.put.put.put.put.put.put rfl)
      clear m33
      refine e_then ?_
      refine c_false s23_33 ?_
      refine wp_exit ?_
      refine x_then ?_
      refine x_then ?_
      refine in_exit ?_
      refine e_in ?_
      refine e_then ?_
      refine c_region ?_
      refine l_q rfl (q_move _ _ rfl s3_33.ev ?_)
      refine l_q rfl (q_add (((k + 1 : Nat) : Int)) rfl (At.hit z33 rfl).ev rfl (i64_is (by omega) (by omega) (by omega)) ?_)
      refine l_q rfl (q_assign _ _ rfl (At.hit z33.put rfl).ev ?_)
      refine l_end ?_
      refine e_fresh z33.put.put.put ?_
      intro a34 z34 m34
      have s0_34 := m34 _ _ (((s0_33.ne rfl).ne rfl).ne rfl)
      have s3_34 := m34 _ _ (At.hit z33.put.put rfl)
      clear m34
      exact ⟨z34, s0_34, s3_34, low31⟩
  · intro a35 w35 h
    obtain ⟨z35, s0_35, s3_35, low35⟩ := h
    clear s0_2 s3_2 z2
    have hle := okN_le L
    refine c_seq ?_
    refine c_seq ?_
    by_cases hb36 : okN L < L.length
    · skip
      refine c_region ?_
      refine l_q rfl (q_move _ _ rfl s3_35.ev ?_)
      refine l_q rfl (q_move _ _ rfl (s0_35.ne rfl).ev ?_)
      refine l_q rfl (q_lenF rfl rfl Try.underlying44 (At.hit z35.put rfl).ev (hv.low low35).1 ?_)
      refine l_q rfl (q_lss true rfl (((At.hit z35 rfl).ne rfl).ne rfl).ev (At.hit z35.put.put rfl).ev (decide_eq_true (by omega)) ?_)
      refine l_end ?_
      refine e_fresh z35.put.put.put.put ?_
      intro a37 z37 m37
      have s0_37 := m37 _ _ ((((s0_35.ne rfl).ne rfl).ne rfl).ne rfl)
      have s3_37 := m37 _ _ ((((s3_35.ne rfl).ne rfl).ne rfl).ne rfl)
      have s8_37 := m37 _ _ (At.hit z35.put.put.put rfl)
      clear m37
      refine e_then ?_
      refine c_true s8_37 ?_
      refine wp_skip ?_
      refine e_then ?_
      refine c_seq ?_
      refine wp_block ?_
      refine c_seq ?_
      refine c_seq ?_
      by_cases hb38 : fewB (L.getD (okN L) []) = true
      · skip
        refine c_region ?_
        refine l_q rfl (q_move _ _ rfl s0_37.ev ?_)
        refine l_q rfl (q_move _ _ rfl (s3_37.ne rfl).ev ?_)
        refine l_q rfl (q_idxF (j := (okN L)) rfl Try.underlying44 sz22 ((At.hit z37 rfl).ne rfl).ev (hv.low low35).1 (At.hit z37.put rfl).ev (by omega) ?_)
        refine l_q rfl (q_ld1 (u := (vs.getD (okN L) nilS)) rfl Try.underlying22 rfl (At.hit z37.put.put rfl).ev (fun _ e => by rw [e]; exact (hv.low low35).1) (by omega) (RdFF.cell (hv.low low35) (by omega)) ?_)
        refine l_call (fun v w' => v = .bool true ∧ Low w35 w') rfl rfl rfl Try.func15 rfl (args1 rfl (At.hit z37.put.put.put rfl).ev) (((calls_bool (Few.calls _ (L.getD (okN L) []) _ (RdFF.row (k := (okN L)) (hv.low low35) (by omega))) hb38)).mono fun _ _ ⟨e, k⟩ => ⟨_, e, rfl, k⟩) ?_
        rintro _ w40 ⟨rfl, h40⟩
        have ov_40 := (hv.low low35).low h40
        have oy39_40 := (RdFF.row (k := (okN L)) (hv.low low35) (by omega)).low h40
        refine l_q rfl (q_not (b := true) rfl (At.hit z37.put.put.put.put rfl).ev ?_)
        refine l_end ?_
        refine e_fresh z37.put.put.put.put.put.put ?_
        intro a41 z41 m41
        have s0_41 := m41 _ _ ((((((s0_37.ne rfl).ne rfl).ne rfl).ne rfl).ne rfl).ne rfl)
        have s3_41 := m41 _ _ ((((((s3_37.ne rfl).ne rfl).ne rfl).ne rfl).ne rfl).ne rfl)
        have s16_41 := m41 _ _ (At.hit z37.put.put.put.put.put rfl)
        have low41 := (low35.trans h40)
        clear m41
        refine e_then ?_
        refine c_false s16_41 ?_
        refine wp_skip ?_
        refine e_then ?_
        refine c_seq ?_
        refine c_region ?_
        refine l_q rfl (q_assign _ _ rfl rfl ?_)
        refine l_end ?_
        refine e_fresh z41.put ?_
        intro a42 z42 m42
        have s0_42 := m42 _ _ (s0_41.ne rfl)
        have s3_42 := m42 _ _ (s3_41.ne rfl)
        have s4_42 := m42 _ _ (At.hit z41 rfl)
        clear m42
        refine e_then ?_
        refine wp_block ?_
        refine c_loop (ordN (L.getD (okN L) [])) (fun m a w => Fr 59 a ∧ At a 0 (v) ∧ At a 3 (.int .i64 (((okN L) : Nat) : Int)) ∧ At a 4 (.int .i64 ((m : Nat) : Int)) ∧ Low w0 w) ?_ ?_ ?_
        · exact ⟨z42, s0_42, s3_42, s4_42, low41⟩
        · intro m a43 w43 hk43 h
          obtain ⟨z43, s0_43, s3_43, s4_43, low43⟩ := h
          clear low41 s0_42 s3_42 s4_42 z42
          have hon := rowOk_not (okN_stop hb36) hb38
          have hf60 := (few_all hb38).1
          have hod : ordAt (L.getD (okN L) []) m := ordN_round (by assumption)
          obtain ⟨hne, hlt⟩ := hod
          refine c_seq ?_
          refine c_seq ?_
          refine c_region ?_
          refine l_q rfl (q_move _ _ rfl s4_43.ev ?_)
          refine l_q rfl (q_move _ _ rfl (s0_43.ne rfl).ev ?_)
          refine l_q rfl (q_move _ _ rfl ((s3_43.ne rfl).ne rfl).ev ?_)
          refine l_q rfl (q_idxF (j := (okN L)) rfl Try.underlying44 sz22 ((At.hit z43.put rfl).ne rfl).ev (hv.low low43).1 (At.hit z43.put.put rfl).ev (by omega) ?_)
          refine l_q rfl (q_ld1 (u := (vs.getD (okN L) nilS)) rfl Try.underlying22 rfl (At.hit z43.put.put.put rfl).ev (fun _ e => by rw [e]; exact (hv.low low43).1) (by omega) (RdFF.cell (hv.low low43) (by omega)) ?_)
          refine l_q rfl (q_lenF rfl rfl Try.underlying22 (At.hit z43.put.put.put.put rfl).ev (RdFF.row (k := (okN L)) (hv.low low43) (by omega)) ?_)
          refine l_q rfl (q_lss true rfl ((((((At.hit z43 rfl).ne rfl).ne rfl).ne rfl).ne rfl).ne rfl).ev (At.hit z43.put.put.put.put.put rfl).ev (decide_eq_true (by omega)) ?_)
          refine l_end ?_
          refine e_fresh z43.put.put.put.put.put.put.put ?_
          intro a45 z45 m45
          have s0_45 := m45 _ _ (((((((s0_43.ne rfl).ne rfl).ne rfl).ne rfl).ne rfl).ne rfl).ne rfl)
          have s3_45 := m45 _ _ (((((((s3_43.ne rfl).ne rfl).ne rfl).ne rfl).ne rfl).ne rfl).ne rfl)
          have s4_45 := m45 _ _ (((((((s4_43.ne rfl).ne rfl).ne rfl).ne rfl).ne rfl).ne rfl).ne rfl)
          have s23_45 := m45 _ _ (At.hit z43.put.put.put.put.put.put rfl)
          clear m45
          refine e_then ?_
          refine c_true s23_45 ?_
          refine wp_skip ?_
          refine e_then ?_
          refine c_seq ?_
          refine wp_block ?_
          refine c_seq ?_
          by_cases hb46 : 0 < m
          · skip
            refine region_lowg hm (by kernel_rfl) ?_
            refine gs rfl (q_move _ _ rfl s0_45.ev ?_)
            refine gs rfl (q_move _ _ rfl (s3_45.ne rfl).ev ?_)
            refine gs rfl (q_idxF (j := (okN L)) rfl Try.underlying44 sz22 ((At.hit z45 rfl).ne rfl).ev (hv.low low43).1 (At.hit z45.put rfl).ev (by omega) ?_)
            refine gs rfl (q_ld1 (u := (vs.getD (okN L) nilS)) rfl Try.underlying22 rfl (At.hit z45.put.put rfl).ev (fun _ h => ((hv.low low43).low h).1) (by omega) (RdFF.cell (hv.low low43) (by omega)) ?_)
            refine gs rfl (q_move _ _ rfl ((((s4_45.ne rfl).ne rfl).ne rfl).ne rfl).ev ?_)
            refine gs rfl (q_idxF (j := m) rfl Try.underlying22 sz37 ((At.hit z45.put.put.put rfl).ne rfl).ev (RdFF.row (k := (okN L)) (hv.low low43) (by omega)) (At.hit z45.put.put.put.put rfl).ev (by omega) ?_)
            refine gs rfl (q_fldF 0 rfl fld37_0 (At.hit z45.put.put.put.put.put rfl).ev ((RdFF.row (k := (okN L)) (hv.low low43) (by omega)).form (by omega)) ?_)
            refine gs rfl (q_ld1 (u := .string (((L.getD (okN L) []).getD m zL).f0)) rfl Try.underlying9 rfl (At.hit z45.put.put.put.put.put.put rfl).ev (fun _ h => ((RdFF.row (k := (okN L)) (hv.low low43) (by omega)).low h)) (by omega) ((flat_at encL_len zL _ m 0 (by omega) (by decide)).trans rfl) ?_)
            refine g_fresh z45.put.put.put.put.put.put.put.put ?_
            intro a48 z48 m48
            have s0_48 := m48 _ _ ((((((((s0_45.ne rfl).ne rfl).ne rfl).ne rfl).ne rfl).ne rfl).ne rfl).ne rfl)
            have s3_48 := m48 _ _ ((((((((s3_45.ne rfl).ne rfl).ne rfl).ne rfl).ne rfl).ne rfl).ne rfl).ne rfl)
            have s4_48 := m48 _ _ ((((((((s4_45.ne rfl).ne rfl).ne rfl).ne rfl).ne rfl).ne rfl).ne rfl).ne rfl)
            have s33_48 := m48 _ _ (At.hit z45.put.put.put.put.put.put.put rfl)
            clear m48
            refine gs rfl (q_streq false rfl s33_48.ev rfl (strF hne) ?_)
            refine gs rfl (q_move _ _ rfl (At.hit z48 rfl).ev ?_)
            refine gsg (wanted_is (j := 9) (d := 35) (b := false) rfl rfl (At.hit z48.put rfl) rfl) (q_move _ _ rfl ((s4_48.ne rfl).ne rfl).ev ?_)
            refine gsg (wanted_is (j := 9) (d := 35) (b := false) rfl rfl ((At.hit z48.put rfl).ne rfl) rfl) (q_gtr true rfl (At.hit z48.put.put rfl).ev rfl (decide_eq_true (by omega)) ?_)
            refine gsg (wanted_is (j := 9) (d := 35) (b := false) rfl rfl (((At.hit z48.put rfl).ne rfl).ne rfl) rfl) (q_move _ _ rfl (At.hit z48.put.put.put rfl).ev ?_)
            refine gsg (wanted_is (j := 12) (d := 38) (b := true) rfl rfl (At.hit z48.put.put.put.put rfl) rfl) (q_move _ _ rfl (((((s0_48.ne rfl).ne rfl).ne rfl).ne rfl).ne rfl).ev ?_)
            refine gsg (wanted_is (j := 12) (d := 38) (b := true) rfl rfl ((At.hit z48.put.put.put.put rfl).ne rfl) rfl) (q_move _ _ rfl ((((((s3_48.ne rfl).ne rfl).ne rfl).ne rfl).ne rfl).ne rfl).ev ?_)
            refine gsg (wanted_is (j := 12) (d := 38) (b := true) rfl rfl (((At.hit z48.put.put.put.put rfl).ne rfl).ne rfl) rfl) (q_idxF (j := (okN L)) rfl Try.underlying44 sz22 ((At.hit z48.put.put.put.put.put rfl).ne rfl).ev (hv.low low43).1 (At.hit z48.put.put.put.put.put.put rfl).ev (by omega) ?_)
            refine g_fresh z48.put.put.put.put.put.put.put.put ?_
            intro a49 z49 m49
            have s0_49 := m49 _ _ ((((((((s0_48.ne rfl).ne rfl).ne rfl).ne rfl).ne rfl).ne rfl).ne rfl).ne rfl)
            have s3_49 := m49 _ _ ((((((((s3_48.ne rfl).ne rfl).ne rfl).ne rfl).ne rfl).ne rfl).ne rfl).ne rfl)
            have s4_49 := m49 _ _ ((((((((s4_48.ne rfl).ne rfl).ne rfl).ne rfl).ne rfl).ne rfl).ne rfl).ne rfl)
            have s35_49 := m49 _ _ (((((((At.hit z48.put rfl).ne rfl).ne rfl).ne rfl).ne rfl).ne rfl).ne rfl)
            have s38_49 := m49 _ _ ((((At.hit z48.put.put.put.put rfl).ne rfl).ne rfl).ne rfl)
            have s41_49 := m49 _ _ (At.hit z48.put.put.put.put.put.put.put rfl)
            clear m49
            refine gsg (wanted_is (j := 12) (d := 38) (b := true) rfl rfl s38_49 rfl) (q_ld1 (u := (vs.getD (okN L) nilS)) rfl Try.underlying22 rfl s41_49.ev (fun _ h => ((hv.low low43).low h).1) (by omega) (RdFF.cell (hv.low low43) (by omega)) ?_)
            refine gsg (wanted_is (j := 12) (d := 38) (b := true) rfl rfl (s38_49.ne rfl) rfl) (q_move _ _ rfl (s4_49.ne rfl).ev ?_)
            refine gsg (wanted_is (j := 12) (d := 38) (b := true) rfl rfl ((s38_49.ne rfl).ne rfl) rfl) (q_idxF (j := m) rfl Try.underlying22 sz37 ((At.hit z49 rfl).ne rfl).ev (RdFF.row (k := (okN L)) (hv.low low43) (by omega)) (At.hit z49.put rfl).ev (by omega) ?_)
            refine gsg (wanted_is (j := 12) (d := 38) (b := true) rfl rfl (((s38_49.ne rfl).ne rfl).ne rfl) rfl) (q_fldF 0 rfl fld37_0 (At.hit z49.put.put rfl).ev ((RdFF.row (k := (okN L)) (hv.low low43) (by omega)).form (by omega)) ?_)
            refine gsg (wanted_is (j := 12) (d := 38) (b := true) rfl rfl ((((s38_49.ne rfl).ne rfl).ne rfl).ne rfl) rfl) (q_ld1 (u := .string (((L.getD (okN L) []).getD m zL).f0)) rfl Try.underlying9 rfl (At.hit z49.put.put.put rfl).ev (fun _ h => ((RdFF.row (k := (okN L)) (hv.low low43) (by omega)).low h)) (by omega) ((flat_at encL_len zL _ m 0 (by omega) (by decide)).trans rfl) ?_)
            refine gsg (wanted_is (j := 12) (d := 38) (b := true) rfl rfl (((((s38_49.ne rfl).ne rfl).ne rfl).ne rfl).ne rfl) rfl) (q_move _ _ rfl (((((s0_49.ne rfl).ne rfl).ne rfl).ne rfl).ne rfl).ev ?_)
            refine gsg (wanted_is (j := 12) (d := 38) (b := true) rfl rfl ((((((s38_49.ne rfl).ne rfl).ne rfl).ne rfl).ne rfl).ne rfl) rfl) (q_move _ _ rfl ((((((s3_49.ne rfl).ne rfl).ne rfl).ne rfl).ne rfl).ne rfl).ev ?_)
            refine gsg (wanted_is (j := 12) (d := 38) (b := true) rfl rfl (((((((s38_49.ne rfl).ne rfl).ne rfl).ne rfl).ne rfl).ne rfl).ne rfl) rfl) (q_idxF (j := (okN L)) rfl Try.underlying44 sz22 ((At.hit z49.put.put.put.put.put rfl).ne rfl).ev (hv.low low43).1 (At.hit z49.put.put.put.put.put.put rfl).ev (by omega) ?_)
            refine g_fresh z49.put.put.put.put.put.put.put.put ?_
            intro a51 z51 m51
            have s0_51 := m51 _ _ ((((((((s0_49.ne rfl).ne rfl).ne rfl).ne rfl).ne rfl).ne rfl).ne rfl).ne rfl)
            have s3_51 := m51 _ _ ((((((((s3_49.ne rfl).ne rfl).ne rfl).ne rfl).ne rfl).ne rfl).ne rfl).ne rfl)
            have s4_51 := m51 _ _ ((((((((s4_49.ne rfl).ne rfl).ne rfl).ne rfl).ne rfl).ne rfl).ne rfl).ne rfl)
            have s35_51 := m51 _ _ ((((((((s35_49.ne rfl).ne rfl).ne rfl).ne rfl).ne rfl).ne rfl).ne rfl).ne rfl)
            have s38_51 := m51 _ _ ((((((((s38_49.ne rfl).ne rfl).ne rfl).ne rfl).ne rfl).ne rfl).ne rfl).ne rfl)
            have s46_51 := m51 _ _ ((((At.hit z49.put.put.put.put rfl).ne rfl).ne rfl).ne rfl)
            have s49_51 := m51 _ _ (At.hit z49.put.put.put.put.put.put.put rfl)
            clear m51
            refine gsg (wanted_is (j := 12) (d := 38) (b := true) rfl rfl s38_51 rfl) (q_ld1 (u := (vs.getD (okN L) nilS)) rfl Try.underlying22 rfl s49_51.ev (fun _ h => ((hv.low low43).low h).1) (by omega) (RdFF.cell (hv.low low43) (by omega)) ?_)
            refine gsg (wanted_is (j := 12) (d := 38) (b := true) rfl rfl (s38_51.ne rfl) rfl) (q_move _ _ rfl (s4_51.ne rfl).ev ?_)
            refine gsg (wanted_is (j := 12) (d := 38) (b := true) rfl rfl ((s38_51.ne rfl).ne rfl) rfl) (q_sub ((((m : Nat) : Int) - 1)) rfl (At.hit z51.put rfl).ev rfl (i64_is (by omega) (by omega) (by omega)) ?_)
            refine gsg (wanted_is (j := 12) (d := 38) (b := true) rfl rfl (((s38_51.ne rfl).ne rfl).ne rfl) rfl) (q_idxF (j := m - 1) rfl Try.underlying22 sz37 (((At.hit z51 rfl).ne rfl).ne rfl).ev (RdFF.row (k := (okN L)) (hv.low low43) (by omega)) ((At.hit z51.put.put rfl).same (congrArg (Value.int .i64) (show ((((m : Nat) : Int) - 1) : Int) = ((m - 1 : Nat) : Int) by omega))).ev (by omega) ?_)
            refine gsg (wanted_is (j := 12) (d := 38) (b := true) rfl rfl ((((s38_51.ne rfl).ne rfl).ne rfl).ne rfl) rfl) (q_fldF 0 rfl fld37_0 (At.hit z51.put.put.put rfl).ev ((RdFF.row (k := (okN L)) (hv.low low43) (by omega)).form (by omega)) ?_)
            refine gsg (wanted_is (j := 12) (d := 38) (b := true) rfl rfl (((((s38_51.ne rfl).ne rfl).ne rfl).ne rfl).ne rfl) rfl) (q_ld1 (u := .string (((L.getD (okN L) []).getD (m - 1) zL).f0)) rfl Try.underlying9 rfl (At.hit z51.put.put.put.put rfl).ev (fun _ h => ((RdFF.row (k := (okN L)) (hv.low low43) (by omega)).low h)) (by omega) ((flat_at encL_len zL _ (m - 1) 0 (by omega) (by decide)).trans rfl) ?_)
            refine gsg (wanted_is (j := 12) (d := 38) (b := true) rfl rfl ((((((s38_51.ne rfl).ne rfl).ne rfl).ne rfl).ne rfl).ne rfl) rfl) (q_strleq false rfl ((((((s46_51.ne rfl).ne rfl).ne rfl).ne rfl).ne rfl).ne rfl).ev (At.hit z51.put.put.put.put.put rfl).ev (leF (hlt hb46)) ?_)
            refine gsg (wanted_is (j := 9) (d := 35) (b := false) rfl rfl (((((((s35_51.ne rfl).ne rfl).ne rfl).ne rfl).ne rfl).ne rfl).ne rfl) rfl) (q_pick (b := true) (.bool false) rfl (((((((s38_51.ne rfl).ne rfl).ne rfl).ne rfl).ne rfl).ne rfl).ne rfl).ev (At.hit z51.put.put.put.put.put.put rfl).ev ?_)
            refine g_fresh z51.put.put.put.put.put.put.put.put ?_
            intro a53 z53 m53
            have s0_53 := m53 _ _ ((((((((s0_51.ne rfl).ne rfl).ne rfl).ne rfl).ne rfl).ne rfl).ne rfl).ne rfl)
            have s3_53 := m53 _ _ ((((((((s3_51.ne rfl).ne rfl).ne rfl).ne rfl).ne rfl).ne rfl).ne rfl).ne rfl)
            have s4_53 := m53 _ _ ((((((((s4_51.ne rfl).ne rfl).ne rfl).ne rfl).ne rfl).ne rfl).ne rfl).ne rfl)
            have s35_53 := m53 _ _ ((((((((s35_51.ne rfl).ne rfl).ne rfl).ne rfl).ne rfl).ne rfl).ne rfl).ne rfl)
            have s57_53 := m53 _ _ (At.hit z51.put.put.put.put.put.put.put rfl)
            clear m53
            refine gs rfl (q_pick (b := false) (.bool false) rfl s35_53.ev s57_53.ev ?_)
            refine gz ?_
            intro w54 h54
            have ov_54 := (hv.low low43).low h54
            have oy47_54 := (RdFF.row (k := (okN L)) (hv.low low43) (by omega)).low h54
            have oy50_54 := (RdFF.row (k := (okN L)) (hv.low low43) (by omega)).low h54
            have oy52_54 := (RdFF.row (k := (okN L)) (hv.low low43) (by omega)).low h54
            refine e_id ?_
            refine e_fresh z53.put ?_
            intro a55 z55 m55
            have s0_55 := m55 _ _ (s0_53.ne rfl)
            have s3_55 := m55 _ _ (s3_53.ne rfl)
            have s4_55 := m55 _ _ (s4_53.ne rfl)
            have s58_55 := m55 _ _ (At.hit z53 rfl)
            have low55 := (low43.trans h54)
            clear m55
            refine e_then ?_
            refine c_false s58_55 ?_
            refine wp_skip ?_
            refine e_in ?_
            refine e_then ?_
            refine c_region ?_
            refine l_q rfl (q_move _ _ rfl s4_55.ev ?_)
            refine l_q rfl (q_add (((m + 1 : Nat) : Int)) rfl (At.hit z55 rfl).ev rfl (i64_is (by omega) (by omega) (by omega)) ?_)
            refine l_q rfl (q_assign _ _ rfl (At.hit z55.put rfl).ev ?_)
            refine l_end ?_
            refine e_fresh z55.put.put.put ?_
            intro a56 z56 m56
            have s0_56 := m56 _ _ (((s0_55.ne rfl).ne rfl).ne rfl)
            have s3_56 := m56 _ _ (((s3_55.ne rfl).ne rfl).ne rfl)
            have s4_56 := m56 _ _ (At.hit z55.put.put rfl)
            clear m56
            exact ⟨z56, s0_56, s3_56, s4_56, low55⟩
          · skip
            refine region_lowg hm (by kernel_rfl) ?_
            refine gs rfl (q_move _ _ rfl s0_45.ev ?_)
            refine gs rfl (q_move _ _ rfl (s3_45.ne rfl).ev ?_)
            refine gs rfl (q_idxF (j := (okN L)) rfl Try.underlying44 sz22 ((At.hit z45 rfl).ne rfl).ev (hv.low low43).1 (At.hit z45.put rfl).ev (by omega) ?_)
            refine gs rfl (q_ld1 (u := (vs.getD (okN L) nilS)) rfl Try.underlying22 rfl (At.hit z45.put.put rfl).ev (fun _ h => ((hv.low low43).low h).1) (by omega) (RdFF.cell (hv.low low43) (by omega)) ?_)
            refine gs rfl (q_move _ _ rfl ((((s4_45.ne rfl).ne rfl).ne rfl).ne rfl).ev ?_)
            refine gs rfl (q_idxF (j := m) rfl Try.underlying22 sz37 ((At.hit z45.put.put.put rfl).ne rfl).ev (RdFF.row (k := (okN L)) (hv.low low43) (by omega)) (At.hit z45.put.put.put.put rfl).ev (by omega) ?_)
            refine gs rfl (q_fldF 0 rfl fld37_0 (At.hit z45.put.put.put.put.put rfl).ev ((RdFF.row (k := (okN L)) (hv.low low43) (by omega)).form (by omega)) ?_)
            refine gs rfl (q_ld1 (u := .string (((L.getD (okN L) []).getD m zL).f0)) rfl Try.underlying9 rfl (At.hit z45.put.put.put.put.put.put rfl).ev (fun _ h => ((RdFF.row (k := (okN L)) (hv.low low43) (by omega)).low h)) (by omega) ((flat_at encL_len zL _ m 0 (by omega) (by decide)).trans rfl) ?_)
            refine g_fresh z45.put.put.put.put.put.put.put.put ?_
            intro a58 z58 m58
            have s0_58 := m58 _ _ ((((((((s0_45.ne rfl).ne rfl).ne rfl).ne rfl).ne rfl).ne rfl).ne rfl).ne rfl)
            have s3_58 := m58 _ _ ((((((((s3_45.ne rfl).ne rfl).ne rfl).ne rfl).ne rfl).ne rfl).ne rfl).ne rfl)
            have s4_58 := m58 _ _ ((((((((s4_45.ne rfl).ne rfl).ne rfl).ne rfl).ne rfl).ne rfl).ne rfl).ne rfl)
            have s33_58 := m58 _ _ (At.hit z45.put.put.put.put.put.put.put rfl)
            clear m58
            refine gs rfl (q_streq false rfl s33_58.ev rfl (strF hne) ?_)
            refine gs rfl (q_move _ _ rfl (At.hit z58 rfl).ev ?_)
            refine gsg (wanted_is (j := 9) (d := 35) (b := false) rfl rfl (At.hit z58.put rfl) rfl) (q_move _ _ rfl ((s4_58.ne rfl).ne rfl).ev ?_)
            refine gsg (wanted_is (j := 9) (d := 35) (b := false) rfl rfl ((At.hit z58.put rfl).ne rfl) rfl) (q_gtr false rfl (At.hit z58.put.put rfl).ev rfl (decide_eq_false (by omega)) ?_)
            refine gsg (wanted_is (j := 9) (d := 35) (b := false) rfl rfl (((At.hit z58.put rfl).ne rfl).ne rfl) rfl) (q_move _ _ rfl (At.hit z58.put.put.put rfl).ev ?_)
            refine gsk (wanted_is (j := 12) (d := 38) (b := false) rfl rfl (At.hit z58.put.put.put.put rfl) rfl) ?_
            refine gsk (wanted_is (j := 12) (d := 38) (b := false) rfl rfl ((At.hit z58.put.put.put.put rfl).ne rfl) rfl) ?_
            refine gsk (wanted_is (j := 12) (d := 38) (b := false) rfl rfl (((At.hit z58.put.put.put.put rfl).ne rfl).ne rfl) rfl) ?_
            refine g_fresh z58.put.put.put.put.put.put.put.put ?_
            intro a59 z59 m59
            have s0_59 := m59 _ _ ((((((((s0_58.ne rfl).ne rfl).ne rfl).ne rfl).ne rfl).ne rfl).ne rfl).ne rfl)
            have s3_59 := m59 _ _ ((((((((s3_58.ne rfl).ne rfl).ne rfl).ne rfl).ne rfl).ne rfl).ne rfl).ne rfl)
            have s4_59 := m59 _ _ ((((((((s4_58.ne rfl).ne rfl).ne rfl).ne rfl).ne rfl).ne rfl).ne rfl).ne rfl)
            have s35_59 := m59 _ _ (((((((At.hit z58.put rfl).ne rfl).ne rfl).ne rfl).ne rfl).ne rfl).ne rfl)
            have s38_59 := m59 _ _ ((((At.hit z58.put.put.put.put rfl).ne rfl).ne rfl).ne rfl)
            have s41_59 := m59 _ _ (At.hit z58.put.put.put.put.put.put.put rfl)
            clear m59
            refine gsk (wanted_is (j := 12) (d := 38) (b := false) rfl rfl s38_59 rfl) ?_
            refine gsk (wanted_is (j := 12) (d := 38) (b := false) rfl rfl (s38_59.ne rfl) rfl) ?_
            refine gsk (wanted_is (j := 12) (d := 38) (b := false) rfl rfl ((s38_59.ne rfl).ne rfl) rfl) ?_
            refine gsk (wanted_is (j := 12) (d := 38) (b := false) rfl rfl (((s38_59.ne rfl).ne rfl).ne rfl) rfl) ?_
            refine gsk (wanted_is (j := 12) (d := 38) (b := false) rfl rfl ((((s38_59.ne rfl).ne rfl).ne rfl).ne rfl) rfl) ?_
            refine gsk (wanted_is (j := 12) (d := 38) (b := false) rfl rfl (((((s38_59.ne rfl).ne rfl).ne rfl).ne rfl).ne rfl) rfl) ?_
            refine gsk (wanted_is (j := 12) (d := 38) (b := false) rfl rfl ((((((s38_59.ne rfl).ne rfl).ne rfl).ne rfl).ne rfl).ne rfl) rfl) ?_
            refine gsk (wanted_is (j := 12) (d := 38) (b := false) rfl rfl (((((((s38_59.ne rfl).ne rfl).ne rfl).ne rfl).ne rfl).ne rfl).ne rfl) rfl) ?_
            refine g_fresh z59.put.put.put.put.put.put.put.put ?_
            intro a60 z60 m60
            have s0_60 := m60 _ _ ((((((((s0_59.ne rfl).ne rfl).ne rfl).ne rfl).ne rfl).ne rfl).ne rfl).ne rfl)
            have s3_60 := m60 _ _ ((((((((s3_59.ne rfl).ne rfl).ne rfl).ne rfl).ne rfl).ne rfl).ne rfl).ne rfl)
            have s4_60 := m60 _ _ ((((((((s4_59.ne rfl).ne rfl).ne rfl).ne rfl).ne rfl).ne rfl).ne rfl).ne rfl)
            have s35_60 := m60 _ _ ((((((((s35_59.ne rfl).ne rfl).ne rfl).ne rfl).ne rfl).ne rfl).ne rfl).ne rfl)
            have s38_60 := m60 _ _ ((((((((s38_59.ne rfl).ne rfl).ne rfl).ne rfl).ne rfl).ne rfl).ne rfl).ne rfl)
            have s46_60 := m60 _ _ ((((At.hit z59.put.put.put.put rfl).ne rfl).ne rfl).ne rfl)
            have s49_60 := m60 _ _ (At.hit z59.put.put.put.put.put.put.put rfl)
            clear m60
            refine gsk (wanted_is (j := 12) (d := 38) (b := false) rfl rfl s38_60 rfl) ?_
            refine gsk (wanted_is (j := 12) (d := 38) (b := false) rfl rfl (s38_60.ne rfl) rfl) ?_
            refine gsk (wanted_is (j := 12) (d := 38) (b := false) rfl rfl ((s38_60.ne rfl).ne rfl) rfl) ?_
            refine gsk (wanted_is (j := 12) (d := 38) (b := false) rfl rfl (((s38_60.ne rfl).ne rfl).ne rfl) rfl) ?_
            refine gsk (wanted_is (j := 12) (d := 38) (b := false) rfl rfl ((((s38_60.ne rfl).ne rfl).ne rfl).ne rfl) rfl) ?_
            refine gsk (wanted_is (j := 12) (d := 38) (b := false) rfl rfl (((((s38_60.ne rfl).ne rfl).ne rfl).ne rfl).ne rfl) rfl) ?_
            refine gsk (wanted_is (j := 12) (d := 38) (b := false) rfl rfl ((((((s38_60.ne rfl).ne rfl).ne rfl).ne rfl).ne rfl).ne rfl) rfl) ?_
            refine gsg (wanted_is (j := 9) (d := 35) (b := false) rfl rfl (((((((s35_60.ne rfl).ne rfl).ne rfl).ne rfl).ne rfl).ne rfl).ne rfl) rfl) (q_pick (b := false) (.bool false) rfl (((((((s38_60.ne rfl).ne rfl).ne rfl).ne rfl).ne rfl).ne rfl).ne rfl).ev rfl ?_)
            refine g_fresh z60.put.put.put.put.put.put.put.put ?_
            intro a61 z61 m61
            have s0_61 := m61 _ _ ((((((((s0_60.ne rfl).ne rfl).ne rfl).ne rfl).ne rfl).ne rfl).ne rfl).ne rfl)
            have s3_61 := m61 _ _ ((((((((s3_60.ne rfl).ne rfl).ne rfl).ne rfl).ne rfl).ne rfl).ne rfl).ne rfl)
            have s4_61 := m61 _ _ ((((((((s4_60.ne rfl).ne rfl).ne rfl).ne rfl).ne rfl).ne rfl).ne rfl).ne rfl)
            have s35_61 := m61 _ _ ((((((((s35_60.ne rfl).ne rfl).ne rfl).ne rfl).ne rfl).ne rfl).ne rfl).ne rfl)
            have s57_61 := m61 _ _ (At.hit z60.put.put.put.put.put.put.put rfl)
            clear m61
            refine gs rfl (q_pick (b := false) (.bool false) rfl s35_61.ev s57_61.ev ?_)
            refine gz ?_
            intro w62 h62
            have ov_62 := (hv.low low43).low h62
            have oy57_62 := (RdFF.row (k := (okN L)) (hv.low low43) (by omega)).low h62
            refine e_id ?_
            refine e_fresh z61.put ?_
            intro a63 z63 m63
            have s0_63 := m63 _ _ (s0_61.ne rfl)
            have s3_63 := m63 _ _ (s3_61.ne rfl)
            have s4_63 := m63 _ _ (s4_61.ne rfl)
            have s58_63 := m63 _ _ (At.hit z61 rfl)
            have low63 := (low43.trans h62)
            clear m63
            refine e_then ?_
            refine c_false s58_63 ?_
            refine wp_skip ?_
            refine e_in ?_
            refine e_then ?_
            refine c_region ?_
            refine l_q rfl (q_move _ _ rfl s4_63.ev ?_)
            refine l_q rfl (q_add (((m + 1 : Nat) : Int)) rfl (At.hit z63 rfl).ev rfl (i64_is (by omega) (by omega) (by omega)) ?_)
            refine l_q rfl (q_assign _ _ rfl (At.hit z63.put rfl).ev ?_)
            refine l_end ?_
            refine e_fresh z63.put.put.put ?_
            intro a64 z64 m64
            have s0_64 := m64 _ _ (((s0_63.ne rfl).ne rfl).ne rfl)
            have s3_64 := m64 _ _ (((s3_63.ne rfl).ne rfl).ne rfl)
            have s4_64 := m64 _ _ (At.hit z63.put.put rfl)
            clear m64
            exact ⟨z64, s0_64, s3_64, s4_64, low63⟩
        · intro a65 w65 h
          obtain ⟨z65, s0_65, s3_65, s4_65, low65⟩ := h
          clear low41 s0_42 s3_42 s4_42 z42
          have hon := rowOk_not (okN_stop hb36) hb38
          have hf60 := (few_all hb38).1
          refine c_seq ?_
          refine c_seq ?_
          refine c_region ?_
          refine l_q rfl (q_move _ _ rfl s4_65.ev ?_)
          refine l_q rfl (q_move _ _ rfl (s0_65.ne rfl).ev ?_)
          refine l_q rfl (q_move _ _ rfl ((s3_65.ne rfl).ne rfl).ev ?_)
          refine l_q rfl (q_idxF (j := (okN L)) rfl Try.underlying44 sz22 ((At.hit z65.put rfl).ne rfl).ev (hv.low low65).1 (At.hit z65.put.put rfl).ev (by omega) ?_)
          refine l_q rfl (q_ld1 (u := (vs.getD (okN L) nilS)) rfl Try.underlying22 rfl (At.hit z65.put.put.put rfl).ev (fun _ e => by rw [e]; exact (hv.low low65).1) (by omega) (RdFF.cell (hv.low low65) (by omega)) ?_)
          refine l_q rfl (q_lenF rfl rfl Try.underlying22 (At.hit z65.put.put.put.put rfl).ev (RdFF.row (k := (okN L)) (hv.low low65) (by omega)) ?_)
          refine l_q rfl (q_lss true rfl ((((((At.hit z65 rfl).ne rfl).ne rfl).ne rfl).ne rfl).ne rfl).ev (At.hit z65.put.put.put.put.put rfl).ev (decide_eq_true (by omega)) ?_)
          refine l_end ?_
          refine e_fresh z65.put.put.put.put.put.put.put ?_
          intro a67 z67 m67
          have s0_67 := m67 _ _ (((((((s0_65.ne rfl).ne rfl).ne rfl).ne rfl).ne rfl).ne rfl).ne rfl)
          have s3_67 := m67 _ _ (((((((s3_65.ne rfl).ne rfl).ne rfl).ne rfl).ne rfl).ne rfl).ne rfl)
          have s4_67 := m67 _ _ (((((((s4_65.ne rfl).ne rfl).ne rfl).ne rfl).ne rfl).ne rfl).ne rfl)
          have s23_67 := m67 _ _ (At.hit z65.put.put.put.put.put.put rfl)
          clear m67
          refine e_then ?_
          refine c_true s23_67 ?_
          refine wp_skip ?_
          refine e_then ?_
          refine c_seq ?_
          refine wp_block ?_
          refine c_seq ?_
          by_cases hb68 : ((L.getD (okN L) []).getD (ordN (L.getD (okN L) [])) zL).f0 = (⟨#[]⟩ : ByteArray)
          · skip
            refine region_lowg hm (by kernel_rfl) ?_
            refine gs rfl (q_move _ _ rfl s0_67.ev ?_)
            refine gs rfl (q_move _ _ rfl (s3_67.ne rfl).ev ?_)
            refine gs rfl (q_idxF (j := (okN L)) rfl Try.underlying44 sz22 ((At.hit z67 rfl).ne rfl).ev (hv.low low65).1 (At.hit z67.put rfl).ev (by omega) ?_)
            refine gs rfl (q_ld1 (u := (vs.getD (okN L) nilS)) rfl Try.underlying22 rfl (At.hit z67.put.put rfl).ev (fun _ h => ((hv.low low65).low h).1) (by omega) (RdFF.cell (hv.low low65) (by omega)) ?_)
            refine gs rfl (q_move _ _ rfl ((((s4_67.ne rfl).ne rfl).ne rfl).ne rfl).ev ?_)
            refine gs rfl (q_idxF (j := (ordN (L.getD (okN L) []))) rfl Try.underlying22 sz37 ((At.hit z67.put.put.put rfl).ne rfl).ev (RdFF.row (k := (okN L)) (hv.low low65) (by omega)) (At.hit z67.put.put.put.put rfl).ev (by omega) ?_)
            refine gs rfl (q_fldF 0 rfl fld37_0 (At.hit z67.put.put.put.put.put rfl).ev ((RdFF.row (k := (okN L)) (hv.low low65) (by omega)).form (by omega)) ?_)
            refine gs rfl (q_ld1 (u := .string (((L.getD (okN L) []).getD (ordN (L.getD (okN L) [])) zL).f0)) rfl Try.underlying9 rfl (At.hit z67.put.put.put.put.put.put rfl).ev (fun _ h => ((RdFF.row (k := (okN L)) (hv.low low65) (by omega)).low h)) (by omega) ((flat_at encL_len zL _ (ordN (L.getD (okN L) [])) 0 (by omega) (by decide)).trans rfl) ?_)
            refine g_fresh z67.put.put.put.put.put.put.put.put ?_
            intro a70 z70 m70
            have s0_70 := m70 _ _ ((((((((s0_67.ne rfl).ne rfl).ne rfl).ne rfl).ne rfl).ne rfl).ne rfl).ne rfl)
            have s3_70 := m70 _ _ ((((((((s3_67.ne rfl).ne rfl).ne rfl).ne rfl).ne rfl).ne rfl).ne rfl).ne rfl)
            have s4_70 := m70 _ _ ((((((((s4_67.ne rfl).ne rfl).ne rfl).ne rfl).ne rfl).ne rfl).ne rfl).ne rfl)
            have s33_70 := m70 _ _ (At.hit z67.put.put.put.put.put.put.put rfl)
            clear m70
            refine gs rfl (q_streq true rfl s33_70.ev rfl (strT hb68) ?_)
            refine gs rfl (q_move _ _ rfl (At.hit z70 rfl).ev ?_)
            refine gsk (wanted_is (j := 9) (d := 35) (b := true) rfl rfl (At.hit z70.put rfl) rfl) ?_
            refine gsk (wanted_is (j := 9) (d := 35) (b := true) rfl rfl ((At.hit z70.put rfl).ne rfl) rfl) ?_
            refine gsk (wanted_is (j := 9) (d := 35) (b := true) rfl rfl (((At.hit z70.put rfl).ne rfl).ne rfl) rfl) ?_
            refine gsk (wanted_un (j := 12) (d := 38) rfl rfl (At.hit z70.put.put.put.put rfl)) ?_
            refine gsk (wanted_un (j := 12) (d := 38) rfl rfl ((At.hit z70.put.put.put.put rfl).ne rfl)) ?_
            refine gsk (wanted_un (j := 12) (d := 38) rfl rfl (((At.hit z70.put.put.put.put rfl).ne rfl).ne rfl)) ?_
            refine g_fresh z70.put.put.put.put.put.put.put.put ?_
            intro a71 z71 m71
            have s0_71 := m71 _ _ ((((((((s0_70.ne rfl).ne rfl).ne rfl).ne rfl).ne rfl).ne rfl).ne rfl).ne rfl)
            have s3_71 := m71 _ _ ((((((((s3_70.ne rfl).ne rfl).ne rfl).ne rfl).ne rfl).ne rfl).ne rfl).ne rfl)
            have s4_71 := m71 _ _ ((((((((s4_70.ne rfl).ne rfl).ne rfl).ne rfl).ne rfl).ne rfl).ne rfl).ne rfl)
            have s35_71 := m71 _ _ (((((((At.hit z70.put rfl).ne rfl).ne rfl).ne rfl).ne rfl).ne rfl).ne rfl)
            have s38_71 := m71 _ _ ((((At.hit z70.put.put.put.put rfl).ne rfl).ne rfl).ne rfl)
            have s41_71 := m71 _ _ (At.hit z70.put.put.put.put.put.put.put rfl)
            clear m71
            refine gsk (wanted_un (j := 12) (d := 38) rfl rfl s38_71) ?_
            refine gsk (wanted_un (j := 12) (d := 38) rfl rfl (s38_71.ne rfl)) ?_
            refine gsk (wanted_un (j := 12) (d := 38) rfl rfl ((s38_71.ne rfl).ne rfl)) ?_
            refine gsk (wanted_un (j := 12) (d := 38) rfl rfl (((s38_71.ne rfl).ne rfl).ne rfl)) ?_
            refine gsk (wanted_un (j := 12) (d := 38) rfl rfl ((((s38_71.ne rfl).ne rfl).ne rfl).ne rfl)) ?_
            refine gsk (wanted_un (j := 12) (d := 38) rfl rfl (((((s38_71.ne rfl).ne rfl).ne rfl).ne rfl).ne rfl)) ?_
            refine gsk (wanted_un (j := 12) (d := 38) rfl rfl ((((((s38_71.ne rfl).ne rfl).ne rfl).ne rfl).ne rfl).ne rfl)) ?_
            refine gsk (wanted_un (j := 12) (d := 38) rfl rfl (((((((s38_71.ne rfl).ne rfl).ne rfl).ne rfl).ne rfl).ne rfl).ne rfl)) ?_
            refine g_fresh z71.put.put.put.put.put.put.put.put ?_
            intro a72 z72 m72
            have s3_72 := m72 _ _ ((((((((s3_71.ne rfl).ne rfl).ne rfl).ne rfl).ne rfl).ne rfl).ne rfl).ne rfl)
            have s4_72 := m72 _ _ ((((((((s4_71.ne rfl).ne rfl).ne rfl).ne rfl).ne rfl).ne rfl).ne rfl).ne rfl)
            have s35_72 := m72 _ _ ((((((((s35_71.ne rfl).ne rfl).ne rfl).ne rfl).ne rfl).ne rfl).ne rfl).ne rfl)
            have s38_72 := m72 _ _ ((((((((s38_71.ne rfl).ne rfl).ne rfl).ne rfl).ne rfl).ne rfl).ne rfl).ne rfl)
            have s46_72 := m72 _ _ ((((At.hit z71.put.put.put.put rfl).ne rfl).ne rfl).ne rfl)
            have s49_72 := m72 _ _ (At.hit z71.put.put.put.put.put.put.put rfl)
            clear m72
            refine gsk (wanted_un (j := 12) (d := 38) rfl rfl s38_72) ?_
            refine gsk (wanted_un (j := 12) (d := 38) rfl rfl (s38_72.ne rfl)) ?_
            refine gsk (wanted_un (j := 12) (d := 38) rfl rfl ((s38_72.ne rfl).ne rfl)) ?_
            refine gsk (wanted_un (j := 12) (d := 38) rfl rfl (((s38_72.ne rfl).ne rfl).ne rfl)) ?_
            refine gsk (wanted_un (j := 12) (d := 38) rfl rfl ((((s38_72.ne rfl).ne rfl).ne rfl).ne rfl)) ?_
            refine gsk (wanted_un (j := 12) (d := 38) rfl rfl (((((s38_72.ne rfl).ne rfl).ne rfl).ne rfl).ne rfl)) ?_
            refine gsk (wanted_un (j := 12) (d := 38) rfl rfl ((((((s38_72.ne rfl).ne rfl).ne rfl).ne rfl).ne rfl).ne rfl)) ?_
            refine gsk (wanted_is (j := 9) (d := 35) (b := true) rfl rfl (((((((s35_72.ne rfl).ne rfl).ne rfl).ne rfl).ne rfl).ne rfl).ne rfl) rfl) ?_
            refine g_fresh z72.put.put.put.put.put.put.put.put ?_
            intro a73 z73 m73
            have s3_73 := m73 _ _ ((((((((s3_72.ne rfl).ne rfl).ne rfl).ne rfl).ne rfl).ne rfl).ne rfl).ne rfl)
            have s4_73 := m73 _ _ ((((((((s4_72.ne rfl).ne rfl).ne rfl).ne rfl).ne rfl).ne rfl).ne rfl).ne rfl)
            have s35_73 := m73 _ _ ((((((((s35_72.ne rfl).ne rfl).ne rfl).ne rfl).ne rfl).ne rfl).ne rfl).ne rfl)
            have s57_73 := m73 _ _ (At.hit z72.put.put.put.put.put.put.put rfl)
            clear m73
            refine gs rfl (q_pick (b := true) (.bool true) rfl s35_73.ev rfl ?_)
            refine gz ?_
            intro w74 h74
            have ov_74 := (hv.low low65).low h74
            have oy69_74 := (RdFF.row (k := (okN L)) (hv.low low65) (by omega)).low h74
            refine e_id ?_
            refine e_fresh z73.put ?_
            intro a75 z75 m75
            have s3_75 := m75 _ _ (s3_73.ne rfl)
            have s4_75 := m75 _ _ (s4_73.ne rfl)
            have s58_75 := m75 _ _ (At.hit z73 rfl)
            have low75 := (low65.trans h74)
            clear m75
            refine e_then ?_
            refine c_true s58_75 ?_
            refine c_seq ?_
            refine c_region ?_
            refine l_q rfl (q_assign _ _ rfl rfl ?_)
            refine l_end ?_
            refine e_fresh z75.put ?_
            intro a76 z76 m76
            have s2_76 := m76 _ _ (At.hit z75 rfl)
            clear m76
            refine e_then ?_
            refine wp_ret ?_
            refine ret_in ?_
            refine ret_then ?_
            refine ret_then ?_
            refine ret_in ?_
            refine ret_in ?_
            refine ret_then ?_
            refine ret_then ?_
            refine ret_in ?_
            refine ret_then ?_
            refine r_tmp rfl z76.defers s2_76 ?_
            exact ⟨by unfold mayB; rw [decide_eq_false (by omega)]; rfl, low75⟩
          · skip
            by_cases hb77 : 0 < (ordN (L.getD (okN L) []))
            · skip
              by_cases hb78 : ¬ lessB ((L.getD (okN L) []).getD ((ordN (L.getD (okN L) [])) - 1) zL).f0 ((L.getD (okN L) []).getD (ordN (L.getD (okN L) [])) zL).f0 = true
              · skip
                refine region_lowg hm (by kernel_rfl) ?_
                refine gs rfl (q_move _ _ rfl s0_67.ev ?_)
                refine gs rfl (q_move _ _ rfl (s3_67.ne rfl).ev ?_)
                refine gs rfl (q_idxF (j := (okN L)) rfl Try.underlying44 sz22 ((At.hit z67 rfl).ne rfl).ev (hv.low low65).1 (At.hit z67.put rfl).ev (by omega) ?_)
                refine gs rfl (q_ld1 (u := (vs.getD (okN L) nilS)) rfl Try.underlying22 rfl (At.hit z67.put.put rfl).ev (fun _ h => ((hv.low low65).low h).1) (by omega) (RdFF.cell (hv.low low65) (by omega)) ?_)
                refine gs rfl (q_move _ _ rfl ((((s4_67.ne rfl).ne rfl).ne rfl).ne rfl).ev ?_)
                refine gs rfl (q_idxF (j := (ordN (L.getD (okN L) []))) rfl Try.underlying22 sz37 ((At.hit z67.put.put.put rfl).ne rfl).ev (RdFF.row (k := (okN L)) (hv.low low65) (by omega)) (At.hit z67.put.put.put.put rfl).ev (by omega) ?_)
                refine gs rfl (q_fldF 0 rfl fld37_0 (At.hit z67.put.put.put.put.put rfl).ev ((RdFF.row (k := (okN L)) (hv.low low65) (by omega)).form (by omega)) ?_)
                refine gs rfl (q_ld1 (u := .string (((L.getD (okN L) []).getD (ordN (L.getD (okN L) [])) zL).f0)) rfl Try.underlying9 rfl (At.hit z67.put.put.put.put.put.put rfl).ev (fun _ h => ((RdFF.row (k := (okN L)) (hv.low low65) (by omega)).low h)) (by omega) ((flat_at encL_len zL _ (ordN (L.getD (okN L) [])) 0 (by omega) (by decide)).trans rfl) ?_)
                refine g_fresh z67.put.put.put.put.put.put.put.put ?_
                intro a80 z80 m80
                have s0_80 := m80 _ _ ((((((((s0_67.ne rfl).ne rfl).ne rfl).ne rfl).ne rfl).ne rfl).ne rfl).ne rfl)
                have s3_80 := m80 _ _ ((((((((s3_67.ne rfl).ne rfl).ne rfl).ne rfl).ne rfl).ne rfl).ne rfl).ne rfl)
                have s4_80 := m80 _ _ ((((((((s4_67.ne rfl).ne rfl).ne rfl).ne rfl).ne rfl).ne rfl).ne rfl).ne rfl)
                have s33_80 := m80 _ _ (At.hit z67.put.put.put.put.put.put.put rfl)
                clear m80
                refine gs rfl (q_streq false rfl s33_80.ev rfl (strF hb68) ?_)
                refine gs rfl (q_move _ _ rfl (At.hit z80 rfl).ev ?_)
                refine gsg (wanted_is (j := 9) (d := 35) (b := false) rfl rfl (At.hit z80.put rfl) rfl) (q_move _ _ rfl ((s4_80.ne rfl).ne rfl).ev ?_)
                refine gsg (wanted_is (j := 9) (d := 35) (b := false) rfl rfl ((At.hit z80.put rfl).ne rfl) rfl) (q_gtr true rfl (At.hit z80.put.put rfl).ev rfl (decide_eq_true (by omega)) ?_)
                refine gsg (wanted_is (j := 9) (d := 35) (b := false) rfl rfl (((At.hit z80.put rfl).ne rfl).ne rfl) rfl) (q_move _ _ rfl (At.hit z80.put.put.put rfl).ev ?_)
                refine gsg (wanted_is (j := 12) (d := 38) (b := true) rfl rfl (At.hit z80.put.put.put.put rfl) rfl) (q_move _ _ rfl (((((s0_80.ne rfl).ne rfl).ne rfl).ne rfl).ne rfl).ev ?_)
                refine gsg (wanted_is (j := 12) (d := 38) (b := true) rfl rfl ((At.hit z80.put.put.put.put rfl).ne rfl) rfl) (q_move _ _ rfl ((((((s3_80.ne rfl).ne rfl).ne rfl).ne rfl).ne rfl).ne rfl).ev ?_)
                refine gsg (wanted_is (j := 12) (d := 38) (b := true) rfl rfl (((At.hit z80.put.put.put.put rfl).ne rfl).ne rfl) rfl) (q_idxF (j := (okN L)) rfl Try.underlying44 sz22 ((At.hit z80.put.put.put.put.put rfl).ne rfl).ev (hv.low low65).1 (At.hit z80.put.put.put.put.put.put rfl).ev (by omega) ?_)
                refine g_fresh z80.put.put.put.put.put.put.put.put ?_
                intro a81 z81 m81
                have s0_81 := m81 _ _ ((((((((s0_80.ne rfl).ne rfl).ne rfl).ne rfl).ne rfl).ne rfl).ne rfl).ne rfl)
                have s3_81 := m81 _ _ ((((((((s3_80.ne rfl).ne rfl).ne rfl).ne rfl).ne rfl).ne rfl).ne rfl).ne rfl)
                have s4_81 := m81 _ _ ((((((((s4_80.ne rfl).ne rfl).ne rfl).ne rfl).ne rfl).ne rfl).ne rfl).ne rfl)
                have s35_81 := m81 _ _ (((((((At.hit z80.put rfl).ne rfl).ne rfl).ne rfl).ne rfl).ne rfl).ne rfl)
                have s38_81 := m81 _ _ ((((At.hit z80.put.put.put.put rfl).ne rfl).ne rfl).ne rfl)
                have s41_81 := m81 _ _ (At.hit z80.put.put.put.put.put.put.put rfl)
                clear m81
                refine gsg (wanted_is (j := 12) (d := 38) (b := true) rfl rfl s38_81 rfl) (q_ld1 (u := (vs.getD (okN L) nilS)) rfl Try.underlying22 rfl s41_81.ev (fun _ h => ((hv.low low65).low h).1) (by omega) (RdFF.cell (hv.low low65) (by omega)) ?_)
                refine gsg (wanted_is (j := 12) (d := 38) (b := true) rfl rfl (s38_81.ne rfl) rfl) (q_move _ _ rfl (s4_81.ne rfl).ev ?_)
                refine gsg (wanted_is (j := 12) (d := 38) (b := true) rfl rfl ((s38_81.ne rfl).ne rfl) rfl) (q_idxF (j := (ordN (L.getD (okN L) []))) rfl Try.underlying22 sz37 ((At.hit z81 rfl).ne rfl).ev (RdFF.row (k := (okN L)) (hv.low low65) (by omega)) (At.hit z81.put rfl).ev (by omega) ?_)
                refine gsg (wanted_is (j := 12) (d := 38) (b := true) rfl rfl (((s38_81.ne rfl).ne rfl).ne rfl) rfl) (q_fldF 0 rfl fld37_0 (At.hit z81.put.put rfl).ev ((RdFF.row (k := (okN L)) (hv.low low65) (by omega)).form (by omega)) ?_)
                refine gsg (wanted_is (j := 12) (d := 38) (b := true) rfl rfl ((((s38_81.ne rfl).ne rfl).ne rfl).ne rfl) rfl) (q_ld1 (u := .string (((L.getD (okN L) []).getD (ordN (L.getD (okN L) [])) zL).f0)) rfl Try.underlying9 rfl (At.hit z81.put.put.put rfl).ev (fun _ h => ((RdFF.row (k := (okN L)) (hv.low low65) (by omega)).low h)) (by omega) ((flat_at encL_len zL _ (ordN (L.getD (okN L) [])) 0 (by omega) (by decide)).trans rfl) ?_)
                refine gsg (wanted_is (j := 12) (d := 38) (b := true) rfl rfl (((((s38_81.ne rfl).ne rfl).ne rfl).ne rfl).ne rfl) rfl) (q_move _ _ rfl (((((s0_81.ne rfl).ne rfl).ne rfl).ne rfl).ne rfl).ev ?_)
                refine gsg (wanted_is (j := 12) (d := 38) (b := true) rfl rfl ((((((s38_81.ne rfl).ne rfl).ne rfl).ne rfl).ne rfl).ne rfl) rfl) (q_move _ _ rfl ((((((s3_81.ne rfl).ne rfl).ne rfl).ne rfl).ne rfl).ne rfl).ev ?_)
                refine gsg (wanted_is (j := 12) (d := 38) (b := true) rfl rfl (((((((s38_81.ne rfl).ne rfl).ne rfl).ne rfl).ne rfl).ne rfl).ne rfl) rfl) (q_idxF (j := (okN L)) rfl Try.underlying44 sz22 ((At.hit z81.put.put.put.put.put rfl).ne rfl).ev (hv.low low65).1 (At.hit z81.put.put.put.put.put.put rfl).ev (by omega) ?_)
                refine g_fresh z81.put.put.put.put.put.put.put.put ?_
                intro a83 z83 m83
                have s3_83 := m83 _ _ ((((((((s3_81.ne rfl).ne rfl).ne rfl).ne rfl).ne rfl).ne rfl).ne rfl).ne rfl)
                have s4_83 := m83 _ _ ((((((((s4_81.ne rfl).ne rfl).ne rfl).ne rfl).ne rfl).ne rfl).ne rfl).ne rfl)
                have s35_83 := m83 _ _ ((((((((s35_81.ne rfl).ne rfl).ne rfl).ne rfl).ne rfl).ne rfl).ne rfl).ne rfl)
                have s38_83 := m83 _ _ ((((((((s38_81.ne rfl).ne rfl).ne rfl).ne rfl).ne rfl).ne rfl).ne rfl).ne rfl)
                have s46_83 := m83 _ _ ((((At.hit z81.put.put.put.put rfl).ne rfl).ne rfl).ne rfl)
                have s49_83 := m83 _ _ (At.hit z81.put.put.put.put.put.put.put rfl)
                clear m83
                refine gsg (wanted_is (j := 12) (d := 38) (b := true) rfl rfl s38_83 rfl) (q_ld1 (u := (vs.getD (okN L) nilS)) rfl Try.underlying22 rfl s49_83.ev (fun _ h => ((hv.low low65).low h).1) (by omega) (RdFF.cell (hv.low low65) (by omega)) ?_)
                refine gsg (wanted_is (j := 12) (d := 38) (b := true) rfl rfl (s38_83.ne rfl) rfl) (q_move _ _ rfl (s4_83.ne rfl).ev ?_)
                refine gsg (wanted_is (j := 12) (d := 38) (b := true) rfl rfl ((s38_83.ne rfl).ne rfl) rfl) (q_sub ((((ordN (L.getD (okN L) []) : Nat) : Int) - 1)) rfl (At.hit z83.put rfl).ev rfl (i64_is (by omega) (by omega) (by omega)) ?_)
                refine gsg (wanted_is (j := 12) (d := 38) (b := true) rfl rfl (((s38_83.ne rfl).ne rfl).ne rfl) rfl) (q_idxF (j := (ordN (L.getD (okN L) [])) - 1) rfl Try.underlying22 sz37 (((At.hit z83 rfl).ne rfl).ne rfl).ev (RdFF.row (k := (okN L)) (hv.low low65) (by omega)) ((At.hit z83.put.put rfl).same (congrArg (Value.int .i64) (show ((((ordN (L.getD (okN L) []) : Nat) : Int) - 1) : Int) = (((ordN (L.getD (okN L) [])) - 1 : Nat) : Int) by omega))).ev (by omega) ?_)
                refine gsg (wanted_is (j := 12) (d := 38) (b := true) rfl rfl ((((s38_83.ne rfl).ne rfl).ne rfl).ne rfl) rfl) (q_fldF 0 rfl fld37_0 (At.hit z83.put.put.put rfl).ev ((RdFF.row (k := (okN L)) (hv.low low65) (by omega)).form (by omega)) ?_)
                refine gsg (wanted_is (j := 12) (d := 38) (b := true) rfl rfl (((((s38_83.ne rfl).ne rfl).ne rfl).ne rfl).ne rfl) rfl) (q_ld1 (u := .string (((L.getD (okN L) []).getD ((ordN (L.getD (okN L) [])) - 1) zL).f0)) rfl Try.underlying9 rfl (At.hit z83.put.put.put.put rfl).ev (fun _ h => ((RdFF.row (k := (okN L)) (hv.low low65) (by omega)).low h)) (by omega) ((flat_at encL_len zL _ ((ordN (L.getD (okN L) [])) - 1) 0 (by omega) (by decide)).trans rfl) ?_)
                refine gsg (wanted_is (j := 12) (d := 38) (b := true) rfl rfl ((((((s38_83.ne rfl).ne rfl).ne rfl).ne rfl).ne rfl).ne rfl) rfl) (q_strleq true rfl ((((((s46_83.ne rfl).ne rfl).ne rfl).ne rfl).ne rfl).ne rfl).ev (At.hit z83.put.put.put.put.put rfl).ev (leT hb78) ?_)
                refine gsg (wanted_is (j := 9) (d := 35) (b := false) rfl rfl (((((((s35_83.ne rfl).ne rfl).ne rfl).ne rfl).ne rfl).ne rfl).ne rfl) rfl) (q_pick (b := true) (.bool true) rfl (((((((s38_83.ne rfl).ne rfl).ne rfl).ne rfl).ne rfl).ne rfl).ne rfl).ev (At.hit z83.put.put.put.put.put.put rfl).ev ?_)
                refine g_fresh z83.put.put.put.put.put.put.put.put ?_
                intro a85 z85 m85
                have s3_85 := m85 _ _ ((((((((s3_83.ne rfl).ne rfl).ne rfl).ne rfl).ne rfl).ne rfl).ne rfl).ne rfl)
                have s4_85 := m85 _ _ ((((((((s4_83.ne rfl).ne rfl).ne rfl).ne rfl).ne rfl).ne rfl).ne rfl).ne rfl)
                have s35_85 := m85 _ _ ((((((((s35_83.ne rfl).ne rfl).ne rfl).ne rfl).ne rfl).ne rfl).ne rfl).ne rfl)
                have s57_85 := m85 _ _ (At.hit z83.put.put.put.put.put.put.put rfl)
                clear m85
                refine gs rfl (q_pick (b := false) (.bool true) rfl s35_85.ev s57_85.ev ?_)
                refine gz ?_
                intro w86 h86
                have ov_86 := (hv.low low65).low h86
                have oy79_86 := (RdFF.row (k := (okN L)) (hv.low low65) (by omega)).low h86
                have oy82_86 := (RdFF.row (k := (okN L)) (hv.low low65) (by omega)).low h86
                have oy84_86 := (RdFF.row (k := (okN L)) (hv.low low65) (by omega)).low h86
                refine e_id ?_
                refine e_fresh z85.put ?_
                intro a87 z87 m87
                have s3_87 := m87 _ _ (s3_85.ne rfl)
                have s4_87 := m87 _ _ (s4_85.ne rfl)
                have s58_87 := m87 _ _ (At.hit z85 rfl)
                have low87 := (low65.trans h86)
                clear m87
                refine e_then ?_
                refine c_true s58_87 ?_
                refine c_seq ?_
                refine c_region ?_
                refine l_q rfl (q_assign _ _ rfl rfl ?_)
                refine l_end ?_
                refine e_fresh z87.put ?_
                intro a88 z88 m88
                have s2_88 := m88 _ _ (At.hit z87 rfl)
                clear m88
                refine e_then ?_
                refine wp_ret ?_
                refine ret_in ?_
                refine ret_then ?_
                refine ret_then ?_
                refine ret_in ?_
                refine ret_in ?_
                refine ret_then ?_
                refine ret_then ?_
                refine ret_in ?_
                refine ret_then ?_
                refine r_tmp rfl z88.defers s2_88 ?_
                exact ⟨by unfold mayB; rw [decide_eq_false (by omega)]; rfl, low87⟩
              · skip
                refine region_lowg hm (by kernel_rfl) ?_
                refine gs rfl (q_move _ _ rfl s0_67.ev ?_)
                refine gs rfl (q_move _ _ rfl (s3_67.ne rfl).ev ?_)
                refine gs rfl (q_idxF (j := (okN L)) rfl Try.underlying44 sz22 ((At.hit z67 rfl).ne rfl).ev (hv.low low65).1 (At.hit z67.put rfl).ev (by omega) ?_)
                refine gs rfl (q_ld1 (u := (vs.getD (okN L) nilS)) rfl Try.underlying22 rfl (At.hit z67.put.put rfl).ev (fun _ h => ((hv.low low65).low h).1) (by omega) (RdFF.cell (hv.low low65) (by omega)) ?_)
                refine gs rfl (q_move _ _ rfl ((((s4_67.ne rfl).ne rfl).ne rfl).ne rfl).ev ?_)
                refine gs rfl (q_idxF (j := (ordN (L.getD (okN L) []))) rfl Try.underlying22 sz37 ((At.hit z67.put.put.put rfl).ne rfl).ev (RdFF.row (k := (okN L)) (hv.low low65) (by omega)) (At.hit z67.put.put.put.put rfl).ev (by omega) ?_)
                refine gs rfl (q_fldF 0 rfl fld37_0 (At.hit z67.put.put.put.put.put rfl).ev ((RdFF.row (k := (okN L)) (hv.low low65) (by omega)).form (by omega)) ?_)
                refine gs rfl (q_ld1 (u := .string (((L.getD (okN L) []).getD (ordN (L.getD (okN L) [])) zL).f0)) rfl Try.underlying9 rfl (At.hit z67.put.put.put.put.put.put rfl).ev (fun _ h => ((RdFF.row (k := (okN L)) (hv.low low65) (by omega)).low h)) (by omega) ((flat_at encL_len zL _ (ordN (L.getD (okN L) [])) 0 (by omega) (by decide)).trans rfl) ?_)
                refine g_fresh z67.put.put.put.put.put.put.put.put ?_
                intro a90 z90 m90
                have s0_90 := m90 _ _ ((((((((s0_67.ne rfl).ne rfl).ne rfl).ne rfl).ne rfl).ne rfl).ne rfl).ne rfl)
                have s3_90 := m90 _ _ ((((((((s3_67.ne rfl).ne rfl).ne rfl).ne rfl).ne rfl).ne rfl).ne rfl).ne rfl)
                have s4_90 := m90 _ _ ((((((((s4_67.ne rfl).ne rfl).ne rfl).ne rfl).ne rfl).ne rfl).ne rfl).ne rfl)
                have s33_90 := m90 _ _ (At.hit z67.put.put.put.put.put.put.put rfl)
                clear m90
                refine gs rfl (q_streq false rfl s33_90.ev rfl (strF hb68) ?_)
                refine gs rfl (q_move _ _ rfl (At.hit z90 rfl).ev ?_)
                refine gsg (wanted_is (j := 9) (d := 35) (b := false) rfl rfl (At.hit z90.put rfl) rfl) (q_move _ _ rfl ((s4_90.ne rfl).ne rfl).ev ?_)
                refine gsg (wanted_is (j := 9) (d := 35) (b := false) rfl rfl ((At.hit z90.put rfl).ne rfl) rfl) (q_gtr true rfl (At.hit z90.put.put rfl).ev rfl (decide_eq_true (by omega)) ?_)
                refine gsg (wanted_is (j := 9) (d := 35) (b := false) rfl rfl (((At.hit z90.put rfl).ne rfl).ne rfl) rfl) (q_move _ _ rfl (At.hit z90.put.put.put rfl).ev ?_)
                refine gsg (wanted_is (j := 12) (d := 38) (b := true) rfl rfl (At.hit z90.put.put.put.put rfl) rfl) (q_move _ _ rfl (((((s0_90.ne rfl).ne rfl).ne rfl).ne rfl).ne rfl).ev ?_)
                refine gsg (wanted_is (j := 12) (d := 38) (b := true) rfl rfl ((At.hit z90.put.put.put.put rfl).ne rfl) rfl) (q_move _ _ rfl ((((((s3_90.ne rfl).ne rfl).ne rfl).ne rfl).ne rfl).ne rfl).ev ?_)
                refine gsg (wanted_is (j := 12) (d := 38) (b := true) rfl rfl (((At.hit z90.put.put.put.put rfl).ne rfl).ne rfl) rfl) (q_idxF (j := (okN L)) rfl Try.underlying44 sz22 ((At.hit z90.put.put.put.put.put rfl).ne rfl).ev (hv.low low65).1 (At.hit z90.put.put.put.put.put.put rfl).ev (by omega) ?_)
                refine g_fresh z90.put.put.put.put.put.put.put.put ?_
                intro a91 z91 m91
                have s0_91 := m91 _ _ ((((((((s0_90.ne rfl).ne rfl).ne rfl).ne rfl).ne rfl).ne rfl).ne rfl).ne rfl)
                have s3_91 := m91 _ _ ((((((((s3_90.ne rfl).ne rfl).ne rfl).ne rfl).ne rfl).ne rfl).ne rfl).ne rfl)
                have s4_91 := m91 _ _ ((((((((s4_90.ne rfl).ne rfl).ne rfl).ne rfl).ne rfl).ne rfl).ne rfl).ne rfl)
                have s35_91 := m91 _ _ (((((((At.hit z90.put rfl).ne rfl).ne rfl).ne rfl).ne rfl).ne rfl).ne rfl)
                have s38_91 := m91 _ _ ((((At.hit z90.put.put.put.put rfl).ne rfl).ne rfl).ne rfl)
                have s41_91 := m91 _ _ (At.hit z90.put.put.put.put.put.put.put rfl)
                clear m91
                refine gsg (wanted_is (j := 12) (d := 38) (b := true) rfl rfl s38_91 rfl) (q_ld1 (u := (vs.getD (okN L) nilS)) rfl Try.underlying22 rfl s41_91.ev (fun _ h => ((hv.low low65).low h).1) (by omega) (RdFF.cell (hv.low low65) (by omega)) ?_)
                refine gsg (wanted_is (j := 12) (d := 38) (b := true) rfl rfl (s38_91.ne rfl) rfl) (q_move _ _ rfl (s4_91.ne rfl).ev ?_)
                refine gsg (wanted_is (j := 12) (d := 38) (b := true) rfl rfl ((s38_91.ne rfl).ne rfl) rfl) (q_idxF (j := (ordN (L.getD (okN L) []))) rfl Try.underlying22 sz37 ((At.hit z91 rfl).ne rfl).ev (RdFF.row (k := (okN L)) (hv.low low65) (by omega)) (At.hit z91.put rfl).ev (by omega) ?_)
                refine gsg (wanted_is (j := 12) (d := 38) (b := true) rfl rfl (((s38_91.ne rfl).ne rfl).ne rfl) rfl) (q_fldF 0 rfl fld37_0 (At.hit z91.put.put rfl).ev ((RdFF.row (k := (okN L)) (hv.low low65) (by omega)).form (by omega)) ?_)
                refine gsg (wanted_is (j := 12) (d := 38) (b := true) rfl rfl ((((s38_91.ne rfl).ne rfl).ne rfl).ne rfl) rfl) (q_ld1 (u := .string (((L.getD (okN L) []).getD (ordN (L.getD (okN L) [])) zL).f0)) rfl Try.underlying9 rfl (At.hit z91.put.put.put rfl).ev (fun _ h => ((RdFF.row (k := (okN L)) (hv.low low65) (by omega)).low h)) (by omega) ((flat_at encL_len zL _ (ordN (L.getD (okN L) [])) 0 (by omega) (by decide)).trans rfl) ?_)
                refine gsg (wanted_is (j := 12) (d := 38) (b := true) rfl rfl (((((s38_91.ne rfl).ne rfl).ne rfl).ne rfl).ne rfl) rfl) (q_move _ _ rfl (((((s0_91.ne rfl).ne rfl).ne rfl).ne rfl).ne rfl).ev ?_)
                refine gsg (wanted_is (j := 12) (d := 38) (b := true) rfl rfl ((((((s38_91.ne rfl).ne rfl).ne rfl).ne rfl).ne rfl).ne rfl) rfl) (q_move _ _ rfl ((((((s3_91.ne rfl).ne rfl).ne rfl).ne rfl).ne rfl).ne rfl).ev ?_)
                refine gsg (wanted_is (j := 12) (d := 38) (b := true) rfl rfl (((((((s38_91.ne rfl).ne rfl).ne rfl).ne rfl).ne rfl).ne rfl).ne rfl) rfl) (q_idxF (j := (okN L)) rfl Try.underlying44 sz22 ((At.hit z91.put.put.put.put.put rfl).ne rfl).ev (hv.low low65).1 (At.hit z91.put.put.put.put.put.put rfl).ev (by omega) ?_)
                refine g_fresh z91.put.put.put.put.put.put.put.put ?_
                intro a93 z93 m93
                have s3_93 := m93 _ _ ((((((((s3_91.ne rfl).ne rfl).ne rfl).ne rfl).ne rfl).ne rfl).ne rfl).ne rfl)
                have s4_93 := m93 _ _ ((((((((s4_91.ne rfl).ne rfl).ne rfl).ne rfl).ne rfl).ne rfl).ne rfl).ne rfl)
                have s35_93 := m93 _ _ ((((((((s35_91.ne rfl).ne rfl).ne rfl).ne rfl).ne rfl).ne rfl).ne rfl).ne rfl)
                have s38_93 := m93 _ _ ((((((((s38_91.ne rfl).ne rfl).ne rfl).ne rfl).ne rfl).ne rfl).ne rfl).ne rfl)
                have s46_93 := m93 _ _ ((((At.hit z91.put.put.put.put rfl).ne rfl).ne rfl).ne rfl)
                have s49_93 := m93 _ _ (At.hit z91.put.put.put.put.put.put.put rfl)
                clear m93
                refine gsg (wanted_is (j := 12) (d := 38) (b := true) rfl rfl s38_93 rfl) (q_ld1 (u := (vs.getD (okN L) nilS)) rfl Try.underlying22 rfl s49_93.ev (fun _ h => ((hv.low low65).low h).1) (by omega) (RdFF.cell (hv.low low65) (by omega)) ?_)
                refine gsg (wanted_is (j := 12) (d := 38) (b := true) rfl rfl (s38_93.ne rfl) rfl) (q_move _ _ rfl (s4_93.ne rfl).ev ?_)
                refine gsg (wanted_is (j := 12) (d := 38) (b := true) rfl rfl ((s38_93.ne rfl).ne rfl) rfl) (q_sub ((((ordN (L.getD (okN L) []) : Nat) : Int) - 1)) rfl (At.hit z93.put rfl).ev rfl (i64_is (by omega) (by omega) (by omega)) ?_)
                refine gsg (wanted_is (j := 12) (d := 38) (b := true) rfl rfl (((s38_93.ne rfl).ne rfl).ne rfl) rfl) (q_idxF (j := (ordN (L.getD (okN L) [])) - 1) rfl Try.underlying22 sz37 (((At.hit z93 rfl).ne rfl).ne rfl).ev (RdFF.row (k := (okN L)) (hv.low low65) (by omega)) ((At.hit z93.put.put rfl).same (congrArg (Value.int .i64) (show ((((ordN (L.getD (okN L) []) : Nat) : Int) - 1) : Int) = (((ordN (L.getD (okN L) [])) - 1 : Nat) : Int) by omega))).ev (by omega) ?_)
                refine gsg (wanted_is (j := 12) (d := 38) (b := true) rfl rfl ((((s38_93.ne rfl).ne rfl).ne rfl).ne rfl) rfl) (q_fldF 0 rfl fld37_0 (At.hit z93.put.put.put rfl).ev ((RdFF.row (k := (okN L)) (hv.low low65) (by omega)).form (by omega)) ?_)
                refine gsg (wanted_is (j := 12) (d := 38) (b := true) rfl rfl (((((s38_93.ne rfl).ne rfl).ne rfl).ne rfl).ne rfl) rfl) (q_ld1 (u := .string (((L.getD (okN L) []).getD ((ordN (L.getD (okN L) [])) - 1) zL).f0)) rfl Try.underlying9 rfl (At.hit z93.put.put.put.put rfl).ev (fun _ h => ((RdFF.row (k := (okN L)) (hv.low low65) (by omega)).low h)) (by omega) ((flat_at encL_len zL _ ((ordN (L.getD (okN L) [])) - 1) 0 (by omega) (by decide)).trans rfl) ?_)
                refine gsg (wanted_is (j := 12) (d := 38) (b := true) rfl rfl ((((((s38_93.ne rfl).ne rfl).ne rfl).ne rfl).ne rfl).ne rfl) rfl) (q_strleq false rfl ((((((s46_93.ne rfl).ne rfl).ne rfl).ne rfl).ne rfl).ne rfl).ev (At.hit z93.put.put.put.put.put rfl).ev (leF (Decidable.not_not.1 hb78)) ?_)
                refine gsg (wanted_is (j := 9) (d := 35) (b := false) rfl rfl (((((((s35_93.ne rfl).ne rfl).ne rfl).ne rfl).ne rfl).ne rfl).ne rfl) rfl) (q_pick (b := true) (.bool false) rfl (((((((s38_93.ne rfl).ne rfl).ne rfl).ne rfl).ne rfl).ne rfl).ne rfl).ev (At.hit z93.put.put.put.put.put.put rfl).ev ?_)
                refine g_fresh z93.put.put.put.put.put.put.put.put ?_
                intro a95 z95 m95
                have s3_95 := m95 _ _ ((((((((s3_93.ne rfl).ne rfl).ne rfl).ne rfl).ne rfl).ne rfl).ne rfl).ne rfl)
                have s4_95 := m95 _ _ ((((((((s4_93.ne rfl).ne rfl).ne rfl).ne rfl).ne rfl).ne rfl).ne rfl).ne rfl)
                have s35_95 := m95 _ _ ((((((((s35_93.ne rfl).ne rfl).ne rfl).ne rfl).ne rfl).ne rfl).ne rfl).ne rfl)
                have s57_95 := m95 _ _ (At.hit z93.put.put.put.put.put.put.put rfl)
                clear m95
                refine gs rfl (q_pick (b := false) (.bool false) rfl s35_95.ev s57_95.ev ?_)
                refine gz ?_
                intro w96 h96
                have ov_96 := (hv.low low65).low h96
                have oy89_96 := (RdFF.row (k := (okN L)) (hv.low low65) (by omega)).low h96
                have oy92_96 := (RdFF.row (k := (okN L)) (hv.low low65) (by omega)).low h96
                have oy94_96 := (RdFF.row (k := (okN L)) (hv.low low65) (by omega)).low h96
                refine e_id ?_
                refine e_fresh z95.put ?_
                intro a97 z97 m97
                have s3_97 := m97 _ _ (s3_95.ne rfl)
                have s4_97 := m97 _ _ (s4_95.ne rfl)
                have s58_97 := m97 _ _ (At.hit z95 rfl)
                have low97 := (low65.trans h96)
                clear m97
                refine e_then ?_
                refine c_false s58_97 ?_
                refine wp_skip ?_
                refine e_in ?_
                refine e_then ?_
                refine c_region ?_
                refine l_q rfl (q_move _ _ rfl s4_97.ev ?_)
                refine l_q rfl (q_add ((((ordN (L.getD (okN L) [])) + 1 : Nat) : Int)) rfl (At.hit z97 rfl).ev rfl (i64_is (by omega) (by omega) (by omega)) ?_)
                refine l_q rfl (q_assign _ _ rfl (At.hit z97.put rfl).ev ?_)
                refine l_end ?_
                refine e_fresh z97.put.put.put ?_
                intro a98 z98 m98
                have s3_98 := m98 _ _ (((s3_97.ne rfl).ne rfl).ne rfl)
                clear m98
                exact absurd ⟨hb68, fun h => Decidable.not_not.1 hb78⟩ (ordN_stop hon)
            · skip
              refine region_lowg hm (by kernel_rfl) ?_
              refine gs rfl (q_move _ _ rfl s0_67.ev ?_)
              refine gs rfl (q_move _ _ rfl (s3_67.ne rfl).ev ?_)
              refine gs rfl (q_idxF (j := (okN L)) rfl Try.underlying44 sz22 ((At.hit z67 rfl).ne rfl).ev (hv.low low65).1 (At.hit z67.put rfl).ev (by omega) ?_)
              refine gs rfl (q_ld1 (u := (vs.getD (okN L) nilS)) rfl Try.underlying22 rfl (At.hit z67.put.put rfl).ev (fun _ h => ((hv.low low65).low h).1) (by omega) (RdFF.cell (hv.low low65) (by omega)) ?_)
              refine gs rfl (q_move _ _ rfl ((((s4_67.ne rfl).ne rfl).ne rfl).ne rfl).ev ?_)
              refine gs rfl (q_idxF (j := (ordN (L.getD (okN L) []))) rfl Try.underlying22 sz37 ((At.hit z67.put.put.put rfl).ne rfl).ev (RdFF.row (k := (okN L)) (hv.low low65) (by omega)) (At.hit z67.put.put.put.put rfl).ev (by omega) ?_)
              refine gs rfl (q_fldF 0 rfl fld37_0 (At.hit z67.put.put.put.put.put rfl).ev ((RdFF.row (k := (okN L)) (hv.low low65) (by omega)).form (by omega)) ?_)
              refine gs rfl (q_ld1 (u := .string (((L.getD (okN L) []).getD (ordN (L.getD (okN L) [])) zL).f0)) rfl Try.underlying9 rfl (At.hit z67.put.put.put.put.put.put rfl).ev (fun _ h => ((RdFF.row (k := (okN L)) (hv.low low65) (by omega)).low h)) (by omega) ((flat_at encL_len zL _ (ordN (L.getD (okN L) [])) 0 (by omega) (by decide)).trans rfl) ?_)
              refine g_fresh z67.put.put.put.put.put.put.put.put ?_
              intro a100 z100 m100
              have s0_100 := m100 _ _ ((((((((s0_67.ne rfl).ne rfl).ne rfl).ne rfl).ne rfl).ne rfl).ne rfl).ne rfl)
              have s3_100 := m100 _ _ ((((((((s3_67.ne rfl).ne rfl).ne rfl).ne rfl).ne rfl).ne rfl).ne rfl).ne rfl)
              have s4_100 := m100 _ _ ((((((((s4_67.ne rfl).ne rfl).ne rfl).ne rfl).ne rfl).ne rfl).ne rfl).ne rfl)
              have s33_100 := m100 _ _ (At.hit z67.put.put.put.put.put.put.put rfl)
              clear m100
              refine gs rfl (q_streq false rfl s33_100.ev rfl (strF hb68) ?_)
              refine gs rfl (q_move _ _ rfl (At.hit z100 rfl).ev ?_)
              refine gsg (wanted_is (j := 9) (d := 35) (b := false) rfl rfl (At.hit z100.put rfl) rfl) (q_move _ _ rfl ((s4_100.ne rfl).ne rfl).ev ?_)
              refine gsg (wanted_is (j := 9) (d := 35) (b := false) rfl rfl ((At.hit z100.put rfl).ne rfl) rfl) (q_gtr false rfl (At.hit z100.put.put rfl).ev rfl (decide_eq_false (by omega)) ?_)
              refine gsg (wanted_is (j := 9) (d := 35) (b := false) rfl rfl (((At.hit z100.put rfl).ne rfl).ne rfl) rfl) (q_move _ _ rfl (At.hit z100.put.put.put rfl).ev ?_)
              refine gsk (wanted_is (j := 12) (d := 38) (b := false) rfl rfl (At.hit z100.put.put.put.put rfl) rfl) ?_
              refine gsk (wanted_is (j := 12) (d := 38) (b := false) rfl rfl ((At.hit z100.put.put.put.put rfl).ne rfl) rfl) ?_
              refine gsk (wanted_is (j := 12) (d := 38) (b := false) rfl rfl (((At.hit z100.put.put.put.put rfl).ne rfl).ne rfl) rfl) ?_
              refine g_fresh z100.put.put.put.put.put.put.put.put ?_
              intro a101 z101 m101
              have s0_101 := m101 _ _ ((((((((s0_100.ne rfl).ne rfl).ne rfl).ne rfl).ne rfl).ne rfl).ne rfl).ne rfl)
              have s3_101 := m101 _ _ ((((((((s3_100.ne rfl).ne rfl).ne rfl).ne rfl).ne rfl).ne rfl).ne rfl).ne rfl)
              have s4_101 := m101 _ _ ((((((((s4_100.ne rfl).ne rfl).ne rfl).ne rfl).ne rfl).ne rfl).ne rfl).ne rfl)
              have s35_101 := m101 _ _ (((((((At.hit z100.put rfl).ne rfl).ne rfl).ne rfl).ne rfl).ne rfl).ne rfl)
              have s38_101 := m101 _ _ ((((At.hit z100.put.put.put.put rfl).ne rfl).ne rfl).ne rfl)
              have s41_101 := m101 _ _ (At.hit z100.put.put.put.put.put.put.put rfl)
              clear m101
              refine gsk (wanted_is (j := 12) (d := 38) (b := false) rfl rfl s38_101 rfl) ?_
              refine gsk (wanted_is (j := 12) (d := 38) (b := false) rfl rfl (s38_101.ne rfl) rfl) ?_
              refine gsk (wanted_is (j := 12) (d := 38) (b := false) rfl rfl ((s38_101.ne rfl).ne rfl) rfl) ?_
              refine gsk (wanted_is (j := 12) (d := 38) (b := false) rfl rfl (((s38_101.ne rfl).ne rfl).ne rfl) rfl) ?_
              refine gsk (wanted_is (j := 12) (d := 38) (b := false) rfl rfl ((((s38_101.ne rfl).ne rfl).ne rfl).ne rfl) rfl) ?_
              refine gsk (wanted_is (j := 12) (d := 38) (b := false) rfl rfl (((((s38_101.ne rfl).ne rfl).ne rfl).ne rfl).ne rfl) rfl) ?_
              refine gsk (wanted_is (j := 12) (d := 38) (b := false) rfl rfl ((((((s38_101.ne rfl).ne rfl).ne rfl).ne rfl).ne rfl).ne rfl) rfl) ?_
              refine gsk (wanted_is (j := 12) (d := 38) (b := false) rfl rfl (((((((s38_101.ne rfl).ne rfl).ne rfl).ne rfl).ne rfl).ne rfl).ne rfl) rfl) ?_
              refine g_fresh z101.put.put.put.put.put.put.put.put ?_
              intro a102 z102 m102
              have s3_102 := m102 _ _ ((((((((s3_101.ne rfl).ne rfl).ne rfl).ne rfl).ne rfl).ne rfl).ne rfl).ne rfl)
              have s4_102 := m102 _ _ ((((((((s4_101.ne rfl).ne rfl).ne rfl).ne rfl).ne rfl).ne rfl).ne rfl).ne rfl)
              have s35_102 := m102 _ _ ((((((((s35_101.ne rfl).ne rfl).ne rfl).ne rfl).ne rfl).ne rfl).ne rfl).ne rfl)
              have s38_102 := m102 _ _ ((((((((s38_101.ne rfl).ne rfl).ne rfl).ne rfl).ne rfl).ne rfl).ne rfl).ne rfl)
              have s46_102 := m102 _ _ ((((At.hit z101.put.put.put.put rfl).ne rfl).ne rfl).ne rfl)
              have s49_102 := m102 _ _ (At.hit z101.put.put.put.put.put.put.put rfl)
              clear m102
              refine gsk (wanted_is (j := 12) (d := 38) (b := false) rfl rfl s38_102 rfl) ?_
              refine gsk (wanted_is (j := 12) (d := 38) (b := false) rfl rfl (s38_102.ne rfl) rfl) ?_
              refine gsk (wanted_is (j := 12) (d := 38) (b := false) rfl rfl ((s38_102.ne rfl).ne rfl) rfl) ?_
              refine gsk (wanted_is (j := 12) (d := 38) (b := false) rfl rfl (((s38_102.ne rfl).ne rfl).ne rfl) rfl) ?_
              refine gsk (wanted_is (j := 12) (d := 38) (b := false) rfl rfl ((((s38_102.ne rfl).ne rfl).ne rfl).ne rfl) rfl) ?_
              refine gsk (wanted_is (j := 12) (d := 38) (b := false) rfl rfl (((((s38_102.ne rfl).ne rfl).ne rfl).ne rfl).ne rfl) rfl) ?_
              refine gsk (wanted_is (j := 12) (d := 38) (b := false) rfl rfl ((((((s38_102.ne rfl).ne rfl).ne rfl).ne rfl).ne rfl).ne rfl) rfl) ?_
              refine gsg (wanted_is (j := 9) (d := 35) (b := false) rfl rfl (((((((s35_102.ne rfl).ne rfl).ne rfl).ne rfl).ne rfl).ne rfl).ne rfl) rfl) (q_pick (b := false) (.bool false) rfl (((((((s38_102.ne rfl).ne rfl).ne rfl).ne rfl).ne rfl).ne rfl).ne rfl).ev rfl ?_)
              refine g_fresh z102.put.put.put.put.put.put.put.put ?_
              intro a103 z103 m103
              have s3_103 := m103 _ _ ((((((((s3_102.ne rfl).ne rfl).ne rfl).ne rfl).ne rfl).ne rfl).ne rfl).ne rfl)
              have s4_103 := m103 _ _ ((((((((s4_102.ne rfl).ne rfl).ne rfl).ne rfl).ne rfl).ne rfl).ne rfl).ne rfl)
              have s35_103 := m103 _ _ ((((((((s35_102.ne rfl).ne rfl).ne rfl).ne rfl).ne rfl).ne rfl).ne rfl).ne rfl)
              have s57_103 := m103 _ _ (At.hit z102.put.put.put.put.put.put.put rfl)
              clear m103
              refine gs rfl (q_pick (b := false) (.bool false) rfl s35_103.ev s57_103.ev ?_)
              refine gz ?_
              intro w104 h104
              have ov_104 := (hv.low low65).low h104
              have oy99_104 := (RdFF.row (k := (okN L)) (hv.low low65) (by omega)).low h104
              refine e_id ?_
              refine e_fresh z103.put ?_
              intro a105 z105 m105
              have s3_105 := m105 _ _ (s3_103.ne rfl)
              have s4_105 := m105 _ _ (s4_103.ne rfl)
              have s58_105 := m105 _ _ (At.hit z103 rfl)
              have low105 := (low65.trans h104)
              clear m105
              refine e_then ?_
              refine c_false s58_105 ?_
              refine wp_skip ?_
              refine e_in ?_
              refine e_then ?_
              refine c_region ?_
              refine l_q rfl (q_move _ _ rfl s4_105.ev ?_)
              refine l_q rfl (q_add ((((ordN (L.getD (okN L) [])) + 1 : Nat) : Int)) rfl (At.hit z105 rfl).ev rfl (i64_is (by omega) (by omega) (by omega)) ?_)
              refine l_q rfl (q_assign _ _ rfl (At.hit z105.put rfl).ev ?_)
              refine l_end ?_
              refine e_fresh z105.put.put.put ?_
              intro a106 z106 m106
              have s3_106 := m106 _ _ (((s3_105.ne rfl).ne rfl).ne rfl)
              clear m106
              exact absurd ⟨hb68, fun h => absurd h hb77⟩ (ordN_stop hon)
      · skip
        refine c_region ?_
        refine l_q rfl (q_move _ _ rfl s0_37.ev ?_)
        refine l_q rfl (q_move _ _ rfl (s3_37.ne rfl).ev ?_)
        refine l_q rfl (q_idxF (j := (okN L)) rfl Try.underlying44 sz22 ((At.hit z37 rfl).ne rfl).ev (hv.low low35).1 (At.hit z37.put rfl).ev (by omega) ?_)
        refine l_q rfl (q_ld1 (u := (vs.getD (okN L) nilS)) rfl Try.underlying22 rfl (At.hit z37.put.put rfl).ev (fun _ e => by rw [e]; exact (hv.low low35).1) (by omega) (RdFF.cell (hv.low low35) (by omega)) ?_)
        refine l_call (fun v w' => v = .bool false ∧ Low w35 w') rfl rfl rfl Try.func15 rfl (args1 rfl (At.hit z37.put.put.put rfl).ev) (((calls_bool (Few.calls _ (L.getD (okN L) []) _ (RdFF.row (k := (okN L)) (hv.low low35) (by omega))) (eq_false_of_ne_true hb38))).mono fun _ _ ⟨e, k⟩ => ⟨_, e, rfl, k⟩) ?_
        rintro _ w108 ⟨rfl, h108⟩
        have ov_108 := (hv.low low35).low h108
        have oy107_108 := (RdFF.row (k := (okN L)) (hv.low low35) (by omega)).low h108
        refine l_q rfl (q_not (b := false) rfl (At.hit z37.put.put.put.put rfl).ev ?_)
        refine l_end ?_
        refine e_fresh z37.put.put.put.put.put.put ?_
        intro a109 z109 m109
        have s0_109 := m109 _ _ ((((((s0_37.ne rfl).ne rfl).ne rfl).ne rfl).ne rfl).ne rfl)
        have s3_109 := m109 _ _ ((((((s3_37.ne rfl).ne rfl).ne rfl).ne rfl).ne rfl).ne rfl)
        have s16_109 := m109 _ _ (At.hit z37.put.put.put.put.put rfl)
        have low109 := (low35.trans h108)
        clear m109
        refine e_then ?_
        refine c_true s16_109 ?_
        refine c_seq ?_
        refine c_region ?_
        refine l_q rfl (q_assign _ _ rfl rfl ?_)
        refine l_end ?_
        refine e_fresh z109.put ?_
        intro a110 z110 m110
        have s2_110 := m110 _ _ (At.hit z109 rfl)
        clear m110
        refine e_then ?_
        refine wp_ret ?_
        refine ret_then ?_
        refine ret_in ?_
        refine ret_then ?_
        refine ret_then ?_
        refine ret_in ?_
        refine ret_then ?_
        refine r_tmp rfl z110.defers s2_110 ?_
        exact ⟨by unfold mayB; rw [decide_eq_false (by omega)]; rfl, low109⟩
    · skip
      refine c_region ?_
      refine l_q rfl (q_move _ _ rfl s3_35.ev ?_)
      refine l_q rfl (q_move _ _ rfl (s0_35.ne rfl).ev ?_)
      refine l_q rfl (q_lenF rfl rfl Try.underlying44 (At.hit z35.put rfl).ev (hv.low low35).1 ?_)
      refine l_q rfl (q_lss false rfl (((At.hit z35 rfl).ne rfl).ne rfl).ev (At.hit z35.put.put rfl).ev (decide_eq_false (by omega)) ?_)
      refine l_end ?_
      refine e_fresh z35.put.put.put.put ?_
      intro a111 z111 m111
      have s0_111 := m111 _ _ ((((s0_35.ne rfl).ne rfl).ne rfl).ne rfl)
      have s3_111 := m111 _ _ ((((s3_35.ne rfl).ne rfl).ne rfl).ne rfl)
      have s8_111 := m111 _ _ (At.hit z35.put.put.put rfl)
      clear m111
      refine e_then ?_
      refine c_false s8_111 ?_
      refine wp_exit ?_
      refine x_then ?_
      refine x_then ?_
      refine in_exit ?_
      refine e_then ?_
      refine c_seq ?_
      refine c_region ?_
      refine l_q rfl (q_assign _ _ rfl rfl ?_)
      refine l_end ?_
      refine e_fresh z111.put ?_
      intro a112 z112 m112
      have s2_112 := m112 _ _ (At.hit z111 rfl)
      clear m112
      refine e_then ?_
      refine wp_ret ?_
      refine r_tmp rfl z112.defers s2_112 ?_
      exact ⟨by unfold mayB; rw [decide_eq_true (by omega)]; rfl, low35⟩
theorem Awake.calls (w0 : World) : Calls Try.prog 5 #[] w0 fun e w' => e = .returned (.bool true) ∧ Low w0 w' := by
  refine c_fun (R := _) Try.func5 rfl 67 rfl (Nat.le_of_ble_eq_true rfl) ?_
  intro a z hA
  clear hA
  refine c_seq ?_
  refine c_region ?_
  refine l_q rfl (q_assign _ _ rfl rfl ?_)
  refine l_end ?_
  refine e_fresh z.put ?_
  intro a1 z1 m1
  clear m1
  refine e_then ?_
  refine c_seq ?_
  refine c_region ?_
  refine l_q rfl (q_build (cs := #[.string leafA.f0, .int .i64 leafA.f1, .string leafA.f2]) rfl rfl (by kernel_rfl) ?_)
  refine l_q rfl (q_build (cs := #[.string leafB.f0, .int .i64 leafB.f1, .string leafB.f2]) rfl rfl (by kernel_rfl) ?_)
  refine l_q rfl (q_build (cs := #[.string leafC.f0, .int .i64 leafC.f1, .string leafC.f2]) rfl rfl (by kernel_rfl) ?_)
  refine l_alloc rfl rfl zero37 ?_
  intro g1 w2 hg2 k2 h2
  have geg1 := Nat.le_trans (Low.refl _).ge hg2
  refine l_alloc rfl rfl zero37 ?_
  intro g2 w3 hg3 k3 h3
  have lt_g1_g2 := Nat.lt_of_lt_of_le (heap_lt k2) hg3
  have geg2 := Nat.le_trans h2.ge hg3
  have kg1_3 := h3.blk k2
  refine l_alloc rfl rfl zero37 ?_
  intro g3 w4 hg4 k4 h4
  have lt_g1_g3 := Nat.lt_of_lt_of_le (heap_lt kg1_3) hg4
  have lt_g2_g3 := Nat.lt_of_lt_of_le (heap_lt k3) hg4
  have geg3 := Nat.le_trans (h2.trans h3).ge hg4
  have kg1_4 := h4.blk kg1_3
  have kg2_4 := h4.blk k3
  refine l_row rfl rfl rfl (sz37.trans (congrArg some rfl.symm)) (((At.hit z1.put.put.put rfl).ne rfl).ne rfl).ev ((((((At.hit z1 rfl).ne rfl).ne rfl).ne rfl).ne rfl).ne rfl).ev (by simp [Value.oneCell']) kg1_4 (rfl.trans rfl.symm) ?_
  intro w5 k5 u5
  have kg2_5 := u5.blk kg2_4 (by omega)
  have kg3_5 := u5.blk k4 (by omega)
  refine l_row rfl rfl rfl (sz37.trans (congrArg some rfl.symm)) ((At.hit z1.put.put.put.put rfl).ne rfl).ev (((((At.hit z1.put rfl).ne rfl).ne rfl).ne rfl).ne rfl).ev (by simp [Value.oneCell']) kg2_5 (rfl.trans rfl.symm) ?_
  intro w6 k6 u6
  have kg1_6 := u6.blk k5 (by omega)
  have kg3_6 := u6.blk kg3_5 (by omega)
  refine l_row rfl rfl rfl (sz37.trans (congrArg some rfl.symm)) (At.hit z1.put.put.put.put.put rfl).ev ((((At.hit z1.put.put rfl).ne rfl).ne rfl).ne rfl).ev (by simp [Value.oneCell']) kg3_6 (rfl.trans rfl.symm) ?_
  intro w7 k7 u7
  have kg1_7 := u7.blk kg1_6 (by omega)
  have kg2_7 := u7.blk k6 (by omega)
  refine l_end ?_
  refine e_fresh z1.put.put.put.put.put.put ?_
  intro a8 z8 m8
  have s1_8 := m8 _ _ (((At.hit z1.put.put.put rfl).ne rfl).ne rfl)
  have s2_8 := m8 _ _ ((At.hit z1.put.put.put.put rfl).ne rfl)
  have s3_8 := m8 _ _ (At.hit z1.put.put.put.put.put rfl)
  have low8 := (((((h2.trans h3).trans h4).upd u5 geg1).upd u6 geg2).upd u7 geg3)
  clear m8
  refine e_then ?_
  refine c_seq ?_
  refine c_region ?_
  refine l_q rfl (q_row rfl Try.underlying37 rfl (sz37.trans (congrArg some rfl.symm)) s1_8.ev (fun _ e => by rw [e]; exact kg1_7) ?_)
  refine l_buildF (vs := [.string leafA.f0, .int .i64 leafA.f1, .string leafA.f2]) rfl rfl Try.underlying22 rec37 (At.hit z8 rfl).ev rfl rfl (by decide) (by decide) ?_
  intro g13_9 w9 hg9 k9 h9
  have lt_g1_g13_9 := Nat.lt_of_lt_of_le (heap_lt kg1_7) hg9
  have lt_g2_g13_9 := Nat.lt_of_lt_of_le (heap_lt kg2_7) hg9
  have lt_g3_g13_9 := Nat.lt_of_lt_of_le (heap_lt k7) hg9
  have geg13_9 := Nat.le_trans low8.ge hg9
  have kg1_9 := h9.blk kg1_7
  have kg2_9 := h9.blk kg2_7
  have kg3_9 := h9.blk k7
  have ol9 : RdF w9 3 (.slice (some ⟨g13_9, 0, none⟩) 1 1) ([leafA]).length ([leafA].map encL).flatten := rdF_rec k9 rfl
  refine l_q rfl (q_row rfl Try.underlying37 rfl (sz37.trans (congrArg some rfl.symm)) ((s1_8.ne rfl).ne rfl).ev (fun _ e => by rw [e]; exact kg1_9) ?_)
  refine l_q rfl (q_row rfl Try.underlying37 rfl (sz37.trans (congrArg some rfl.symm)) (((s2_8.ne rfl).ne rfl).ne rfl).ev (fun _ e => by rw [e]; exact kg2_9) ?_)
  refine l_two3 rfl rfl Try.underlying22 rec37 ((At.hit z8.put.put rfl).ne rfl).ev (At.hit z8.put.put.put rfl).ev ?_
  intro g16_10 w10 hg10 k10 h10
  have lt_g1_g16_10 := Nat.lt_of_lt_of_le (heap_lt kg1_9) hg10
  have lt_g2_g16_10 := Nat.lt_of_lt_of_le (heap_lt kg2_9) hg10
  have lt_g3_g16_10 := Nat.lt_of_lt_of_le (heap_lt kg3_9) hg10
  have lt_g13_9_g16_10 := Nat.lt_of_lt_of_le (heap_lt k9) hg10
  have geg16_10 := Nat.le_trans (low8.trans h9).ge hg10
  have kg1_10 := h10.blk kg1_9
  have kg2_10 := h10.blk kg2_9
  have kg3_10 := h10.blk kg3_9
  have kg13_9_10 := h10.blk k9
  have oL9_10 := ol9.low h10
  have ol10 : RdF w10 3 (.slice (some ⟨g16_10, 0, none⟩) 2 2) ([leafA, leafB]).length ([leafA, leafB].map encL).flatten := rdF_rec k10 rfl
  refine l_call _ rfl rfl rfl Try.func7 rfl (args3 rfl ((((At.hit z8.put rfl).ne rfl).ne rfl).ne rfl).ev (At.hit z8.put.put.put.put rfl).ev rfl) (Three.calls _ _ _ ([leafA]) ([leafA, leafB]) ([]) (by decide) (by decide) (by decide) shortAB shortN _ oL9_10 ol10 (OwnF.nil w10 0 0 _).rd) ?_
  rintro _ w11 ⟨p11, q11, rfl, o11, oo11, h11⟩
  replace o11 := o11.base ((low8.trans h9).trans h10).ge
  replace oo11 := oo11.base ((low8.trans h9).trans h10).ge
  have kg1_11 := h11.blk kg1_10
  have kg2_11 := h11.blk kg2_10
  have kg3_11 := h11.blk kg3_10
  have kg13_9_11 := h11.blk kg13_9_10
  have kg16_10_11 := h11.blk k10
  have oL9_11 := oL9_10.low h11
  have oL10_11 := ol10.low h11
  replace o11 := OwnF.castL o11 (show outF [leafA] [leafA, leafB] [] = [leafB] from aw1)
  replace oo11 := OwnF.castL oo11 (show badA [leafA] [leafA, leafB] [] = ([] : List ByteArray) from aw2)
  refine l_q rfl (q_move _ _ rfl (At.hit z8.put.put.put.put.put rfl).ev ?_)
  refine l_q rfl (q_extract rfl (At.hit z8.put.put.put.put.put.put rfl).ev rfl ?_)
  refine l_fresh z8.put.put.put.put.put.put.put.put ?_
  intro a12 z12 m12
  have s1_12 := m12 _ _ ((((((((s1_8.ne rfl).ne rfl).ne rfl).ne rfl).ne rfl).ne rfl).ne rfl).ne rfl)
  have s2_12 := m12 _ _ ((((((((s2_8.ne rfl).ne rfl).ne rfl).ne rfl).ne rfl).ne rfl).ne rfl).ne rfl)
  have s3_12 := m12 _ _ ((((((((s3_8.ne rfl).ne rfl).ne rfl).ne rfl).ne rfl).ne rfl).ne rfl).ne rfl)
  have s11_12 := m12 _ _ ((At.hit z8.put.put.put.put.put.put rfl).ne rfl)
  have s18_12 := m12 _ _ (At.hit z8.put.put.put.put.put.put.put rfl)
  clear m12
  refine l_q rfl (q_extract rfl s11_12.ev rfl ?_)
  refine l_q rfl (q_assign _ _ rfl (s18_12.ne rfl).ev ?_)
  refine l_q rfl (q_assign _ _ rfl ((At.hit z12 rfl).ne rfl).ev ?_)
  refine l_end ?_
  refine e_fresh z12.put.put.put ?_
  intro a13 z13 m13
  have s1_13 := m13 _ _ (((s1_12.ne rfl).ne rfl).ne rfl)
  have s2_13 := m13 _ _ (((s2_12.ne rfl).ne rfl).ne rfl)
  have s3_13 := m13 _ _ (((s3_12.ne rfl).ne rfl).ne rfl)
  have s4_13 := m13 _ _ ((At.hit z12.put rfl).ne rfl)
  have s5_13 := m13 _ _ (At.hit z12.put.put rfl)
  have low13 := (((low8.trans h9).trans h10).trans h11)
  clear m13
  refine e_then ?_
  refine c_seq ?_
  refine c_region ?_
  refine l_q rfl (q_row rfl Try.underlying37 rfl (sz37.trans (congrArg some rfl.symm)) s1_13.ev (fun _ e => by rw [e]; exact kg1_11) ?_)
  refine l_buildF (vs := [.string leafA.f0, .int .i64 leafA.f1, .string leafA.f2]) rfl rfl Try.underlying22 rec37 (At.hit z13 rfl).ev rfl rfl (by decide) (by decide) ?_
  intro g22_14 w14 hg14 k14 h14
  have onb11_g22_14 : ∀ k, Value.ownBlock p11 = some k → k < g22_14 := fun k hk => Nat.lt_of_lt_of_le (OwnF.own_lt o11 hk) hg14
  have lt_g1_g22_14 := Nat.lt_of_lt_of_le (heap_lt kg1_11) hg14
  have lt_g2_g22_14 := Nat.lt_of_lt_of_le (heap_lt kg2_11) hg14
  have lt_g3_g22_14 := Nat.lt_of_lt_of_le (heap_lt kg3_11) hg14
  have geg22_14 := Nat.le_trans low13.ge hg14
  have kg1_14 := h14.blk kg1_11
  have kg2_14 := h14.blk kg2_11
  have kg3_14 := h14.blk kg3_11
  have ob11_14 := o11.low h14
  have oc11_14 := oo11.low h14
  have ol14 : RdF w14 3 (.slice (some ⟨g22_14, 0, none⟩) 1 1) ([leafA]).length ([leafA].map encL).flatten := rdF_rec k14 rfl
  refine l_q rfl (q_row rfl Try.underlying37 rfl (sz37.trans (congrArg some rfl.symm)) ((s3_13.ne rfl).ne rfl).ev (fun _ e => by rw [e]; exact kg3_14) ?_)
  refine l_buildF (vs := [.string leafC.f0, .int .i64 leafC.f1, .string leafC.f2]) rfl rfl Try.underlying22 rec37 (At.hit z13.put.put rfl).ev rfl rfl (by decide) (by decide) ?_
  intro g24_15 w15 hg15 k15 h15
  have onb11_g24_15 : ∀ k, Value.ownBlock p11 = some k → k < g24_15 := fun k hk => Nat.lt_of_lt_of_le (OwnF.own_lt ob11_14 hk) hg15
  have lt_g1_g24_15 := Nat.lt_of_lt_of_le (heap_lt kg1_14) hg15
  have lt_g2_g24_15 := Nat.lt_of_lt_of_le (heap_lt kg2_14) hg15
  have lt_g3_g24_15 := Nat.lt_of_lt_of_le (heap_lt kg3_14) hg15
  have lt_g22_14_g24_15 := Nat.lt_of_lt_of_le (heap_lt k14) hg15
  have geg24_15 := Nat.le_trans (low13.trans h14).ge hg15
  have kg1_15 := h15.blk kg1_14
  have kg2_15 := h15.blk kg2_14
  have kg3_15 := h15.blk kg3_14
  have kg22_14_15 := h15.blk k14
  have ob11_15 := ob11_14.low h15
  have oc11_15 := oc11_14.low h15
  have oL14_15 := ol14.low h15
  have ol15 : RdF w15 3 (.slice (some ⟨g24_15, 0, none⟩) 1 1) ([leafC]).length ([leafC].map encL).flatten := rdF_rec k15 rfl
  refine l_call _ rfl rfl rfl Try.func7 rfl (args3 rfl (((At.hit z13.put rfl).ne rfl).ne rfl).ev rfl (At.hit z13.put.put.put rfl).ev) (Three.calls _ _ _ ([leafA]) ([]) ([leafC]) (by decide) (by decide) (by decide) shortN shortC _ oL14_15 (OwnF.nil w15 0 0 _).rd ol15) ?_
  rintro _ w16 ⟨p16, q16, rfl, o16, oo16, h16⟩
  replace o16 := o16.base ((low13.trans h14).trans h15).ge
  replace oo16 := oo16.base ((low13.trans h14).trans h15).ge
  have kg1_16 := h16.blk kg1_15
  have kg2_16 := h16.blk kg2_15
  have kg3_16 := h16.blk kg3_15
  have kg22_14_16 := h16.blk kg22_14_15
  have kg24_15_16 := h16.blk k15
  have ob11_16 := ob11_15.low h16
  have oc11_16 := oc11_15.low h16
  have oL14_16 := oL14_15.low h16
  have oL15_16 := ol15.low h16
  replace oo16 := OwnF.castL oo16 (show badA [leafA] [] [leafC] = ([⟨#[97]⟩] : List ByteArray) from aw3)
  refine l_q rfl (q_move _ _ rfl (At.hit z13.put.put.put.put rfl).ev ?_)
  refine l_q rfl (q_extract rfl (At.hit z13.put.put.put.put.put rfl).ev rfl ?_)
  refine l_q rfl (q_extract rfl ((At.hit z13.put.put.put.put.put rfl).ne rfl).ev rfl ?_)
  refine l_fresh z13.put.put.put.put.put.put.put.put ?_
  intro a17 z17 m17
  have s1_17 := m17 _ _ ((((((((s1_13.ne rfl).ne rfl).ne rfl).ne rfl).ne rfl).ne rfl).ne rfl).ne rfl)
  have s2_17 := m17 _ _ ((((((((s2_13.ne rfl).ne rfl).ne rfl).ne rfl).ne rfl).ne rfl).ne rfl).ne rfl)
  have s3_17 := m17 _ _ ((((((((s3_13.ne rfl).ne rfl).ne rfl).ne rfl).ne rfl).ne rfl).ne rfl).ne rfl)
  have s4_17 := m17 _ _ ((((((((s4_13.ne rfl).ne rfl).ne rfl).ne rfl).ne rfl).ne rfl).ne rfl).ne rfl)
  have s5_17 := m17 _ _ ((((((((s5_13.ne rfl).ne rfl).ne rfl).ne rfl).ne rfl).ne rfl).ne rfl).ne rfl)
  have s26_17 := m17 _ _ ((At.hit z13.put.put.put.put.put.put rfl).ne rfl)
  have s27_17 := m17 _ _ (At.hit z13.put.put.put.put.put.put.put rfl)
  clear m17
  refine l_q rfl (q_assign _ _ rfl s26_17.ev ?_)
  refine l_q rfl (q_assign _ _ rfl (s27_17.ne rfl).ev ?_)
  refine l_end ?_
  refine e_fresh z17.put.put ?_
  intro a18 z18 m18
  have s1_18 := m18 _ _ ((s1_17.ne rfl).ne rfl)
  have s2_18 := m18 _ _ ((s2_17.ne rfl).ne rfl)
  have s3_18 := m18 _ _ ((s3_17.ne rfl).ne rfl)
  have s4_18 := m18 _ _ ((s4_17.ne rfl).ne rfl)
  have s5_18 := m18 _ _ ((s5_17.ne rfl).ne rfl)
  have s7_18 := m18 _ _ (At.hit z17.put rfl)
  have low18 := (((low13.trans h14).trans h15).trans h16)
  clear m18
  refine e_then ?_
  refine c_seq ?_
  refine region_someg (TL [Is (p11), Is (.int .i64 (((([leafB]).length) : Nat) : Int)), Is (.bool true), Is (.bool true), Is (p11), Is (pAt p11 (0 * 3)), Is (.agg (#[.string ((([leafB]).getD 0 zL).f0), .int .i64 ((([leafB]).getD 0 zL).f1), .string ((([leafB]).getD 0 zL).f2)])), Is (.agg (#[.string leafB.f0, .int .i64 leafB.f1, .string leafB.f2])), Is (.bool true), Is (.bool true), Is (.bool true), Is (q11), Is (.int .i64 (((([] : List ByteArray).length) : Nat) : Int)), Is (.bool true), Is (.bool true), Is (.bool true), Is (q16), Is (.int .i64 (((([⟨#[97]⟩] : List ByteArray).length) : Nat) : Int)), Is (.bool true), Is (.bool true), Is (.bool true), Is (q16), Is (pAt q16 (0 * 1)), Is (.string (([⟨#[97]⟩] : List ByteArray).getD 0 ByteArray.empty)), Is (.bool true), Is (.bool true), Is (.bool true), Is (.agg (#[.string leafA.f0, .int .i64 leafA.f1, .string leafA.f2])), RowT [leafA], Is (.bool true), Is (.bool true), Is (.bool true), Is (.agg (#[.string leafC.f0, .int .i64 leafC.f1, .string leafC.f2])), RowT [leafC], Is (.agg (#[.string leafA.f0, .int .i64 leafA.f1, .string leafA.f2])), RowT [leafA], Is (.bool false), Is (.bool true), Is (.bool true), Is (.bool true)]) Low hm (by kernel_rfl) z18 (low_drawn _) (fun _ _ _ h k => Low.trans h k) (TL_cons ?_ (TL_cons ?_ (TL_cons ?_ (TL_cons ?_ (TL_cons ?_ (TL_cons ?_ (TL_cons ?_ (TL_cons ?_ (TL_cons ?_ (TL_cons ?_ (TL_cons ?_ (TL_cons ?_ (TL_cons ?_ (TL_cons ?_ (TL_cons ?_ (TL_cons ?_ (TL_cons ?_ (TL_cons ?_ (TL_cons ?_ (TL_cons ?_ (TL_cons ?_ (TL_cons ?_ (TL_cons ?_ (TL_cons ?_ (TL_cons ?_ (TL_cons ?_ (TL_cons ?_ (TL_cons ?_ (TL_cons ?_ (TL_cons ?_ (TL_cons ?_ (TL_cons ?_ (TL_cons ?_ (TL_cons ?_ (TL_cons ?_ (TL_cons ?_ (TL_cons ?_ (TL_cons ?_ (TL_cons ?_ (TL_cons ?_ TL_nil)))))))))))))))))))))))))))))))))))))))) (allS_cons ?_ (allS_cons ?_ (allS_cons ?_ (allS_cons ?_ (allS_cons ?_ (allS_cons ?_ (allS_cons ?_ (allS_cons ?_ (allS_cons ?_ (allS_cons ?_ (allS_cons ?_ (allS_cons ?_ (allS_cons ?_ (allS_cons ?_ (allS_cons ?_ (allS_cons ?_ (allS_cons ?_ (allS_cons ?_ (allS_cons ?_ (allS_cons ?_ (allS_cons ?_ (allS_cons ?_ (allS_cons ?_ (allS_cons ?_ (allS_cons ?_ (allS_cons ?_ (allS_cons ?_ (allS_cons ?_ (allS_cons ?_ (allS_cons ?_ (allS_cons ?_ (allS_cons ?_ (allS_cons ?_ (allS_cons ?_ (allS_cons ?_ (allS_cons ?_ (allS_cons ?_ (allS_cons ?_ (allS_cons ?_ (allS_cons ?_ allS_nil)))))))))))))))))))))))))))))))))))))))) (allG_none rfl (allG_none rfl (allG_none rfl (allG_none rfl (allG_some 3 true 31 rfl rfl rfl (fun _ _ h => h) (allG_some 3 true 31 rfl rfl rfl (fun _ _ h => h) (allG_some 3 true 31 rfl rfl rfl (fun _ _ h => h) (allG_some 3 true 31 rfl rfl rfl (fun _ _ h => h) (allG_some 3 true 31 rfl rfl rfl (fun _ _ h => h) (allG_none rfl (allG_none rfl (allG_some 10 true 38 rfl rfl rfl (fun _ _ h => h) (allG_some 10 true 38 rfl rfl rfl (fun _ _ h => h) (allG_some 10 true 38 rfl rfl rfl (fun _ _ h => h) (allG_none rfl (allG_none rfl (allG_some 15 true 43 rfl rfl rfl (fun _ _ h => h) (allG_some 15 true 43 rfl rfl rfl (fun _ _ h => h) (allG_some 15 true 43 rfl rfl rfl (fun _ _ h => h) (allG_none rfl (allG_none rfl (allG_some 20 true 48 rfl rfl rfl (fun _ _ h => h) (allG_some 20 true 48 rfl rfl rfl (fun _ _ h => h) (allG_some 20 true 48 rfl rfl rfl (fun _ _ h => h) (allG_some 20 true 48 rfl rfl rfl (fun _ _ h => h) (allG_none rfl (allG_none rfl (allG_some 26 true 54 rfl rfl rfl (fun _ _ h => h) (allG_some 26 true 54 rfl rfl rfl (fun _ _ h => h) (allG_some 26 true 54 rfl rfl rfl (fun _ _ h => h) (allG_none rfl (allG_none rfl (allG_some 31 true 59 rfl rfl rfl (fun _ _ h => h) (allG_some 31 true 59 rfl rfl rfl (fun _ _ h => h) (allG_some 31 true 59 rfl rfl rfl (fun _ _ h => h) (allG_some 31 true 59 rfl rfl rfl (fun _ _ h => h) (allG_some 31 true 59 rfl rfl rfl (fun _ _ h => h) (allG_some 31 true 59 rfl rfl rfl (fun _ _ h => h) (allG_none rfl (allG_none rfl allG_nil)))))))))))))))))))))))))))))))))))))))) ?_
  · exact StL_is _
  · exact StL_is _
  · exact StL_is _
  · exact StL_is _
  · exact StL_is _
  · exact StL_is _
  · exact StL_is _
  · exact StL_is _
  · exact StL_is _
  · exact StL_is _
  · exact StL_is _
  · exact StL_is _
  · exact StL_is _
  · exact StL_is _
  · exact StL_is _
  · exact StL_is _
  · exact StL_is _
  · exact StL_is _
  · exact StL_is _
  · exact StL_is _
  · exact StL_is _
  · exact StL_is _
  · exact StL_is _
  · exact StL_is _
  · exact StL_is _
  · exact StL_is _
  · exact StL_is _
  · exact StL_is _
  · exact StL_row _
  · exact StL_is _
  · exact StL_is _
  · exact StL_is _
  · exact StL_is _
  · exact StL_row _
  · exact StL_is _
  · exact StL_row _
  · exact StL_is _
  · exact StL_is _
  · exact StL_is _
  · exact StL_is _
  · exact (stepS_val (p11) _ rfl rfl rfl Low.refl (fun _ => rfl) fun a w z lw kp kn => q_move _ _ rfl (kp _ _ rfl s4_18).ev rfl)
  · exact (stepS_val (.int .i64 (((([leafB]).length) : Nat) : Int)) _ rfl rfl rfl Low.refl (fun _ => rfl) fun a w z lw kp kn => q_lenF rfl rfl Try.underlying22 (at_is (u := p11) (w := w) (kn 0 _ rfl rfl)).ev (ob11_16.low lw).rd rfl)
  · exact (stepS_val (.bool true) _ rfl rfl rfl Low.refl (fun _ => rfl) fun a w z lw kp kn => q_eql true rfl (at_is (u := .int .i64 (((([leafB]).length) : Nat) : Int)) (w := w) (kn 1 _ rfl rfl)).ev rfl (decide_eq_true rfl) rfl)
  · exact (stepS_val (.bool true) _ rfl rfl rfl Low.refl (fun _ => rfl) fun a w z lw kp kn => q_move _ _ rfl (at_is (u := .bool true) (w := w) (kn 2 _ rfl rfl)).ev rfl)
  · exact (stepS_val (p11) _ rfl rfl rfl Low.refl (fun _ => rfl) fun a w z lw kp kn => q_move _ _ rfl (kp _ _ rfl s4_18).ev rfl)
  · exact (stepS_val (pAt p11 (0 * 3)) _ rfl rfl rfl Low.refl (fun _ => rfl) fun a w z lw kp kn => q_idxF (j := 0) rfl Try.underlying22 sz37 (at_is (u := p11) (w := w) (kn 4 _ rfl rfl)).ev (ob11_16.low lw).rd rfl (by decide) rfl)
  · exact (stepS_val (.agg (#[.string ((([leafB]).getD 0 zL).f0), .int .i64 ((([leafB]).getD 0 zL).f1), .string ((([leafB]).getD 0 zL).f2)])) _ rfl rfl rfl Low.refl (fun _ => rfl) fun a w z lw kp kn => q_ldR (vs := [.string ((([leafB]).getD 0 zL).f0), .int .i64 ((([leafB]).getD 0 zL).f1), .string ((([leafB]).getD 0 zL).f2)]) rfl Try.underlying37 rfl sz37 (at_is (u := pAt p11 (0 * 3)) (w := w) (kn 5 _ rfl rfl)).ev (fun _ e => by rw [e]; exact (ob11_16.low lw).rd) (by decide) rfl (flat_part encL_len zL _ 0 (by decide)) rfl)
  · exact (stepS_val (.agg (#[.string leafB.f0, .int .i64 leafB.f1, .string leafB.f2])) _ rfl rfl rfl Low.refl (fun _ => rfl) fun a w z lw kp kn => q_row rfl Try.underlying37 rfl (sz37.trans (congrArg some rfl.symm)) (kp _ _ rfl s2_18).ev (fun _ e => by rw [e]; exact (lw.blk kg2_16)) rfl)
  · exact (stepS_val (.bool true) _ rfl rfl rfl Low.refl (fun _ => rfl) fun a w z lw kp kn => q_eq3 true rfl guard37 (at_is (u := .agg (#[.string ((([leafB]).getD 0 zL).f0), .int .i64 ((([leafB]).getD 0 zL).f1), .string ((([leafB]).getD 0 zL).f2)])) (w := w) (kn 6 _ rfl rfl)).ev (at_is (u := .agg (#[.string leafB.f0, .int .i64 leafB.f1, .string leafB.f2])) (w := w) (kn 7 _ rfl rfl)).ev (eq37 9998 ((([leafB]).getD 0 zL).f0) ((([leafB]).getD 0 zL).f1) ((([leafB]).getD 0 zL).f2) leafB.f0 leafB.f1 leafB.f2) (eqL_true rfl) rfl)
  · exact (stepS_val (.bool true) _ rfl rfl rfl Low.refl (fun _ => rfl) fun a w z lw kp kn => q_pick (b := true) (.bool true) rfl (at_is (u := .bool true) (w := w) (kn 3 _ rfl rfl)).ev (at_is (u := .bool true) (w := w) (kn 8 _ rfl rfl)).ev rfl)
  · exact (stepS_val (.bool true) _ rfl rfl rfl Low.refl (fun _ => rfl) fun a w z lw kp kn => q_move _ _ rfl (at_is (u := .bool true) (w := w) (kn 9 _ rfl rfl)).ev rfl)
  · exact (stepS_val (q11) _ rfl rfl rfl Low.refl (fun _ => rfl) fun a w z lw kp kn => q_move _ _ rfl (kp _ _ rfl s5_18).ev rfl)
  · exact (stepS_val (.int .i64 (((([] : List ByteArray).length) : Nat) : Int)) _ rfl rfl rfl Low.refl (fun _ => rfl) fun a w z lw kp kn => q_lenF rfl rfl Try.underlying25 (at_is (u := q11) (w := w) (kn 11 _ rfl rfl)).ev (oc11_16.low lw).rd rfl)
  · exact (stepS_val (.bool true) _ rfl rfl rfl Low.refl (fun _ => rfl) fun a w z lw kp kn => q_eql true rfl (at_is (u := .int .i64 (((([] : List ByteArray).length) : Nat) : Int)) (w := w) (kn 12 _ rfl rfl)).ev rfl (decide_eq_true rfl) rfl)
  · exact (stepS_val (.bool true) _ rfl rfl rfl Low.refl (fun _ => rfl) fun a w z lw kp kn => q_pick (b := true) (.bool true) rfl (at_is (u := .bool true) (w := w) (kn 10 _ rfl rfl)).ev (at_is (u := .bool true) (w := w) (kn 13 _ rfl rfl)).ev rfl)
  · exact (stepS_val (.bool true) _ rfl rfl rfl Low.refl (fun _ => rfl) fun a w z lw kp kn => q_move _ _ rfl (at_is (u := .bool true) (w := w) (kn 14 _ rfl rfl)).ev rfl)
  · exact (stepS_val (q16) _ rfl rfl rfl Low.refl (fun _ => rfl) fun a w z lw kp kn => q_move _ _ rfl (kp _ _ rfl s7_18).ev rfl)
  · exact (stepS_val (.int .i64 (((([⟨#[97]⟩] : List ByteArray).length) : Nat) : Int)) _ rfl rfl rfl Low.refl (fun _ => rfl) fun a w z lw kp kn => q_lenF rfl rfl Try.underlying25 (at_is (u := q16) (w := w) (kn 16 _ rfl rfl)).ev (oo16.low lw).rd rfl)
  · exact (stepS_val (.bool true) _ rfl rfl rfl Low.refl (fun _ => rfl) fun a w z lw kp kn => q_eql true rfl (at_is (u := .int .i64 (((([⟨#[97]⟩] : List ByteArray).length) : Nat) : Int)) (w := w) (kn 17 _ rfl rfl)).ev rfl (decide_eq_true rfl) rfl)
  · exact (stepS_val (.bool true) _ rfl rfl rfl Low.refl (fun _ => rfl) fun a w z lw kp kn => q_pick (b := true) (.bool true) rfl (at_is (u := .bool true) (w := w) (kn 15 _ rfl rfl)).ev (at_is (u := .bool true) (w := w) (kn 18 _ rfl rfl)).ev rfl)
  · exact (stepS_val (.bool true) _ rfl rfl rfl Low.refl (fun _ => rfl) fun a w z lw kp kn => q_move _ _ rfl (at_is (u := .bool true) (w := w) (kn 19 _ rfl rfl)).ev rfl)
  · exact (stepS_val (q16) _ rfl rfl rfl Low.refl (fun _ => rfl) fun a w z lw kp kn => q_move _ _ rfl (kp _ _ rfl s7_18).ev rfl)
  · exact (stepS_val (pAt q16 (0 * 1)) _ rfl rfl rfl Low.refl (fun _ => rfl) fun a w z lw kp kn => q_idxF (j := 0) rfl Try.underlying25 sz9 (at_is (u := q16) (w := w) (kn 21 _ rfl rfl)).ev (oo16.low lw).rd rfl (by decide) rfl)
  · exact (stepS_val (.string (([⟨#[97]⟩] : List ByteArray).getD 0 ByteArray.empty)) _ rfl rfl rfl Low.refl (fun _ => rfl) fun a w z lw kp kn => q_ld1 (u := .string (([⟨#[97]⟩] : List ByteArray).getD 0 ByteArray.empty)) rfl Try.underlying9 rfl (at_is (u := pAt q16 (0 * 1)) (w := w) (kn 22 _ rfl rfl)).ev (fun _ e => by rw [e]; exact (oo16.low lw).rd) (by decide) ((flat_at encS_len ByteArray.empty _ 0 0 (by decide) (by decide)).trans rfl) rfl)
  · exact (stepS_val (.bool true) _ rfl rfl rfl Low.refl (fun _ => rfl) fun a w z lw kp kn => q_streq true rfl (at_is (u := .string (([⟨#[97]⟩] : List ByteArray).getD 0 ByteArray.empty)) (w := w) (kn 23 _ rfl rfl)).ev rfl (strT rfl) rfl)
  · exact (stepS_val (.bool true) _ rfl rfl rfl Low.refl (fun _ => rfl) fun a w z lw kp kn => q_pick (b := true) (.bool true) rfl (at_is (u := .bool true) (w := w) (kn 20 _ rfl rfl)).ev (at_is (u := .bool true) (w := w) (kn 24 _ rfl rfl)).ev rfl)
  · exact (stepS_val (.bool true) _ rfl rfl rfl Low.refl (fun _ => rfl) fun a w z lw kp kn => q_move _ _ rfl (at_is (u := .bool true) (w := w) (kn 25 _ rfl rfl)).ev rfl)
  · exact (stepS_val (.agg (#[.string leafA.f0, .int .i64 leafA.f1, .string leafA.f2])) _ rfl rfl rfl Low.refl (fun _ => rfl) fun a w z lw kp kn => q_row rfl Try.underlying37 rfl (sz37.trans (congrArg some rfl.symm)) (kp _ _ rfl s1_18).ev (fun _ e => by rw [e]; exact (lw.blk kg1_16)) rfl)
  · exact (stepS _ rfl rfl fun a w z lw kp kn => l_buildF (vs := [.string leafA.f0, .int .i64 leafA.f1, .string leafA.f2]) rfl rfl Try.underlying22 rec37 (at_is (u := .agg #[.string leafA.f0, .int .i64 leafA.f1, .string leafA.f2]) (w := w) (kn 27 _ rfl rfl)).ev rfl rfl (by decide) (by decide) (fun g w' hg k h => l_end ⟨_, rfl, h, (rdF_rec k rfl : RdF w' 3 _ 1 _)⟩))
  · exact (stepS _ rfl rfl fun a w z lw kp kn => Exists.elim (kn 28 _ rfl rfl) fun u hu => l_call (fun v w' => v = .bool true ∧ Low w w') rfl rfl rfl Try.func12 rfl (args3 rfl rfl rfl hu.1.ev) ((calls_bool (Clean.calls _ _ u [] [] [leafA] (by decide) (by decide) (by decide) shortN shortA _ (OwnF.nil _ 0 0 _).rd (OwnF.nil _ 0 0 _).rd hu.2) aw4).mono fun _ _ ⟨e, k⟩ => ⟨_, e, rfl, k⟩) fun _ _ hv => l_end ⟨_, rfl, hv.2, hv.1⟩)
  · exact (stepS_val (.bool true) _ rfl rfl rfl Low.refl (fun _ => rfl) fun a w z lw kp kn => q_pick (b := true) (.bool true) rfl (at_is (u := .bool true) (w := w) (kn 26 _ rfl rfl)).ev (at_is (u := .bool true) (w := w) (kn 29 _ rfl rfl)).ev rfl)
  · exact (stepS_val (.bool true) _ rfl rfl rfl Low.refl (fun _ => rfl) fun a w z lw kp kn => q_move _ _ rfl (at_is (u := .bool true) (w := w) (kn 30 _ rfl rfl)).ev rfl)
  · exact (stepS_val (.agg (#[.string leafC.f0, .int .i64 leafC.f1, .string leafC.f2])) _ rfl rfl rfl Low.refl (fun _ => rfl) fun a w z lw kp kn => q_row rfl Try.underlying37 rfl (sz37.trans (congrArg some rfl.symm)) (kp _ _ rfl s3_18).ev (fun _ e => by rw [e]; exact (lw.blk kg3_16)) rfl)
  · exact (stepS _ rfl rfl fun a w z lw kp kn => l_buildF (vs := [.string leafC.f0, .int .i64 leafC.f1, .string leafC.f2]) rfl rfl Try.underlying22 rec37 (at_is (u := .agg #[.string leafC.f0, .int .i64 leafC.f1, .string leafC.f2]) (w := w) (kn 32 _ rfl rfl)).ev rfl rfl (by decide) (by decide) (fun g w' hg k h => l_end ⟨_, rfl, h, (rdF_rec k rfl : RdF w' 3 _ 1 _)⟩))
  · exact (stepS_val (.agg (#[.string leafA.f0, .int .i64 leafA.f1, .string leafA.f2])) _ rfl rfl rfl Low.refl (fun _ => rfl) fun a w z lw kp kn => q_row rfl Try.underlying37 rfl (sz37.trans (congrArg some rfl.symm)) (kp _ _ rfl s1_18).ev (fun _ e => by rw [e]; exact (lw.blk kg1_16)) rfl)
  · exact (stepS _ rfl rfl fun a w z lw kp kn => l_buildF (vs := [.string leafA.f0, .int .i64 leafA.f1, .string leafA.f2]) rfl rfl Try.underlying22 rec37 (at_is (u := .agg #[.string leafA.f0, .int .i64 leafA.f1, .string leafA.f2]) (w := w) (kn 34 _ rfl rfl)).ev rfl rfl (by decide) (by decide) (fun g w' hg k h => l_end ⟨_, rfl, h, (rdF_rec k rfl : RdF w' 3 _ 1 _)⟩))
  · exact (stepS _ rfl rfl fun a w z lw kp kn => Exists.elim (kn 33 _ rfl rfl) fun u hu => Exists.elim (kn 35 _ rfl rfl) fun v hv => l_call (fun v w' => v = .bool false ∧ Low w w') rfl rfl rfl Try.func12 rfl (args3 rfl rfl hu.1.ev hv.1.ev) ((calls_bool (Clean.calls _ u v [] [leafC] [leafA] (by decide) (by decide) (by decide) shortC shortA _ (OwnF.nil _ 0 0 _).rd hu.2 hv.2) aw5).mono fun _ _ ⟨e, k⟩ => ⟨_, e, rfl, k⟩) fun _ _ hx => l_end ⟨_, rfl, hx.2, hx.1⟩)
  · exact (stepS_val (.bool true) _ rfl rfl rfl Low.refl (fun _ => rfl) fun a w z lw kp kn => q_not (b := false) rfl (at_is (u := .bool false) (w := w) (kn 36 _ rfl rfl)).ev rfl)
  · exact (stepS_val (.bool true) _ rfl rfl rfl Low.refl (fun _ => rfl) fun a w z lw kp kn => q_pick (b := true) (.bool true) rfl (at_is (u := .bool true) (w := w) (kn 31 _ rfl rfl)).ev (at_is (u := .bool true) (w := w) (kn 37 _ rfl rfl)).ev rfl)
  · exact (stepS_val (.bool true) _ rfl rfl rfl Low.refl (fun _ => rfl) fun a w z lw kp kn => q_assign _ _ rfl (at_is (u := .bool true) (w := w) (kn 38 _ rfl rfl)).ev rfl)
  intro a19 w19 z19 h19 kp kn
  have s1_19 := kp _ _ rfl s1_18
  have s2_19 := kp _ _ rfl s2_18
  have s3_19 := kp _ _ rfl s3_18
  have s4_19 := kp _ _ rfl s4_18
  have s5_19 := kp _ _ rfl s5_18
  have s7_19 := kp _ _ rfl s7_18
  have s28_19 := at_is (u := p11) (w := w19) (kn 0 _ rfl)
  have s29_19 := at_is (u := .int .i64 (((([leafB]).length) : Nat) : Int)) (w := w19) (kn 1 _ rfl)
  have s30_19 := at_is (u := .bool true) (w := w19) (kn 2 _ rfl)
  have s31_19 := at_is (u := .bool true) (w := w19) (kn 3 _ rfl)
  have s32_19 := at_is (u := p11) (w := w19) (kn 4 _ rfl)
  have s33_19 := at_is (u := pAt p11 (0 * 3)) (w := w19) (kn 5 _ rfl)
  have s34_19 := at_is (u := .agg (#[.string ((([leafB]).getD 0 zL).f0), .int .i64 ((([leafB]).getD 0 zL).f1), .string ((([leafB]).getD 0 zL).f2)])) (w := w19) (kn 6 _ rfl)
  have s35_19 := at_is (u := .agg (#[.string leafB.f0, .int .i64 leafB.f1, .string leafB.f2])) (w := w19) (kn 7 _ rfl)
  have s36_19 := at_is (u := .bool true) (w := w19) (kn 8 _ rfl)
  have s37_19 := at_is (u := .bool true) (w := w19) (kn 9 _ rfl)
  have s38_19 := at_is (u := .bool true) (w := w19) (kn 10 _ rfl)
  have s39_19 := at_is (u := q11) (w := w19) (kn 11 _ rfl)
  have s40_19 := at_is (u := .int .i64 (((([] : List ByteArray).length) : Nat) : Int)) (w := w19) (kn 12 _ rfl)
  have s41_19 := at_is (u := .bool true) (w := w19) (kn 13 _ rfl)
  have s42_19 := at_is (u := .bool true) (w := w19) (kn 14 _ rfl)
  have s43_19 := at_is (u := .bool true) (w := w19) (kn 15 _ rfl)
  have s44_19 := at_is (u := q16) (w := w19) (kn 16 _ rfl)
  have s45_19 := at_is (u := .int .i64 (((([⟨#[97]⟩] : List ByteArray).length) : Nat) : Int)) (w := w19) (kn 17 _ rfl)
  have s46_19 := at_is (u := .bool true) (w := w19) (kn 18 _ rfl)
  have s47_19 := at_is (u := .bool true) (w := w19) (kn 19 _ rfl)
  have s48_19 := at_is (u := .bool true) (w := w19) (kn 20 _ rfl)
  have s49_19 := at_is (u := q16) (w := w19) (kn 21 _ rfl)
  have s50_19 := at_is (u := pAt q16 (0 * 1)) (w := w19) (kn 22 _ rfl)
  have s51_19 := at_is (u := .string (([⟨#[97]⟩] : List ByteArray).getD 0 ByteArray.empty)) (w := w19) (kn 23 _ rfl)
  have s52_19 := at_is (u := .bool true) (w := w19) (kn 24 _ rfl)
  have s53_19 := at_is (u := .bool true) (w := w19) (kn 25 _ rfl)
  have s54_19 := at_is (u := .bool true) (w := w19) (kn 26 _ rfl)
  have s55_19 := at_is (u := .agg (#[.string leafA.f0, .int .i64 leafA.f1, .string leafA.f2])) (w := w19) (kn 27 _ rfl)
  have s57_19 := at_is (u := .bool true) (w := w19) (kn 29 _ rfl)
  have s58_19 := at_is (u := .bool true) (w := w19) (kn 30 _ rfl)
  have s59_19 := at_is (u := .bool true) (w := w19) (kn 31 _ rfl)
  have s60_19 := at_is (u := .agg (#[.string leafC.f0, .int .i64 leafC.f1, .string leafC.f2])) (w := w19) (kn 32 _ rfl)
  have s62_19 := at_is (u := .agg (#[.string leafA.f0, .int .i64 leafA.f1, .string leafA.f2])) (w := w19) (kn 34 _ rfl)
  have s64_19 := at_is (u := .bool false) (w := w19) (kn 36 _ rfl)
  have s65_19 := at_is (u := .bool true) (w := w19) (kn 37 _ rfl)
  have s66_19 := at_is (u := .bool true) (w := w19) (kn 38 _ rfl)
  have s0_19 := at_is (u := .bool true) (w := w19) (kn 39 _ rfl)
  have kg1_19 := h19.blk kg1_16
  have kg2_19 := h19.blk kg2_16
  have kg3_19 := h19.blk kg3_16
  have ob11_19 := ob11_16.low h19
  have oc11_19 := oc11_16.low h19
  have oc16_19 := oo16.low h19
  clear kp kn
  refine e_fresh z19 ?_
  intro a20 z20 m20
  have s0_20 := m20 _ _ s0_19
  have low20 := (low18.trans h19)
  clear m20
  refine e_then ?_
  refine wp_ret ?_
  refine r_tmp rfl z20.defers s0_20 ?_
  exact ⟨rfl, low20⟩
theorem MergeThree.calls (vb vo vt : Value) (lb lo lt : List LfL) (w0 : World) (hvb : RdF w0 3 vb lb.length (lb.map encL).flatten) (hvo : RdF w0 3 vo lo.length (lo.map encL).flatten) (hvt : RdF w0 3 vt lt.length (lt.map encL).flatten) : Calls Try.prog 3 #[vb, vo, vt] w0 fun e w' => e = .returned (.bool true) ∧ Low w0 w' := by
  refine c_fun (R := _) Try.func3 rfl 55 rfl (Nat.le_of_ble_eq_true rfl) ?_
  intro a z hA
  have s0 := hA 0 _ rfl
  have s1 := hA 1 _ rfl
  have s2 := hA 2 _ rfl
  clear hA
  refine c_seq ?_
  refine c_region ?_
  refine l_q rfl (q_assign _ _ rfl rfl ?_)
  refine l_end ?_
  refine e_fresh z.put ?_
  intro a1 z1 m1
  have s0_1 := m1 _ _ (s0.ne rfl)
  have s1_1 := m1 _ _ (s1.ne rfl)
  have s2_1 := m1 _ _ (s2.ne rfl)
  clear m1
  refine e_then ?_
  refine c_seq ?_
  refine c_seq ?_
  refine c_region ?_
  refine l_call (fun v w' => v = .bool true ∧ Low w0 w') rfl rfl rfl Try.func5 rfl (show Array.map _ _ = (#[] : Array Value) from by simp) ((Awake.calls _).mono fun _ _ ⟨e, k⟩ => ⟨_, e, rfl, k⟩) ?_
  rintro _ w2 ⟨rfl, h2⟩
  have ovb_2 := hvb.low h2
  have ovo_2 := hvo.low h2
  have ovt_2 := hvt.low h2
  refine l_q rfl (q_not (b := true) rfl (At.hit z1 rfl).ev ?_)
  refine l_end ?_
  refine e_fresh z1.put.put ?_
  intro a3 z3 m3
  have s0_3 := m3 _ _ ((s0_1.ne rfl).ne rfl)
  have s1_3 := m3 _ _ ((s1_1.ne rfl).ne rfl)
  have s2_3 := m3 _ _ ((s2_1.ne rfl).ne rfl)
  have s12_3 := m3 _ _ (At.hit z1.put rfl)
  have low3 := h2
  clear m3
  refine e_then ?_
  refine c_false s12_3 ?_
  refine wp_skip ?_
  refine e_then ?_
  refine c_seq ?_
  refine c_seq ?_
  by_cases hb4 : mayB [lb, lo, lt] = true
  · skip
    refine c_region ?_
    refine l_q rfl (q_move _ _ rfl s0_3.ev ?_)
    refine l_q rfl (q_move _ _ rfl (s1_3.ne rfl).ev ?_)
    refine l_q rfl (q_move _ _ rfl ((s2_3.ne rfl).ne rfl).ev ?_)
    refine l_lit3 rfl rfl Try.underlying44 rec22 (((At.hit z3 rfl).ne rfl).ne rfl).ev ((At.hit z3.put rfl).ne rfl).ev (At.hit z3.put.put rfl).ev (RdF.one ovb_2) (RdF.one ovo_2) (RdF.one ovt_2) ?_
    intro g16_5 w5 hg5 k5 h5
    have geg16_5 := Nat.le_trans low3.ge hg5
    have ovb_5 := ovb_2.low h5
    have ovo_5 := ovo_2.low h5
    have ovt_5 := ovt_2.low h5
    have og16_5_5 := rdFF3 k5 ovb_5 ovo_5 ovt_5
    refine l_call (fun v w' => v = .bool true ∧ Low w5 w') rfl rfl rfl Try.func6 rfl (args1 rfl (At.hit z3.put.put.put rfl).ev) (((calls_bool (May.calls _ _ ([lb, lo, lt]) (by simp) _ og16_5_5) hb4)).mono fun _ _ ⟨e, k⟩ => ⟨_, e, rfl, k⟩) ?_
    rintro _ w6 ⟨rfl, h6⟩
    have kg16_5_6 := h6.blk k5
    have ovb_6 := ovb_5.low h6
    have ovo_6 := ovo_5.low h6
    have ovt_6 := ovt_5.low h6
    have oL5_6 := og16_5_5.low h6
    refine l_q rfl (q_not (b := true) rfl (At.hit z3.put.put.put.put rfl).ev ?_)
    refine l_end ?_
    refine e_fresh z3.put.put.put.put.put.put ?_
    intro a7 z7 m7
    have s0_7 := m7 _ _ ((((((s0_3.ne rfl).ne rfl).ne rfl).ne rfl).ne rfl).ne rfl)
    have s1_7 := m7 _ _ ((((((s1_3.ne rfl).ne rfl).ne rfl).ne rfl).ne rfl).ne rfl)
    have s2_7 := m7 _ _ ((((((s2_3.ne rfl).ne rfl).ne rfl).ne rfl).ne rfl).ne rfl)
    have s18_7 := m7 _ _ (At.hit z3.put.put.put.put.put rfl)
    have low7 := ((low3.trans h5).trans h6)
    clear m7
    refine e_then ?_
    refine c_false s18_7 ?_
    refine wp_skip ?_
    refine e_then ?_
    refine c_seq ?_
    obtain ⟨kb, ko, kt⟩ := may3 hb4
    obtain ⟨rb, sb, nb, _⟩ := okRow kb
    obtain ⟨ro, so, no, _⟩ := okRow ko
    obtain ⟨rt, st, nt, _⟩ := okRow kt
    have hpl := paths_len lb lo lt
    have hol : (outF lb lo lt).length ≤ 1000 := by rw [← out_end]; exact out_len lb lo lt _ _ 1000 (by omega)
    have hbl := badA_len lb lo lt
    have hbf : (badF lb lo lt).length ≤ 1000 := by rw [← bad_end]; exact bad_len lb lo lt _ _ 1000 (by omega)
    refine c_region ?_
    refine l_q rfl (q_move _ _ rfl s0_7.ev ?_)
    refine l_q rfl (q_move _ _ rfl (s1_7.ne rfl).ev ?_)
    refine l_q rfl (q_move _ _ rfl ((s2_7.ne rfl).ne rfl).ev ?_)
    refine l_call _ rfl rfl rfl Try.func7 rfl (args3 rfl (((At.hit z7 rfl).ne rfl).ne rfl).ev ((At.hit z7.put rfl).ne rfl).ev (At.hit z7.put.put rfl).ev) (Three.calls _ _ _ lb lo lt (by omega) (by omega) (by omega) so st _ ovb_6 ovo_6 ovt_6) ?_
    rintro _ w8 ⟨p8, q8, rfl, o8, oo8, h8⟩
    replace o8 := o8.base low7.ge
    replace oo8 := oo8.base low7.ge
    have ovb_8 := ovb_6.low h8
    have ovo_8 := ovo_6.low h8
    have ovt_8 := ovt_6.low h8
    refine l_q rfl (q_move _ _ rfl (At.hit z7.put.put.put rfl).ev ?_)
    refine l_q rfl (q_extract rfl (At.hit z7.put.put.put.put rfl).ev rfl ?_)
    refine l_q rfl (q_extract rfl ((At.hit z7.put.put.put.put rfl).ne rfl).ev rfl ?_)
    refine l_q rfl (q_assign _ _ rfl ((At.hit z7.put.put.put.put.put rfl).ne rfl).ev ?_)
    refine l_fresh z7.put.put.put.put.put.put.put.put ?_
    intro a9 z9 m9
    have s0_9 := m9 _ _ ((((((((s0_7.ne rfl).ne rfl).ne rfl).ne rfl).ne rfl).ne rfl).ne rfl).ne rfl)
    have s1_9 := m9 _ _ ((((((((s1_7.ne rfl).ne rfl).ne rfl).ne rfl).ne rfl).ne rfl).ne rfl).ne rfl)
    have s2_9 := m9 _ _ ((((((((s2_7.ne rfl).ne rfl).ne rfl).ne rfl).ne rfl).ne rfl).ne rfl).ne rfl)
    have s7_9 := m9 _ _ (At.hit z7.put.put.put.put.put.put.put rfl)
    have s25_9 := m9 _ _ ((At.hit z7.put.put.put.put.put.put rfl).ne rfl)
    clear m9
    refine l_q rfl (q_assign _ _ rfl s25_9.ev ?_)
    refine l_end ?_
    refine e_fresh z9.put ?_
    intro a10 z10 m10
    have s0_10 := m10 _ _ (s0_9.ne rfl)
    have s1_10 := m10 _ _ (s1_9.ne rfl)
    have s2_10 := m10 _ _ (s2_9.ne rfl)
    have s7_10 := m10 _ _ (s7_9.ne rfl)
    have s8_10 := m10 _ _ (At.hit z9 rfl)
    have low10 := (low7.trans h8)
    clear m10
    refine e_then ?_
    refine c_seq ?_
    refine c_region ?_
    refine l_q rfl (q_move _ _ rfl s0_10.ev ?_)
    refine l_call _ rfl rfl rfl Try.func9 rfl (args1 rfl (At.hit z10 rfl).ev) (Of.calls _ lb (by omega) _ ovb_8) ?_
    rintro v11 w11 ⟨o11, h11⟩
    replace o11 := o11.base low10.ge
    have ovb_11 := ovb_8.low h11
    have ovo_11 := ovo_8.low h11
    have ovt_11 := ovt_8.low h11
    have ob8_11 := o8.low h11
    have oc8_11 := oo8.low h11
    refine l_q rfl (q_move _ _ rfl ((s1_10.ne rfl).ne rfl).ev ?_)
    refine l_call _ rfl rfl rfl Try.func9 rfl (args1 rfl (At.hit z10.put.put rfl).ev) (Of.calls _ lo (by omega) _ ovo_11) ?_
    rintro v12 w12 ⟨o12, h12⟩
    replace o12 := o12.base (low10.trans h11).ge
    have ovb_12 := ovb_11.low h12
    have ovo_12 := ovo_11.low h12
    have ovt_12 := ovt_11.low h12
    have ob8_12 := ob8_11.low h12
    have oc8_12 := oc8_11.low h12
    have ob11_12 := o11.low h12
    refine l_q rfl (q_move _ _ rfl ((((s2_10.ne rfl).ne rfl).ne rfl).ne rfl).ev ?_)
    refine l_call _ rfl rfl rfl Try.func9 rfl (args1 rfl (At.hit z10.put.put.put.put rfl).ev) (Of.calls _ lt (by omega) _ ovt_12) ?_
    rintro v13 w13 ⟨o13, h13⟩
    replace o13 := o13.base ((low10.trans h11).trans h12).ge
    have ovb_13 := ovb_12.low h13
    have ovo_13 := ovo_12.low h13
    have ovt_13 := ovt_12.low h13
    have ob8_13 := ob8_12.low h13
    have oc8_13 := oc8_12.low h13
    have ob11_13 := ob11_12.low h13
    have ob12_13 := o12.low h13
    refine l_call _ rfl rfl rfl Try.func8 rfl (args3 rfl (((((At.hit z10.put rfl).ne rfl).ne rfl).ne rfl).ne rfl).ev (((At.hit z10.put.put.put rfl).ne rfl).ne rfl).ev (At.hit z10.put.put.put.put.put rfl).ev) (ThreeR.calls _ _ _ (lb.map toR) (lo.map toR) (lt.map toR) (by rw [List.length_map]; omega) (by rw [List.length_map]; omega) (by rw [List.length_map]; omega) _ ob11_13.rd ob12_13.rd o13.rd) ?_
    rintro _ w14 ⟨p14, q14, rfl, o14, oo14, h14⟩
    replace o14 := o14.base (((low10.trans h11).trans h12).trans h13).ge
    replace oo14 := oo14.base (((low10.trans h11).trans h12).trans h13).ge
    have ovb_14 := ovb_13.low h14
    have ovo_14 := ovo_13.low h14
    have ovt_14 := ovt_13.low h14
    have ob8_14 := ob8_13.low h14
    have oc8_14 := oc8_13.low h14
    have ob11_14 := ob11_13.low h14
    have ob12_14 := ob12_13.low h14
    have ob13_14 := o13.low h14
    refine l_q rfl (q_move _ _ rfl (At.hit z10.put.put.put.put.put.put rfl).ev ?_)
    refine l_fresh z10.put.put.put.put.put.put.put.put ?_
    intro a15 z15 m15
    have s0_15 := m15 _ _ ((((((((s0_10.ne rfl).ne rfl).ne rfl).ne rfl).ne rfl).ne rfl).ne rfl).ne rfl)
    have s1_15 := m15 _ _ ((((((((s1_10.ne rfl).ne rfl).ne rfl).ne rfl).ne rfl).ne rfl).ne rfl).ne rfl)
    have s2_15 := m15 _ _ ((((((((s2_10.ne rfl).ne rfl).ne rfl).ne rfl).ne rfl).ne rfl).ne rfl).ne rfl)
    have s7_15 := m15 _ _ ((((((((s7_10.ne rfl).ne rfl).ne rfl).ne rfl).ne rfl).ne rfl).ne rfl).ne rfl)
    have s8_15 := m15 _ _ ((((((((s8_10.ne rfl).ne rfl).ne rfl).ne rfl).ne rfl).ne rfl).ne rfl).ne rfl)
    have s26_15 := m15 _ _ (At.hit z10.put.put.put.put.put.put.put rfl)
    clear m15
    refine l_q rfl (q_extract rfl s26_15.ev rfl ?_)
    refine l_q rfl (q_extract rfl (s26_15.ne rfl).ev rfl ?_)
    refine l_q rfl (q_assign _ _ rfl ((At.hit z15 rfl).ne rfl).ev ?_)
    refine l_q rfl (q_assign _ _ rfl ((At.hit z15.put rfl).ne rfl).ev ?_)
    refine l_end ?_
    refine e_fresh z15.put.put.put.put ?_
    intro a16 z16 m16
    have s0_16 := m16 _ _ ((((s0_15.ne rfl).ne rfl).ne rfl).ne rfl)
    have s1_16 := m16 _ _ ((((s1_15.ne rfl).ne rfl).ne rfl).ne rfl)
    have s2_16 := m16 _ _ ((((s2_15.ne rfl).ne rfl).ne rfl).ne rfl)
    have s7_16 := m16 _ _ ((((s7_15.ne rfl).ne rfl).ne rfl).ne rfl)
    have s8_16 := m16 _ _ ((((s8_15.ne rfl).ne rfl).ne rfl).ne rfl)
    have s9_16 := m16 _ _ ((At.hit z15.put.put rfl).ne rfl)
    have s10_16 := m16 _ _ (At.hit z15.put.put.put rfl)
    have low16 := ((((low10.trans h11).trans h12).trans h13).trans h14)
    clear m16
    refine e_then ?_
    refine c_seq ?_
    refine c_region ?_
    refine l_q rfl (q_move _ _ rfl s7_16.ev ?_)
    refine l_call _ rfl rfl rfl Try.func9 rfl (args1 rfl (At.hit z16 rfl).ev) (Of.calls _ (outF lb lo lt) (by omega) _ ob8_14.rd) ?_
    rintro v17 w17 ⟨o17, h17⟩
    replace o17 := o17.base low16.ge
    have ovb_17 := ovb_14.low h17
    have ovo_17 := ovo_14.low h17
    have ovt_17 := ovt_14.low h17
    have ob8_17 := ob8_14.low h17
    have oc8_17 := oc8_14.low h17
    have ob14_17 := o14.low h17
    have oc14_17 := oo14.low h17
    refine l_q rfl (q_move _ _ rfl ((s9_16.ne rfl).ne rfl).ev ?_)
    refine l_call (fun v w' => v = .bool true ∧ Low w17 w') rfl rfl rfl Try.func10 rfl (args2 rfl ((At.hit z16.put rfl).ne rfl).ev (At.hit z16.put.put rfl).ev) (((calls_bool (Same.calls _ _ ((outF lb lo lt).map toR) (outS (lb.map toR) (lo.map toR) (lt.map toR)) (by rw [List.length_map]; omega) (by rw [← out_same rb ro rt, List.length_map]; omega) _ o17.rd ob14_17.rd) (decide_eq_true (out_same rb ro rt)))).mono fun _ _ ⟨e, k⟩ => ⟨_, e, rfl, k⟩) ?_
    rintro _ w18 ⟨rfl, h18⟩
    have ovb_18 := ovb_17.low h18
    have ovo_18 := ovo_17.low h18
    have ovt_18 := ovt_17.low h18
    have ob8_18 := ob8_17.low h18
    have oc8_18 := oc8_17.low h18
    have ob14_18 := ob14_17.low h18
    have oc14_18 := oc14_17.low h18
    have ob17_18 := o17.low h18
    refine l_q rfl (q_move _ _ rfl (At.hit z16.put.put.put rfl).ev ?_)
    refine l_qg (wanted_is (j := 4) (d := 40) (b := true) rfl rfl (At.hit z16.put.put.put.put rfl) rfl) (q_move _ _ rfl (((((s8_16.ne rfl).ne rfl).ne rfl).ne rfl).ne rfl).ev ?_)
    refine l_qg (wanted_is (j := 4) (d := 40) (b := true) rfl rfl ((At.hit z16.put.put.put.put rfl).ne rfl) rfl) (q_move _ _ rfl ((((((s10_16.ne rfl).ne rfl).ne rfl).ne rfl).ne rfl).ne rfl).ev ?_)
    refine l_callg (fun v w' => v = .bool true ∧ Low w18 w') (wanted_is (j := 4) (d := 40) (b := true) rfl rfl (((At.hit z16.put.put.put.put rfl).ne rfl).ne rfl) rfl) rfl rfl Try.func11 rfl (args2 rfl ((At.hit z16.put.put.put.put.put rfl).ne rfl).ev (At.hit z16.put.put.put.put.put.put rfl).ev) (((calls_bool (Texts.calls _ _ (badA lb lo lt) (wantS (lb.map toR) (lo.map toR) (lt.map toR)) (by omega) (by rw [← want_same rb ro rt]; omega) _ oc8_18.rd oc14_18.rd) (decide_eq_true (want_same rb ro rt)))).mono fun _ _ ⟨e, k⟩ => ⟨_, e, rfl, k⟩) ?_
    rintro _ w19 ⟨rfl, h19⟩
    have ovb_19 := ovb_18.low h19
    have ovo_19 := ovo_18.low h19
    have ovt_19 := ovt_18.low h19
    have ob8_19 := ob8_18.low h19
    have oc8_19 := oc8_18.low h19
    have ob14_19 := ob14_18.low h19
    have oc14_19 := oc14_18.low h19
    have ob17_19 := ob17_18.low h19
    refine l_fresh z16.put.put.put.put.put.put.put.put ?_
    intro a20 z20 m20
    have s0_20 := m20 _ _ ((((((((s0_16.ne rfl).ne rfl).ne rfl).ne rfl).ne rfl).ne rfl).ne rfl).ne rfl)
    have s1_20 := m20 _ _ ((((((((s1_16.ne rfl).ne rfl).ne rfl).ne rfl).ne rfl).ne rfl).ne rfl).ne rfl)
    have s2_20 := m20 _ _ ((((((((s2_16.ne rfl).ne rfl).ne rfl).ne rfl).ne rfl).ne rfl).ne rfl).ne rfl)
    have s10_20 := m20 _ _ ((((((((s10_16.ne rfl).ne rfl).ne rfl).ne rfl).ne rfl).ne rfl).ne rfl).ne rfl)
    have s40_20 := m20 _ _ ((((At.hit z16.put.put.put.put rfl).ne rfl).ne rfl).ne rfl)
    have s43_20 := m20 _ _ (At.hit z16.put.put.put.put.put.put.put rfl)
    clear m20
    refine l_q rfl (q_pick (b := true) (.bool true) rfl s40_20.ev s43_20.ev ?_)
    refine l_q rfl (q_move _ _ rfl (At.hit z20 rfl).ev ?_)
    refine l_qg (wanted_is (j := 9) (d := 45) (b := true) rfl rfl (At.hit z20.put rfl) rfl) (q_move _ _ rfl ((s0_20.ne rfl).ne rfl).ev ?_)
    refine l_qg (wanted_is (j := 9) (d := 45) (b := true) rfl rfl ((At.hit z20.put rfl).ne rfl) rfl) (q_move _ _ rfl (((s1_20.ne rfl).ne rfl).ne rfl).ev ?_)
    refine l_qg (wanted_is (j := 9) (d := 45) (b := true) rfl rfl (((At.hit z20.put rfl).ne rfl).ne rfl) rfl) (q_move _ _ rfl ((((s2_20.ne rfl).ne rfl).ne rfl).ne rfl).ev ?_)
    refine l_callg (fun v w' => v = .bool ((badA lb lo lt).isEmpty) ∧ Low w19 w') (wanted_is (j := 9) (d := 45) (b := true) rfl rfl ((((At.hit z20.put rfl).ne rfl).ne rfl).ne rfl) rfl) rfl rfl Try.func12 rfl (args3 rfl (((At.hit z20.put.put rfl).ne rfl).ne rfl).ev ((At.hit z20.put.put.put rfl).ne rfl).ev (At.hit z20.put.put.put.put rfl).ev) ((Clean.calls _ _ _ lb lo lt (by omega) (by omega) (by omega) so st _ ovb_19 ovo_19 ovt_19).mono fun _ _ ⟨e, k⟩ => ⟨_, e, rfl, k⟩) ?_
    rintro _ w21 ⟨rfl, h21⟩
    have ovb_21 := ovb_19.low h21
    have ovo_21 := ovo_19.low h21
    have ovt_21 := ovt_19.low h21
    have ob8_21 := ob8_19.low h21
    have oc8_21 := oc8_19.low h21
    have ob14_21 := ob14_19.low h21
    have oc14_21 := oc14_19.low h21
    have ob17_21 := ob17_19.low h21
    refine l_qg (wanted_is (j := 9) (d := 45) (b := true) rfl rfl (((((At.hit z20.put rfl).ne rfl).ne rfl).ne rfl).ne rfl) rfl) (q_move _ _ rfl ((((((s10_20.ne rfl).ne rfl).ne rfl).ne rfl).ne rfl).ne rfl).ev ?_)
    refine l_qg (wanted_is (j := 9) (d := 45) (b := true) rfl rfl ((((((At.hit z20.put rfl).ne rfl).ne rfl).ne rfl).ne rfl).ne rfl) rfl) (q_lenF rfl rfl Try.underlying25 (At.hit z20.put.put.put.put.put.put rfl).ev oc14_21.rd ?_)
    refine l_fresh z20.put.put.put.put.put.put.put.put ?_
    intro a22 z22 m22
    have s45_22 := m22 _ _ (((((((At.hit z20.put rfl).ne rfl).ne rfl).ne rfl).ne rfl).ne rfl).ne rfl)
    have s49_22 := m22 _ _ (((At.hit z20.put.put.put.put.put rfl).ne rfl).ne rfl)
    have s51_22 := m22 _ _ (At.hit z20.put.put.put.put.put.put.put rfl)
    clear m22
    refine l_qg (wanted_is (j := 9) (d := 45) (b := true) rfl rfl s45_22 rfl) (q_eql _ rfl s51_22.ev rfl rfl ?_)
    refine l_qg (wanted_is (j := 9) (d := 45) (b := true) rfl rfl (s45_22.ne rfl) rfl) (q_boolq true rfl Try.underlying4 (s49_22.ne rfl).ev (At.hit z22 rfl).ev (by rw [want_same rb ro rt, len_zero]; exact beq_self_eq_true _) ?_)
    refine l_q rfl (q_pick (b := true) (.bool true) rfl ((s45_22.ne rfl).ne rfl).ev (At.hit z22.put rfl).ev ?_)
    refine l_q rfl (q_assign _ _ rfl (At.hit z22.put.put rfl).ev ?_)
    refine l_end ?_
    refine e_fresh z22.put.put.put.put ?_
    intro a23 z23 m23
    have s6_23 := m23 _ _ (At.hit z22.put.put.put rfl)
    have low23 := ((((low16.trans h17).trans h18).trans h19).trans h21)
    clear m23
    refine e_then ?_
    refine wp_ret ?_
    refine r_tmp rfl z23.defers s6_23 ?_
    exact ⟨rfl, low23⟩
  · skip
    refine c_region ?_
    refine l_q rfl (q_move _ _ rfl s0_3.ev ?_)
    refine l_q rfl (q_move _ _ rfl (s1_3.ne rfl).ev ?_)
    refine l_q rfl (q_move _ _ rfl ((s2_3.ne rfl).ne rfl).ev ?_)
    refine l_lit3 rfl rfl Try.underlying44 rec22 (((At.hit z3 rfl).ne rfl).ne rfl).ev ((At.hit z3.put rfl).ne rfl).ev (At.hit z3.put.put rfl).ev (RdF.one ovb_2) (RdF.one ovo_2) (RdF.one ovt_2) ?_
    intro g16_24 w24 hg24 k24 h24
    have geg16_24 := Nat.le_trans low3.ge hg24
    have ovb_24 := ovb_2.low h24
    have ovo_24 := ovo_2.low h24
    have ovt_24 := ovt_2.low h24
    have og16_24_24 := rdFF3 k24 ovb_24 ovo_24 ovt_24
    refine l_call (fun v w' => v = .bool false ∧ Low w24 w') rfl rfl rfl Try.func6 rfl (args1 rfl (At.hit z3.put.put.put rfl).ev) (((calls_bool (May.calls _ _ ([lb, lo, lt]) (by simp) _ og16_24_24) (eq_false_of_ne_true hb4))).mono fun _ _ ⟨e, k⟩ => ⟨_, e, rfl, k⟩) ?_
    rintro _ w25 ⟨rfl, h25⟩
    have kg16_24_25 := h25.blk k24
    have ovb_25 := ovb_24.low h25
    have ovo_25 := ovo_24.low h25
    have ovt_25 := ovt_24.low h25
    have oL24_25 := og16_24_24.low h25
    refine l_q rfl (q_not (b := false) rfl (At.hit z3.put.put.put.put rfl).ev ?_)
    refine l_end ?_
    refine e_fresh z3.put.put.put.put.put.put ?_
    intro a26 z26 m26
    have s0_26 := m26 _ _ ((((((s0_3.ne rfl).ne rfl).ne rfl).ne rfl).ne rfl).ne rfl)
    have s1_26 := m26 _ _ ((((((s1_3.ne rfl).ne rfl).ne rfl).ne rfl).ne rfl).ne rfl)
    have s2_26 := m26 _ _ ((((((s2_3.ne rfl).ne rfl).ne rfl).ne rfl).ne rfl).ne rfl)
    have s18_26 := m26 _ _ (At.hit z3.put.put.put.put.put rfl)
    have low26 := ((low3.trans h24).trans h25)
    clear m26
    refine e_then ?_
    refine c_true s18_26 ?_
    refine c_seq ?_
    refine c_region ?_
    refine l_q rfl (q_assign _ _ rfl rfl ?_)
    refine l_end ?_
    refine e_fresh z26.put ?_
    intro a27 z27 m27
    have s6_27 := m27 _ _ (At.hit z26 rfl)
    clear m27
    refine e_then ?_
    refine wp_ret ?_
    refine ret_then ?_
    refine r_tmp rfl z27.defers s6_27 ?_
    exact ⟨rfl, low26⟩
end Go.Proofs.Ytenbgnlkkmnmhaa.Q
end
/-! R0 -/
section
namespace Go.Proofs.Ytenbgnlkkmnmhaa.R
open Go.ChangeShapes Go.WideShapes Go.RowKit Go.Proofs.YtenbgnlkkmnmhaaW.PrintWords
end Go.Proofs.Ytenbgnlkkmnmhaa.R
end
/-! R4 -/
section
namespace Go.Proofs.Ytenbgnlkkmnmhaa.R
open Go.ChangeShapes Go.WideShapes Go.RowKit Go.Joins Go.Deep Go.WideElems Go.Maps Go.Proofs.Ytenbgnlkkmnmhaa.Q
theorem open_leaves {H : Type} {enc : TypeId × Value → H} {P : Program} {W : World} {base : Nat} {spare : Nat → Bool} {held : Bool} {t e : TypeId} {f0 f1 f2 : Field} {a : Option Addr} {len cap : Nat} {d : DataW H} {ps : List MemPlace}
    (hu : P.underlying t = some (.slice e)) (hs : P.underlying e = some (.struct #[f0, f1, f2])) (hone : oneCellFields P #[f0, f1, f2] = true) (hC : P.cellsOf e = 3)
    (h0 : P.underlying f0.type = some .string) (h1 : P.underlying f1.type = some (.int .i64)) (h2 : P.underlying f2.type = some .string)
    (h : DataW.Trod enc P W base spare held t (.slice a len cap) d ps) :
    ∃ l : List LfL, RdF W 3 (.slice a len cap) l.length (l.map encL).flatten := by
  obtain ⟨fuel, hf⟩ := h
  rcases DataW.trod_slice hu hf with ⟨hcs, _⟩ | ⟨x, n, c, elems, rest, m, _, hcs, _, _, hl, hm, hlen, hel, _⟩
  · simp [Value.cells] at hcs
    obtain ⟨rfl, rfl, rfl⟩ := hcs
    exact ⟨[], (OwnF.nil W 0 0 3).rd⟩
  · simp [Value.cells] at hcs
    obtain ⟨rfl, rfl, rfl⟩ := hcs
    have each : ∀ i, i < len → ∃ y : LfL, ∀ k u, (encL y)[k]? = some u → W.cell? (x.add (i * 3 + k)) = some u := by
      intro i hi
      have hx : elems[i]? = some (elems[i]'(by omega)) := List.getElem?_eq_getElem (by omega)
      have hb := hel i hi
      rw [hx, Option.bind_eq_some_iff] at hb
      obtain ⟨cs, hcells, hd⟩ := hb
      obtain ⟨_, hln, hcell⟩ := World.cells?_some hcells
      rw [hC] at hln hcell
      match cs, hln with
      | [c0, c1, c2], _ =>
        obtain ⟨y0, y1, y2, q, _, _, g0, g1, g2⟩ := trod_struct3 hs hd
        obtain ⟨o0, k0⟩ := hone_of hone 0 f0 rfl
        obtain ⟨o1, k1⟩ := hone_of hone 1 f1 rfl
        obtain ⟨o2, k2⟩ := hone_of hone 2 f2 rfl
        obtain ⟨s0, e0, _, _⟩ := DataW.trod_string h0 (by simpa [o0, k0] using g0 : DataW.trod enc P W base spare held q f0.type [c0] = some y0)
        obtain ⟨s1, e1, _, _⟩ := DataW.trod_int h1 (by simpa [o1, k1] using g1 : DataW.trod enc P W base spare held q f1.type [c1] = some y1)
        obtain ⟨s2, e2, _, _⟩ := DataW.trod_string h2 (by simpa [o2, k2] using g2 : DataW.trod enc P W base spare held q f2.type [c2] = some y2)
        injection e0 with e0; injection e1 with e1; injection e2 with e2
        subst e0; subst e1; subst e2
        refine ⟨⟨s0, s1, s2⟩, fun k u hk => ?_⟩
        have hk3 : k < 3 := (List.getElem?_eq_some_iff.1 hk).1
        have := hcell k hk3
        rw [Addr.add_add] at this
        rw [this]
        exact hk
    let f : Fin len → LfL := fun i => Classical.choose (each i.val i.isLt)
    have hfs : ∀ i : Fin len, ∀ k u, (encL (f i))[k]? = some u → W.cell? (x.add (i.val * 3 + k)) = some u := fun i => Classical.choose_spec (each i.val i.isLt)
    have hlL : (List.ofFn f).length = len := by simp
    have hg : ∀ i, (hi : i < len) → (List.ofFn f).getD i zL = f ⟨i, hi⟩ := fun i hi => by simp [List.getD_eq_getElem?_getD, hi]
    have hall : ∀ j u, ((List.ofFn f).map encL).flatten[j]? = some u → W.cell? (x.add j) = some u := by
      intro j u hj
      have hlt : j < len * 3 := by
        have := (List.getElem?_eq_some_iff.1 hj).1
        rw [flat_len encL_len, hlL] at this
        exact this
      have hq : j / 3 < len := by omega
      have e : j = j / 3 * 3 + j % 3 := by omega
      rw [e, flat_at encL_len zL _ _ _ (by rw [hlL]; exact hq) (by omega), hg _ hq] at hj
      rw [e]
      exact hfs ⟨j / 3, hq⟩ _ _ hj
    refine ⟨List.ofFn f, ?_⟩
    rw [hlL]
    refine ⟨by rw [flat_len encL_len, hlL], some x, cap, rfl, hl, fun hp => ?_⟩
    have hc0 := hall 0 (.string ((List.ofFn f).getD 0 zL).f0) (by
      have := flat_at encL_len zL (List.ofFn f) 0 0 (by rw [hlL]; exact hp) (by decide)
      rw [Nat.zero_mul, Nat.add_zero] at this
      rw [this]
      rfl)
    have hx0 : x.add 0 = x := by simp [Addr.add]
    rw [hx0] at hc0
    have hsp := World.cell?_spot hc0
    obtain ⟨xb, xo, xs⟩ := x
    cases hsp
    exact ⟨xb, xo, rfl, World.block_lt_of_cell? _ _ hc0, fun j u hj => by rw [← Addr.add_mid]; exact hall j u hj⟩
end Go.Proofs.Ytenbgnlkkmnmhaa.R
end
