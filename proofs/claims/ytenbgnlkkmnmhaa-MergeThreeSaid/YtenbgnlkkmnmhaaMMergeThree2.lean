/- Merged out of this session's texts by a program (wip/gen/merge.py): declarations that this claim doesn't name are left out. -/
import Derived.Test.YtenbgnlkkmnmhaaMMergeThree1
set_option linter.unusedVariables false
set_option linter.unusedSimpArgs false
/-! E3 -/
section
namespace Go.Proofs.Ytenbgnlkkmnmhaa.Q
open Go.RowKit Go.Proofs.Ytenbgnlkkmnmhaa.P
open Go.Proofs.YtenbgnlkkmnmhaaW.PrintWords (bytesOf bytesOf_length)
set_option linter.unusedVariables false
set_option linter.unusedSimpArgs false
set_option maxRecDepth 100000
set_option maxHeartbeats 4000000
attribute [local irreducible] wpList wpQuiet qch Code.wp Oper.quiet Act.put At Region.wanted yielded
theorem sz22 : (Try.prog.info? 22).map (·.size) = some 1 := by kernel_rfl
theorem sz28 : (Try.prog.info? 28).map (·.size) = some 1 := by kernel_rfl
theorem Paths.calls (v : Value) (vs : List Value) (L : List (List LfR)) (hL : L.flatten.length ≤ 900000) (hLn : L.length ≤ 1000000) (w0 : World) (hv : RdFF w0 3 encR v vs L) : Calls Try.prog 22 #[v] w0 fun e w' => ∃ x, e = .returned x ∧ OwnF w' w0.heap.size 9 1 x (pathsR L).length ((pathsR L).map encS).flatten ∧ Low w0 w' := by
  refine c_fun (R := _) Try.func22 rfl 70 rfl (Nat.le_of_ble_eq_true rfl) ?_
  intro a z hA
  have s0 := hA 0 _ rfl
  clear hA
  refine c_seq ?_
  refine c_region ?_
  refine l_q rfl (q_assign _ _ rfl rfl ?_)
  refine l_end ?_
  refine e_fresh z.put ?_
  intro a1 z1 m1
  have s0_1 := m1 _ _ (s0.ne rfl)
  clear m1
  refine e_then ?_
  refine c_seq ?_
  refine c_region ?_
  refine l_q rfl (q_assign _ _ rfl rfl ?_)
  refine l_end ?_
  refine e_fresh z1.put ?_
  intro a2 z2 m2
  have s0_2 := m2 _ _ (s0_1.ne rfl)
  have s3_2 := m2 _ _ (At.hit z1 rfl)
  clear m2
  refine e_then ?_
  refine c_seq ?_
  refine c_seq ?_
  refine c_region ?_
  refine l_q rfl (q_assign _ _ rfl rfl ?_)
  refine l_end ?_
  refine e_fresh z2.put ?_
  intro a3 z3 m3
  have s0_3 := m3 _ _ (s0_2.ne rfl)
  have s3_3 := m3 _ _ (s3_2.ne rfl)
  have s4_3 := m3 _ _ (At.hit z2 rfl)
  clear m3
  refine e_then ?_
  refine wp_block ?_
  refine c_loop L.length (fun k a w => ∃ v3 : Value, Fr 70 a ∧ At a 0 (v) ∧ At a 3 (v3) ∧ At a 4 (.int .i64 ((k : Nat) : Int)) ∧ OwnF w w0.heap.size 9 1 v3 (pathsN L k 0).length (((pathsN L k 0).map encS).flatten) ∧ Low w0 w) ?_ ?_ ?_
  · exact ⟨.slice none 0 0, z3, s0_3, s3_3, s4_3, (OwnF.nil _ _ _ _), (Low.refl _)⟩
  · intro k a4 w4 hk4 h
    obtain ⟨v3_4, z4, s0_4, s3_4, s4_4, ox3_4, low4⟩ := h
    clear s0_3 s3_3 s4_3 z3
    refine c_seq ?_
    refine c_seq ?_
    refine c_region ?_
    refine l_q rfl (q_move _ _ rfl s4_4.ev ?_)
    refine l_q rfl (q_move _ _ rfl (s0_4.ne rfl).ev ?_)
    refine l_q rfl (q_lenF rfl rfl Try.underlying58 (At.hit z4.put rfl).ev (hv.low low4).1 ?_)
    refine l_q rfl (q_lss true rfl (((At.hit z4 rfl).ne rfl).ne rfl).ev (At.hit z4.put.put rfl).ev (decide_eq_true (by omega)) ?_)
    refine l_end ?_
    refine e_fresh z4.put.put.put.put ?_
    intro a5 z5 m5
    have s0_5 := m5 _ _ ((((s0_4.ne rfl).ne rfl).ne rfl).ne rfl)
    have s3_5 := m5 _ _ ((((s3_4.ne rfl).ne rfl).ne rfl).ne rfl)
    have s4_5 := m5 _ _ ((((s4_4.ne rfl).ne rfl).ne rfl).ne rfl)
    have s11_5 := m5 _ _ (At.hit z4.put.put.put rfl)
    clear m5
    refine e_then ?_
    refine c_true s11_5 ?_
    refine wp_skip ?_
    refine e_then ?_
    refine c_seq ?_
    refine wp_block ?_
    refine c_seq ?_
    refine c_region ?_
    refine l_q rfl (q_assign _ _ rfl rfl ?_)
    refine l_end ?_
    refine e_fresh z5.put ?_
    intro a6 z6 m6
    have s0_6 := m6 _ _ (s0_5.ne rfl)
    have s3_6 := m6 _ _ (s3_5.ne rfl)
    have s4_6 := m6 _ _ (s4_5.ne rfl)
    have s5_6 := m6 _ _ (At.hit z5 rfl)
    clear m6
    refine e_then ?_
    refine wp_block ?_
    refine c_loop ((L.getD k []).length) (fun m a w => ∃ v3 : Value, Fr 70 a ∧ At a 0 (v) ∧ At a 3 (v3) ∧ At a 4 (.int .i64 ((k : Nat) : Int)) ∧ At a 5 (.int .i64 ((m : Nat) : Int)) ∧ OwnF w w0.heap.size 9 1 v3 (pathsN L k m).length (((pathsN L k m).map encS).flatten) ∧ Low w0 w) ?_ ?_ ?_
    · exact ⟨v3_4, z6, s0_6, s3_6, s4_6, s5_6, ox3_4, low4⟩
    · intro m a7 w7 hk7 h
      obtain ⟨v3_7, z7, s0_7, s3_7, s4_7, s5_7, ox3_7, low7⟩ := h
      clear low4 s0_6 s3_6 s4_6 s5_6 z6
      have hrl := row_len L k 900000 (by omega) hL
      have hpl := pathsN_len L k m 900000 (by omega) hL
      refine c_seq ?_
      refine c_seq ?_
      refine c_region ?_
      refine l_q rfl (q_move _ _ rfl s5_7.ev ?_)
      refine l_q rfl (q_move _ _ rfl (s0_7.ne rfl).ev ?_)
      refine l_q rfl (q_move _ _ rfl ((s4_7.ne rfl).ne rfl).ev ?_)
      refine l_q rfl (q_idxF (j := k) rfl Try.underlying58 sz28 ((At.hit z7.put rfl).ne rfl).ev (hv.low low7).1 (At.hit z7.put.put rfl).ev (by omega) ?_)
      refine l_q rfl (q_ld1 (u := (vs.getD k nilS)) rfl Try.underlying28 rfl (At.hit z7.put.put.put rfl).ev (fun _ e => by rw [e]; exact (hv.low low7).1) (by omega) (RdFF.cell (hv.low low7) (by omega)) ?_)
      refine l_q rfl (q_lenF rfl rfl Try.underlying28 (At.hit z7.put.put.put.put rfl).ev (RdFF.row (k := k) (hv.low low7) (by omega)) ?_)
      refine l_q rfl (q_lss true rfl ((((((At.hit z7 rfl).ne rfl).ne rfl).ne rfl).ne rfl).ne rfl).ev (At.hit z7.put.put.put.put.put rfl).ev (decide_eq_true (by omega)) ?_)
      refine l_end ?_
      refine e_fresh z7.put.put.put.put.put.put.put ?_
      intro a9 z9 m9
      have s0_9 := m9 _ _ (((((((s0_7.ne rfl).ne rfl).ne rfl).ne rfl).ne rfl).ne rfl).ne rfl)
      have s3_9 := m9 _ _ (((((((s3_7.ne rfl).ne rfl).ne rfl).ne rfl).ne rfl).ne rfl).ne rfl)
      have s4_9 := m9 _ _ (((((((s4_7.ne rfl).ne rfl).ne rfl).ne rfl).ne rfl).ne rfl).ne rfl)
      have s5_9 := m9 _ _ (((((((s5_7.ne rfl).ne rfl).ne rfl).ne rfl).ne rfl).ne rfl).ne rfl)
      have s20_9 := m9 _ _ (At.hit z7.put.put.put.put.put.put rfl)
      clear m9
      refine e_then ?_
      refine c_true s20_9 ?_
      refine wp_skip ?_
      refine e_then ?_
      refine c_seq ?_
      refine wp_block ?_
      refine c_seq ?_
      refine c_region ?_
      refine l_q rfl (q_move _ _ rfl s0_9.ev ?_)
      refine l_q rfl (q_move _ _ rfl (s4_9.ne rfl).ev ?_)
      refine l_q rfl (q_idxF (j := k) rfl Try.underlying58 sz28 ((At.hit z9 rfl).ne rfl).ev (hv.low low7).1 (At.hit z9.put rfl).ev (by omega) ?_)
      refine l_q rfl (q_ld1 (u := (vs.getD k nilS)) rfl Try.underlying28 rfl (At.hit z9.put.put rfl).ev (fun _ e => by rw [e]; exact (hv.low low7).1) (by omega) (RdFF.cell (hv.low low7) (by omega)) ?_)
      refine l_q rfl (q_move _ _ rfl ((((s5_9.ne rfl).ne rfl).ne rfl).ne rfl).ev ?_)
      refine l_q rfl (q_idxF (j := m) rfl Try.underlying28 sz52 ((At.hit z9.put.put.put rfl).ne rfl).ev (RdFF.row (k := k) (hv.low low7) (by omega)) (At.hit z9.put.put.put.put rfl).ev (by omega) ?_)
      refine l_q rfl (q_fldF 0 rfl fld52_0 (At.hit z9.put.put.put.put.put rfl).ev ((RdFF.row (k := k) (hv.low low7) (by omega)).form (by omega)) ?_)
      refine l_q rfl (q_ld1 (u := .string (((L.getD k []).getD m zR).f0)) rfl Try.underlying9 rfl (At.hit z9.put.put.put.put.put.put rfl).ev (fun _ e => by rw [e]; exact (RdFF.row (k := k) (hv.low low7) (by omega))) (by omega) ((flat_at encR_len zR _ m 0 (by omega) (by decide)).trans rfl) ?_)
      refine l_fresh z9.put.put.put.put.put.put.put.put ?_
      intro a11 z11 m11
      have s0_11 := m11 _ _ ((((((((s0_9.ne rfl).ne rfl).ne rfl).ne rfl).ne rfl).ne rfl).ne rfl).ne rfl)
      have s3_11 := m11 _ _ ((((((((s3_9.ne rfl).ne rfl).ne rfl).ne rfl).ne rfl).ne rfl).ne rfl).ne rfl)
      have s4_11 := m11 _ _ ((((((((s4_9.ne rfl).ne rfl).ne rfl).ne rfl).ne rfl).ne rfl).ne rfl).ne rfl)
      have s5_11 := m11 _ _ ((((((((s5_9.ne rfl).ne rfl).ne rfl).ne rfl).ne rfl).ne rfl).ne rfl).ne rfl)
      have s30_11 := m11 _ _ (At.hit z9.put.put.put.put.put.put.put rfl)
      clear m11
      refine l_q rfl (q_assign _ _ rfl s30_11.ev ?_)
      refine l_end ?_
      refine e_fresh z11.put ?_
      intro a12 z12 m12
      have s0_12 := m12 _ _ (s0_11.ne rfl)
      have s3_12 := m12 _ _ (s3_11.ne rfl)
      have s4_12 := m12 _ _ (s4_11.ne rfl)
      have s5_12 := m12 _ _ (s5_11.ne rfl)
      have s6_12 := m12 _ _ (At.hit z11 rfl)
      clear m12
      refine e_then ?_
      refine c_seq ?_
      refine c_region ?_
      refine l_q rfl (q_assign _ _ rfl rfl ?_)
      refine l_end ?_
      refine e_fresh z12.put ?_
      intro a13 z13 m13
      have s0_13 := m13 _ _ (s0_12.ne rfl)
      have s3_13 := m13 _ _ (s3_12.ne rfl)
      have s4_13 := m13 _ _ (s4_12.ne rfl)
      have s5_13 := m13 _ _ (s5_12.ne rfl)
      have s6_13 := m13 _ _ (s6_12.ne rfl)
      have s7_13 := m13 _ _ (At.hit z12 rfl)
      clear m13
      refine e_then ?_
      refine c_seq ?_
      refine wp_block ?_
      refine c_loop (cutP (pathsN L k m) ((L.getD k []).getD m zR).f0) (fun j a w => Fr 70 a ∧ At a 0 (v) ∧ At a 3 (v3_7) ∧ At a 4 (.int .i64 ((k : Nat) : Int)) ∧ At a 5 (.int .i64 ((m : Nat) : Int)) ∧ At a 6 (.string (((L.getD k []).getD m zR).f0)) ∧ At a 7 (.int .i64 ((j : Nat) : Int)) ∧ OwnF w w0.heap.size 9 1 v3_7 (pathsN L k m).length (((pathsN L k m).map encS).flatten) ∧ Low w0 w) ?_ ?_ ?_
      · exact ⟨z13, s0_13, s3_13, s4_13, s5_13, s6_13, s7_13, ox3_7, low7⟩
      · intro j a14 w14 hk14 h
        obtain ⟨z14, s0_14, s3_14, s4_14, s5_14, s6_14, s7_14, ox3_14, low14⟩ := h
        clear low7 s0_13 s3_13 s4_13 s5_13 s6_13 s7_13 z13
        have hcl := cutP_le (pathsN L k m) ((L.getD k []).getD m zR).f0
        refine c_seq ?_
        refine c_seq ?_
        refine c_region ?_
        refine l_q rfl (q_move _ _ rfl s7_14.ev ?_)
        refine l_q rfl (q_move _ _ rfl (s3_14.ne rfl).ev ?_)
        refine l_q rfl (q_lenF rfl rfl Try.underlying25 (At.hit z14.put rfl).ev ox3_14.rd ?_)
        refine l_q rfl (q_lss true rfl (((At.hit z14 rfl).ne rfl).ne rfl).ev (At.hit z14.put.put rfl).ev (decide_eq_true (by omega)) ?_)
        refine l_q rfl (q_move _ _ rfl (At.hit z14.put.put.put rfl).ev ?_)
        refine l_qg (wanted_is (j := 4) (d := 35) (b := true) rfl rfl (At.hit z14.put.put.put.put rfl) rfl) (q_move _ _ rfl (((((s3_14.ne rfl).ne rfl).ne rfl).ne rfl).ne rfl).ev ?_)
        refine l_qg (wanted_is (j := 4) (d := 35) (b := true) rfl rfl ((At.hit z14.put.put.put.put rfl).ne rfl) rfl) (q_move _ _ rfl ((((((s7_14.ne rfl).ne rfl).ne rfl).ne rfl).ne rfl).ne rfl).ev ?_)
        refine l_qg (wanted_is (j := 4) (d := 35) (b := true) rfl rfl (((At.hit z14.put.put.put.put rfl).ne rfl).ne rfl) rfl) (q_idxF (j := j) rfl Try.underlying25 sz9 ((At.hit z14.put.put.put.put.put rfl).ne rfl).ev ox3_14.rd (At.hit z14.put.put.put.put.put.put rfl).ev (by omega) ?_)
        refine l_fresh z14.put.put.put.put.put.put.put.put ?_
        intro a15 z15 m15
        have s0_15 := m15 _ _ ((((((((s0_14.ne rfl).ne rfl).ne rfl).ne rfl).ne rfl).ne rfl).ne rfl).ne rfl)
        have s3_15 := m15 _ _ ((((((((s3_14.ne rfl).ne rfl).ne rfl).ne rfl).ne rfl).ne rfl).ne rfl).ne rfl)
        have s4_15 := m15 _ _ ((((((((s4_14.ne rfl).ne rfl).ne rfl).ne rfl).ne rfl).ne rfl).ne rfl).ne rfl)
        have s5_15 := m15 _ _ ((((((((s5_14.ne rfl).ne rfl).ne rfl).ne rfl).ne rfl).ne rfl).ne rfl).ne rfl)
        have s6_15 := m15 _ _ ((((((((s6_14.ne rfl).ne rfl).ne rfl).ne rfl).ne rfl).ne rfl).ne rfl).ne rfl)
        have s7_15 := m15 _ _ ((((((((s7_14.ne rfl).ne rfl).ne rfl).ne rfl).ne rfl).ne rfl).ne rfl).ne rfl)
        have s35_15 := m15 _ _ ((((At.hit z14.put.put.put.put rfl).ne rfl).ne rfl).ne rfl)
        have s38_15 := m15 _ _ (At.hit z14.put.put.put.put.put.put.put rfl)
        clear m15
        refine l_qg (wanted_is (j := 4) (d := 35) (b := true) rfl rfl s35_15 rfl) (q_ld1 (u := .string ((pathsN L k m).getD j ByteArray.empty)) rfl Try.underlying9 rfl s38_15.ev (fun _ e => by rw [e]; exact ox3_14.rd) (by omega) ((flat_at encS_len ByteArray.empty _ j 0 (by omega) (by decide)).trans rfl) ?_)
        refine l_qg (wanted_is (j := 4) (d := 35) (b := true) rfl rfl (s35_15.ne rfl) rfl) (q_move _ _ rfl (s6_15.ne rfl).ev ?_)
        refine l_qg (wanted_is (j := 4) (d := 35) (b := true) rfl rfl ((s35_15.ne rfl).ne rfl) rfl) (q_strlss true rfl ((At.hit z15 rfl).ne rfl).ev (At.hit z15.put rfl).ev (cutP_round (by assumption)) ?_)
        refine l_q rfl (q_pick (b := true) (.bool true) rfl (((s35_15.ne rfl).ne rfl).ne rfl).ev (At.hit z15.put.put rfl).ev ?_)
        refine l_end ?_
        refine e_fresh z15.put.put.put.put ?_
        intro a16 z16 m16
        have s0_16 := m16 _ _ ((((s0_15.ne rfl).ne rfl).ne rfl).ne rfl)
        have s3_16 := m16 _ _ ((((s3_15.ne rfl).ne rfl).ne rfl).ne rfl)
        have s4_16 := m16 _ _ ((((s4_15.ne rfl).ne rfl).ne rfl).ne rfl)
        have s5_16 := m16 _ _ ((((s5_15.ne rfl).ne rfl).ne rfl).ne rfl)
        have s6_16 := m16 _ _ ((((s6_15.ne rfl).ne rfl).ne rfl).ne rfl)
        have s7_16 := m16 _ _ ((((s7_15.ne rfl).ne rfl).ne rfl).ne rfl)
        have s42_16 := m16 _ _ (At.hit z15.put.put.put rfl)
        clear m16
        refine e_then ?_
        refine c_true s42_16 ?_
        refine wp_skip ?_
        refine e_then ?_
        refine wp_block ?_
        refine c_region ?_
        refine l_q rfl (q_move _ _ rfl s7_16.ev ?_)
        refine l_q rfl (q_add (((j + 1 : Nat) : Int)) rfl (At.hit z16 rfl).ev rfl (i64_is (by omega) (by omega) (by omega)) ?_)
        refine l_q rfl (q_assign _ _ rfl (At.hit z16.put rfl).ev ?_)
        refine l_end ?_
        refine e_fresh z16.put.put.put ?_
        intro a17 z17 m17
        have s0_17 := m17 _ _ (((s0_16.ne rfl).ne rfl).ne rfl)
        have s3_17 := m17 _ _ (((s3_16.ne rfl).ne rfl).ne rfl)
        have s4_17 := m17 _ _ (((s4_16.ne rfl).ne rfl).ne rfl)
        have s5_17 := m17 _ _ (((s5_16.ne rfl).ne rfl).ne rfl)
        have s6_17 := m17 _ _ (((s6_16.ne rfl).ne rfl).ne rfl)
        have s7_17 := m17 _ _ (At.hit z16.put.put rfl)
        clear m17
        refine e_in ?_
        exact ⟨z17, s0_17, s3_17, s4_17, s5_17, s6_17, s7_17, ox3_14, low14⟩
      · intro a18 w18 h
        obtain ⟨z18, s0_18, s3_18, s4_18, s5_18, s6_18, s7_18, ox3_18, low18⟩ := h
        clear low7 s0_13 s3_13 s4_13 s5_13 s6_13 s7_13 z13
        have hcl := cutP_le (pathsN L k m) ((L.getD k []).getD m zR).f0
        refine c_seq ?_
        refine c_seq ?_
        by_cases hb19 : cutP (pathsN L k m) ((L.getD k []).getD m zR).f0 < (pathsN L k m).length
        · skip
          refine c_region ?_
          refine l_q rfl (q_move _ _ rfl s7_18.ev ?_)
          refine l_q rfl (q_move _ _ rfl (s3_18.ne rfl).ev ?_)
          refine l_q rfl (q_lenF rfl rfl Try.underlying25 (At.hit z18.put rfl).ev ox3_18.rd ?_)
          refine l_q rfl (q_lss true rfl (((At.hit z18 rfl).ne rfl).ne rfl).ev (At.hit z18.put.put rfl).ev (decide_eq_true (by omega)) ?_)
          refine l_q rfl (q_move _ _ rfl (At.hit z18.put.put.put rfl).ev ?_)
          refine l_qg (wanted_is (j := 4) (d := 35) (b := true) rfl rfl (At.hit z18.put.put.put.put rfl) rfl) (q_move _ _ rfl (((((s3_18.ne rfl).ne rfl).ne rfl).ne rfl).ne rfl).ev ?_)
          refine l_qg (wanted_is (j := 4) (d := 35) (b := true) rfl rfl ((At.hit z18.put.put.put.put rfl).ne rfl) rfl) (q_move _ _ rfl ((((((s7_18.ne rfl).ne rfl).ne rfl).ne rfl).ne rfl).ne rfl).ev ?_)
          refine l_qg (wanted_is (j := 4) (d := 35) (b := true) rfl rfl (((At.hit z18.put.put.put.put rfl).ne rfl).ne rfl) rfl) (q_idxF (j := (cutP (pathsN L k m) ((L.getD k []).getD m zR).f0)) rfl Try.underlying25 sz9 ((At.hit z18.put.put.put.put.put rfl).ne rfl).ev ox3_18.rd (At.hit z18.put.put.put.put.put.put rfl).ev (by omega) ?_)
          refine l_fresh z18.put.put.put.put.put.put.put.put ?_
          intro a20 z20 m20
          have s0_20 := m20 _ _ ((((((((s0_18.ne rfl).ne rfl).ne rfl).ne rfl).ne rfl).ne rfl).ne rfl).ne rfl)
          have s3_20 := m20 _ _ ((((((((s3_18.ne rfl).ne rfl).ne rfl).ne rfl).ne rfl).ne rfl).ne rfl).ne rfl)
          have s4_20 := m20 _ _ ((((((((s4_18.ne rfl).ne rfl).ne rfl).ne rfl).ne rfl).ne rfl).ne rfl).ne rfl)
          have s5_20 := m20 _ _ ((((((((s5_18.ne rfl).ne rfl).ne rfl).ne rfl).ne rfl).ne rfl).ne rfl).ne rfl)
          have s6_20 := m20 _ _ ((((((((s6_18.ne rfl).ne rfl).ne rfl).ne rfl).ne rfl).ne rfl).ne rfl).ne rfl)
          have s7_20 := m20 _ _ ((((((((s7_18.ne rfl).ne rfl).ne rfl).ne rfl).ne rfl).ne rfl).ne rfl).ne rfl)
          have s35_20 := m20 _ _ ((((At.hit z18.put.put.put.put rfl).ne rfl).ne rfl).ne rfl)
          have s38_20 := m20 _ _ (At.hit z18.put.put.put.put.put.put.put rfl)
          clear m20
          refine l_qg (wanted_is (j := 4) (d := 35) (b := true) rfl rfl s35_20 rfl) (q_ld1 (u := .string ((pathsN L k m).getD (cutP (pathsN L k m) ((L.getD k []).getD m zR).f0) ByteArray.empty)) rfl Try.underlying9 rfl s38_20.ev (fun _ e => by rw [e]; exact ox3_18.rd) (by omega) ((flat_at encS_len ByteArray.empty _ (cutP (pathsN L k m) ((L.getD k []).getD m zR).f0) 0 (by omega) (by decide)).trans rfl) ?_)
          refine l_qg (wanted_is (j := 4) (d := 35) (b := true) rfl rfl (s35_20.ne rfl) rfl) (q_move _ _ rfl (s6_20.ne rfl).ev ?_)
          refine l_qg (wanted_is (j := 4) (d := 35) (b := true) rfl rfl ((s35_20.ne rfl).ne rfl) rfl) (q_strlss false rfl ((At.hit z20 rfl).ne rfl).ev (At.hit z20.put rfl).ev (cutP_stop hb19) ?_)
          refine l_q rfl (q_pick (b := true) (.bool false) rfl (((s35_20.ne rfl).ne rfl).ne rfl).ev (At.hit z20.put.put rfl).ev ?_)
          refine l_end ?_
          refine e_fresh z20.put.put.put.put ?_
          intro a21 z21 m21
          have s0_21 := m21 _ _ ((((s0_20.ne rfl).ne rfl).ne rfl).ne rfl)
          have s3_21 := m21 _ _ ((((s3_20.ne rfl).ne rfl).ne rfl).ne rfl)
          have s4_21 := m21 _ _ ((((s4_20.ne rfl).ne rfl).ne rfl).ne rfl)
          have s5_21 := m21 _ _ ((((s5_20.ne rfl).ne rfl).ne rfl).ne rfl)
          have s6_21 := m21 _ _ ((((s6_20.ne rfl).ne rfl).ne rfl).ne rfl)
          have s7_21 := m21 _ _ ((((s7_20.ne rfl).ne rfl).ne rfl).ne rfl)
          have s42_21 := m21 _ _ (At.hit z20.put.put.put rfl)
          clear m21
          refine e_then ?_
          refine c_false s42_21 ?_
          refine wp_exit ?_
          refine x_then ?_
          refine x_then ?_
          refine in_exit ?_
          refine e_then ?_
          refine c_seq ?_
          refine c_seq ?_
          by_cases hb22 : (pathsN L k m).getD (cutP (pathsN L k m) ((L.getD k []).getD m zR).f0) ByteArray.empty = ((L.getD k []).getD m zR).f0
          · skip
            refine c_region ?_
            refine l_q rfl (q_move _ _ rfl s7_21.ev ?_)
            refine l_q rfl (q_move _ _ rfl (s3_21.ne rfl).ev ?_)
            refine l_q rfl (q_lenF rfl rfl Try.underlying25 (At.hit z21.put rfl).ev ox3_18.rd ?_)
            refine l_q rfl (q_lss true rfl (((At.hit z21 rfl).ne rfl).ne rfl).ev (At.hit z21.put.put rfl).ev (decide_eq_true (by omega)) ?_)
            refine l_q rfl (q_move _ _ rfl (At.hit z21.put.put.put rfl).ev ?_)
            refine l_qg (wanted_is (j := 4) (d := 49) (b := true) rfl rfl (At.hit z21.put.put.put.put rfl) rfl) (q_move _ _ rfl (((((s3_21.ne rfl).ne rfl).ne rfl).ne rfl).ne rfl).ev ?_)
            refine l_qg (wanted_is (j := 4) (d := 49) (b := true) rfl rfl ((At.hit z21.put.put.put.put rfl).ne rfl) rfl) (q_move _ _ rfl ((((((s7_21.ne rfl).ne rfl).ne rfl).ne rfl).ne rfl).ne rfl).ev ?_)
            refine l_qg (wanted_is (j := 4) (d := 49) (b := true) rfl rfl (((At.hit z21.put.put.put.put rfl).ne rfl).ne rfl) rfl) (q_idxF (j := (cutP (pathsN L k m) ((L.getD k []).getD m zR).f0)) rfl Try.underlying25 sz9 ((At.hit z21.put.put.put.put.put rfl).ne rfl).ev ox3_18.rd (At.hit z21.put.put.put.put.put.put rfl).ev (by omega) ?_)
            refine l_fresh z21.put.put.put.put.put.put.put.put ?_
            intro a23 z23 m23
            have s0_23 := m23 _ _ ((((((((s0_21.ne rfl).ne rfl).ne rfl).ne rfl).ne rfl).ne rfl).ne rfl).ne rfl)
            have s3_23 := m23 _ _ ((((((((s3_21.ne rfl).ne rfl).ne rfl).ne rfl).ne rfl).ne rfl).ne rfl).ne rfl)
            have s4_23 := m23 _ _ ((((((((s4_21.ne rfl).ne rfl).ne rfl).ne rfl).ne rfl).ne rfl).ne rfl).ne rfl)
            have s5_23 := m23 _ _ ((((((((s5_21.ne rfl).ne rfl).ne rfl).ne rfl).ne rfl).ne rfl).ne rfl).ne rfl)
            have s6_23 := m23 _ _ ((((((((s6_21.ne rfl).ne rfl).ne rfl).ne rfl).ne rfl).ne rfl).ne rfl).ne rfl)
            have s7_23 := m23 _ _ ((((((((s7_21.ne rfl).ne rfl).ne rfl).ne rfl).ne rfl).ne rfl).ne rfl).ne rfl)
            have s49_23 := m23 _ _ ((((At.hit z21.put.put.put.put rfl).ne rfl).ne rfl).ne rfl)
            have s52_23 := m23 _ _ (At.hit z21.put.put.put.put.put.put.put rfl)
            clear m23
            refine l_qg (wanted_is (j := 4) (d := 49) (b := true) rfl rfl s49_23 rfl) (q_ld1 (u := .string ((pathsN L k m).getD (cutP (pathsN L k m) ((L.getD k []).getD m zR).f0) ByteArray.empty)) rfl Try.underlying9 rfl s52_23.ev (fun _ e => by rw [e]; exact ox3_18.rd) (by omega) ((flat_at encS_len ByteArray.empty _ (cutP (pathsN L k m) ((L.getD k []).getD m zR).f0) 0 (by omega) (by decide)).trans rfl) ?_)
            refine l_qg (wanted_is (j := 4) (d := 49) (b := true) rfl rfl (s49_23.ne rfl) rfl) (q_move _ _ rfl (s6_23.ne rfl).ev ?_)
            refine l_qg (wanted_is (j := 4) (d := 49) (b := true) rfl rfl ((s49_23.ne rfl).ne rfl) rfl) (q_streq true rfl ((At.hit z23 rfl).ne rfl).ev (At.hit z23.put rfl).ev (strT hb22) ?_)
            refine l_q rfl (q_pick (b := true) (.bool true) rfl (((s49_23.ne rfl).ne rfl).ne rfl).ev (At.hit z23.put.put rfl).ev ?_)
            refine l_end ?_
            refine e_fresh z23.put.put.put.put ?_
            intro a24 z24 m24
            have s0_24 := m24 _ _ ((((s0_23.ne rfl).ne rfl).ne rfl).ne rfl)
            have s3_24 := m24 _ _ ((((s3_23.ne rfl).ne rfl).ne rfl).ne rfl)
            have s4_24 := m24 _ _ ((((s4_23.ne rfl).ne rfl).ne rfl).ne rfl)
            have s5_24 := m24 _ _ ((((s5_23.ne rfl).ne rfl).ne rfl).ne rfl)
            have s6_24 := m24 _ _ ((((s6_23.ne rfl).ne rfl).ne rfl).ne rfl)
            have s7_24 := m24 _ _ ((((s7_23.ne rfl).ne rfl).ne rfl).ne rfl)
            have s56_24 := m24 _ _ (At.hit z23.put.put.put rfl)
            clear m24
            refine e_then ?_
            refine c_true s56_24 ?_
            refine wp_exit ?_
            refine x_then ?_
            refine in_exit ?_
            refine e_then ?_
            refine c_region ?_
            refine l_q rfl (q_move _ _ rfl s5_24.ev ?_)
            refine l_q rfl (q_add (((m + 1 : Nat) : Int)) rfl (At.hit z24 rfl).ev rfl (i64_is (by omega) (by omega) (by omega)) ?_)
            refine l_q rfl (q_assign _ _ rfl (At.hit z24.put rfl).ev ?_)
            refine l_end ?_
            refine e_fresh z24.put.put.put ?_
            intro a25 z25 m25
            have s0_25 := m25 _ _ (((s0_24.ne rfl).ne rfl).ne rfl)
            have s3_25 := m25 _ _ (((s3_24.ne rfl).ne rfl).ne rfl)
            have s4_25 := m25 _ _ (((s4_24.ne rfl).ne rfl).ne rfl)
            have s5_25 := m25 _ _ (At.hit z24.put.put rfl)
            clear m25
            have c26 := OwnF.castL ox3_18 (show pathsN L k m = pathsN L k (m + 1) from (ins_same hb19 hb22).trans (pathsN_next L k m (by omega)))
            exact ⟨v3_7, z25, s0_25, s3_25, s4_25, s5_25, c26, low18⟩
          · skip
            refine c_region ?_
            refine l_q rfl (q_move _ _ rfl s7_21.ev ?_)
            refine l_q rfl (q_move _ _ rfl (s3_21.ne rfl).ev ?_)
            refine l_q rfl (q_lenF rfl rfl Try.underlying25 (At.hit z21.put rfl).ev ox3_18.rd ?_)
            refine l_q rfl (q_lss true rfl (((At.hit z21 rfl).ne rfl).ne rfl).ev (At.hit z21.put.put rfl).ev (decide_eq_true (by omega)) ?_)
            refine l_q rfl (q_move _ _ rfl (At.hit z21.put.put.put rfl).ev ?_)
            refine l_qg (wanted_is (j := 4) (d := 49) (b := true) rfl rfl (At.hit z21.put.put.put.put rfl) rfl) (q_move _ _ rfl (((((s3_21.ne rfl).ne rfl).ne rfl).ne rfl).ne rfl).ev ?_)
            refine l_qg (wanted_is (j := 4) (d := 49) (b := true) rfl rfl ((At.hit z21.put.put.put.put rfl).ne rfl) rfl) (q_move _ _ rfl ((((((s7_21.ne rfl).ne rfl).ne rfl).ne rfl).ne rfl).ne rfl).ev ?_)
            refine l_qg (wanted_is (j := 4) (d := 49) (b := true) rfl rfl (((At.hit z21.put.put.put.put rfl).ne rfl).ne rfl) rfl) (q_idxF (j := (cutP (pathsN L k m) ((L.getD k []).getD m zR).f0)) rfl Try.underlying25 sz9 ((At.hit z21.put.put.put.put.put rfl).ne rfl).ev ox3_18.rd (At.hit z21.put.put.put.put.put.put rfl).ev (by omega) ?_)
            refine l_fresh z21.put.put.put.put.put.put.put.put ?_
            intro a27 z27 m27
            have s0_27 := m27 _ _ ((((((((s0_21.ne rfl).ne rfl).ne rfl).ne rfl).ne rfl).ne rfl).ne rfl).ne rfl)
            have s3_27 := m27 _ _ ((((((((s3_21.ne rfl).ne rfl).ne rfl).ne rfl).ne rfl).ne rfl).ne rfl).ne rfl)
            have s4_27 := m27 _ _ ((((((((s4_21.ne rfl).ne rfl).ne rfl).ne rfl).ne rfl).ne rfl).ne rfl).ne rfl)
            have s5_27 := m27 _ _ ((((((((s5_21.ne rfl).ne rfl).ne rfl).ne rfl).ne rfl).ne rfl).ne rfl).ne rfl)
            have s6_27 := m27 _ _ ((((((((s6_21.ne rfl).ne rfl).ne rfl).ne rfl).ne rfl).ne rfl).ne rfl).ne rfl)
            have s7_27 := m27 _ _ ((((((((s7_21.ne rfl).ne rfl).ne rfl).ne rfl).ne rfl).ne rfl).ne rfl).ne rfl)
            have s49_27 := m27 _ _ ((((At.hit z21.put.put.put.put rfl).ne rfl).ne rfl).ne rfl)
            have s52_27 := m27 _ _ (At.hit z21.put.put.put.put.put.put.put rfl)
            clear m27
            refine l_qg (wanted_is (j := 4) (d := 49) (b := true) rfl rfl s49_27 rfl) (q_ld1 (u := .string ((pathsN L k m).getD (cutP (pathsN L k m) ((L.getD k []).getD m zR).f0) ByteArray.empty)) rfl Try.underlying9 rfl s52_27.ev (fun _ e => by rw [e]; exact ox3_18.rd) (by omega) ((flat_at encS_len ByteArray.empty _ (cutP (pathsN L k m) ((L.getD k []).getD m zR).f0) 0 (by omega) (by decide)).trans rfl) ?_)
            refine l_qg (wanted_is (j := 4) (d := 49) (b := true) rfl rfl (s49_27.ne rfl) rfl) (q_move _ _ rfl (s6_27.ne rfl).ev ?_)
            refine l_qg (wanted_is (j := 4) (d := 49) (b := true) rfl rfl ((s49_27.ne rfl).ne rfl) rfl) (q_streq false rfl ((At.hit z27 rfl).ne rfl).ev (At.hit z27.put rfl).ev (strF hb22) ?_)
            refine l_q rfl (q_pick (b := true) (.bool false) rfl (((s49_27.ne rfl).ne rfl).ne rfl).ev (At.hit z27.put.put rfl).ev ?_)
            refine l_end ?_
            refine e_fresh z27.put.put.put.put ?_
            intro a28 z28 m28
            have s0_28 := m28 _ _ ((((s0_27.ne rfl).ne rfl).ne rfl).ne rfl)
            have s3_28 := m28 _ _ ((((s3_27.ne rfl).ne rfl).ne rfl).ne rfl)
            have s4_28 := m28 _ _ ((((s4_27.ne rfl).ne rfl).ne rfl).ne rfl)
            have s5_28 := m28 _ _ ((((s5_27.ne rfl).ne rfl).ne rfl).ne rfl)
            have s6_28 := m28 _ _ ((((s6_27.ne rfl).ne rfl).ne rfl).ne rfl)
            have s7_28 := m28 _ _ ((((s7_27.ne rfl).ne rfl).ne rfl).ne rfl)
            have s56_28 := m28 _ _ (At.hit z27.put.put.put rfl)
            clear m28
            refine e_then ?_
            refine c_false s56_28 ?_
            refine wp_skip ?_
            refine e_then ?_
            refine region_ins 12 [none, some (v3_7), some (.int .i64 (((cutP (pathsN L k m) ((L.getD k []).getD m zR).f0) : Nat) : Int)), some ((headF v3_7 (cutP (pathsN L k m) ((L.getD k []).getD m zR).f0))), none, some (.string (((L.getD k []).getD m zR).f0)), none, none, some (v3_7), some (.int .i64 (((cutP (pathsN L k m) ((L.getD k []).getD m zR).f0) : Nat) : Int)), some ((cutF v3_7 (cutP (pathsN L k m) ((L.getD k []).getD m zR).f0) 1)), none] 0 57 4 61 6 63 7 64 11 68 60 3 62 5 67 10 (sz := 1) (xs := [.string (((L.getD k []).getD m zR).f0)]) hm (by kernel_rfl) (by kernel_rfl) z28 (by kernel_rfl) (by kernel_rfl) (by decide) (by decide) ⟨rfl, rfl, rfl, rfl, rfl⟩ ⟨rfl, rfl, rfl⟩ ⟨rfl, rfl, rfl⟩ ⟨_, rfl, rfl⟩ ⟨_, rfl, rfl, rfl, rfl⟩ ⟨_, rfl, rfl, rfl⟩ ⟨_, rfl, rfl, rfl, rfl⟩ ⟨_, rfl, rfl, rfl, rfl⟩ Try.underlying25 rec9 (by decide) (by decide) rfl rfl (encS_one (((L.getD k []).getD m zR).f0)) (RdF.headL encS_len ox3_18.rd (j := (cutP (pathsN L k m) ((L.getD k []).getD m zR).f0)) (by omega)) (RdF.cutL encS_len ox3_18.rd (j := (cutP (pathsN L k m) ((L.getD k []).getD m zR).f0)) (by omega)) (flat_one encS_one _) (flat_one encS_one _) (by rw [List.length_take, List.length_drop]; omega) (allV_cons trivial (allV_cons ?_ (allV_cons ?_ (allV_cons ?_ (allV_cons trivial (allV_cons ?_ (allV_cons trivial (allV_cons trivial (allV_cons ?_ (allV_cons ?_ (allV_cons ?_ (allV_cons trivial allV_nil)))))))))))) ?_
            · exact stepV_val _ rfl rfl fun _ _ _ lw kp kn => q_move _ _ rfl (kp _ _ rfl s3_28).ev rfl
            · exact stepV_val _ rfl rfl fun _ _ _ lw kp kn => q_move _ _ rfl (kp _ _ rfl s7_28).ev rfl
            · exact stepV_val _ rfl rfl fun _ _ _ lw kp kn => q_headF (i := (cutP (pathsN L k m) ((L.getD k []).getD m zR).f0)) rfl Try.underlying25 sz9 (kn 1 _ _ rfl rfl rfl).ev (kn 2 _ _ rfl rfl rfl).ev (ox3_18.low lw).rd (by omega) rfl
            · exact stepV_val _ rfl rfl fun _ _ _ lw kp kn => q_move _ _ rfl (kp _ _ rfl s6_28).ev rfl
            · exact stepV_val _ rfl rfl fun _ _ _ lw kp kn => q_move _ _ rfl (kp _ _ rfl s3_28).ev rfl
            · exact stepV_val _ rfl rfl fun _ _ _ lw kp kn => q_move _ _ rfl (kp _ _ rfl s7_28).ev rfl
            · exact stepV_val _ rfl rfl fun _ _ _ lw kp kn => q_cutF (i := (cutP (pathsN L k m) ((L.getD k []).getD m zR).f0)) rfl Try.underlying25 sz9 (kn 8 _ _ rfl rfl rfl).ev (kn 9 _ _ rfl rfl rfl).ev (ox3_18.low lw).rd (by omega) rfl
            intro a31 w31 v31 z31 h31 kp at31 q31
            have s0_31 := kp _ _ rfl s0_28
            have s3_31 := kp _ _ rfl s3_28
            have s4_31 := kp _ _ rfl s4_28
            have s5_31 := kp _ _ rfl s5_28
            have s6_31 := kp _ _ rfl s6_28
            have s7_31 := kp _ _ rfl s7_28
            have s56_31 := kp _ _ rfl s56_28
            clear kp
            have o31 := OwnF.ins q31 low18.ge
            have ox3_31 := ox3_18.low h31
            have ov_31 := (hv.low low18).low h31
            simp only [List.drop_succ_cons, List.drop_zero]
            refine l_q rfl (q_assign _ _ rfl at31.ev ?_)
            refine l_end ?_
            refine e_fresh z31.put ?_
            intro a32 z32 m32
            have s0_32 := m32 _ _ (s0_31.ne rfl)
            have s3_32 := m32 _ _ (At.hit z31 rfl)
            have s4_32 := m32 _ _ (s4_31.ne rfl)
            have s5_32 := m32 _ _ (s5_31.ne rfl)
            have low32 := (low18.trans h31)
            clear m32
            refine e_in ?_
            refine e_then ?_
            refine c_region ?_
            refine l_q rfl (q_move _ _ rfl s5_32.ev ?_)
            refine l_q rfl (q_add (((m + 1 : Nat) : Int)) rfl (At.hit z32 rfl).ev rfl (i64_is (by omega) (by omega) (by omega)) ?_)
            refine l_q rfl (q_assign _ _ rfl (At.hit z32.put rfl).ev ?_)
            refine l_end ?_
            refine e_fresh z32.put.put.put ?_
            intro a33 z33 m33
            have s0_33 := m33 _ _ (((s0_32.ne rfl).ne rfl).ne rfl)
            have s3_33 := m33 _ _ (((s3_32.ne rfl).ne rfl).ne rfl)
            have s4_33 := m33 _ _ (((s4_32.ne rfl).ne rfl).ne rfl)
            have s5_33 := m33 _ _ (At.hit z32.put.put rfl)
            clear m33
            have c34 := OwnF.castL o31 (show (pathsN L k m).take (cutP (pathsN L k m) ((L.getD k []).getD m zR).f0) ++ [((L.getD k []).getD m zR).f0] ++ (pathsN L k m).drop (cutP (pathsN L k m) ((L.getD k []).getD m zR).f0) = pathsN L k (m + 1) from (ins_new2 hb22).trans (pathsN_next L k m (by omega)))
            exact ⟨v31, z33, s0_33, s3_33, s4_33, s5_33, c34, low32⟩
        · skip
          refine c_region ?_
          refine l_q rfl (q_move _ _ rfl s7_18.ev ?_)
          refine l_q rfl (q_move _ _ rfl (s3_18.ne rfl).ev ?_)
          refine l_q rfl (q_lenF rfl rfl Try.underlying25 (At.hit z18.put rfl).ev ox3_18.rd ?_)
          refine l_q rfl (q_lss false rfl (((At.hit z18 rfl).ne rfl).ne rfl).ev (At.hit z18.put.put rfl).ev (decide_eq_false (by omega)) ?_)
          refine l_q rfl (q_move _ _ rfl (At.hit z18.put.put.put rfl).ev ?_)
          refine l_skip (wanted_is (j := 4) (d := 35) (b := false) rfl rfl (At.hit z18.put.put.put.put rfl) rfl) ?_
          refine l_skip (wanted_is (j := 4) (d := 35) (b := false) rfl rfl ((At.hit z18.put.put.put.put rfl).ne rfl) rfl) ?_
          refine l_skip (wanted_is (j := 4) (d := 35) (b := false) rfl rfl (((At.hit z18.put.put.put.put rfl).ne rfl).ne rfl) rfl) ?_
          refine l_fresh z18.put.put.put.put.put.put.put.put ?_
          intro a35 z35 m35
          have s0_35 := m35 _ _ ((((((((s0_18.ne rfl).ne rfl).ne rfl).ne rfl).ne rfl).ne rfl).ne rfl).ne rfl)
          have s3_35 := m35 _ _ ((((((((s3_18.ne rfl).ne rfl).ne rfl).ne rfl).ne rfl).ne rfl).ne rfl).ne rfl)
          have s4_35 := m35 _ _ ((((((((s4_18.ne rfl).ne rfl).ne rfl).ne rfl).ne rfl).ne rfl).ne rfl).ne rfl)
          have s5_35 := m35 _ _ ((((((((s5_18.ne rfl).ne rfl).ne rfl).ne rfl).ne rfl).ne rfl).ne rfl).ne rfl)
          have s6_35 := m35 _ _ ((((((((s6_18.ne rfl).ne rfl).ne rfl).ne rfl).ne rfl).ne rfl).ne rfl).ne rfl)
          have s7_35 := m35 _ _ ((((((((s7_18.ne rfl).ne rfl).ne rfl).ne rfl).ne rfl).ne rfl).ne rfl).ne rfl)
          have s35_35 := m35 _ _ ((((At.hit z18.put.put.put.put rfl).ne rfl).ne rfl).ne rfl)
          have s38_35 := m35 _ _ (At.hit z18.put.put.put.put.put.put.put rfl)
          clear m35
          refine l_skip (wanted_is (j := 4) (d := 35) (b := false) rfl rfl s35_35 rfl) ?_
          refine l_skip (wanted_is (j := 4) (d := 35) (b := false) rfl rfl (s35_35.ne rfl) rfl) ?_
          refine l_skip (wanted_is (j := 4) (d := 35) (b := false) rfl rfl ((s35_35.ne rfl).ne rfl) rfl) ?_
          refine l_q rfl (q_pick (b := false) (.bool false) rfl (((s35_35.ne rfl).ne rfl).ne rfl).ev rfl ?_)
          refine l_end ?_
          refine e_fresh z35.put.put.put.put ?_
          intro a36 z36 m36
          have s0_36 := m36 _ _ ((((s0_35.ne rfl).ne rfl).ne rfl).ne rfl)
          have s3_36 := m36 _ _ ((((s3_35.ne rfl).ne rfl).ne rfl).ne rfl)
          have s4_36 := m36 _ _ ((((s4_35.ne rfl).ne rfl).ne rfl).ne rfl)
          have s5_36 := m36 _ _ ((((s5_35.ne rfl).ne rfl).ne rfl).ne rfl)
          have s6_36 := m36 _ _ ((((s6_35.ne rfl).ne rfl).ne rfl).ne rfl)
          have s7_36 := m36 _ _ ((((s7_35.ne rfl).ne rfl).ne rfl).ne rfl)
          have s42_36 := m36 _ _ (At.hit z35.put.put.put rfl)
          clear m36
          refine e_then ?_
          refine c_false s42_36 ?_
          refine wp_exit ?_
          refine x_then ?_
          refine x_then ?_
          refine in_exit ?_
          refine e_then ?_
          refine c_seq ?_
          refine c_seq ?_
          refine c_region ?_
          refine l_q rfl (q_move _ _ rfl s7_36.ev ?_)
          refine l_q rfl (q_move _ _ rfl (s3_36.ne rfl).ev ?_)
          refine l_q rfl (q_lenF rfl rfl Try.underlying25 (At.hit z36.put rfl).ev ox3_18.rd ?_)
          refine l_q rfl (q_lss false rfl (((At.hit z36 rfl).ne rfl).ne rfl).ev (At.hit z36.put.put rfl).ev (decide_eq_false (by omega)) ?_)
          refine l_q rfl (q_move _ _ rfl (At.hit z36.put.put.put rfl).ev ?_)
          refine l_skip (wanted_is (j := 4) (d := 49) (b := false) rfl rfl (At.hit z36.put.put.put.put rfl) rfl) ?_
          refine l_skip (wanted_is (j := 4) (d := 49) (b := false) rfl rfl ((At.hit z36.put.put.put.put rfl).ne rfl) rfl) ?_
          refine l_skip (wanted_is (j := 4) (d := 49) (b := false) rfl rfl (((At.hit z36.put.put.put.put rfl).ne rfl).ne rfl) rfl) ?_
          refine l_fresh z36.put.put.put.put.put.put.put.put ?_
          intro a37 z37 m37
          have s0_37 := m37 _ _ ((((((((s0_36.ne rfl).ne rfl).ne rfl).ne rfl).ne rfl).ne rfl).ne rfl).ne rfl)
          have s3_37 := m37 _ _ ((((((((s3_36.ne rfl).ne rfl).ne rfl).ne rfl).ne rfl).ne rfl).ne rfl).ne rfl)
          have s4_37 := m37 _ _ ((((((((s4_36.ne rfl).ne rfl).ne rfl).ne rfl).ne rfl).ne rfl).ne rfl).ne rfl)
          have s5_37 := m37 _ _ ((((((((s5_36.ne rfl).ne rfl).ne rfl).ne rfl).ne rfl).ne rfl).ne rfl).ne rfl)
          have s6_37 := m37 _ _ ((((((((s6_36.ne rfl).ne rfl).ne rfl).ne rfl).ne rfl).ne rfl).ne rfl).ne rfl)
          have s7_37 := m37 _ _ ((((((((s7_36.ne rfl).ne rfl).ne rfl).ne rfl).ne rfl).ne rfl).ne rfl).ne rfl)
          have s49_37 := m37 _ _ ((((At.hit z36.put.put.put.put rfl).ne rfl).ne rfl).ne rfl)
          have s52_37 := m37 _ _ (At.hit z36.put.put.put.put.put.put.put rfl)
          clear m37
          refine l_skip (wanted_is (j := 4) (d := 49) (b := false) rfl rfl s49_37 rfl) ?_
          refine l_skip (wanted_is (j := 4) (d := 49) (b := false) rfl rfl (s49_37.ne rfl) rfl) ?_
          refine l_skip (wanted_is (j := 4) (d := 49) (b := false) rfl rfl ((s49_37.ne rfl).ne rfl) rfl) ?_
          refine l_q rfl (q_pick (b := false) (.bool false) rfl (((s49_37.ne rfl).ne rfl).ne rfl).ev rfl ?_)
          refine l_end ?_
          refine e_fresh z37.put.put.put.put ?_
          intro a38 z38 m38
          have s0_38 := m38 _ _ ((((s0_37.ne rfl).ne rfl).ne rfl).ne rfl)
          have s3_38 := m38 _ _ ((((s3_37.ne rfl).ne rfl).ne rfl).ne rfl)
          have s4_38 := m38 _ _ ((((s4_37.ne rfl).ne rfl).ne rfl).ne rfl)
          have s5_38 := m38 _ _ ((((s5_37.ne rfl).ne rfl).ne rfl).ne rfl)
          have s6_38 := m38 _ _ ((((s6_37.ne rfl).ne rfl).ne rfl).ne rfl)
          have s7_38 := m38 _ _ ((((s7_37.ne rfl).ne rfl).ne rfl).ne rfl)
          have s56_38 := m38 _ _ (At.hit z37.put.put.put rfl)
          clear m38
          refine e_then ?_
          refine c_false s56_38 ?_
          refine wp_skip ?_
          refine e_then ?_
          refine region_ins 12 [none, some (v3_7), some (.int .i64 (((cutP (pathsN L k m) ((L.getD k []).getD m zR).f0) : Nat) : Int)), some ((headF v3_7 (cutP (pathsN L k m) ((L.getD k []).getD m zR).f0))), none, some (.string (((L.getD k []).getD m zR).f0)), none, none, some (v3_7), some (.int .i64 (((cutP (pathsN L k m) ((L.getD k []).getD m zR).f0) : Nat) : Int)), some ((cutF v3_7 (cutP (pathsN L k m) ((L.getD k []).getD m zR).f0) 1)), none] 0 57 4 61 6 63 7 64 11 68 60 3 62 5 67 10 (sz := 1) (xs := [.string (((L.getD k []).getD m zR).f0)]) hm (by kernel_rfl) (by kernel_rfl) z38 (by kernel_rfl) (by kernel_rfl) (by decide) (by decide) ⟨rfl, rfl, rfl, rfl, rfl⟩ ⟨rfl, rfl, rfl⟩ ⟨rfl, rfl, rfl⟩ ⟨_, rfl, rfl⟩ ⟨_, rfl, rfl, rfl, rfl⟩ ⟨_, rfl, rfl, rfl⟩ ⟨_, rfl, rfl, rfl, rfl⟩ ⟨_, rfl, rfl, rfl, rfl⟩ Try.underlying25 rec9 (by decide) (by decide) rfl rfl (encS_one (((L.getD k []).getD m zR).f0)) (RdF.headL encS_len ox3_18.rd (j := (cutP (pathsN L k m) ((L.getD k []).getD m zR).f0)) (by omega)) (RdF.cutL encS_len ox3_18.rd (j := (cutP (pathsN L k m) ((L.getD k []).getD m zR).f0)) (by omega)) (flat_one encS_one _) (flat_one encS_one _) (by rw [List.length_take, List.length_drop]; omega) (allV_cons trivial (allV_cons ?_ (allV_cons ?_ (allV_cons ?_ (allV_cons trivial (allV_cons ?_ (allV_cons trivial (allV_cons trivial (allV_cons ?_ (allV_cons ?_ (allV_cons ?_ (allV_cons trivial allV_nil)))))))))))) ?_
          · exact stepV_val _ rfl rfl fun _ _ _ lw kp kn => q_move _ _ rfl (kp _ _ rfl s3_38).ev rfl
          · exact stepV_val _ rfl rfl fun _ _ _ lw kp kn => q_move _ _ rfl (kp _ _ rfl s7_38).ev rfl
          · exact stepV_val _ rfl rfl fun _ _ _ lw kp kn => q_headF (i := (cutP (pathsN L k m) ((L.getD k []).getD m zR).f0)) rfl Try.underlying25 sz9 (kn 1 _ _ rfl rfl rfl).ev (kn 2 _ _ rfl rfl rfl).ev (ox3_18.low lw).rd (by omega) rfl
          · exact stepV_val _ rfl rfl fun _ _ _ lw kp kn => q_move _ _ rfl (kp _ _ rfl s6_38).ev rfl
          · exact stepV_val _ rfl rfl fun _ _ _ lw kp kn => q_move _ _ rfl (kp _ _ rfl s3_38).ev rfl
          · exact stepV_val _ rfl rfl fun _ _ _ lw kp kn => q_move _ _ rfl (kp _ _ rfl s7_38).ev rfl
          · exact stepV_val _ rfl rfl fun _ _ _ lw kp kn => q_cutF (i := (cutP (pathsN L k m) ((L.getD k []).getD m zR).f0)) rfl Try.underlying25 sz9 (kn 8 _ _ rfl rfl rfl).ev (kn 9 _ _ rfl rfl rfl).ev (ox3_18.low lw).rd (by omega) rfl
          intro a41 w41 v41 z41 h41 kp at41 q41
          have s0_41 := kp _ _ rfl s0_38
          have s3_41 := kp _ _ rfl s3_38
          have s4_41 := kp _ _ rfl s4_38
          have s5_41 := kp _ _ rfl s5_38
          have s6_41 := kp _ _ rfl s6_38
          have s7_41 := kp _ _ rfl s7_38
          have s56_41 := kp _ _ rfl s56_38
          clear kp
          have o41 := OwnF.ins q41 low18.ge
          have ox3_41 := ox3_18.low h41
          have ov_41 := (hv.low low18).low h41
          simp only [List.drop_succ_cons, List.drop_zero]
          refine l_q rfl (q_assign _ _ rfl at41.ev ?_)
          refine l_end ?_
          refine e_fresh z41.put ?_
          intro a42 z42 m42
          have s0_42 := m42 _ _ (s0_41.ne rfl)
          have s3_42 := m42 _ _ (At.hit z41 rfl)
          have s4_42 := m42 _ _ (s4_41.ne rfl)
          have s5_42 := m42 _ _ (s5_41.ne rfl)
          have low42 := (low18.trans h41)
          clear m42
          refine e_in ?_
          refine e_then ?_
          refine c_region ?_
          refine l_q rfl (q_move _ _ rfl s5_42.ev ?_)
          refine l_q rfl (q_add (((m + 1 : Nat) : Int)) rfl (At.hit z42 rfl).ev rfl (i64_is (by omega) (by omega) (by omega)) ?_)
          refine l_q rfl (q_assign _ _ rfl (At.hit z42.put rfl).ev ?_)
          refine l_end ?_
          refine e_fresh z42.put.put.put ?_
          intro a43 z43 m43
          have s0_43 := m43 _ _ (((s0_42.ne rfl).ne rfl).ne rfl)
          have s3_43 := m43 _ _ (((s3_42.ne rfl).ne rfl).ne rfl)
          have s4_43 := m43 _ _ (((s4_42.ne rfl).ne rfl).ne rfl)
          have s5_43 := m43 _ _ (At.hit z42.put.put rfl)
          clear m43
          have c44 := OwnF.castL o41 (show (pathsN L k m).take (cutP (pathsN L k m) ((L.getD k []).getD m zR).f0) ++ [((L.getD k []).getD m zR).f0] ++ (pathsN L k m).drop (cutP (pathsN L k m) ((L.getD k []).getD m zR).f0) = pathsN L k (m + 1) from (ins_new1 hb19).trans (pathsN_next L k m (by omega)))
          exact ⟨v41, z43, s0_43, s3_43, s4_43, s5_43, c44, low42⟩
    · intro a45 w45 h
      obtain ⟨v3_45, z45, s0_45, s3_45, s4_45, s5_45, ox3_45, low45⟩ := h
      clear low4 s0_6 s3_6 s4_6 s5_6 z6
      have hrl := row_len L k 900000 (by omega) hL
      refine c_seq ?_
      refine c_seq ?_
      refine c_region ?_
      refine l_q rfl (q_move _ _ rfl s5_45.ev ?_)
      refine l_q rfl (q_move _ _ rfl (s0_45.ne rfl).ev ?_)
      refine l_q rfl (q_move _ _ rfl ((s4_45.ne rfl).ne rfl).ev ?_)
      refine l_q rfl (q_idxF (j := k) rfl Try.underlying58 sz28 ((At.hit z45.put rfl).ne rfl).ev (hv.low low45).1 (At.hit z45.put.put rfl).ev (by omega) ?_)
      refine l_q rfl (q_ld1 (u := (vs.getD k nilS)) rfl Try.underlying28 rfl (At.hit z45.put.put.put rfl).ev (fun _ e => by rw [e]; exact (hv.low low45).1) (by omega) (RdFF.cell (hv.low low45) (by omega)) ?_)
      refine l_q rfl (q_lenF rfl rfl Try.underlying28 (At.hit z45.put.put.put.put rfl).ev (RdFF.row (k := k) (hv.low low45) (by omega)) ?_)
      refine l_q rfl (q_lss false rfl ((((((At.hit z45 rfl).ne rfl).ne rfl).ne rfl).ne rfl).ne rfl).ev (At.hit z45.put.put.put.put.put rfl).ev (decide_eq_false (by omega)) ?_)
      refine l_end ?_
      refine e_fresh z45.put.put.put.put.put.put.put ?_
      intro a47 z47 m47
      have s0_47 := m47 _ _ (((((((s0_45.ne rfl).ne rfl).ne rfl).ne rfl).ne rfl).ne rfl).ne rfl)
      have s3_47 := m47 _ _ (((((((s3_45.ne rfl).ne rfl).ne rfl).ne rfl).ne rfl).ne rfl).ne rfl)
      have s4_47 := m47 _ _ (((((((s4_45.ne rfl).ne rfl).ne rfl).ne rfl).ne rfl).ne rfl).ne rfl)
      have s5_47 := m47 _ _ (((((((s5_45.ne rfl).ne rfl).ne rfl).ne rfl).ne rfl).ne rfl).ne rfl)
      have s20_47 := m47 _ _ (At.hit z45.put.put.put.put.put.put rfl)
      clear m47
      refine e_then ?_
      refine c_false s20_47 ?_
      refine wp_exit ?_
      refine x_then ?_
      refine x_then ?_
      refine in_exit ?_
      refine e_in ?_
      refine e_then ?_
      refine c_region ?_
      refine l_q rfl (q_move _ _ rfl s4_47.ev ?_)
      refine l_q rfl (q_add (((k + 1 : Nat) : Int)) rfl (At.hit z47 rfl).ev rfl (i64_is (by omega) (by omega) (by omega)) ?_)
      refine l_q rfl (q_assign _ _ rfl (At.hit z47.put rfl).ev ?_)
      refine l_end ?_
      refine e_fresh z47.put.put.put ?_
      intro a48 z48 m48
      have s0_48 := m48 _ _ (((s0_47.ne rfl).ne rfl).ne rfl)
      have s3_48 := m48 _ _ (((s3_47.ne rfl).ne rfl).ne rfl)
      have s4_48 := m48 _ _ (At.hit z47.put.put rfl)
      clear m48
      have c49 := OwnF.castL ox3_45 (show pathsN L k ((L.getD k []).length) = pathsN L (k + 1) 0 from pathsN_row L k (by omega))
      exact ⟨v3_45, z48, s0_48, s3_48, s4_48, c49, low45⟩
  · intro a50 w50 h
    obtain ⟨v3_50, z50, s0_50, s3_50, s4_50, ox3_50, low50⟩ := h
    clear s0_3 s3_3 s4_3 z3
    refine c_seq ?_
    refine c_seq ?_
    refine c_region ?_
    refine l_q rfl (q_move _ _ rfl s4_50.ev ?_)
    refine l_q rfl (q_move _ _ rfl (s0_50.ne rfl).ev ?_)
    refine l_q rfl (q_lenF rfl rfl Try.underlying58 (At.hit z50.put rfl).ev (hv.low low50).1 ?_)
    refine l_q rfl (q_lss false rfl (((At.hit z50 rfl).ne rfl).ne rfl).ev (At.hit z50.put.put rfl).ev (decide_eq_false (by omega)) ?_)
    refine l_end ?_
    refine e_fresh z50.put.put.put.put ?_
    intro a51 z51 m51
    have s0_51 := m51 _ _ ((((s0_50.ne rfl).ne rfl).ne rfl).ne rfl)
    have s3_51 := m51 _ _ ((((s3_50.ne rfl).ne rfl).ne rfl).ne rfl)
    have s4_51 := m51 _ _ ((((s4_50.ne rfl).ne rfl).ne rfl).ne rfl)
    have s11_51 := m51 _ _ (At.hit z50.put.put.put rfl)
    clear m51
    refine e_then ?_
    refine c_false s11_51 ?_
    refine wp_exit ?_
    refine x_then ?_
    refine x_then ?_
    refine in_exit ?_
    refine e_then ?_
    refine c_seq ?_
    refine c_region ?_
    refine l_q rfl (q_move _ _ rfl s3_51.ev ?_)
    refine l_q rfl (q_assign _ _ rfl (At.hit z51 rfl).ev ?_)
    refine l_end ?_
    refine e_fresh z51.put.put ?_
    intro a52 z52 m52
    have s2_52 := m52 _ _ (At.hit z51.put rfl)
    clear m52
    refine e_then ?_
    refine wp_ret ?_
    refine r_tmp rfl z52.defers s2_52 ?_
    rw [pathsN_end] at ox3_50; exact ⟨_, rfl, ox3_50, low50⟩
end Go.Proofs.Ytenbgnlkkmnmhaa.Q
end
/-! Q19 -/
section
namespace Go.Proofs.Ytenbgnlkkmnmhaa.Q
open Go.RowKit
set_option linter.unusedVariables false
set_option linter.unusedSimpArgs false
section
variable {P : Program} {Q : Exit → Act → World → Prop} {a : Act} {w : World} {o : Oper} {ops : Array Oper} {rest : List Oper}
def bare (o : Oper) : Oper := { o with guard := none }
theorem bare_wp (o : Oper) {P : Program} {a : Act} {w : World} {K : Act → World → Prop} {Q : Exit → Act → World → Prop} : (bare o).wp P a w K Q = o.wp P a w K Q := by cases o; rfl
theorem bare_dstAt (l : List Oper) (i : Nat) : dstAt (l.map bare) i = dstAt l i := by
  rw [← dstOf_eq, ← dstOf_eq]
  unfold dstOf
  rw [List.getElem?_map]
  cases l[i]? <;> rfl
theorem bare_notDst (l : List Oper) (t : Nat) : notDst (l.map bare) t = notDst l t := by
  unfold notDst
  rw [List.all_map]
  rfl
def AllG (l : List Oper) (T : Nat → Value → World → Prop) : Nat → List Oper → Prop
  | k, o :: r => (o.guard = none ∨ ∃ j want d, o.guard = some (j, want) ∧ depB o j = true ∧ dstAt l j = some d ∧ ∀ v w, T j v w → v = .bool want) ∧ AllG l T (k + 1) r
  | _, [] => True
theorem allG_none {l : List Oper} {T : Nat → Value → World → Prop} {k : Nat} {o : Oper} {r : List Oper} (h : o.guard = none) (h' : AllG l T (k + 1) r) : AllG l T k (o :: r) := ⟨.inl h, h'⟩
theorem allG_some {l : List Oper} {T : Nat → Value → World → Prop} {k : Nat} {o : Oper} {r : List Oper} (j : Nat) (want : Bool) (d : Nat) (h : o.guard = some (j, want)) (hd : depB o j = true) (hdj : dstAt l j = some d) (hT : ∀ v w, T j v w → v = .bool want) (h' : AllG l T (k + 1) r) : AllG l T k (o :: r) := ⟨.inr ⟨j, want, d, h, hd, hdj, hT⟩, h'⟩
theorem allG_nil {l : List Oper} {T : Nat → Value → World → Prop} {k : Nat} : AllG l T k [] := trivial
theorem allG_spec {T : Nat → Value → World → Prop} {l : List Oper} : ∀ (r : List Oper) (k0 : Nat), AllG l T k0 r → ∀ (k : Nat) (o : Oper), r[k]? = some o → (o.guard = none ∨ ∃ j want d, o.guard = some (j, want) ∧ depB o j = true ∧ dstAt l j = some d ∧ ∀ v w, T j v w → v = .bool want)
  | [], _, _, k, o, h => by simp at h
  | o :: r, k0, h, k, o', ho => by
    cases k with
    | zero =>
      simp only [List.getElem?_cons_zero, Option.some.injEq] at ho
      subst ho
      exact h.1
    | succ k => exact allG_spec r (k0 + 1) h.2 k o' (by simpa using ho)
/-- the region, by a relation over what is listed -/
theorem region_invg {id : Nat} {W : World} {l : List Oper} (I : Array Bool → Act → World → Prop) (hm : P.follows .mixedOrders = true) (hB : backB .any l.toArray = true)
    (h0 : I (Array.replicate l.length false) a { W with drawn := W.drawn + 1 })
    (step : ∀ (i : Nat) (o : Oper) (L : Array Bool) (a : Act) (w : World), l[i]? = some o → L.size = l.length → L.getD i true = false → (∀ e ∈ o.after, Region.binds .any e = true → L.getD e.on false = true) → I L a w → Region.wanted o (yielded l.toArray a.tmps) = true ∧ o.wp P a w (I (L.setIfInBounds i true)) Q)
    (done : ∀ (L : Array Bool) (a : Act) (w : World), L.size = l.length → (∀ i, i < l.length → L.getD i false = true) → I L a w → Q .normal a w) : (Code.region id l.toArray true).wp P Q a W := by
  refine wp_region_any hm ?_
  have key : ∀ (fuel : Nat) (L : Array Bool) (a : Act) (w : World), L.size = l.length → L.toList.count false = fuel → I L a w → wpAny P .any l.toArray Q fuel L a w := by
    intro fuel
    have nrd : ∀ (L : Array Bool), L.size = l.length → L.toList.count false ≠ 0 → Region.ready .any l.toArray L ≠ [] := by
      intro L hL hc hnil
      apply hc
      apply List.count_eq_zero.2
      intro hmem
      obtain ⟨i, hi, hf⟩ := List.getElem_of_mem hmem
      simp only [Array.length_toList] at hi
      refine some_ready (ops := l.toArray) (by simpa using hL) hB i (by simpa [hL] using hi) ?_ hnil
      simp only [Array.getElem_toList] at hf
      simp [Array.getD_eq_getD_getElem?, hi, hf]
    induction fuel with
    | zero =>
      intro L a w hL hc hI
      have hall : ∀ i, i < l.length → L.getD i false = true := fun i hi => by
        have := count_zero L.toList hc i (by simpa [hL] using hi)
        simpa [Array.getD_eq_getD_getElem?, List.getD_eq_getElem?_getD] using this
      refine ⟨?_, done L a w hL hall hI⟩
      rw [List.eq_nil_iff_forall_not_mem]
      intro j hj
      obtain ⟨hju, o, ho, _⟩ := mem_ready.1 hj
      have hjl : j < l.length := by have := (Array.getElem?_eq_some_iff.1 ho).1; simpa using this
      have := hall j hjl
      rw [getD_both hju] at this
      cases this
    | succ fuel ih =>
      intro L a w hL hc hI
      refine ⟨fun h => absurd h (nrd L hL (by omega)), fun i hi => ?_⟩
      obtain ⟨hun, o, ho, hall⟩ := mem_ready.1 hi
      have hol : l[i]? = some o := by simpa using ho
      unfold wpOp
      simp only [ho]
      have hst := step i o L a w hol hL hun hall hI
      rw [if_pos hst.1]
      refine .inl (Oper.wp_mono (fun a' w' h => ih _ a' w' (by simpa using hL) ?_ h) hst.2)
      have := count_set L.toList i (by simpa [Array.getD_eq_getD_getElem?, List.getD_eq_getElem?_getD] using hun)
      rw [Array.toList_setIfInBounds]
      omega
  have := key l.length (Array.replicate l.length false) a _ (by simp) (by simp) h0
  simpa using this
theorem region_someg {id : Nat} {W : World} {l : List Oper} {N : Nat} (T : Nat → Value → World → Prop) (R : World → World → Prop) (hm : P.follows .mixedOrders = true) (hB : (backB .any l.toArray && distB l) = true) (z : Fr N a)
    (hR0 : R W { W with drawn := W.drawn + 1 }) (hRt : ∀ a b c, R a b → R b c → R a c) (hT : ∀ i v w w', T i v w → R w w' → T i v w') (H : AllS P (l.map bare) T R N a W 0 (l.map bare)) (G : AllG l T 0 l)
    (done : ∀ a' w', Fr N a' → R W w' → (∀ t v, notDst l t = true → At a t v → At a' t v) → (∀ i d, dstAt l i = some d → ∃ v, At a' d v ∧ T i v w') → Q .normal a' w') : (Code.region id l.toArray true).wp P Q a W := by
  rw [Bool.and_eq_true] at hB
  obtain ⟨hb, hd⟩ := hB
  refine region_invg (Inv2 l T R N a W) hm hb ⟨z, hR0, fun _ _ _ h => h, fun i d h => ?_⟩ ?_ ?_
  · unfold Has at h; rw [getD_replicate_false] at h; cases h
  · intro i o L a' w ho hL hun hdep hI
    have hil : i < l.length := (List.getElem?_eq_some_iff.1 ho).1
    have hst := allS_spec (l.map bare) 0 H i (bare o) (by rw [List.getElem?_map, ho]; rfl)
    rw [Nat.zero_add] at hst
    obtain ⟨d, h1, h2, h3⟩ := hst
    have h1 : o.dst = some d := h1
    have hw : Region.wanted o (yielded l.toArray a'.tmps) = true := by
      have hG := allG_spec l 0 G i o ho
      rcases hG with hg | ⟨j, want, dj, hg, hdep', hdj, hT'⟩
      · exact wanted_plain (by rw [hg]; rfl)
      · obtain ⟨e, he, hbe, hon⟩ := dep_spec hdep'
        have hj := hdep e he hbe
        rw [hon] at hj
        obtain ⟨v, hv, ht⟩ := hI.told j dj hj (by rw [dstOf_eq]; exact hdj)
        rw [hT' v w ht] at hv
        exact wanted_is hg hdj hv (by cases want <;> rfl)
    refine ⟨hw, ?_⟩
    have hdi : dstOf l i = some d := by unfold dstOf; rw [ho]; exact h1
    refine Oper.wp_mono (fun a'' w'' h => ?_) ((bare_wp o) ▸ wp_just (h3 a' w hI.fr hI.rel (fun t u ht => hI.keep t u (fun i => notDst_spec (by rw [← bare_notDst]; exact ht) i)) (fun j dj hj hdj => ?_)) rfl)
    · obtain ⟨v, rfl, hr, ht⟩ := h
      rw [show (bare o).dst = some d from h1]
      refine ⟨hI.fr.put, hRt _ _ _ hI.rel hr, fun t u htt hu => (hI.keep t u htt hu).ne' (fun e => htt i (by rw [hdi, e])), fun j dj hj hdj => ?_⟩
      rw [has_set (by omega)] at hj
      by_cases hji : j = i
      · subst hji
        rw [hdi] at hdj
        injection hdj with hdj
        subst hdj
        exact ⟨v, At.hit hI.fr h2, ht⟩
      · obtain ⟨u, hu, htu⟩ := hI.told j dj (hj.resolve_left hji) hdj
        exact ⟨u, hu.ne' (fun e => hji (dist_spec hd j i dj hdj (by rw [hdi, e]))), hT _ _ _ _ htu hr⟩
    · obtain ⟨e, he, hbe, hon⟩ := dep_spec (o := o) hj
      have := hdep e he hbe
      rw [hon] at this
      exact hI.told j dj this (by rw [dstOf_eq, ← bare_dstAt]; exact hdj)
  · intro L a' w' hL hAll hI
    refine done a' w' hI.fr hI.rel (fun t v ht => hI.keep t v (fun i => notDst_spec ht i)) (fun i d hdd => ?_)
    have hil : i < l.length := by
      rcases Nat.lt_or_ge i l.length with h | h
      · exact h
      · rw [← dstOf_eq] at hdd; simp [dstOf, List.getElem?_eq_none h] at hdd
    exact hI.told i d (hAll i hil) (by rw [dstOf_eq]; exact hdd)
theorem OwnF.updn {w' : World} {B g : Nat} {E : TypeId} {sz : Nat} {v : Value} {n : Nat} {cs : List Value} (h : OwnF w B E sz v n cs) (u : Upd g w w') (hl : ∀ k, v.ownBlock = some k → k < g) : OwnF w' B E sz v n cs := h.keep fun k hk => u.block k (Nat.ne_of_lt (hl k hk))
theorem GrW.blkn {B : Nat} {E : TypeId} {v : Value} {w' : World} (h : GrW B E v w w') {g : Nat} {o : Obj} (hg : w.heap[g]? = some o) (hl : ∀ k, v.ownBlock = some k → k < g) : w'.heap[g]? = some o := (h.block g (heap_lt hg) fun e => by have := hl g e; omega).trans hg
theorem GrW.blka {B : Nat} {E : TypeId} {v : Value} {w' : World} (h : GrW B E v w w') {g : Nat} {o : Obj} (hg : w.heap[g]? = some o) (hl : ∀ k, v.ownBlock = some k → k ≠ g) : w'.heap[g]? = some o := (h.block g (heap_lt hg) fun e => hl g e rfl).trans hg
theorem apart_nil (g : Nat) : ∀ k, (Value.slice none 0 0).ownBlock = some k → k ≠ g := fun k hk => by simp [Value.ownBlock] at hk
theorem apart_app {v v' : Value} {g n : Nat} (h : v'.ownBlock = v.ownBlock ∨ v'.ownBlock = some n) (ha : ∀ k, v.ownBlock = some k → k ≠ g) (hg : g < n) : ∀ k, v'.ownBlock = some k → k ≠ g := fun k hk => by
  rcases h with h | h
  · exact ha k (h ▸ hk)
  · rw [h] at hk
    injection hk with hk
    omega
theorem l_appFo {B : Nat} {E t : TypeId} {sz : Nat} {s x : Operand} {v : Value} {n : Nat} {cs vs : List Value} {g : Nat} (hg : o.guard = none) (ho : o.op = .call { callee := .builtin .append, args := #[s, x], argTypes := #[t, t] })
    (ht : P.underlying t = some (.slice E)) (hE : recB P E sz = true) (hs : a.eval s = v) (hx : a.eval x = .slice (some ⟨g, 0, none⟩) 1 1) (hb : w.heap[g]? = some (.cells vs.toArray E)) (hl : vs.length = sz) (hp : 0 < sz) (h1 : vs.all (·.oneCell') = true)
    (hv : OwnF w B E sz v n cs) (hB : B ≤ w.heap.size) (hbd : n + 1 ≤ 1000000)
    (h : ∀ v' w', OwnF w' B E sz v' (n + 1) (cs ++ vs) → GrW B E v w w' → (v'.ownBlock = v.ownBlock ∨ v'.ownBlock = some w.heap.size) → wpList P ops Q rest (a.put o.dst v') w') : wpList P ops Q (o :: rest) a w := by
  obtain ⟨v', w', hrun, r1, r2, r3⟩ := run_app1 (ty := o.type) ht hE hp hb hl (fun u hu => List.all_eq_true.1 h1 u hu) hv hB hbd
  refine wpList_plain hg fun K hK => ?_
  have hrun' : (execOp a.eval o).run P w = .ok (.value v') w' := by
    unfold execOp
    simp [ho, resolve, invoke, builtin, hs, hx, hrun]
  unfold Oper.wp
  rw [hrun']
  exact hK _ _ (h _ _ r1 r2 r3)
/-- two records of three cells -/
theorem l_two3 {E t : TypeId} {x0 x1 : Operand} {p0 p1 p2 q0 q1 q2 : Value} (hg : o.guard = none) (ho : o.op = .buildSlice t 2 #[(0, x0), (1, x1)]) (ht : P.underlying t = some (.slice E)) (hE : recB P E 3 = true) (h0 : a.eval x0 = .agg #[p0, p1, p2]) (h1 : a.eval x1 = .agg #[q0, q1, q2])
    (h : ∀ g w', w.heap.size ≤ g → w'.heap[g]? = some (.cells #[p0, p1, p2, q0, q1, q2] E) → Low w w' → wpList P ops Q rest (a.put o.dst (.slice (some ⟨g, 0, none⟩) 2 2)) w') : wpList P ops Q (o :: rest) a w := by
  obtain ⟨i, z, hi, hz, hs, h3, h4⟩ := recB_spec hE
  refine wpList_plain hg fun K hK => ?_
  have hrun : (execOp a.eval o).run P w = .ok (.value (.slice (some ⟨w.heap.size, 0, none⟩) 2 2)) (w.alloc (.cells #[p0, p1, p2, q0, q1, q2] E)) := by
    have hc : ∀ cs, (Value.agg cs).cells = cs := fun _ => rfl
    have hr : (Array.range 6).map (z.cells[· % z.cells.size]!) = #[z.cells[0 % z.cells.size]!, z.cells[1 % z.cells.size]!, z.cells[2 % z.cells.size]!, z.cells[3 % z.cells.size]!, z.cells[4 % z.cells.size]!, z.cells[5 % z.cells.size]!] := by
      rw [show Array.range 6 = #[0, 1, 2, 3, 4, 5] from by decide]
      simp only [List.map_toArray, List.map_cons, List.map_nil]
    unfold execOp
    simp [ho, h0, h1, Instr.buildSlice, Sem.run_bind, run_underlying ht w, sizeOf, typeInfo, zeroValue, hi, hs, hz, run_newRow, hr, Instr.fill, hc]
  unfold Oper.wp
  rw [hrun]
  exact hK _ _ (h _ _ (Nat.le_refl _) (new_block _ _) (low_new _ _))
end
end Go.Proofs.Ytenbgnlkkmnmhaa.Q
end
/-! M4 -/
section
namespace Go.Proofs.Ytenbgnlkkmnmhaa.Q
open Go.RowKit
set_option linter.unusedSimpArgs false
def gatN (L : List (List LfL)) (k m : Nat) : List ByteArray := ((L.take k).flatten ++ (L.getD k []).take m).map (·.f0)
theorem gat_next (L : List (List LfL)) (k m : Nat) (hm : m < (L.getD k []).length) : gatN L k m ++ [((L.getD k []).getD m zL).f0] = gatN L k (m + 1) := by
  unfold gatN
  rw [getD_next _ m zL hm, ← List.append_assoc, List.map_append (l₂ := [_])]
  rfl
theorem gat_row (L : List (List LfL)) (k : Nat) (hk : k < L.length) : gatN L k (L.getD k []).length = gatN L (k + 1) 0 := by
  unfold gatN
  rw [List.take_of_length_le (Nat.le_refl _), List.take_zero, List.append_nil, getD_next L k [] hk, List.flatten_append]
  simp
theorem gat_end (L : List (List LfL)) : gatN L L.length 0 = L.flatten.map (·.f0) := by
  unfold gatN
  rw [List.take_of_length_le (Nat.le_refl _), List.take_zero, List.append_nil]
theorem flat_take_le {α : Type} (L : List (List α)) (k m : Nat) : ((L.take k).flatten ++ (L.getD k []).take m).length ≤ L.flatten.length := by
  rcases Nat.lt_or_ge k L.length with h | h
  · exact flat_take_len L k m h
  · rw [List.take_of_length_le h, List.getD_eq_getElem?_getD, List.getElem?_eq_none h]
    simp
theorem gat_len (L : List (List LfL)) (k m n : Nat) (hn : L.flatten.length ≤ n) : (gatN L k m).length ≤ n := by
  unfold gatN
  rw [List.length_map]
  exact Nat.le_trans (flat_take_le L k m) hn
def pathsT (b o t : List LfL) : List ByteArray := compB (sortB ((b ++ (o ++ t)).map (·.f0)))
theorem gat_paths {L : List (List LfL)} {b o t : List LfL} (h : L = [b, o, t]) : compB (sortB (gatN L L.length 0)) = pathsT b o t := by
  rw [gat_end, h]
  unfold pathsT
  simp
def cellT (b o t : List LfL) (p : ByteArray) : LfL := if findL o p = findL t p ∨ findL t p = findL b p then findL o p else if findL o p = findL b p then findL t p else findL o p
def clashT (b o t : List LfL) (p : ByteArray) : Bool := decide (¬ findL o p = findL t p ∧ ¬ findL t p = findL b p ∧ ¬ findL o p = findL b p)
section
variable {b o t : List LfL} {p : ByteArray}
theorem cell_1 (h : findL o p = findL t p) : cellT b o t p = findL o p := if_pos (.inl h)
theorem cell_2 (h : findL t p = findL b p) : cellT b o t p = findL o p := if_pos (.inr h)
theorem cell_3 (h1 : ¬ findL o p = findL t p) (h2 : ¬ findL t p = findL b p) (h3 : findL o p = findL b p) : cellT b o t p = findL t p := by
  unfold cellT
  rw [if_neg (fun h => h.elim h1 h2), if_pos h3]
theorem cell_4 (h1 : ¬ findL o p = findL t p) (h2 : ¬ findL t p = findL b p) (h3 : ¬ findL o p = findL b p) : cellT b o t p = findL o p := by
  unfold cellT
  rw [if_neg (fun h => h.elim h1 h2), if_neg h3]
theorem clash_1 (h : findL o p = findL t p) : clashT b o t p = false := decide_eq_false fun k => k.1 h
theorem clash_2 (h : findL t p = findL b p) : clashT b o t p = false := decide_eq_false fun k => k.2.1 h
theorem clash_3 (h : findL o p = findL b p) : clashT b o t p = false := decide_eq_false fun k => k.2.2 h
theorem clash_4 (h1 : ¬ findL o p = findL t p) (h2 : ¬ findL t p = findL b p) (h3 : ¬ findL o p = findL b p) : clashT b o t p = true := decide_eq_true ⟨h1, h2, h3⟩
end
def outT (b o t : List LfL) (ps : List ByteArray) : List LfL := (ps.map (cellT b o t)).filter fun x => decide (¬ x = zL)
def badT (b o t : List LfL) (ps : List ByteArray) : List ByteArray := ps.filter (clashT b o t)
section
variable {b o t : List LfL} {ps : List ByteArray} {k : Nat}
theorem out_next {x : LfL} (hk : k < ps.length) (h : cellT b o t (ps.getD k ByteArray.empty) = x) (hx : ¬ x = zL) : outT b o t (ps.take k) ++ [x] = outT b o t (ps.take (k + 1)) := by
  unfold outT
  rw [getD_next ps k ByteArray.empty hk, List.map_append, List.filter_append, List.map_singleton, h]
  simp [hx]
theorem out_skip {x : LfL} (hk : k < ps.length) (h : cellT b o t (ps.getD k ByteArray.empty) = x) (hx : ¬ ¬ x = zL) : outT b o t (ps.take k) = outT b o t (ps.take (k + 1)) := by
  unfold outT
  rw [getD_next ps k ByteArray.empty hk, List.map_append, List.filter_append, List.map_singleton, h]
  simp [Decidable.not_not.1 hx]
theorem bad_next (hk : k < ps.length) (h : clashT b o t (ps.getD k ByteArray.empty) = true) : badT b o t (ps.take k) ++ [ps.getD k ByteArray.empty] = badT b o t (ps.take (k + 1)) := by
  unfold badT
  rw [getD_next ps k ByteArray.empty hk, List.filter_append, List.filter_cons_of_pos h]
  rfl
theorem bad_skip (hk : k < ps.length) (h : clashT b o t (ps.getD k ByteArray.empty) = false) : badT b o t (ps.take k) = badT b o t (ps.take (k + 1)) := by
  unfold badT
  rw [getD_next ps k ByteArray.empty hk, List.filter_append, List.filter_cons_of_neg (by rw [h]; decide)]
  simp
end
theorem out_len (b o t : List LfL) (ps : List ByteArray) (k n : Nat) (h : ps.length ≤ n) : (outT b o t (ps.take k)).length ≤ n := by
  unfold outT
  refine Nat.le_trans (List.length_filter_le _ _) ?_
  rw [List.length_map, List.length_take]
  omega
theorem bad_len (b o t : List LfL) (ps : List ByteArray) (k n : Nat) (h : ps.length ≤ n) : (badT b o t (ps.take k)).length ≤ n := by
  unfold badT
  refine Nat.le_trans (List.length_filter_le _ _) ?_
  rw [List.length_take]
  omega
theorem paths_len (b o t : List LfL) : (pathsT b o t).length ≤ b.length + o.length + t.length := by
  unfold pathsT
  unfold compB
  rw [List.length_map]
  refine Nat.le_trans (compact_len _ _) ?_
  rw [sortB_len]
  simp
  omega
def outF (b o t : List LfL) : List LfL := outT b o t (pathsT b o t)
def badF (b o t : List LfL) : List ByteArray := badT b o t (pathsT b o t)
theorem out_end (b o t : List LfL) : outT b o t ((pathsT b o t).take (pathsT b o t).length) = outF b o t := by rw [List.take_of_length_le (Nat.le_refl _)]; rfl
theorem bad_end (b o t : List LfL) : badT b o t ((pathsT b o t).take (pathsT b o t).length) = badF b o t := by rw [List.take_of_length_le (Nat.le_refl _)]; rfl
def underB (l : List LfL) (k : Nat) : Bool := (l.drop k).any fun y => prefB y.f0 ((l.getD k zL).f0 ++ slash)
def dirsF (a : List ByteArray) (l : List LfL) : Nat → List ByteArray
  | 0 => a
  | k + 1 => if underB l k = true then dirsF a l k ++ [(l.getD k zL).f0] else dirsF a l k
theorem dirs_next {a : List ByteArray} {l : List LfL} {k : Nat} (h : underB l k = true) : dirsF a l k ++ [(l.getD k zL).f0] = dirsF a l (k + 1) := by rw [dirsF, if_pos h]
theorem dirs_skip {a : List ByteArray} {l : List LfL} {k : Nat} (h : underB l k = false) : dirsF a l k = dirsF a l (k + 1) := by rw [dirsF, if_neg (by rw [h]; decide)]
theorem dirs_len (a : List ByteArray) (l : List LfL) : ∀ k, (dirsF a l k).length ≤ a.length + k
  | 0 => Nat.le_refl _
  | k + 1 => by
    have := dirs_len a l k
    unfold dirsF
    split
    · rw [List.length_append]; simp; omega
    · omega
def badD (b o t : List LfL) : List ByteArray := dirsF (badF b o t) (outF b o t) (outF b o t).length
def badA (b o t : List LfL) : List ByteArray := compB (sortB (badD b o t))
theorem findL_mem (l : List LfL) (p : ByteArray) : findL l p = zL ∨ (findL l p ∈ l ∧ (findL l p).f0 = p) := by
  have key : ∀ (l : List LfL) (r : LfL), l.foldl (fun r x => if x.f0 = p then x else r) r = r ∨ (l.foldl (fun r x => if x.f0 = p then x else r) r ∈ l ∧ (l.foldl (fun r x => if x.f0 = p then x else r) r).f0 = p) := by
    intro l
    induction l with
    | nil => intro r; exact .inl rfl
    | cons x l ih =>
      intro r
      rw [List.foldl_cons]
      rcases ih (if x.f0 = p then x else r) with h | h
      · rw [h]
        by_cases hx : x.f0 = p
        · rw [if_pos hx]; exact .inr ⟨List.mem_cons_self, hx⟩
        · rw [if_neg hx]; exact .inl rfl
      · exact .inr ⟨List.mem_cons_of_mem _ h.1, h.2⟩
  exact key l zL
theorem cellT_cases (b o t : List LfL) (p : ByteArray) : cellT b o t p = findL o p ∨ cellT b o t p = findL t p := by
  unfold cellT
  split
  · exact .inl rfl
  · split
    · exact .inr rfl
    · exact .inl rfl
theorem cellT_mem (b o t : List LfL) (p : ByteArray) : cellT b o t p = zL ∨ ((cellT b o t p ∈ o ∨ cellT b o t p ∈ t) ∧ (cellT b o t p).f0 = p) := by
  rcases cellT_cases b o t p with h | h
  · rw [h]; rcases findL_mem o p with h | h
    · exact .inl h
    · exact .inr ⟨.inl h.1, h.2⟩
  · rw [h]; rcases findL_mem t p with h | h
    · exact .inl h
    · exact .inr ⟨.inr h.1, h.2⟩
theorem out_mem {b o t : List LfL} {ps : List ByteArray} {x : LfL} (h : x ∈ outT b o t ps) : ¬ x = zL ∧ x.f0 ∈ ps ∧ cellT b o t x.f0 = x ∧ (x ∈ o ∨ x ∈ t) := by
  unfold outT at h
  rw [List.mem_filter, List.mem_map] at h
  obtain ⟨⟨p, hp, rfl⟩, hx⟩ := h
  have hx := of_decide_eq_true hx
  rcases cellT_mem b o t p with h | h
  · exact absurd h hx
  · exact ⟨hx, by rw [h.2]; exact hp, by rw [h.2], h.1⟩
def shortL (l : List LfL) : Prop := ∀ x ∈ l, x.f0.size ≤ 1000000
theorem out_size {b o t : List LfL} (ho : shortL o) (ht : shortL t) (k : Nat) : ((outF b o t).getD k zL).f0.size ≤ 1000000 := by
  rcases Nat.lt_or_ge k (outF b o t).length with h | h
  · rw [List.getD_eq_getElem?_getD, List.getElem?_eq_getElem h]
    have := out_mem (x := (outF b o t)[k]) (List.getElem_mem h)
    rcases this.2.2.2 with h' | h'
    · exact ho _ h'
    · exact ht _ h'
  · rw [List.getD_eq_getElem?_getD, List.getElem?_eq_none h]
    show ByteArray.size _ ≤ _
    decide
end Go.Proofs.Ytenbgnlkkmnmhaa.Q
end
/-! E4 -/
section
namespace Go.Proofs.Ytenbgnlkkmnmhaa.Q
open Go.RowKit Go.Proofs.Ytenbgnlkkmnmhaa.P
open Go.Proofs.YtenbgnlkkmnmhaaW.PrintWords (bytesOf bytesOf_length)
set_option linter.unusedVariables false
set_option linter.unusedSimpArgs false
set_option maxRecDepth 100000
set_option maxHeartbeats 4000000
attribute [local irreducible] wpList wpQuiet qch Code.wp Oper.quiet Act.put At Region.wanted yielded
theorem sort_c {B : Nat} (v : Value) (l : List ByteArray) (w : World) (hln : l.length ≤ 1000000) (hv : OwnF w B 9 1 v l.length (l.map encS).flatten) : Calls Try.prog 17 #[v] w fun e w' => ∃ x, e = .returned x ∧ x = .tuple #[] ∧ OwnF w' B 9 1 v (sortB l).length ((sortB l).map encS).flatten ∧ GrW B 9 v w w' := (sort_calls v l w hln hv).mono fun _ _ ⟨e, o, g⟩ => ⟨_, e, rfl, o, g⟩
theorem rec22 : recB Try.prog 22 1 = true := by kernel_rfl
theorem rec28 : recB Try.prog 28 1 = true := by kernel_rfl
theorem Three.calls (vb vo vt : Value) (lb lo lt : List LfL) (hlb : lb.length ≤ 100000) (hlo : lo.length ≤ 100000) (hlt : lt.length ≤ 100000) (ho : shortL lo) (ht : shortL lt) (w0 : World) (hvb : RdF w0 3 vb lb.length (lb.map encL).flatten) (hvo : RdF w0 3 vo lo.length (lo.map encL).flatten) (hvt : RdF w0 3 vt lt.length (lt.map encL).flatten) : Calls Try.prog 7 #[vb, vo, vt] w0 fun e w' => ∃ z, e = .returned z ∧ ∃ x y, z = .tuple #[x, y] ∧ OwnF w' w0.heap.size 37 3 x (outF lb lo lt).length ((outF lb lo lt).map encL).flatten ∧ OwnF w' w0.heap.size 9 1 y (badA lb lo lt).length ((badA lb lo lt).map encS).flatten ∧ Low w0 w' := by
  refine c_fun (R := _) Try.func7 rfl 126 rfl (Nat.le_of_ble_eq_true rfl) ?_
  intro a z hA
  have s0 := hA 0 _ rfl
  have s1 := hA 1 _ rfl
  have s2 := hA 2 _ rfl
  clear hA
  refine c_seq ?_
  refine c_region ?_
  refine l_q rfl (q_assign _ _ rfl rfl ?_)
  refine l_q rfl (q_assign _ _ rfl rfl ?_)
  refine l_end ?_
  refine e_fresh z.put.put ?_
  intro a1 z1 m1
  have s0_1 := m1 _ _ ((s0.ne rfl).ne rfl)
  have s1_1 := m1 _ _ ((s1.ne rfl).ne rfl)
  have s2_1 := m1 _ _ ((s2.ne rfl).ne rfl)
  clear m1
  refine e_then ?_
  refine c_seq ?_
  refine c_region ?_
  refine l_q rfl (q_move _ _ rfl s0_1.ev ?_)
  refine l_call _ rfl rfl rfl Try.func16 rfl (args1 rfl (At.hit z1 rfl).ev) (Rows.calls _ lb (by omega) _ hvb) ?_
  rintro _ w2 ⟨mlb, rfl, hg2, k2, h2⟩
  have gemlb := Nat.le_trans (Low.refl _).ge hg2
  have ovb_2 := hvb.low h2
  have ovo_2 := hvo.low h2
  have ovt_2 := hvt.low h2
  refine l_q rfl (q_move _ _ rfl ((s1_1.ne rfl).ne rfl).ev ?_)
  refine l_call _ rfl rfl rfl Try.func16 rfl (args1 rfl (At.hit z1.put.put rfl).ev) (Rows.calls _ lo (by omega) _ ovo_2) ?_
  rintro _ w3 ⟨mlo, rfl, hg3, k3, h3⟩
  have lt_mlb_mlo := Nat.lt_of_lt_of_le k2.lt hg3
  have gemlo := Nat.le_trans h2.ge hg3
  have kmlb_3 := k2.low h3
  have ovb_3 := ovb_2.low h3
  have ovo_3 := ovo_2.low h3
  have ovt_3 := ovt_2.low h3
  refine l_q rfl (q_move _ _ rfl ((((s2_1.ne rfl).ne rfl).ne rfl).ne rfl).ev ?_)
  refine l_call _ rfl rfl rfl Try.func16 rfl (args1 rfl (At.hit z1.put.put.put.put rfl).ev) (Rows.calls _ lt (by omega) _ ovt_3) ?_
  rintro _ w4 ⟨mlt, rfl, hg4, k4, h4⟩
  have lt_mlb_mlt := Nat.lt_of_lt_of_le kmlb_3.lt hg4
  have lt_mlo_mlt := Nat.lt_of_lt_of_le k3.lt hg4
  have gemlt := Nat.le_trans (h2.trans h3).ge hg4
  have kmlb_4 := kmlb_3.low h4
  have kmlo_4 := k3.low h4
  have ovb_4 := ovb_3.low h4
  have ovo_4 := ovo_3.low h4
  have ovt_4 := ovt_3.low h4
  refine l_q rfl (q_assign _ _ rfl (((((At.hit z1.put rfl).ne rfl).ne rfl).ne rfl).ne rfl).ev ?_)
  refine l_q rfl (q_assign _ _ rfl ((((At.hit z1.put.put.put rfl).ne rfl).ne rfl).ne rfl).ev ?_)
  refine l_fresh z1.put.put.put.put.put.put.put.put ?_
  intro a5 z5 m5
  have s0_5 := m5 _ _ ((((((((s0_1.ne rfl).ne rfl).ne rfl).ne rfl).ne rfl).ne rfl).ne rfl).ne rfl)
  have s1_5 := m5 _ _ ((((((((s1_1.ne rfl).ne rfl).ne rfl).ne rfl).ne rfl).ne rfl).ne rfl).ne rfl)
  have s2_5 := m5 _ _ ((((((((s2_1.ne rfl).ne rfl).ne rfl).ne rfl).ne rfl).ne rfl).ne rfl).ne rfl)
  have s8_5 := m5 _ _ ((At.hit z1.put.put.put.put.put.put rfl).ne rfl)
  have s9_5 := m5 _ _ (At.hit z1.put.put.put.put.put.put.put rfl)
  have s28_5 := m5 _ _ (((At.hit z1.put.put.put.put.put rfl).ne rfl).ne rfl)
  clear m5
  refine l_q rfl (q_assign _ _ rfl s28_5.ev ?_)
  refine l_end ?_
  refine e_fresh z5.put ?_
  intro a6 z6 m6
  have s0_6 := m6 _ _ (s0_5.ne rfl)
  have s1_6 := m6 _ _ (s1_5.ne rfl)
  have s2_6 := m6 _ _ (s2_5.ne rfl)
  have s8_6 := m6 _ _ (s8_5.ne rfl)
  have s9_6 := m6 _ _ (s9_5.ne rfl)
  have s10_6 := m6 _ _ (At.hit z5 rfl)
  have low6 := ((h2.trans h3).trans h4)
  clear m6
  refine e_then ?_
  refine c_seq ?_
  refine c_region ?_
  refine l_q rfl (q_assign _ _ rfl rfl ?_)
  refine l_end ?_
  refine e_fresh z6.put ?_
  intro a7 z7 m7
  have s0_7 := m7 _ _ (s0_6.ne rfl)
  have s1_7 := m7 _ _ (s1_6.ne rfl)
  have s2_7 := m7 _ _ (s2_6.ne rfl)
  have s8_7 := m7 _ _ (s8_6.ne rfl)
  have s9_7 := m7 _ _ (s9_6.ne rfl)
  have s10_7 := m7 _ _ (s10_6.ne rfl)
  have s11_7 := m7 _ _ (At.hit z6 rfl)
  clear m7
  refine e_then ?_
  refine c_seq ?_
  refine c_seq ?_
  refine c_region ?_
  refine l_q rfl (q_move _ _ rfl s0_7.ev ?_)
  refine l_q rfl (q_move _ _ rfl (s1_7.ne rfl).ev ?_)
  refine l_q rfl (q_move _ _ rfl ((s2_7.ne rfl).ne rfl).ev ?_)
  refine l_lit3 rfl rfl Try.underlying44 rec22 (((At.hit z7 rfl).ne rfl).ne rfl).ev ((At.hit z7.put rfl).ne rfl).ev (At.hit z7.put.put rfl).ev (RdF.one ovb_4) (RdF.one ovo_4) (RdF.one ovt_4) ?_
  intro g32_8 w8 hg8 k8 h8
  have lt_mlb_g32_8 := Nat.lt_of_lt_of_le kmlb_4.lt hg8
  have lt_mlo_g32_8 := Nat.lt_of_lt_of_le kmlo_4.lt hg8
  have lt_mlt_g32_8 := Nat.lt_of_lt_of_le k4.lt hg8
  have geg32_8 := Nat.le_trans low6.ge hg8
  have kmlb_8 := kmlb_4.low h8
  have kmlo_8 := kmlo_4.low h8
  have kmlt_8 := k4.low h8
  have ovb_8 := ovb_4.low h8
  have ovo_8 := ovo_4.low h8
  have ovt_8 := ovt_4.low h8
  have og32_8_8 := rdFF3 k8 ovb_8 ovo_8 ovt_8
  obtain ⟨L, hL⟩ : ∃ L : List (List LfL), L = [lb, lo, lt] := ⟨_, rfl⟩
  rw [← hL] at og32_8_8
  have hLn : L.length = 3 := by rw [hL]; rfl
  have hLf : L.flatten.length ≤ 900000 := by rw [hL]; simp; omega
  refine l_q rfl (q_lenF rfl rfl Try.underlying44 (At.hit z7.put.put.put rfl).ev og32_8_8.1 ?_)
  refine l_q rfl (q_move _ _ rfl rfl ?_)
  refine l_end ?_
  refine e_fresh z7.put.put.put.put.put.put ?_
  intro a9 z9 m9
  have s8_9 := m9 _ _ ((((((s8_7.ne rfl).ne rfl).ne rfl).ne rfl).ne rfl).ne rfl)
  have s9_9 := m9 _ _ ((((((s9_7.ne rfl).ne rfl).ne rfl).ne rfl).ne rfl).ne rfl)
  have s10_9 := m9 _ _ ((((((s10_7.ne rfl).ne rfl).ne rfl).ne rfl).ne rfl).ne rfl)
  have s11_9 := m9 _ _ ((((((s11_7.ne rfl).ne rfl).ne rfl).ne rfl).ne rfl).ne rfl)
  have s32_9 := m9 _ _ (((At.hit z7.put.put.put rfl).ne rfl).ne rfl)
  have s33_9 := m9 _ _ ((At.hit z7.put.put.put.put rfl).ne rfl)
  have s34_9 := m9 _ _ (At.hit z7.put.put.put.put.put rfl)
  have low9 := (low6.trans h8)
  clear m9
  refine e_then ?_
  refine wp_block ?_
  refine c_loop L.length (fun k a w => ∃ v11 : Value, Fr 126 a ∧ At a 8 (.map (some mlb)) ∧ At a 9 (.map (some mlo)) ∧ At a 10 (.map (some mlt)) ∧ At a 11 (v11) ∧ At a 32 (.slice (some ⟨g32_8, 0, none⟩) 3 3) ∧ At a 33 (.int .i64 ((L.length : Nat) : Int)) ∧ At a 34 (.int .i64 ((k : Nat) : Int)) ∧ MapIs w mlb (mapL lb) ∧ MapIs w mlo (mapL lo) ∧ MapIs w mlt (mapL lt) ∧ OwnF w w8.heap.size 9 1 v11 (gatN L k 0).length (((gatN L k 0).map encS).flatten) ∧ Low w8 w) ?_ ?_ ?_
  · exact ⟨.slice none 0 0, z9, s8_9, s9_9, s10_9, s11_9, s32_9, s33_9, s34_9, kmlb_8, kmlo_8, kmlt_8, (OwnF.nil _ _ _ _), (Low.refl _)⟩
  · intro k a10 w10 hk10 h
    obtain ⟨v11_10, z10, s8_10, s9_10, s10_10, s11_10, s32_10, s33_10, s34_10, kmlb_10, kmlo_10, kmlt_10, ox11_10, low10⟩ := h
    clear kmlb_8 kmlo_8 kmlt_8 s10_9 s11_9 s32_9 s33_9 s34_9 s8_9 s9_9 z9
    refine c_seq ?_
    refine c_region ?_
    refine l_q rfl (q_lss true rfl s34_10.ev s33_10.ev (decide_eq_true (by omega)) ?_)
    refine l_end ?_
    refine e_fresh z10.put ?_
    intro a11 z11 m11
    have s8_11 := m11 _ _ (s8_10.ne rfl)
    have s9_11 := m11 _ _ (s9_10.ne rfl)
    have s10_11 := m11 _ _ (s10_10.ne rfl)
    have s11_11 := m11 _ _ (s11_10.ne rfl)
    have s32_11 := m11 _ _ (s32_10.ne rfl)
    have s33_11 := m11 _ _ (s33_10.ne rfl)
    have s34_11 := m11 _ _ (s34_10.ne rfl)
    have s35_11 := m11 _ _ (At.hit z10 rfl)
    clear m11
    refine e_then ?_
    refine c_seq ?_
    refine c_true s35_11 ?_
    refine wp_skip ?_
    refine e_then ?_
    refine c_seq ?_
    refine wp_block ?_
    refine c_seq ?_
    refine c_region ?_
    refine l_q rfl (q_idxF (j := k) rfl Try.underlying44 sz22 s32_11.ev (og32_8_8.low low10).1 s34_11.ev (by omega) ?_)
    refine l_q rfl (q_ld1 (u := (([vb, vo, vt]).getD k nilS)) rfl Try.underlying22 rfl (At.hit z11 rfl).ev (fun _ e => by rw [e]; exact (og32_8_8.low low10).1) (by omega) (RdFF.cell (og32_8_8.low low10) (by omega)) ?_)
    refine l_q rfl (q_assign _ _ rfl (At.hit z11.put rfl).ev ?_)
    refine l_end ?_
    refine e_fresh z11.put.put.put ?_
    intro a13 z13 m13
    have s8_13 := m13 _ _ (((s8_11.ne rfl).ne rfl).ne rfl)
    have s9_13 := m13 _ _ (((s9_11.ne rfl).ne rfl).ne rfl)
    have s10_13 := m13 _ _ (((s10_11.ne rfl).ne rfl).ne rfl)
    have s11_13 := m13 _ _ (((s11_11.ne rfl).ne rfl).ne rfl)
    have s13_13 := m13 _ _ (At.hit z11.put.put rfl)
    have s32_13 := m13 _ _ (((s32_11.ne rfl).ne rfl).ne rfl)
    have s33_13 := m13 _ _ (((s33_11.ne rfl).ne rfl).ne rfl)
    have s34_13 := m13 _ _ (((s34_11.ne rfl).ne rfl).ne rfl)
    clear m13
    refine e_then ?_
    refine c_seq ?_
    refine c_region ?_
    refine l_q rfl (q_move _ _ rfl s13_13.ev ?_)
    refine l_q rfl (q_lenF rfl rfl Try.underlying22 (At.hit z13 rfl).ev (RdFF.row (k := k) (og32_8_8.low low10) (by omega)) ?_)
    refine l_q rfl (q_move _ _ rfl rfl ?_)
    refine l_end ?_
    refine e_fresh z13.put.put.put ?_
    intro a14 z14 m14
    have s8_14 := m14 _ _ (((s8_13.ne rfl).ne rfl).ne rfl)
    have s9_14 := m14 _ _ (((s9_13.ne rfl).ne rfl).ne rfl)
    have s10_14 := m14 _ _ (((s10_13.ne rfl).ne rfl).ne rfl)
    have s11_14 := m14 _ _ (((s11_13.ne rfl).ne rfl).ne rfl)
    have s32_14 := m14 _ _ (((s32_13.ne rfl).ne rfl).ne rfl)
    have s33_14 := m14 _ _ (((s33_13.ne rfl).ne rfl).ne rfl)
    have s34_14 := m14 _ _ (((s34_13.ne rfl).ne rfl).ne rfl)
    have s38_14 := m14 _ _ (((At.hit z13 rfl).ne rfl).ne rfl)
    have s39_14 := m14 _ _ ((At.hit z13.put rfl).ne rfl)
    have s40_14 := m14 _ _ (At.hit z13.put.put rfl)
    clear m14
    refine e_then ?_
    refine wp_block ?_
    refine c_loop ((L.getD k []).length) (fun m a w => ∃ v11 : Value, Fr 126 a ∧ At a 8 (.map (some mlb)) ∧ At a 9 (.map (some mlo)) ∧ At a 10 (.map (some mlt)) ∧ At a 11 (v11) ∧ At a 32 (.slice (some ⟨g32_8, 0, none⟩) 3 3) ∧ At a 33 (.int .i64 ((L.length : Nat) : Int)) ∧ At a 34 (.int .i64 ((k : Nat) : Int)) ∧ At a 38 ((([vb, vo, vt]).getD k nilS)) ∧ At a 39 (.int .i64 ((((L.getD k []).length) : Nat) : Int)) ∧ At a 40 (.int .i64 ((m : Nat) : Int)) ∧ MapIs w mlb (mapL lb) ∧ MapIs w mlo (mapL lo) ∧ MapIs w mlt (mapL lt) ∧ OwnF w w8.heap.size 9 1 v11 (gatN L k m).length (((gatN L k m).map encS).flatten) ∧ Low w8 w) ?_ ?_ ?_
    · exact ⟨v11_10, z14, s8_14, s9_14, s10_14, s11_14, s32_14, s33_14, s34_14, s38_14, s39_14, s40_14, kmlb_10, kmlo_10, kmlt_10, ox11_10, low10⟩
    · intro m a15 w15 hk15 h
      obtain ⟨v11_15, z15, s8_15, s9_15, s10_15, s11_15, s32_15, s33_15, s34_15, s38_15, s39_15, s40_15, kmlb_15, kmlo_15, kmlt_15, ox11_15, low15⟩ := h
      clear kmlb_10 kmlo_10 kmlt_10 low10 s10_14 s11_14 s32_14 s33_14 s34_14 s38_14 s39_14 s40_14 s8_14 s9_14 z14
      have hrl := row_len L k 900000 (by omega) hLf
      have hgm := gat_len L k m 900000 hLf
      refine c_seq ?_
      refine c_region ?_
      refine l_q rfl (q_lss true rfl s40_15.ev s39_15.ev (decide_eq_true (by omega)) ?_)
      refine l_end ?_
      refine e_fresh z15.put ?_
      intro a16 z16 m16
      have s8_16 := m16 _ _ (s8_15.ne rfl)
      have s9_16 := m16 _ _ (s9_15.ne rfl)
      have s10_16 := m16 _ _ (s10_15.ne rfl)
      have s11_16 := m16 _ _ (s11_15.ne rfl)
      have s32_16 := m16 _ _ (s32_15.ne rfl)
      have s33_16 := m16 _ _ (s33_15.ne rfl)
      have s34_16 := m16 _ _ (s34_15.ne rfl)
      have s38_16 := m16 _ _ (s38_15.ne rfl)
      have s39_16 := m16 _ _ (s39_15.ne rfl)
      have s40_16 := m16 _ _ (s40_15.ne rfl)
      have s41_16 := m16 _ _ (At.hit z15 rfl)
      clear m16
      refine e_then ?_
      refine c_seq ?_
      refine c_true s41_16 ?_
      refine wp_skip ?_
      refine e_then ?_
      refine c_seq ?_
      refine wp_block ?_
      refine c_seq ?_
      refine c_region ?_
      refine l_q rfl (q_idxF (j := m) rfl Try.underlying22 sz37 s38_16.ev ((RdFF.row (k := k) og32_8_8 (by omega)).low low15) s40_16.ev (by omega) ?_)
      refine l_q rfl (q_ldR (vs := [.string (((L.getD k []).getD m zL).f0), .int .i64 (((L.getD k []).getD m zL).f1), .string (((L.getD k []).getD m zL).f2)]) rfl Try.underlying37 rfl sz37 (At.hit z16 rfl).ev (fun _ e => by rw [e]; exact ((RdFF.row (k := k) og32_8_8 (by omega)).low low15)) (by omega) rfl (flat_part encL_len zL _ m (by omega)) ?_)
      refine l_alloc rfl rfl zero37 ?_
      intro g15 w17 hg17 k17 h17
      have nmlb_g15 := Nat.ne_of_lt (Nat.lt_of_lt_of_le kmlb_15.lt hg17)
      have nmlo_g15 := Nat.ne_of_lt (Nat.lt_of_lt_of_le kmlo_15.lt hg17)
      have nmlt_g15 := Nat.ne_of_lt (Nat.lt_of_lt_of_le kmlt_15.lt hg17)
      have geg15 := Nat.le_trans low15.ge hg17
      have kmlb_17 := kmlb_15.low h17
      have kmlo_17 := kmlo_15.low h17
      have kmlt_17 := kmlt_15.low h17
      have ox11_17 := ox11_15.low h17
      have oL8_17 := (og32_8_8.low low15).low h17
      have oy12_17 := ((RdFF.row (k := k) og32_8_8 (by omega)).low low15).low h17
      refine l_row rfl rfl rfl (sz37.trans (congrArg some rfl.symm)) (At.hit z16.put.put rfl).ev ((At.hit z16.put rfl).ne rfl).ev (by simp [Value.oneCell']) k17 (rfl.trans rfl.symm) ?_
      intro w18 k18 u18
      have ox11_18 := ox11_17.upd u18 k17 rfl
      have kmlb_18 := kmlb_17.upd u18 (by omega)
      have kmlo_18 := kmlo_17.upd u18 (by omega)
      have kmlt_18 := kmlt_17.upd u18 (by omega)
      refine l_end ?_
      refine e_fresh z16.put.put.put ?_
      intro a19 z19 m19
      have s8_19 := m19 _ _ (((s8_16.ne rfl).ne rfl).ne rfl)
      have s9_19 := m19 _ _ (((s9_16.ne rfl).ne rfl).ne rfl)
      have s10_19 := m19 _ _ (((s10_16.ne rfl).ne rfl).ne rfl)
      have s11_19 := m19 _ _ (((s11_16.ne rfl).ne rfl).ne rfl)
      have s15_19 := m19 _ _ (At.hit z16.put.put rfl)
      have s32_19 := m19 _ _ (((s32_16.ne rfl).ne rfl).ne rfl)
      have s33_19 := m19 _ _ (((s33_16.ne rfl).ne rfl).ne rfl)
      have s34_19 := m19 _ _ (((s34_16.ne rfl).ne rfl).ne rfl)
      have s38_19 := m19 _ _ (((s38_16.ne rfl).ne rfl).ne rfl)
      have s39_19 := m19 _ _ (((s39_16.ne rfl).ne rfl).ne rfl)
      have s40_19 := m19 _ _ (((s40_16.ne rfl).ne rfl).ne rfl)
      have low19 := ((low15.trans h17).upd u18 geg15)
      clear m19
      refine e_then ?_
      refine c_region ?_
      refine l_q rfl (q_move _ _ rfl s11_19.ev ?_)
      refine l_q rfl (q_fld 0 rfl (by kernel_rfl) (s15_19.ne rfl).ev ?_)
      refine l_q rfl (q_cellT (.string (((L.getD k []).getD m zL).f0)) rfl Try.underlying9 (At.hit z19.put rfl).ev (fun _ e => by rw [e]; exact (cells_at k18 0).trans rfl) ?_)
      refine l_buildF (vs := [.string (((L.getD k []).getD m zL).f0)]) rfl rfl Try.underlying25 rec9 (At.hit z19.put.put rfl).ev rfl rfl (by decide) (by decide) ?_
      intro g47_20 w20 hg20 k20 h20
      have onx11_g47_20 : ∀ k, Value.ownBlock v11_15 = some k → k < g47_20 := fun k hk => Nat.lt_of_lt_of_le (OwnF.own_lt ox11_18 hk) hg20
      have lt_g15_g47_20 := Nat.lt_of_lt_of_le (heap_lt k18) hg20
      have nmlb_g47_20 := Nat.ne_of_lt (Nat.lt_of_lt_of_le kmlb_18.lt hg20)
      have nmlo_g47_20 := Nat.ne_of_lt (Nat.lt_of_lt_of_le kmlo_18.lt hg20)
      have nmlt_g47_20 := Nat.ne_of_lt (Nat.lt_of_lt_of_le kmlt_18.lt hg20)
      have geg47_20 := Nat.le_trans low19.ge hg20
      have kmlb_20 := kmlb_18.low h20
      have kmlo_20 := kmlo_18.low h20
      have kmlt_20 := kmlt_18.low h20
      have kg15_20 := h20.blk k18
      have ox11_20 := ox11_18.low h20
      have oL8_20 := (og32_8_8.low ((low15.trans h17).upd u18 geg15)).low h20
      have oy12_20 := ((RdFF.row (k := k) og32_8_8 (by omega)).low ((low15.trans h17).upd u18 geg15)).low h20
      refine l_appF (B := w8.heap.size) rfl rfl Try.underlying25 rec9 ((((At.hit z19 rfl).ne rfl).ne rfl).ne rfl).ev (At.hit z19.put.put.put rfl).ev k20 rfl (by decide) rfl ox11_20 (low19.trans h20).ge (by omega) ?_
      intro v21 w21 o21 gr21
      have kmlb_21 := kmlb_20.grw gr21
      have kmlo_21 := kmlo_20.grw gr21
      have kmlt_21 := kmlt_20.grw gr21
      have kg15_21 := gr21.blk kg15_20 rfl
      have lw21 := (low19.trans h20).grw gr21
      replace o21 := o21.cast (show _ = ((gatN L k m) ++ [((L.getD k []).getD m zL).f0]).length by rw [List.length_append]; rfl) (flat_snoc (enc := encS) (gatN L k m) (((L.getD k []).getD m zL).f0))
      refine l_q rfl (q_assign _ _ rfl (At.hit z19.put.put.put.put rfl).ev ?_)
      refine l_end ?_
      refine e_fresh z19.put.put.put.put.put.put ?_
      intro a22 z22 m22
      have s8_22 := m22 _ _ ((((((s8_19.ne rfl).ne rfl).ne rfl).ne rfl).ne rfl).ne rfl)
      have s9_22 := m22 _ _ ((((((s9_19.ne rfl).ne rfl).ne rfl).ne rfl).ne rfl).ne rfl)
      have s10_22 := m22 _ _ ((((((s10_19.ne rfl).ne rfl).ne rfl).ne rfl).ne rfl).ne rfl)
      have s11_22 := m22 _ _ (At.hit z19.put.put.put.put.put rfl)
      have s32_22 := m22 _ _ ((((((s32_19.ne rfl).ne rfl).ne rfl).ne rfl).ne rfl).ne rfl)
      have s33_22 := m22 _ _ ((((((s33_19.ne rfl).ne rfl).ne rfl).ne rfl).ne rfl).ne rfl)
      have s34_22 := m22 _ _ ((((((s34_19.ne rfl).ne rfl).ne rfl).ne rfl).ne rfl).ne rfl)
      have s38_22 := m22 _ _ ((((((s38_19.ne rfl).ne rfl).ne rfl).ne rfl).ne rfl).ne rfl)
      have s39_22 := m22 _ _ ((((((s39_19.ne rfl).ne rfl).ne rfl).ne rfl).ne rfl).ne rfl)
      have s40_22 := m22 _ _ ((((((s40_19.ne rfl).ne rfl).ne rfl).ne rfl).ne rfl).ne rfl)
      have low22 := lw21
      clear m22
      refine e_in ?_
      refine e_then ?_
      refine c_region ?_
      refine l_q rfl (q_add (((m + 1 : Nat) : Int)) rfl s40_22.ev rfl (i64_is (by omega) (by omega) (by omega)) ?_)
      refine l_q rfl (q_move _ _ rfl (At.hit z22 rfl).ev ?_)
      refine l_end ?_
      refine e_fresh z22.put.put ?_
      intro a23 z23 m23
      have s8_23 := m23 _ _ ((s8_22.ne rfl).ne rfl)
      have s9_23 := m23 _ _ ((s9_22.ne rfl).ne rfl)
      have s10_23 := m23 _ _ ((s10_22.ne rfl).ne rfl)
      have s11_23 := m23 _ _ ((s11_22.ne rfl).ne rfl)
      have s32_23 := m23 _ _ ((s32_22.ne rfl).ne rfl)
      have s33_23 := m23 _ _ ((s33_22.ne rfl).ne rfl)
      have s34_23 := m23 _ _ ((s34_22.ne rfl).ne rfl)
      have s38_23 := m23 _ _ ((s38_22.ne rfl).ne rfl)
      have s39_23 := m23 _ _ ((s39_22.ne rfl).ne rfl)
      have s40_23 := m23 _ _ (At.hit z22.put rfl)
      clear m23
      have c24 := OwnF.castL o21 (show (gatN L k m) ++ [((L.getD k []).getD m zL).f0] = gatN L k (m + 1) from gat_next L k m (by omega))
      exact ⟨v21, z23, s8_23, s9_23, s10_23, s11_23, s32_23, s33_23, s34_23, s38_23, s39_23, s40_23, kmlb_21, kmlo_21, kmlt_21, c24, low22⟩
    · intro a25 w25 h
      obtain ⟨v11_25, z25, s8_25, s9_25, s10_25, s11_25, s32_25, s33_25, s34_25, s38_25, s39_25, s40_25, kmlb_25, kmlo_25, kmlt_25, ox11_25, low25⟩ := h
      clear kmlb_10 kmlo_10 kmlt_10 low10 s10_14 s11_14 s32_14 s33_14 s34_14 s38_14 s39_14 s40_14 s8_14 s9_14 z14
      have hrl := row_len L k 900000 (by omega) hLf
      refine c_seq ?_
      refine c_region ?_
      refine l_q rfl (q_lss false rfl s40_25.ev s39_25.ev (decide_eq_false (by omega)) ?_)
      refine l_end ?_
      refine e_fresh z25.put ?_
      intro a26 z26 m26
      have s8_26 := m26 _ _ (s8_25.ne rfl)
      have s9_26 := m26 _ _ (s9_25.ne rfl)
      have s10_26 := m26 _ _ (s10_25.ne rfl)
      have s11_26 := m26 _ _ (s11_25.ne rfl)
      have s32_26 := m26 _ _ (s32_25.ne rfl)
      have s33_26 := m26 _ _ (s33_25.ne rfl)
      have s34_26 := m26 _ _ (s34_25.ne rfl)
      have s38_26 := m26 _ _ (s38_25.ne rfl)
      have s40_26 := m26 _ _ (s40_25.ne rfl)
      have s41_26 := m26 _ _ (At.hit z25 rfl)
      clear m26
      refine e_then ?_
      refine c_seq ?_
      refine c_false s41_26 ?_
      refine wp_exit ?_
      refine x_then ?_
      refine x_then ?_
      refine in_exit ?_
      refine e_in ?_
      refine e_then ?_
      refine c_region ?_
      refine l_q rfl (q_add (((k + 1 : Nat) : Int)) rfl s34_26.ev rfl (i64_is (by omega) (by omega) (by omega)) ?_)
      refine l_q rfl (q_move _ _ rfl (At.hit z26 rfl).ev ?_)
      refine l_end ?_
      refine e_fresh z26.put.put ?_
      intro a27 z27 m27
      have s8_27 := m27 _ _ ((s8_26.ne rfl).ne rfl)
      have s9_27 := m27 _ _ ((s9_26.ne rfl).ne rfl)
      have s10_27 := m27 _ _ ((s10_26.ne rfl).ne rfl)
      have s11_27 := m27 _ _ ((s11_26.ne rfl).ne rfl)
      have s32_27 := m27 _ _ ((s32_26.ne rfl).ne rfl)
      have s33_27 := m27 _ _ ((s33_26.ne rfl).ne rfl)
      have s34_27 := m27 _ _ (At.hit z26.put rfl)
      clear m27
      have c28 := OwnF.castL ox11_25 (show gatN L k ((L.getD k []).length) = gatN L (k + 1) 0 from gat_row L k (by omega))
      exact ⟨v11_25, z27, s8_27, s9_27, s10_27, s11_27, s32_27, s33_27, s34_27, kmlb_25, kmlo_25, kmlt_25, c28, low25⟩
  · intro a29 w29 h
    obtain ⟨v11_29, z29, s8_29, s9_29, s10_29, s11_29, s32_29, s33_29, s34_29, kmlb_29, kmlo_29, kmlt_29, ox11_29, low29⟩ := h
    clear kmlb_8 kmlo_8 kmlt_8 s10_9 s11_9 s32_9 s33_9 s34_9 s8_9 s9_9 z9
    have hgl := gat_len L L.length 0 900000 hLf
    refine c_seq ?_
    refine c_region ?_
    refine l_q rfl (q_lss false rfl s34_29.ev s33_29.ev (decide_eq_false (by omega)) ?_)
    refine l_end ?_
    refine e_fresh z29.put ?_
    intro a30 z30 m30
    have s8_30 := m30 _ _ (s8_29.ne rfl)
    have s9_30 := m30 _ _ (s9_29.ne rfl)
    have s10_30 := m30 _ _ (s10_29.ne rfl)
    have s11_30 := m30 _ _ (s11_29.ne rfl)
    have s32_30 := m30 _ _ (s32_29.ne rfl)
    have s34_30 := m30 _ _ (s34_29.ne rfl)
    have s35_30 := m30 _ _ (At.hit z29 rfl)
    clear m30
    refine e_then ?_
    refine c_seq ?_
    refine c_false s35_30 ?_
    refine wp_exit ?_
    refine x_then ?_
    refine x_then ?_
    refine in_exit ?_
    refine e_then ?_
    refine c_seq ?_
    refine c_region ?_
    refine l_q rfl (q_move _ _ rfl s11_30.ev ?_)
    refine l_call _ rfl rfl rfl Try.func17 rfl (args1 rfl (At.hit z30 rfl).ev) (sort_c v11_29 (gatN L L.length 0) _ (Nat.le_trans hgl (by decide)) ox11_29) ?_
    rintro _ w31 ⟨rfl, o31, gr31⟩
    have kmlb_31 := kmlb_29.grw gr31
    have kmlo_31 := kmlo_29.grw gr31
    have kmlt_31 := kmlt_29.grw gr31
    have lw31 := low29.grw gr31
    refine l_end ?_
    refine e_fresh z30.put.put ?_
    intro a32 z32 m32
    have s8_32 := m32 _ _ ((s8_30.ne rfl).ne rfl)
    have s9_32 := m32 _ _ ((s9_30.ne rfl).ne rfl)
    have s10_32 := m32 _ _ ((s10_30.ne rfl).ne rfl)
    have s11_32 := m32 _ _ ((s11_30.ne rfl).ne rfl)
    have low32 := lw31
    clear m32
    refine e_then ?_
    refine c_seq ?_
    refine c_region ?_
    refine l_q rfl (q_assign _ _ rfl rfl ?_)
    refine l_end ?_
    refine e_fresh z32.put ?_
    intro a33 z33 m33
    have s8_33 := m33 _ _ (s8_32.ne rfl)
    have s9_33 := m33 _ _ (s9_32.ne rfl)
    have s10_33 := m33 _ _ (s10_32.ne rfl)
    have s11_33 := m33 _ _ (s11_32.ne rfl)
    have s16_33 := m33 _ _ (At.hit z32 rfl)
    clear m33
    refine e_then ?_
    refine c_seq ?_
    refine c_region ?_
    refine l_q rfl (q_assign _ _ rfl rfl ?_)
    refine l_end ?_
    refine e_fresh z33.put ?_
    intro a34 z34 m34
    have s8_34 := m34 _ _ (s8_33.ne rfl)
    have s9_34 := m34 _ _ (s9_33.ne rfl)
    have s10_34 := m34 _ _ (s10_33.ne rfl)
    have s11_34 := m34 _ _ (s11_33.ne rfl)
    have s16_34 := m34 _ _ (s16_33.ne rfl)
    have s17_34 := m34 _ _ (At.hit z33 rfl)
    clear m34
    refine e_then ?_
    refine c_seq ?_
    refine c_seq ?_
    refine c_region ?_
    refine l_q rfl (q_move _ _ rfl s11_34.ev ?_)
    refine l_call _ rfl rfl rfl Try.func18 rfl (args1 rfl (At.hit z34 rfl).ev) (compact_calls v11_29 (sortB (gatN L L.length 0)) _ o31) ?_
    rintro v35 w35 ⟨o35, gr35⟩
    have kmlb_35 := kmlb_31.grw gr35
    have kmlo_35 := kmlo_31.grw gr35
    have kmlt_35 := kmlt_31.grw gr35
    have lw35 := low32.grw gr35
    replace o35 := OwnF.castL o35 (show compB (sortB (gatN L L.length 0)) = pathsT lb lo lt from gat_paths hL)
    refine l_q rfl (q_lenF rfl rfl Try.underlying25 (At.hit z34.put rfl).ev o35.rd ?_)
    refine l_q rfl (q_move _ _ rfl rfl ?_)
    refine l_end ?_
    refine e_fresh z34.put.put.put.put ?_
    intro a36 z36 m36
    have s8_36 := m36 _ _ ((((s8_34.ne rfl).ne rfl).ne rfl).ne rfl)
    have s9_36 := m36 _ _ ((((s9_34.ne rfl).ne rfl).ne rfl).ne rfl)
    have s10_36 := m36 _ _ ((((s10_34.ne rfl).ne rfl).ne rfl).ne rfl)
    have s16_36 := m36 _ _ ((((s16_34.ne rfl).ne rfl).ne rfl).ne rfl)
    have s17_36 := m36 _ _ ((((s17_34.ne rfl).ne rfl).ne rfl).ne rfl)
    have s54_36 := m36 _ _ (((At.hit z34.put rfl).ne rfl).ne rfl)
    have s55_36 := m36 _ _ ((At.hit z34.put.put rfl).ne rfl)
    have s56_36 := m36 _ _ (At.hit z34.put.put.put rfl)
    have low36 := lw35
    clear m36
    refine e_then ?_
    refine wp_block ?_
    refine c_loop ((pathsT lb lo lt).length) (fun k a w => ∃ v16 : Value, ∃ v17 : Value, Fr 126 a ∧ At a 8 (.map (some mlb)) ∧ At a 9 (.map (some mlo)) ∧ At a 10 (.map (some mlt)) ∧ At a 16 (v16) ∧ At a 17 (v17) ∧ At a 54 (v35) ∧ At a 55 (.int .i64 ((((pathsT lb lo lt).length) : Nat) : Int)) ∧ At a 56 (.int .i64 ((k : Nat) : Int)) ∧ MapIs w mlb (mapL lb) ∧ MapIs w mlo (mapL lo) ∧ MapIs w mlt (mapL lt) ∧ OwnF w w35.heap.size 37 3 v16 (outT lb lo lt ((pathsT lb lo lt).take k)).length (((outT lb lo lt ((pathsT lb lo lt).take k)).map encL).flatten) ∧ OwnF w w35.heap.size 9 1 v17 (badT lb lo lt ((pathsT lb lo lt).take k)).length (((badT lb lo lt ((pathsT lb lo lt).take k)).map encS).flatten) ∧ Low w35 w) ?_ ?_ ?_
    · exact ⟨.slice none 0 0, .slice none 0 0, z36, s8_36, s9_36, s10_36, s16_36, s17_36, s54_36, s55_36, s56_36, kmlb_35, kmlo_35, kmlt_35, (OwnF.nil _ _ _ _), (OwnF.nil _ _ _ _), (Low.refl _)⟩
    · intro k a37 w37 hk37 h
      obtain ⟨v16_37, v17_37, z37, s8_37, s9_37, s10_37, s16_37, s17_37, s54_37, s55_37, s56_37, kmlb_37, kmlo_37, kmlt_37, ox16_37, ox17_37, low37⟩ := h
      clear kmlb_35 kmlo_35 kmlt_35 s10_36 s16_36 s17_36 s54_36 s55_36 s56_36 s8_36 s9_36 z36
      have hpl := paths_len lb lo lt
      have hol := out_len lb lo lt (pathsT lb lo lt) k 300000 (by omega)
      have hbl := bad_len lb lo lt (pathsT lb lo lt) k 300000 (by omega)
      refine c_seq ?_
      refine c_region ?_
      refine l_q rfl (q_lss true rfl s56_37.ev s55_37.ev (decide_eq_true (by omega)) ?_)
      refine l_end ?_
      refine e_fresh z37.put ?_
      intro a38 z38 m38
      have s8_38 := m38 _ _ (s8_37.ne rfl)
      have s9_38 := m38 _ _ (s9_37.ne rfl)
      have s10_38 := m38 _ _ (s10_37.ne rfl)
      have s16_38 := m38 _ _ (s16_37.ne rfl)
      have s17_38 := m38 _ _ (s17_37.ne rfl)
      have s54_38 := m38 _ _ (s54_37.ne rfl)
      have s55_38 := m38 _ _ (s55_37.ne rfl)
      have s56_38 := m38 _ _ (s56_37.ne rfl)
      have s57_38 := m38 _ _ (At.hit z37 rfl)
      clear m38
      refine e_then ?_
      refine c_seq ?_
      refine c_true s57_38 ?_
      refine wp_skip ?_
      refine e_then ?_
      refine c_seq ?_
      refine wp_block ?_
      refine c_seq ?_
      refine c_region ?_
      refine l_q rfl (q_idxF (j := k) rfl Try.underlying25 sz9 s54_38.ev (o35.low low37).rd s56_38.ev (by omega) ?_)
      refine l_q rfl (q_ld1 (u := .string ((pathsT lb lo lt).getD k ByteArray.empty)) rfl Try.underlying9 rfl (At.hit z38 rfl).ev (fun _ e => by rw [e]; exact (o35.low low37).rd) (by omega) ((flat_at encS_len ByteArray.empty _ k 0 (by omega) (by decide)).trans rfl) ?_)
      refine l_q rfl (q_assign _ _ rfl (At.hit z38.put rfl).ev ?_)
      refine l_end ?_
      refine e_fresh z38.put.put.put ?_
      intro a39 z39 m39
      have s8_39 := m39 _ _ (((s8_38.ne rfl).ne rfl).ne rfl)
      have s9_39 := m39 _ _ (((s9_38.ne rfl).ne rfl).ne rfl)
      have s10_39 := m39 _ _ (((s10_38.ne rfl).ne rfl).ne rfl)
      have s16_39 := m39 _ _ (((s16_38.ne rfl).ne rfl).ne rfl)
      have s17_39 := m39 _ _ (((s17_38.ne rfl).ne rfl).ne rfl)
      have s19_39 := m39 _ _ (At.hit z38.put.put rfl)
      have s54_39 := m39 _ _ (((s54_38.ne rfl).ne rfl).ne rfl)
      have s55_39 := m39 _ _ (((s55_38.ne rfl).ne rfl).ne rfl)
      have s56_39 := m39 _ _ (((s56_38.ne rfl).ne rfl).ne rfl)
      clear m39
      refine e_then ?_
      refine c_seq ?_
      refine c_region ?_
      refine l_q rfl (q_move _ _ rfl s9_39.ev ?_)
      refine l_q rfl (q_move _ _ rfl (s19_39.ne rfl).ev ?_)
      refine l_q rfl (q_look (.agg (#[.string ((findL lo ((pathsT lb lo lt).getD k ByteArray.empty)).f0), .int .i64 ((findL lo ((pathsT lb lo lt).getD k ByteArray.empty)).f1), .string ((findL lo ((pathsT lb lo lt).getD k ByteArray.empty)).f2)])) rfl Try.underlying35 Try.underlying9 zero37 ((At.hit z39 rfl).ne rfl).ev (At.hit z39.put rfl).ev (fun _ e => by rw [e]; exact kmlo_37) (look_mapL lo ((pathsT lb lo lt).getD k ByteArray.empty)) ?_)
      refine l_alloc rfl rfl zero37 ?_
      intro g20 w40 hg40 k40 h40
      have onx16_g20 : ∀ k, Value.ownBlock v16_37 = some k → k < g20 := fun k hk => Nat.lt_of_lt_of_le (OwnF.own_lt ox16_37 hk) hg40
      have nmlb_g20 := Nat.ne_of_lt (Nat.lt_of_lt_of_le kmlb_37.lt hg40)
      have nmlo_g20 := Nat.ne_of_lt (Nat.lt_of_lt_of_le kmlo_37.lt hg40)
      have nmlt_g20 := Nat.ne_of_lt (Nat.lt_of_lt_of_le kmlt_37.lt hg40)
      have geg20 := Nat.le_trans low37.ge hg40
      have kmlb_40 := kmlb_37.low h40
      have kmlo_40 := kmlo_37.low h40
      have kmlt_40 := kmlt_37.low h40
      have ox16_40 := ox16_37.low h40
      have ox17_40 := ox17_37.low h40
      have ob35_40 := (o35.low low37).low h40
      refine l_row rfl rfl rfl (sz37.trans (congrArg some rfl.symm)) (At.hit z39.put.put.put rfl).ev ((At.hit z39.put.put rfl).ne rfl).ev (by simp [Value.oneCell']) k40 (rfl.trans rfl.symm) ?_
      intro w41 k41 u41
      have ox16_41 := ox16_40.updn u41 onx16_g20
      have ox17_41 := ox17_40.upd u41 k40 rfl
      have kmlb_41 := kmlb_40.upd u41 (by omega)
      have kmlo_41 := kmlo_40.upd u41 (by omega)
      have kmlt_41 := kmlt_40.upd u41 (by omega)
      refine l_end ?_
      refine e_fresh z39.put.put.put.put ?_
      intro a42 z42 m42
      have s8_42 := m42 _ _ ((((s8_39.ne rfl).ne rfl).ne rfl).ne rfl)
      have s9_42 := m42 _ _ ((((s9_39.ne rfl).ne rfl).ne rfl).ne rfl)
      have s10_42 := m42 _ _ ((((s10_39.ne rfl).ne rfl).ne rfl).ne rfl)
      have s16_42 := m42 _ _ ((((s16_39.ne rfl).ne rfl).ne rfl).ne rfl)
      have s17_42 := m42 _ _ ((((s17_39.ne rfl).ne rfl).ne rfl).ne rfl)
      have s19_42 := m42 _ _ ((((s19_39.ne rfl).ne rfl).ne rfl).ne rfl)
      have s20_42 := m42 _ _ (At.hit z39.put.put.put rfl)
      have s54_42 := m42 _ _ ((((s54_39.ne rfl).ne rfl).ne rfl).ne rfl)
      have s55_42 := m42 _ _ ((((s55_39.ne rfl).ne rfl).ne rfl).ne rfl)
      have s56_42 := m42 _ _ ((((s56_39.ne rfl).ne rfl).ne rfl).ne rfl)
      have low42 := ((low37.trans h40).upd u41 geg20)
      clear m42
      refine e_then ?_
      refine c_seq ?_
      refine wp_block ?_
      refine c_seq ?_
      by_cases hb43 : findL lo ((pathsT lb lo lt).getD k ByteArray.empty) = findL lt ((pathsT lb lo lt).getD k ByteArray.empty)
      · skip
        refine c_region ?_
        refine l_q rfl (q_move _ _ rfl s9_42.ev ?_)
        refine l_q rfl (q_move _ _ rfl (s19_42.ne rfl).ev ?_)
        refine l_q rfl (q_look (.agg (#[.string ((findL lo ((pathsT lb lo lt).getD k ByteArray.empty)).f0), .int .i64 ((findL lo ((pathsT lb lo lt).getD k ByteArray.empty)).f1), .string ((findL lo ((pathsT lb lo lt).getD k ByteArray.empty)).f2)])) rfl Try.underlying35 Try.underlying9 zero37 ((At.hit z42 rfl).ne rfl).ev (At.hit z42.put rfl).ev (fun _ e => by rw [e]; exact kmlo_41) (look_mapL lo ((pathsT lb lo lt).getD k ByteArray.empty)) ?_)
        refine l_q rfl (q_move _ _ rfl (((s10_42.ne rfl).ne rfl).ne rfl).ev ?_)
        refine l_q rfl (q_move _ _ rfl ((((s19_42.ne rfl).ne rfl).ne rfl).ne rfl).ev ?_)
        refine l_q rfl (q_look (.agg (#[.string ((findL lt ((pathsT lb lo lt).getD k ByteArray.empty)).f0), .int .i64 ((findL lt ((pathsT lb lo lt).getD k ByteArray.empty)).f1), .string ((findL lt ((pathsT lb lo lt).getD k ByteArray.empty)).f2)])) rfl Try.underlying35 Try.underlying9 zero37 ((At.hit z42.put.put.put rfl).ne rfl).ev (At.hit z42.put.put.put.put rfl).ev (fun _ e => by rw [e]; exact kmlt_41) (look_mapL lt ((pathsT lb lo lt).getD k ByteArray.empty)) ?_)
        refine l_q rfl (q_eq3 true rfl guard37 ((((At.hit z42.put.put rfl).ne rfl).ne rfl).ne rfl).ev (At.hit z42.put.put.put.put.put rfl).ev (eq37 9998 ((findL lo ((pathsT lb lo lt).getD k ByteArray.empty)).f0) ((findL lo ((pathsT lb lo lt).getD k ByteArray.empty)).f1) ((findL lo ((pathsT lb lo lt).getD k ByteArray.empty)).f2) ((findL lt ((pathsT lb lo lt).getD k ByteArray.empty)).f0) ((findL lt ((pathsT lb lo lt).getD k ByteArray.empty)).f1) ((findL lt ((pathsT lb lo lt).getD k ByteArray.empty)).f2)) (eqL_true hb43) ?_)
        refine l_q rfl (q_move _ _ rfl (At.hit z42.put.put.put.put.put.put rfl).ev ?_)
        refine l_fresh z42.put.put.put.put.put.put.put.put ?_
        intro a44 z44 m44
        have s8_44 := m44 _ _ ((((((((s8_42.ne rfl).ne rfl).ne rfl).ne rfl).ne rfl).ne rfl).ne rfl).ne rfl)
        have s9_44 := m44 _ _ ((((((((s9_42.ne rfl).ne rfl).ne rfl).ne rfl).ne rfl).ne rfl).ne rfl).ne rfl)
        have s10_44 := m44 _ _ ((((((((s10_42.ne rfl).ne rfl).ne rfl).ne rfl).ne rfl).ne rfl).ne rfl).ne rfl)
        have s16_44 := m44 _ _ ((((((((s16_42.ne rfl).ne rfl).ne rfl).ne rfl).ne rfl).ne rfl).ne rfl).ne rfl)
        have s17_44 := m44 _ _ ((((((((s17_42.ne rfl).ne rfl).ne rfl).ne rfl).ne rfl).ne rfl).ne rfl).ne rfl)
        have s19_44 := m44 _ _ ((((((((s19_42.ne rfl).ne rfl).ne rfl).ne rfl).ne rfl).ne rfl).ne rfl).ne rfl)
        have s20_44 := m44 _ _ ((((((((s20_42.ne rfl).ne rfl).ne rfl).ne rfl).ne rfl).ne rfl).ne rfl).ne rfl)
        have s54_44 := m44 _ _ ((((((((s54_42.ne rfl).ne rfl).ne rfl).ne rfl).ne rfl).ne rfl).ne rfl).ne rfl)
        have s55_44 := m44 _ _ ((((((((s55_42.ne rfl).ne rfl).ne rfl).ne rfl).ne rfl).ne rfl).ne rfl).ne rfl)
        have s56_44 := m44 _ _ ((((((((s56_42.ne rfl).ne rfl).ne rfl).ne rfl).ne rfl).ne rfl).ne rfl).ne rfl)
        have s75_44 := m44 _ _ (At.hit z42.put.put.put.put.put.put.put rfl)
        clear m44
        refine l_skip (wanted_is (j := 7) (d := 75) (b := true) rfl rfl s75_44 rfl) ?_
        refine l_skip (wanted_is (j := 7) (d := 75) (b := true) rfl rfl (s75_44.ne rfl) rfl) ?_
        refine l_skip (wanted_is (j := 7) (d := 75) (b := true) rfl rfl ((s75_44.ne rfl).ne rfl) rfl) ?_
        refine l_skip (wanted_is (j := 7) (d := 75) (b := true) rfl rfl (((s75_44.ne rfl).ne rfl).ne rfl) rfl) ?_
        refine l_skip (wanted_is (j := 7) (d := 75) (b := true) rfl rfl ((((s75_44.ne rfl).ne rfl).ne rfl).ne rfl) rfl) ?_
        refine l_skip (wanted_is (j := 7) (d := 75) (b := true) rfl rfl (((((s75_44.ne rfl).ne rfl).ne rfl).ne rfl).ne rfl) rfl) ?_
        refine l_skip (wanted_is (j := 7) (d := 75) (b := true) rfl rfl ((((((s75_44.ne rfl).ne rfl).ne rfl).ne rfl).ne rfl).ne rfl) rfl) ?_
        refine l_q rfl (q_pick (b := true) (.bool true) rfl (((((((s75_44.ne rfl).ne rfl).ne rfl).ne rfl).ne rfl).ne rfl).ne rfl).ev rfl ?_)
        refine l_fresh z44.put.put.put.put.put.put.put.put ?_
        intro a45 z45 m45
        have s8_45 := m45 _ _ ((((((((s8_44.ne rfl).ne rfl).ne rfl).ne rfl).ne rfl).ne rfl).ne rfl).ne rfl)
        have s9_45 := m45 _ _ ((((((((s9_44.ne rfl).ne rfl).ne rfl).ne rfl).ne rfl).ne rfl).ne rfl).ne rfl)
        have s10_45 := m45 _ _ ((((((((s10_44.ne rfl).ne rfl).ne rfl).ne rfl).ne rfl).ne rfl).ne rfl).ne rfl)
        have s16_45 := m45 _ _ ((((((((s16_44.ne rfl).ne rfl).ne rfl).ne rfl).ne rfl).ne rfl).ne rfl).ne rfl)
        have s17_45 := m45 _ _ ((((((((s17_44.ne rfl).ne rfl).ne rfl).ne rfl).ne rfl).ne rfl).ne rfl).ne rfl)
        have s19_45 := m45 _ _ ((((((((s19_44.ne rfl).ne rfl).ne rfl).ne rfl).ne rfl).ne rfl).ne rfl).ne rfl)
        have s20_45 := m45 _ _ ((((((((s20_44.ne rfl).ne rfl).ne rfl).ne rfl).ne rfl).ne rfl).ne rfl).ne rfl)
        have s54_45 := m45 _ _ ((((((((s54_44.ne rfl).ne rfl).ne rfl).ne rfl).ne rfl).ne rfl).ne rfl).ne rfl)
        have s55_45 := m45 _ _ ((((((((s55_44.ne rfl).ne rfl).ne rfl).ne rfl).ne rfl).ne rfl).ne rfl).ne rfl)
        have s56_45 := m45 _ _ ((((((((s56_44.ne rfl).ne rfl).ne rfl).ne rfl).ne rfl).ne rfl).ne rfl).ne rfl)
        have s83_45 := m45 _ _ (At.hit z44.put.put.put.put.put.put.put rfl)
        clear m45
        refine l_q rfl (q_assign _ _ rfl s83_45.ev ?_)
        refine l_end ?_
        refine e_fresh z45.put ?_
        intro a46 z46 m46
        have s8_46 := m46 _ _ (s8_45.ne rfl)
        have s9_46 := m46 _ _ (s9_45.ne rfl)
        have s10_46 := m46 _ _ (s10_45.ne rfl)
        have s16_46 := m46 _ _ (s16_45.ne rfl)
        have s17_46 := m46 _ _ (s17_45.ne rfl)
        have s19_46 := m46 _ _ (s19_45.ne rfl)
        have s20_46 := m46 _ _ (s20_45.ne rfl)
        have s54_46 := m46 _ _ (s54_45.ne rfl)
        have s55_46 := m46 _ _ (s55_45.ne rfl)
        have s56_46 := m46 _ _ (s56_45.ne rfl)
        have s67_46 := m46 _ _ (At.hit z45 rfl)
        clear m46
        refine e_then ?_
        refine c_true s67_46 ?_
        refine wp_skip ?_
        refine e_in ?_
        refine e_then ?_
        refine c_seq ?_
        by_cases hb47 : ¬ findL lo ((pathsT lb lo lt).getD k ByteArray.empty) = zL
        · skip
          refine c_region ?_
          refine l_q rfl (q_row rfl Try.underlying37 rfl (sz37.trans (congrArg some rfl.symm)) s20_46.ev (fun _ e => by rw [e]; exact k41) ?_)
          refine l_q rfl (q_build (cs := #[.string zL.f0, .int .i64 zL.f1, .string zL.f2]) rfl rfl (by kernel_rfl) ?_)
          refine l_q rfl (q_ne3 true rfl guard37 ((At.hit z46 rfl).ne rfl).ev (At.hit z46.put rfl).ev (eq37 9998 ((findL lo ((pathsT lb lo lt).getD k ByteArray.empty)).f0) ((findL lo ((pathsT lb lo lt).getD k ByteArray.empty)).f1) ((findL lo ((pathsT lb lo lt).getD k ByteArray.empty)).f2) zL.f0 zL.f1 zL.f2) (neL_true hb47) ?_)
          refine l_end ?_
          refine e_fresh z46.put.put.put ?_
          intro a48 z48 m48
          have s8_48 := m48 _ _ (((s8_46.ne rfl).ne rfl).ne rfl)
          have s9_48 := m48 _ _ (((s9_46.ne rfl).ne rfl).ne rfl)
          have s10_48 := m48 _ _ (((s10_46.ne rfl).ne rfl).ne rfl)
          have s16_48 := m48 _ _ (((s16_46.ne rfl).ne rfl).ne rfl)
          have s17_48 := m48 _ _ (((s17_46.ne rfl).ne rfl).ne rfl)
          have s20_48 := m48 _ _ (((s20_46.ne rfl).ne rfl).ne rfl)
          have s54_48 := m48 _ _ (((s54_46.ne rfl).ne rfl).ne rfl)
          have s55_48 := m48 _ _ (((s55_46.ne rfl).ne rfl).ne rfl)
          have s56_48 := m48 _ _ (((s56_46.ne rfl).ne rfl).ne rfl)
          have s97_48 := m48 _ _ (At.hit z46.put.put rfl)
          clear m48
          refine e_then ?_
          refine c_true s97_48 ?_
          refine c_region ?_
          refine l_q rfl (q_move _ _ rfl s16_48.ev ?_)
          refine l_q rfl (q_row rfl Try.underlying37 rfl (sz37.trans (congrArg some rfl.symm)) (s20_48.ne rfl).ev (fun _ e => by rw [e]; exact k41) ?_)
          refine l_buildF (vs := [.string ((findL lo ((pathsT lb lo lt).getD k ByteArray.empty)).f0), .int .i64 ((findL lo ((pathsT lb lo lt).getD k ByteArray.empty)).f1), .string ((findL lo ((pathsT lb lo lt).getD k ByteArray.empty)).f2)]) rfl rfl Try.underlying22 rec37 (At.hit z48.put rfl).ev rfl rfl (by decide) (by decide) ?_
          intro g100_49 w49 hg49 k49 h49
          have onx16_g100_49 : ∀ k, Value.ownBlock v16_37 = some k → k < g100_49 := fun k hk => Nat.lt_of_lt_of_le (OwnF.own_lt ox16_41 hk) hg49
          have lt_g20_g100_49 := Nat.lt_of_lt_of_le (heap_lt k41) hg49
          have nmlb_g100_49 := Nat.ne_of_lt (Nat.lt_of_lt_of_le kmlb_41.lt hg49)
          have nmlo_g100_49 := Nat.ne_of_lt (Nat.lt_of_lt_of_le kmlo_41.lt hg49)
          have nmlt_g100_49 := Nat.ne_of_lt (Nat.lt_of_lt_of_le kmlt_41.lt hg49)
          have geg100_49 := Nat.le_trans low42.ge hg49
          have kmlb_49 := kmlb_41.low h49
          have kmlo_49 := kmlo_41.low h49
          have kmlt_49 := kmlt_41.low h49
          have kg20_49 := h49.blk k41
          have ox16_49 := ox16_41.low h49
          have ox17_49 := ox17_41.low h49
          have ob35_49 := (o35.low ((low37.trans h40).upd u41 geg20)).low h49
          refine l_appF (B := w35.heap.size) rfl rfl Try.underlying22 rec37 (((At.hit z48 rfl).ne rfl).ne rfl).ev (At.hit z48.put.put rfl).ev k49 rfl (by decide) rfl ox16_49 (low42.trans h49).ge (by omega) ?_
          intro v50 w50 o50 gr50
          have kmlb_50 := kmlb_49.grw gr50
          have kmlo_50 := kmlo_49.grw gr50
          have kmlt_50 := kmlt_49.grw gr50
          have kg20_50 := gr50.blkn kg20_49 onx16_g20
          have lw50 := (low42.trans h49).grw gr50
          have ox17_50 := ox17_49.grw gr50 rfl
          replace o50 := o50.cast (show _ = ((outT lb lo lt ((pathsT lb lo lt).take k)) ++ [(findL lo ((pathsT lb lo lt).getD k ByteArray.empty))]).length by rw [List.length_append]; rfl) (flat_snoc (enc := encL) (outT lb lo lt ((pathsT lb lo lt).take k)) (findL lo ((pathsT lb lo lt).getD k ByteArray.empty)))
          refine l_q rfl (q_assign _ _ rfl (At.hit z48.put.put.put rfl).ev ?_)
          refine l_end ?_
          refine e_fresh z48.put.put.put.put.put ?_
          intro a51 z51 m51
          have s8_51 := m51 _ _ (((((s8_48.ne rfl).ne rfl).ne rfl).ne rfl).ne rfl)
          have s9_51 := m51 _ _ (((((s9_48.ne rfl).ne rfl).ne rfl).ne rfl).ne rfl)
          have s10_51 := m51 _ _ (((((s10_48.ne rfl).ne rfl).ne rfl).ne rfl).ne rfl)
          have s16_51 := m51 _ _ (At.hit z48.put.put.put.put rfl)
          have s17_51 := m51 _ _ (((((s17_48.ne rfl).ne rfl).ne rfl).ne rfl).ne rfl)
          have s54_51 := m51 _ _ (((((s54_48.ne rfl).ne rfl).ne rfl).ne rfl).ne rfl)
          have s55_51 := m51 _ _ (((((s55_48.ne rfl).ne rfl).ne rfl).ne rfl).ne rfl)
          have s56_51 := m51 _ _ (((((s56_48.ne rfl).ne rfl).ne rfl).ne rfl).ne rfl)
          have low51 := lw50
          clear m51
          refine e_in ?_
          refine e_then ?_
          refine c_region ?_
          refine l_q rfl (q_add (((k + 1 : Nat) : Int)) rfl s56_51.ev rfl (i64_is (by omega) (by omega) (by omega)) ?_)
          refine l_q rfl (q_move _ _ rfl (At.hit z51 rfl).ev ?_)
          refine l_end ?_
          refine e_fresh z51.put.put ?_
          intro a52 z52 m52
          have s8_52 := m52 _ _ ((s8_51.ne rfl).ne rfl)
          have s9_52 := m52 _ _ ((s9_51.ne rfl).ne rfl)
          have s10_52 := m52 _ _ ((s10_51.ne rfl).ne rfl)
          have s16_52 := m52 _ _ ((s16_51.ne rfl).ne rfl)
          have s17_52 := m52 _ _ ((s17_51.ne rfl).ne rfl)
          have s54_52 := m52 _ _ ((s54_51.ne rfl).ne rfl)
          have s55_52 := m52 _ _ ((s55_51.ne rfl).ne rfl)
          have s56_52 := m52 _ _ (At.hit z51.put rfl)
          clear m52
          have c53 := OwnF.castL o50 (show (outT lb lo lt ((pathsT lb lo lt).take k)) ++ [(findL lo ((pathsT lb lo lt).getD k ByteArray.empty))] = outT lb lo lt ((pathsT lb lo lt).take (k + 1)) from out_next (by omega) (cell_1 hb43) hb47)
          have c54 := OwnF.castL ox17_50 (show badT lb lo lt ((pathsT lb lo lt).take k) = badT lb lo lt ((pathsT lb lo lt).take (k + 1)) from bad_skip (by omega) (clash_1 hb43))
          exact ⟨v50, v17_37, z52, s8_52, s9_52, s10_52, s16_52, s17_52, s54_52, s55_52, s56_52, kmlb_50, kmlo_50, kmlt_50, c53, c54, low51⟩
        · skip
          refine c_region ?_
          refine l_q rfl (q_row rfl Try.underlying37 rfl (sz37.trans (congrArg some rfl.symm)) s20_46.ev (fun _ e => by rw [e]; exact k41) ?_)
          refine l_q rfl (q_build (cs := #[.string zL.f0, .int .i64 zL.f1, .string zL.f2]) rfl rfl (by kernel_rfl) ?_)
          refine l_q rfl (q_ne3 false rfl guard37 ((At.hit z46 rfl).ne rfl).ev (At.hit z46.put rfl).ev (eq37 9998 ((findL lo ((pathsT lb lo lt).getD k ByteArray.empty)).f0) ((findL lo ((pathsT lb lo lt).getD k ByteArray.empty)).f1) ((findL lo ((pathsT lb lo lt).getD k ByteArray.empty)).f2) zL.f0 zL.f1 zL.f2) (neL_false (Decidable.not_not.1 hb47)) ?_)
          refine l_end ?_
          refine e_fresh z46.put.put.put ?_
          intro a55 z55 m55
          have s8_55 := m55 _ _ (((s8_46.ne rfl).ne rfl).ne rfl)
          have s9_55 := m55 _ _ (((s9_46.ne rfl).ne rfl).ne rfl)
          have s10_55 := m55 _ _ (((s10_46.ne rfl).ne rfl).ne rfl)
          have s16_55 := m55 _ _ (((s16_46.ne rfl).ne rfl).ne rfl)
          have s17_55 := m55 _ _ (((s17_46.ne rfl).ne rfl).ne rfl)
          have s20_55 := m55 _ _ (((s20_46.ne rfl).ne rfl).ne rfl)
          have s54_55 := m55 _ _ (((s54_46.ne rfl).ne rfl).ne rfl)
          have s55_55 := m55 _ _ (((s55_46.ne rfl).ne rfl).ne rfl)
          have s56_55 := m55 _ _ (((s56_46.ne rfl).ne rfl).ne rfl)
          have s97_55 := m55 _ _ (At.hit z46.put.put rfl)
          clear m55
          refine e_then ?_
          refine c_false s97_55 ?_
          refine wp_skip ?_
          refine e_in ?_
          refine e_then ?_
          refine c_region ?_
          refine l_q rfl (q_add (((k + 1 : Nat) : Int)) rfl s56_55.ev rfl (i64_is (by omega) (by omega) (by omega)) ?_)
          refine l_q rfl (q_move _ _ rfl (At.hit z55 rfl).ev ?_)
          refine l_end ?_
          refine e_fresh z55.put.put ?_
          intro a56 z56 m56
          have s8_56 := m56 _ _ ((s8_55.ne rfl).ne rfl)
          have s9_56 := m56 _ _ ((s9_55.ne rfl).ne rfl)
          have s10_56 := m56 _ _ ((s10_55.ne rfl).ne rfl)
          have s16_56 := m56 _ _ ((s16_55.ne rfl).ne rfl)
          have s17_56 := m56 _ _ ((s17_55.ne rfl).ne rfl)
          have s54_56 := m56 _ _ ((s54_55.ne rfl).ne rfl)
          have s55_56 := m56 _ _ ((s55_55.ne rfl).ne rfl)
          have s56_56 := m56 _ _ (At.hit z55.put rfl)
          clear m56
          have c57 := OwnF.castL ox16_41 (show outT lb lo lt ((pathsT lb lo lt).take k) = outT lb lo lt ((pathsT lb lo lt).take (k + 1)) from out_skip (by omega) (cell_1 hb43) hb47)
          have c58 := OwnF.castL ox17_41 (show badT lb lo lt ((pathsT lb lo lt).take k) = badT lb lo lt ((pathsT lb lo lt).take (k + 1)) from bad_skip (by omega) (clash_1 hb43))
          exact ⟨v16_37, v17_37, z56, s8_56, s9_56, s10_56, s16_56, s17_56, s54_56, s55_56, s56_56, kmlb_41, kmlo_41, kmlt_41, c57, c58, low42⟩
      · skip
        by_cases hb59 : findL lt ((pathsT lb lo lt).getD k ByteArray.empty) = findL lb ((pathsT lb lo lt).getD k ByteArray.empty)
        · skip
          refine c_region ?_
          refine l_q rfl (q_move _ _ rfl s9_42.ev ?_)
          refine l_q rfl (q_move _ _ rfl (s19_42.ne rfl).ev ?_)
          refine l_q rfl (q_look (.agg (#[.string ((findL lo ((pathsT lb lo lt).getD k ByteArray.empty)).f0), .int .i64 ((findL lo ((pathsT lb lo lt).getD k ByteArray.empty)).f1), .string ((findL lo ((pathsT lb lo lt).getD k ByteArray.empty)).f2)])) rfl Try.underlying35 Try.underlying9 zero37 ((At.hit z42 rfl).ne rfl).ev (At.hit z42.put rfl).ev (fun _ e => by rw [e]; exact kmlo_41) (look_mapL lo ((pathsT lb lo lt).getD k ByteArray.empty)) ?_)
          refine l_q rfl (q_move _ _ rfl (((s10_42.ne rfl).ne rfl).ne rfl).ev ?_)
          refine l_q rfl (q_move _ _ rfl ((((s19_42.ne rfl).ne rfl).ne rfl).ne rfl).ev ?_)
          refine l_q rfl (q_look (.agg (#[.string ((findL lt ((pathsT lb lo lt).getD k ByteArray.empty)).f0), .int .i64 ((findL lt ((pathsT lb lo lt).getD k ByteArray.empty)).f1), .string ((findL lt ((pathsT lb lo lt).getD k ByteArray.empty)).f2)])) rfl Try.underlying35 Try.underlying9 zero37 ((At.hit z42.put.put.put rfl).ne rfl).ev (At.hit z42.put.put.put.put rfl).ev (fun _ e => by rw [e]; exact kmlt_41) (look_mapL lt ((pathsT lb lo lt).getD k ByteArray.empty)) ?_)
          refine l_q rfl (q_eq3 false rfl guard37 ((((At.hit z42.put.put rfl).ne rfl).ne rfl).ne rfl).ev (At.hit z42.put.put.put.put.put rfl).ev (eq37 9998 ((findL lo ((pathsT lb lo lt).getD k ByteArray.empty)).f0) ((findL lo ((pathsT lb lo lt).getD k ByteArray.empty)).f1) ((findL lo ((pathsT lb lo lt).getD k ByteArray.empty)).f2) ((findL lt ((pathsT lb lo lt).getD k ByteArray.empty)).f0) ((findL lt ((pathsT lb lo lt).getD k ByteArray.empty)).f1) ((findL lt ((pathsT lb lo lt).getD k ByteArray.empty)).f2)) (eqL_false hb43) ?_)
          refine l_q rfl (q_move _ _ rfl (At.hit z42.put.put.put.put.put.put rfl).ev ?_)
          refine l_fresh z42.put.put.put.put.put.put.put.put ?_
          intro a60 z60 m60
          have s8_60 := m60 _ _ ((((((((s8_42.ne rfl).ne rfl).ne rfl).ne rfl).ne rfl).ne rfl).ne rfl).ne rfl)
          have s9_60 := m60 _ _ ((((((((s9_42.ne rfl).ne rfl).ne rfl).ne rfl).ne rfl).ne rfl).ne rfl).ne rfl)
          have s10_60 := m60 _ _ ((((((((s10_42.ne rfl).ne rfl).ne rfl).ne rfl).ne rfl).ne rfl).ne rfl).ne rfl)
          have s16_60 := m60 _ _ ((((((((s16_42.ne rfl).ne rfl).ne rfl).ne rfl).ne rfl).ne rfl).ne rfl).ne rfl)
          have s17_60 := m60 _ _ ((((((((s17_42.ne rfl).ne rfl).ne rfl).ne rfl).ne rfl).ne rfl).ne rfl).ne rfl)
          have s19_60 := m60 _ _ ((((((((s19_42.ne rfl).ne rfl).ne rfl).ne rfl).ne rfl).ne rfl).ne rfl).ne rfl)
          have s20_60 := m60 _ _ ((((((((s20_42.ne rfl).ne rfl).ne rfl).ne rfl).ne rfl).ne rfl).ne rfl).ne rfl)
          have s54_60 := m60 _ _ ((((((((s54_42.ne rfl).ne rfl).ne rfl).ne rfl).ne rfl).ne rfl).ne rfl).ne rfl)
          have s55_60 := m60 _ _ ((((((((s55_42.ne rfl).ne rfl).ne rfl).ne rfl).ne rfl).ne rfl).ne rfl).ne rfl)
          have s56_60 := m60 _ _ ((((((((s56_42.ne rfl).ne rfl).ne rfl).ne rfl).ne rfl).ne rfl).ne rfl).ne rfl)
          have s75_60 := m60 _ _ (At.hit z42.put.put.put.put.put.put.put rfl)
          clear m60
          refine l_qg (wanted_is (j := 7) (d := 75) (b := false) rfl rfl s75_60 rfl) (q_move _ _ rfl s10_60.ev ?_)
          refine l_qg (wanted_is (j := 7) (d := 75) (b := false) rfl rfl (s75_60.ne rfl) rfl) (q_move _ _ rfl (s19_60.ne rfl).ev ?_)
          refine l_qg (wanted_is (j := 7) (d := 75) (b := false) rfl rfl ((s75_60.ne rfl).ne rfl) rfl) (q_look (.agg (#[.string ((findL lt ((pathsT lb lo lt).getD k ByteArray.empty)).f0), .int .i64 ((findL lt ((pathsT lb lo lt).getD k ByteArray.empty)).f1), .string ((findL lt ((pathsT lb lo lt).getD k ByteArray.empty)).f2)])) rfl Try.underlying35 Try.underlying9 zero37 ((At.hit z60 rfl).ne rfl).ev (At.hit z60.put rfl).ev (fun _ e => by rw [e]; exact kmlt_41) (look_mapL lt ((pathsT lb lo lt).getD k ByteArray.empty)) ?_)
          refine l_qg (wanted_is (j := 7) (d := 75) (b := false) rfl rfl (((s75_60.ne rfl).ne rfl).ne rfl) rfl) (q_move _ _ rfl (((s8_60.ne rfl).ne rfl).ne rfl).ev ?_)
          refine l_qg (wanted_is (j := 7) (d := 75) (b := false) rfl rfl ((((s75_60.ne rfl).ne rfl).ne rfl).ne rfl) rfl) (q_move _ _ rfl ((((s19_60.ne rfl).ne rfl).ne rfl).ne rfl).ev ?_)
          refine l_qg (wanted_is (j := 7) (d := 75) (b := false) rfl rfl (((((s75_60.ne rfl).ne rfl).ne rfl).ne rfl).ne rfl) rfl) (q_look (.agg (#[.string ((findL lb ((pathsT lb lo lt).getD k ByteArray.empty)).f0), .int .i64 ((findL lb ((pathsT lb lo lt).getD k ByteArray.empty)).f1), .string ((findL lb ((pathsT lb lo lt).getD k ByteArray.empty)).f2)])) rfl Try.underlying35 Try.underlying9 zero37 ((At.hit z60.put.put.put rfl).ne rfl).ev (At.hit z60.put.put.put.put rfl).ev (fun _ e => by rw [e]; exact kmlb_41) (look_mapL lb ((pathsT lb lo lt).getD k ByteArray.empty)) ?_)
          refine l_qg (wanted_is (j := 7) (d := 75) (b := false) rfl rfl ((((((s75_60.ne rfl).ne rfl).ne rfl).ne rfl).ne rfl).ne rfl) rfl) (q_eq3 true rfl guard37 ((((At.hit z60.put.put rfl).ne rfl).ne rfl).ne rfl).ev (At.hit z60.put.put.put.put.put rfl).ev (eq37 9998 ((findL lt ((pathsT lb lo lt).getD k ByteArray.empty)).f0) ((findL lt ((pathsT lb lo lt).getD k ByteArray.empty)).f1) ((findL lt ((pathsT lb lo lt).getD k ByteArray.empty)).f2) ((findL lb ((pathsT lb lo lt).getD k ByteArray.empty)).f0) ((findL lb ((pathsT lb lo lt).getD k ByteArray.empty)).f1) ((findL lb ((pathsT lb lo lt).getD k ByteArray.empty)).f2)) (eqL_true hb59) ?_)
          refine l_q rfl (q_pick (b := false) (.bool true) rfl (((((((s75_60.ne rfl).ne rfl).ne rfl).ne rfl).ne rfl).ne rfl).ne rfl).ev (At.hit z60.put.put.put.put.put.put rfl).ev ?_)
          refine l_fresh z60.put.put.put.put.put.put.put.put ?_
          intro a61 z61 m61
          have s8_61 := m61 _ _ ((((((((s8_60.ne rfl).ne rfl).ne rfl).ne rfl).ne rfl).ne rfl).ne rfl).ne rfl)
          have s9_61 := m61 _ _ ((((((((s9_60.ne rfl).ne rfl).ne rfl).ne rfl).ne rfl).ne rfl).ne rfl).ne rfl)
          have s10_61 := m61 _ _ ((((((((s10_60.ne rfl).ne rfl).ne rfl).ne rfl).ne rfl).ne rfl).ne rfl).ne rfl)
          have s16_61 := m61 _ _ ((((((((s16_60.ne rfl).ne rfl).ne rfl).ne rfl).ne rfl).ne rfl).ne rfl).ne rfl)
          have s17_61 := m61 _ _ ((((((((s17_60.ne rfl).ne rfl).ne rfl).ne rfl).ne rfl).ne rfl).ne rfl).ne rfl)
          have s19_61 := m61 _ _ ((((((((s19_60.ne rfl).ne rfl).ne rfl).ne rfl).ne rfl).ne rfl).ne rfl).ne rfl)
          have s20_61 := m61 _ _ ((((((((s20_60.ne rfl).ne rfl).ne rfl).ne rfl).ne rfl).ne rfl).ne rfl).ne rfl)
          have s54_61 := m61 _ _ ((((((((s54_60.ne rfl).ne rfl).ne rfl).ne rfl).ne rfl).ne rfl).ne rfl).ne rfl)
          have s55_61 := m61 _ _ ((((((((s55_60.ne rfl).ne rfl).ne rfl).ne rfl).ne rfl).ne rfl).ne rfl).ne rfl)
          have s56_61 := m61 _ _ ((((((((s56_60.ne rfl).ne rfl).ne rfl).ne rfl).ne rfl).ne rfl).ne rfl).ne rfl)
          have s83_61 := m61 _ _ (At.hit z60.put.put.put.put.put.put.put rfl)
          clear m61
          refine l_q rfl (q_assign _ _ rfl s83_61.ev ?_)
          refine l_end ?_
          refine e_fresh z61.put ?_
          intro a62 z62 m62
          have s8_62 := m62 _ _ (s8_61.ne rfl)
          have s9_62 := m62 _ _ (s9_61.ne rfl)
          have s10_62 := m62 _ _ (s10_61.ne rfl)
          have s16_62 := m62 _ _ (s16_61.ne rfl)
          have s17_62 := m62 _ _ (s17_61.ne rfl)
          have s19_62 := m62 _ _ (s19_61.ne rfl)
          have s20_62 := m62 _ _ (s20_61.ne rfl)
          have s54_62 := m62 _ _ (s54_61.ne rfl)
          have s55_62 := m62 _ _ (s55_61.ne rfl)
          have s56_62 := m62 _ _ (s56_61.ne rfl)
          have s67_62 := m62 _ _ (At.hit z61 rfl)
          clear m62
          refine e_then ?_
          refine c_true s67_62 ?_
          refine wp_skip ?_
          refine e_in ?_
          refine e_then ?_
          refine c_seq ?_
          by_cases hb63 : ¬ findL lo ((pathsT lb lo lt).getD k ByteArray.empty) = zL
          · skip
            refine c_region ?_
            refine l_q rfl (q_row rfl Try.underlying37 rfl (sz37.trans (congrArg some rfl.symm)) s20_62.ev (fun _ e => by rw [e]; exact k41) ?_)
            refine l_q rfl (q_build (cs := #[.string zL.f0, .int .i64 zL.f1, .string zL.f2]) rfl rfl (by kernel_rfl) ?_)
            refine l_q rfl (q_ne3 true rfl guard37 ((At.hit z62 rfl).ne rfl).ev (At.hit z62.put rfl).ev (eq37 9998 ((findL lo ((pathsT lb lo lt).getD k ByteArray.empty)).f0) ((findL lo ((pathsT lb lo lt).getD k ByteArray.empty)).f1) ((findL lo ((pathsT lb lo lt).getD k ByteArray.empty)).f2) zL.f0 zL.f1 zL.f2) (neL_true hb63) ?_)
            refine l_end ?_
            refine e_fresh z62.put.put.put ?_
            intro a64 z64 m64
            have s8_64 := m64 _ _ (((s8_62.ne rfl).ne rfl).ne rfl)
            have s9_64 := m64 _ _ (((s9_62.ne rfl).ne rfl).ne rfl)
            have s10_64 := m64 _ _ (((s10_62.ne rfl).ne rfl).ne rfl)
            have s16_64 := m64 _ _ (((s16_62.ne rfl).ne rfl).ne rfl)
            have s17_64 := m64 _ _ (((s17_62.ne rfl).ne rfl).ne rfl)
            have s20_64 := m64 _ _ (((s20_62.ne rfl).ne rfl).ne rfl)
            have s54_64 := m64 _ _ (((s54_62.ne rfl).ne rfl).ne rfl)
            have s55_64 := m64 _ _ (((s55_62.ne rfl).ne rfl).ne rfl)
            have s56_64 := m64 _ _ (((s56_62.ne rfl).ne rfl).ne rfl)
            have s97_64 := m64 _ _ (At.hit z62.put.put rfl)
            clear m64
            refine e_then ?_
            refine c_true s97_64 ?_
            refine c_region ?_
            refine l_q rfl (q_move _ _ rfl s16_64.ev ?_)
            refine l_q rfl (q_row rfl Try.underlying37 rfl (sz37.trans (congrArg some rfl.symm)) (s20_64.ne rfl).ev (fun _ e => by rw [e]; exact k41) ?_)
            refine l_buildF (vs := [.string ((findL lo ((pathsT lb lo lt).getD k ByteArray.empty)).f0), .int .i64 ((findL lo ((pathsT lb lo lt).getD k ByteArray.empty)).f1), .string ((findL lo ((pathsT lb lo lt).getD k ByteArray.empty)).f2)]) rfl rfl Try.underlying22 rec37 (At.hit z64.put rfl).ev rfl rfl (by decide) (by decide) ?_
            intro g100_65 w65 hg65 k65 h65
            have onx16_g100_65 : ∀ k, Value.ownBlock v16_37 = some k → k < g100_65 := fun k hk => Nat.lt_of_lt_of_le (OwnF.own_lt ox16_41 hk) hg65
            have lt_g20_g100_65 := Nat.lt_of_lt_of_le (heap_lt k41) hg65
            have nmlb_g100_65 := Nat.ne_of_lt (Nat.lt_of_lt_of_le kmlb_41.lt hg65)
            have nmlo_g100_65 := Nat.ne_of_lt (Nat.lt_of_lt_of_le kmlo_41.lt hg65)
            have nmlt_g100_65 := Nat.ne_of_lt (Nat.lt_of_lt_of_le kmlt_41.lt hg65)
            have geg100_65 := Nat.le_trans low42.ge hg65
            have kmlb_65 := kmlb_41.low h65
            have kmlo_65 := kmlo_41.low h65
            have kmlt_65 := kmlt_41.low h65
            have kg20_65 := h65.blk k41
            have ox16_65 := ox16_41.low h65
            have ox17_65 := ox17_41.low h65
            have ob35_65 := (o35.low ((low37.trans h40).upd u41 geg20)).low h65
            refine l_appF (B := w35.heap.size) rfl rfl Try.underlying22 rec37 (((At.hit z64 rfl).ne rfl).ne rfl).ev (At.hit z64.put.put rfl).ev k65 rfl (by decide) rfl ox16_65 (low42.trans h65).ge (by omega) ?_
            intro v66 w66 o66 gr66
            have kmlb_66 := kmlb_65.grw gr66
            have kmlo_66 := kmlo_65.grw gr66
            have kmlt_66 := kmlt_65.grw gr66
            have kg20_66 := gr66.blkn kg20_65 onx16_g20
            have lw66 := (low42.trans h65).grw gr66
            have ox17_66 := ox17_65.grw gr66 rfl
            replace o66 := o66.cast (show _ = ((outT lb lo lt ((pathsT lb lo lt).take k)) ++ [(findL lo ((pathsT lb lo lt).getD k ByteArray.empty))]).length by rw [List.length_append]; rfl) (flat_snoc (enc := encL) (outT lb lo lt ((pathsT lb lo lt).take k)) (findL lo ((pathsT lb lo lt).getD k ByteArray.empty)))
            refine l_q rfl (q_assign _ _ rfl (At.hit z64.put.put.put rfl).ev ?_)
            refine l_end ?_
            refine e_fresh z64.put.put.put.put.put ?_
            intro a67 z67 m67
            have s8_67 := m67 _ _ (((((s8_64.ne rfl).ne rfl).ne rfl).ne rfl).ne rfl)
            have s9_67 := m67 _ _ (((((s9_64.ne rfl).ne rfl).ne rfl).ne rfl).ne rfl)
            have s10_67 := m67 _ _ (((((s10_64.ne rfl).ne rfl).ne rfl).ne rfl).ne rfl)
            have s16_67 := m67 _ _ (At.hit z64.put.put.put.put rfl)
            have s17_67 := m67 _ _ (((((s17_64.ne rfl).ne rfl).ne rfl).ne rfl).ne rfl)
            have s54_67 := m67 _ _ (((((s54_64.ne rfl).ne rfl).ne rfl).ne rfl).ne rfl)
            have s55_67 := m67 _ _ (((((s55_64.ne rfl).ne rfl).ne rfl).ne rfl).ne rfl)
            have s56_67 := m67 _ _ (((((s56_64.ne rfl).ne rfl).ne rfl).ne rfl).ne rfl)
            have low67 := lw66
            clear m67
            refine e_in ?_
            refine e_then ?_
            refine c_region ?_
            refine l_q rfl (q_add (((k + 1 : Nat) : Int)) rfl s56_67.ev rfl (i64_is (by omega) (by omega) (by omega)) ?_)
            refine l_q rfl (q_move _ _ rfl (At.hit z67 rfl).ev ?_)
            refine l_end ?_
            refine e_fresh z67.put.put ?_
            intro a68 z68 m68
            have s8_68 := m68 _ _ ((s8_67.ne rfl).ne rfl)
            have s9_68 := m68 _ _ ((s9_67.ne rfl).ne rfl)
            have s10_68 := m68 _ _ ((s10_67.ne rfl).ne rfl)
            have s16_68 := m68 _ _ ((s16_67.ne rfl).ne rfl)
            have s17_68 := m68 _ _ ((s17_67.ne rfl).ne rfl)
            have s54_68 := m68 _ _ ((s54_67.ne rfl).ne rfl)
            have s55_68 := m68 _ _ ((s55_67.ne rfl).ne rfl)
            have s56_68 := m68 _ _ (At.hit z67.put rfl)
            clear m68
            have c69 := OwnF.castL o66 (show (outT lb lo lt ((pathsT lb lo lt).take k)) ++ [(findL lo ((pathsT lb lo lt).getD k ByteArray.empty))] = outT lb lo lt ((pathsT lb lo lt).take (k + 1)) from out_next (by omega) (cell_2 hb59) hb63)
            have c70 := OwnF.castL ox17_66 (show badT lb lo lt ((pathsT lb lo lt).take k) = badT lb lo lt ((pathsT lb lo lt).take (k + 1)) from bad_skip (by omega) (clash_2 hb59))
            exact ⟨v66, v17_37, z68, s8_68, s9_68, s10_68, s16_68, s17_68, s54_68, s55_68, s56_68, kmlb_66, kmlo_66, kmlt_66, c69, c70, low67⟩
          · skip
            refine c_region ?_
            refine l_q rfl (q_row rfl Try.underlying37 rfl (sz37.trans (congrArg some rfl.symm)) s20_62.ev (fun _ e => by rw [e]; exact k41) ?_)
            refine l_q rfl (q_build (cs := #[.string zL.f0, .int .i64 zL.f1, .string zL.f2]) rfl rfl (by kernel_rfl) ?_)
            refine l_q rfl (q_ne3 false rfl guard37 ((At.hit z62 rfl).ne rfl).ev (At.hit z62.put rfl).ev (eq37 9998 ((findL lo ((pathsT lb lo lt).getD k ByteArray.empty)).f0) ((findL lo ((pathsT lb lo lt).getD k ByteArray.empty)).f1) ((findL lo ((pathsT lb lo lt).getD k ByteArray.empty)).f2) zL.f0 zL.f1 zL.f2) (neL_false (Decidable.not_not.1 hb63)) ?_)
            refine l_end ?_
            refine e_fresh z62.put.put.put ?_
            intro a71 z71 m71
            have s8_71 := m71 _ _ (((s8_62.ne rfl).ne rfl).ne rfl)
            have s9_71 := m71 _ _ (((s9_62.ne rfl).ne rfl).ne rfl)
            have s10_71 := m71 _ _ (((s10_62.ne rfl).ne rfl).ne rfl)
            have s16_71 := m71 _ _ (((s16_62.ne rfl).ne rfl).ne rfl)
            have s17_71 := m71 _ _ (((s17_62.ne rfl).ne rfl).ne rfl)
            have s20_71 := m71 _ _ (((s20_62.ne rfl).ne rfl).ne rfl)
            have s54_71 := m71 _ _ (((s54_62.ne rfl).ne rfl).ne rfl)
            have s55_71 := m71 _ _ (((s55_62.ne rfl).ne rfl).ne rfl)
            have s56_71 := m71 _ _ (((s56_62.ne rfl).ne rfl).ne rfl)
            have s97_71 := m71 _ _ (At.hit z62.put.put rfl)
            clear m71
            refine e_then ?_
            refine c_false s97_71 ?_
            refine wp_skip ?_
            refine e_in ?_
            refine e_then ?_
            refine c_region ?_
            refine l_q rfl (q_add (((k + 1 : Nat) : Int)) rfl s56_71.ev rfl (i64_is (by omega) (by omega) (by omega)) ?_)
            refine l_q rfl (q_move _ _ rfl (At.hit z71 rfl).ev ?_)
            refine l_end ?_
            refine e_fresh z71.put.put ?_
            intro a72 z72 m72
            have s8_72 := m72 _ _ ((s8_71.ne rfl).ne rfl)
            have s9_72 := m72 _ _ ((s9_71.ne rfl).ne rfl)
            have s10_72 := m72 _ _ ((s10_71.ne rfl).ne rfl)
            have s16_72 := m72 _ _ ((s16_71.ne rfl).ne rfl)
            have s17_72 := m72 _ _ ((s17_71.ne rfl).ne rfl)
            have s54_72 := m72 _ _ ((s54_71.ne rfl).ne rfl)
            have s55_72 := m72 _ _ ((s55_71.ne rfl).ne rfl)
            have s56_72 := m72 _ _ (At.hit z71.put rfl)
            clear m72
            have c73 := OwnF.castL ox16_41 (show outT lb lo lt ((pathsT lb lo lt).take k) = outT lb lo lt ((pathsT lb lo lt).take (k + 1)) from out_skip (by omega) (cell_2 hb59) hb63)
            have c74 := OwnF.castL ox17_41 (show badT lb lo lt ((pathsT lb lo lt).take k) = badT lb lo lt ((pathsT lb lo lt).take (k + 1)) from bad_skip (by omega) (clash_2 hb59))
            exact ⟨v16_37, v17_37, z72, s8_72, s9_72, s10_72, s16_72, s17_72, s54_72, s55_72, s56_72, kmlb_41, kmlo_41, kmlt_41, c73, c74, low42⟩
        · skip
          refine c_region ?_
          refine l_q rfl (q_move _ _ rfl s9_42.ev ?_)
          refine l_q rfl (q_move _ _ rfl (s19_42.ne rfl).ev ?_)
          refine l_q rfl (q_look (.agg (#[.string ((findL lo ((pathsT lb lo lt).getD k ByteArray.empty)).f0), .int .i64 ((findL lo ((pathsT lb lo lt).getD k ByteArray.empty)).f1), .string ((findL lo ((pathsT lb lo lt).getD k ByteArray.empty)).f2)])) rfl Try.underlying35 Try.underlying9 zero37 ((At.hit z42 rfl).ne rfl).ev (At.hit z42.put rfl).ev (fun _ e => by rw [e]; exact kmlo_41) (look_mapL lo ((pathsT lb lo lt).getD k ByteArray.empty)) ?_)
          refine l_q rfl (q_move _ _ rfl (((s10_42.ne rfl).ne rfl).ne rfl).ev ?_)
          refine l_q rfl (q_move _ _ rfl ((((s19_42.ne rfl).ne rfl).ne rfl).ne rfl).ev ?_)
          refine l_q rfl (q_look (.agg (#[.string ((findL lt ((pathsT lb lo lt).getD k ByteArray.empty)).f0), .int .i64 ((findL lt ((pathsT lb lo lt).getD k ByteArray.empty)).f1), .string ((findL lt ((pathsT lb lo lt).getD k ByteArray.empty)).f2)])) rfl Try.underlying35 Try.underlying9 zero37 ((At.hit z42.put.put.put rfl).ne rfl).ev (At.hit z42.put.put.put.put rfl).ev (fun _ e => by rw [e]; exact kmlt_41) (look_mapL lt ((pathsT lb lo lt).getD k ByteArray.empty)) ?_)
          refine l_q rfl (q_eq3 false rfl guard37 ((((At.hit z42.put.put rfl).ne rfl).ne rfl).ne rfl).ev (At.hit z42.put.put.put.put.put rfl).ev (eq37 9998 ((findL lo ((pathsT lb lo lt).getD k ByteArray.empty)).f0) ((findL lo ((pathsT lb lo lt).getD k ByteArray.empty)).f1) ((findL lo ((pathsT lb lo lt).getD k ByteArray.empty)).f2) ((findL lt ((pathsT lb lo lt).getD k ByteArray.empty)).f0) ((findL lt ((pathsT lb lo lt).getD k ByteArray.empty)).f1) ((findL lt ((pathsT lb lo lt).getD k ByteArray.empty)).f2)) (eqL_false hb43) ?_)
          refine l_q rfl (q_move _ _ rfl (At.hit z42.put.put.put.put.put.put rfl).ev ?_)
          refine l_fresh z42.put.put.put.put.put.put.put.put ?_
          intro a75 z75 m75
          have s8_75 := m75 _ _ ((((((((s8_42.ne rfl).ne rfl).ne rfl).ne rfl).ne rfl).ne rfl).ne rfl).ne rfl)
          have s9_75 := m75 _ _ ((((((((s9_42.ne rfl).ne rfl).ne rfl).ne rfl).ne rfl).ne rfl).ne rfl).ne rfl)
          have s10_75 := m75 _ _ ((((((((s10_42.ne rfl).ne rfl).ne rfl).ne rfl).ne rfl).ne rfl).ne rfl).ne rfl)
          have s16_75 := m75 _ _ ((((((((s16_42.ne rfl).ne rfl).ne rfl).ne rfl).ne rfl).ne rfl).ne rfl).ne rfl)
          have s17_75 := m75 _ _ ((((((((s17_42.ne rfl).ne rfl).ne rfl).ne rfl).ne rfl).ne rfl).ne rfl).ne rfl)
          have s19_75 := m75 _ _ ((((((((s19_42.ne rfl).ne rfl).ne rfl).ne rfl).ne rfl).ne rfl).ne rfl).ne rfl)
          have s20_75 := m75 _ _ ((((((((s20_42.ne rfl).ne rfl).ne rfl).ne rfl).ne rfl).ne rfl).ne rfl).ne rfl)
          have s54_75 := m75 _ _ ((((((((s54_42.ne rfl).ne rfl).ne rfl).ne rfl).ne rfl).ne rfl).ne rfl).ne rfl)
          have s55_75 := m75 _ _ ((((((((s55_42.ne rfl).ne rfl).ne rfl).ne rfl).ne rfl).ne rfl).ne rfl).ne rfl)
          have s56_75 := m75 _ _ ((((((((s56_42.ne rfl).ne rfl).ne rfl).ne rfl).ne rfl).ne rfl).ne rfl).ne rfl)
          have s75_75 := m75 _ _ (At.hit z42.put.put.put.put.put.put.put rfl)
          clear m75
          refine l_qg (wanted_is (j := 7) (d := 75) (b := false) rfl rfl s75_75 rfl) (q_move _ _ rfl s10_75.ev ?_)
          refine l_qg (wanted_is (j := 7) (d := 75) (b := false) rfl rfl (s75_75.ne rfl) rfl) (q_move _ _ rfl (s19_75.ne rfl).ev ?_)
          refine l_qg (wanted_is (j := 7) (d := 75) (b := false) rfl rfl ((s75_75.ne rfl).ne rfl) rfl) (q_look (.agg (#[.string ((findL lt ((pathsT lb lo lt).getD k ByteArray.empty)).f0), .int .i64 ((findL lt ((pathsT lb lo lt).getD k ByteArray.empty)).f1), .string ((findL lt ((pathsT lb lo lt).getD k ByteArray.empty)).f2)])) rfl Try.underlying35 Try.underlying9 zero37 ((At.hit z75 rfl).ne rfl).ev (At.hit z75.put rfl).ev (fun _ e => by rw [e]; exact kmlt_41) (look_mapL lt ((pathsT lb lo lt).getD k ByteArray.empty)) ?_)
          refine l_qg (wanted_is (j := 7) (d := 75) (b := false) rfl rfl (((s75_75.ne rfl).ne rfl).ne rfl) rfl) (q_move _ _ rfl (((s8_75.ne rfl).ne rfl).ne rfl).ev ?_)
          refine l_qg (wanted_is (j := 7) (d := 75) (b := false) rfl rfl ((((s75_75.ne rfl).ne rfl).ne rfl).ne rfl) rfl) (q_move _ _ rfl ((((s19_75.ne rfl).ne rfl).ne rfl).ne rfl).ev ?_)
          refine l_qg (wanted_is (j := 7) (d := 75) (b := false) rfl rfl (((((s75_75.ne rfl).ne rfl).ne rfl).ne rfl).ne rfl) rfl) (q_look (.agg (#[.string ((findL lb ((pathsT lb lo lt).getD k ByteArray.empty)).f0), .int .i64 ((findL lb ((pathsT lb lo lt).getD k ByteArray.empty)).f1), .string ((findL lb ((pathsT lb lo lt).getD k ByteArray.empty)).f2)])) rfl Try.underlying35 Try.underlying9 zero37 ((At.hit z75.put.put.put rfl).ne rfl).ev (At.hit z75.put.put.put.put rfl).ev (fun _ e => by rw [e]; exact kmlb_41) (look_mapL lb ((pathsT lb lo lt).getD k ByteArray.empty)) ?_)
          refine l_qg (wanted_is (j := 7) (d := 75) (b := false) rfl rfl ((((((s75_75.ne rfl).ne rfl).ne rfl).ne rfl).ne rfl).ne rfl) rfl) (q_eq3 false rfl guard37 ((((At.hit z75.put.put rfl).ne rfl).ne rfl).ne rfl).ev (At.hit z75.put.put.put.put.put rfl).ev (eq37 9998 ((findL lt ((pathsT lb lo lt).getD k ByteArray.empty)).f0) ((findL lt ((pathsT lb lo lt).getD k ByteArray.empty)).f1) ((findL lt ((pathsT lb lo lt).getD k ByteArray.empty)).f2) ((findL lb ((pathsT lb lo lt).getD k ByteArray.empty)).f0) ((findL lb ((pathsT lb lo lt).getD k ByteArray.empty)).f1) ((findL lb ((pathsT lb lo lt).getD k ByteArray.empty)).f2)) (eqL_false hb59) ?_)
          refine l_q rfl (q_pick (b := false) (.bool false) rfl (((((((s75_75.ne rfl).ne rfl).ne rfl).ne rfl).ne rfl).ne rfl).ne rfl).ev (At.hit z75.put.put.put.put.put.put rfl).ev ?_)
          refine l_fresh z75.put.put.put.put.put.put.put.put ?_
          intro a76 z76 m76
          have s8_76 := m76 _ _ ((((((((s8_75.ne rfl).ne rfl).ne rfl).ne rfl).ne rfl).ne rfl).ne rfl).ne rfl)
          have s9_76 := m76 _ _ ((((((((s9_75.ne rfl).ne rfl).ne rfl).ne rfl).ne rfl).ne rfl).ne rfl).ne rfl)
          have s10_76 := m76 _ _ ((((((((s10_75.ne rfl).ne rfl).ne rfl).ne rfl).ne rfl).ne rfl).ne rfl).ne rfl)
          have s16_76 := m76 _ _ ((((((((s16_75.ne rfl).ne rfl).ne rfl).ne rfl).ne rfl).ne rfl).ne rfl).ne rfl)
          have s17_76 := m76 _ _ ((((((((s17_75.ne rfl).ne rfl).ne rfl).ne rfl).ne rfl).ne rfl).ne rfl).ne rfl)
          have s19_76 := m76 _ _ ((((((((s19_75.ne rfl).ne rfl).ne rfl).ne rfl).ne rfl).ne rfl).ne rfl).ne rfl)
          have s20_76 := m76 _ _ ((((((((s20_75.ne rfl).ne rfl).ne rfl).ne rfl).ne rfl).ne rfl).ne rfl).ne rfl)
          have s54_76 := m76 _ _ ((((((((s54_75.ne rfl).ne rfl).ne rfl).ne rfl).ne rfl).ne rfl).ne rfl).ne rfl)
          have s55_76 := m76 _ _ ((((((((s55_75.ne rfl).ne rfl).ne rfl).ne rfl).ne rfl).ne rfl).ne rfl).ne rfl)
          have s56_76 := m76 _ _ ((((((((s56_75.ne rfl).ne rfl).ne rfl).ne rfl).ne rfl).ne rfl).ne rfl).ne rfl)
          have s83_76 := m76 _ _ (At.hit z75.put.put.put.put.put.put.put rfl)
          clear m76
          refine l_q rfl (q_assign _ _ rfl s83_76.ev ?_)
          refine l_end ?_
          refine e_fresh z76.put ?_
          intro a77 z77 m77
          have s8_77 := m77 _ _ (s8_76.ne rfl)
          have s9_77 := m77 _ _ (s9_76.ne rfl)
          have s10_77 := m77 _ _ (s10_76.ne rfl)
          have s16_77 := m77 _ _ (s16_76.ne rfl)
          have s17_77 := m77 _ _ (s17_76.ne rfl)
          have s19_77 := m77 _ _ (s19_76.ne rfl)
          have s20_77 := m77 _ _ (s20_76.ne rfl)
          have s54_77 := m77 _ _ (s54_76.ne rfl)
          have s55_77 := m77 _ _ (s55_76.ne rfl)
          have s56_77 := m77 _ _ (s56_76.ne rfl)
          have s67_77 := m77 _ _ (At.hit z76 rfl)
          clear m77
          refine e_then ?_
          refine c_false s67_77 ?_
          refine c_seq ?_
          by_cases hb78 : findL lo ((pathsT lb lo lt).getD k ByteArray.empty) = findL lb ((pathsT lb lo lt).getD k ByteArray.empty)
          · skip
            refine c_region ?_
            refine l_q rfl (q_move _ _ rfl s9_77.ev ?_)
            refine l_q rfl (q_move _ _ rfl (s19_77.ne rfl).ev ?_)
            refine l_q rfl (q_look (.agg (#[.string ((findL lo ((pathsT lb lo lt).getD k ByteArray.empty)).f0), .int .i64 ((findL lo ((pathsT lb lo lt).getD k ByteArray.empty)).f1), .string ((findL lo ((pathsT lb lo lt).getD k ByteArray.empty)).f2)])) rfl Try.underlying35 Try.underlying9 zero37 ((At.hit z77 rfl).ne rfl).ev (At.hit z77.put rfl).ev (fun _ e => by rw [e]; exact kmlo_41) (look_mapL lo ((pathsT lb lo lt).getD k ByteArray.empty)) ?_)
            refine l_q rfl (q_move _ _ rfl (((s8_77.ne rfl).ne rfl).ne rfl).ev ?_)
            refine l_q rfl (q_move _ _ rfl ((((s19_77.ne rfl).ne rfl).ne rfl).ne rfl).ev ?_)
            refine l_q rfl (q_look (.agg (#[.string ((findL lb ((pathsT lb lo lt).getD k ByteArray.empty)).f0), .int .i64 ((findL lb ((pathsT lb lo lt).getD k ByteArray.empty)).f1), .string ((findL lb ((pathsT lb lo lt).getD k ByteArray.empty)).f2)])) rfl Try.underlying35 Try.underlying9 zero37 ((At.hit z77.put.put.put rfl).ne rfl).ev (At.hit z77.put.put.put.put rfl).ev (fun _ e => by rw [e]; exact kmlb_41) (look_mapL lb ((pathsT lb lo lt).getD k ByteArray.empty)) ?_)
            refine l_q rfl (q_eq3 true rfl guard37 ((((At.hit z77.put.put rfl).ne rfl).ne rfl).ne rfl).ev (At.hit z77.put.put.put.put.put rfl).ev (eq37 9998 ((findL lo ((pathsT lb lo lt).getD k ByteArray.empty)).f0) ((findL lo ((pathsT lb lo lt).getD k ByteArray.empty)).f1) ((findL lo ((pathsT lb lo lt).getD k ByteArray.empty)).f2) ((findL lb ((pathsT lb lo lt).getD k ByteArray.empty)).f0) ((findL lb ((pathsT lb lo lt).getD k ByteArray.empty)).f1) ((findL lb ((pathsT lb lo lt).getD k ByteArray.empty)).f2)) (eqL_true hb78) ?_)
            refine l_q rfl (q_assign _ _ rfl (At.hit z77.put.put.put.put.put.put rfl).ev ?_)
            refine l_end ?_
            refine e_fresh z77.put.put.put.put.put.put.put.put ?_
            intro a79 z79 m79
            have s8_79 := m79 _ _ ((((((((s8_77.ne rfl).ne rfl).ne rfl).ne rfl).ne rfl).ne rfl).ne rfl).ne rfl)
            have s9_79 := m79 _ _ ((((((((s9_77.ne rfl).ne rfl).ne rfl).ne rfl).ne rfl).ne rfl).ne rfl).ne rfl)
            have s10_79 := m79 _ _ ((((((((s10_77.ne rfl).ne rfl).ne rfl).ne rfl).ne rfl).ne rfl).ne rfl).ne rfl)
            have s16_79 := m79 _ _ ((((((((s16_77.ne rfl).ne rfl).ne rfl).ne rfl).ne rfl).ne rfl).ne rfl).ne rfl)
            have s17_79 := m79 _ _ ((((((((s17_77.ne rfl).ne rfl).ne rfl).ne rfl).ne rfl).ne rfl).ne rfl).ne rfl)
            have s19_79 := m79 _ _ ((((((((s19_77.ne rfl).ne rfl).ne rfl).ne rfl).ne rfl).ne rfl).ne rfl).ne rfl)
            have s20_79 := m79 _ _ ((((((((s20_77.ne rfl).ne rfl).ne rfl).ne rfl).ne rfl).ne rfl).ne rfl).ne rfl)
            have s54_79 := m79 _ _ ((((((((s54_77.ne rfl).ne rfl).ne rfl).ne rfl).ne rfl).ne rfl).ne rfl).ne rfl)
            have s55_79 := m79 _ _ ((((((((s55_77.ne rfl).ne rfl).ne rfl).ne rfl).ne rfl).ne rfl).ne rfl).ne rfl)
            have s56_79 := m79 _ _ ((((((((s56_77.ne rfl).ne rfl).ne rfl).ne rfl).ne rfl).ne rfl).ne rfl).ne rfl)
            have s84_79 := m79 _ _ (At.hit z77.put.put.put.put.put.put.put rfl)
            clear m79
            refine e_then ?_
            refine c_true s84_79 ?_
            refine c_region ?_
            refine l_q rfl (q_move _ _ rfl s10_79.ev ?_)
            refine l_q rfl (q_move _ _ rfl (s19_79.ne rfl).ev ?_)
            refine l_q rfl (q_look (.agg (#[.string ((findL lt ((pathsT lb lo lt).getD k ByteArray.empty)).f0), .int .i64 ((findL lt ((pathsT lb lo lt).getD k ByteArray.empty)).f1), .string ((findL lt ((pathsT lb lo lt).getD k ByteArray.empty)).f2)])) rfl Try.underlying35 Try.underlying9 zero37 ((At.hit z79 rfl).ne rfl).ev (At.hit z79.put rfl).ev (fun _ e => by rw [e]; exact kmlt_41) (look_mapL lt ((pathsT lb lo lt).getD k ByteArray.empty)) ?_)
            refine l_row rfl rfl rfl (sz37.trans (congrArg some rfl.symm)) (((s20_79.ne rfl).ne rfl).ne rfl).ev (At.hit z79.put.put rfl).ev (by simp [Value.oneCell']) k41 (rfl.trans rfl.symm) ?_
            intro w80 k80 u80
            have ox16_80 := ox16_41.updn u80 onx16_g20
            have ox17_80 := ox17_41.upd u80 k41 rfl
            have kmlb_80 := kmlb_41.upd u80 (by omega)
            have kmlo_80 := kmlo_41.upd u80 (by omega)
            have kmlt_80 := kmlt_41.upd u80 (by omega)
            refine l_end ?_
            refine e_fresh z79.put.put.put ?_
            intro a81 z81 m81
            have s8_81 := m81 _ _ (((s8_79.ne rfl).ne rfl).ne rfl)
            have s9_81 := m81 _ _ (((s9_79.ne rfl).ne rfl).ne rfl)
            have s10_81 := m81 _ _ (((s10_79.ne rfl).ne rfl).ne rfl)
            have s16_81 := m81 _ _ (((s16_79.ne rfl).ne rfl).ne rfl)
            have s17_81 := m81 _ _ (((s17_79.ne rfl).ne rfl).ne rfl)
            have s20_81 := m81 _ _ (((s20_79.ne rfl).ne rfl).ne rfl)
            have s54_81 := m81 _ _ (((s54_79.ne rfl).ne rfl).ne rfl)
            have s55_81 := m81 _ _ (((s55_79.ne rfl).ne rfl).ne rfl)
            have s56_81 := m81 _ _ (((s56_79.ne rfl).ne rfl).ne rfl)
            have low81 := (low42.upd u80 geg20)
            clear m81
            refine e_in ?_
            refine e_then ?_
            refine c_seq ?_
            by_cases hb82 : ¬ findL lt ((pathsT lb lo lt).getD k ByteArray.empty) = zL
            · skip
              refine c_region ?_
              refine l_q rfl (q_row rfl Try.underlying37 rfl (sz37.trans (congrArg some rfl.symm)) s20_81.ev (fun _ e => by rw [e]; exact k80) ?_)
              refine l_q rfl (q_build (cs := #[.string zL.f0, .int .i64 zL.f1, .string zL.f2]) rfl rfl (by kernel_rfl) ?_)
              refine l_q rfl (q_ne3 true rfl guard37 ((At.hit z81 rfl).ne rfl).ev (At.hit z81.put rfl).ev (eq37 9998 ((findL lt ((pathsT lb lo lt).getD k ByteArray.empty)).f0) ((findL lt ((pathsT lb lo lt).getD k ByteArray.empty)).f1) ((findL lt ((pathsT lb lo lt).getD k ByteArray.empty)).f2) zL.f0 zL.f1 zL.f2) (neL_true hb82) ?_)
              refine l_end ?_
              refine e_fresh z81.put.put.put ?_
              intro a83 z83 m83
              have s8_83 := m83 _ _ (((s8_81.ne rfl).ne rfl).ne rfl)
              have s9_83 := m83 _ _ (((s9_81.ne rfl).ne rfl).ne rfl)
              have s10_83 := m83 _ _ (((s10_81.ne rfl).ne rfl).ne rfl)
              have s16_83 := m83 _ _ (((s16_81.ne rfl).ne rfl).ne rfl)
              have s17_83 := m83 _ _ (((s17_81.ne rfl).ne rfl).ne rfl)
              have s20_83 := m83 _ _ (((s20_81.ne rfl).ne rfl).ne rfl)
              have s54_83 := m83 _ _ (((s54_81.ne rfl).ne rfl).ne rfl)
              have s55_83 := m83 _ _ (((s55_81.ne rfl).ne rfl).ne rfl)
              have s56_83 := m83 _ _ (((s56_81.ne rfl).ne rfl).ne rfl)
              have s97_83 := m83 _ _ (At.hit z81.put.put rfl)
              clear m83
              refine e_then ?_
              refine c_true s97_83 ?_
              refine c_region ?_
              refine l_q rfl (q_move _ _ rfl s16_83.ev ?_)
              refine l_q rfl (q_row rfl Try.underlying37 rfl (sz37.trans (congrArg some rfl.symm)) (s20_83.ne rfl).ev (fun _ e => by rw [e]; exact k80) ?_)
              refine l_buildF (vs := [.string ((findL lt ((pathsT lb lo lt).getD k ByteArray.empty)).f0), .int .i64 ((findL lt ((pathsT lb lo lt).getD k ByteArray.empty)).f1), .string ((findL lt ((pathsT lb lo lt).getD k ByteArray.empty)).f2)]) rfl rfl Try.underlying22 rec37 (At.hit z83.put rfl).ev rfl rfl (by decide) (by decide) ?_
              intro g100_84 w84 hg84 k84 h84
              have onx16_g100_84 : ∀ k, Value.ownBlock v16_37 = some k → k < g100_84 := fun k hk => Nat.lt_of_lt_of_le (OwnF.own_lt ox16_80 hk) hg84
              have lt_g20_g100_84 := Nat.lt_of_lt_of_le (heap_lt k80) hg84
              have nmlb_g100_84 := Nat.ne_of_lt (Nat.lt_of_lt_of_le kmlb_80.lt hg84)
              have nmlo_g100_84 := Nat.ne_of_lt (Nat.lt_of_lt_of_le kmlo_80.lt hg84)
              have nmlt_g100_84 := Nat.ne_of_lt (Nat.lt_of_lt_of_le kmlt_80.lt hg84)
              have geg100_84 := Nat.le_trans low81.ge hg84
              have kmlb_84 := kmlb_80.low h84
              have kmlo_84 := kmlo_80.low h84
              have kmlt_84 := kmlt_80.low h84
              have kg20_84 := h84.blk k80
              have ox16_84 := ox16_80.low h84
              have ox17_84 := ox17_80.low h84
              have ob35_84 := (o35.low (low42.upd u80 geg20)).low h84
              refine l_appF (B := w35.heap.size) rfl rfl Try.underlying22 rec37 (((At.hit z83 rfl).ne rfl).ne rfl).ev (At.hit z83.put.put rfl).ev k84 rfl (by decide) rfl ox16_84 (low81.trans h84).ge (by omega) ?_
              intro v85 w85 o85 gr85
              have kmlb_85 := kmlb_84.grw gr85
              have kmlo_85 := kmlo_84.grw gr85
              have kmlt_85 := kmlt_84.grw gr85
              have kg20_85 := gr85.blkn kg20_84 onx16_g20
              have lw85 := (low81.trans h84).grw gr85
              have ox17_85 := ox17_84.grw gr85 rfl
              replace o85 := o85.cast (show _ = ((outT lb lo lt ((pathsT lb lo lt).take k)) ++ [(findL lt ((pathsT lb lo lt).getD k ByteArray.empty))]).length by rw [List.length_append]; rfl) (flat_snoc (enc := encL) (outT lb lo lt ((pathsT lb lo lt).take k)) (findL lt ((pathsT lb lo lt).getD k ByteArray.empty)))
              refine l_q rfl (q_assign _ _ rfl (At.hit z83.put.put.put rfl).ev ?_)
              refine l_end ?_
              refine e_fresh z83.put.put.put.put.put ?_
              intro a86 z86 m86
              have s8_86 := m86 _ _ (((((s8_83.ne rfl).ne rfl).ne rfl).ne rfl).ne rfl)
              have s9_86 := m86 _ _ (((((s9_83.ne rfl).ne rfl).ne rfl).ne rfl).ne rfl)
              have s10_86 := m86 _ _ (((((s10_83.ne rfl).ne rfl).ne rfl).ne rfl).ne rfl)
              have s16_86 := m86 _ _ (At.hit z83.put.put.put.put rfl)
              have s17_86 := m86 _ _ (((((s17_83.ne rfl).ne rfl).ne rfl).ne rfl).ne rfl)
              have s54_86 := m86 _ _ (((((s54_83.ne rfl).ne rfl).ne rfl).ne rfl).ne rfl)
              have s55_86 := m86 _ _ (((((s55_83.ne rfl).ne rfl).ne rfl).ne rfl).ne rfl)
              have s56_86 := m86 _ _ (((((s56_83.ne rfl).ne rfl).ne rfl).ne rfl).ne rfl)
              have low86 := lw85
              clear m86
              refine e_in ?_
              refine e_then ?_
              refine c_region ?_
              refine l_q rfl (q_add (((k + 1 : Nat) : Int)) rfl s56_86.ev rfl (i64_is (by omega) (by omega) (by omega)) ?_)
              refine l_q rfl (q_move _ _ rfl (At.hit z86 rfl).ev ?_)
              refine l_end ?_
              refine e_fresh z86.put.put ?_
              intro a87 z87 m87
              have s8_87 := m87 _ _ ((s8_86.ne rfl).ne rfl)
              have s9_87 := m87 _ _ ((s9_86.ne rfl).ne rfl)
              have s10_87 := m87 _ _ ((s10_86.ne rfl).ne rfl)
              have s16_87 := m87 _ _ ((s16_86.ne rfl).ne rfl)
              have s17_87 := m87 _ _ ((s17_86.ne rfl).ne rfl)
              have s54_87 := m87 _ _ ((s54_86.ne rfl).ne rfl)
              have s55_87 := m87 _ _ ((s55_86.ne rfl).ne rfl)
              have s56_87 := m87 _ _ (At.hit z86.put rfl)
              clear m87
              have c88 := OwnF.castL o85 (show (outT lb lo lt ((pathsT lb lo lt).take k)) ++ [(findL lt ((pathsT lb lo lt).getD k ByteArray.empty))] = outT lb lo lt ((pathsT lb lo lt).take (k + 1)) from out_next (by omega) (cell_3 hb43 hb59 hb78) hb82)
              have c89 := OwnF.castL ox17_85 (show badT lb lo lt ((pathsT lb lo lt).take k) = badT lb lo lt ((pathsT lb lo lt).take (k + 1)) from bad_skip (by omega) (clash_3 hb78))
              exact ⟨v85, v17_37, z87, s8_87, s9_87, s10_87, s16_87, s17_87, s54_87, s55_87, s56_87, kmlb_85, kmlo_85, kmlt_85, c88, c89, low86⟩
            · skip
              refine c_region ?_
              refine l_q rfl (q_row rfl Try.underlying37 rfl (sz37.trans (congrArg some rfl.symm)) s20_81.ev (fun _ e => by rw [e]; exact k80) ?_)
              refine l_q rfl (q_build (cs := #[.string zL.f0, .int .i64 zL.f1, .string zL.f2]) rfl rfl (by kernel_rfl) ?_)
              refine l_q rfl (q_ne3 false rfl guard37 ((At.hit z81 rfl).ne rfl).ev (At.hit z81.put rfl).ev (eq37 9998 ((findL lt ((pathsT lb lo lt).getD k ByteArray.empty)).f0) ((findL lt ((pathsT lb lo lt).getD k ByteArray.empty)).f1) ((findL lt ((pathsT lb lo lt).getD k ByteArray.empty)).f2) zL.f0 zL.f1 zL.f2) (neL_false (Decidable.not_not.1 hb82)) ?_)
              refine l_end ?_
              refine e_fresh z81.put.put.put ?_
              intro a90 z90 m90
              have s8_90 := m90 _ _ (((s8_81.ne rfl).ne rfl).ne rfl)
              have s9_90 := m90 _ _ (((s9_81.ne rfl).ne rfl).ne rfl)
              have s10_90 := m90 _ _ (((s10_81.ne rfl).ne rfl).ne rfl)
              have s16_90 := m90 _ _ (((s16_81.ne rfl).ne rfl).ne rfl)
              have s17_90 := m90 _ _ (((s17_81.ne rfl).ne rfl).ne rfl)
              have s20_90 := m90 _ _ (((s20_81.ne rfl).ne rfl).ne rfl)
              have s54_90 := m90 _ _ (((s54_81.ne rfl).ne rfl).ne rfl)
              have s55_90 := m90 _ _ (((s55_81.ne rfl).ne rfl).ne rfl)
              have s56_90 := m90 _ _ (((s56_81.ne rfl).ne rfl).ne rfl)
              have s97_90 := m90 _ _ (At.hit z81.put.put rfl)
              clear m90
              refine e_then ?_
              refine c_false s97_90 ?_
              refine wp_skip ?_
              refine e_in ?_
              refine e_then ?_
              refine c_region ?_
              refine l_q rfl (q_add (((k + 1 : Nat) : Int)) rfl s56_90.ev rfl (i64_is (by omega) (by omega) (by omega)) ?_)
              refine l_q rfl (q_move _ _ rfl (At.hit z90 rfl).ev ?_)
              refine l_end ?_
              refine e_fresh z90.put.put ?_
              intro a91 z91 m91
              have s8_91 := m91 _ _ ((s8_90.ne rfl).ne rfl)
              have s9_91 := m91 _ _ ((s9_90.ne rfl).ne rfl)
              have s10_91 := m91 _ _ ((s10_90.ne rfl).ne rfl)
              have s16_91 := m91 _ _ ((s16_90.ne rfl).ne rfl)
              have s17_91 := m91 _ _ ((s17_90.ne rfl).ne rfl)
              have s54_91 := m91 _ _ ((s54_90.ne rfl).ne rfl)
              have s55_91 := m91 _ _ ((s55_90.ne rfl).ne rfl)
              have s56_91 := m91 _ _ (At.hit z90.put rfl)
              clear m91
              have c92 := OwnF.castL ox16_80 (show outT lb lo lt ((pathsT lb lo lt).take k) = outT lb lo lt ((pathsT lb lo lt).take (k + 1)) from out_skip (by omega) (cell_3 hb43 hb59 hb78) hb82)
              have c93 := OwnF.castL ox17_80 (show badT lb lo lt ((pathsT lb lo lt).take k) = badT lb lo lt ((pathsT lb lo lt).take (k + 1)) from bad_skip (by omega) (clash_3 hb78))
              exact ⟨v16_37, v17_37, z91, s8_91, s9_91, s10_91, s16_91, s17_91, s54_91, s55_91, s56_91, kmlb_80, kmlo_80, kmlt_80, c92, c93, low81⟩
          · skip
            refine c_region ?_
            refine l_q rfl (q_move _ _ rfl s9_77.ev ?_)
            refine l_q rfl (q_move _ _ rfl (s19_77.ne rfl).ev ?_)
            refine l_q rfl (q_look (.agg (#[.string ((findL lo ((pathsT lb lo lt).getD k ByteArray.empty)).f0), .int .i64 ((findL lo ((pathsT lb lo lt).getD k ByteArray.empty)).f1), .string ((findL lo ((pathsT lb lo lt).getD k ByteArray.empty)).f2)])) rfl Try.underlying35 Try.underlying9 zero37 ((At.hit z77 rfl).ne rfl).ev (At.hit z77.put rfl).ev (fun _ e => by rw [e]; exact kmlo_41) (look_mapL lo ((pathsT lb lo lt).getD k ByteArray.empty)) ?_)
            refine l_q rfl (q_move _ _ rfl (((s8_77.ne rfl).ne rfl).ne rfl).ev ?_)
            refine l_q rfl (q_move _ _ rfl ((((s19_77.ne rfl).ne rfl).ne rfl).ne rfl).ev ?_)
            refine l_q rfl (q_look (.agg (#[.string ((findL lb ((pathsT lb lo lt).getD k ByteArray.empty)).f0), .int .i64 ((findL lb ((pathsT lb lo lt).getD k ByteArray.empty)).f1), .string ((findL lb ((pathsT lb lo lt).getD k ByteArray.empty)).f2)])) rfl Try.underlying35 Try.underlying9 zero37 ((At.hit z77.put.put.put rfl).ne rfl).ev (At.hit z77.put.put.put.put rfl).ev (fun _ e => by rw [e]; exact kmlb_41) (look_mapL lb ((pathsT lb lo lt).getD k ByteArray.empty)) ?_)
            refine l_q rfl (q_eq3 false rfl guard37 ((((At.hit z77.put.put rfl).ne rfl).ne rfl).ne rfl).ev (At.hit z77.put.put.put.put.put rfl).ev (eq37 9998 ((findL lo ((pathsT lb lo lt).getD k ByteArray.empty)).f0) ((findL lo ((pathsT lb lo lt).getD k ByteArray.empty)).f1) ((findL lo ((pathsT lb lo lt).getD k ByteArray.empty)).f2) ((findL lb ((pathsT lb lo lt).getD k ByteArray.empty)).f0) ((findL lb ((pathsT lb lo lt).getD k ByteArray.empty)).f1) ((findL lb ((pathsT lb lo lt).getD k ByteArray.empty)).f2)) (eqL_false hb78) ?_)
            refine l_q rfl (q_assign _ _ rfl (At.hit z77.put.put.put.put.put.put rfl).ev ?_)
            refine l_end ?_
            refine e_fresh z77.put.put.put.put.put.put.put.put ?_
            intro a94 z94 m94
            have s8_94 := m94 _ _ ((((((((s8_77.ne rfl).ne rfl).ne rfl).ne rfl).ne rfl).ne rfl).ne rfl).ne rfl)
            have s9_94 := m94 _ _ ((((((((s9_77.ne rfl).ne rfl).ne rfl).ne rfl).ne rfl).ne rfl).ne rfl).ne rfl)
            have s10_94 := m94 _ _ ((((((((s10_77.ne rfl).ne rfl).ne rfl).ne rfl).ne rfl).ne rfl).ne rfl).ne rfl)
            have s16_94 := m94 _ _ ((((((((s16_77.ne rfl).ne rfl).ne rfl).ne rfl).ne rfl).ne rfl).ne rfl).ne rfl)
            have s17_94 := m94 _ _ ((((((((s17_77.ne rfl).ne rfl).ne rfl).ne rfl).ne rfl).ne rfl).ne rfl).ne rfl)
            have s19_94 := m94 _ _ ((((((((s19_77.ne rfl).ne rfl).ne rfl).ne rfl).ne rfl).ne rfl).ne rfl).ne rfl)
            have s20_94 := m94 _ _ ((((((((s20_77.ne rfl).ne rfl).ne rfl).ne rfl).ne rfl).ne rfl).ne rfl).ne rfl)
            have s54_94 := m94 _ _ ((((((((s54_77.ne rfl).ne rfl).ne rfl).ne rfl).ne rfl).ne rfl).ne rfl).ne rfl)
            have s55_94 := m94 _ _ ((((((((s55_77.ne rfl).ne rfl).ne rfl).ne rfl).ne rfl).ne rfl).ne rfl).ne rfl)
            have s56_94 := m94 _ _ ((((((((s56_77.ne rfl).ne rfl).ne rfl).ne rfl).ne rfl).ne rfl).ne rfl).ne rfl)
            have s84_94 := m94 _ _ (At.hit z77.put.put.put.put.put.put.put rfl)
            clear m94
            refine e_then ?_
            refine c_false s84_94 ?_
            refine c_region ?_
            refine l_q rfl (q_move _ _ rfl s17_94.ev ?_)
            refine l_q rfl (q_move _ _ rfl (s19_94.ne rfl).ev ?_)
            refine l_buildF (vs := [.string ((pathsT lb lo lt).getD k ByteArray.empty)]) rfl rfl Try.underlying25 rec9 (At.hit z94.put rfl).ev rfl rfl (by decide) (by decide) ?_
            intro g65_95 w95 hg95 k95 h95
            have onx17_g65_95 : ∀ k, Value.ownBlock v17_37 = some k → k < g65_95 := fun k hk => Nat.lt_of_lt_of_le (OwnF.own_lt ox17_41 hk) hg95
            have onb35_g65_95 : ∀ k, Value.ownBlock v35 = some k → k < g65_95 := fun k hk => Nat.lt_of_lt_of_le (OwnF.own_lt (o35.low ((low37.trans h40).upd u41 geg20)) hk) hg95
            have lt_g20_g65_95 := Nat.lt_of_lt_of_le (heap_lt k41) hg95
            have nmlb_g65_95 := Nat.ne_of_lt (Nat.lt_of_lt_of_le kmlb_41.lt hg95)
            have nmlo_g65_95 := Nat.ne_of_lt (Nat.lt_of_lt_of_le kmlo_41.lt hg95)
            have nmlt_g65_95 := Nat.ne_of_lt (Nat.lt_of_lt_of_le kmlt_41.lt hg95)
            have geg65_95 := Nat.le_trans low42.ge hg95
            have kmlb_95 := kmlb_41.low h95
            have kmlo_95 := kmlo_41.low h95
            have kmlt_95 := kmlt_41.low h95
            have kg20_95 := h95.blk k41
            have ox16_95 := ox16_41.low h95
            have ox17_95 := ox17_41.low h95
            have ob35_95 := (o35.low ((low37.trans h40).upd u41 geg20)).low h95
            refine l_appF (B := w35.heap.size) rfl rfl Try.underlying25 rec9 (((At.hit z94 rfl).ne rfl).ne rfl).ev (At.hit z94.put.put rfl).ev k95 rfl (by decide) rfl ox17_95 (low42.trans h95).ge (by omega) ?_
            intro v96 w96 o96 gr96
            have kmlb_96 := kmlb_95.grw gr96
            have kmlo_96 := kmlo_95.grw gr96
            have kmlt_96 := kmlt_95.grw gr96
            have kg20_96 := gr96.blk kg20_95 rfl
            have lw96 := (low42.trans h95).grw gr96
            have ox16_96 := ox16_95.grw gr96 rfl
            replace o96 := o96.cast (show _ = ((badT lb lo lt ((pathsT lb lo lt).take k)) ++ [((pathsT lb lo lt).getD k ByteArray.empty)]).length by rw [List.length_append]; rfl) (flat_snoc (enc := encS) (badT lb lo lt ((pathsT lb lo lt).take k)) ((pathsT lb lo lt).getD k ByteArray.empty))
            refine l_q rfl (q_assign _ _ rfl (At.hit z94.put.put.put rfl).ev ?_)
            refine l_end ?_
            refine e_fresh z94.put.put.put.put.put ?_
            intro a97 z97 m97
            have s8_97 := m97 _ _ (((((s8_94.ne rfl).ne rfl).ne rfl).ne rfl).ne rfl)
            have s9_97 := m97 _ _ (((((s9_94.ne rfl).ne rfl).ne rfl).ne rfl).ne rfl)
            have s10_97 := m97 _ _ (((((s10_94.ne rfl).ne rfl).ne rfl).ne rfl).ne rfl)
            have s16_97 := m97 _ _ (((((s16_94.ne rfl).ne rfl).ne rfl).ne rfl).ne rfl)
            have s17_97 := m97 _ _ (At.hit z94.put.put.put.put rfl)
            have s20_97 := m97 _ _ (((((s20_94.ne rfl).ne rfl).ne rfl).ne rfl).ne rfl)
            have s54_97 := m97 _ _ (((((s54_94.ne rfl).ne rfl).ne rfl).ne rfl).ne rfl)
            have s55_97 := m97 _ _ (((((s55_94.ne rfl).ne rfl).ne rfl).ne rfl).ne rfl)
            have s56_97 := m97 _ _ (((((s56_94.ne rfl).ne rfl).ne rfl).ne rfl).ne rfl)
            have low97 := lw96
            clear m97
            refine e_in ?_
            refine e_then ?_
            refine c_seq ?_
            by_cases hb98 : ¬ findL lo ((pathsT lb lo lt).getD k ByteArray.empty) = zL
            · skip
              refine c_region ?_
              refine l_q rfl (q_row rfl Try.underlying37 rfl (sz37.trans (congrArg some rfl.symm)) s20_97.ev (fun _ e => by rw [e]; exact kg20_96) ?_)
              refine l_q rfl (q_build (cs := #[.string zL.f0, .int .i64 zL.f1, .string zL.f2]) rfl rfl (by kernel_rfl) ?_)
              refine l_q rfl (q_ne3 true rfl guard37 ((At.hit z97 rfl).ne rfl).ev (At.hit z97.put rfl).ev (eq37 9998 ((findL lo ((pathsT lb lo lt).getD k ByteArray.empty)).f0) ((findL lo ((pathsT lb lo lt).getD k ByteArray.empty)).f1) ((findL lo ((pathsT lb lo lt).getD k ByteArray.empty)).f2) zL.f0 zL.f1 zL.f2) (neL_true hb98) ?_)
              refine l_end ?_
              refine e_fresh z97.put.put.put ?_
              intro a99 z99 m99
              have s8_99 := m99 _ _ (((s8_97.ne rfl).ne rfl).ne rfl)
              have s9_99 := m99 _ _ (((s9_97.ne rfl).ne rfl).ne rfl)
              have s10_99 := m99 _ _ (((s10_97.ne rfl).ne rfl).ne rfl)
              have s16_99 := m99 _ _ (((s16_97.ne rfl).ne rfl).ne rfl)
              have s17_99 := m99 _ _ (((s17_97.ne rfl).ne rfl).ne rfl)
              have s20_99 := m99 _ _ (((s20_97.ne rfl).ne rfl).ne rfl)
              have s54_99 := m99 _ _ (((s54_97.ne rfl).ne rfl).ne rfl)
              have s55_99 := m99 _ _ (((s55_97.ne rfl).ne rfl).ne rfl)
              have s56_99 := m99 _ _ (((s56_97.ne rfl).ne rfl).ne rfl)
              have s97_99 := m99 _ _ (At.hit z97.put.put rfl)
              clear m99
              refine e_then ?_
              refine c_true s97_99 ?_
              refine c_region ?_
              refine l_q rfl (q_move _ _ rfl s16_99.ev ?_)
              refine l_q rfl (q_row rfl Try.underlying37 rfl (sz37.trans (congrArg some rfl.symm)) (s20_99.ne rfl).ev (fun _ e => by rw [e]; exact kg20_96) ?_)
              refine l_buildF (vs := [.string ((findL lo ((pathsT lb lo lt).getD k ByteArray.empty)).f0), .int .i64 ((findL lo ((pathsT lb lo lt).getD k ByteArray.empty)).f1), .string ((findL lo ((pathsT lb lo lt).getD k ByteArray.empty)).f2)]) rfl rfl Try.underlying22 rec37 (At.hit z99.put rfl).ev rfl rfl (by decide) (by decide) ?_
              intro g100_100 w100 hg100 k100 h100
              have onx16_g100_100 : ∀ k, Value.ownBlock v16_37 = some k → k < g100_100 := fun k hk => Nat.lt_of_lt_of_le (OwnF.own_lt ox16_96 hk) hg100
              have lt_g20_g100_100 := Nat.lt_of_lt_of_le (heap_lt kg20_96) hg100
              have nmlb_g100_100 := Nat.ne_of_lt (Nat.lt_of_lt_of_le kmlb_96.lt hg100)
              have nmlo_g100_100 := Nat.ne_of_lt (Nat.lt_of_lt_of_le kmlo_96.lt hg100)
              have nmlt_g100_100 := Nat.ne_of_lt (Nat.lt_of_lt_of_le kmlt_96.lt hg100)
              have geg100_100 := Nat.le_trans low97.ge hg100
              have kmlb_100 := kmlb_96.low h100
              have kmlo_100 := kmlo_96.low h100
              have kmlt_100 := kmlt_96.low h100
              have kg20_100 := h100.blk kg20_96
              have ob35_100 := (o35.low lw96).low h100
              have ob96_100 := o96.low h100
              have ox16_100 := ox16_96.low h100
              refine l_appF (B := w35.heap.size) rfl rfl Try.underlying22 rec37 (((At.hit z99 rfl).ne rfl).ne rfl).ev (At.hit z99.put.put rfl).ev k100 rfl (by decide) rfl ox16_100 (low97.trans h100).ge (by omega) ?_
              intro v101 w101 o101 gr101
              have kmlb_101 := kmlb_100.grw gr101
              have kmlo_101 := kmlo_100.grw gr101
              have kmlt_101 := kmlt_100.grw gr101
              have kg20_101 := gr101.blkn kg20_100 onx16_g20
              have lw101 := (low97.trans h100).grw gr101
              have ob96_101 := ob96_100.grw gr101 rfl
              replace o101 := o101.cast (show _ = ((outT lb lo lt ((pathsT lb lo lt).take k)) ++ [(findL lo ((pathsT lb lo lt).getD k ByteArray.empty))]).length by rw [List.length_append]; rfl) (flat_snoc (enc := encL) (outT lb lo lt ((pathsT lb lo lt).take k)) (findL lo ((pathsT lb lo lt).getD k ByteArray.empty)))
              refine l_q rfl (q_assign _ _ rfl (At.hit z99.put.put.put rfl).ev ?_)
              refine l_end ?_
              refine e_fresh z99.put.put.put.put.put ?_
              intro a102 z102 m102
              have s8_102 := m102 _ _ (((((s8_99.ne rfl).ne rfl).ne rfl).ne rfl).ne rfl)
              have s9_102 := m102 _ _ (((((s9_99.ne rfl).ne rfl).ne rfl).ne rfl).ne rfl)
              have s10_102 := m102 _ _ (((((s10_99.ne rfl).ne rfl).ne rfl).ne rfl).ne rfl)
              have s16_102 := m102 _ _ (At.hit z99.put.put.put.put rfl)
              have s17_102 := m102 _ _ (((((s17_99.ne rfl).ne rfl).ne rfl).ne rfl).ne rfl)
              have s54_102 := m102 _ _ (((((s54_99.ne rfl).ne rfl).ne rfl).ne rfl).ne rfl)
              have s55_102 := m102 _ _ (((((s55_99.ne rfl).ne rfl).ne rfl).ne rfl).ne rfl)
              have s56_102 := m102 _ _ (((((s56_99.ne rfl).ne rfl).ne rfl).ne rfl).ne rfl)
              have low102 := lw101
              clear m102
              refine e_in ?_
              refine e_then ?_
              refine c_region ?_
              refine l_q rfl (q_add (((k + 1 : Nat) : Int)) rfl s56_102.ev rfl (i64_is (by omega) (by omega) (by omega)) ?_)
              refine l_q rfl (q_move _ _ rfl (At.hit z102 rfl).ev ?_)
              refine l_end ?_
              refine e_fresh z102.put.put ?_
              intro a103 z103 m103
              have s8_103 := m103 _ _ ((s8_102.ne rfl).ne rfl)
              have s9_103 := m103 _ _ ((s9_102.ne rfl).ne rfl)
              have s10_103 := m103 _ _ ((s10_102.ne rfl).ne rfl)
              have s16_103 := m103 _ _ ((s16_102.ne rfl).ne rfl)
              have s17_103 := m103 _ _ ((s17_102.ne rfl).ne rfl)
              have s54_103 := m103 _ _ ((s54_102.ne rfl).ne rfl)
              have s55_103 := m103 _ _ ((s55_102.ne rfl).ne rfl)
              have s56_103 := m103 _ _ (At.hit z102.put rfl)
              clear m103
              have c104 := OwnF.castL o101 (show (outT lb lo lt ((pathsT lb lo lt).take k)) ++ [(findL lo ((pathsT lb lo lt).getD k ByteArray.empty))] = outT lb lo lt ((pathsT lb lo lt).take (k + 1)) from out_next (by omega) (cell_4 hb43 hb59 hb78) hb98)
              have c105 := OwnF.castL ob96_101 (show (badT lb lo lt ((pathsT lb lo lt).take k)) ++ [((pathsT lb lo lt).getD k ByteArray.empty)] = badT lb lo lt ((pathsT lb lo lt).take (k + 1)) from bad_next (by omega) (clash_4 hb43 hb59 hb78))
              exact ⟨v101, v96, z103, s8_103, s9_103, s10_103, s16_103, s17_103, s54_103, s55_103, s56_103, kmlb_101, kmlo_101, kmlt_101, c104, c105, low102⟩
            · skip
              refine c_region ?_
              refine l_q rfl (q_row rfl Try.underlying37 rfl (sz37.trans (congrArg some rfl.symm)) s20_97.ev (fun _ e => by rw [e]; exact kg20_96) ?_)
              refine l_q rfl (q_build (cs := #[.string zL.f0, .int .i64 zL.f1, .string zL.f2]) rfl rfl (by kernel_rfl) ?_)
              refine l_q rfl (q_ne3 false rfl guard37 ((At.hit z97 rfl).ne rfl).ev (At.hit z97.put rfl).ev (eq37 9998 ((findL lo ((pathsT lb lo lt).getD k ByteArray.empty)).f0) ((findL lo ((pathsT lb lo lt).getD k ByteArray.empty)).f1) ((findL lo ((pathsT lb lo lt).getD k ByteArray.empty)).f2) zL.f0 zL.f1 zL.f2) (neL_false (Decidable.not_not.1 hb98)) ?_)
              refine l_end ?_
              refine e_fresh z97.put.put.put ?_
              intro a106 z106 m106
              have s8_106 := m106 _ _ (((s8_97.ne rfl).ne rfl).ne rfl)
              have s9_106 := m106 _ _ (((s9_97.ne rfl).ne rfl).ne rfl)
              have s10_106 := m106 _ _ (((s10_97.ne rfl).ne rfl).ne rfl)
              have s16_106 := m106 _ _ (((s16_97.ne rfl).ne rfl).ne rfl)
              have s17_106 := m106 _ _ (((s17_97.ne rfl).ne rfl).ne rfl)
              have s20_106 := m106 _ _ (((s20_97.ne rfl).ne rfl).ne rfl)
              have s54_106 := m106 _ _ (((s54_97.ne rfl).ne rfl).ne rfl)
              have s55_106 := m106 _ _ (((s55_97.ne rfl).ne rfl).ne rfl)
              have s56_106 := m106 _ _ (((s56_97.ne rfl).ne rfl).ne rfl)
              have s97_106 := m106 _ _ (At.hit z97.put.put rfl)
              clear m106
              refine e_then ?_
              refine c_false s97_106 ?_
              refine wp_skip ?_
              refine e_in ?_
              refine e_then ?_
              refine c_region ?_
              refine l_q rfl (q_add (((k + 1 : Nat) : Int)) rfl s56_106.ev rfl (i64_is (by omega) (by omega) (by omega)) ?_)
              refine l_q rfl (q_move _ _ rfl (At.hit z106 rfl).ev ?_)
              refine l_end ?_
              refine e_fresh z106.put.put ?_
              intro a107 z107 m107
              have s8_107 := m107 _ _ ((s8_106.ne rfl).ne rfl)
              have s9_107 := m107 _ _ ((s9_106.ne rfl).ne rfl)
              have s10_107 := m107 _ _ ((s10_106.ne rfl).ne rfl)
              have s16_107 := m107 _ _ ((s16_106.ne rfl).ne rfl)
              have s17_107 := m107 _ _ ((s17_106.ne rfl).ne rfl)
              have s54_107 := m107 _ _ ((s54_106.ne rfl).ne rfl)
              have s55_107 := m107 _ _ ((s55_106.ne rfl).ne rfl)
              have s56_107 := m107 _ _ (At.hit z106.put rfl)
              clear m107
              have c108 := OwnF.castL ox16_96 (show outT lb lo lt ((pathsT lb lo lt).take k) = outT lb lo lt ((pathsT lb lo lt).take (k + 1)) from out_skip (by omega) (cell_4 hb43 hb59 hb78) hb98)
              have c109 := OwnF.castL o96 (show (badT lb lo lt ((pathsT lb lo lt).take k)) ++ [((pathsT lb lo lt).getD k ByteArray.empty)] = badT lb lo lt ((pathsT lb lo lt).take (k + 1)) from bad_next (by omega) (clash_4 hb43 hb59 hb78))
              exact ⟨v16_37, v96, z107, s8_107, s9_107, s10_107, s16_107, s17_107, s54_107, s55_107, s56_107, kmlb_96, kmlo_96, kmlt_96, c108, c109, low97⟩
    · intro a110 w110 h
      obtain ⟨v16_110, v17_110, z110, s8_110, s9_110, s10_110, s16_110, s17_110, s54_110, s55_110, s56_110, kmlb_110, kmlo_110, kmlt_110, ox16_110, ox17_110, low110⟩ := h
      clear kmlb_35 kmlo_35 kmlt_35 s10_36 s16_36 s17_36 s54_36 s55_36 s56_36 s8_36 s9_36 z36
      have hpl := paths_len lb lo lt
      have hol := out_len lb lo lt (pathsT lb lo lt) (pathsT lb lo lt).length 300000 (by omega)
      have hbl := bad_len lb lo lt (pathsT lb lo lt) (pathsT lb lo lt).length 300000 (by omega)
      rw [out_end] at hol
      rw [bad_end] at hbl
      refine c_seq ?_
      refine c_region ?_
      refine l_q rfl (q_lss false rfl s56_110.ev s55_110.ev (decide_eq_false (by omega)) ?_)
      refine l_end ?_
      refine e_fresh z110.put ?_
      intro a111 z111 m111
      have s8_111 := m111 _ _ (s8_110.ne rfl)
      have s9_111 := m111 _ _ (s9_110.ne rfl)
      have s10_111 := m111 _ _ (s10_110.ne rfl)
      have s16_111 := m111 _ _ (s16_110.ne rfl)
      have s17_111 := m111 _ _ (s17_110.ne rfl)
      have s54_111 := m111 _ _ (s54_110.ne rfl)
      have s56_111 := m111 _ _ (s56_110.ne rfl)
      have s57_111 := m111 _ _ (At.hit z110 rfl)
      clear m111
      refine e_then ?_
      refine c_seq ?_
      refine c_false s57_111 ?_
      refine wp_exit ?_
      refine x_then ?_
      refine x_then ?_
      refine in_exit ?_
      refine e_then ?_
      refine c_seq ?_
      refine c_seq ?_
      have c112 := OwnF.castL ox16_110 (show outT lb lo lt ((pathsT lb lo lt).take ((pathsT lb lo lt).length)) = outF lb lo lt from out_end lb lo lt)
      have c113 := OwnF.castL ox17_110 (show badT lb lo lt ((pathsT lb lo lt).take ((pathsT lb lo lt).length)) = badF lb lo lt from bad_end lb lo lt)
      refine c_region ?_
      refine l_q rfl (q_move _ _ rfl s16_111.ev ?_)
      refine l_q rfl (q_lenF rfl rfl Try.underlying22 (At.hit z111 rfl).ev c112.rd ?_)
      refine l_q rfl (q_move _ _ rfl rfl ?_)
      refine l_end ?_
      refine e_fresh z111.put.put.put ?_
      intro a114 z114 m114
      have s16_114 := m114 _ _ (((s16_111.ne rfl).ne rfl).ne rfl)
      have s17_114 := m114 _ _ (((s17_111.ne rfl).ne rfl).ne rfl)
      have s103_114 := m114 _ _ (((At.hit z111 rfl).ne rfl).ne rfl)
      have s104_114 := m114 _ _ ((At.hit z111.put rfl).ne rfl)
      have s105_114 := m114 _ _ (At.hit z111.put.put rfl)
      clear m114
      refine e_then ?_
      refine wp_block ?_
      refine c_loop ((outF lb lo lt).length) (fun k a w => ∃ v17 : Value, Fr 126 a ∧ At a 16 (v16_110) ∧ At a 17 (v17) ∧ At a 103 (v16_110) ∧ At a 104 (.int .i64 ((((outF lb lo lt).length) : Nat) : Int)) ∧ At a 105 (.int .i64 ((k : Nat) : Int)) ∧ MapIs w mlb (mapL lb) ∧ MapIs w mlo (mapL lo) ∧ MapIs w mlt (mapL lt) ∧ OwnF w w35.heap.size 9 1 v17 (dirsF (badF lb lo lt) (outF lb lo lt) k).length (((dirsF (badF lb lo lt) (outF lb lo lt) k).map encS).flatten) ∧ OwnF w w35.heap.size 37 3 v16_110 (outF lb lo lt).length (((outF lb lo lt).map encL).flatten) ∧ Low w35 w) ?_ ?_ ?_
      · exact ⟨v17_110, z114, s16_114, s17_114, s103_114, s104_114, s105_114, kmlb_110, kmlo_110, kmlt_110, c113, c112, low110⟩
      · intro k a115 w115 hk115 h
        obtain ⟨v17_115, z115, s16_115, s17_115, s103_115, s104_115, s105_115, kmlb_115, kmlo_115, kmlt_115, ox17_115, ox16_115, low115⟩ := h
        clear kmlb_110 kmlo_110 kmlt_110 low110 s103_114 s104_114 s105_114 s16_114 s17_114 z114
        have hdl := dirs_len (badF lb lo lt) (outF lb lo lt) k
        refine c_seq ?_
        refine c_region ?_
        refine l_q rfl (q_lss true rfl s105_115.ev s104_115.ev (decide_eq_true (by omega)) ?_)
        refine l_end ?_
        refine e_fresh z115.put ?_
        intro a116 z116 m116
        have s16_116 := m116 _ _ (s16_115.ne rfl)
        have s17_116 := m116 _ _ (s17_115.ne rfl)
        have s103_116 := m116 _ _ (s103_115.ne rfl)
        have s104_116 := m116 _ _ (s104_115.ne rfl)
        have s105_116 := m116 _ _ (s105_115.ne rfl)
        have s106_116 := m116 _ _ (At.hit z115 rfl)
        clear m116
        refine e_then ?_
        refine c_seq ?_
        refine c_true s106_116 ?_
        refine wp_skip ?_
        refine e_then ?_
        refine c_seq ?_
        refine wp_block ?_
        refine c_seq ?_
        refine c_region ?_
        refine l_q rfl (q_move _ _ rfl s105_116.ev ?_)
        refine l_q rfl (q_idxF (j := k) rfl Try.underlying22 sz37 (s103_116.ne rfl).ev ox16_115.rd (s105_116.ne rfl).ev (by omega) ?_)
        refine l_q rfl (q_ldR (vs := [.string (((outF lb lo lt).getD k zL).f0), .int .i64 (((outF lb lo lt).getD k zL).f1), .string (((outF lb lo lt).getD k zL).f2)]) rfl Try.underlying37 rfl sz37 (At.hit z116.put rfl).ev (fun _ e => by rw [e]; exact ox16_115.rd) (by omega) rfl (flat_part encL_len zL _ k (by omega)) ?_)
        refine l_alloc rfl rfl zero37 ?_
        intro g22 w117 hg117 k117 h117
        have onx16_g22 : ∀ k, Value.ownBlock v16_110 = some k → k < g22 := fun k hk => Nat.lt_of_lt_of_le (OwnF.own_lt ox16_115 hk) hg117
        have nmlb_g22 := Nat.ne_of_lt (Nat.lt_of_lt_of_le kmlb_115.lt hg117)
        have nmlo_g22 := Nat.ne_of_lt (Nat.lt_of_lt_of_le kmlo_115.lt hg117)
        have nmlt_g22 := Nat.ne_of_lt (Nat.lt_of_lt_of_le kmlt_115.lt hg117)
        have geg22 := Nat.le_trans low115.ge hg117
        have kmlb_117 := kmlb_115.low h117
        have kmlo_117 := kmlo_115.low h117
        have kmlt_117 := kmlt_115.low h117
        have ox17_117 := ox17_115.low h117
        have ox16_117 := ox16_115.low h117
        refine l_q rfl (q_assign _ _ rfl ((((At.hit z116 rfl).ne rfl).ne rfl).ne rfl).ev ?_)
        refine l_row rfl rfl rfl (sz37.trans (congrArg some rfl.symm)) ((At.hit z116.put.put.put rfl).ne rfl).ev (((At.hit z116.put.put rfl).ne rfl).ne rfl).ev (by simp [Value.oneCell']) k117 (rfl.trans rfl.symm) ?_
        intro w118 k118 u118
        have ox17_118 := ox17_117.upd u118 k117 rfl
        have ox16_118 := ox16_117.updn u118 onx16_g22
        have kmlb_118 := kmlb_117.upd u118 (by omega)
        have kmlo_118 := kmlo_117.upd u118 (by omega)
        have kmlt_118 := kmlt_117.upd u118 (by omega)
        refine l_end ?_
        refine e_fresh z116.put.put.put.put.put ?_
        intro a119 z119 m119
        have s16_119 := m119 _ _ (((((s16_116.ne rfl).ne rfl).ne rfl).ne rfl).ne rfl)
        have s17_119 := m119 _ _ (((((s17_116.ne rfl).ne rfl).ne rfl).ne rfl).ne rfl)
        have s21_119 := m119 _ _ (At.hit z116.put.put.put.put rfl)
        have s22_119 := m119 _ _ ((At.hit z116.put.put.put rfl).ne rfl)
        have s103_119 := m119 _ _ (((((s103_116.ne rfl).ne rfl).ne rfl).ne rfl).ne rfl)
        have s104_119 := m119 _ _ (((((s104_116.ne rfl).ne rfl).ne rfl).ne rfl).ne rfl)
        have s105_119 := m119 _ _ (((((s105_116.ne rfl).ne rfl).ne rfl).ne rfl).ne rfl)
        have low119 := ((low115.trans h117).upd u118 geg22)
        clear m119
        refine e_then ?_
        refine c_seq ?_
        refine c_region ?_
        refine l_q rfl (q_move _ _ rfl s16_119.ev ?_)
        refine l_q rfl (q_move _ _ rfl (s21_119.ne rfl).ev ?_)
        refine l_q rfl (q_cutF (i := k) rfl Try.underlying22 sz37 ((At.hit z119 rfl).ne rfl).ev (At.hit z119.put rfl).ev ox16_118.rd (by omega) ?_)
        refine l_q rfl (q_makeFunc rfl (((s22_119.ne rfl).ne rfl).ne rfl).ev ?_)
        refine l_call (fun v w' => v = .bool (underB (outF lb lo lt) k) ∧ Low w118 w') rfl rfl rfl Try.func19 rfl (args2 rfl ((At.hit z119.put.put rfl).ne rfl).ev (At.hit z119.put.put.put rfl).ev) ((Contains.calls _ ((outF lb lo lt).drop k) (by rw [List.length_drop]; omega) g22 (fun y => prefB y.f0 (((outF lb lo lt).getD k zL).f0 ++ slash)) _ (RdF.cutL (j := k) encL_len ox16_118.rd (by omega)) (fun y w h => Under.calls y ((outF lb lo lt).getD k zL) (out_size ho ht k) g22 w (h.blk k118))).mono fun _ _ ⟨e, k⟩ => ⟨_, e, rfl, k⟩) ?_
        rintro _ w121 ⟨rfl, h121⟩
        have kmlb_121 := kmlb_118.low h121
        have kmlo_121 := kmlo_118.low h121
        have kmlt_121 := kmlt_118.low h121
        have kg22_121 := h121.blk k118
        have ox17_121 := ox17_118.low h121
        have ox16_121 := ox16_118.low h121
        have oy120_121 := (RdF.cutL (j := k) encL_len ox16_118.rd (by omega)).low h121
        refine l_end ?_
        refine e_fresh z119.put.put.put.put.put ?_
        intro a122 z122 m122
        have s16_122 := m122 _ _ (((((s16_119.ne rfl).ne rfl).ne rfl).ne rfl).ne rfl)
        have s17_122 := m122 _ _ (((((s17_119.ne rfl).ne rfl).ne rfl).ne rfl).ne rfl)
        have s22_122 := m122 _ _ (((((s22_119.ne rfl).ne rfl).ne rfl).ne rfl).ne rfl)
        have s103_122 := m122 _ _ (((((s103_119.ne rfl).ne rfl).ne rfl).ne rfl).ne rfl)
        have s104_122 := m122 _ _ (((((s104_119.ne rfl).ne rfl).ne rfl).ne rfl).ne rfl)
        have s105_122 := m122 _ _ (((((s105_119.ne rfl).ne rfl).ne rfl).ne rfl).ne rfl)
        have s114_122 := m122 _ _ (At.hit z119.put.put.put.put rfl)
        have low122 := (low119.trans h121)
        clear m122
        refine e_then ?_
        cases hc123 : underB (outF lb lo lt) k with
        | true =>
          have hs123 := s114_122.same (congrArg Value.bool hc123)
          refine c_true hs123 ?_
          refine c_region ?_
          refine l_q rfl (q_move _ _ rfl s17_122.ev ?_)
          refine l_q rfl (q_fld 0 rfl (by kernel_rfl) (s22_122.ne rfl).ev ?_)
          refine l_q rfl (q_cellT (.string (((outF lb lo lt).getD k zL).f0)) rfl Try.underlying9 (At.hit z122.put rfl).ev (fun _ e => by rw [e]; exact (cells_at kg22_121 0).trans rfl) ?_)
          refine l_buildF (vs := [.string (((outF lb lo lt).getD k zL).f0)]) rfl rfl Try.underlying25 rec9 (At.hit z122.put.put rfl).ev rfl rfl (by decide) (by decide) ?_
          intro g118_124 w124 hg124 k124 h124
          have onx17_g118_124 : ∀ k, Value.ownBlock v17_115 = some k → k < g118_124 := fun k hk => Nat.lt_of_lt_of_le (OwnF.own_lt ox17_121 hk) hg124
          have lt_g22_g118_124 := Nat.lt_of_lt_of_le (heap_lt kg22_121) hg124
          have nmlb_g118_124 := Nat.ne_of_lt (Nat.lt_of_lt_of_le kmlb_121.lt hg124)
          have nmlo_g118_124 := Nat.ne_of_lt (Nat.lt_of_lt_of_le kmlo_121.lt hg124)
          have nmlt_g118_124 := Nat.ne_of_lt (Nat.lt_of_lt_of_le kmlt_121.lt hg124)
          have geg118_124 := Nat.le_trans low122.ge hg124
          have kmlb_124 := kmlb_121.low h124
          have kmlo_124 := kmlo_121.low h124
          have kmlt_124 := kmlt_121.low h124
          have kg22_124 := h124.blk kg22_121
          have ox17_124 := ox17_121.low h124
          have ox16_124 := ox16_121.low h124
          refine l_appF (B := w35.heap.size) rfl rfl Try.underlying25 rec9 ((((At.hit z122 rfl).ne rfl).ne rfl).ne rfl).ev (At.hit z122.put.put.put rfl).ev k124 rfl (by decide) rfl ox17_124 (low122.trans h124).ge (by omega) ?_
          intro v125 w125 o125 gr125
          have kmlb_125 := kmlb_124.grw gr125
          have kmlo_125 := kmlo_124.grw gr125
          have kmlt_125 := kmlt_124.grw gr125
          have kg22_125 := gr125.blk kg22_124 rfl
          have lw125 := (low122.trans h124).grw gr125
          have ox16_125 := ox16_124.grw gr125 rfl
          replace o125 := o125.cast (show _ = ((dirsF (badF lb lo lt) (outF lb lo lt) k) ++ [((outF lb lo lt).getD k zL).f0]).length by rw [List.length_append]; rfl) (flat_snoc (enc := encS) (dirsF (badF lb lo lt) (outF lb lo lt) k) (((outF lb lo lt).getD k zL).f0))
          refine l_q rfl (q_assign _ _ rfl (At.hit z122.put.put.put.put rfl).ev ?_)
          refine l_end ?_
          refine e_fresh z122.put.put.put.put.put.put ?_
          intro a126 z126 m126
          have s16_126 := m126 _ _ ((((((s16_122.ne rfl).ne rfl).ne rfl).ne rfl).ne rfl).ne rfl)
          have s17_126 := m126 _ _ (At.hit z122.put.put.put.put.put rfl)
          have s103_126 := m126 _ _ ((((((s103_122.ne rfl).ne rfl).ne rfl).ne rfl).ne rfl).ne rfl)
          have s104_126 := m126 _ _ ((((((s104_122.ne rfl).ne rfl).ne rfl).ne rfl).ne rfl).ne rfl)
          have s105_126 := m126 _ _ ((((((s105_122.ne rfl).ne rfl).ne rfl).ne rfl).ne rfl).ne rfl)
          have low126 := lw125
          clear m126
          refine e_in ?_
          refine e_then ?_
          refine c_region ?_
          refine l_q rfl (q_add (((k + 1 : Nat) : Int)) rfl s105_126.ev rfl (i64_is (by omega) (by omega) (by omega)) ?_)
          refine l_q rfl (q_move _ _ rfl (At.hit z126 rfl).ev ?_)
          refine l_end ?_
          refine e_fresh z126.put.put ?_
          intro a127 z127 m127
          have s16_127 := m127 _ _ ((s16_126.ne rfl).ne rfl)
          have s17_127 := m127 _ _ ((s17_126.ne rfl).ne rfl)
          have s103_127 := m127 _ _ ((s103_126.ne rfl).ne rfl)
          have s104_127 := m127 _ _ ((s104_126.ne rfl).ne rfl)
          have s105_127 := m127 _ _ (At.hit z126.put rfl)
          clear m127
          have c128 := OwnF.castL o125 (show (dirsF (badF lb lo lt) (outF lb lo lt) k) ++ [((outF lb lo lt).getD k zL).f0] = dirsF (badF lb lo lt) (outF lb lo lt) (k + 1) from dirs_next hc123)
          exact ⟨v125, z127, s16_127, s17_127, s103_127, s104_127, s105_127, kmlb_125, kmlo_125, kmlt_125, c128, ox16_125, low126⟩
        | false =>
          have hs123 := s114_122.same (congrArg Value.bool hc123)
          refine c_false hs123 ?_
          refine wp_skip ?_
          refine e_in ?_
          refine e_then ?_
          refine c_region ?_
          refine l_q rfl (q_add (((k + 1 : Nat) : Int)) rfl s105_122.ev rfl (i64_is (by omega) (by omega) (by omega)) ?_)
          refine l_q rfl (q_move _ _ rfl (At.hit z122 rfl).ev ?_)
          refine l_end ?_
          refine e_fresh z122.put.put ?_
          intro a129 z129 m129
          have s16_129 := m129 _ _ ((s16_122.ne rfl).ne rfl)
          have s17_129 := m129 _ _ ((s17_122.ne rfl).ne rfl)
          have s103_129 := m129 _ _ ((s103_122.ne rfl).ne rfl)
          have s104_129 := m129 _ _ ((s104_122.ne rfl).ne rfl)
          have s105_129 := m129 _ _ (At.hit z122.put rfl)
          clear m129
          have c130 := OwnF.castL ox17_121 (show dirsF (badF lb lo lt) (outF lb lo lt) k = dirsF (badF lb lo lt) (outF lb lo lt) (k + 1) from dirs_skip hc123)
          exact ⟨v17_115, z129, s16_129, s17_129, s103_129, s104_129, s105_129, kmlb_121, kmlo_121, kmlt_121, c130, ox16_121, low122⟩
      · intro a131 w131 h
        obtain ⟨v17_131, z131, s16_131, s17_131, s103_131, s104_131, s105_131, kmlb_131, kmlo_131, kmlt_131, ox17_131, ox16_131, low131⟩ := h
        clear kmlb_110 kmlo_110 kmlt_110 low110 s103_114 s104_114 s105_114 s16_114 s17_114 z114
        have hdl := dirs_len (badF lb lo lt) (outF lb lo lt) (outF lb lo lt).length
        refine c_seq ?_
        refine c_region ?_
        refine l_q rfl (q_lss false rfl s105_131.ev s104_131.ev (decide_eq_false (by omega)) ?_)
        refine l_end ?_
        refine e_fresh z131.put ?_
        intro a132 z132 m132
        have s16_132 := m132 _ _ (s16_131.ne rfl)
        have s17_132 := m132 _ _ (s17_131.ne rfl)
        have s103_132 := m132 _ _ (s103_131.ne rfl)
        have s105_132 := m132 _ _ (s105_131.ne rfl)
        have s106_132 := m132 _ _ (At.hit z131 rfl)
        clear m132
        refine e_then ?_
        refine c_seq ?_
        refine c_false s106_132 ?_
        refine wp_exit ?_
        refine x_then ?_
        refine x_then ?_
        refine in_exit ?_
        refine e_then ?_
        refine c_seq ?_
        have c133 := OwnF.castL ox17_131 (show dirsF (badF lb lo lt) (outF lb lo lt) ((outF lb lo lt).length) = badD lb lo lt from rfl)
        have hbd : (badD lb lo lt).length ≤ 900000 := by unfold badD; omega
        refine c_region ?_
        refine l_q rfl (q_move _ _ rfl s17_132.ev ?_)
        refine l_call _ rfl rfl rfl Try.func17 rfl (args1 rfl (At.hit z132 rfl).ev) (sort_c v17_131 (badD lb lo lt) _ (Nat.le_trans hbd (by decide)) c133) ?_
        rintro _ w134 ⟨rfl, o134, gr134⟩
        have kmlb_134 := kmlb_131.grw gr134
        have kmlo_134 := kmlo_131.grw gr134
        have kmlt_134 := kmlt_131.grw gr134
        have lw134 := low131.grw gr134
        have ox16_134 := ox16_131.grw gr134 rfl
        refine l_end ?_
        refine e_fresh z132.put.put ?_
        intro a135 z135 m135
        have s16_135 := m135 _ _ ((s16_132.ne rfl).ne rfl)
        have s17_135 := m135 _ _ ((s17_132.ne rfl).ne rfl)
        have low135 := lw134
        clear m135
        refine e_then ?_
        refine c_seq ?_
        refine c_region ?_
        refine l_q rfl (q_move _ _ rfl s16_135.ev ?_)
        refine l_q rfl (q_move _ _ rfl (s17_135.ne rfl).ev ?_)
        refine l_call _ rfl rfl rfl Try.func18 rfl (args1 rfl (At.hit z135.put rfl).ev) (compact_calls v17_131 (sortB (badD lb lo lt)) _ o134) ?_
        rintro v136 w136 ⟨o136, gr136⟩
        have kmlb_136 := kmlb_134.grw gr136
        have kmlo_136 := kmlo_134.grw gr136
        have kmlt_136 := kmlt_134.grw gr136
        have lw136 := low135.grw gr136
        have ox16_136 := ox16_134.grw gr136 rfl
        replace o136 := OwnF.castL o136 (show compB (sortB (badD lb lo lt)) = badA lb lo lt from rfl)
        refine l_q rfl (q_assign _ _ rfl (((At.hit z135 rfl).ne rfl).ne rfl).ev ?_)
        refine l_q rfl (q_assign _ _ rfl ((At.hit z135.put.put rfl).ne rfl).ev ?_)
        refine l_end ?_
        refine e_fresh z135.put.put.put.put.put ?_
        intro a137 z137 m137
        have s6_137 := m137 _ _ ((At.hit z135.put.put.put rfl).ne rfl)
        have s7_137 := m137 _ _ (At.hit z135.put.put.put.put rfl)
        have low137 := lw136
        clear m137
        refine e_then ?_
        refine wp_ret ?_
        refine r_two rfl z137.defers s6_137 s7_137 ?_
        exact ⟨_, rfl, _, _, rfl, ox16_136.base (Nat.le_trans low9.ge low36.ge), o136.base (Nat.le_trans low9.ge low36.ge), (low9.trans (low36.trans low137))⟩
end Go.Proofs.Ytenbgnlkkmnmhaa.Q
end
/-! M5 -/
section
namespace Go.Proofs.Ytenbgnlkkmnmhaa.Q
open Go.RowKit
set_option linter.unusedSimpArgs false
def pathsD (b o t : List LfR) : List ByteArray := pathsR [b, o, t]
theorem pathsD_len (b o t : List LfR) : (pathsD b o t).length ≤ b.length + o.length + t.length := by
  unfold pathsD pathsR
  refine Nat.le_trans (foldl_ins_len _ _) ?_
  simp
  omega
def cellR (b o t : List LfR) (p : ByteArray) : LfR := if ¬ findR o p = findR t p ∧ findR o p = findR b p then findR t p else findR o p
def clashR (b o t : List LfR) (p : ByteArray) : Bool := decide (¬ findR o p = findR t p ∧ ¬ findR o p = findR b p ∧ ¬ findR t p = findR b p)
section
variable {b o t : List LfR} {p : ByteArray}
theorem cellR_1 (h : ¬ ¬ findR o p = findR t p) : cellR b o t p = findR o p := if_neg fun k => h k.1
theorem cellR_2 (h1 : ¬ findR o p = findR t p) (h2 : findR o p = findR b p) : cellR b o t p = findR t p := if_pos ⟨h1, h2⟩
theorem cellR_3 (h2 : ¬ findR o p = findR b p) : cellR b o t p = findR o p := if_neg fun k => h2 k.2
theorem clashR_1 (h : ¬ ¬ findR o p = findR t p) : clashR b o t p = false := decide_eq_false fun k => h k.1
theorem clashR_2 (h : findR o p = findR b p) : clashR b o t p = false := decide_eq_false fun k => k.2.1 h
theorem clashR_3 (h : ¬ ¬ findR t p = findR b p) : clashR b o t p = false := decide_eq_false fun k => h k.2.2
theorem clashR_4 (h1 : ¬ findR o p = findR t p) (h2 : ¬ findR o p = findR b p) (h3 : ¬ findR t p = findR b p) : clashR b o t p = true := decide_eq_true ⟨h1, h2, h3⟩
end
def outR (b o t : List LfR) (ps : List ByteArray) : List LfR := (ps.map (cellR b o t)).filter fun x => decide (¬ x = zR)
def badR (b o t : List LfR) (ps : List ByteArray) : List ByteArray := ps.filter (clashR b o t)
section
variable {b o t : List LfR} {ps : List ByteArray} {k : Nat}
theorem outR_next {x : LfR} (hk : k < ps.length) (h : cellR b o t (ps.getD k ByteArray.empty) = x) (hx : ¬ x = zR) : outR b o t (ps.take k) ++ [x] = outR b o t (ps.take (k + 1)) := by
  unfold outR
  rw [getD_next ps k ByteArray.empty hk, List.map_append, List.filter_append, List.map_singleton, h]
  simp [hx]
theorem outR_skip {x : LfR} (hk : k < ps.length) (h : cellR b o t (ps.getD k ByteArray.empty) = x) (hx : ¬ ¬ x = zR) : outR b o t (ps.take k) = outR b o t (ps.take (k + 1)) := by
  unfold outR
  rw [getD_next ps k ByteArray.empty hk, List.map_append, List.filter_append, List.map_singleton, h]
  simp [Decidable.not_not.1 hx]
theorem badR_next (hk : k < ps.length) (h : clashR b o t (ps.getD k ByteArray.empty) = true) : badR b o t (ps.take k) ++ [ps.getD k ByteArray.empty] = badR b o t (ps.take (k + 1)) := by
  unfold badR
  rw [getD_next ps k ByteArray.empty hk, List.filter_append, List.filter_cons_of_pos h]
  rfl
theorem badR_skip (hk : k < ps.length) (h : clashR b o t (ps.getD k ByteArray.empty) = false) : badR b o t (ps.take k) = badR b o t (ps.take (k + 1)) := by
  unfold badR
  rw [getD_next ps k ByteArray.empty hk, List.filter_append, List.filter_cons_of_neg (by rw [h]; decide)]
  simp
end
theorem outR_len (b o t : List LfR) (ps : List ByteArray) (k n : Nat) (h : ps.length ≤ n) : (outR b o t (ps.take k)).length ≤ n := by
  unfold outR
  refine Nat.le_trans (List.length_filter_le _ _) ?_
  rw [List.length_map, List.length_take]
  omega
def outS (b o t : List LfR) : List LfR := outR b o t (pathsD b o t)
def badS (b o t : List LfR) : List ByteArray := badR b o t (pathsD b o t)
theorem outS_end (b o t : List LfR) : outR b o t ((pathsD b o t).take (pathsD b o t).length) = outS b o t := by rw [List.take_of_length_le (Nat.le_refl _)]; rfl
theorem badS_end (b o t : List LfR) : badR b o t ((pathsD b o t).take (pathsD b o t).length) = badS b o t := by rw [List.take_of_length_le (Nat.le_refl _)]; rfl
def mapB (ks : List ByteArray) : List (ByteArray × Value) := ks.foldl (fun m k => mput m k (.bool true)) []
def memB (k : ByteArray) (ks : List ByteArray) : Bool := ks.any fun x => decide (x = k)
theorem memB_iff (k : ByteArray) (ks : List ByteArray) : memB k ks = true ↔ k ∈ ks := by
  unfold memB
  rw [List.any_eq_true]
  constructor
  · rintro ⟨x, hx, h⟩
    exact of_decide_eq_true h ▸ hx
  · intro h
    exact ⟨k, h, decide_eq_true rfl⟩
theorem mapB_snoc (ks : List ByteArray) (k : ByteArray) : mput (mapB ks) k (.bool true) = mapB (ks ++ [k]) := by
  unfold mapB
  rw [List.foldl_append]
  rfl
theorem look_mapB (ks : List ByteArray) (k : ByteArray) : (mlook (mapB ks) k).getD (.bool false) = .bool (memB k ks) := by
  have key : ∀ (ks : List ByteArray) (m : List (ByteArray × Value)) (r : Bool), (mlook m k).getD (.bool false) = .bool r →
      (mlook (ks.foldl (fun m k => mput m k (.bool true)) m) k).getD (.bool false) = .bool (r || memB k ks) := by
    intro ks
    induction ks with
    | nil => intro m r h; rw [show memB k [] = false from rfl, Bool.or_false]; exact h
    | cons x ks ih =>
      intro m r h
      rw [List.foldl_cons, show memB k (x :: ks) = (decide (x = k) || memB k ks) from rfl]
      by_cases hx : x = k
      · rw [ih _ true (by rw [mlook_put, if_pos hx]; rfl), decide_eq_true hx]
        simp
      · rw [ih _ r (by rw [mlook_put, if_neg hx]; exact h), decide_eq_false hx, Bool.false_or]
  have := key ks [] false rfl
  rw [Bool.false_or] at this
  exact this
def inR (a : List ByteArray) (l : List LfR) (i : Nat) : Nat → List ByteArray
  | 0 => a
  | m + 1 => if within (l.getD m zR).f0 (l.getD i zR).f0 = true then inR a l i m ++ [(l.getD i zR).f0] else inR a l i m
def dirR (a : List ByteArray) (l : List LfR) : Nat → List ByteArray
  | 0 => a
  | k + 1 => inR (dirR a l k) l k l.length
theorem inR_next {a : List ByteArray} {l : List LfR} {i m : Nat} (h : within (l.getD m zR).f0 (l.getD i zR).f0 = true) : mput (mapB (inR a l i m)) (l.getD i zR).f0 (.bool true) = mapB (inR a l i (m + 1)) := by rw [mapB_snoc, inR, if_pos h]
theorem inR_skip {a : List ByteArray} {l : List LfR} {i m : Nat} (h : within (l.getD m zR).f0 (l.getD i zR).f0 = false) : mapB (inR a l i m) = mapB (inR a l i (m + 1)) := by rw [inR, if_neg (by rw [h]; decide)]
def keysS (b o t : List LfR) : List ByteArray := dirR (badS b o t) (outS b o t) (outS b o t).length
def wantR (ks ps : List ByteArray) : List ByteArray := ps.filter fun p => memB p ks
theorem want_next {ks ps : List ByteArray} {k : Nat} (hk : k < ps.length) (h : memB (ps.getD k ByteArray.empty) ks = true) : wantR ks (ps.take k) ++ [ps.getD k ByteArray.empty] = wantR ks (ps.take (k + 1)) := by
  unfold wantR
  rw [getD_next ps k ByteArray.empty hk, List.filter_append]
  generalize ps.getD k ByteArray.empty = q at *
  simp [h]
theorem want_skip {ks ps : List ByteArray} {k : Nat} (hk : k < ps.length) (h : memB (ps.getD k ByteArray.empty) ks = false) : wantR ks (ps.take k) = wantR ks (ps.take (k + 1)) := by
  unfold wantR
  rw [getD_next ps k ByteArray.empty hk, List.filter_append]
  generalize ps.getD k ByteArray.empty = q at *
  simp [h]
theorem want_len (ks ps : List ByteArray) (k n : Nat) (h : ps.length ≤ n) : (wantR ks (ps.take k)).length ≤ n := by
  unfold wantR
  refine Nat.le_trans (List.length_filter_le _ _) ?_
  rw [List.length_take]
  omega
def wantS (b o t : List LfR) : List ByteArray := wantR (keysS b o t) (pathsD b o t)
theorem wantS_end (b o t : List LfR) : wantR (keysS b o t) ((pathsD b o t).take (pathsD b o t).length) = wantS b o t := by rw [List.take_of_length_le (Nat.le_refl _)]; rfl
def ordAt (l : List LfL) (i : Nat) : Prop := ¬ (l.getD i zL).f0 = ⟨#[]⟩ ∧ (0 < i → lessB (l.getD (i - 1) zL).f0 (l.getD i zL).f0 = true)
instance ordDec (l : List LfL) (i : Nat) : Decidable (ordAt l i) := by unfold ordAt; infer_instance
def ordN (l : List LfL) : Nat := (List.range l.length).findIdx fun i => decide (¬ ordAt l i)
theorem ordN_le (l : List LfL) : ordN l ≤ l.length := by
  have := List.findIdx_le_length (xs := List.range l.length) (p := fun i => decide (¬ ordAt l i))
  rwa [List.length_range] at this
theorem ordN_round {l : List LfL} {i : Nat} (h : i < ordN l) : ordAt l i := by
  have h1 := List.not_of_lt_findIdx h
  rw [List.getElem_range] at h1
  simpa using h1
theorem ordN_stop {l : List LfL} (h : ordN l < l.length) : ¬ ordAt l (ordN l) := by
  have h1 : decide (¬ ordAt l ((List.range l.length)[ordN l]'(by rw [List.length_range]; exact h))) = true := List.findIdx_getElem (w := by rw [List.length_range]; exact h)
  rw [List.getElem_range] at h1
  exact of_decide_eq_true h1
def rowOk (l : List LfL) : Bool := fewB l && decide (ordN l = l.length)
def okN (L : List (List LfL)) : Nat := L.findIdx fun l => !rowOk l
theorem okN_le (L : List (List LfL)) : okN L ≤ L.length := List.findIdx_le_length
theorem okN_round {L : List (List LfL)} {i : Nat} (h : i < okN L) : rowOk (L.getD i []) = true := by
  have h1 : i < L.length := Nat.lt_of_lt_of_le h (okN_le L)
  have := List.not_of_lt_findIdx h
  rw [List.getD_eq_getElem?_getD, List.getElem?_eq_getElem h1]
  simpa using this
theorem okN_stop {L : List (List LfL)} (h : okN L < L.length) : rowOk (L.getD (okN L) []) = false := by
  have : (!rowOk (L[okN L])) = true := List.findIdx_getElem (w := h)
  rw [List.getD_eq_getElem?_getD, List.getElem?_eq_getElem h]
  rw [Bool.not_eq_true'] at this
  exact this
theorem rowOk_few {l : List LfL} (h : rowOk l = true) : fewB l = true := (Bool.and_eq_true _ _ ▸ h).1
theorem rowOk_ord {l : List LfL} (h : rowOk l = true) : ordN l = l.length := of_decide_eq_true (Bool.and_eq_true _ _ ▸ h).2
theorem rowOk_not {l : List LfL} (h : rowOk l = false) (h' : fewB l = true) : ordN l < l.length := by
  have := ordN_le l
  unfold rowOk at h
  rw [h', Bool.true_and] at h
  have := of_decide_eq_false h
  omega
theorem few_all {l : List LfL} (h : fewB l = true) : l.length ≤ 60 ∧ ∀ i, i < l.length → fewAt l i := by
  unfold fewB at h
  have hn : ¬ fewN l < l.length := by simpa using h
  have hle := fewN_le l
  have hall : ∀ i, i < l.length → fewAt l i := fun i hi => fewN_round (by omega)
  refine ⟨?_, hall⟩
  rcases Nat.lt_or_ge 60 l.length with h | h
  · exact absurd (hall 60 h).1 (by omega)
  · exact h
theorem le_not (s t : ByteArray) : (lessB s t || (s.toList == t.toList)) = !lessB t s := by
  rw [beqS]
  cases h : lessB t s with
  | true =>
    rw [lessB_asymm h, Bool.false_or]
    exact decide_eq_false fun e => lessB_ne h e.symm
  | false =>
    cases h' : lessB s t with
    | true => rfl
    | false => rw [Bool.false_or]; exact decide_eq_true (lessB_tri h' h)
theorem leT {s t : ByteArray} (h : ¬ lessB t s = true) : (lessB s t || (s.toList == t.toList)) = true := by rw [le_not]; simpa using h
theorem leF {s t : ByteArray} (h : lessB t s = true) : (lessB s t || (s.toList == t.toList)) = false := by rw [le_not, h]; rfl
def mayB (L : List (List LfL)) : Bool := decide (okN L = L.length)
end Go.Proofs.Ytenbgnlkkmnmhaa.Q
end
