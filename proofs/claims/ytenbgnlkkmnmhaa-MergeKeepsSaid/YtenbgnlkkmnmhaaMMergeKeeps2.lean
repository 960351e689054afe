/- Merged out of this session's texts by a program (wip/gen/merge.py): declarations that this claim doesn't name are left out. -/
import Derived.Test.YtenbgnlkkmnmhaaMMergeKeeps1
set_option linter.unusedVariables false
set_option linter.unusedSimpArgs false
/-! E2 -/
section
namespace Go.Proofs.Ytenbgnlkkmnmhaa.Q
open Go.RowKit Go.Proofs.Ytenbgnlkkmnmhaa.P
open Go.Proofs.YtenbgnlkkmnmhaaW.PrintWords (bytesOf bytesOf_length)
set_option linter.unusedVariables false
set_option linter.unusedSimpArgs false
set_option maxRecDepth 100000
set_option maxHeartbeats 4000000
attribute [local irreducible] wpList wpQuiet qch Code.wp Oper.quiet Act.put At Region.wanted yielded
theorem Index.calls (v : Value) (l : List LfL) (hl : l.length ≤ 1000000) (gx : Nat) (p : LfL → Bool) (w0 : World) (hv : RdF w0 3 v l.length (l.map encL).flatten) (hcl : ∀ (y : LfL) (w : World), Low w0 w → Calls Try.prog 20 #[.agg #[.string y.f0, .int .i64 y.f1, .string y.f2], .pointer (some ⟨gx, 0, none⟩)] w fun e w' => e = .returned (.bool (p y)) ∧ Low w w')  : Calls Try.prog 26 #[v, .func (.func 20) #[] #[.pointer (some ⟨gx, 0, none⟩)]] w0 fun e w' => e = .returned (.int .i64 (idxF l p)) ∧ Low w0 w' := by
  by_cases h : l.findIdx p < l.length
  · unfold idxF
    rw [if_pos h]
    exact Index_at.calls v l hl gx p (l.findIdx p) h (idxF_at h) (fun i hi => idxF_round i hi) w0 hv hcl
  · unfold idxF
    rw [if_neg h]
    exact Index_none.calls v l hl gx p (fun i hi => idxF_round i (Nat.lt_of_lt_of_le hi (Nat.le_of_not_lt h))) w0 hv hcl
theorem Contains.calls (v : Value) (l : List LfL) (hl : l.length ≤ 1000000) (gx : Nat) (p : LfL → Bool) (w0 : World) (hv : RdF w0 3 v l.length (l.map encL).flatten) (hcl : ∀ (y : LfL) (w : World), Low w0 w → Calls Try.prog 20 #[.agg #[.string y.f0, .int .i64 y.f1, .string y.f2], .pointer (some ⟨gx, 0, none⟩)] w fun e w' => e = .returned (.bool (p y)) ∧ Low w w')  : Calls Try.prog 19 #[v, .func (.func 20) #[] #[.pointer (some ⟨gx, 0, none⟩)]] w0 fun e w' => e = .returned (.bool (l.any p)) ∧ Low w0 w' := by
  refine c_fun (R := _) Try.func19 rfl 9 rfl (Nat.le_of_ble_eq_true rfl) ?_
  intro a z hA
  have s0 := hA 0 _ rfl
  have s1 := hA 1 _ rfl
  clear hA
  refine c_seq ?_
  refine c_region ?_
  refine l_q rfl (q_assign _ _ rfl rfl ?_)
  refine l_end ?_
  refine e_fresh z.put ?_
  intro a1 z1 m1
  have s0_1 := m1 _ _ (s0.ne rfl)
  have s1_1 := m1 _ _ (s1.ne rfl)
  clear m1
  refine e_then ?_
  refine c_seq ?_
  refine c_region ?_
  refine l_q rfl (q_move _ _ rfl s0_1.ev ?_)
  refine l_q rfl (q_move _ _ rfl (s1_1.ne rfl).ev ?_)
  refine l_call (fun v w' => v = .int .i64 (idxF l p) ∧ Low w0 w') rfl rfl rfl Try.func26 rfl (args2 rfl ((At.hit z1 rfl).ne rfl).ev (At.hit z1.put rfl).ev) ((Index.calls v l hl gx p _ hv (fun y w h => hcl y w ((Low.refl _).trans h))).mono fun _ _ ⟨e, k⟩ => ⟨_, e, rfl, k⟩) ?_
  rintro _ w2 ⟨rfl, h2⟩
  have ov_2 := hv.low h2
  refine l_q rfl (q_geq _ rfl (At.hit z1.put.put rfl).ev rfl rfl ?_)
  refine l_q rfl (q_assign _ _ rfl (At.hit z1.put.put.put rfl).ev ?_)
  refine l_end ?_
  refine e_fresh z1.put.put.put.put.put ?_
  intro a3 z3 m3
  have s4_3 := m3 _ _ (At.hit z1.put.put.put.put rfl)
  have low3 := h2
  clear m3
  refine e_then ?_
  refine wp_ret ?_
  refine r_tmp rfl z3.defers s4_3 ?_
  exact ⟨by rw [idxF_any], low3⟩
theorem Of.calls (v : Value) (l : List LfL) (hl : l.length ≤ 1000000) (w0 : World) (hv : RdF w0 3 v l.length (l.map encL).flatten) : Calls Try.prog 9 #[v] w0 fun e w' => ∃ x, e = .returned x ∧ OwnF w' w0.heap.size 52 3 x (l.map toR).length ((l.map toR).map encR).flatten ∧ Low w0 w' := by
  refine c_fun (R := _) Try.func9 rfl 19 rfl (Nat.le_of_ble_eq_true rfl) ?_
  intro a z hA
  have s0 := hA 0 _ rfl
  clear hA
  refine c_seq ?_
  refine c_region ?_
  refine l_q rfl (q_assign _ _ rfl rfl ?_)
  refine l_end ?_
  refine e_fresh z.put ?_
  intro a1 z1 m1
  have s0_1 := m1 _ _ (s0.ne rfl)
  clear m1
  refine e_then ?_
  refine c_seq ?_
  refine c_region ?_
  refine l_q rfl (q_assign _ _ rfl rfl ?_)
  refine l_end ?_
  refine e_fresh z1.put ?_
  intro a2 z2 m2
  have s0_2 := m2 _ _ (s0_1.ne rfl)
  have s3_2 := m2 _ _ (At.hit z1 rfl)
  clear m2
  refine e_then ?_
  refine c_seq ?_
  refine c_seq ?_
  refine c_region ?_
  refine l_q rfl (q_assign _ _ rfl rfl ?_)
  refine l_end ?_
  refine e_fresh z2.put ?_
  intro a3 z3 m3
  have s0_3 := m3 _ _ (s0_2.ne rfl)
  have s3_3 := m3 _ _ (s3_2.ne rfl)
  have s4_3 := m3 _ _ (At.hit z2 rfl)
  clear m3
  refine e_then ?_
  refine wp_block ?_
  refine c_loop l.length (fun k a w => ∃ v3 : Value, Fr 19 a ∧ At a 0 (v) ∧ At a 3 (v3) ∧ At a 4 (.int .i64 ((k : Nat) : Int)) ∧ OwnF w w0.heap.size 52 3 v3 ((l.take k).map toR).length ((((l.take k).map toR).map encR).flatten) ∧ Low w0 w) ?_ ?_ ?_
  · exact ⟨.slice none 0 0, z3, s0_3, s3_3, s4_3, (OwnF.nil _ _ _ _), (Low.refl _)⟩
  · intro k a4 w4 hk4 h
    obtain ⟨v3_4, z4, s0_4, s3_4, s4_4, ox3_4, low4⟩ := h
    clear s0_3 s3_3 s4_3 z3
    have hlen : ((l.take k).map toR).length ≤ 1000000 := by rw [List.length_map, List.length_take]; omega
    refine c_seq ?_
    refine c_seq ?_
    refine c_region ?_
    refine l_q rfl (q_move _ _ rfl s4_4.ev ?_)
    refine l_q rfl (q_move _ _ rfl (s0_4.ne rfl).ev ?_)
    refine l_q rfl (q_lenF rfl rfl Try.underlying22 (At.hit z4.put rfl).ev (hv.low low4) ?_)
    refine l_q rfl (q_lss true rfl (((At.hit z4 rfl).ne rfl).ne rfl).ev (At.hit z4.put.put rfl).ev (decide_eq_true (by omega)) ?_)
    refine l_end ?_
    refine e_fresh z4.put.put.put.put ?_
    intro a5 z5 m5
    have s0_5 := m5 _ _ ((((s0_4.ne rfl).ne rfl).ne rfl).ne rfl)
    have s3_5 := m5 _ _ ((((s3_4.ne rfl).ne rfl).ne rfl).ne rfl)
    have s4_5 := m5 _ _ ((((s4_4.ne rfl).ne rfl).ne rfl).ne rfl)
    have s8_5 := m5 _ _ (At.hit z4.put.put.put rfl)
    clear m5
    refine e_then ?_
    refine c_true s8_5 ?_
    refine wp_skip ?_
    refine e_then ?_
    refine c_seq ?_
    refine wp_block ?_
    refine c_region ?_
    refine l_q rfl (q_move _ _ rfl s3_5.ev ?_)
    refine l_q rfl (q_move _ _ rfl (s0_5.ne rfl).ev ?_)
    refine l_q rfl (q_move _ _ rfl ((s4_5.ne rfl).ne rfl).ev ?_)
    refine l_q rfl (q_idxF (j := k) rfl Try.underlying22 sz37 ((At.hit z5.put rfl).ne rfl).ev (hv.low low4) (At.hit z5.put.put rfl).ev (by omega) ?_)
    refine l_q rfl (q_ldR (vs := [.string ((l.getD k zL).f0), .int .i64 ((l.getD k zL).f1), .string ((l.getD k zL).f2)]) rfl Try.underlying37 rfl sz37 (At.hit z5.put.put.put rfl).ev (fun _ e => by rw [e]; exact (hv.low low4)) (by omega) rfl (flat_part encL_len zL _ k (by omega)) ?_)
    refine l_buildF (vs := [.string ((l.getD k zL).f0), .int .i64 ((l.getD k zL).f1), .string ((l.getD k zL).f2)]) rfl rfl Try.underlying28 rec52 (At.hit z5.put.put.put.put rfl).ev rfl rfl (by decide) (by decide) ?_
    intro g16_6 w6 hg6 k6 h6
    have onx3_g16_6 : ∀ k, Value.ownBlock v3_4 = some k → k < g16_6 := fun k hk => Nat.lt_of_lt_of_le (OwnF.own_lt ox3_4 hk) hg6
    have geg16_6 := Nat.le_trans low4.ge hg6
    have ox3_6 := ox3_4.low h6
    have ov_6 := (hv.low low4).low h6
    refine l_appF (B := w0.heap.size) rfl rfl Try.underlying28 rec52 ((((((At.hit z5 rfl).ne rfl).ne rfl).ne rfl).ne rfl).ne rfl).ev (At.hit z5.put.put.put.put.put rfl).ev k6 rfl (by decide) rfl ox3_6 (low4.trans h6).ge (by omega) ?_
    intro v7 w7 o7 gr7
    have lw7 := (low4.trans h6).grw gr7
    replace o7 := o7.cast (show _ = (((l.take k).map toR) ++ [toR (l.getD k zL)]).length by rw [List.length_append]; rfl) (flat_snoc (enc := encR) ((l.take k).map toR) (toR (l.getD k zL)))
    refine l_q rfl (q_assign _ _ rfl (At.hit z5.put.put.put.put.put.put rfl).ev ?_)
    refine l_end ?_
    refine e_fresh z5.put.put.put.put.put.put.put.put ?_
    intro a8 z8 m8
    have s0_8 := m8 _ _ ((((((((s0_5.ne rfl).ne rfl).ne rfl).ne rfl).ne rfl).ne rfl).ne rfl).ne rfl)
    have s3_8 := m8 _ _ (At.hit z5.put.put.put.put.put.put.put rfl)
    have s4_8 := m8 _ _ ((((((((s4_5.ne rfl).ne rfl).ne rfl).ne rfl).ne rfl).ne rfl).ne rfl).ne rfl)
    have low8 := lw7
    clear m8
    refine e_in ?_
    refine e_then ?_
    refine c_region ?_
    refine l_q rfl (q_move _ _ rfl s4_8.ev ?_)
    refine l_q rfl (q_add (((k + 1 : Nat) : Int)) rfl (At.hit z8 rfl).ev rfl (i64_is (by omega) (by omega) (by omega)) ?_)
    refine l_q rfl (q_assign _ _ rfl (At.hit z8.put rfl).ev ?_)
    refine l_end ?_
    refine e_fresh z8.put.put.put ?_
    intro a9 z9 m9
    have s0_9 := m9 _ _ (((s0_8.ne rfl).ne rfl).ne rfl)
    have s3_9 := m9 _ _ (((s3_8.ne rfl).ne rfl).ne rfl)
    have s4_9 := m9 _ _ (At.hit z8.put.put rfl)
    clear m9
    have c10 := OwnF.castL o7 (show ((l.take k).map toR) ++ [toR (l.getD k zL)] = (l.take (k + 1)).map toR from ofN_next l k (by omega))
    exact ⟨v7, z9, s0_9, s3_9, s4_9, c10, low8⟩
  · intro a11 w11 h
    obtain ⟨v3_11, z11, s0_11, s3_11, s4_11, ox3_11, low11⟩ := h
    clear s0_3 s3_3 s4_3 z3
    refine c_seq ?_
    refine c_seq ?_
    refine c_region ?_
    refine l_q rfl (q_move _ _ rfl s4_11.ev ?_)
    refine l_q rfl (q_move _ _ rfl (s0_11.ne rfl).ev ?_)
    refine l_q rfl (q_lenF rfl rfl Try.underlying22 (At.hit z11.put rfl).ev (hv.low low11) ?_)
    refine l_q rfl (q_lss false rfl (((At.hit z11 rfl).ne rfl).ne rfl).ev (At.hit z11.put.put rfl).ev (decide_eq_false (by omega)) ?_)
    refine l_end ?_
    refine e_fresh z11.put.put.put.put ?_
    intro a12 z12 m12
    have s0_12 := m12 _ _ ((((s0_11.ne rfl).ne rfl).ne rfl).ne rfl)
    have s3_12 := m12 _ _ ((((s3_11.ne rfl).ne rfl).ne rfl).ne rfl)
    have s4_12 := m12 _ _ ((((s4_11.ne rfl).ne rfl).ne rfl).ne rfl)
    have s8_12 := m12 _ _ (At.hit z11.put.put.put rfl)
    clear m12
    refine e_then ?_
    refine c_false s8_12 ?_
    refine wp_exit ?_
    refine x_then ?_
    refine x_then ?_
    refine in_exit ?_
    refine e_then ?_
    refine c_seq ?_
    refine c_region ?_
    refine l_q rfl (q_move _ _ rfl s3_12.ev ?_)
    refine l_q rfl (q_assign _ _ rfl (At.hit z12 rfl).ev ?_)
    refine l_end ?_
    refine e_fresh z12.put.put ?_
    intro a13 z13 m13
    have s2_13 := m13 _ _ (At.hit z12.put rfl)
    clear m13
    refine e_then ?_
    refine wp_ret ?_
    refine r_tmp rfl z13.defers s2_13 ?_
    rw [List.take_length] at ox3_11; exact ⟨_, rfl, ox3_11, low11⟩
theorem Find.calls (v : Value) (l : List LfR) (hl : l.length ≤ 1000000) (p : ByteArray) (w0 : World) (hv : RdF w0 3 v l.length (l.map encR).flatten) : Calls Try.prog 23 #[v, .string p] w0 fun e w' => e = .returned (.agg #[.string (findR l p).f0, .int .i64 (findR l p).f1, .string (findR l p).f2]) ∧ Low w0 w' := by
  refine c_fun (R := _) Try.func23 rfl 24 rfl (Nat.le_of_ble_eq_true rfl) ?_
  intro a z hA
  have s0 := hA 0 _ rfl
  have s1 := hA 1 _ rfl
  clear hA
  refine c_seq ?_
  refine c_region ?_
  refine l_alloc rfl rfl zero52 ?_
  intro g4 w1 hg1 k1 h1
  have geg4 := Nat.le_trans (Low.refl _).ge hg1
  have ov_1 := hv.low h1
  refine l_end ?_
  refine e_fresh z.put ?_
  intro a2 z2 m2
  have s0_2 := m2 _ _ (s0.ne rfl)
  have s1_2 := m2 _ _ (s1.ne rfl)
  have s4_2 := m2 _ _ (At.hit z rfl)
  have low2 := h1
  clear m2
  refine e_then ?_
  refine c_seq ?_
  refine c_seq ?_
  refine c_region ?_
  refine l_q rfl (q_assign _ _ rfl rfl ?_)
  refine l_end ?_
  refine e_fresh z2.put ?_
  intro a3 z3 m3
  have s0_3 := m3 _ _ (s0_2.ne rfl)
  have s1_3 := m3 _ _ (s1_2.ne rfl)
  have s4_3 := m3 _ _ (s4_2.ne rfl)
  have s5_3 := m3 _ _ (At.hit z2 rfl)
  clear m3
  refine e_then ?_
  refine wp_block ?_
  refine c_loop (idxR l p) (fun k a w => Fr 24 a ∧ At a 0 (v) ∧ At a 1 (.string p) ∧ At a 4 (.pointer (some ⟨g4, 0, none⟩)) ∧ At a 5 (.int .i64 ((k : Nat) : Int)) ∧ w.heap[g4]? = some (.cells (#[.string zR.f0, .int .i64 zR.f1, .string zR.f2]) 52) ∧ Low w0 w) ?_ ?_ ?_
  · exact ⟨z3, s0_3, s1_3, s4_3, s5_3, k1, low2⟩
  · intro k a4 w4 hk4 h
    obtain ⟨z4, s0_4, s1_4, s4_4, s5_4, kg4_4, low4⟩ := h
    clear k1 low2 s0_3 s1_3 s4_3 s5_3 z3
    have hle := idxR_le l p
    refine c_seq ?_
    refine c_seq ?_
    refine c_region ?_
    refine l_q rfl (q_move _ _ rfl s5_4.ev ?_)
    refine l_q rfl (q_move _ _ rfl (s0_4.ne rfl).ev ?_)
    refine l_q rfl (q_lenF rfl rfl Try.underlying28 (At.hit z4.put rfl).ev (hv.low low4) ?_)
    refine l_q rfl (q_lss true rfl (((At.hit z4 rfl).ne rfl).ne rfl).ev (At.hit z4.put.put rfl).ev (decide_eq_true (by omega)) ?_)
    refine l_end ?_
    refine e_fresh z4.put.put.put.put ?_
    intro a5 z5 m5
    have s0_5 := m5 _ _ ((((s0_4.ne rfl).ne rfl).ne rfl).ne rfl)
    have s1_5 := m5 _ _ ((((s1_4.ne rfl).ne rfl).ne rfl).ne rfl)
    have s4_5 := m5 _ _ ((((s4_4.ne rfl).ne rfl).ne rfl).ne rfl)
    have s5_5 := m5 _ _ ((((s5_4.ne rfl).ne rfl).ne rfl).ne rfl)
    have s9_5 := m5 _ _ (At.hit z4.put.put.put rfl)
    clear m5
    refine e_then ?_
    refine c_true s9_5 ?_
    refine wp_skip ?_
    refine e_then ?_
    refine c_seq ?_
    refine wp_block ?_
    refine c_seq ?_
    refine c_region ?_
    refine l_q rfl (q_move _ _ rfl s0_5.ev ?_)
    refine l_q rfl (q_move _ _ rfl (s5_5.ne rfl).ev ?_)
    refine l_q rfl (q_idxF (j := k) rfl Try.underlying28 sz52 ((At.hit z5 rfl).ne rfl).ev (hv.low low4) (At.hit z5.put rfl).ev (by omega) ?_)
    refine l_q rfl (q_fldF 0 rfl fld52_0 (At.hit z5.put.put rfl).ev ((hv.low low4).form (by omega)) ?_)
    refine l_q rfl (q_ld1 (u := .string ((l.getD k zR).f0)) rfl Try.underlying9 rfl (At.hit z5.put.put.put rfl).ev (fun _ e => by rw [e]; exact (hv.low low4)) (by omega) ((flat_at encR_len zR _ k 0 (by omega) (by decide)).trans rfl) ?_)
    refine l_q rfl (q_move _ _ rfl (((((s1_5.ne rfl).ne rfl).ne rfl).ne rfl).ne rfl).ev ?_)
    refine l_q rfl (q_streq false rfl ((At.hit z5.put.put.put.put rfl).ne rfl).ev (At.hit z5.put.put.put.put.put rfl).ev (strF (idxR_round (by assumption))) ?_)
    refine l_end ?_
    refine e_fresh z5.put.put.put.put.put.put.put ?_
    intro a6 z6 m6
    have s0_6 := m6 _ _ (((((((s0_5.ne rfl).ne rfl).ne rfl).ne rfl).ne rfl).ne rfl).ne rfl)
    have s1_6 := m6 _ _ (((((((s1_5.ne rfl).ne rfl).ne rfl).ne rfl).ne rfl).ne rfl).ne rfl)
    have s4_6 := m6 _ _ (((((((s4_5.ne rfl).ne rfl).ne rfl).ne rfl).ne rfl).ne rfl).ne rfl)
    have s5_6 := m6 _ _ (((((((s5_5.ne rfl).ne rfl).ne rfl).ne rfl).ne rfl).ne rfl).ne rfl)
    have s18_6 := m6 _ _ (At.hit z5.put.put.put.put.put.put rfl)
    clear m6
    refine e_then ?_
    refine c_false s18_6 ?_
    refine wp_skip ?_
    refine e_in ?_
    refine e_then ?_
    refine c_region ?_
    refine l_q rfl (q_move _ _ rfl s5_6.ev ?_)
    refine l_q rfl (q_add (((k + 1 : Nat) : Int)) rfl (At.hit z6 rfl).ev rfl (i64_is (by omega) (by omega) (by omega)) ?_)
    refine l_q rfl (q_assign _ _ rfl (At.hit z6.put rfl).ev ?_)
    refine l_end ?_
    refine e_fresh z6.put.put.put ?_
    intro a7 z7 m7
    have s0_7 := m7 _ _ (((s0_6.ne rfl).ne rfl).ne rfl)
    have s1_7 := m7 _ _ (((s1_6.ne rfl).ne rfl).ne rfl)
    have s4_7 := m7 _ _ (((s4_6.ne rfl).ne rfl).ne rfl)
    have s5_7 := m7 _ _ (At.hit z6.put.put rfl)
    clear m7
    exact ⟨z7, s0_7, s1_7, s4_7, s5_7, kg4_4, low4⟩
  · intro a8 w8 h
    obtain ⟨z8, s0_8, s1_8, s4_8, s5_8, kg4_8, low8⟩ := h
    clear k1 low2 s0_3 s1_3 s4_3 s5_3 z3
    have hle := idxR_le l p
    refine c_seq ?_
    refine c_seq ?_
    by_cases hb9 : idxR l p < l.length
    · skip
      refine c_region ?_
      refine l_q rfl (q_move _ _ rfl s5_8.ev ?_)
      refine l_q rfl (q_move _ _ rfl (s0_8.ne rfl).ev ?_)
      refine l_q rfl (q_lenF rfl rfl Try.underlying28 (At.hit z8.put rfl).ev (hv.low low8) ?_)
      refine l_q rfl (q_lss true rfl (((At.hit z8 rfl).ne rfl).ne rfl).ev (At.hit z8.put.put rfl).ev (decide_eq_true (by omega)) ?_)
      refine l_end ?_
      refine e_fresh z8.put.put.put.put ?_
      intro a10 z10 m10
      have s0_10 := m10 _ _ ((((s0_8.ne rfl).ne rfl).ne rfl).ne rfl)
      have s1_10 := m10 _ _ ((((s1_8.ne rfl).ne rfl).ne rfl).ne rfl)
      have s4_10 := m10 _ _ ((((s4_8.ne rfl).ne rfl).ne rfl).ne rfl)
      have s5_10 := m10 _ _ ((((s5_8.ne rfl).ne rfl).ne rfl).ne rfl)
      have s9_10 := m10 _ _ (At.hit z8.put.put.put rfl)
      clear m10
      refine e_then ?_
      refine c_true s9_10 ?_
      refine wp_skip ?_
      refine e_then ?_
      refine c_seq ?_
      refine wp_block ?_
      refine c_seq ?_
      refine c_region ?_
      refine l_q rfl (q_move _ _ rfl s0_10.ev ?_)
      refine l_q rfl (q_move _ _ rfl (s5_10.ne rfl).ev ?_)
      refine l_q rfl (q_idxF (j := (idxR l p)) rfl Try.underlying28 sz52 ((At.hit z10 rfl).ne rfl).ev (hv.low low8) (At.hit z10.put rfl).ev (by omega) ?_)
      refine l_q rfl (q_fldF 0 rfl fld52_0 (At.hit z10.put.put rfl).ev ((hv.low low8).form (by omega)) ?_)
      refine l_q rfl (q_ld1 (u := .string ((l.getD (idxR l p) zR).f0)) rfl Try.underlying9 rfl (At.hit z10.put.put.put rfl).ev (fun _ e => by rw [e]; exact (hv.low low8)) (by omega) ((flat_at encR_len zR _ (idxR l p) 0 (by omega) (by decide)).trans rfl) ?_)
      refine l_q rfl (q_move _ _ rfl (((((s1_10.ne rfl).ne rfl).ne rfl).ne rfl).ne rfl).ev ?_)
      refine l_q rfl (q_streq true rfl ((At.hit z10.put.put.put.put rfl).ne rfl).ev (At.hit z10.put.put.put.put.put rfl).ev (strT (idxR_stop (by assumption))) ?_)
      refine l_end ?_
      refine e_fresh z10.put.put.put.put.put.put.put ?_
      intro a11 z11 m11
      have s0_11 := m11 _ _ (((((((s0_10.ne rfl).ne rfl).ne rfl).ne rfl).ne rfl).ne rfl).ne rfl)
      have s4_11 := m11 _ _ (((((((s4_10.ne rfl).ne rfl).ne rfl).ne rfl).ne rfl).ne rfl).ne rfl)
      have s5_11 := m11 _ _ (((((((s5_10.ne rfl).ne rfl).ne rfl).ne rfl).ne rfl).ne rfl).ne rfl)
      have s18_11 := m11 _ _ (At.hit z10.put.put.put.put.put.put rfl)
      clear m11
      refine e_then ?_
      refine c_true s18_11 ?_
      refine c_seq ?_
      refine c_region ?_
      refine l_q rfl (q_move _ _ rfl s0_11.ev ?_)
      refine l_q rfl (q_move _ _ rfl (s5_11.ne rfl).ev ?_)
      refine l_q rfl (q_idxF (j := (idxR l p)) rfl Try.underlying28 sz52 ((At.hit z11 rfl).ne rfl).ev (hv.low low8) (At.hit z11.put rfl).ev (by omega) ?_)
      refine l_q rfl (q_ldR (vs := [.string ((l.getD (idxR l p) zR).f0), .int .i64 ((l.getD (idxR l p) zR).f1), .string ((l.getD (idxR l p) zR).f2)]) rfl Try.underlying52 rfl sz52 (At.hit z11.put.put rfl).ev (fun _ e => by rw [e]; exact (hv.low low8)) (by omega) rfl (flat_part encR_len zR _ (idxR l p) (by omega)) ?_)
      refine l_row rfl rfl rfl (sz52.trans (congrArg some rfl.symm)) ((((s4_11.ne rfl).ne rfl).ne rfl).ne rfl).ev (At.hit z11.put.put.put rfl).ev (by simp [Value.oneCell']) kg4_8 (rfl.trans rfl.symm) ?_
      intro w12 k12 u12
      refine l_end ?_
      refine e_fresh z11.put.put.put.put ?_
      intro a13 z13 m13
      have s4_13 := m13 _ _ ((((s4_11.ne rfl).ne rfl).ne rfl).ne rfl)
      have low13 := (low8.upd u12 geg4)
      clear m13
      refine e_then ?_
      refine wp_ret ?_
      refine ret_in ?_
      refine ret_then ?_
      refine ret_then ?_
      refine ret_in ?_
      refine ret_then ?_
      refine r_cell rfl z13.defers s4_13 k12 Try.underlying52 rfl (sz52.trans (congrArg some rfl.symm)) ?_
      exact ⟨rfl, low13⟩
    · skip
      refine c_region ?_
      refine l_q rfl (q_move _ _ rfl s5_8.ev ?_)
      refine l_q rfl (q_move _ _ rfl (s0_8.ne rfl).ev ?_)
      refine l_q rfl (q_lenF rfl rfl Try.underlying28 (At.hit z8.put rfl).ev (hv.low low8) ?_)
      refine l_q rfl (q_lss false rfl (((At.hit z8 rfl).ne rfl).ne rfl).ev (At.hit z8.put.put rfl).ev (decide_eq_false (by omega)) ?_)
      refine l_end ?_
      refine e_fresh z8.put.put.put.put ?_
      intro a14 z14 m14
      have s0_14 := m14 _ _ ((((s0_8.ne rfl).ne rfl).ne rfl).ne rfl)
      have s1_14 := m14 _ _ ((((s1_8.ne rfl).ne rfl).ne rfl).ne rfl)
      have s4_14 := m14 _ _ ((((s4_8.ne rfl).ne rfl).ne rfl).ne rfl)
      have s5_14 := m14 _ _ ((((s5_8.ne rfl).ne rfl).ne rfl).ne rfl)
      have s9_14 := m14 _ _ (At.hit z8.put.put.put rfl)
      clear m14
      refine e_then ?_
      refine c_false s9_14 ?_
      refine wp_exit ?_
      refine x_then ?_
      refine x_then ?_
      refine in_exit ?_
      refine e_then ?_
      refine c_seq ?_
      refine c_region ?_
      refine l_q rfl (q_build (cs := #[.string zR.f0, .int .i64 zR.f1, .string zR.f2]) rfl rfl (by kernel_rfl) ?_)
      refine l_row rfl rfl rfl (sz52.trans (congrArg some rfl.symm)) (s4_14.ne rfl).ev (At.hit z14 rfl).ev (by simp [Value.oneCell']) kg4_8 (rfl.trans rfl.symm) ?_
      intro w15 k15 u15
      refine l_end ?_
      refine e_fresh z14.put ?_
      intro a16 z16 m16
      have s4_16 := m16 _ _ (s4_14.ne rfl)
      have low16 := (low8.upd u15 geg4)
      clear m16
      refine e_then ?_
      refine wp_ret ?_
      refine r_cell rfl z16.defers s4_16 k15 Try.underlying52 rfl (sz52.trans (congrArg some rfl.symm)) ?_
      exact ⟨by rw [findR_none hb9], low16⟩
def within (s d : ByteArray) : Bool := if h : d.size < s.size then decide (s.extract 0 d.size = d) && decide (((s[d.size]'(by omega)).toNat : Int) = 47) else false
theorem Within.calls (s d : ByteArray) (w0 : World) : Calls Try.prog 14 #[.string s, .string d] w0 fun e w' => e = .returned (.bool (within s d)) ∧ Low w0 w' := by
  refine c_fun (R := _) Try.func14 rfl 25 rfl (Nat.le_of_ble_eq_true rfl) ?_
  intro a z hA
  have s0 := hA 0 _ rfl
  have s1 := hA 1 _ rfl
  clear hA
  refine c_seq ?_
  refine c_region ?_
  refine l_q rfl (q_assign _ _ rfl rfl ?_)
  refine l_end ?_
  refine e_fresh z.put ?_
  intro a1 z1 m1
  have s0_1 := m1 _ _ (s0.ne rfl)
  have s1_1 := m1 _ _ (s1.ne rfl)
  clear m1
  refine e_then ?_
  refine c_seq ?_
  by_cases hb2 : d.size < s.size
  · skip
    by_cases hb3 : s.extract 0 d.size = d
    · skip
      by_cases hb4 : ((s[d.size]'(by omega)).toNat : Int) = 47
      · skip
        refine c_region ?_
        refine l_q rfl (q_move _ _ rfl s0_1.ev ?_)
        refine l_q rfl (q_len rfl rfl Try.underlying9 (At.hit z1 rfl).ev ?_)
        refine l_q rfl (q_move _ _ rfl ((s1_1.ne rfl).ne rfl).ev ?_)
        refine l_q rfl (q_len rfl rfl Try.underlying9 (At.hit z1.put.put rfl).ev ?_)
        refine l_q rfl (q_gtr true rfl (((At.hit z1.put rfl).ne rfl).ne rfl).ev (At.hit z1.put.put.put rfl).ev (decide_eq_true (by omega)) ?_)
        refine l_q rfl (q_move _ _ rfl (At.hit z1.put.put.put.put rfl).ev ?_)
        refine l_qg (wanted_is (j := 5) (d := 10) (b := true) rfl rfl (At.hit z1.put.put.put.put.put rfl) rfl) (q_move _ _ rfl ((((((s0_1.ne rfl).ne rfl).ne rfl).ne rfl).ne rfl).ne rfl).ev ?_)
        refine l_qg (wanted_is (j := 5) (d := 10) (b := true) rfl rfl ((At.hit z1.put.put.put.put.put rfl).ne rfl) rfl) (q_move _ _ rfl (((((((s1_1.ne rfl).ne rfl).ne rfl).ne rfl).ne rfl).ne rfl).ne rfl).ev ?_)
        refine l_fresh z1.put.put.put.put.put.put.put.put ?_
        intro a5 z5 m5
        have s0_5 := m5 _ _ ((((((((s0_1.ne rfl).ne rfl).ne rfl).ne rfl).ne rfl).ne rfl).ne rfl).ne rfl)
        have s1_5 := m5 _ _ ((((((((s1_1.ne rfl).ne rfl).ne rfl).ne rfl).ne rfl).ne rfl).ne rfl).ne rfl)
        have s10_5 := m5 _ _ (((At.hit z1.put.put.put.put.put rfl).ne rfl).ne rfl)
        have s11_5 := m5 _ _ ((At.hit z1.put.put.put.put.put.put rfl).ne rfl)
        have s12_5 := m5 _ _ (At.hit z1.put.put.put.put.put.put.put rfl)
        clear m5
        refine l_qg (wanted_is (j := 5) (d := 10) (b := true) rfl rfl s10_5 rfl) (q_len rfl rfl Try.underlying9 s12_5.ev ?_)
        refine l_qg (wanted_is (j := 5) (d := 10) (b := true) rfl rfl (s10_5.ne rfl) rfl) (q_cuthi (k := d.size) rfl Try.underlying9 (s11_5.ne rfl).ev (At.hit z5 rfl).ev (by omega) ?_)
        refine l_qg (wanted_is (j := 5) (d := 10) (b := true) rfl rfl ((s10_5.ne rfl).ne rfl) rfl) (q_move _ _ rfl ((s1_5.ne rfl).ne rfl).ev ?_)
        refine l_qg (wanted_is (j := 5) (d := 10) (b := true) rfl rfl (((s10_5.ne rfl).ne rfl).ne rfl) rfl) (q_streq true rfl ((At.hit z5.put rfl).ne rfl).ev (At.hit z5.put.put rfl).ev (strT hb3) ?_)
        refine l_q rfl (q_pick (b := true) (.bool true) rfl ((((s10_5.ne rfl).ne rfl).ne rfl).ne rfl).ev (At.hit z5.put.put.put rfl).ev ?_)
        refine l_q rfl (q_move _ _ rfl (At.hit z5.put.put.put.put rfl).ev ?_)
        refine l_qg (wanted_is (j := 13) (d := 18) (b := true) rfl rfl (At.hit z5.put.put.put.put.put rfl) rfl) (q_move _ _ rfl ((((((s0_5.ne rfl).ne rfl).ne rfl).ne rfl).ne rfl).ne rfl).ev ?_)
        refine l_qg (wanted_is (j := 13) (d := 18) (b := true) rfl rfl ((At.hit z5.put.put.put.put.put rfl).ne rfl) rfl) (q_move _ _ rfl (((((((s1_5.ne rfl).ne rfl).ne rfl).ne rfl).ne rfl).ne rfl).ne rfl).ev ?_)
        refine l_fresh z5.put.put.put.put.put.put.put.put ?_
        intro a6 z6 m6
        have s18_6 := m6 _ _ (((At.hit z5.put.put.put.put.put rfl).ne rfl).ne rfl)
        have s19_6 := m6 _ _ ((At.hit z5.put.put.put.put.put.put rfl).ne rfl)
        have s20_6 := m6 _ _ (At.hit z5.put.put.put.put.put.put.put rfl)
        clear m6
        refine l_qg (wanted_is (j := 13) (d := 18) (b := true) rfl rfl s18_6 rfl) (q_len rfl rfl Try.underlying9 s20_6.ev ?_)
        refine l_qg (wanted_is (j := 13) (d := 18) (b := true) rfl rfl (s18_6.ne rfl) rfl) (q_stridx (j := d.size) rfl Try.underlying9 (s19_6.ne rfl).ev (At.hit z6 rfl).ev (by omega) ?_)
        refine l_qg (wanted_is (j := 13) (d := 18) (b := true) rfl rfl ((s18_6.ne rfl).ne rfl) rfl) (q_eql true rfl (At.hit z6.put rfl).ev rfl (decide_eq_true hb4) ?_)
        refine l_q rfl (q_pick (b := true) (.bool true) rfl (((s18_6.ne rfl).ne rfl).ne rfl).ev (At.hit z6.put.put rfl).ev ?_)
        refine l_q rfl (q_assign _ _ rfl (At.hit z6.put.put.put rfl).ev ?_)
        refine l_end ?_
        refine e_fresh z6.put.put.put.put.put ?_
        intro a7 z7 m7
        have s4_7 := m7 _ _ (At.hit z6.put.put.put.put rfl)
        clear m7
        refine e_then ?_
        refine wp_ret ?_
        refine r_tmp rfl z7.defers s4_7 ?_
        exact ⟨by unfold within; simp [hb2, hb3, hb4], (Low.refl _)⟩
      · skip
        refine c_region ?_
        refine l_q rfl (q_move _ _ rfl s0_1.ev ?_)
        refine l_q rfl (q_len rfl rfl Try.underlying9 (At.hit z1 rfl).ev ?_)
        refine l_q rfl (q_move _ _ rfl ((s1_1.ne rfl).ne rfl).ev ?_)
        refine l_q rfl (q_len rfl rfl Try.underlying9 (At.hit z1.put.put rfl).ev ?_)
        refine l_q rfl (q_gtr true rfl (((At.hit z1.put rfl).ne rfl).ne rfl).ev (At.hit z1.put.put.put rfl).ev (decide_eq_true (by omega)) ?_)
        refine l_q rfl (q_move _ _ rfl (At.hit z1.put.put.put.put rfl).ev ?_)
        refine l_qg (wanted_is (j := 5) (d := 10) (b := true) rfl rfl (At.hit z1.put.put.put.put.put rfl) rfl) (q_move _ _ rfl ((((((s0_1.ne rfl).ne rfl).ne rfl).ne rfl).ne rfl).ne rfl).ev ?_)
        refine l_qg (wanted_is (j := 5) (d := 10) (b := true) rfl rfl ((At.hit z1.put.put.put.put.put rfl).ne rfl) rfl) (q_move _ _ rfl (((((((s1_1.ne rfl).ne rfl).ne rfl).ne rfl).ne rfl).ne rfl).ne rfl).ev ?_)
        refine l_fresh z1.put.put.put.put.put.put.put.put ?_
        intro a8 z8 m8
        have s0_8 := m8 _ _ ((((((((s0_1.ne rfl).ne rfl).ne rfl).ne rfl).ne rfl).ne rfl).ne rfl).ne rfl)
        have s1_8 := m8 _ _ ((((((((s1_1.ne rfl).ne rfl).ne rfl).ne rfl).ne rfl).ne rfl).ne rfl).ne rfl)
        have s10_8 := m8 _ _ (((At.hit z1.put.put.put.put.put rfl).ne rfl).ne rfl)
        have s11_8 := m8 _ _ ((At.hit z1.put.put.put.put.put.put rfl).ne rfl)
        have s12_8 := m8 _ _ (At.hit z1.put.put.put.put.put.put.put rfl)
        clear m8
        refine l_qg (wanted_is (j := 5) (d := 10) (b := true) rfl rfl s10_8 rfl) (q_len rfl rfl Try.underlying9 s12_8.ev ?_)
        refine l_qg (wanted_is (j := 5) (d := 10) (b := true) rfl rfl (s10_8.ne rfl) rfl) (q_cuthi (k := d.size) rfl Try.underlying9 (s11_8.ne rfl).ev (At.hit z8 rfl).ev (by omega) ?_)
        refine l_qg (wanted_is (j := 5) (d := 10) (b := true) rfl rfl ((s10_8.ne rfl).ne rfl) rfl) (q_move _ _ rfl ((s1_8.ne rfl).ne rfl).ev ?_)
        refine l_qg (wanted_is (j := 5) (d := 10) (b := true) rfl rfl (((s10_8.ne rfl).ne rfl).ne rfl) rfl) (q_streq true rfl ((At.hit z8.put rfl).ne rfl).ev (At.hit z8.put.put rfl).ev (strT hb3) ?_)
        refine l_q rfl (q_pick (b := true) (.bool true) rfl ((((s10_8.ne rfl).ne rfl).ne rfl).ne rfl).ev (At.hit z8.put.put.put rfl).ev ?_)
        refine l_q rfl (q_move _ _ rfl (At.hit z8.put.put.put.put rfl).ev ?_)
        refine l_qg (wanted_is (j := 13) (d := 18) (b := true) rfl rfl (At.hit z8.put.put.put.put.put rfl) rfl) (q_move _ _ rfl ((((((s0_8.ne rfl).ne rfl).ne rfl).ne rfl).ne rfl).ne rfl).ev ?_)
        refine l_qg (wanted_is (j := 13) (d := 18) (b := true) rfl rfl ((At.hit z8.put.put.put.put.put rfl).ne rfl) rfl) (q_move _ _ rfl (((((((s1_8.ne rfl).ne rfl).ne rfl).ne rfl).ne rfl).ne rfl).ne rfl).ev ?_)
        refine l_fresh z8.put.put.put.put.put.put.put.put ?_
        intro a9 z9 m9
        have s18_9 := m9 _ _ (((At.hit z8.put.put.put.put.put rfl).ne rfl).ne rfl)
        have s19_9 := m9 _ _ ((At.hit z8.put.put.put.put.put.put rfl).ne rfl)
        have s20_9 := m9 _ _ (At.hit z8.put.put.put.put.put.put.put rfl)
        clear m9
        refine l_qg (wanted_is (j := 13) (d := 18) (b := true) rfl rfl s18_9 rfl) (q_len rfl rfl Try.underlying9 s20_9.ev ?_)
        refine l_qg (wanted_is (j := 13) (d := 18) (b := true) rfl rfl (s18_9.ne rfl) rfl) (q_stridx (j := d.size) rfl Try.underlying9 (s19_9.ne rfl).ev (At.hit z9 rfl).ev (by omega) ?_)
        refine l_qg (wanted_is (j := 13) (d := 18) (b := true) rfl rfl ((s18_9.ne rfl).ne rfl) rfl) (q_eql false rfl (At.hit z9.put rfl).ev rfl (decide_eq_false hb4) ?_)
        refine l_q rfl (q_pick (b := true) (.bool false) rfl (((s18_9.ne rfl).ne rfl).ne rfl).ev (At.hit z9.put.put rfl).ev ?_)
        refine l_q rfl (q_assign _ _ rfl (At.hit z9.put.put.put rfl).ev ?_)
        refine l_end ?_
        refine e_fresh z9.put.put.put.put.put ?_
        intro a10 z10 m10
        have s4_10 := m10 _ _ (At.hit z9.put.put.put.put rfl)
        clear m10
        refine e_then ?_
        refine wp_ret ?_
        refine r_tmp rfl z10.defers s4_10 ?_
        exact ⟨by unfold within; simp [hb2, hb3, hb4], (Low.refl _)⟩
    · skip
      refine c_region ?_
      refine l_q rfl (q_move _ _ rfl s0_1.ev ?_)
      refine l_q rfl (q_len rfl rfl Try.underlying9 (At.hit z1 rfl).ev ?_)
      refine l_q rfl (q_move _ _ rfl ((s1_1.ne rfl).ne rfl).ev ?_)
      refine l_q rfl (q_len rfl rfl Try.underlying9 (At.hit z1.put.put rfl).ev ?_)
      refine l_q rfl (q_gtr true rfl (((At.hit z1.put rfl).ne rfl).ne rfl).ev (At.hit z1.put.put.put rfl).ev (decide_eq_true (by omega)) ?_)
      refine l_q rfl (q_move _ _ rfl (At.hit z1.put.put.put.put rfl).ev ?_)
      refine l_qg (wanted_is (j := 5) (d := 10) (b := true) rfl rfl (At.hit z1.put.put.put.put.put rfl) rfl) (q_move _ _ rfl ((((((s0_1.ne rfl).ne rfl).ne rfl).ne rfl).ne rfl).ne rfl).ev ?_)
      refine l_qg (wanted_is (j := 5) (d := 10) (b := true) rfl rfl ((At.hit z1.put.put.put.put.put rfl).ne rfl) rfl) (q_move _ _ rfl (((((((s1_1.ne rfl).ne rfl).ne rfl).ne rfl).ne rfl).ne rfl).ne rfl).ev ?_)
      refine l_fresh z1.put.put.put.put.put.put.put.put ?_
      intro a11 z11 m11
      have s0_11 := m11 _ _ ((((((((s0_1.ne rfl).ne rfl).ne rfl).ne rfl).ne rfl).ne rfl).ne rfl).ne rfl)
      have s1_11 := m11 _ _ ((((((((s1_1.ne rfl).ne rfl).ne rfl).ne rfl).ne rfl).ne rfl).ne rfl).ne rfl)
      have s10_11 := m11 _ _ (((At.hit z1.put.put.put.put.put rfl).ne rfl).ne rfl)
      have s11_11 := m11 _ _ ((At.hit z1.put.put.put.put.put.put rfl).ne rfl)
      have s12_11 := m11 _ _ (At.hit z1.put.put.put.put.put.put.put rfl)
      clear m11
      refine l_qg (wanted_is (j := 5) (d := 10) (b := true) rfl rfl s10_11 rfl) (q_len rfl rfl Try.underlying9 s12_11.ev ?_)
      refine l_qg (wanted_is (j := 5) (d := 10) (b := true) rfl rfl (s10_11.ne rfl) rfl) (q_cuthi (k := d.size) rfl Try.underlying9 (s11_11.ne rfl).ev (At.hit z11 rfl).ev (by omega) ?_)
      refine l_qg (wanted_is (j := 5) (d := 10) (b := true) rfl rfl ((s10_11.ne rfl).ne rfl) rfl) (q_move _ _ rfl ((s1_11.ne rfl).ne rfl).ev ?_)
      refine l_qg (wanted_is (j := 5) (d := 10) (b := true) rfl rfl (((s10_11.ne rfl).ne rfl).ne rfl) rfl) (q_streq false rfl ((At.hit z11.put rfl).ne rfl).ev (At.hit z11.put.put rfl).ev (strF hb3) ?_)
      refine l_q rfl (q_pick (b := true) (.bool false) rfl ((((s10_11.ne rfl).ne rfl).ne rfl).ne rfl).ev (At.hit z11.put.put.put rfl).ev ?_)
      refine l_q rfl (q_move _ _ rfl (At.hit z11.put.put.put.put rfl).ev ?_)
      refine l_skip (wanted_is (j := 13) (d := 18) (b := false) rfl rfl (At.hit z11.put.put.put.put.put rfl) rfl) ?_
      refine l_skip (wanted_is (j := 13) (d := 18) (b := false) rfl rfl ((At.hit z11.put.put.put.put.put rfl).ne rfl) rfl) ?_
      refine l_fresh z11.put.put.put.put.put.put.put.put ?_
      intro a12 z12 m12
      have s18_12 := m12 _ _ (((At.hit z11.put.put.put.put.put rfl).ne rfl).ne rfl)
      have s19_12 := m12 _ _ ((At.hit z11.put.put.put.put.put.put rfl).ne rfl)
      have s20_12 := m12 _ _ (At.hit z11.put.put.put.put.put.put.put rfl)
      clear m12
      refine l_skip (wanted_is (j := 13) (d := 18) (b := false) rfl rfl s18_12 rfl) ?_
      refine l_skip (wanted_is (j := 13) (d := 18) (b := false) rfl rfl (s18_12.ne rfl) rfl) ?_
      refine l_skip (wanted_is (j := 13) (d := 18) (b := false) rfl rfl ((s18_12.ne rfl).ne rfl) rfl) ?_
      refine l_q rfl (q_pick (b := false) (.bool false) rfl (((s18_12.ne rfl).ne rfl).ne rfl).ev rfl ?_)
      refine l_q rfl (q_assign _ _ rfl (At.hit z12.put.put.put rfl).ev ?_)
      refine l_end ?_
      refine e_fresh z12.put.put.put.put.put ?_
      intro a13 z13 m13
      have s4_13 := m13 _ _ (At.hit z12.put.put.put.put rfl)
      clear m13
      refine e_then ?_
      refine wp_ret ?_
      refine r_tmp rfl z13.defers s4_13 ?_
      exact ⟨by unfold within; simp [hb2, hb3], (Low.refl _)⟩
  · skip
    refine c_region ?_
    refine l_q rfl (q_move _ _ rfl s0_1.ev ?_)
    refine l_q rfl (q_len rfl rfl Try.underlying9 (At.hit z1 rfl).ev ?_)
    refine l_q rfl (q_move _ _ rfl ((s1_1.ne rfl).ne rfl).ev ?_)
    refine l_q rfl (q_len rfl rfl Try.underlying9 (At.hit z1.put.put rfl).ev ?_)
    refine l_q rfl (q_gtr false rfl (((At.hit z1.put rfl).ne rfl).ne rfl).ev (At.hit z1.put.put.put rfl).ev (decide_eq_false (by omega)) ?_)
    refine l_q rfl (q_move _ _ rfl (At.hit z1.put.put.put.put rfl).ev ?_)
    refine l_skip (wanted_is (j := 5) (d := 10) (b := false) rfl rfl (At.hit z1.put.put.put.put.put rfl) rfl) ?_
    refine l_skip (wanted_is (j := 5) (d := 10) (b := false) rfl rfl ((At.hit z1.put.put.put.put.put rfl).ne rfl) rfl) ?_
    refine l_fresh z1.put.put.put.put.put.put.put.put ?_
    intro a14 z14 m14
    have s0_14 := m14 _ _ ((((((((s0_1.ne rfl).ne rfl).ne rfl).ne rfl).ne rfl).ne rfl).ne rfl).ne rfl)
    have s1_14 := m14 _ _ ((((((((s1_1.ne rfl).ne rfl).ne rfl).ne rfl).ne rfl).ne rfl).ne rfl).ne rfl)
    have s10_14 := m14 _ _ (((At.hit z1.put.put.put.put.put rfl).ne rfl).ne rfl)
    have s11_14 := m14 _ _ ((At.hit z1.put.put.put.put.put.put rfl).ne rfl)
    have s12_14 := m14 _ _ (At.hit z1.put.put.put.put.put.put.put rfl)
    clear m14
    refine l_skip (wanted_is (j := 5) (d := 10) (b := false) rfl rfl s10_14 rfl) ?_
    refine l_skip (wanted_is (j := 5) (d := 10) (b := false) rfl rfl (s10_14.ne rfl) rfl) ?_
    refine l_skip (wanted_is (j := 5) (d := 10) (b := false) rfl rfl ((s10_14.ne rfl).ne rfl) rfl) ?_
    refine l_skip (wanted_is (j := 5) (d := 10) (b := false) rfl rfl (((s10_14.ne rfl).ne rfl).ne rfl) rfl) ?_
    refine l_q rfl (q_pick (b := false) (.bool false) rfl ((((s10_14.ne rfl).ne rfl).ne rfl).ne rfl).ev rfl ?_)
    refine l_q rfl (q_move _ _ rfl (At.hit z14.put.put.put.put rfl).ev ?_)
    refine l_skip (wanted_is (j := 13) (d := 18) (b := false) rfl rfl (At.hit z14.put.put.put.put.put rfl) rfl) ?_
    refine l_skip (wanted_is (j := 13) (d := 18) (b := false) rfl rfl ((At.hit z14.put.put.put.put.put rfl).ne rfl) rfl) ?_
    refine l_fresh z14.put.put.put.put.put.put.put.put ?_
    intro a15 z15 m15
    have s18_15 := m15 _ _ (((At.hit z14.put.put.put.put.put rfl).ne rfl).ne rfl)
    have s19_15 := m15 _ _ ((At.hit z14.put.put.put.put.put.put rfl).ne rfl)
    have s20_15 := m15 _ _ (At.hit z14.put.put.put.put.put.put.put rfl)
    clear m15
    refine l_skip (wanted_is (j := 13) (d := 18) (b := false) rfl rfl s18_15 rfl) ?_
    refine l_skip (wanted_is (j := 13) (d := 18) (b := false) rfl rfl (s18_15.ne rfl) rfl) ?_
    refine l_skip (wanted_is (j := 13) (d := 18) (b := false) rfl rfl ((s18_15.ne rfl).ne rfl) rfl) ?_
    refine l_q rfl (q_pick (b := false) (.bool false) rfl (((s18_15.ne rfl).ne rfl).ne rfl).ev rfl ?_)
    refine l_q rfl (q_assign _ _ rfl (At.hit z15.put.put.put rfl).ev ?_)
    refine l_end ?_
    refine e_fresh z15.put.put.put.put.put ?_
    intro a16 z16 m16
    have s4_16 := m16 _ _ (At.hit z15.put.put.put.put rfl)
    clear m16
    refine e_then ?_
    refine wp_ret ?_
    refine r_tmp rfl z16.defers s4_16 ?_
    exact ⟨by unfold within; simp [hb2], (Low.refl _)⟩
theorem Texts.calls (va vb : Value) (la lb : List ByteArray) (hl : la.length ≤ 1000000) (hl' : lb.length ≤ 1000000) (w0 : World) (hva : RdF w0 1 va la.length (la.map encS).flatten) (hvb : RdF w0 1 vb lb.length (lb.map encS).flatten) : Calls Try.prog 11 #[va, vb] w0 fun e w' => e = .returned (.bool (decide (la = lb))) ∧ Low w0 w' := by
  refine c_fun (R := _) Try.func11 rfl 26 rfl (Nat.le_of_ble_eq_true rfl) ?_
  intro a z hA
  have s0 := hA 0 _ rfl
  have s1 := hA 1 _ rfl
  clear hA
  refine c_seq ?_
  refine c_region ?_
  refine l_q rfl (q_assign _ _ rfl rfl ?_)
  refine l_end ?_
  refine e_fresh z.put ?_
  intro a1 z1 m1
  have s0_1 := m1 _ _ (s0.ne rfl)
  have s1_1 := m1 _ _ (s1.ne rfl)
  clear m1
  refine e_then ?_
  refine c_seq ?_
  refine c_seq ?_
  by_cases hb2 : la.length ≠ lb.length
  · skip
    refine c_region ?_
    refine l_q rfl (q_move _ _ rfl s0_1.ev ?_)
    refine l_q rfl (q_lenF rfl rfl Try.underlying25 (At.hit z1 rfl).ev hva ?_)
    refine l_q rfl (q_move _ _ rfl ((s1_1.ne rfl).ne rfl).ev ?_)
    refine l_q rfl (q_lenF rfl rfl Try.underlying25 (At.hit z1.put.put rfl).ev hvb ?_)
    refine l_q rfl (q_neq true rfl (((At.hit z1.put rfl).ne rfl).ne rfl).ev (At.hit z1.put.put.put rfl).ev (decide_eq_true (by omega)) ?_)
    refine l_end ?_
    refine e_fresh z1.put.put.put.put.put ?_
    intro a3 z3 m3
    have s0_3 := m3 _ _ (((((s0_1.ne rfl).ne rfl).ne rfl).ne rfl).ne rfl)
    have s1_3 := m3 _ _ (((((s1_1.ne rfl).ne rfl).ne rfl).ne rfl).ne rfl)
    have s10_3 := m3 _ _ (At.hit z1.put.put.put.put rfl)
    clear m3
    refine e_then ?_
    refine c_true s10_3 ?_
    refine c_seq ?_
    refine c_region ?_
    refine l_q rfl (q_assign _ _ rfl rfl ?_)
    refine l_end ?_
    refine e_fresh z3.put ?_
    intro a4 z4 m4
    have s4_4 := m4 _ _ (At.hit z3 rfl)
    clear m4
    refine e_then ?_
    refine wp_ret ?_
    refine ret_then ?_
    refine r_tmp rfl z4.defers s4_4 ?_
    exact ⟨by rw [decide_eq_false (fun h => hb2 (congrArg List.length h))]; rfl, (Low.refl _)⟩
  · skip
    refine c_region ?_
    refine l_q rfl (q_move _ _ rfl s0_1.ev ?_)
    refine l_q rfl (q_lenF rfl rfl Try.underlying25 (At.hit z1 rfl).ev hva ?_)
    refine l_q rfl (q_move _ _ rfl ((s1_1.ne rfl).ne rfl).ev ?_)
    refine l_q rfl (q_lenF rfl rfl Try.underlying25 (At.hit z1.put.put rfl).ev hvb ?_)
    refine l_q rfl (q_neq false rfl (((At.hit z1.put rfl).ne rfl).ne rfl).ev (At.hit z1.put.put.put rfl).ev (decide_eq_false (by omega)) ?_)
    refine l_end ?_
    refine e_fresh z1.put.put.put.put.put ?_
    intro a5 z5 m5
    have s0_5 := m5 _ _ (((((s0_1.ne rfl).ne rfl).ne rfl).ne rfl).ne rfl)
    have s1_5 := m5 _ _ (((((s1_1.ne rfl).ne rfl).ne rfl).ne rfl).ne rfl)
    have s10_5 := m5 _ _ (At.hit z1.put.put.put.put rfl)
    clear m5
    refine e_then ?_
    refine c_false s10_5 ?_
    refine wp_skip ?_
    refine e_then ?_
    refine c_seq ?_
    refine c_seq ?_
    refine c_region ?_
    refine l_q rfl (q_assign _ _ rfl rfl ?_)
    refine l_end ?_
    refine e_fresh z5.put ?_
    intro a6 z6 m6
    have s0_6 := m6 _ _ (s0_5.ne rfl)
    have s1_6 := m6 _ _ (s1_5.ne rfl)
    have s5_6 := m6 _ _ (At.hit z5 rfl)
    clear m6
    refine e_then ?_
    refine wp_block ?_
    refine c_loop (fdiff la lb ByteArray.empty) (fun k a w => Fr 26 a ∧ At a 0 (va) ∧ At a 1 (vb) ∧ At a 5 (.int .i64 ((k : Nat) : Int)) ∧ Low w0 w) ?_ ?_ ?_
    · exact ⟨z6, s0_6, s1_6, s5_6, (Low.refl _)⟩
    · intro k a7 w7 hk7 h
      obtain ⟨z7, s0_7, s1_7, s5_7, low7⟩ := h
      clear s0_6 s1_6 s5_6 z6
      have hle := fdiff_le la lb ByteArray.empty
      refine c_seq ?_
      refine c_seq ?_
      refine c_region ?_
      refine l_q rfl (q_move _ _ rfl s5_7.ev ?_)
      refine l_q rfl (q_move _ _ rfl (s0_7.ne rfl).ev ?_)
      refine l_q rfl (q_lenF rfl rfl Try.underlying25 (At.hit z7.put rfl).ev (hva.low low7) ?_)
      refine l_q rfl (q_lss true rfl (((At.hit z7 rfl).ne rfl).ne rfl).ev (At.hit z7.put.put rfl).ev (decide_eq_true (by omega)) ?_)
      refine l_end ?_
      refine e_fresh z7.put.put.put.put ?_
      intro a8 z8 m8
      have s0_8 := m8 _ _ ((((s0_7.ne rfl).ne rfl).ne rfl).ne rfl)
      have s1_8 := m8 _ _ ((((s1_7.ne rfl).ne rfl).ne rfl).ne rfl)
      have s5_8 := m8 _ _ ((((s5_7.ne rfl).ne rfl).ne rfl).ne rfl)
      have s14_8 := m8 _ _ (At.hit z7.put.put.put rfl)
      clear m8
      refine e_then ?_
      refine c_true s14_8 ?_
      refine wp_skip ?_
      refine e_then ?_
      refine c_seq ?_
      refine wp_block ?_
      refine c_seq ?_
      refine region_low hm (by kernel_rfl) ?_
      refine qs (q_move _ _ rfl s0_8.ev ?_)
      refine qs (q_move _ _ rfl (s5_8.ne rfl).ev ?_)
      refine qs (q_idxF (j := k) rfl Try.underlying25 sz9 ((At.hit z8 rfl).ne rfl).ev (hva.low low7) (At.hit z8.put rfl).ev (by omega) ?_)
      refine qs (q_ld1 (u := .string (la.getD k ByteArray.empty)) rfl Try.underlying9 rfl (At.hit z8.put.put rfl).ev (fun _ h => ((hva.low low7).low h)) (by omega) ((flat_at encS_len ByteArray.empty _ k 0 (by omega) (by decide)).trans rfl) ?_)
      refine qs (q_move _ _ rfl ((((s1_8.ne rfl).ne rfl).ne rfl).ne rfl).ev ?_)
      refine qs (q_move _ _ rfl (((((s5_8.ne rfl).ne rfl).ne rfl).ne rfl).ne rfl).ev ?_)
      refine qs (q_idxF (j := k) rfl Try.underlying25 sz9 ((At.hit z8.put.put.put.put rfl).ne rfl).ev (hvb.low low7) (At.hit z8.put.put.put.put.put rfl).ev (by omega) ?_)
      refine qs (q_ld1 (u := .string (lb.getD k ByteArray.empty)) rfl Try.underlying9 rfl (At.hit z8.put.put.put.put.put.put rfl).ev (fun _ h => ((hvb.low low7).low h)) (by omega) ((flat_at encS_len ByteArray.empty _ k 0 (by omega) (by decide)).trans rfl) ?_)
      refine q_fresh z8.put.put.put.put.put.put.put.put ?_
      intro a9 z9 m9
      have s0_9 := m9 _ _ ((((((((s0_8.ne rfl).ne rfl).ne rfl).ne rfl).ne rfl).ne rfl).ne rfl).ne rfl)
      have s1_9 := m9 _ _ ((((((((s1_8.ne rfl).ne rfl).ne rfl).ne rfl).ne rfl).ne rfl).ne rfl).ne rfl)
      have s5_9 := m9 _ _ ((((((((s5_8.ne rfl).ne rfl).ne rfl).ne rfl).ne rfl).ne rfl).ne rfl).ne rfl)
      have s20_9 := m9 _ _ (((((At.hit z8.put.put.put rfl).ne rfl).ne rfl).ne rfl).ne rfl)
      have s24_9 := m9 _ _ (At.hit z8.put.put.put.put.put.put.put rfl)
      clear m9
      refine qs (q_strne false rfl s20_9.ev s24_9.ev (by rw [strT (fdiff_round (by assumption))]; rfl) ?_)
      refine qz ?_
      intro w10 h10
      have ova_10 := (hva.low low7).low h10
      have ovb_10 := (hvb.low low7).low h10
      refine e_id ?_
      refine e_fresh z9.put ?_
      intro a11 z11 m11
      have s0_11 := m11 _ _ (s0_9.ne rfl)
      have s1_11 := m11 _ _ (s1_9.ne rfl)
      have s5_11 := m11 _ _ (s5_9.ne rfl)
      have s25_11 := m11 _ _ (At.hit z9 rfl)
      have low11 := (low7.trans h10)
      clear m11
      refine e_then ?_
      refine c_false s25_11 ?_
      refine wp_skip ?_
      refine e_in ?_
      refine e_then ?_
      refine c_region ?_
      refine l_q rfl (q_move _ _ rfl s5_11.ev ?_)
      refine l_q rfl (q_add (((k + 1 : Nat) : Int)) rfl (At.hit z11 rfl).ev rfl (i64_is (by omega) (by omega) (by omega)) ?_)
      refine l_q rfl (q_assign _ _ rfl (At.hit z11.put rfl).ev ?_)
      refine l_end ?_
      refine e_fresh z11.put.put.put ?_
      intro a12 z12 m12
      have s0_12 := m12 _ _ (((s0_11.ne rfl).ne rfl).ne rfl)
      have s1_12 := m12 _ _ (((s1_11.ne rfl).ne rfl).ne rfl)
      have s5_12 := m12 _ _ (At.hit z11.put.put rfl)
      clear m12
      exact ⟨z12, s0_12, s1_12, s5_12, low11⟩
    · intro a13 w13 h
      obtain ⟨z13, s0_13, s1_13, s5_13, low13⟩ := h
      clear s0_6 s1_6 s5_6 z6
      have hle := fdiff_le la lb ByteArray.empty
      refine c_seq ?_
      refine c_seq ?_
      by_cases hb14 : fdiff la lb ByteArray.empty < la.length
      · skip
        refine c_region ?_
        refine l_q rfl (q_move _ _ rfl s5_13.ev ?_)
        refine l_q rfl (q_move _ _ rfl (s0_13.ne rfl).ev ?_)
        refine l_q rfl (q_lenF rfl rfl Try.underlying25 (At.hit z13.put rfl).ev (hva.low low13) ?_)
        refine l_q rfl (q_lss true rfl (((At.hit z13 rfl).ne rfl).ne rfl).ev (At.hit z13.put.put rfl).ev (decide_eq_true (by omega)) ?_)
        refine l_end ?_
        refine e_fresh z13.put.put.put.put ?_
        intro a15 z15 m15
        have s0_15 := m15 _ _ ((((s0_13.ne rfl).ne rfl).ne rfl).ne rfl)
        have s1_15 := m15 _ _ ((((s1_13.ne rfl).ne rfl).ne rfl).ne rfl)
        have s5_15 := m15 _ _ ((((s5_13.ne rfl).ne rfl).ne rfl).ne rfl)
        have s14_15 := m15 _ _ (At.hit z13.put.put.put rfl)
        clear m15
        refine e_then ?_
        refine c_true s14_15 ?_
        refine wp_skip ?_
        refine e_then ?_
        refine c_seq ?_
        refine wp_block ?_
        refine c_seq ?_
        refine region_low hm (by kernel_rfl) ?_
        refine qs (q_move _ _ rfl s0_15.ev ?_)
        refine qs (q_move _ _ rfl (s5_15.ne rfl).ev ?_)
        refine qs (q_idxF (j := (fdiff la lb ByteArray.empty)) rfl Try.underlying25 sz9 ((At.hit z15 rfl).ne rfl).ev (hva.low low13) (At.hit z15.put rfl).ev (by omega) ?_)
        refine qs (q_ld1 (u := .string (la.getD (fdiff la lb ByteArray.empty) ByteArray.empty)) rfl Try.underlying9 rfl (At.hit z15.put.put rfl).ev (fun _ h => ((hva.low low13).low h)) (by omega) ((flat_at encS_len ByteArray.empty _ (fdiff la lb ByteArray.empty) 0 (by omega) (by decide)).trans rfl) ?_)
        refine qs (q_move _ _ rfl ((((s1_15.ne rfl).ne rfl).ne rfl).ne rfl).ev ?_)
        refine qs (q_move _ _ rfl (((((s5_15.ne rfl).ne rfl).ne rfl).ne rfl).ne rfl).ev ?_)
        refine qs (q_idxF (j := (fdiff la lb ByteArray.empty)) rfl Try.underlying25 sz9 ((At.hit z15.put.put.put.put rfl).ne rfl).ev (hvb.low low13) (At.hit z15.put.put.put.put.put rfl).ev (by omega) ?_)
        refine qs (q_ld1 (u := .string (lb.getD (fdiff la lb ByteArray.empty) ByteArray.empty)) rfl Try.underlying9 rfl (At.hit z15.put.put.put.put.put.put rfl).ev (fun _ h => ((hvb.low low13).low h)) (by omega) ((flat_at encS_len ByteArray.empty _ (fdiff la lb ByteArray.empty) 0 (by omega) (by decide)).trans rfl) ?_)
        refine q_fresh z15.put.put.put.put.put.put.put.put ?_
        intro a16 z16 m16
        have s5_16 := m16 _ _ ((((((((s5_15.ne rfl).ne rfl).ne rfl).ne rfl).ne rfl).ne rfl).ne rfl).ne rfl)
        have s20_16 := m16 _ _ (((((At.hit z15.put.put.put rfl).ne rfl).ne rfl).ne rfl).ne rfl)
        have s24_16 := m16 _ _ (At.hit z15.put.put.put.put.put.put.put rfl)
        clear m16
        refine qs (q_strne true rfl s20_16.ev s24_16.ev (by rw [strF (fdiff_stop (by assumption))]; rfl) ?_)
        refine qz ?_
        intro w17 h17
        have ova_17 := (hva.low low13).low h17
        have ovb_17 := (hvb.low low13).low h17
        refine e_id ?_
        refine e_fresh z16.put ?_
        intro a18 z18 m18
        have s5_18 := m18 _ _ (s5_16.ne rfl)
        have s25_18 := m18 _ _ (At.hit z16 rfl)
        have low18 := (low13.trans h17)
        clear m18
        refine e_then ?_
        refine c_true s25_18 ?_
        refine c_seq ?_
        refine c_region ?_
        refine l_q rfl (q_assign _ _ rfl rfl ?_)
        refine l_end ?_
        refine e_fresh z18.put ?_
        intro a19 z19 m19
        have s4_19 := m19 _ _ (At.hit z18 rfl)
        clear m19
        refine e_then ?_
        refine wp_ret ?_
        refine ret_in ?_
        refine ret_then ?_
        refine ret_then ?_
        refine ret_in ?_
        refine ret_then ?_
        refine r_tmp rfl z19.defers s4_19 ?_
        exact ⟨by rw [decide_eq_false (fdiff_ne hb14)]; rfl, low18⟩
      · skip
        refine c_region ?_
        refine l_q rfl (q_move _ _ rfl s5_13.ev ?_)
        refine l_q rfl (q_move _ _ rfl (s0_13.ne rfl).ev ?_)
        refine l_q rfl (q_lenF rfl rfl Try.underlying25 (At.hit z13.put rfl).ev (hva.low low13) ?_)
        refine l_q rfl (q_lss false rfl (((At.hit z13 rfl).ne rfl).ne rfl).ev (At.hit z13.put.put rfl).ev (decide_eq_false (by omega)) ?_)
        refine l_end ?_
        refine e_fresh z13.put.put.put.put ?_
        intro a20 z20 m20
        have s0_20 := m20 _ _ ((((s0_13.ne rfl).ne rfl).ne rfl).ne rfl)
        have s1_20 := m20 _ _ ((((s1_13.ne rfl).ne rfl).ne rfl).ne rfl)
        have s5_20 := m20 _ _ ((((s5_13.ne rfl).ne rfl).ne rfl).ne rfl)
        have s14_20 := m20 _ _ (At.hit z13.put.put.put rfl)
        clear m20
        refine e_then ?_
        refine c_false s14_20 ?_
        refine wp_exit ?_
        refine x_then ?_
        refine x_then ?_
        refine in_exit ?_
        refine e_then ?_
        refine c_seq ?_
        refine c_region ?_
        refine l_q rfl (q_assign _ _ rfl rfl ?_)
        refine l_end ?_
        refine e_fresh z20.put ?_
        intro a21 z21 m21
        have s4_21 := m21 _ _ (At.hit z20 rfl)
        clear m21
        refine e_then ?_
        refine wp_ret ?_
        refine r_tmp rfl z21.defers s4_21 ?_
        exact ⟨by rw [decide_eq_true (fdiff_eq (by omega) hb14)]; rfl, low13⟩
theorem Same.calls (va vb : Value) (la lb : List LfR) (hl : la.length ≤ 1000000) (hl' : lb.length ≤ 1000000) (w0 : World) (hva : RdF w0 3 va la.length (la.map encR).flatten) (hvb : RdF w0 3 vb lb.length (lb.map encR).flatten) : Calls Try.prog 10 #[va, vb] w0 fun e w' => e = .returned (.bool (decide (la = lb))) ∧ Low w0 w' := by
  refine c_fun (R := _) Try.func10 rfl 26 rfl (Nat.le_of_ble_eq_true rfl) ?_
  intro a z hA
  have s0 := hA 0 _ rfl
  have s1 := hA 1 _ rfl
  clear hA
  refine c_seq ?_
  refine c_region ?_
  refine l_q rfl (q_assign _ _ rfl rfl ?_)
  refine l_end ?_
  refine e_fresh z.put ?_
  intro a1 z1 m1
  have s0_1 := m1 _ _ (s0.ne rfl)
  have s1_1 := m1 _ _ (s1.ne rfl)
  clear m1
  refine e_then ?_
  refine c_seq ?_
  refine c_seq ?_
  by_cases hb2 : la.length ≠ lb.length
  · skip
    refine c_region ?_
    refine l_q rfl (q_move _ _ rfl s0_1.ev ?_)
    refine l_q rfl (q_lenF rfl rfl Try.underlying28 (At.hit z1 rfl).ev hva ?_)
    refine l_q rfl (q_move _ _ rfl ((s1_1.ne rfl).ne rfl).ev ?_)
    refine l_q rfl (q_lenF rfl rfl Try.underlying28 (At.hit z1.put.put rfl).ev hvb ?_)
    refine l_q rfl (q_neq true rfl (((At.hit z1.put rfl).ne rfl).ne rfl).ev (At.hit z1.put.put.put rfl).ev (decide_eq_true (by omega)) ?_)
    refine l_end ?_
    refine e_fresh z1.put.put.put.put.put ?_
    intro a3 z3 m3
    have s0_3 := m3 _ _ (((((s0_1.ne rfl).ne rfl).ne rfl).ne rfl).ne rfl)
    have s1_3 := m3 _ _ (((((s1_1.ne rfl).ne rfl).ne rfl).ne rfl).ne rfl)
    have s10_3 := m3 _ _ (At.hit z1.put.put.put.put rfl)
    clear m3
    refine e_then ?_
    refine c_true s10_3 ?_
    refine c_seq ?_
    refine c_region ?_
    refine l_q rfl (q_assign _ _ rfl rfl ?_)
    refine l_end ?_
    refine e_fresh z3.put ?_
    intro a4 z4 m4
    have s4_4 := m4 _ _ (At.hit z3 rfl)
    clear m4
    refine e_then ?_
    refine wp_ret ?_
    refine ret_then ?_
    refine r_tmp rfl z4.defers s4_4 ?_
    exact ⟨by rw [decide_eq_false (fun h => hb2 (congrArg List.length h))]; rfl, (Low.refl _)⟩
  · skip
    refine c_region ?_
    refine l_q rfl (q_move _ _ rfl s0_1.ev ?_)
    refine l_q rfl (q_lenF rfl rfl Try.underlying28 (At.hit z1 rfl).ev hva ?_)
    refine l_q rfl (q_move _ _ rfl ((s1_1.ne rfl).ne rfl).ev ?_)
    refine l_q rfl (q_lenF rfl rfl Try.underlying28 (At.hit z1.put.put rfl).ev hvb ?_)
    refine l_q rfl (q_neq false rfl (((At.hit z1.put rfl).ne rfl).ne rfl).ev (At.hit z1.put.put.put rfl).ev (decide_eq_false (by omega)) ?_)
    refine l_end ?_
    refine e_fresh z1.put.put.put.put.put ?_
    intro a5 z5 m5
    have s0_5 := m5 _ _ (((((s0_1.ne rfl).ne rfl).ne rfl).ne rfl).ne rfl)
    have s1_5 := m5 _ _ (((((s1_1.ne rfl).ne rfl).ne rfl).ne rfl).ne rfl)
    have s10_5 := m5 _ _ (At.hit z1.put.put.put.put rfl)
    clear m5
    refine e_then ?_
    refine c_false s10_5 ?_
    refine wp_skip ?_
    refine e_then ?_
    refine c_seq ?_
    refine c_seq ?_
    refine c_region ?_
    refine l_q rfl (q_assign _ _ rfl rfl ?_)
    refine l_end ?_
    refine e_fresh z5.put ?_
    intro a6 z6 m6
    have s0_6 := m6 _ _ (s0_5.ne rfl)
    have s1_6 := m6 _ _ (s1_5.ne rfl)
    have s5_6 := m6 _ _ (At.hit z5 rfl)
    clear m6
    refine e_then ?_
    refine wp_block ?_
    refine c_loop (fdiff la lb zR) (fun k a w => Fr 26 a ∧ At a 0 (va) ∧ At a 1 (vb) ∧ At a 5 (.int .i64 ((k : Nat) : Int)) ∧ Low w0 w) ?_ ?_ ?_
    · exact ⟨z6, s0_6, s1_6, s5_6, (Low.refl _)⟩
    · intro k a7 w7 hk7 h
      obtain ⟨z7, s0_7, s1_7, s5_7, low7⟩ := h
      clear s0_6 s1_6 s5_6 z6
      have hle := fdiff_le la lb zR
      refine c_seq ?_
      refine c_seq ?_
      refine c_region ?_
      refine l_q rfl (q_move _ _ rfl s5_7.ev ?_)
      refine l_q rfl (q_move _ _ rfl (s0_7.ne rfl).ev ?_)
      refine l_q rfl (q_lenF rfl rfl Try.underlying28 (At.hit z7.put rfl).ev (hva.low low7) ?_)
      refine l_q rfl (q_lss true rfl (((At.hit z7 rfl).ne rfl).ne rfl).ev (At.hit z7.put.put rfl).ev (decide_eq_true (by omega)) ?_)
      refine l_end ?_
      refine e_fresh z7.put.put.put.put ?_
      intro a8 z8 m8
      have s0_8 := m8 _ _ ((((s0_7.ne rfl).ne rfl).ne rfl).ne rfl)
      have s1_8 := m8 _ _ ((((s1_7.ne rfl).ne rfl).ne rfl).ne rfl)
      have s5_8 := m8 _ _ ((((s5_7.ne rfl).ne rfl).ne rfl).ne rfl)
      have s14_8 := m8 _ _ (At.hit z7.put.put.put rfl)
      clear m8
      refine e_then ?_
      refine c_true s14_8 ?_
      refine wp_skip ?_
      refine e_then ?_
      refine c_seq ?_
      refine wp_block ?_
      refine c_seq ?_
      refine region_low hm (by kernel_rfl) ?_
      refine qs (q_move _ _ rfl s0_8.ev ?_)
      refine qs (q_move _ _ rfl (s5_8.ne rfl).ev ?_)
      refine qs (q_idxF (j := k) rfl Try.underlying28 sz52 ((At.hit z8 rfl).ne rfl).ev (hva.low low7) (At.hit z8.put rfl).ev (by omega) ?_)
      refine qs (q_ldR (vs := [.string ((la.getD k zR).f0), .int .i64 ((la.getD k zR).f1), .string ((la.getD k zR).f2)]) rfl Try.underlying52 rfl sz52 (At.hit z8.put.put rfl).ev (fun _ h => ((hva.low low7).low h)) (by omega) rfl (flat_part encR_len zR _ k (by omega)) ?_)
      refine qs (q_move _ _ rfl ((((s1_8.ne rfl).ne rfl).ne rfl).ne rfl).ev ?_)
      refine qs (q_move _ _ rfl (((((s5_8.ne rfl).ne rfl).ne rfl).ne rfl).ne rfl).ev ?_)
      refine qs (q_idxF (j := k) rfl Try.underlying28 sz52 ((At.hit z8.put.put.put.put rfl).ne rfl).ev (hvb.low low7) (At.hit z8.put.put.put.put.put rfl).ev (by omega) ?_)
      refine qs (q_ldR (vs := [.string ((lb.getD k zR).f0), .int .i64 ((lb.getD k zR).f1), .string ((lb.getD k zR).f2)]) rfl Try.underlying52 rfl sz52 (At.hit z8.put.put.put.put.put.put rfl).ev (fun _ h => ((hvb.low low7).low h)) (by omega) rfl (flat_part encR_len zR _ k (by omega)) ?_)
      refine q_fresh z8.put.put.put.put.put.put.put.put ?_
      intro a9 z9 m9
      have s0_9 := m9 _ _ ((((((((s0_8.ne rfl).ne rfl).ne rfl).ne rfl).ne rfl).ne rfl).ne rfl).ne rfl)
      have s1_9 := m9 _ _ ((((((((s1_8.ne rfl).ne rfl).ne rfl).ne rfl).ne rfl).ne rfl).ne rfl).ne rfl)
      have s5_9 := m9 _ _ ((((((((s5_8.ne rfl).ne rfl).ne rfl).ne rfl).ne rfl).ne rfl).ne rfl).ne rfl)
      have s20_9 := m9 _ _ (((((At.hit z8.put.put.put rfl).ne rfl).ne rfl).ne rfl).ne rfl)
      have s24_9 := m9 _ _ (At.hit z8.put.put.put.put.put.put.put rfl)
      clear m9
      refine qs (q_ne3 false rfl guard52 s20_9.ev s24_9.ev (eq52 9998 ((la.getD k zR).f0) ((la.getD k zR).f1) ((la.getD k zR).f2) ((lb.getD k zR).f0) ((lb.getD k zR).f1) ((lb.getD k zR).f2)) (neR_false (fdiff_round (by assumption))) ?_)
      refine qz ?_
      intro w10 h10
      have ova_10 := (hva.low low7).low h10
      have ovb_10 := (hvb.low low7).low h10
      refine e_id ?_
      refine e_fresh z9.put ?_
      intro a11 z11 m11
      have s0_11 := m11 _ _ (s0_9.ne rfl)
      have s1_11 := m11 _ _ (s1_9.ne rfl)
      have s5_11 := m11 _ _ (s5_9.ne rfl)
      have s25_11 := m11 _ _ (At.hit z9 rfl)
      have low11 := (low7.trans h10)
      clear m11
      refine e_then ?_
      refine c_false s25_11 ?_
      refine wp_skip ?_
      refine e_in ?_
      refine e_then ?_
      refine c_region ?_
      refine l_q rfl (q_move _ _ rfl s5_11.ev ?_)
      refine l_q rfl (q_add (((k + 1 : Nat) : Int)) rfl (At.hit z11 rfl).ev rfl (i64_is (by omega) (by omega) (by omega)) ?_)
      refine l_q rfl (q_assign _ _ rfl (At.hit z11.put rfl).ev ?_)
      refine l_end ?_
      refine e_fresh z11.put.put.put ?_
      intro a12 z12 m12
      have s0_12 := m12 _ _ (((s0_11.ne rfl).ne rfl).ne rfl)
      have s1_12 := m12 _ _ (((s1_11.ne rfl).ne rfl).ne rfl)
      have s5_12 := m12 _ _ (At.hit z11.put.put rfl)
      clear m12
      exact ⟨z12, s0_12, s1_12, s5_12, low11⟩
    · intro a13 w13 h
      obtain ⟨z13, s0_13, s1_13, s5_13, low13⟩ := h
      clear s0_6 s1_6 s5_6 z6
      have hle := fdiff_le la lb zR
      refine c_seq ?_
      refine c_seq ?_
      by_cases hb14 : fdiff la lb zR < la.length
      · skip
        refine c_region ?_
        refine l_q rfl (q_move _ _ rfl s5_13.ev ?_)
        refine l_q rfl (q_move _ _ rfl (s0_13.ne rfl).ev ?_)
        refine l_q rfl (q_lenF rfl rfl Try.underlying28 (At.hit z13.put rfl).ev (hva.low low13) ?_)
        refine l_q rfl (q_lss true rfl (((At.hit z13 rfl).ne rfl).ne rfl).ev (At.hit z13.put.put rfl).ev (decide_eq_true (by omega)) ?_)
        refine l_end ?_
        refine e_fresh z13.put.put.put.put ?_
        intro a15 z15 m15
        have s0_15 := m15 _ _ ((((s0_13.ne rfl).ne rfl).ne rfl).ne rfl)
        have s1_15 := m15 _ _ ((((s1_13.ne rfl).ne rfl).ne rfl).ne rfl)
        have s5_15 := m15 _ _ ((((s5_13.ne rfl).ne rfl).ne rfl).ne rfl)
        have s14_15 := m15 _ _ (At.hit z13.put.put.put rfl)
        clear m15
        refine e_then ?_
        refine c_true s14_15 ?_
        refine wp_skip ?_
        refine e_then ?_
        refine c_seq ?_
        refine wp_block ?_
        refine c_seq ?_
        refine region_low hm (by kernel_rfl) ?_
        refine qs (q_move _ _ rfl s0_15.ev ?_)
        refine qs (q_move _ _ rfl (s5_15.ne rfl).ev ?_)
        refine qs (q_idxF (j := (fdiff la lb zR)) rfl Try.underlying28 sz52 ((At.hit z15 rfl).ne rfl).ev (hva.low low13) (At.hit z15.put rfl).ev (by omega) ?_)
        refine qs (q_ldR (vs := [.string ((la.getD (fdiff la lb zR) zR).f0), .int .i64 ((la.getD (fdiff la lb zR) zR).f1), .string ((la.getD (fdiff la lb zR) zR).f2)]) rfl Try.underlying52 rfl sz52 (At.hit z15.put.put rfl).ev (fun _ h => ((hva.low low13).low h)) (by omega) rfl (flat_part encR_len zR _ (fdiff la lb zR) (by omega)) ?_)
        refine qs (q_move _ _ rfl ((((s1_15.ne rfl).ne rfl).ne rfl).ne rfl).ev ?_)
        refine qs (q_move _ _ rfl (((((s5_15.ne rfl).ne rfl).ne rfl).ne rfl).ne rfl).ev ?_)
        refine qs (q_idxF (j := (fdiff la lb zR)) rfl Try.underlying28 sz52 ((At.hit z15.put.put.put.put rfl).ne rfl).ev (hvb.low low13) (At.hit z15.put.put.put.put.put rfl).ev (by omega) ?_)
        refine qs (q_ldR (vs := [.string ((lb.getD (fdiff la lb zR) zR).f0), .int .i64 ((lb.getD (fdiff la lb zR) zR).f1), .string ((lb.getD (fdiff la lb zR) zR).f2)]) rfl Try.underlying52 rfl sz52 (At.hit z15.put.put.put.put.put.put rfl).ev (fun _ h => ((hvb.low low13).low h)) (by omega) rfl (flat_part encR_len zR _ (fdiff la lb zR) (by omega)) ?_)
        refine q_fresh z15.put.put.put.put.put.put.put.put ?_
        intro a16 z16 m16
        have s5_16 := m16 _ _ ((((((((s5_15.ne rfl).ne rfl).ne rfl).ne rfl).ne rfl).ne rfl).ne rfl).ne rfl)
        have s20_16 := m16 _ _ (((((At.hit z15.put.put.put rfl).ne rfl).ne rfl).ne rfl).ne rfl)
        have s24_16 := m16 _ _ (At.hit z15.put.put.put.put.put.put.put rfl)
        clear m16
        refine qs (q_ne3 true rfl guard52 s20_16.ev s24_16.ev (eq52 9998 ((la.getD (fdiff la lb zR) zR).f0) ((la.getD (fdiff la lb zR) zR).f1) ((la.getD (fdiff la lb zR) zR).f2) ((lb.getD (fdiff la lb zR) zR).f0) ((lb.getD (fdiff la lb zR) zR).f1) ((lb.getD (fdiff la lb zR) zR).f2)) (neR_true (fdiff_stop (by assumption))) ?_)
        refine qz ?_
        intro w17 h17
        have ova_17 := (hva.low low13).low h17
        have ovb_17 := (hvb.low low13).low h17
        refine e_id ?_
        refine e_fresh z16.put ?_
        intro a18 z18 m18
        have s5_18 := m18 _ _ (s5_16.ne rfl)
        have s25_18 := m18 _ _ (At.hit z16 rfl)
        have low18 := (low13.trans h17)
        clear m18
        refine e_then ?_
        refine c_true s25_18 ?_
        refine c_seq ?_
        refine c_region ?_
        refine l_q rfl (q_assign _ _ rfl rfl ?_)
        refine l_end ?_
        refine e_fresh z18.put ?_
        intro a19 z19 m19
        have s4_19 := m19 _ _ (At.hit z18 rfl)
        clear m19
        refine e_then ?_
        refine wp_ret ?_
        refine ret_in ?_
        refine ret_then ?_
        refine ret_then ?_
        refine ret_in ?_
        refine ret_then ?_
        refine r_tmp rfl z19.defers s4_19 ?_
        exact ⟨by rw [decide_eq_false (fdiff_ne hb14)]; rfl, low18⟩
      · skip
        refine c_region ?_
        refine l_q rfl (q_move _ _ rfl s5_13.ev ?_)
        refine l_q rfl (q_move _ _ rfl (s0_13.ne rfl).ev ?_)
        refine l_q rfl (q_lenF rfl rfl Try.underlying28 (At.hit z13.put rfl).ev (hva.low low13) ?_)
        refine l_q rfl (q_lss false rfl (((At.hit z13 rfl).ne rfl).ne rfl).ev (At.hit z13.put.put rfl).ev (decide_eq_false (by omega)) ?_)
        refine l_end ?_
        refine e_fresh z13.put.put.put.put ?_
        intro a20 z20 m20
        have s0_20 := m20 _ _ ((((s0_13.ne rfl).ne rfl).ne rfl).ne rfl)
        have s1_20 := m20 _ _ ((((s1_13.ne rfl).ne rfl).ne rfl).ne rfl)
        have s5_20 := m20 _ _ ((((s5_13.ne rfl).ne rfl).ne rfl).ne rfl)
        have s14_20 := m20 _ _ (At.hit z13.put.put.put rfl)
        clear m20
        refine e_then ?_
        refine c_false s14_20 ?_
        refine wp_exit ?_
        refine x_then ?_
        refine x_then ?_
        refine in_exit ?_
        refine e_then ?_
        refine c_seq ?_
        refine c_region ?_
        refine l_q rfl (q_assign _ _ rfl rfl ?_)
        refine l_end ?_
        refine e_fresh z20.put ?_
        intro a21 z21 m21
        have s4_21 := m21 _ _ (At.hit z20 rfl)
        clear m21
        refine e_then ?_
        refine wp_ret ?_
        refine r_tmp rfl z21.defers s4_21 ?_
        exact ⟨by rw [decide_eq_true (fdiff_eq (by omega) hb14)]; rfl, low13⟩
def fewAt (l : List LfL) (i : Nat) : Prop := i < 60 ∧ (l.getD i zL).f0.size ≤ 400 ∧ (l.getD i zL).f2.size ≤ 100
instance fewDec (l : List LfL) (i : Nat) : Decidable (fewAt l i) := by unfold fewAt; infer_instance
def fewN (l : List LfL) : Nat := (List.range l.length).findIdx fun i => decide (¬ fewAt l i)
theorem fewN_le (l : List LfL) : fewN l ≤ l.length := by
  have := List.findIdx_le_length (xs := List.range l.length) (p := fun i => decide (¬ fewAt l i))
  rwa [List.length_range] at this
theorem fewN_round {l : List LfL} {i : Nat} (h : i < fewN l) : fewAt l i := by
  have h1 := List.not_of_lt_findIdx h
  rw [List.getElem_range] at h1
  simpa using h1
theorem fewN_stop {l : List LfL} (h : fewN l < l.length) : ¬ fewAt l (fewN l) := by
  have h1 : decide (¬ fewAt l ((List.range l.length)[fewN l]'(by rw [List.length_range]; exact h))) = true := List.findIdx_getElem (w := by rw [List.length_range]; exact h)
  rw [List.getElem_range] at h1
  exact of_decide_eq_true h1
def fewB (l : List LfL) : Bool := !decide (fewN l < l.length)
theorem fewN_60 (l : List LfL) : fewN l ≤ 60 := by
  rcases Nat.lt_or_ge 60 (fewN l) with h | h
  · exact absurd (fewN_round h).1 (by omega)
  · exact h
theorem Few.calls (v : Value) (l : List LfL) (w0 : World) (hv : RdF w0 3 v l.length (l.map encL).flatten) : Calls Try.prog 15 #[v] w0 fun e w' => e = .returned (.bool (fewB l)) ∧ Low w0 w' := by
  refine c_fun (R := _) Try.func15 rfl 30 rfl (Nat.le_of_ble_eq_true rfl) ?_
  intro a z hA
  have s0 := hA 0 _ rfl
  clear hA
  refine c_seq ?_
  refine c_region ?_
  refine l_q rfl (q_assign _ _ rfl rfl ?_)
  refine l_end ?_
  refine e_fresh z.put ?_
  intro a1 z1 m1
  have s0_1 := m1 _ _ (s0.ne rfl)
  clear m1
  refine e_then ?_
  refine c_seq ?_
  refine c_seq ?_
  refine c_region ?_
  refine l_q rfl (q_assign _ _ rfl rfl ?_)
  refine l_end ?_
  refine e_fresh z1.put ?_
  intro a2 z2 m2
  have s0_2 := m2 _ _ (s0_1.ne rfl)
  have s3_2 := m2 _ _ (At.hit z1 rfl)
  clear m2
  refine e_then ?_
  refine wp_block ?_
  refine c_loop (fewN l) (fun k a w => Fr 30 a ∧ At a 0 (v) ∧ At a 3 (.int .i64 ((k : Nat) : Int)) ∧ Low w0 w) ?_ ?_ ?_
  · exact ⟨z2, s0_2, s3_2, (Low.refl _)⟩
  · intro k a3 w3 hk3 h
    obtain ⟨z3, s0_3, s3_3, low3⟩ := h
    clear s0_2 s3_2 z2
    have hle := fewN_le l
    have h60 := fewN_60 l
    obtain ⟨hf0, hf1, hf2⟩ := fewN_round (by assumption)
    refine c_seq ?_
    refine c_seq ?_
    refine c_region ?_
    refine l_q rfl (q_move _ _ rfl s3_3.ev ?_)
    refine l_q rfl (q_move _ _ rfl (s0_3.ne rfl).ev ?_)
    refine l_q rfl (q_lenF rfl rfl Try.underlying22 (At.hit z3.put rfl).ev (hv.low low3) ?_)
    refine l_q rfl (q_lss true rfl (((At.hit z3 rfl).ne rfl).ne rfl).ev (At.hit z3.put.put rfl).ev (decide_eq_true (by omega)) ?_)
    refine l_end ?_
    refine e_fresh z3.put.put.put.put ?_
    intro a4 z4 m4
    have s0_4 := m4 _ _ ((((s0_3.ne rfl).ne rfl).ne rfl).ne rfl)
    have s3_4 := m4 _ _ ((((s3_3.ne rfl).ne rfl).ne rfl).ne rfl)
    have s7_4 := m4 _ _ (At.hit z3.put.put.put rfl)
    clear m4
    refine e_then ?_
    refine c_true s7_4 ?_
    refine wp_skip ?_
    refine e_then ?_
    refine c_seq ?_
    refine wp_block ?_
    refine c_seq ?_
    refine c_region ?_
    refine l_q rfl (q_move _ _ rfl s3_4.ev ?_)
    refine l_q rfl (q_geq false rfl (At.hit z4 rfl).ev rfl (decide_eq_false (by omega)) ?_)
    refine l_q rfl (q_move _ _ rfl (At.hit z4.put rfl).ev ?_)
    refine l_qg (wanted_is (j := 2) (d := 12) (b := false) rfl rfl (At.hit z4.put.put rfl) rfl) (q_move _ _ rfl (((s0_4.ne rfl).ne rfl).ne rfl).ev ?_)
    refine l_qg (wanted_is (j := 2) (d := 12) (b := false) rfl rfl ((At.hit z4.put.put rfl).ne rfl) rfl) (q_move _ _ rfl ((((s3_4.ne rfl).ne rfl).ne rfl).ne rfl).ev ?_)
    refine l_qg (wanted_is (j := 2) (d := 12) (b := false) rfl rfl (((At.hit z4.put.put rfl).ne rfl).ne rfl) rfl) (q_idxF (j := k) rfl Try.underlying22 sz37 ((At.hit z4.put.put.put rfl).ne rfl).ev (hv.low low3) (At.hit z4.put.put.put.put rfl).ev (by omega) ?_)
    refine l_qg (wanted_is (j := 2) (d := 12) (b := false) rfl rfl ((((At.hit z4.put.put rfl).ne rfl).ne rfl).ne rfl) rfl) (q_fldF 0 rfl fld37_0 (At.hit z4.put.put.put.put.put rfl).ev ((hv.low low3).form (by omega)) ?_)
    refine l_qg (wanted_is (j := 2) (d := 12) (b := false) rfl rfl (((((At.hit z4.put.put rfl).ne rfl).ne rfl).ne rfl).ne rfl) rfl) (q_ld1 (u := .string ((l.getD k zL).f0)) rfl Try.underlying9 rfl (At.hit z4.put.put.put.put.put.put rfl).ev (fun _ e => by rw [e]; exact (hv.low low3)) (by omega) ((flat_at encL_len zL _ k 0 (by omega) (by decide)).trans rfl) ?_)
    refine l_fresh z4.put.put.put.put.put.put.put.put ?_
    intro a5 z5 m5
    have s0_5 := m5 _ _ ((((((((s0_4.ne rfl).ne rfl).ne rfl).ne rfl).ne rfl).ne rfl).ne rfl).ne rfl)
    have s3_5 := m5 _ _ ((((((((s3_4.ne rfl).ne rfl).ne rfl).ne rfl).ne rfl).ne rfl).ne rfl).ne rfl)
    have s12_5 := m5 _ _ ((((((At.hit z4.put.put rfl).ne rfl).ne rfl).ne rfl).ne rfl).ne rfl)
    have s17_5 := m5 _ _ (At.hit z4.put.put.put.put.put.put.put rfl)
    clear m5
    refine l_qg (wanted_is (j := 2) (d := 12) (b := false) rfl rfl s12_5 rfl) (q_len rfl rfl Try.underlying9 s17_5.ev ?_)
    refine l_qg (wanted_is (j := 2) (d := 12) (b := false) rfl rfl (s12_5.ne rfl) rfl) (q_gtr false rfl (At.hit z5 rfl).ev rfl (decide_eq_false (by omega)) ?_)
    refine l_q rfl (q_pick (b := false) (.bool false) rfl ((s12_5.ne rfl).ne rfl).ev (At.hit z5.put rfl).ev ?_)
    refine l_q rfl (q_move _ _ rfl (At.hit z5.put.put rfl).ev ?_)
    refine l_qg (wanted_is (j := 11) (d := 21) (b := false) rfl rfl (At.hit z5.put.put.put rfl) rfl) (q_move _ _ rfl ((((s0_5.ne rfl).ne rfl).ne rfl).ne rfl).ev ?_)
    refine l_qg (wanted_is (j := 11) (d := 21) (b := false) rfl rfl ((At.hit z5.put.put.put rfl).ne rfl) rfl) (q_move _ _ rfl (((((s3_5.ne rfl).ne rfl).ne rfl).ne rfl).ne rfl).ev ?_)
    refine l_qg (wanted_is (j := 11) (d := 21) (b := false) rfl rfl (((At.hit z5.put.put.put rfl).ne rfl).ne rfl) rfl) (q_idxF (j := k) rfl Try.underlying22 sz37 ((At.hit z5.put.put.put.put rfl).ne rfl).ev (hv.low low3) (At.hit z5.put.put.put.put.put rfl).ev (by omega) ?_)
    refine l_qg (wanted_is (j := 11) (d := 21) (b := false) rfl rfl ((((At.hit z5.put.put.put rfl).ne rfl).ne rfl).ne rfl) rfl) (q_fldF 2 rfl fld37_2 (At.hit z5.put.put.put.put.put.put rfl).ev ((hv.low low3).form (by omega)) ?_)
    refine l_fresh z5.put.put.put.put.put.put.put.put ?_
    intro a6 z6 m6
    have s0_6 := m6 _ _ ((((((((s0_5.ne rfl).ne rfl).ne rfl).ne rfl).ne rfl).ne rfl).ne rfl).ne rfl)
    have s3_6 := m6 _ _ ((((((((s3_5.ne rfl).ne rfl).ne rfl).ne rfl).ne rfl).ne rfl).ne rfl).ne rfl)
    have s21_6 := m6 _ _ (((((At.hit z5.put.put.put rfl).ne rfl).ne rfl).ne rfl).ne rfl)
    have s25_6 := m6 _ _ (At.hit z5.put.put.put.put.put.put.put rfl)
    clear m6
    refine l_qg (wanted_is (j := 11) (d := 21) (b := false) rfl rfl s21_6 rfl) (q_ld1 (u := .string ((l.getD k zL).f2)) rfl Try.underlying9 rfl s25_6.ev (fun _ e => by rw [e]; exact (hv.low low3)) (by omega) ((flat_at encL_len zL _ k 2 (by omega) (by decide)).trans rfl) ?_)
    refine l_qg (wanted_is (j := 11) (d := 21) (b := false) rfl rfl (s21_6.ne rfl) rfl) (q_len rfl rfl Try.underlying9 (At.hit z6 rfl).ev ?_)
    refine l_qg (wanted_is (j := 11) (d := 21) (b := false) rfl rfl ((s21_6.ne rfl).ne rfl) rfl) (q_gtr false rfl (At.hit z6.put rfl).ev rfl (decide_eq_false (by omega)) ?_)
    refine l_q rfl (q_pick (b := false) (.bool false) rfl (((s21_6.ne rfl).ne rfl).ne rfl).ev (At.hit z6.put.put rfl).ev ?_)
    refine l_end ?_
    refine e_fresh z6.put.put.put.put ?_
    intro a7 z7 m7
    have s0_7 := m7 _ _ ((((s0_6.ne rfl).ne rfl).ne rfl).ne rfl)
    have s3_7 := m7 _ _ ((((s3_6.ne rfl).ne rfl).ne rfl).ne rfl)
    have s29_7 := m7 _ _ (At.hit z6.put.put.put rfl)
    clear m7
    refine e_then ?_
    refine c_false s29_7 ?_
    refine wp_skip ?_
    refine e_in ?_
    refine e_then ?_
    refine c_region ?_
    refine l_q rfl (q_move _ _ rfl s3_7.ev ?_)
    refine l_q rfl (q_add (((k + 1 : Nat) : Int)) rfl (At.hit z7 rfl).ev rfl (i64_is (by omega) (by omega) (by omega)) ?_)
    refine l_q rfl (q_assign _ _ rfl (At.hit z7.put rfl).ev ?_)
    refine l_end ?_
    refine e_fresh z7.put.put.put ?_
    intro a8 z8 m8
    have s0_8 := m8 _ _ (((s0_7.ne rfl).ne rfl).ne rfl)
    have s3_8 := m8 _ _ (At.hit z7.put.put rfl)
    clear m8
    exact ⟨z8, s0_8, s3_8, low3⟩
  · intro a9 w9 h
    obtain ⟨z9, s0_9, s3_9, low9⟩ := h
    clear s0_2 s3_2 z2
    have hle := fewN_le l
    have h60 := fewN_60 l
    refine c_seq ?_
    refine c_seq ?_
    by_cases hb10 : fewN l < l.length
    · skip
      refine c_region ?_
      refine l_q rfl (q_move _ _ rfl s3_9.ev ?_)
      refine l_q rfl (q_move _ _ rfl (s0_9.ne rfl).ev ?_)
      refine l_q rfl (q_lenF rfl rfl Try.underlying22 (At.hit z9.put rfl).ev (hv.low low9) ?_)
      refine l_q rfl (q_lss true rfl (((At.hit z9 rfl).ne rfl).ne rfl).ev (At.hit z9.put.put rfl).ev (decide_eq_true (by omega)) ?_)
      refine l_end ?_
      refine e_fresh z9.put.put.put.put ?_
      intro a11 z11 m11
      have s0_11 := m11 _ _ ((((s0_9.ne rfl).ne rfl).ne rfl).ne rfl)
      have s3_11 := m11 _ _ ((((s3_9.ne rfl).ne rfl).ne rfl).ne rfl)
      have s7_11 := m11 _ _ (At.hit z9.put.put.put rfl)
      clear m11
      refine e_then ?_
      refine c_true s7_11 ?_
      refine wp_skip ?_
      refine e_then ?_
      refine c_seq ?_
      refine wp_block ?_
      refine c_seq ?_
      by_cases hb12 : 60 ≤ fewN l
      · skip
        refine c_region ?_
        refine l_q rfl (q_move _ _ rfl s3_11.ev ?_)
        refine l_q rfl (q_geq true rfl (At.hit z11 rfl).ev rfl (decide_eq_true (by omega)) ?_)
        refine l_q rfl (q_move _ _ rfl (At.hit z11.put rfl).ev ?_)
        refine l_skip (wanted_is (j := 2) (d := 12) (b := true) rfl rfl (At.hit z11.put.put rfl) rfl) ?_
        refine l_skip (wanted_is (j := 2) (d := 12) (b := true) rfl rfl ((At.hit z11.put.put rfl).ne rfl) rfl) ?_
        refine l_skip (wanted_is (j := 2) (d := 12) (b := true) rfl rfl (((At.hit z11.put.put rfl).ne rfl).ne rfl) rfl) ?_
        refine l_skip (wanted_is (j := 2) (d := 12) (b := true) rfl rfl ((((At.hit z11.put.put rfl).ne rfl).ne rfl).ne rfl) rfl) ?_
        refine l_skip (wanted_is (j := 2) (d := 12) (b := true) rfl rfl (((((At.hit z11.put.put rfl).ne rfl).ne rfl).ne rfl).ne rfl) rfl) ?_
        refine l_fresh z11.put.put.put.put.put.put.put.put ?_
        intro a13 z13 m13
        have s0_13 := m13 _ _ ((((((((s0_11.ne rfl).ne rfl).ne rfl).ne rfl).ne rfl).ne rfl).ne rfl).ne rfl)
        have s3_13 := m13 _ _ ((((((((s3_11.ne rfl).ne rfl).ne rfl).ne rfl).ne rfl).ne rfl).ne rfl).ne rfl)
        have s12_13 := m13 _ _ ((((((At.hit z11.put.put rfl).ne rfl).ne rfl).ne rfl).ne rfl).ne rfl)
        have s17_13 := m13 _ _ (At.hit z11.put.put.put.put.put.put.put rfl)
        clear m13
        refine l_skip (wanted_is (j := 2) (d := 12) (b := true) rfl rfl s12_13 rfl) ?_
        refine l_skip (wanted_is (j := 2) (d := 12) (b := true) rfl rfl (s12_13.ne rfl) rfl) ?_
        refine l_q rfl (q_pick (b := true) (.bool true) rfl ((s12_13.ne rfl).ne rfl).ev rfl ?_)
        refine l_q rfl (q_move _ _ rfl (At.hit z13.put.put rfl).ev ?_)
        refine l_skip (wanted_is (j := 11) (d := 21) (b := true) rfl rfl (At.hit z13.put.put.put rfl) rfl) ?_
        refine l_skip (wanted_is (j := 11) (d := 21) (b := true) rfl rfl ((At.hit z13.put.put.put rfl).ne rfl) rfl) ?_
        refine l_skip (wanted_is (j := 11) (d := 21) (b := true) rfl rfl (((At.hit z13.put.put.put rfl).ne rfl).ne rfl) rfl) ?_
        refine l_skip (wanted_is (j := 11) (d := 21) (b := true) rfl rfl ((((At.hit z13.put.put.put rfl).ne rfl).ne rfl).ne rfl) rfl) ?_
        refine l_fresh z13.put.put.put.put.put.put.put.put ?_
        intro a14 z14 m14
        have s3_14 := m14 _ _ ((((((((s3_13.ne rfl).ne rfl).ne rfl).ne rfl).ne rfl).ne rfl).ne rfl).ne rfl)
        have s21_14 := m14 _ _ (((((At.hit z13.put.put.put rfl).ne rfl).ne rfl).ne rfl).ne rfl)
        have s25_14 := m14 _ _ (At.hit z13.put.put.put.put.put.put.put rfl)
        clear m14
        refine l_skip (wanted_is (j := 11) (d := 21) (b := true) rfl rfl s21_14 rfl) ?_
        refine l_skip (wanted_is (j := 11) (d := 21) (b := true) rfl rfl (s21_14.ne rfl) rfl) ?_
        refine l_skip (wanted_is (j := 11) (d := 21) (b := true) rfl rfl ((s21_14.ne rfl).ne rfl) rfl) ?_
        refine l_q rfl (q_pick (b := true) (.bool true) rfl (((s21_14.ne rfl).ne rfl).ne rfl).ev rfl ?_)
        refine l_end ?_
        refine e_fresh z14.put.put.put.put ?_
        intro a15 z15 m15
        have s3_15 := m15 _ _ ((((s3_14.ne rfl).ne rfl).ne rfl).ne rfl)
        have s29_15 := m15 _ _ (At.hit z14.put.put.put rfl)
        clear m15
        refine e_then ?_
        refine c_true s29_15 ?_
        refine c_seq ?_
        refine c_region ?_
        refine l_q rfl (q_assign _ _ rfl rfl ?_)
        refine l_end ?_
        refine e_fresh z15.put ?_
        intro a16 z16 m16
        have s2_16 := m16 _ _ (At.hit z15 rfl)
        clear m16
        refine e_then ?_
        refine wp_ret ?_
        refine ret_in ?_
        refine ret_then ?_
        refine ret_then ?_
        refine ret_in ?_
        refine ret_then ?_
        refine r_tmp rfl z16.defers s2_16 ?_
        exact ⟨by unfold fewB; rw [decide_eq_true hb10]; rfl, low9⟩
      · skip
        by_cases hb17 : 400 < (l.getD (fewN l) zL).f0.size
        · skip
          refine c_region ?_
          refine l_q rfl (q_move _ _ rfl s3_11.ev ?_)
          refine l_q rfl (q_geq false rfl (At.hit z11 rfl).ev rfl (decide_eq_false (by omega)) ?_)
          refine l_q rfl (q_move _ _ rfl (At.hit z11.put rfl).ev ?_)
          refine l_qg (wanted_is (j := 2) (d := 12) (b := false) rfl rfl (At.hit z11.put.put rfl) rfl) (q_move _ _ rfl (((s0_11.ne rfl).ne rfl).ne rfl).ev ?_)
          refine l_qg (wanted_is (j := 2) (d := 12) (b := false) rfl rfl ((At.hit z11.put.put rfl).ne rfl) rfl) (q_move _ _ rfl ((((s3_11.ne rfl).ne rfl).ne rfl).ne rfl).ev ?_)
          refine l_qg (wanted_is (j := 2) (d := 12) (b := false) rfl rfl (((At.hit z11.put.put rfl).ne rfl).ne rfl) rfl) (q_idxF (j := (fewN l)) rfl Try.underlying22 sz37 ((At.hit z11.put.put.put rfl).ne rfl).ev (hv.low low9) (At.hit z11.put.put.put.put rfl).ev (by omega) ?_)
          refine l_qg (wanted_is (j := 2) (d := 12) (b := false) rfl rfl ((((At.hit z11.put.put rfl).ne rfl).ne rfl).ne rfl) rfl) (q_fldF 0 rfl fld37_0 (At.hit z11.put.put.put.put.put rfl).ev ((hv.low low9).form (by omega)) ?_)
          refine l_qg (wanted_is (j := 2) (d := 12) (b := false) rfl rfl (((((At.hit z11.put.put rfl).ne rfl).ne rfl).ne rfl).ne rfl) rfl) (q_ld1 (u := .string ((l.getD (fewN l) zL).f0)) rfl Try.underlying9 rfl (At.hit z11.put.put.put.put.put.put rfl).ev (fun _ e => by rw [e]; exact (hv.low low9)) (by omega) ((flat_at encL_len zL _ (fewN l) 0 (by omega) (by decide)).trans rfl) ?_)
          refine l_fresh z11.put.put.put.put.put.put.put.put ?_
          intro a18 z18 m18
          have s0_18 := m18 _ _ ((((((((s0_11.ne rfl).ne rfl).ne rfl).ne rfl).ne rfl).ne rfl).ne rfl).ne rfl)
          have s3_18 := m18 _ _ ((((((((s3_11.ne rfl).ne rfl).ne rfl).ne rfl).ne rfl).ne rfl).ne rfl).ne rfl)
          have s12_18 := m18 _ _ ((((((At.hit z11.put.put rfl).ne rfl).ne rfl).ne rfl).ne rfl).ne rfl)
          have s17_18 := m18 _ _ (At.hit z11.put.put.put.put.put.put.put rfl)
          clear m18
          refine l_qg (wanted_is (j := 2) (d := 12) (b := false) rfl rfl s12_18 rfl) (q_len rfl rfl Try.underlying9 s17_18.ev ?_)
          refine l_qg (wanted_is (j := 2) (d := 12) (b := false) rfl rfl (s12_18.ne rfl) rfl) (q_gtr true rfl (At.hit z18 rfl).ev rfl (decide_eq_true (by omega)) ?_)
          refine l_q rfl (q_pick (b := false) (.bool true) rfl ((s12_18.ne rfl).ne rfl).ev (At.hit z18.put rfl).ev ?_)
          refine l_q rfl (q_move _ _ rfl (At.hit z18.put.put rfl).ev ?_)
          refine l_skip (wanted_is (j := 11) (d := 21) (b := true) rfl rfl (At.hit z18.put.put.put rfl) rfl) ?_
          refine l_skip (wanted_is (j := 11) (d := 21) (b := true) rfl rfl ((At.hit z18.put.put.put rfl).ne rfl) rfl) ?_
          refine l_skip (wanted_is (j := 11) (d := 21) (b := true) rfl rfl (((At.hit z18.put.put.put rfl).ne rfl).ne rfl) rfl) ?_
          refine l_skip (wanted_is (j := 11) (d := 21) (b := true) rfl rfl ((((At.hit z18.put.put.put rfl).ne rfl).ne rfl).ne rfl) rfl) ?_
          refine l_fresh z18.put.put.put.put.put.put.put.put ?_
          intro a19 z19 m19
          have s3_19 := m19 _ _ ((((((((s3_18.ne rfl).ne rfl).ne rfl).ne rfl).ne rfl).ne rfl).ne rfl).ne rfl)
          have s21_19 := m19 _ _ (((((At.hit z18.put.put.put rfl).ne rfl).ne rfl).ne rfl).ne rfl)
          have s25_19 := m19 _ _ (At.hit z18.put.put.put.put.put.put.put rfl)
          clear m19
          refine l_skip (wanted_is (j := 11) (d := 21) (b := true) rfl rfl s21_19 rfl) ?_
          refine l_skip (wanted_is (j := 11) (d := 21) (b := true) rfl rfl (s21_19.ne rfl) rfl) ?_
          refine l_skip (wanted_is (j := 11) (d := 21) (b := true) rfl rfl ((s21_19.ne rfl).ne rfl) rfl) ?_
          refine l_q rfl (q_pick (b := true) (.bool true) rfl (((s21_19.ne rfl).ne rfl).ne rfl).ev rfl ?_)
          refine l_end ?_
          refine e_fresh z19.put.put.put.put ?_
          intro a20 z20 m20
          have s3_20 := m20 _ _ ((((s3_19.ne rfl).ne rfl).ne rfl).ne rfl)
          have s29_20 := m20 _ _ (At.hit z19.put.put.put rfl)
          clear m20
          refine e_then ?_
          refine c_true s29_20 ?_
          refine c_seq ?_
          refine c_region ?_
          refine l_q rfl (q_assign _ _ rfl rfl ?_)
          refine l_end ?_
          refine e_fresh z20.put ?_
          intro a21 z21 m21
          have s2_21 := m21 _ _ (At.hit z20 rfl)
          clear m21
          refine e_then ?_
          refine wp_ret ?_
          refine ret_in ?_
          refine ret_then ?_
          refine ret_then ?_
          refine ret_in ?_
          refine ret_then ?_
          refine r_tmp rfl z21.defers s2_21 ?_
          exact ⟨by unfold fewB; rw [decide_eq_true hb10]; rfl, low9⟩
        · skip
          by_cases hb22 : 100 < (l.getD (fewN l) zL).f2.size
          · skip
            refine c_region ?_
            refine l_q rfl (q_move _ _ rfl s3_11.ev ?_)
            refine l_q rfl (q_geq false rfl (At.hit z11 rfl).ev rfl (decide_eq_false (by omega)) ?_)
            refine l_q rfl (q_move _ _ rfl (At.hit z11.put rfl).ev ?_)
            refine l_qg (wanted_is (j := 2) (d := 12) (b := false) rfl rfl (At.hit z11.put.put rfl) rfl) (q_move _ _ rfl (((s0_11.ne rfl).ne rfl).ne rfl).ev ?_)
            refine l_qg (wanted_is (j := 2) (d := 12) (b := false) rfl rfl ((At.hit z11.put.put rfl).ne rfl) rfl) (q_move _ _ rfl ((((s3_11.ne rfl).ne rfl).ne rfl).ne rfl).ev ?_)
            refine l_qg (wanted_is (j := 2) (d := 12) (b := false) rfl rfl (((At.hit z11.put.put rfl).ne rfl).ne rfl) rfl) (q_idxF (j := (fewN l)) rfl Try.underlying22 sz37 ((At.hit z11.put.put.put rfl).ne rfl).ev (hv.low low9) (At.hit z11.put.put.put.put rfl).ev (by omega) ?_)
            refine l_qg (wanted_is (j := 2) (d := 12) (b := false) rfl rfl ((((At.hit z11.put.put rfl).ne rfl).ne rfl).ne rfl) rfl) (q_fldF 0 rfl fld37_0 (At.hit z11.put.put.put.put.put rfl).ev ((hv.low low9).form (by omega)) ?_)
            refine l_qg (wanted_is (j := 2) (d := 12) (b := false) rfl rfl (((((At.hit z11.put.put rfl).ne rfl).ne rfl).ne rfl).ne rfl) rfl) (q_ld1 (u := .string ((l.getD (fewN l) zL).f0)) rfl Try.underlying9 rfl (At.hit z11.put.put.put.put.put.put rfl).ev (fun _ e => by rw [e]; exact (hv.low low9)) (by omega) ((flat_at encL_len zL _ (fewN l) 0 (by omega) (by decide)).trans rfl) ?_)
            refine l_fresh z11.put.put.put.put.put.put.put.put ?_
            intro a23 z23 m23
            have s0_23 := m23 _ _ ((((((((s0_11.ne rfl).ne rfl).ne rfl).ne rfl).ne rfl).ne rfl).ne rfl).ne rfl)
            have s3_23 := m23 _ _ ((((((((s3_11.ne rfl).ne rfl).ne rfl).ne rfl).ne rfl).ne rfl).ne rfl).ne rfl)
            have s12_23 := m23 _ _ ((((((At.hit z11.put.put rfl).ne rfl).ne rfl).ne rfl).ne rfl).ne rfl)
            have s17_23 := m23 _ _ (At.hit z11.put.put.put.put.put.put.put rfl)
            clear m23
            refine l_qg (wanted_is (j := 2) (d := 12) (b := false) rfl rfl s12_23 rfl) (q_len rfl rfl Try.underlying9 s17_23.ev ?_)
            refine l_qg (wanted_is (j := 2) (d := 12) (b := false) rfl rfl (s12_23.ne rfl) rfl) (q_gtr false rfl (At.hit z23 rfl).ev rfl (decide_eq_false (by omega)) ?_)
            refine l_q rfl (q_pick (b := false) (.bool false) rfl ((s12_23.ne rfl).ne rfl).ev (At.hit z23.put rfl).ev ?_)
            refine l_q rfl (q_move _ _ rfl (At.hit z23.put.put rfl).ev ?_)
            refine l_qg (wanted_is (j := 11) (d := 21) (b := false) rfl rfl (At.hit z23.put.put.put rfl) rfl) (q_move _ _ rfl ((((s0_23.ne rfl).ne rfl).ne rfl).ne rfl).ev ?_)
            refine l_qg (wanted_is (j := 11) (d := 21) (b := false) rfl rfl ((At.hit z23.put.put.put rfl).ne rfl) rfl) (q_move _ _ rfl (((((s3_23.ne rfl).ne rfl).ne rfl).ne rfl).ne rfl).ev ?_)
            refine l_qg (wanted_is (j := 11) (d := 21) (b := false) rfl rfl (((At.hit z23.put.put.put rfl).ne rfl).ne rfl) rfl) (q_idxF (j := (fewN l)) rfl Try.underlying22 sz37 ((At.hit z23.put.put.put.put rfl).ne rfl).ev (hv.low low9) (At.hit z23.put.put.put.put.put rfl).ev (by omega) ?_)
            refine l_qg (wanted_is (j := 11) (d := 21) (b := false) rfl rfl ((((At.hit z23.put.put.put rfl).ne rfl).ne rfl).ne rfl) rfl) (q_fldF 2 rfl fld37_2 (At.hit z23.put.put.put.put.put.put rfl).ev ((hv.low low9).form (by omega)) ?_)
            refine l_fresh z23.put.put.put.put.put.put.put.put ?_
            intro a24 z24 m24
            have s3_24 := m24 _ _ ((((((((s3_23.ne rfl).ne rfl).ne rfl).ne rfl).ne rfl).ne rfl).ne rfl).ne rfl)
            have s21_24 := m24 _ _ (((((At.hit z23.put.put.put rfl).ne rfl).ne rfl).ne rfl).ne rfl)
            have s25_24 := m24 _ _ (At.hit z23.put.put.put.put.put.put.put rfl)
            clear m24
            refine l_qg (wanted_is (j := 11) (d := 21) (b := false) rfl rfl s21_24 rfl) (q_ld1 (u := .string ((l.getD (fewN l) zL).f2)) rfl Try.underlying9 rfl s25_24.ev (fun _ e => by rw [e]; exact (hv.low low9)) (by omega) ((flat_at encL_len zL _ (fewN l) 2 (by omega) (by decide)).trans rfl) ?_)
            refine l_qg (wanted_is (j := 11) (d := 21) (b := false) rfl rfl (s21_24.ne rfl) rfl) (q_len rfl rfl Try.underlying9 (At.hit z24 rfl).ev ?_)
            refine l_qg (wanted_is (j := 11) (d := 21) (b := false) rfl rfl ((s21_24.ne rfl).ne rfl) rfl) (q_gtr true rfl (At.hit z24.put rfl).ev rfl (decide_eq_true (by omega)) ?_)
            refine l_q rfl (q_pick (b := false) (.bool true) rfl (((s21_24.ne rfl).ne rfl).ne rfl).ev (At.hit z24.put.put rfl).ev ?_)
            refine l_end ?_
            refine e_fresh z24.put.put.put.put ?_
            intro a25 z25 m25
            have s3_25 := m25 _ _ ((((s3_24.ne rfl).ne rfl).ne rfl).ne rfl)
            have s29_25 := m25 _ _ (At.hit z24.put.put.put rfl)
            clear m25
            refine e_then ?_
            refine c_true s29_25 ?_
            refine c_seq ?_
            refine c_region ?_
            refine l_q rfl (q_assign _ _ rfl rfl ?_)
            refine l_end ?_
            refine e_fresh z25.put ?_
            intro a26 z26 m26
            have s2_26 := m26 _ _ (At.hit z25 rfl)
            clear m26
            refine e_then ?_
            refine wp_ret ?_
            refine ret_in ?_
            refine ret_then ?_
            refine ret_then ?_
            refine ret_in ?_
            refine ret_then ?_
            refine r_tmp rfl z26.defers s2_26 ?_
            exact ⟨by unfold fewB; rw [decide_eq_true hb10]; rfl, low9⟩
          · skip
            refine c_region ?_
            refine l_q rfl (q_move _ _ rfl s3_11.ev ?_)
            refine l_q rfl (q_geq false rfl (At.hit z11 rfl).ev rfl (decide_eq_false (by omega)) ?_)
            refine l_q rfl (q_move _ _ rfl (At.hit z11.put rfl).ev ?_)
            refine l_qg (wanted_is (j := 2) (d := 12) (b := false) rfl rfl (At.hit z11.put.put rfl) rfl) (q_move _ _ rfl (((s0_11.ne rfl).ne rfl).ne rfl).ev ?_)
            refine l_qg (wanted_is (j := 2) (d := 12) (b := false) rfl rfl ((At.hit z11.put.put rfl).ne rfl) rfl) (q_move _ _ rfl ((((s3_11.ne rfl).ne rfl).ne rfl).ne rfl).ev ?_)
            refine l_qg (wanted_is (j := 2) (d := 12) (b := false) rfl rfl (((At.hit z11.put.put rfl).ne rfl).ne rfl) rfl) (q_idxF (j := (fewN l)) rfl Try.underlying22 sz37 ((At.hit z11.put.put.put rfl).ne rfl).ev (hv.low low9) (At.hit z11.put.put.put.put rfl).ev (by omega) ?_)
            refine l_qg (wanted_is (j := 2) (d := 12) (b := false) rfl rfl ((((At.hit z11.put.put rfl).ne rfl).ne rfl).ne rfl) rfl) (q_fldF 0 rfl fld37_0 (At.hit z11.put.put.put.put.put rfl).ev ((hv.low low9).form (by omega)) ?_)
            refine l_qg (wanted_is (j := 2) (d := 12) (b := false) rfl rfl (((((At.hit z11.put.put rfl).ne rfl).ne rfl).ne rfl).ne rfl) rfl) (q_ld1 (u := .string ((l.getD (fewN l) zL).f0)) rfl Try.underlying9 rfl (At.hit z11.put.put.put.put.put.put rfl).ev (fun _ e => by rw [e]; exact (hv.low low9)) (by omega) ((flat_at encL_len zL _ (fewN l) 0 (by omega) (by decide)).trans rfl) ?_)
            refine l_fresh z11.put.put.put.put.put.put.put.put ?_
            intro a27 z27 m27
            have s0_27 := m27 _ _ ((((((((s0_11.ne rfl).ne rfl).ne rfl).ne rfl).ne rfl).ne rfl).ne rfl).ne rfl)
            have s3_27 := m27 _ _ ((((((((s3_11.ne rfl).ne rfl).ne rfl).ne rfl).ne rfl).ne rfl).ne rfl).ne rfl)
            have s12_27 := m27 _ _ ((((((At.hit z11.put.put rfl).ne rfl).ne rfl).ne rfl).ne rfl).ne rfl)
            have s17_27 := m27 _ _ (At.hit z11.put.put.put.put.put.put.put rfl)
            clear m27
            refine l_qg (wanted_is (j := 2) (d := 12) (b := false) rfl rfl s12_27 rfl) (q_len rfl rfl Try.underlying9 s17_27.ev ?_)
            refine l_qg (wanted_is (j := 2) (d := 12) (b := false) rfl rfl (s12_27.ne rfl) rfl) (q_gtr false rfl (At.hit z27 rfl).ev rfl (decide_eq_false (by omega)) ?_)
            refine l_q rfl (q_pick (b := false) (.bool false) rfl ((s12_27.ne rfl).ne rfl).ev (At.hit z27.put rfl).ev ?_)
            refine l_q rfl (q_move _ _ rfl (At.hit z27.put.put rfl).ev ?_)
            refine l_qg (wanted_is (j := 11) (d := 21) (b := false) rfl rfl (At.hit z27.put.put.put rfl) rfl) (q_move _ _ rfl ((((s0_27.ne rfl).ne rfl).ne rfl).ne rfl).ev ?_)
            refine l_qg (wanted_is (j := 11) (d := 21) (b := false) rfl rfl ((At.hit z27.put.put.put rfl).ne rfl) rfl) (q_move _ _ rfl (((((s3_27.ne rfl).ne rfl).ne rfl).ne rfl).ne rfl).ev ?_)
            refine l_qg (wanted_is (j := 11) (d := 21) (b := false) rfl rfl (((At.hit z27.put.put.put rfl).ne rfl).ne rfl) rfl) (q_idxF (j := (fewN l)) rfl Try.underlying22 sz37 ((At.hit z27.put.put.put.put rfl).ne rfl).ev (hv.low low9) (At.hit z27.put.put.put.put.put rfl).ev (by omega) ?_)
            refine l_qg (wanted_is (j := 11) (d := 21) (b := false) rfl rfl ((((At.hit z27.put.put.put rfl).ne rfl).ne rfl).ne rfl) rfl) (q_fldF 2 rfl fld37_2 (At.hit z27.put.put.put.put.put.put rfl).ev ((hv.low low9).form (by omega)) ?_)
            refine l_fresh z27.put.put.put.put.put.put.put.put ?_
            intro a28 z28 m28
            have s3_28 := m28 _ _ ((((((((s3_27.ne rfl).ne rfl).ne rfl).ne rfl).ne rfl).ne rfl).ne rfl).ne rfl)
            have s21_28 := m28 _ _ (((((At.hit z27.put.put.put rfl).ne rfl).ne rfl).ne rfl).ne rfl)
            have s25_28 := m28 _ _ (At.hit z27.put.put.put.put.put.put.put rfl)
            clear m28
            refine l_qg (wanted_is (j := 11) (d := 21) (b := false) rfl rfl s21_28 rfl) (q_ld1 (u := .string ((l.getD (fewN l) zL).f2)) rfl Try.underlying9 rfl s25_28.ev (fun _ e => by rw [e]; exact (hv.low low9)) (by omega) ((flat_at encL_len zL _ (fewN l) 2 (by omega) (by decide)).trans rfl) ?_)
            refine l_qg (wanted_is (j := 11) (d := 21) (b := false) rfl rfl (s21_28.ne rfl) rfl) (q_len rfl rfl Try.underlying9 (At.hit z28 rfl).ev ?_)
            refine l_qg (wanted_is (j := 11) (d := 21) (b := false) rfl rfl ((s21_28.ne rfl).ne rfl) rfl) (q_gtr false rfl (At.hit z28.put rfl).ev rfl (decide_eq_false (by omega)) ?_)
            refine l_q rfl (q_pick (b := false) (.bool false) rfl (((s21_28.ne rfl).ne rfl).ne rfl).ev (At.hit z28.put.put rfl).ev ?_)
            refine l_end ?_
            refine e_fresh z28.put.put.put.put ?_
            intro a29 z29 m29
            have s3_29 := m29 _ _ ((((s3_28.ne rfl).ne rfl).ne rfl).ne rfl)
            have s29_29 := m29 _ _ (At.hit z28.put.put.put rfl)
            clear m29
            refine e_then ?_
            refine c_false s29_29 ?_
            refine wp_skip ?_
            refine e_in ?_
            refine e_then ?_
            refine c_region ?_
            refine l_q rfl (q_move _ _ rfl s3_29.ev ?_)
            refine l_q rfl (q_add ((((fewN l) + 1 : Nat) : Int)) rfl (At.hit z29 rfl).ev rfl (i64_is (by omega) (by omega) (by omega)) ?_)
            refine l_q rfl (q_assign _ _ rfl (At.hit z29.put rfl).ev ?_)
            refine l_end ?_
            refine e_fresh z29.put.put.put ?_
            intro a30 z30 m30
            clear m30
            exact absurd ⟨Nat.lt_of_not_le hb12, Nat.le_of_not_lt hb17, Nat.le_of_not_lt hb22⟩ (fewN_stop hb10)
    · skip
      refine c_region ?_
      refine l_q rfl (q_move _ _ rfl s3_9.ev ?_)
      refine l_q rfl (q_move _ _ rfl (s0_9.ne rfl).ev ?_)
      refine l_q rfl (q_lenF rfl rfl Try.underlying22 (At.hit z9.put rfl).ev (hv.low low9) ?_)
      refine l_q rfl (q_lss false rfl (((At.hit z9 rfl).ne rfl).ne rfl).ev (At.hit z9.put.put rfl).ev (decide_eq_false (by omega)) ?_)
      refine l_end ?_
      refine e_fresh z9.put.put.put.put ?_
      intro a31 z31 m31
      have s0_31 := m31 _ _ ((((s0_9.ne rfl).ne rfl).ne rfl).ne rfl)
      have s3_31 := m31 _ _ ((((s3_9.ne rfl).ne rfl).ne rfl).ne rfl)
      have s7_31 := m31 _ _ (At.hit z9.put.put.put rfl)
      clear m31
      refine e_then ?_
      refine c_false s7_31 ?_
      refine wp_exit ?_
      refine x_then ?_
      refine x_then ?_
      refine in_exit ?_
      refine e_then ?_
      refine c_seq ?_
      refine c_region ?_
      refine l_q rfl (q_assign _ _ rfl rfl ?_)
      refine l_end ?_
      refine e_fresh z31.put ?_
      intro a32 z32 m32
      have s2_32 := m32 _ _ (At.hit z31 rfl)
      clear m32
      refine e_then ?_
      refine wp_ret ?_
      refine r_tmp rfl z32.defers s2_32 ?_
      exact ⟨by unfold fewB; rw [decide_eq_false hb10]; rfl, low9⟩
end Go.Proofs.Ytenbgnlkkmnmhaa.Q
end
/-! M5 -/
section
namespace Go.Proofs.Ytenbgnlkkmnmhaa.Q
open Go.RowKit
set_option linter.unusedSimpArgs false
def pathsD (b o t : List LfR) : List ByteArray := pathsR [b, o, t]
theorem pathsD_len (b o t : List LfR) : (pathsD b o t).length ≤ b.length + o.length + t.length := by
  unfold pathsD pathsR
  refine Nat.le_trans (foldl_ins_len _ _) ?_
  simp
  omega
def cellR (b o t : List LfR) (p : ByteArray) : LfR := if ¬ findR o p = findR t p ∧ findR o p = findR b p then findR t p else findR o p
def clashR (b o t : List LfR) (p : ByteArray) : Bool := decide (¬ findR o p = findR t p ∧ ¬ findR o p = findR b p ∧ ¬ findR t p = findR b p)
section
variable {b o t : List LfR} {p : ByteArray}
theorem cellR_1 (h : ¬ ¬ findR o p = findR t p) : cellR b o t p = findR o p := if_neg fun k => h k.1
theorem cellR_2 (h1 : ¬ findR o p = findR t p) (h2 : findR o p = findR b p) : cellR b o t p = findR t p := if_pos ⟨h1, h2⟩
theorem cellR_3 (h2 : ¬ findR o p = findR b p) : cellR b o t p = findR o p := if_neg fun k => h2 k.2
theorem clashR_1 (h : ¬ ¬ findR o p = findR t p) : clashR b o t p = false := decide_eq_false fun k => h k.1
theorem clashR_2 (h : findR o p = findR b p) : clashR b o t p = false := decide_eq_false fun k => k.2.1 h
theorem clashR_3 (h : ¬ ¬ findR t p = findR b p) : clashR b o t p = false := decide_eq_false fun k => h k.2.2
theorem clashR_4 (h1 : ¬ findR o p = findR t p) (h2 : ¬ findR o p = findR b p) (h3 : ¬ findR t p = findR b p) : clashR b o t p = true := decide_eq_true ⟨h1, h2, h3⟩
end
def outR (b o t : List LfR) (ps : List ByteArray) : List LfR := (ps.map (cellR b o t)).filter fun x => decide (¬ x = zR)
def badR (b o t : List LfR) (ps : List ByteArray) : List ByteArray := ps.filter (clashR b o t)
section
variable {b o t : List LfR} {ps : List ByteArray} {k : Nat}
theorem outR_next {x : LfR} (hk : k < ps.length) (h : cellR b o t (ps.getD k ByteArray.empty) = x) (hx : ¬ x = zR) : outR b o t (ps.take k) ++ [x] = outR b o t (ps.take (k + 1)) := by
  unfold outR
  rw [getD_next ps k ByteArray.empty hk, List.map_append, List.filter_append, List.map_singleton, h]
  simp [hx]
theorem outR_skip {x : LfR} (hk : k < ps.length) (h : cellR b o t (ps.getD k ByteArray.empty) = x) (hx : ¬ ¬ x = zR) : outR b o t (ps.take k) = outR b o t (ps.take (k + 1)) := by
  unfold outR
  rw [getD_next ps k ByteArray.empty hk, List.map_append, List.filter_append, List.map_singleton, h]
  simp [Decidable.not_not.1 hx]
theorem badR_next (hk : k < ps.length) (h : clashR b o t (ps.getD k ByteArray.empty) = true) : badR b o t (ps.take k) ++ [ps.getD k ByteArray.empty] = badR b o t (ps.take (k + 1)) := by
  unfold badR
  rw [getD_next ps k ByteArray.empty hk, List.filter_append, List.filter_cons_of_pos h]
  rfl
theorem badR_skip (hk : k < ps.length) (h : clashR b o t (ps.getD k ByteArray.empty) = false) : badR b o t (ps.take k) = badR b o t (ps.take (k + 1)) := by
  unfold badR
  rw [getD_next ps k ByteArray.empty hk, List.filter_append, List.filter_cons_of_neg (by rw [h]; decide)]
  simp
end
theorem outR_len (b o t : List LfR) (ps : List ByteArray) (k n : Nat) (h : ps.length ≤ n) : (outR b o t (ps.take k)).length ≤ n := by
  unfold outR
  refine Nat.le_trans (List.length_filter_le _ _) ?_
  rw [List.length_map, List.length_take]
  omega
def outS (b o t : List LfR) : List LfR := outR b o t (pathsD b o t)
def badS (b o t : List LfR) : List ByteArray := badR b o t (pathsD b o t)
theorem outS_end (b o t : List LfR) : outR b o t ((pathsD b o t).take (pathsD b o t).length) = outS b o t := by rw [List.take_of_length_le (Nat.le_refl _)]; rfl
theorem badS_end (b o t : List LfR) : badR b o t ((pathsD b o t).take (pathsD b o t).length) = badS b o t := by rw [List.take_of_length_le (Nat.le_refl _)]; rfl
def mapB (ks : List ByteArray) : List (ByteArray × Value) := ks.foldl (fun m k => mput m k (.bool true)) []
def memB (k : ByteArray) (ks : List ByteArray) : Bool := ks.any fun x => decide (x = k)
theorem memB_iff (k : ByteArray) (ks : List ByteArray) : memB k ks = true ↔ k ∈ ks := by
  unfold memB
  rw [List.any_eq_true]
  constructor
  · rintro ⟨x, hx, h⟩
    exact of_decide_eq_true h ▸ hx
  · intro h
    exact ⟨k, h, decide_eq_true rfl⟩
theorem mapB_snoc (ks : List ByteArray) (k : ByteArray) : mput (mapB ks) k (.bool true) = mapB (ks ++ [k]) := by
  unfold mapB
  rw [List.foldl_append]
  rfl
theorem look_mapB (ks : List ByteArray) (k : ByteArray) : (mlook (mapB ks) k).getD (.bool false) = .bool (memB k ks) := by
  have key : ∀ (ks : List ByteArray) (m : List (ByteArray × Value)) (r : Bool), (mlook m k).getD (.bool false) = .bool r →
      (mlook (ks.foldl (fun m k => mput m k (.bool true)) m) k).getD (.bool false) = .bool (r || memB k ks) := by
    intro ks
    induction ks with
    | nil => intro m r h; rw [show memB k [] = false from rfl, Bool.or_false]; exact h
    | cons x ks ih =>
      intro m r h
      rw [List.foldl_cons, show memB k (x :: ks) = (decide (x = k) || memB k ks) from rfl]
      by_cases hx : x = k
      · rw [ih _ true (by rw [mlook_put, if_pos hx]; rfl), decide_eq_true hx]
        simp
      · rw [ih _ r (by rw [mlook_put, if_neg hx]; exact h), decide_eq_false hx, Bool.false_or]
  have := key ks [] false rfl
  rw [Bool.false_or] at this
  exact this
def inR (a : List ByteArray) (l : List LfR) (i : Nat) : Nat → List ByteArray
  | 0 => a
  | m + 1 => if within (l.getD m zR).f0 (l.getD i zR).f0 = true then inR a l i m ++ [(l.getD i zR).f0] else inR a l i m
def dirR (a : List ByteArray) (l : List LfR) : Nat → List ByteArray
  | 0 => a
  | k + 1 => inR (dirR a l k) l k l.length
theorem inR_next {a : List ByteArray} {l : List LfR} {i m : Nat} (h : within (l.getD m zR).f0 (l.getD i zR).f0 = true) : mput (mapB (inR a l i m)) (l.getD i zR).f0 (.bool true) = mapB (inR a l i (m + 1)) := by rw [mapB_snoc, inR, if_pos h]
theorem inR_skip {a : List ByteArray} {l : List LfR} {i m : Nat} (h : within (l.getD m zR).f0 (l.getD i zR).f0 = false) : mapB (inR a l i m) = mapB (inR a l i (m + 1)) := by rw [inR, if_neg (by rw [h]; decide)]
def keysS (b o t : List LfR) : List ByteArray := dirR (badS b o t) (outS b o t) (outS b o t).length
def wantR (ks ps : List ByteArray) : List ByteArray := ps.filter fun p => memB p ks
theorem want_next {ks ps : List ByteArray} {k : Nat} (hk : k < ps.length) (h : memB (ps.getD k ByteArray.empty) ks = true) : wantR ks (ps.take k) ++ [ps.getD k ByteArray.empty] = wantR ks (ps.take (k + 1)) := by
  unfold wantR
  rw [getD_next ps k ByteArray.empty hk, List.filter_append]
  generalize ps.getD k ByteArray.empty = q at *
  simp [h]
theorem want_skip {ks ps : List ByteArray} {k : Nat} (hk : k < ps.length) (h : memB (ps.getD k ByteArray.empty) ks = false) : wantR ks (ps.take k) = wantR ks (ps.take (k + 1)) := by
  unfold wantR
  rw [getD_next ps k ByteArray.empty hk, List.filter_append]
  generalize ps.getD k ByteArray.empty = q at *
  simp [h]
theorem want_len (ks ps : List ByteArray) (k n : Nat) (h : ps.length ≤ n) : (wantR ks (ps.take k)).length ≤ n := by
  unfold wantR
  refine Nat.le_trans (List.length_filter_le _ _) ?_
  rw [List.length_take]
  omega
def wantS (b o t : List LfR) : List ByteArray := wantR (keysS b o t) (pathsD b o t)
theorem wantS_end (b o t : List LfR) : wantR (keysS b o t) ((pathsD b o t).take (pathsD b o t).length) = wantS b o t := by rw [List.take_of_length_le (Nat.le_refl _)]; rfl
def ordAt (l : List LfL) (i : Nat) : Prop := ¬ (l.getD i zL).f0 = ⟨#[]⟩ ∧ (0 < i → lessB (l.getD (i - 1) zL).f0 (l.getD i zL).f0 = true)
instance ordDec (l : List LfL) (i : Nat) : Decidable (ordAt l i) := by unfold ordAt; infer_instance
def ordN (l : List LfL) : Nat := (List.range l.length).findIdx fun i => decide (¬ ordAt l i)
theorem ordN_le (l : List LfL) : ordN l ≤ l.length := by
  have := List.findIdx_le_length (xs := List.range l.length) (p := fun i => decide (¬ ordAt l i))
  rwa [List.length_range] at this
theorem ordN_round {l : List LfL} {i : Nat} (h : i < ordN l) : ordAt l i := by
  have h1 := List.not_of_lt_findIdx h
  rw [List.getElem_range] at h1
  simpa using h1
theorem ordN_stop {l : List LfL} (h : ordN l < l.length) : ¬ ordAt l (ordN l) := by
  have h1 : decide (¬ ordAt l ((List.range l.length)[ordN l]'(by rw [List.length_range]; exact h))) = true := List.findIdx_getElem (w := by rw [List.length_range]; exact h)
  rw [List.getElem_range] at h1
  exact of_decide_eq_true h1
def rowOk (l : List LfL) : Bool := fewB l && decide (ordN l = l.length)
def okN (L : List (List LfL)) : Nat := L.findIdx fun l => !rowOk l
theorem okN_le (L : List (List LfL)) : okN L ≤ L.length := List.findIdx_le_length
theorem okN_round {L : List (List LfL)} {i : Nat} (h : i < okN L) : rowOk (L.getD i []) = true := by
  have h1 : i < L.length := Nat.lt_of_lt_of_le h (okN_le L)
  have := List.not_of_lt_findIdx h
  rw [List.getD_eq_getElem?_getD, List.getElem?_eq_getElem h1]
  simpa using this
theorem okN_stop {L : List (List LfL)} (h : okN L < L.length) : rowOk (L.getD (okN L) []) = false := by
  have : (!rowOk (L[okN L])) = true := List.findIdx_getElem (w := h)
  rw [List.getD_eq_getElem?_getD, List.getElem?_eq_getElem h]
  rw [Bool.not_eq_true'] at this
  exact this
theorem rowOk_few {l : List LfL} (h : rowOk l = true) : fewB l = true := (Bool.and_eq_true _ _ ▸ h).1
theorem rowOk_ord {l : List LfL} (h : rowOk l = true) : ordN l = l.length := of_decide_eq_true (Bool.and_eq_true _ _ ▸ h).2
theorem rowOk_not {l : List LfL} (h : rowOk l = false) (h' : fewB l = true) : ordN l < l.length := by
  have := ordN_le l
  unfold rowOk at h
  rw [h', Bool.true_and] at h
  have := of_decide_eq_false h
  omega
theorem few_all {l : List LfL} (h : fewB l = true) : l.length ≤ 60 ∧ ∀ i, i < l.length → fewAt l i := by
  unfold fewB at h
  have hn : ¬ fewN l < l.length := by simpa using h
  have hle := fewN_le l
  have hall : ∀ i, i < l.length → fewAt l i := fun i hi => fewN_round (by omega)
  refine ⟨?_, hall⟩
  rcases Nat.lt_or_ge 60 l.length with h | h
  · exact absurd (hall 60 h).1 (by omega)
  · exact h
theorem le_not (s t : ByteArray) : (lessB s t || (s.toList == t.toList)) = !lessB t s := by
  rw [beqS]
  cases h : lessB t s with
  | true =>
    rw [lessB_asymm h, Bool.false_or]
    exact decide_eq_false fun e => lessB_ne h e.symm
  | false =>
    cases h' : lessB s t with
    | true => rfl
    | false => rw [Bool.false_or]; exact decide_eq_true (lessB_tri h' h)
theorem leT {s t : ByteArray} (h : ¬ lessB t s = true) : (lessB s t || (s.toList == t.toList)) = true := by rw [le_not]; simpa using h
theorem leF {s t : ByteArray} (h : lessB t s = true) : (lessB s t || (s.toList == t.toList)) = false := by rw [le_not, h]; rfl
def mayB (L : List (List LfL)) : Bool := decide (okN L = L.length)
end Go.Proofs.Ytenbgnlkkmnmhaa.Q
end
/-! M6 -/
section
namespace Go.Proofs.Ytenbgnlkkmnmhaa.Q
open Go.RowKit
set_option linter.unusedSimpArgs false
theorem toR_inj {x y : LfL} (h : toR x = toR y) : x = y := by
  cases x; cases y
  unfold toR at h
  injection h with h0 h1 h2
  subst h0; subst h1; subst h2
  rfl
theorem toR_iff (x y : LfL) : toR x = toR y ↔ x = y := ⟨toR_inj, fun h => h ▸ rfl⟩
theorem toR_zero (x : LfL) : toR x = zR ↔ x = zL := toR_iff x zL
def RiseL (l : List LfL) : Prop := l.Pairwise fun x y => lessB x.f0 y.f0 = true
theorem fold_none (l : List LfL) (p : ByteArray) (r : LfL) (h : ∀ x ∈ l, ¬ x.f0 = p) : l.foldl (fun r x => if x.f0 = p then x else r) r = r := by
  induction l with
  | nil => rfl
  | cons x l ih =>
    rw [List.foldl_cons, if_neg (h x List.mem_cons_self)]
    exact ih fun y hy => h y (List.mem_cons_of_mem _ hy)
theorem find_same : ∀ (l : List LfL) (p : ByteArray), RiseL l → toR (findL l p) = findR (l.map toR) p
  | [], p, _ => rfl
  | x :: l, p, h => by
    have h' := List.pairwise_cons.1 h
    have ih := find_same l p h'.2
    unfold findL findR idxR at *
    rw [List.foldl_cons, List.map_cons, List.findIdx_cons]
    by_cases hx : x.f0 = p
    · rw [if_pos hx, fold_none l p x (fun y hy e => lessB_ne (h'.1 y hy) (hx.trans e.symm)), decide_eq_true (show (toR x).f0 = p from hx)]
      rfl
    · rw [if_neg hx, decide_eq_false (show ¬ (toR x).f0 = p from hx)]
      exact ih
section
variable {b o t : List LfL}
theorem paths_same : pathsT b o t = pathsD (b.map toR) (o.map toR) (t.map toR) := by
  unfold pathsT pathsD pathsR
  rw [comp_sort]
  congr 1
  simp only [List.flatten_cons, List.flatten_nil, List.append_nil, List.map_append, List.map_map]
  rfl
theorem cell_same (hb : RiseL b) (ho : RiseL o) (ht : RiseL t) (p : ByteArray) : toR (cellT b o t p) = cellR (b.map toR) (o.map toR) (t.map toR) p := by
  unfold cellT cellR
  rw [← find_same b p hb, ← find_same o p ho, ← find_same t p ht]
  simp only [toR_iff]
  by_cases h1 : findL o p = findL t p
  · rw [if_pos (.inl h1), if_neg (fun k => k.1 h1)]
  · by_cases h2 : findL t p = findL b p
    · rw [if_pos (.inr h2), if_neg (fun k => h1 (k.2.trans h2.symm))]
    · rw [if_neg (fun k => k.elim h1 h2)]
      by_cases h3 : findL o p = findL b p
      · rw [if_pos h3, if_pos ⟨h1, h3⟩]
      · rw [if_neg h3, if_neg (fun k => h3 k.2)]
theorem clash_same (hb : RiseL b) (ho : RiseL o) (ht : RiseL t) (p : ByteArray) : clashT b o t p = clashR (b.map toR) (o.map toR) (t.map toR) p := by
  unfold clashT clashR
  rw [← find_same b p hb, ← find_same o p ho, ← find_same t p ht]
  simp only [toR_iff]
  exact decide_eq_decide.2 ⟨fun k => ⟨k.1, k.2.2, k.2.1⟩, fun k => ⟨k.1, k.2.2, k.2.1⟩⟩
theorem outT_same (hb : RiseL b) (ho : RiseL o) (ht : RiseL t) (ps : List ByteArray) : (outT b o t ps).map toR = outR (b.map toR) (o.map toR) (t.map toR) ps := by
  unfold outT outR
  induction ps with
  | nil => rfl
  | cons p ps ih =>
    rw [List.map_cons, List.map_cons, List.filter_cons, List.filter_cons, ← cell_same hb ho ht]
    simp only [toR_zero]
    split
    · rw [List.map_cons, ih]
    · exact ih
theorem out_same (hb : RiseL b) (ho : RiseL o) (ht : RiseL t) : (outF b o t).map toR = outS (b.map toR) (o.map toR) (t.map toR) := by
  unfold outF outS
  rw [outT_same hb ho ht, paths_same]
theorem bad_same (hb : RiseL b) (ho : RiseL o) (ht : RiseL t) : badF b o t = badS (b.map toR) (o.map toR) (t.map toR) := by
  unfold badF badS badT badR
  rw [paths_same, show clashT b o t = clashR (b.map toR) (o.map toR) (t.map toR) from funext fun p => clash_same hb ho ht p]
end
theorem bytes_take (s : ByteArray) (n : Nat) : (s.extract 0 n).data.toList = s.data.toList.take n := by
  simp [ByteArray.data_extract]
theorem bytes_len (s : ByteArray) : s.data.toList.length = s.size := by simp
theorem prefB_iff (s p : ByteArray) : prefB s p = true ↔ p.data.toList <+: s.data.toList := by
  unfold prefB
  rw [List.prefix_iff_eq_take, bytes_len, ← bytes_take]
  split
  · rw [beqS, decide_eq_true_iff]
    exact ⟨fun h => by rw [h], fun h => (ba_ext h).symm⟩
  · rename_i h
    constructor
    · intro h'; cases h'
    · intro h'
      have := congrArg List.length h'
      rw [bytes_take, List.length_take, bytes_len, bytes_len] at this
      omega
theorem within_iff (s d : ByteArray) : within s d = true ↔ (d.data.toList ++ [47]) <+: s.data.toList := by
  unfold within
  rw [List.prefix_iff_eq_take, List.length_append, bytes_len]
  split
  · rename_i h
    have hd : d.size < s.data.toList.length := by rw [bytes_len]; exact h
    have e : s.data.toList.take (d.size + [(47 : UInt8)].length) = s.data.toList.take d.size ++ [s.data.toList[d.size]] := by
      rw [List.length_singleton, List.take_succ_eq_append_getElem hd]
    have e2 : s.data.toList[d.size] = s[d.size] := by simp; rfl
    rw [e, e2, Bool.and_eq_true, decide_eq_true_iff, decide_eq_true_iff, ← bytes_take]
    constructor
    · rintro ⟨h1, h2⟩
      rw [h1]
      congr 2
      have : (s[d.size]).toNat = 47 := by omega
      exact UInt8.toNat_inj.1 this.symm
    · intro h1
      obtain ⟨h2, h3⟩ := List.append_inj' h1 rfl
      refine ⟨(ba_ext h2).symm, ?_⟩
      injection h3 with h3 _
      rw [← h3]
      rfl
  · rename_i h
    constructor
    · intro h'; cases h'
    · intro h'
      have := congrArg List.length h'
      rw [List.length_append, List.length_take, bytes_len, bytes_len, List.length_singleton] at this
      omega
theorem pref_slash (y x : ByteArray) : prefB y (x ++ slash) = within y x := by
  rw [Bool.eq_iff_iff, prefB_iff, within_iff]
  have : (x ++ slash).data.toList = x.data.toList ++ [47] := by
    rw [ByteArray.data_append, Array.toList_append]
    rfl
  rw [this]
theorem list_lt_more : ∀ (l : List UInt8) (c : UInt8) (r : List UInt8), l < l ++ c :: r
  | [], c, r => List.nil_lt_cons c r
  | x :: l, c, r => by
    rw [List.cons_append, List.cons_lt_cons_iff]
    exact .inr ⟨rfl, list_lt_more l c r⟩
theorem within_less {y x : ByteArray} (h : within y x = true) : lessB x y = true := by
  obtain ⟨r, hr⟩ := (within_iff y x).1 h
  rw [lessB_iff, ← hr, List.append_assoc]
  exact list_lt_more _ _ _
theorem out_sub (b o t : List LfL) : ∀ ps : List ByteArray, ((outT b o t ps).map (·.f0)).Sublist ps
  | [] => .slnil
  | p :: ps => by
    have ih := out_sub b o t ps
    unfold outT at *
    rw [List.map_cons, List.filter_cons]
    split
    · rename_i h
      rcases cellT_mem b o t p with h' | h'
      · exact absurd h' (of_decide_eq_true h)
      · rw [List.map_cons, h'.2]
        exact ih.cons_cons p
    · exact ih.cons p
theorem pathsT_rise (b o t : List LfL) : Rise (pathsT b o t) := compB_rise _ (sortB_sorted _)
theorem outF_rise (b o t : List LfL) : RiseL (outF b o t) := by
  have h := List.Pairwise.sublist (out_sub b o t (pathsT b o t)) (pathsT_rise b o t)
  exact List.pairwise_map.1 h
theorem getD_toR (l : List LfL) (i : Nat) : ((l.map toR).getD i zR).f0 = (l.getD i zL).f0 := by
  rw [List.getD_eq_getElem?_getD, List.getD_eq_getElem?_getD, List.getElem?_map]
  cases l[i]? <;> rfl
theorem under_iff {l : List LfL} (h : RiseL l) {k : Nat} (hk : k < l.length) : underB l k = true ↔ ∃ m, m < l.length ∧ within (l.getD m zL).f0 (l.getD k zL).f0 = true := by
  unfold underB
  rw [List.any_eq_true]
  constructor
  · rintro ⟨y, hy, hp⟩
    obtain ⟨i, hi, rfl⟩ := List.mem_iff_getElem.1 hy
    rw [List.length_drop] at hi
    refine ⟨k + i, by omega, ?_⟩
    rw [List.getElem_drop, pref_slash] at hp
    rw [List.getD_eq_getElem?_getD, List.getElem?_eq_getElem (show k + i < l.length by omega)]
    exact hp
  · rintro ⟨m, hm, hw⟩
    have hlt := within_less hw
    have g : ∀ i, (hi : i < l.length) → l.getD i zL = l[i] := fun i hi => by rw [List.getD_eq_getElem?_getD, List.getElem?_eq_getElem hi]; rfl
    rw [g m hm, g k hk] at hlt hw
    have hkm : k ≤ m := by
      rcases Nat.lt_or_ge m k with h' | h'
      · have := lessB_asymm (List.pairwise_iff_getElem.1 h m k hm hk h')
        rw [hlt] at this
        cases this
      · exact h'
    refine ⟨l[m], ?_, by rw [pref_slash, g k hk]; exact hw⟩
    rw [List.mem_iff_getElem]
    exact ⟨m - k, by rw [List.length_drop]; omega, by rw [List.getElem_drop]; congr 1; omega⟩
theorem dirs_mem (a : List ByteArray) (l : List LfL) (x : ByteArray) : ∀ n, x ∈ dirsF a l n ↔ x ∈ a ∨ ∃ k, k < n ∧ underB l k = true ∧ x = (l.getD k zL).f0
  | 0 => by simp [dirsF]
  | n + 1 => by
    have ih := dirs_mem a l x n
    unfold dirsF
    split
    · rename_i h
      rw [List.mem_append, List.mem_singleton, ih]
      constructor
      · rintro ((h1 | ⟨k, hk, h1, h2⟩) | h1)
        · exact .inl h1
        · exact .inr ⟨k, by omega, h1, h2⟩
        · exact .inr ⟨n, by omega, h, h1⟩
      · rintro (h1 | ⟨k, hk, h1, h2⟩)
        · exact .inl (.inl h1)
        · rcases Nat.lt_or_ge k n with h3 | h3
          · exact .inl (.inr ⟨k, h3, h1, h2⟩)
          · obtain rfl : k = n := by omega
            exact .inr h2
    · rename_i h
      rw [ih]
      constructor
      · rintro (h1 | ⟨k, hk, h1, h2⟩)
        · exact .inl h1
        · exact .inr ⟨k, by omega, h1, h2⟩
      · rintro (h1 | ⟨k, hk, h1, h2⟩)
        · exact .inl h1
        · rcases Nat.lt_or_ge k n with h3 | h3
          · exact .inr ⟨k, h3, h1, h2⟩
          · obtain rfl : k = n := by omega
            exact absurd h1 h
theorem inR_mem (a : List ByteArray) (l : List LfR) (i : Nat) (x : ByteArray) : ∀ n, x ∈ inR a l i n ↔ x ∈ a ∨ ∃ m, m < n ∧ within (l.getD m zR).f0 (l.getD i zR).f0 = true ∧ x = (l.getD i zR).f0
  | 0 => by simp [inR]
  | n + 1 => by
    have ih := inR_mem a l i x n
    unfold inR
    split
    · rename_i h
      rw [List.mem_append, List.mem_singleton, ih]
      constructor
      · rintro ((h1 | ⟨k, hk, h1, h2⟩) | h1)
        · exact .inl h1
        · exact .inr ⟨k, by omega, h1, h2⟩
        · exact .inr ⟨n, by omega, h, h1⟩
      · rintro (h1 | ⟨k, hk, h1, h2⟩)
        · exact .inl (.inl h1)
        · exact .inr h2
    · rename_i h
      rw [ih]
      constructor
      · rintro (h1 | ⟨k, hk, h1, h2⟩)
        · exact .inl h1
        · exact .inr ⟨k, by omega, h1, h2⟩
      · rintro (h1 | ⟨k, hk, h1, h2⟩)
        · exact .inl h1
        · rcases Nat.lt_or_ge k n with h3 | h3
          · exact .inr ⟨k, h3, h1, h2⟩
          · obtain rfl : k = n := by omega
            exact absurd h1 h
theorem dirR_mem (a : List ByteArray) (l : List LfR) (x : ByteArray) : ∀ n, x ∈ dirR a l n ↔ x ∈ a ∨ ∃ k, k < n ∧ ∃ m, m < l.length ∧ within (l.getD m zR).f0 (l.getD k zR).f0 = true ∧ x = (l.getD k zR).f0
  | 0 => by simp [dirR]
  | n + 1 => by
    have ih := dirR_mem a l x n
    unfold dirR
    rw [inR_mem, ih]
    constructor
    · rintro ((h1 | ⟨k, hk, m, hm, h1, h2⟩) | ⟨m, hm, h1, h2⟩)
      · exact .inl h1
      · exact .inr ⟨k, by omega, m, hm, h1, h2⟩
      · exact .inr ⟨n, by omega, m, hm, h1, h2⟩
    · rintro (h1 | ⟨k, hk, m, hm, h1, h2⟩)
      · exact .inl (.inl h1)
      · rcases Nat.lt_or_ge k n with h3 | h3
        · exact .inl (.inr ⟨k, h3, m, hm, h1, h2⟩)
        · obtain rfl : k = n := by omega
          exact .inr ⟨m, hm, h1, h2⟩
theorem badA_rise (b o t : List LfL) : Rise (badA b o t) := compB_rise _ (sortB_sorted _)
theorem badA_mem (b o t : List LfL) (x : ByteArray) : x ∈ badA b o t ↔ x ∈ badF b o t ∨ ∃ k, k < (outF b o t).length ∧ underB (outF b o t) k = true ∧ x = ((outF b o t).getD k zL).f0 := by
  unfold badA
  rw [compB_mem, sortB_mem]
  exact dirs_mem _ _ _ _
/-- the conflicts are the document's -/
theorem want_same {b o t : List LfL} (hb : RiseL b) (ho : RiseL o) (ht : RiseL t) : badA b o t = wantS (b.map toR) (o.map toR) (t.map toR) := by
  have hps : pathsD (b.map toR) (o.map toR) (t.map toR) = pathsT b o t := paths_same.symm
  refine rise_ext (badA_rise b o t) ?_ fun x => ?_
  · unfold wantS wantR
    rw [hps]
    exact (pathsT_rise b o t).filter _
  · unfold wantS wantR keysS
    rw [badA_mem, List.mem_filter, memB_iff, dirR_mem, hps, ← bad_same hb ho ht, ← out_same hb ho ht]
    simp only [getD_toR, List.length_map]
    constructor
    · rintro (h | ⟨k, hk, hu, rfl⟩)
      · exact ⟨(List.mem_filter.1 h).1, .inl h⟩
      · obtain ⟨m, hm, hw⟩ := (under_iff (outF_rise b o t) hk).1 hu
        refine ⟨?_, .inr ⟨k, hk, m, hm, hw, rfl⟩⟩
        have := out_mem (x := (outF b o t)[k]) (List.getElem_mem hk)
        rw [List.getD_eq_getElem?_getD, List.getElem?_eq_getElem hk]
        exact this.2.1
    · rintro ⟨_, h | ⟨k, hk, m, hm, hw, rfl⟩⟩
      · exact .inl h
      · exact .inr ⟨k, hk, (under_iff (outF_rise b o t) hk).2 ⟨m, hm, hw⟩, rfl⟩
theorem badA_len (b o t : List LfL) : (badA b o t).length ≤ (badF b o t).length + (outF b o t).length := by
  unfold badA compB
  rw [List.length_map]
  refine Nat.le_trans (compact_len _ _) ?_
  rw [sortB_len]
  exact dirs_len _ _ _
theorem okRow {l : List LfL} (h : rowOk l = true) : RiseL l ∧ shortL l ∧ l.length ≤ 60 ∧ ∀ x ∈ l, ¬ x.f0 = ⟨#[]⟩ := by
  obtain ⟨h60, hf⟩ := few_all (rowOk_few h)
  have ho := rowOk_ord h
  have hat : ∀ i, i < l.length → ordAt l i := fun i hi => ordN_round (by omega)
  have g : ∀ i, (hi : i < l.length) → l.getD i zL = l[i] := fun i hi => by rw [List.getD_eq_getElem?_getD, List.getElem?_eq_getElem hi]; rfl
  refine ⟨?_, ?_, h60, ?_⟩
  · have key : ∀ j i, (hij : i < j) → (hj : j < l.length) → lessB (l[i]'(by omega)).f0 l[j].f0 = true := by
      intro j
      induction j with
      | zero => intro i hij; omega
      | succ j ih =>
        intro i hij hj
        have h1 := (hat (j + 1) hj).2 (by omega)
        rw [Nat.add_sub_cancel, g j (by omega), g (j + 1) hj] at h1
        by_cases hi : i = j
        · subst hi; exact h1
        · exact lessB_trans (ih i (by omega) (by omega)) h1
    exact List.pairwise_iff_getElem.2 fun i j hi hj hij => key j i hij hj
  · intro x hx
    obtain ⟨i, hi, rfl⟩ := List.mem_iff_getElem.1 hx
    have := (hf i hi).2.1
    rw [g i hi] at this
    omega
  · intro x hx
    obtain ⟨i, hi, rfl⟩ := List.mem_iff_getElem.1 hx
    have := (hat i hi).1
    rw [g i hi] at this
    exact this
theorem may3 {b o t : List LfL} (h : mayB [b, o, t] = true) : rowOk b = true ∧ rowOk o = true ∧ rowOk t = true := by
  have h := of_decide_eq_true h
  have h3 : okN [b, o, t] = 3 := h
  exact ⟨okN_round (L := [b, o, t]) (i := 0) (by omega), okN_round (L := [b, o, t]) (i := 1) (by omega), okN_round (L := [b, o, t]) (i := 2) (by omega)⟩
end Go.Proofs.Ytenbgnlkkmnmhaa.Q
end
/-! E3 -/
section
namespace Go.Proofs.Ytenbgnlkkmnmhaa.Q
open Go.RowKit Go.Proofs.Ytenbgnlkkmnmhaa.P
open Go.Proofs.YtenbgnlkkmnmhaaW.PrintWords (bytesOf bytesOf_length)
set_option linter.unusedVariables false
set_option linter.unusedSimpArgs false
set_option maxRecDepth 100000
set_option maxHeartbeats 4000000
attribute [local irreducible] wpList wpQuiet qch Code.wp Oper.quiet Act.put At Region.wanted yielded
theorem sz22 : (Try.prog.info? 22).map (·.size) = some 1 := by kernel_rfl
theorem sz28 : (Try.prog.info? 28).map (·.size) = some 1 := by kernel_rfl
theorem Paths.calls (v : Value) (vs : List Value) (L : List (List LfR)) (hL : L.flatten.length ≤ 900000) (hLn : L.length ≤ 1000000) (w0 : World) (hv : RdFF w0 3 encR v vs L) : Calls Try.prog 22 #[v] w0 fun e w' => ∃ x, e = .returned x ∧ OwnF w' w0.heap.size 9 1 x (pathsR L).length ((pathsR L).map encS).flatten ∧ Low w0 w' := by
  refine c_fun (R := _) Try.func22 rfl 70 rfl (Nat.le_of_ble_eq_true rfl) ?_
  intro a z hA
  have s0 := hA 0 _ rfl
  clear hA
  refine c_seq ?_
  refine c_region ?_
  refine l_q rfl (q_assign _ _ rfl rfl ?_)
  refine l_end ?_
  refine e_fresh z.put ?_
  intro a1 z1 m1
  have s0_1 := m1 _ _ (s0.ne rfl)
  clear m1
  refine e_then ?_
  refine c_seq ?_
  refine c_region ?_
  refine l_q rfl (q_assign _ _ rfl rfl ?_)
  refine l_end ?_
  refine e_fresh z1.put ?_
  intro a2 z2 m2
  have s0_2 := m2 _ _ (s0_1.ne rfl)
  have s3_2 := m2 _ _ (At.hit z1 rfl)
  clear m2
  refine e_then ?_
  refine c_seq ?_
  refine c_seq ?_
  refine c_region ?_
  refine l_q rfl (q_assign _ _ rfl rfl ?_)
  refine l_end ?_
  refine e_fresh z2.put ?_
  intro a3 z3 m3
  have s0_3 := m3 _ _ (s0_2.ne rfl)
  have s3_3 := m3 _ _ (s3_2.ne rfl)
  have s4_3 := m3 _ _ (At.hit z2 rfl)
  clear m3
  refine e_then ?_
  refine wp_block ?_
  refine c_loop L.length (fun k a w => ∃ v3 : Value, Fr 70 a ∧ At a 0 (v) ∧ At a 3 (v3) ∧ At a 4 (.int .i64 ((k : Nat) : Int)) ∧ OwnF w w0.heap.size 9 1 v3 (pathsN L k 0).length (((pathsN L k 0).map encS).flatten) ∧ Low w0 w) ?_ ?_ ?_
  · exact ⟨.slice none 0 0, z3, s0_3, s3_3, s4_3, (OwnF.nil _ _ _ _), (Low.refl _)⟩
  · intro k a4 w4 hk4 h
    obtain ⟨v3_4, z4, s0_4, s3_4, s4_4, ox3_4, low4⟩ := h
    clear s0_3 s3_3 s4_3 z3
    refine c_seq ?_
    refine c_seq ?_
    refine c_region ?_
    refine l_q rfl (q_move _ _ rfl s4_4.ev ?_)
    refine l_q rfl (q_move _ _ rfl (s0_4.ne rfl).ev ?_)
    refine l_q rfl (q_lenF rfl rfl Try.underlying58 (At.hit z4.put rfl).ev (hv.low low4).1 ?_)
    refine l_q rfl (q_lss true rfl (((At.hit z4 rfl).ne rfl).ne rfl).ev (At.hit z4.put.put rfl).ev (decide_eq_true (by omega)) ?_)
    refine l_end ?_
    refine e_fresh z4.put.put.put.put ?_
    intro a5 z5 m5
    have s0_5 := m5 _ _ ((((s0_4.ne rfl).ne rfl).ne rfl).ne rfl)
    have s3_5 := m5 _ _ ((((s3_4.ne rfl).ne rfl).ne rfl).ne rfl)
    have s4_5 := m5 _ _ ((((s4_4.ne rfl).ne rfl).ne rfl).ne rfl)
    have s11_5 := m5 _ _ (At.hit z4.put.put.put rfl)
    clear m5
    refine e_then ?_
    refine c_true s11_5 ?_
    refine wp_skip ?_
    refine e_then ?_
    refine c_seq ?_
    refine wp_block ?_
    refine c_seq ?_
    refine c_region ?_
    refine l_q rfl (q_assign _ _ rfl rfl ?_)
    refine l_end ?_
    refine e_fresh z5.put ?_
    intro a6 z6 m6
    have s0_6 := m6 _ _ (s0_5.ne rfl)
    have s3_6 := m6 _ _ (s3_5.ne rfl)
    have s4_6 := m6 _ _ (s4_5.ne rfl)
    have s5_6 := m6 _ _ (At.hit z5 rfl)
    clear m6
    refine e_then ?_
    refine wp_block ?_
    refine c_loop ((L.getD k []).length) (fun m a w => ∃ v3 : Value, Fr 70 a ∧ At a 0 (v) ∧ At a 3 (v3) ∧ At a 4 (.int .i64 ((k : Nat) : Int)) ∧ At a 5 (.int .i64 ((m : Nat) : Int)) ∧ OwnF w w0.heap.size 9 1 v3 (pathsN L k m).length (((pathsN L k m).map encS).flatten) ∧ Low w0 w) ?_ ?_ ?_
    · exact ⟨v3_4, z6, s0_6, s3_6, s4_6, s5_6, ox3_4, low4⟩
    · intro m a7 w7 hk7 h
      obtain ⟨v3_7, z7, s0_7, s3_7, s4_7, s5_7, ox3_7, low7⟩ := h
      clear low4 s0_6 s3_6 s4_6 s5_6 z6
      have hrl := row_len L k 900000 (by omega) hL
      have hpl := pathsN_len L k m 900000 (by omega) hL
      refine c_seq ?_
      refine c_seq ?_
      refine c_region ?_
      refine l_q rfl (q_move _ _ rfl s5_7.ev ?_)
      refine l_q rfl (q_move _ _ rfl (s0_7.ne rfl).ev ?_)
      refine l_q rfl (q_move _ _ rfl ((s4_7.ne rfl).ne rfl).ev ?_)
      refine l_q rfl (q_idxF (j := k) rfl Try.underlying58 sz28 ((At.hit z7.put rfl).ne rfl).ev (hv.low low7).1 (At.hit z7.put.put rfl).ev (by omega) ?_)
      refine l_q rfl (q_ld1 (u := (vs.getD k nilS)) rfl Try.underlying28 rfl (At.hit z7.put.put.put rfl).ev (fun _ e => by rw [e]; exact (hv.low low7).1) (by omega) (RdFF.cell (hv.low low7) (by omega)) ?_)
      refine l_q rfl (q_lenF rfl rfl Try.underlying28 (At.hit z7.put.put.put.put rfl).ev (RdFF.row (k := k) (hv.low low7) (by omega)) ?_)
      refine l_q rfl (q_lss true rfl ((((((At.hit z7 rfl).ne rfl).ne rfl).ne rfl).ne rfl).ne rfl).ev (At.hit z7.put.put.put.put.put rfl).ev (decide_eq_true (by omega)) ?_)
      refine l_end ?_
      refine e_fresh z7.put.put.put.put.put.put.put ?_
      intro a9 z9 m9
      have s0_9 := m9 _ _ (((((((s0_7.ne rfl).ne rfl).ne rfl).ne rfl).ne rfl).ne rfl).ne rfl)
      have s3_9 := m9 _ _ (((((((s3_7.ne rfl).ne rfl).ne rfl).ne rfl).ne rfl).ne rfl).ne rfl)
      have s4_9 := m9 _ _ (((((((s4_7.ne rfl).ne rfl).ne rfl).ne rfl).ne rfl).ne rfl).ne rfl)
      have s5_9 := m9 _ _ (((((((s5_7.ne rfl).ne rfl).ne rfl).ne rfl).ne rfl).ne rfl).ne rfl)
      have s20_9 := m9 _ _ (At.hit z7.put.put.put.put.put.put rfl)
      clear m9
      refine e_then ?_
      refine c_true s20_9 ?_
      refine wp_skip ?_
      refine e_then ?_
      refine c_seq ?_
      refine wp_block ?_
      refine c_seq ?_
      refine c_region ?_
      refine l_q rfl (q_move _ _ rfl s0_9.ev ?_)
      refine l_q rfl (q_move _ _ rfl (s4_9.ne rfl).ev ?_)
      refine l_q rfl (q_idxF (j := k) rfl Try.underlying58 sz28 ((At.hit z9 rfl).ne rfl).ev (hv.low low7).1 (At.hit z9.put rfl).ev (by omega) ?_)
      refine l_q rfl (q_ld1 (u := (vs.getD k nilS)) rfl Try.underlying28 rfl (At.hit z9.put.put rfl).ev (fun _ e => by rw [e]; exact (hv.low low7).1) (by omega) (RdFF.cell (hv.low low7) (by omega)) ?_)
      refine l_q rfl (q_move _ _ rfl ((((s5_9.ne rfl).ne rfl).ne rfl).ne rfl).ev ?_)
      refine l_q rfl (q_idxF (j := m) rfl Try.underlying28 sz52 ((At.hit z9.put.put.put rfl).ne rfl).ev (RdFF.row (k := k) (hv.low low7) (by omega)) (At.hit z9.put.put.put.put rfl).ev (by omega) ?_)
      refine l_q rfl (q_fldF 0 rfl fld52_0 (At.hit z9.put.put.put.put.put rfl).ev ((RdFF.row (k := k) (hv.low low7) (by omega)).form (by omega)) ?_)
      refine l_q rfl (q_ld1 (u := .string (((L.getD k []).getD m zR).f0)) rfl Try.underlying9 rfl (At.hit z9.put.put.put.put.put.put rfl).ev (fun _ e => by rw [e]; exact (RdFF.row (k := k) (hv.low low7) (by omega))) (by omega) ((flat_at encR_len zR _ m 0 (by omega) (by decide)).trans rfl) ?_)
      refine l_fresh z9.put.put.put.put.put.put.put.put ?_
      intro a11 z11 m11
      have s0_11 := m11 _ _ ((((((((s0_9.ne rfl).ne rfl).ne rfl).ne rfl).ne rfl).ne rfl).ne rfl).ne rfl)
      have s3_11 := m11 _ _ ((((((((s3_9.ne rfl).ne rfl).ne rfl).ne rfl).ne rfl).ne rfl).ne rfl).ne rfl)
      have s4_11 := m11 _ _ ((((((((s4_9.ne rfl).ne rfl).ne rfl).ne rfl).ne rfl).ne rfl).ne rfl).ne rfl)
      have s5_11 := m11 _ _ ((((((((s5_9.ne rfl).ne rfl).ne rfl).ne rfl).ne rfl).ne rfl).ne rfl).ne rfl)
      have s30_11 := m11 _ _ (At.hit z9.put.put.put.put.put.put.put rfl)
      clear m11
      refine l_q rfl (q_assign _ _ rfl s30_11.ev ?_)
      refine l_end ?_
      refine e_fresh z11.put ?_
      intro a12 z12 m12
      have s0_12 := m12 _ _ (s0_11.ne rfl)
      have s3_12 := m12 _ _ (s3_11.ne rfl)
      have s4_12 := m12 _ _ (s4_11.ne rfl)
      have s5_12 := m12 _ _ (s5_11.ne rfl)
      have s6_12 := m12 _ _ (At.hit z11 rfl)
      clear m12
      refine e_then ?_
      refine c_seq ?_
      refine c_region ?_
      refine l_q rfl (q_assign _ _ rfl rfl ?_)
      refine l_end ?_
      refine e_fresh z12.put ?_
      intro a13 z13 m13
      have s0_13 := m13 _ _ (s0_12.ne rfl)
      have s3_13 := m13 _ _ (s3_12.ne rfl)
      have s4_13 := m13 _ _ (s4_12.ne rfl)
      have s5_13 := m13 _ _ (s5_12.ne rfl)
      have s6_13 := m13 _ _ (s6_12.ne rfl)
      have s7_13 := m13 _ _ (At.hit z12 rfl)
      clear m13
      refine e_then ?_
      refine c_seq ?_
      refine wp_block ?_
      refine c_loop (cutP (pathsN L k m) ((L.getD k []).getD m zR).f0) (fun j a w => Fr 70 a ∧ At a 0 (v) ∧ At a 3 (v3_7) ∧ At a 4 (.int .i64 ((k : Nat) : Int)) ∧ At a 5 (.int .i64 ((m : Nat) : Int)) ∧ At a 6 (.string (((L.getD k []).getD m zR).f0)) ∧ At a 7 (.int .i64 ((j : Nat) : Int)) ∧ OwnF w w0.heap.size 9 1 v3_7 (pathsN L k m).length (((pathsN L k m).map encS).flatten) ∧ Low w0 w) ?_ ?_ ?_
      · exact ⟨z13, s0_13, s3_13, s4_13, s5_13, s6_13, s7_13, ox3_7, low7⟩
      · intro j a14 w14 hk14 h
        obtain ⟨z14, s0_14, s3_14, s4_14, s5_14, s6_14, s7_14, ox3_14, low14⟩ := h
        clear low7 s0_13 s3_13 s4_13 s5_13 s6_13 s7_13 z13
        have hcl := cutP_le (pathsN L k m) ((L.getD k []).getD m zR).f0
        refine c_seq ?_
        refine c_seq ?_
        refine c_region ?_
        refine l_q rfl (q_move _ _ rfl s7_14.ev ?_)
        refine l_q rfl (q_move _ _ rfl (s3_14.ne rfl).ev ?_)
        refine l_q rfl (q_lenF rfl rfl Try.underlying25 (At.hit z14.put rfl).ev ox3_14.rd ?_)
        refine l_q rfl (q_lss true rfl (((At.hit z14 rfl).ne rfl).ne rfl).ev (At.hit z14.put.put rfl).ev (decide_eq_true (by omega)) ?_)
        refine l_q rfl (q_move _ _ rfl (At.hit z14.put.put.put rfl).ev ?_)
        refine l_qg (wanted_is (j := 4) (d := 35) (b := true) rfl rfl (At.hit z14.put.put.put.put rfl) rfl) (q_move _ _ rfl (((((s3_14.ne rfl).ne rfl).ne rfl).ne rfl).ne rfl).ev ?_)
        refine l_qg (wanted_is (j := 4) (d := 35) (b := true) rfl rfl ((At.hit z14.put.put.put.put rfl).ne rfl) rfl) (q_move _ _ rfl ((((((s7_14.ne rfl).ne rfl).ne rfl).ne rfl).ne rfl).ne rfl).ev ?_)
        refine l_qg (wanted_is (j := 4) (d := 35) (b := true) rfl rfl (((At.hit z14.put.put.put.put rfl).ne rfl).ne rfl) rfl) (q_idxF (j := j) rfl Try.underlying25 sz9 ((At.hit z14.put.put.put.put.put rfl).ne rfl).ev ox3_14.rd (At.hit z14.put.put.put.put.put.put rfl).ev (by omega) ?_)
        refine l_fresh z14.put.put.put.put.put.put.put.put ?_
        intro a15 z15 m15
        have s0_15 := m15 _ _ ((((((((s0_14.ne rfl).ne rfl).ne rfl).ne rfl).ne rfl).ne rfl).ne rfl).ne rfl)
        have s3_15 := m15 _ _ ((((((((s3_14.ne rfl).ne rfl).ne rfl).ne rfl).ne rfl).ne rfl).ne rfl).ne rfl)
        have s4_15 := m15 _ _ ((((((((s4_14.ne rfl).ne rfl).ne rfl).ne rfl).ne rfl).ne rfl).ne rfl).ne rfl)
        have s5_15 := m15 _ _ ((((((((s5_14.ne rfl).ne rfl).ne rfl).ne rfl).ne rfl).ne rfl).ne rfl).ne rfl)
        have s6_15 := m15 _ _ ((((((((s6_14.ne rfl).ne rfl).ne rfl).ne rfl).ne rfl).ne rfl).ne rfl).ne rfl)
        have s7_15 := m15 _ _ ((((((((s7_14.ne rfl).ne rfl).ne rfl).ne rfl).ne rfl).ne rfl).ne rfl).ne rfl)
        have s35_15 := m15 _ _ ((((At.hit z14.put.put.put.put rfl).ne rfl).ne rfl).ne rfl)
        have s38_15 := m15 _ _ (At.hit z14.put.put.put.put.put.put.put rfl)
        clear m15
        refine l_qg (wanted_is (j := 4) (d := 35) (b := true) rfl rfl s35_15 rfl) (q_ld1 (u := .string ((pathsN L k m).getD j ByteArray.empty)) rfl Try.underlying9 rfl s38_15.ev (fun _ e => by rw [e]; exact ox3_14.rd) (by omega) ((flat_at encS_len ByteArray.empty _ j 0 (by omega) (by decide)).trans rfl) ?_)
        refine l_qg (wanted_is (j := 4) (d := 35) (b := true) rfl rfl (s35_15.ne rfl) rfl) (q_move _ _ rfl (s6_15.ne rfl).ev ?_)
        refine l_qg (wanted_is (j := 4) (d := 35) (b := true) rfl rfl ((s35_15.ne rfl).ne rfl) rfl) (q_strlss true rfl ((At.hit z15 rfl).ne rfl).ev (At.hit z15.put rfl).ev (cutP_round (by assumption)) ?_)
        refine l_q rfl (q_pick (b := true) (.bool true) rfl (((s35_15.ne rfl).ne rfl).ne rfl).ev (At.hit z15.put.put rfl).ev ?_)
        refine l_end ?_
        refine e_fresh z15.put.put.put.put ?_
        intro a16 z16 m16
        have s0_16 := m16 _ _ ((((s0_15.ne rfl).ne rfl).ne rfl).ne rfl)
        have s3_16 := m16 _ _ ((((s3_15.ne rfl).ne rfl).ne rfl).ne rfl)
        have s4_16 := m16 _ _ ((((s4_15.ne rfl).ne rfl).ne rfl).ne rfl)
        have s5_16 := m16 _ _ ((((s5_15.ne rfl).ne rfl).ne rfl).ne rfl)
        have s6_16 := m16 _ _ ((((s6_15.ne rfl).ne rfl).ne rfl).ne rfl)
        have s7_16 := m16 _ _ ((((s7_15.ne rfl).ne rfl).ne rfl).ne rfl)
        have s42_16 := m16 _ _ (At.hit z15.put.put.put rfl)
        clear m16
        refine e_then ?_
        refine c_true s42_16 ?_
        refine wp_skip ?_
        refine e_then ?_
        refine wp_block ?_
        refine c_region ?_
        refine l_q rfl (q_move _ _ rfl s7_16.ev ?_)
        refine l_q rfl (q_add (((j + 1 : Nat) : Int)) rfl (At.hit z16 rfl).ev rfl (i64_is (by omega) (by omega) (by omega)) ?_)
        refine l_q rfl (q_assign _ _ rfl (At.hit z16.put rfl).ev ?_)
        refine l_end ?_
        refine e_fresh z16.put.put.put ?_
        intro a17 z17 m17
        have s0_17 := m17 _ _ (((s0_16.ne rfl).ne rfl).ne rfl)
        have s3_17 := m17 _ _ (((s3_16.ne rfl).ne rfl).ne rfl)
        have s4_17 := m17 _ _ (((s4_16.ne rfl).ne rfl).ne rfl)
        have s5_17 := m17 _ _ (((s5_16.ne rfl).ne rfl).ne rfl)
        have s6_17 := m17 _ _ (((s6_16.ne rfl).ne rfl).ne rfl)
        have s7_17 := m17 _ _ (At.hit z16.put.put rfl)
        clear m17
        refine e_in ?_
        exact ⟨z17, s0_17, s3_17, s4_17, s5_17, s6_17, s7_17, ox3_14, low14⟩
      · intro a18 w18 h
        obtain ⟨z18, s0_18, s3_18, s4_18, s5_18, s6_18, s7_18, ox3_18, low18⟩ := h
        clear low7 s0_13 s3_13 s4_13 s5_13 s6_13 s7_13 z13
        have hcl := cutP_le (pathsN L k m) ((L.getD k []).getD m zR).f0
        refine c_seq ?_
        refine c_seq ?_
        by_cases hb19 : cutP (pathsN L k m) ((L.getD k []).getD m zR).f0 < (pathsN L k m).length
        · skip
          refine c_region ?_
          refine l_q rfl (q_move _ _ rfl s7_18.ev ?_)
          refine l_q rfl (q_move _ _ rfl (s3_18.ne rfl).ev ?_)
          refine l_q rfl (q_lenF rfl rfl Try.underlying25 (At.hit z18.put rfl).ev ox3_18.rd ?_)
          refine l_q rfl (q_lss true rfl (((At.hit z18 rfl).ne rfl).ne rfl).ev (At.hit z18.put.put rfl).ev (decide_eq_true (by omega)) ?_)
          refine l_q rfl (q_move _ _ rfl (At.hit z18.put.put.put rfl).ev ?_)
          refine l_qg (wanted_is (j := 4) (d := 35) (b := true) rfl rfl (At.hit z18.put.put.put.put rfl) rfl) (q_move _ _ rfl (((((s3_18.ne rfl).ne rfl).ne rfl).ne rfl).ne rfl).ev ?_)
          refine l_qg (wanted_is (j := 4) (d := 35) (b := true) rfl rfl ((At.hit z18.put.put.put.put rfl).ne rfl) rfl) (q_move _ _ rfl ((((((s7_18.ne rfl).ne rfl).ne rfl).ne rfl).ne rfl).ne rfl).ev ?_)
          refine l_qg (wanted_is (j := 4) (d := 35) (b := true) rfl rfl (((At.hit z18.put.put.put.put rfl).ne rfl).ne rfl) rfl) (q_idxF (j := (cutP (pathsN L k m) ((L.getD k []).getD m zR).f0)) rfl Try.underlying25 sz9 ((At.hit z18.put.put.put.put.put rfl).ne rfl).ev ox3_18.rd (At.hit z18.put.put.put.put.put.put rfl).ev (by omega) ?_)
          refine l_fresh z18.put.put.put.put.put.put.put.put ?_
          intro a20 z20 m20
          have s0_20 := m20 _ _ ((((((((s0_18.ne rfl).ne rfl).ne rfl).ne rfl).ne rfl).ne rfl).ne rfl).ne rfl)
          have s3_20 := m20 _ _ ((((((((s3_18.ne rfl).ne rfl).ne rfl).ne rfl).ne rfl).ne rfl).ne rfl).ne rfl)
          have s4_20 := m20 _ _ ((((((((s4_18.ne rfl).ne rfl).ne rfl).ne rfl).ne rfl).ne rfl).ne rfl).ne rfl)
          have s5_20 := m20 _ _ ((((((((s5_18.ne rfl).ne rfl).ne rfl).ne rfl).ne rfl).ne rfl).ne rfl).ne rfl)
          have s6_20 := m20 _ _ ((((((((s6_18.ne rfl).ne rfl).ne rfl).ne rfl).ne rfl).ne rfl).ne rfl).ne rfl)
          have s7_20 := m20 _ _ ((((((((s7_18.ne rfl).ne rfl).ne rfl).ne rfl).ne rfl).ne rfl).ne rfl).ne rfl)
          have s35_20 := m20 _ _ ((((At.hit z18.put.put.put.put rfl).ne rfl).ne rfl).ne rfl)
          have s38_20 := m20 _ _ (At.hit z18.put.put.put.put.put.put.put rfl)
          clear m20
          refine l_qg (wanted_is (j := 4) (d := 35) (b := true) rfl rfl s35_20 rfl) (q_ld1 (u := .string ((pathsN L k m).getD (cutP (pathsN L k m) ((L.getD k []).getD m zR).f0) ByteArray.empty)) rfl Try.underlying9 rfl s38_20.ev (fun _ e => by rw [e]; exact ox3_18.rd) (by omega) ((flat_at encS_len ByteArray.empty _ (cutP (pathsN L k m) ((L.getD k []).getD m zR).f0) 0 (by omega) (by decide)).trans rfl) ?_)
          refine l_qg (wanted_is (j := 4) (d := 35) (b := true) rfl rfl (s35_20.ne rfl) rfl) (q_move _ _ rfl (s6_20.ne rfl).ev ?_)
          refine l_qg (wanted_is (j := 4) (d := 35) (b := true) rfl rfl ((s35_20.ne rfl).ne rfl) rfl) (q_strlss false rfl ((At.hit z20 rfl).ne rfl).ev (At.hit z20.put rfl).ev (cutP_stop hb19) ?_)
          refine l_q rfl (q_pick (b := true) (.bool false) rfl (((s35_20.ne rfl).ne rfl).ne rfl).ev (At.hit z20.put.put rfl).ev ?_)
          refine l_end ?_
          refine e_fresh z20.put.put.put.put ?_
          intro a21 z21 m21
          have s0_21 := m21 _ _ ((((s0_20.ne rfl).ne rfl).ne rfl).ne rfl)
          have s3_21 := m21 _ _ ((((s3_20.ne rfl).ne rfl).ne rfl).ne rfl)
          have s4_21 := m21 _ _ ((((s4_20.ne rfl).ne rfl).ne rfl).ne rfl)
          have s5_21 := m21 _ _ ((((s5_20.ne rfl).ne rfl).ne rfl).ne rfl)
          have s6_21 := m21 _ _ ((((s6_20.ne rfl).ne rfl).ne rfl).ne rfl)
          have s7_21 := m21 _ _ ((((s7_20.ne rfl).ne rfl).ne rfl).ne rfl)
          have s42_21 := m21 _ _ (At.hit z20.put.put.put rfl)
          clear m21
          refine e_then ?_
          refine c_false s42_21 ?_
          refine wp_exit ?_
          refine x_then ?_
          refine x_then ?_
          refine in_exit ?_
          refine e_then ?_
          refine c_seq ?_
          refine c_seq ?_
          by_cases hb22 : (pathsN L k m).getD (cutP (pathsN L k m) ((L.getD k []).getD m zR).f0) ByteArray.empty = ((L.getD k []).getD m zR).f0
          · skip
            refine c_region ?_
            refine l_q rfl (q_move _ _ rfl s7_21.ev ?_)
            refine l_q rfl (q_move _ _ rfl (s3_21.ne rfl).ev ?_)
            refine l_q rfl (q_lenF rfl rfl Try.underlying25 (At.hit z21.put rfl).ev ox3_18.rd ?_)
            refine l_q rfl (q_lss true rfl (((At.hit z21 rfl).ne rfl).ne rfl).ev (At.hit z21.put.put rfl).ev (decide_eq_true (by omega)) ?_)
            refine l_q rfl (q_move _ _ rfl (At.hit z21.put.put.put rfl).ev ?_)
            refine l_qg (wanted_is (j := 4) (d := 49) (b := true) rfl rfl (At.hit z21.put.put.put.put rfl) rfl) (q_move _ _ rfl (((((s3_21.ne rfl).ne rfl).ne rfl).ne rfl).ne rfl).ev ?_)
            refine l_qg (wanted_is (j := 4) (d := 49) (b := true) rfl rfl ((At.hit z21.put.put.put.put rfl).ne rfl) rfl) (q_move _ _ rfl ((((((s7_21.ne rfl).ne rfl).ne rfl).ne rfl).ne rfl).ne rfl).ev ?_)
            refine l_qg (wanted_is (j := 4) (d := 49) (b := true) rfl rfl (((At.hit z21.put.put.put.put rfl).ne rfl).ne rfl) rfl) (q_idxF (j := (cutP (pathsN L k m) ((L.getD k []).getD m zR).f0)) rfl Try.underlying25 sz9 ((At.hit z21.put.put.put.put.put rfl).ne rfl).ev ox3_18.rd (At.hit z21.put.put.put.put.put.put rfl).ev (by omega) ?_)
            refine l_fresh z21.put.put.put.put.put.put.put.put ?_
            intro a23 z23 m23
            have s0_23 := m23 _ _ ((((((((s0_21.ne rfl).ne rfl).ne rfl).ne rfl).ne rfl).ne rfl).ne rfl).ne rfl)
            have s3_23 := m23 _ _ ((((((((s3_21.ne rfl).ne rfl).ne rfl).ne rfl).ne rfl).ne rfl).ne rfl).ne rfl)
            have s4_23 := m23 _ _ ((((((((s4_21.ne rfl).ne rfl).ne rfl).ne rfl).ne rfl).ne rfl).ne rfl).ne rfl)
            have s5_23 := m23 _ _ ((((((((s5_21.ne rfl).ne rfl).ne rfl).ne rfl).ne rfl).ne rfl).ne rfl).ne rfl)
            have s6_23 := m23 _ _ ((((((((s6_21.ne rfl).ne rfl).ne rfl).ne rfl).ne rfl).ne rfl).ne rfl).ne rfl)
            have s7_23 := m23 _ _ ((((((((s7_21.ne rfl).ne rfl).ne rfl).ne rfl).ne rfl).ne rfl).ne rfl).ne rfl)
            have s49_23 := m23 _ _ ((((At.hit z21.put.put.put.put rfl).ne rfl).ne rfl).ne rfl)
            have s52_23 := m23 _ _ (At.hit z21.put.put.put.put.put.put.put rfl)
            clear m23
            refine l_qg (wanted_is (j := 4) (d := 49) (b := true) rfl rfl s49_23 rfl) (q_ld1 (u := .string ((pathsN L k m).getD (cutP (pathsN L k m) ((L.getD k []).getD m zR).f0) ByteArray.empty)) rfl Try.underlying9 rfl s52_23.ev (fun _ e => by rw [e]; exact ox3_18.rd) (by omega) ((flat_at encS_len ByteArray.empty _ (cutP (pathsN L k m) ((L.getD k []).getD m zR).f0) 0 (by omega) (by decide)).trans rfl) ?_)
            refine l_qg (wanted_is (j := 4) (d := 49) (b := true) rfl rfl (s49_23.ne rfl) rfl) (q_move _ _ rfl (s6_23.ne rfl).ev ?_)
            refine l_qg (wanted_is (j := 4) (d := 49) (b := true) rfl rfl ((s49_23.ne rfl).ne rfl) rfl) (q_streq true rfl ((At.hit z23 rfl).ne rfl).ev (At.hit z23.put rfl).ev (strT hb22) ?_)
            refine l_q rfl (q_pick (b := true) (.bool true) rfl (((s49_23.ne rfl).ne rfl).ne rfl).ev (At.hit z23.put.put rfl).ev ?_)
            refine l_end ?_
            refine e_fresh z23.put.put.put.put ?_
            intro a24 z24 m24
            have s0_24 := m24 _ _ ((((s0_23.ne rfl).ne rfl).ne rfl).ne rfl)
            have s3_24 := m24 _ _ ((((s3_23.ne rfl).ne rfl).ne rfl).ne rfl)
            have s4_24 := m24 _ _ ((((s4_23.ne rfl).ne rfl).ne rfl).ne rfl)
            have s5_24 := m24 _ _ ((((s5_23.ne rfl).ne rfl).ne rfl).ne rfl)
            have s6_24 := m24 _ _ ((((s6_23.ne rfl).ne rfl).ne rfl).ne rfl)
            have s7_24 := m24 _ _ ((((s7_23.ne rfl).ne rfl).ne rfl).ne rfl)
            have s56_24 := m24 _ _ (At.hit z23.put.put.put rfl)
            clear m24
            refine e_then ?_
            refine c_true s56_24 ?_
            refine wp_exit ?_
            refine x_then ?_
            refine in_exit ?_
            refine e_then ?_
            refine c_region ?_
            refine l_q rfl (q_move _ _ rfl s5_24.ev ?_)
            refine l_q rfl (q_add (((m + 1 : Nat) : Int)) rfl (At.hit z24 rfl).ev rfl (i64_is (by omega) (by omega) (by omega)) ?_)
            refine l_q rfl (q_assign _ _ rfl (At.hit z24.put rfl).ev ?_)
            refine l_end ?_
            refine e_fresh z24.put.put.put ?_
            intro a25 z25 m25
            have s0_25 := m25 _ _ (((s0_24.ne rfl).ne rfl).ne rfl)
            have s3_25 := m25 _ _ (((s3_24.ne rfl).ne rfl).ne rfl)
            have s4_25 := m25 _ _ (((s4_24.ne rfl).ne rfl).ne rfl)
            have s5_25 := m25 _ _ (At.hit z24.put.put rfl)
            clear m25
            have c26 := OwnF.castL ox3_18 (show pathsN L k m = pathsN L k (m + 1) from (ins_same hb19 hb22).trans (pathsN_next L k m (by omega)))
            exact ⟨v3_7, z25, s0_25, s3_25, s4_25, s5_25, c26, low18⟩
          · skip
            refine c_region ?_
            refine l_q rfl (q_move _ _ rfl s7_21.ev ?_)
            refine l_q rfl (q_move _ _ rfl (s3_21.ne rfl).ev ?_)
            refine l_q rfl (q_lenF rfl rfl Try.underlying25 (At.hit z21.put rfl).ev ox3_18.rd ?_)
            refine l_q rfl (q_lss true rfl (((At.hit z21 rfl).ne rfl).ne rfl).ev (At.hit z21.put.put rfl).ev (decide_eq_true (by omega)) ?_)
            refine l_q rfl (q_move _ _ rfl (At.hit z21.put.put.put rfl).ev ?_)
            refine l_qg (wanted_is (j := 4) (d := 49) (b := true) rfl rfl (At.hit z21.put.put.put.put rfl) rfl) (q_move _ _ rfl (((((s3_21.ne rfl).ne rfl).ne rfl).ne rfl).ne rfl).ev ?_)
            refine l_qg (wanted_is (j := 4) (d := 49) (b := true) rfl rfl ((At.hit z21.put.put.put.put rfl).ne rfl) rfl) (q_move _ _ rfl ((((((s7_21.ne rfl).ne rfl).ne rfl).ne rfl).ne rfl).ne rfl).ev ?_)
            refine l_qg (wanted_is (j := 4) (d := 49) (b := true) rfl rfl (((At.hit z21.put.put.put.put rfl).ne rfl).ne rfl) rfl) (q_idxF (j := (cutP (pathsN L k m) ((L.getD k []).getD m zR).f0)) rfl Try.underlying25 sz9 ((At.hit z21.put.put.put.put.put rfl).ne rfl).ev ox3_18.rd (At.hit z21.put.put.put.put.put.put rfl).ev (by omega) ?_)
            refine l_fresh z21.put.put.put.put.put.put.put.put ?_
            intro a27 z27 m27
            have s0_27 := m27 _ _ ((((((((s0_21.ne rfl).ne rfl).ne rfl).ne rfl).ne rfl).ne rfl).ne rfl).ne rfl)
            have s3_27 := m27 _ _ ((((((((s3_21.ne rfl).ne rfl).ne rfl).ne rfl).ne rfl).ne rfl).ne rfl).ne rfl)
            have s4_27 := m27 _ _ ((((((((s4_21.ne rfl).ne rfl).ne rfl).ne rfl).ne rfl).ne rfl).ne rfl).ne rfl)
            have s5_27 := m27 _ _ ((((((((s5_21.ne rfl).ne rfl).ne rfl).ne rfl).ne rfl).ne rfl).ne rfl).ne rfl)
            have s6_27 := m27 _ _ ((((((((s6_21.ne rfl).ne rfl).ne rfl).ne rfl).ne rfl).ne rfl).ne rfl).ne rfl)
            have s7_27 := m27 _ _ ((((((((s7_21.ne rfl).ne rfl).ne rfl).ne rfl).ne rfl).ne rfl).ne rfl).ne rfl)
            have s49_27 := m27 _ _ ((((At.hit z21.put.put.put.put rfl).ne rfl).ne rfl).ne rfl)
            have s52_27 := m27 _ _ (At.hit z21.put.put.put.put.put.put.put rfl)
            clear m27
            refine l_qg (wanted_is (j := 4) (d := 49) (b := true) rfl rfl s49_27 rfl) (q_ld1 (u := .string ((pathsN L k m).getD (cutP (pathsN L k m) ((L.getD k []).getD m zR).f0) ByteArray.empty)) rfl Try.underlying9 rfl s52_27.ev (fun _ e => by rw [e]; exact ox3_18.rd) (by omega) ((flat_at encS_len ByteArray.empty _ (cutP (pathsN L k m) ((L.getD k []).getD m zR).f0) 0 (by omega) (by decide)).trans rfl) ?_)
            refine l_qg (wanted_is (j := 4) (d := 49) (b := true) rfl rfl (s49_27.ne rfl) rfl) (q_move _ _ rfl (s6_27.ne rfl).ev ?_)
            refine l_qg (wanted_is (j := 4) (d := 49) (b := true) rfl rfl ((s49_27.ne rfl).ne rfl) rfl) (q_streq false rfl ((At.hit z27 rfl).ne rfl).ev (At.hit z27.put rfl).ev (strF hb22) ?_)
            refine l_q rfl (q_pick (b := true) (.bool false) rfl (((s49_27.ne rfl).ne rfl).ne rfl).ev (At.hit z27.put.put rfl).ev ?_)
            refine l_end ?_
            refine e_fresh z27.put.put.put.put ?_
            intro a28 z28 m28
            have s0_28 := m28 _ _ ((((s0_27.ne rfl).ne rfl).ne rfl).ne rfl)
            have s3_28 := m28 _ _ ((((s3_27.ne rfl).ne rfl).ne rfl).ne rfl)
            have s4_28 := m28 _ _ ((((s4_27.ne rfl).ne rfl).ne rfl).ne rfl)
            have s5_28 := m28 _ _ ((((s5_27.ne rfl).ne rfl).ne rfl).ne rfl)
            have s6_28 := m28 _ _ ((((s6_27.ne rfl).ne rfl).ne rfl).ne rfl)
            have s7_28 := m28 _ _ ((((s7_27.ne rfl).ne rfl).ne rfl).ne rfl)
            have s56_28 := m28 _ _ (At.hit z27.put.put.put rfl)
            clear m28
            refine e_then ?_
            refine c_false s56_28 ?_
            refine wp_skip ?_
            refine e_then ?_
            refine region_ins 12 [none, some (v3_7), some (.int .i64 (((cutP (pathsN L k m) ((L.getD k []).getD m zR).f0) : Nat) : Int)), some ((headF v3_7 (cutP (pathsN L k m) ((L.getD k []).getD m zR).f0))), none, some (.string (((L.getD k []).getD m zR).f0)), none, none, some (v3_7), some (.int .i64 (((cutP (pathsN L k m) ((L.getD k []).getD m zR).f0) : Nat) : Int)), some ((cutF v3_7 (cutP (pathsN L k m) ((L.getD k []).getD m zR).f0) 1)), none] 0 57 4 61 6 63 7 64 11 68 60 3 62 5 67 10 (sz := 1) (xs := [.string (((L.getD k []).getD m zR).f0)]) hm (by kernel_rfl) (by kernel_rfl) z28 (by kernel_rfl) (by kernel_rfl) (by decide) (by decide) ⟨rfl, rfl, rfl, rfl, rfl⟩ ⟨rfl, rfl, rfl⟩ ⟨rfl, rfl, rfl⟩ ⟨_, rfl, rfl⟩ ⟨_, rfl, rfl, rfl, rfl⟩ ⟨_, rfl, rfl, rfl⟩ ⟨_, rfl, rfl, rfl, rfl⟩ ⟨_, rfl, rfl, rfl, rfl⟩ Try.underlying25 rec9 (by decide) (by decide) rfl rfl (encS_one (((L.getD k []).getD m zR).f0)) (RdF.headL encS_len ox3_18.rd (j := (cutP (pathsN L k m) ((L.getD k []).getD m zR).f0)) (by omega)) (RdF.cutL encS_len ox3_18.rd (j := (cutP (pathsN L k m) ((L.getD k []).getD m zR).f0)) (by omega)) (flat_one encS_one _) (flat_one encS_one _) (by rw [List.length_take, List.length_drop]; omega) (allV_cons trivial (allV_cons ?_ (allV_cons ?_ (allV_cons ?_ (allV_cons trivial (allV_cons ?_ (allV_cons trivial (allV_cons trivial (allV_cons ?_ (allV_cons ?_ (allV_cons ?_ (allV_cons trivial allV_nil)))))))))))) ?_
            · exact stepV_val _ rfl rfl fun _ _ _ lw kp kn => q_move _ _ rfl (kp _ _ rfl s3_28).ev rfl
            · exact stepV_val _ rfl rfl fun _ _ _ lw kp kn => q_move _ _ rfl (kp _ _ rfl s7_28).ev rfl
            · exact stepV_val _ rfl rfl fun _ _ _ lw kp kn => q_headF (i := (cutP (pathsN L k m) ((L.getD k []).getD m zR).f0)) rfl Try.underlying25 sz9 (kn 1 _ _ rfl rfl rfl).ev (kn 2 _ _ rfl rfl rfl).ev (ox3_18.low lw).rd (by omega) rfl
            · exact stepV_val _ rfl rfl fun _ _ _ lw kp kn => q_move _ _ rfl (kp _ _ rfl s6_28).ev rfl
            · exact stepV_val _ rfl rfl fun _ _ _ lw kp kn => q_move _ _ rfl (kp _ _ rfl s3_28).ev rfl
            · exact stepV_val _ rfl rfl fun _ _ _ lw kp kn => q_move _ _ rfl (kp _ _ rfl s7_28).ev rfl
            · exact stepV_val _ rfl rfl fun _ _ _ lw kp kn => q_cutF (i := (cutP (pathsN L k m) ((L.getD k []).getD m zR).f0)) rfl Try.underlying25 sz9 (kn 8 _ _ rfl rfl rfl).ev (kn 9 _ _ rfl rfl rfl).ev (ox3_18.low lw).rd (by omega) rfl
            intro a31 w31 v31 z31 h31 kp at31 q31
            have s0_31 := kp _ _ rfl s0_28
            have s3_31 := kp _ _ rfl s3_28
            have s4_31 := kp _ _ rfl s4_28
            have s5_31 := kp _ _ rfl s5_28
            have s6_31 := kp _ _ rfl s6_28
            have s7_31 := kp _ _ rfl s7_28
            have s56_31 := kp _ _ rfl s56_28
            clear kp
            have o31 := OwnF.ins q31 low18.ge
            have ox3_31 := ox3_18.low h31
            have ov_31 := (hv.low low18).low h31
            simp only [List.drop_succ_cons, List.drop_zero]
            refine l_q rfl (q_assign _ _ rfl at31.ev ?_)
            refine l_end ?_
            refine e_fresh z31.put ?_
            intro a32 z32 m32
            have s0_32 := m32 _ _ (s0_31.ne rfl)
            have s3_32 := m32 _ _ (At.hit z31 rfl)
            have s4_32 := m32 _ _ (s4_31.ne rfl)
            have s5_32 := m32 _ _ (s5_31.ne rfl)
            have low32 := (low18.trans h31)
            clear m32
            refine e_in ?_
            refine e_then ?_
            refine c_region ?_
            refine l_q rfl (q_move _ _ rfl s5_32.ev ?_)
            refine l_q rfl (q_add (((m + 1 : Nat) : Int)) rfl (At.hit z32 rfl).ev rfl (i64_is (by omega) (by omega) (by omega)) ?_)
            refine l_q rfl (q_assign _ _ rfl (At.hit z32.put rfl).ev ?_)
            refine l_end ?_
            refine e_fresh z32.put.put.put ?_
            intro a33 z33 m33
            have s0_33 := m33 _ _ (((s0_32.ne rfl).ne rfl).ne rfl)
            have s3_33 := m33 _ _ (((s3_32.ne rfl).ne rfl).ne rfl)
            have s4_33 := m33 _ _ (((s4_32.ne rfl).ne rfl).ne rfl)
            have s5_33 := m33 _ _ (At.hit z32.put.put rfl)
            clear m33
            have c34 := OwnF.castL o31 (show (pathsN L k m).take (cutP (pathsN L k m) ((L.getD k []).getD m zR).f0) ++ [((L.getD k []).getD m zR).f0] ++ (pathsN L k m).drop (cutP (pathsN L k m) ((L.getD k []).getD m zR).f0) = pathsN L k (m + 1) from (ins_new2 hb22).trans (pathsN_next L k m (by omega)))
            exact ⟨v31, z33, s0_33, s3_33, s4_33, s5_33, c34, low32⟩
        · skip
          refine c_region ?_
          refine l_q rfl (q_move _ _ rfl s7_18.ev ?_)
          refine l_q rfl (q_move _ _ rfl (s3_18.ne rfl).ev ?_)
          refine l_q rfl (q_lenF rfl rfl Try.underlying25 (At.hit z18.put rfl).ev ox3_18.rd ?_)
          refine l_q rfl (q_lss false rfl (((At.hit z18 rfl).ne rfl).ne rfl).ev (At.hit z18.put.put rfl).ev (decide_eq_false (by omega)) ?_)
          refine l_q rfl (q_move _ _ rfl (At.hit z18.put.put.put rfl).ev ?_)
          refine l_skip (wanted_is (j := 4) (d := 35) (b := false) rfl rfl (At.hit z18.put.put.put.put rfl) rfl) ?_
          refine l_skip (wanted_is (j := 4) (d := 35) (b := false) rfl rfl ((At.hit z18.put.put.put.put rfl).ne rfl) rfl) ?_
          refine l_skip (wanted_is (j := 4) (d := 35) (b := false) rfl rfl (((At.hit z18.put.put.put.put rfl).ne rfl).ne rfl) rfl) ?_
          refine l_fresh z18.put.put.put.put.put.put.put.put ?_
          intro a35 z35 m35
          have s0_35 := m35 _ _ ((((((((s0_18.ne rfl).ne rfl).ne rfl).ne rfl).ne rfl).ne rfl).ne rfl).ne rfl)
          have s3_35 := m35 _ _ ((((((((s3_18.ne rfl).ne rfl).ne rfl).ne rfl).ne rfl).ne rfl).ne rfl).ne rfl)
          have s4_35 := m35 _ _ ((((((((s4_18.ne rfl).ne rfl).ne rfl).ne rfl).ne rfl).ne rfl).ne rfl).ne rfl)
          have s5_35 := m35 _ _ ((((((((s5_18.ne rfl).ne rfl).ne rfl).ne rfl).ne rfl).ne rfl).ne rfl).ne rfl)
          have s6_35 := m35 _ _ ((((((((s6_18.ne rfl).ne rfl).ne rfl).ne rfl).ne rfl).ne rfl).ne rfl).ne rfl)
          have s7_35 := m35 _ _ ((((((((s7_18.ne rfl).ne rfl).ne rfl).ne rfl).ne rfl).ne rfl).ne rfl).ne rfl)
          have s35_35 := m35 _ _ ((((At.hit z18.put.put.put.put rfl).ne rfl).ne rfl).ne rfl)
          have s38_35 := m35 _ _ (At.hit z18.put.put.put.put.put.put.put rfl)
          clear m35
          refine l_skip (wanted_is (j := 4) (d := 35) (b := false) rfl rfl s35_35 rfl) ?_
          refine l_skip (wanted_is (j := 4) (d := 35) (b := false) rfl rfl (s35_35.ne rfl) rfl) ?_
          refine l_skip (wanted_is (j := 4) (d := 35) (b := false) rfl rfl ((s35_35.ne rfl).ne rfl) rfl) ?_
          refine l_q rfl (q_pick (b := false) (.bool false) rfl (((s35_35.ne rfl).ne rfl).ne rfl).ev rfl ?_)
          refine l_end ?_
          refine e_fresh z35.put.put.put.put ?_
          intro a36 z36 m36
          have s0_36 := m36 _ _ ((((s0_35.ne rfl).ne rfl).ne rfl).ne rfl)
          have s3_36 := m36 _ _ ((((s3_35.ne rfl).ne rfl).ne rfl).ne rfl)
          have s4_36 := m36 _ _ ((((s4_35.ne rfl).ne rfl).ne rfl).ne rfl)
          have s5_36 := m36 _ _ ((((s5_35.ne rfl).ne rfl).ne rfl).ne rfl)
          have s6_36 := m36 _ _ ((((s6_35.ne rfl).ne rfl).ne rfl).ne rfl)
          have s7_36 := m36 _ _ ((((s7_35.ne rfl).ne rfl).ne rfl).ne rfl)
          have s42_36 := m36 _ _ (At.hit z35.put.put.put rfl)
          clear m36
          refine e_then ?_
          refine c_false s42_36 ?_
          refine wp_exit ?_
          refine x_then ?_
          refine x_then ?_
          refine in_exit ?_
          refine e_then ?_
          refine c_seq ?_
          refine c_seq ?_
          refine c_region ?_
          refine l_q rfl (q_move _ _ rfl s7_36.ev ?_)
          refine l_q rfl (q_move _ _ rfl (s3_36.ne rfl).ev ?_)
          refine l_q rfl (q_lenF rfl rfl Try.underlying25 (At.hit z36.put rfl).ev ox3_18.rd ?_)
          refine l_q rfl (q_lss false rfl (((At.hit z36 rfl).ne rfl).ne rfl).ev (At.hit z36.put.put rfl).ev (decide_eq_false (by omega)) ?_)
          refine l_q rfl (q_move _ _ rfl (At.hit z36.put.put.put rfl).ev ?_)
          refine l_skip (wanted_is (j := 4) (d := 49) (b := false) rfl rfl (At.hit z36.put.put.put.put rfl) rfl) ?_
          refine l_skip (wanted_is (j := 4) (d := 49) (b := false) rfl rfl ((At.hit z36.put.put.put.put rfl).ne rfl) rfl) ?_
          refine l_skip (wanted_is (j := 4) (d := 49) (b := false) rfl rfl (((At.hit z36.put.put.put.put rfl).ne rfl).ne rfl) rfl) ?_
          refine l_fresh z36.put.put.put.put.put.put.put.put ?_
          intro a37 z37 m37
          have s0_37 := m37 _ _ ((((((((s0_36.ne rfl).ne rfl).ne rfl).ne rfl).ne rfl).ne rfl).ne rfl).ne rfl)
          have s3_37 := m37 _ _ ((((((((s3_36.ne rfl).ne rfl).ne rfl).ne rfl).ne rfl).ne rfl).ne rfl).ne rfl)
          have s4_37 := m37 _ _ ((((((((s4_36.ne rfl).ne rfl).ne rfl).ne rfl).ne rfl).ne rfl).ne rfl).ne rfl)
          have s5_37 := m37 _ _ ((((((((s5_36.ne rfl).ne rfl).ne rfl).ne rfl).ne rfl).ne rfl).ne rfl).ne rfl)
          have s6_37 := m37 _ _ ((((((((s6_36.ne rfl).ne rfl).ne rfl).ne rfl).ne rfl).ne rfl).ne rfl).ne rfl)
          have s7_37 := m37 _ _ ((((((((s7_36.ne rfl).ne rfl).ne rfl).ne rfl).ne rfl).ne rfl).ne rfl).ne rfl)
          have s49_37 := m37 _ _ ((((At.hit z36.put.put.put.put rfl).ne rfl).ne rfl).ne rfl)
          have s52_37 := m37 _ _ (At.hit z36.put.put.put.put.put.put.put rfl)
          clear m37
          refine l_skip (wanted_is (j := 4) (d := 49) (b := false) rfl rfl s49_37 rfl) ?_
          refine l_skip (wanted_is (j := 4) (d := 49) (b := false) rfl rfl (s49_37.ne rfl) rfl) ?_
          refine l_skip (wanted_is (j := 4) (d := 49) (b := false) rfl rfl ((s49_37.ne rfl).ne rfl) rfl) ?_
          refine l_q rfl (q_pick (b := false) (.bool false) rfl (((s49_37.ne rfl).ne rfl).ne rfl).ev rfl ?_)
          refine l_end ?_
          refine e_fresh z37.put.put.put.put ?_
          intro a38 z38 m38
          have s0_38 := m38 _ _ ((((s0_37.ne rfl).ne rfl).ne rfl).ne rfl)
          have s3_38 := m38 _ _ ((((s3_37.ne rfl).ne rfl).ne rfl).ne rfl)
          have s4_38 := m38 _ _ ((((s4_37.ne rfl).ne rfl).ne rfl).ne rfl)
          have s5_38 := m38 _ _ ((((s5_37.ne rfl).ne rfl).ne rfl).ne rfl)
          have s6_38 := m38 _ _ ((((s6_37.ne rfl).ne rfl).ne rfl).ne rfl)
          have s7_38 := m38 _ _ ((((s7_37.ne rfl).ne rfl).ne rfl).ne rfl)
          have s56_38 := m38 _ _ (At.hit z37.put.put.put rfl)
          clear m38
          refine e_then ?_
          refine c_false s56_38 ?_
          refine wp_skip ?_
          refine e_then ?_
          refine region_ins 12 [none, some (v3_7), some (.int .i64 (((cutP (pathsN L k m) ((L.getD k []).getD m zR).f0) : Nat) : Int)), some ((headF v3_7 (cutP (pathsN L k m) ((L.getD k []).getD m zR).f0))), none, some (.string (((L.getD k []).getD m zR).f0)), none, none, some (v3_7), some (.int .i64 (((cutP (pathsN L k m) ((L.getD k []).getD m zR).f0) : Nat) : Int)), some ((cutF v3_7 (cutP (pathsN L k m) ((L.getD k []).getD m zR).f0) 1)), none] 0 57 4 61 6 63 7 64 11 68 60 3 62 5 67 10 (sz := 1) (xs := [.string (((L.getD k []).getD m zR).f0)]) hm (by kernel_rfl) (by kernel_rfl) z38 (by kernel_rfl) (by kernel_rfl) (by decide) (by decide) ⟨rfl, rfl, rfl, rfl, rfl⟩ ⟨rfl, rfl, rfl⟩ ⟨rfl, rfl, rfl⟩ ⟨_, rfl, rfl⟩ ⟨_, rfl, rfl, rfl, rfl⟩ ⟨_, rfl, rfl, rfl⟩ ⟨_, rfl, rfl, rfl, rfl⟩ ⟨_, rfl, rfl, rfl, rfl⟩ Try.underlying25 rec9 (by decide) (by decide) rfl rfl (encS_one (((L.getD k []).getD m zR).f0)) (RdF.headL encS_len ox3_18.rd (j := (cutP (pathsN L k m) ((L.getD k []).getD m zR).f0)) (by omega)) (RdF.cutL encS_len ox3_18.rd (j := (cutP (pathsN L k m) ((L.getD k []).getD m zR).f0)) (by omega)) (flat_one encS_one _) (flat_one encS_one _) (by rw [List.length_take, List.length_drop]; omega) (allV_cons trivial (allV_cons ?_ (allV_cons ?_ (allV_cons ?_ (allV_cons trivial (allV_cons ?_ (allV_cons trivial (allV_cons trivial (allV_cons ?_ (allV_cons ?_ (allV_cons ?_ (allV_cons trivial allV_nil)))))))))))) ?_
          · exact stepV_val _ rfl rfl fun _ _ _ lw kp kn => q_move _ _ rfl (kp _ _ rfl s3_38).ev rfl
          · exact stepV_val _ rfl rfl fun _ _ _ lw kp kn => q_move _ _ rfl (kp _ _ rfl s7_38).ev rfl
          · exact stepV_val _ rfl rfl fun _ _ _ lw kp kn => q_headF (i := (cutP (pathsN L k m) ((L.getD k []).getD m zR).f0)) rfl Try.underlying25 sz9 (kn 1 _ _ rfl rfl rfl).ev (kn 2 _ _ rfl rfl rfl).ev (ox3_18.low lw).rd (by omega) rfl
          · exact stepV_val _ rfl rfl fun _ _ _ lw kp kn => q_move _ _ rfl (kp _ _ rfl s6_38).ev rfl
          · exact stepV_val _ rfl rfl fun _ _ _ lw kp kn => q_move _ _ rfl (kp _ _ rfl s3_38).ev rfl
          · exact stepV_val _ rfl rfl fun _ _ _ lw kp kn => q_move _ _ rfl (kp _ _ rfl s7_38).ev rfl
          · exact stepV_val _ rfl rfl fun _ _ _ lw kp kn => q_cutF (i := (cutP (pathsN L k m) ((L.getD k []).getD m zR).f0)) rfl Try.underlying25 sz9 (kn 8 _ _ rfl rfl rfl).ev (kn 9 _ _ rfl rfl rfl).ev (ox3_18.low lw).rd (by omega) rfl
          intro a41 w41 v41 z41 h41 kp at41 q41
          have s0_41 := kp _ _ rfl s0_38
          have s3_41 := kp _ _ rfl s3_38
          have s4_41 := kp _ _ rfl s4_38
          have s5_41 := kp _ _ rfl s5_38
          have s6_41 := kp _ _ rfl s6_38
          have s7_41 := kp _ _ rfl s7_38
          have s56_41 := kp _ _ rfl s56_38
          clear kp
          have o41 := OwnF.ins q41 low18.ge
          have ox3_41 := ox3_18.low h41
          have ov_41 := (hv.low low18).low h41
          simp only [List.drop_succ_cons, List.drop_zero]
          refine l_q rfl (q_assign _ _ rfl at41.ev ?_)
          refine l_end ?_
          refine e_fresh z41.put ?_
          intro a42 z42 m42
          have s0_42 := m42 _ _ (s0_41.ne rfl)
          have s3_42 := m42 _ _ (At.hit z41 rfl)
          have s4_42 := m42 _ _ (s4_41.ne rfl)
          have s5_42 := m42 _ _ (s5_41.ne rfl)
          have low42 := (low18.trans h41)
          clear m42
          refine e_in ?_
          refine e_then ?_
          refine c_region ?_
          refine l_q rfl (q_move _ _ rfl s5_42.ev ?_)
          refine l_q rfl (q_add (((m + 1 : Nat) : Int)) rfl (At.hit z42 rfl).ev rfl (i64_is (by omega) (by omega) (by omega)) ?_)
          refine l_q rfl (q_assign _ _ rfl (At.hit z42.put rfl).ev ?_)
          refine l_end ?_
          refine e_fresh z42.put.put.put ?_
          intro a43 z43 m43
          have s0_43 := m43 _ _ (((s0_42.ne rfl).ne rfl).ne rfl)
          have s3_43 := m43 _ _ (((s3_42.ne rfl).ne rfl).ne rfl)
          have s4_43 := m43 _ _ (((s4_42.ne rfl).ne rfl).ne rfl)
          have s5_43 := m43 _ _ (At.hit z42.put.put rfl)
          clear m43
          have c44 := OwnF.castL o41 (show (pathsN L k m).take (cutP (pathsN L k m) ((L.getD k []).getD m zR).f0) ++ [((L.getD k []).getD m zR).f0] ++ (pathsN L k m).drop (cutP (pathsN L k m) ((L.getD k []).getD m zR).f0) = pathsN L k (m + 1) from (ins_new1 hb19).trans (pathsN_next L k m (by omega)))
          exact ⟨v41, z43, s0_43, s3_43, s4_43, s5_43, c44, low42⟩
    · intro a45 w45 h
      obtain ⟨v3_45, z45, s0_45, s3_45, s4_45, s5_45, ox3_45, low45⟩ := h
      clear low4 s0_6 s3_6 s4_6 s5_6 z6
      have hrl := row_len L k 900000 (by omega) hL
      refine c_seq ?_
      refine c_seq ?_
      refine c_region ?_
      refine l_q rfl (q_move _ _ rfl s5_45.ev ?_)
      refine l_q rfl (q_move _ _ rfl (s0_45.ne rfl).ev ?_)
      refine l_q rfl (q_move _ _ rfl ((s4_45.ne rfl).ne rfl).ev ?_)
      refine l_q rfl (q_idxF (j := k) rfl Try.underlying58 sz28 ((At.hit z45.put rfl).ne rfl).ev (hv.low low45).1 (At.hit z45.put.put rfl).ev (by omega) ?_)
      refine l_q rfl (q_ld1 (u := (vs.getD k nilS)) rfl Try.underlying28 rfl (At.hit z45.put.put.put rfl).ev (fun _ e => by rw [e]; exact (hv.low low45).1) (by omega) (RdFF.cell (hv.low low45) (by omega)) ?_)
      refine l_q rfl (q_lenF rfl rfl Try.underlying28 (At.hit z45.put.put.put.put rfl).ev (RdFF.row (k := k) (hv.low low45) (by omega)) ?_)
      refine l_q rfl (q_lss false rfl ((((((At.hit z45 rfl).ne rfl).ne rfl).ne rfl).ne rfl).ne rfl).ev (At.hit z45.put.put.put.put.put rfl).ev (decide_eq_false (by omega)) ?_)
      refine l_end ?_
      refine e_fresh z45.put.put.put.put.put.put.put ?_
      intro a47 z47 m47
      have s0_47 := m47 _ _ (((((((s0_45.ne rfl).ne rfl).ne rfl).ne rfl).ne rfl).ne rfl).ne rfl)
      have s3_47 := m47 _ _ (((((((s3_45.ne rfl).ne rfl).ne rfl).ne rfl).ne rfl).ne rfl).ne rfl)
      have s4_47 := m47 _ _ (((((((s4_45.ne rfl).ne rfl).ne rfl).ne rfl).ne rfl).ne rfl).ne rfl)
      have s5_47 := m47 _ _ (((((((s5_45.ne rfl).ne rfl).ne rfl).ne rfl).ne rfl).ne rfl).ne rfl)
      have s20_47 := m47 _ _ (At.hit z45.put.put.put.put.put.put rfl)
      clear m47
      refine e_then ?_
      refine c_false s20_47 ?_
      refine wp_exit ?_
      refine x_then ?_
      refine x_then ?_
      refine in_exit ?_
      refine e_in ?_
      refine e_then ?_
      refine c_region ?_
      refine l_q rfl (q_move _ _ rfl s4_47.ev ?_)
      refine l_q rfl (q_add (((k + 1 : Nat) : Int)) rfl (At.hit z47 rfl).ev rfl (i64_is (by omega) (by omega) (by omega)) ?_)
      refine l_q rfl (q_assign _ _ rfl (At.hit z47.put rfl).ev ?_)
      refine l_end ?_
      refine e_fresh z47.put.put.put ?_
      intro a48 z48 m48
      have s0_48 := m48 _ _ (((s0_47.ne rfl).ne rfl).ne rfl)
      have s3_48 := m48 _ _ (((s3_47.ne rfl).ne rfl).ne rfl)
      have s4_48 := m48 _ _ (At.hit z47.put.put rfl)
      clear m48
      have c49 := OwnF.castL ox3_45 (show pathsN L k ((L.getD k []).length) = pathsN L (k + 1) 0 from pathsN_row L k (by omega))
      exact ⟨v3_45, z48, s0_48, s3_48, s4_48, c49, low45⟩
  · intro a50 w50 h
    obtain ⟨v3_50, z50, s0_50, s3_50, s4_50, ox3_50, low50⟩ := h
    clear s0_3 s3_3 s4_3 z3
    refine c_seq ?_
    refine c_seq ?_
    refine c_region ?_
    refine l_q rfl (q_move _ _ rfl s4_50.ev ?_)
    refine l_q rfl (q_move _ _ rfl (s0_50.ne rfl).ev ?_)
    refine l_q rfl (q_lenF rfl rfl Try.underlying58 (At.hit z50.put rfl).ev (hv.low low50).1 ?_)
    refine l_q rfl (q_lss false rfl (((At.hit z50 rfl).ne rfl).ne rfl).ev (At.hit z50.put.put rfl).ev (decide_eq_false (by omega)) ?_)
    refine l_end ?_
    refine e_fresh z50.put.put.put.put ?_
    intro a51 z51 m51
    have s0_51 := m51 _ _ ((((s0_50.ne rfl).ne rfl).ne rfl).ne rfl)
    have s3_51 := m51 _ _ ((((s3_50.ne rfl).ne rfl).ne rfl).ne rfl)
    have s4_51 := m51 _ _ ((((s4_50.ne rfl).ne rfl).ne rfl).ne rfl)
    have s11_51 := m51 _ _ (At.hit z50.put.put.put rfl)
    clear m51
    refine e_then ?_
    refine c_false s11_51 ?_
    refine wp_exit ?_
    refine x_then ?_
    refine x_then ?_
    refine in_exit ?_
    refine e_then ?_
    refine c_seq ?_
    refine c_region ?_
    refine l_q rfl (q_move _ _ rfl s3_51.ev ?_)
    refine l_q rfl (q_assign _ _ rfl (At.hit z51 rfl).ev ?_)
    refine l_end ?_
    refine e_fresh z51.put.put ?_
    intro a52 z52 m52
    have s2_52 := m52 _ _ (At.hit z51.put rfl)
    clear m52
    refine e_then ?_
    refine wp_ret ?_
    refine r_tmp rfl z52.defers s2_52 ?_
    rw [pathsN_end] at ox3_50; exact ⟨_, rfl, ox3_50, low50⟩
end Go.Proofs.Ytenbgnlkkmnmhaa.Q
end
