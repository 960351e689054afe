/- Merged out of this session's texts by a program (wip/gen/merge.py): declarations that this claim doesn't name are left out. -/
import Derived.Test.YtnhchnlgleokoaaDoorMRefsSwap3
set_option linter.unusedVariables false
set_option linter.unusedSimpArgs false
/-! E4 -/
section
namespace Go.Proofs.YtnhchnlgleokoaaDoor.Q
open Go.RowKit
open Go.Proofs.YtnhchnlgleokoaaDoorW.PrintWords (bytesOf bytesOf_length)
set_option linter.unusedVariables false
set_option linter.unusedSimpArgs false
set_option maxRecDepth 100000
set_option maxHeartbeats 4000000
attribute [local irreducible] wpList wpQuiet qch Code.wp Oper.quiet Act.put At Region.wanted yielded
theorem Clone_none.calls (c : Nat) (l : List Rf) (hl : l.length ≤ 1000000) (hn : l.length = 0) (w0 : World) (hv : RdF w0 2 (.slice none l.length c) l.length (l.map encP).flatten) : Calls Tryd.prog 25 #[.slice none l.length c] w0 fun e w' => ∃ x, e = .returned x ∧ OwnF w' w0.heap.size 55 2 x l.length (l.map encP).flatten ∧ Low w0 w' := by
 refine c_fun (R := _) Tryd.func25 rfl 8 rfl (Nat.le_of_ble_eq_true rfl) ?_; intro a z hA; have s0 := hA 0 _ rfl; clear hA; refine c_seq (c_region ?_); refine l_q rfl (q_assign _ _ rfl rfl ?_); refine l_end (e_fr z.put fun a1 z1 m1 => ?_); have s0_1 := m1 s0.n1; refine e_then (c_seq (c_seq (c_region ?_))); refine l_q rfl (qm rfl s0_1 (l_q rfl (q_slnil true rfl u_22 (At.hit z1 rfl).ev rfl rfl (l_end (e_fr z1.p2 fun a2 z2 m2 => ?_))))); have s0_2 := m2 s0_1.n2; have s4_2 := m2 (At.hit z1.put rfl); refine e_then (c_true s4_2 ?_); refine c_seq (c_region ?_); refine l_q rfl (q_assign _ _ rfl rfl ?_); refine l_end (e_fr z2.put fun a3 z3 m3 => ?_); have s2_3 := m3 (At.hit z2 rfl); refine e_then (wp_ret (ret_then (r_tmp rfl z3.defers s2_3 ?_))); exact ⟨_, rfl, (OwnF.nil _ _ _ _).cast hn.symm (by rw [List.eq_nil_of_length_eq_zero hn]; rfl), (Low.refl _)⟩
theorem Clone_some.calls (x : Addr) (c : Nat) (l : List Rf) (hl : l.length ≤ 1000000) (w0 : World) (hv : RdF w0 2 (.slice (some x) l.length c) l.length (l.map encP).flatten) : Calls Tryd.prog 25 #[.slice (some x) l.length c] w0 fun e w' => ∃ x, e = .returned x ∧ OwnF w' w0.heap.size 55 2 x l.length (l.map encP).flatten ∧ Low w0 w' := by
 refine c_fun (R := _) Tryd.func25 rfl 8 rfl (Nat.le_of_ble_eq_true rfl) ?_; intro a z hA; have s0 := hA 0 _ rfl; clear hA; refine c_seq (c_region ?_); refine l_q rfl (q_assign _ _ rfl rfl ?_); refine l_end (e_fr z.put fun a1 z1 m1 => ?_); have s0_1 := m1 s0.n1; refine e_then (c_seq (c_seq (c_region ?_))); refine l_q rfl (qm rfl s0_1 (l_q rfl (q_slnil false rfl u_22 (At.hit z1 rfl).ev rfl rfl (l_end (e_fr z1.p2 fun a2 z2 m2 => ?_))))); have s0_2 := m2 s0_1.n2; have s4_2 := m2 (At.hit z1.put rfl); refine e_then (c_false s4_2 ?_); refine wp_skip (e_then (c_seq (c_region (l_mk0 rfl rfl u_22 rec55 ?_)))); intro v5 w5 o5 h5; refine l_q rfl (qm rfl (s0_2.n1) (l_appFs (B := w0.heap.size) rfl rfl u_22 rec55 (by decide) ((At.hit z2 rfl).n1).ev (At.hit z2.put rfl).ev (hv.low (Low.trans (Low.refl _) h5)) (flat_one encP_one _) (o5.base (Low.refl _).ge) ((Low.refl _).trans h5).ge (by omega) ?_)); intro v6 w6 o6 gr6; have lw6 := ((Low.refl _).trans h5).grw gr6; refine l_q rfl (qa rfl (At.hit z2.p2 rfl) (l_end (e_fr z2.p4 fun a3 z3 m3 => ?_))); have s2_3 := m3 (At.hit z2.p3 rfl); have low3 := lw6; refine e_then (wp_ret (r_tmp rfl z3.defers s2_3 ?_)); exact ⟨_, rfl, o6.cast (Nat.zero_add _) (List.nil_append _), low3⟩
theorem Clone.calls (v : Value) (l : List Rf) (hl : l.length ≤ 1000000) (w0 : World) (hv : RdF w0 2 v l.length (l.map encP).flatten) : Calls Tryd.prog 25 #[v] w0 fun e w' => ∃ x, e = .returned x ∧ OwnF w' w0.heap.size 55 2 x l.length (l.map encP).flatten ∧ Low w0 w' := by
  have h0 := hv
  obtain ⟨_, A, c, rfl, hc, h2⟩ := hv
  cases A with
  | none =>
    refine Clone_none.calls c l hl ?_ w0 h0
    rcases Nat.eq_zero_or_pos l.length with h | h
    · exact h
    · obtain ⟨g, i, e, _⟩ := h2 h
      cases e
  | some x => exact Clone_some.calls x c l hl w0 h0
theorem Apply.calls (hd : ByteArray) (v : Value) (l : List Rf) (sp : Int) (vw : Value) (ws : List Sw) (hln : l.length + ws.length ≤ 1000) (w0 : World) (hv : RdF w0 2 v l.length (l.map encP).flatten) (hvw : RdF w0 3 vw ws.length (ws.map encW).flatten) (hG : Gd w0) : Calls Tryd.prog 11 #[.agg #[.string hd, v], .int .i64 sp, vw] w0 fun e w' => ∃ x, e = .returned (.tuple #[.agg #[.string (apH hd (nsize sp) l ws), x], .int .i64 (apE (nsize sp) l ws)]) ∧ OwnF w' w0.heap.size 55 2 x (apL (nsize sp) l ws).length ((apL (nsize sp) l ws).map encP).flatten ∧ Low w0 w' := by
 have hl : l.length ≤ 1000000 := by omega
 refine c_fun (R := _) Tryd.func11 rfl 112 rfl (Nat.le_of_ble_eq_true rfl) ?_; intro a z hA; have s0 := hA 0 _ rfl; have s1 := hA 1 _ rfl; have s2 := hA 2 _ rfl; clear hA; refine c_seq (c_region (l_box rfl rfl s0.ev ?_)); intro g3 w1 hg1 k1 h1; have geg3 := Nat.le_trans (Low.refl _).ge hg1; have ov_1 := hv.low h1; have ovw_1 := hvw.low h1; refine l_alloc rfl rfl zero24 ?_; intro g6 w2 hg2 k2 h2; have lt_g3_g6 := Nat.lt_of_lt_of_le (heap_lt k1) hg2; have geg6 := Nat.le_trans h1.ge hg2; have kg3_2 := h2.blk k1; have ov_2 := ov_1.low h2; have ovw_2 := ovw_1.low h2; refine l_q rfl (q_assign _ _ rfl rfl ?_); refine l_end (e_fr z.p3 fun a3 z3 m3 => ?_); have s1_3 := m3 s1.n3; have s2_3 := m3 s2.n3; have s3_3 := m3 ((At.hit z rfl).n2); have s6_3 := m3 ((At.hit z.put rfl).n1); have low3 := (h1.trans h2); refine e_then (c_seq (region_some_tail 7 (TL [Is (.pointer (some ⟨g3, 0, none⟩)), Is (.string hd), Is (.pointer (some ⟨g3, 1, none⟩)), Is (v), OwnT w2.heap.size l, StT w2.heap.size hd l, AlT w2.heap.size 24 #[.string nilB, .slice none 0 0]]) Low hm (by kernel_rfl) z3 (low_drawn _) (fun _ _ _ h k => Low.trans h k) (TL_cons ?_ (TL_cons ?_ (TL_cons ?_ (TL_cons ?_ (TL_cons ?_ (TL_cons ?_ (TL_cons ?_ TL_nil))))))) (allS_cons ?_ (allS_cons ?_ (allS_cons ?_ (allS_cons ?_ (allS_cons ?_ (allS_cons ?_ (allS_cons ?_ allS_nil))))))) ?_))
 ·
  exact StL_is _
 ·
  exact StL_is _
 ·
  exact StL_is _
 ·
  exact StL_is _
 ·
  exact StL_own _ _
 ·
  exact StL_st _ _ _
 ·
  exact StL_al _ _ _
 ·
  exact (stepS_val (.pointer (some ⟨g3, 0, none⟩)) _ rfl rfl rfl Low.refl (fun _ => rfl) fun a w z lw kp kn => q_fld 0 rfl (by kernel_rfl) (kp _ _ rfl s3_3).ev rfl)
 ·
  exact (stepS_val (.string hd) _ rfl rfl rfl Low.refl (fun _ => rfl) fun a w z lw kp kn => q_cellT (.string hd) rfl u_9 (at_is (u := .pointer (some ⟨g3, 0, none⟩)) (w := w) (kn 0 _ rfl rfl)).ev (fun _ e => by rw [e]; exact (cells_at (lw.blk kg3_2) 0).trans rfl) rfl)
 ·
  exact (stepS_val (.pointer (some ⟨g3, 1, none⟩)) _ rfl rfl rfl Low.refl (fun _ => rfl) fun a w z lw kp kn => q_fld 1 rfl (by kernel_rfl) (kp _ _ rfl s3_3).ev rfl)
 ·
  exact (stepS_val (v) _ rfl rfl rfl Low.refl (fun _ => rfl) fun a w z lw kp kn => q_cellS (v) rfl u_22 (at_is (u := .pointer (some ⟨g3, 1, none⟩)) (w := w) (kn 2 _ rfl rfl)).ev (fun _ e => by rw [e]; exact (cells_at (lw.blk kg3_2) 1).trans rfl) rfl)
 ·
  exact (stepS _ rfl rfl fun a w z lw kp kn => l_call (fun x w' => OwnT w.heap.size l x w' ∧ Low w w') rfl rfl rfl Tryd.func25 rfl (args1 rfl (at_is (u := v) (w := w) (kn 3 _ rfl rfl)).ev) ((Clone.calls v l hl w (hv.low (Low.trans low3 lw))).mono fun _ _ ⟨x, e, o, k⟩ => ⟨x, e, o, k⟩) fun _ _ hv => l_end ⟨_, rfl, hv.2, hv.1.base lw.ge⟩)
 ·
  exact (stepS _ rfl rfl fun a w z lw kp kn => Exists.elim (kn 4 _ rfl rfl) fun u hu => l_q rfl (q_build rfl (parts2 (at_is (u := .string hd) (w := w) (kn 1 _ rfl rfl)).ev hu.1.ev) (built24 hd (RdF.sl hu.2.rd)) (l_end ⟨_, rfl, Low.refl _, _, rfl, hu.2⟩)))
 ·
  exact (stepS _ rfl rfl fun a w z lw kp kn => l_alloc rfl rfl zero24 (fun g w' hg k h => l_end ⟨_, rfl, h, _, rfl, Nat.le_trans lw.ge hg, k⟩))
 intro a4 w4 z4 h4 kp kn; have s1_4 := kp _ _ rfl s1_3; have s2_4 := kp _ _ rfl s2_3; have s3_4 := kp _ _ rfl s3_3; have s6_4 := kp _ _ rfl s6_3; obtain ⟨u4, su4, v4, rfl, o4⟩ := kn 5 _ rfl; obtain ⟨p4, sp4, g4, rfl, hg4, k4⟩ := kn 6 _ rfl; clear kp kn; have lt_g3_g4 := Nat.lt_of_lt_of_le (heap_lt kg3_2) hg4; have lt_g6_g4 := Nat.lt_of_lt_of_le (heap_lt k2) hg4; have geg4 := Nat.le_trans low3.ge hg4; have kg3_4 := h4.blk kg3_2; have kg6_4 := h4.blk k2; have ov_4 := ov_2.low h4; have ovw_4 := ovw_2.low h4; replace o4 := o4.base low3.ge
 simp only [List.drop_succ_cons, List.drop_zero]
 refine l_row rfl rfl rfl (sz24.trans (congrArg some rfl)) sp4.ev su4.ev (one2 _ (RdF.one o4.rd)) k4 rfl ?_; intro w5 k5 u5; have ob4_5 := o4.upd u5 k4 rfl; have kg3_5 := u5.blk kg3_4 (by omega); have kg6_5 := u5.blk kg6_4 (by omega); refine l_end (e_fr z4 fun a6 z6 m6 => ?_); have s1_6 := m6 s1_4; have s2_6 := m6 s2_4; have s6_6 := m6 s6_4; have s8_6 := m6 sp4; have low6 := ((low3.trans h4).upd u5 geg4); refine e_then (c_seq (c_seq (c_region ?_))); refine l_q rfl (qm rfl s2_6 (l_q rfl (q_lenF rfl rfl u_25 (At.hit z6 rfl).ev (hvw.low ((low3.trans h4).upd u5 geg4)) (l_q rfl (q_move _ _ rfl rfl (l_end (e_fr z6.p3 fun a7 z7 m7 => ?_))))))); have s1_7 := m7 s1_6.n3; have s6_7 := m7 s6_6.n3; have s8_7 := m7 s8_6.n3; have s19_7 := m7 ((At.hit z6 rfl).n2); have s20_7 := m7 ((At.hit z6.put rfl).n1); have s21_7 := m7 (At.hit z6.p2 rfl); refine e_then (wp_block ?_); have c8 := OwnF.castL ob4_5 (show l = stP l ws 0 from rfl); refine c_loop (apN (nsize sp) l ws) (fun k a w => ∃ vg4 : Value, Fr 112 a ∧ At a 1 (.int .i64 sp) ∧ At a 6 (.pointer (some ⟨g6, 0, none⟩)) ∧ At a 8 (.pointer (some ⟨g4, 0, none⟩)) ∧ At a 19 (vw) ∧ At a 20 (.int .i64 ((ws.length : Nat) : Int)) ∧ At a 21 (.int .i64 ((k : Nat) : Int)) ∧ w.heap[g4]? = some (.cells (#[.string hd, vg4]) 24) ∧ w.heap[g6]? = some (.cells (#[.string nilB, .slice none 0 0]) 24) ∧ OwnF w w0.heap.size 55 2 vg4 (stP l ws k).length (((stP l ws k).map encP).flatten) ∧ Low w0 w) ?_ ?_ ?_
 ·
  exact ⟨v4, z7, s1_7, s6_7, s8_7, s19_7, s20_7, s21_7, k5, kg6_5, c8, low6⟩
 ·
  intro k a9 w9 hk9 h; obtain ⟨vg4_9, z9, s1_9, s6_9, s8_9, s19_9, s20_9, s21_9, kg4_9, kg6_9, oxg4_9, low9⟩ := h; clear k5 kg6_5 low6 s19_7 s1_7 s20_7 s21_7 s6_7 s8_7 z7; have hphase := trivial; have hle := apN_le (nsize sp) l ws; obtain ⟨hk1, hk2, hk3⟩ := apN_round (sz := nsize sp) (l := l) (ws := ws) (k := k) (by assumption); have hsl := stP_len l ws k; have hbp := bsP_le (stP l ws k) (ws.getD k zW).f0; refine c_seq (c_region ?_); refine l_q rfl (q_lss true rfl s21_9.ev s20_9.ev (decide_eq_true (by omega)) ?_); refine l_end (e_fr z9.put fun a10 z10 m10 => ?_); have s1_10 := m10 s1_9.n1; have s6_10 := m10 s6_9.n1; have s8_10 := m10 s8_9.n1; have s19_10 := m10 s19_9.n1; have s20_10 := m10 s20_9.n1; have s21_10 := m10 s21_9.n1; have s22_10 := m10 (At.hit z9 rfl); refine e_then (c_seq (c_true s22_10 ?_)); refine wp_skip (e_then (c_seq (wp_block (c_seq (c_region ?_))))); refine l_q rfl (q_idxF (j := k) rfl u_25 sz32 s19_10.ev (hvw.low low9) s21_10.ev (by omega) ?_); refine l_q rfl (q_ldR (vs := [.string ((ws.getD k zW).f0), .string ((ws.getD k zW).f1), .string ((ws.getD k zW).f2)]) rfl u_32 rfl sz32 (At.hit z10 rfl).ev (fun _ e => by rw [e]; exact (hvw.low low9)) (by omega) rfl (flat_part encW_len zW _ k (by omega)) ?_); refine l_alloc rfl rfl zero32 ?_; intro g10 w11 hg11 k11 h11; have lt_g4_g10 := Nat.lt_of_lt_of_le (heap_lt kg4_9) hg11; have lt_g6_g10 := Nat.lt_of_lt_of_le (heap_lt kg6_9) hg11; have geg10 := Nat.le_trans low9.ge hg11; have kg4_11 := h11.blk kg4_9; have kg6_11 := h11.blk kg6_9; have oxg4_11 := oxg4_9.low h11; have ovw_11 := (hvw.low low9).low h11; refine l_row rfl rfl rfl (sz32.trans (congrArg some rfl.symm)) (At.hit z10.p2 rfl).ev ((At.hit z10.put rfl).n1).ev (by simp [Value.oneCell']) k11 (rfl.trans rfl.symm) ?_; intro w12 k12 u12; have oxg4_12 := oxg4_11.upd u12 k11 rfl; have kg4_12 := u12.blk kg4_11 (by omega); have kg6_12 := u12.blk kg6_11 (by omega); refine l_end (e_fr z10.p3 fun a13 z13 m13 => ?_); have s1_13 := m13 s1_10.n3; have s6_13 := m13 s6_10.n3; have s8_13 := m13 s8_10.n3; have s10_13 := m13 (At.hit z10.p2 rfl); have s19_13 := m13 s19_10.n3; have s20_13 := m13 s20_10.n3; have s21_13 := m13 s21_10.n3; have low13 := ((low9.trans h11).upd u12 geg10); refine e_then (c_seq (c_region ?_)); refine l_q rfl (q_fld 1 rfl (by kernel_rfl) s8_13.ev ?_); refine l_q rfl (q_cellS (vg4_9) rfl u_22 (At.hit z13 rfl).ev (fun _ e => by rw [e]; exact (cells_at kg4_12 1).trans rfl) ?_); refine l_q rfl (q_fld 0 rfl (by kernel_rfl) (s10_13.n2).ev ?_); refine l_q rfl (q_cellT (.string ((ws.getD k zW).f0)) rfl u_9 (At.hit z13.p2 rfl).ev (fun _ e => by rw [e]; exact (cells_at k12 0).trans rfl) ?_); refine l_call (fun v w' => v = .tuple #[.int .i64 (((bsP (stP l ws k) ((ws.getD k zW).f0)) : Nat) : Int), .bool (bsB (stP l ws k) ((ws.getD k zW).f0))] ∧ Low w12 w') rfl rfl rfl Tryd.func26 rfl (args2 rfl ((At.hit z13.put rfl).n2).ev (At.hit z13.p3 rfl).ev) ((Place.calls vg4_9 (stP l ws k) (by omega) ((ws.getD k zW).f0) _ (oxg4_12.rd)).mono fun _ _ ⟨e, k⟩ => ⟨_, e, rfl, k⟩) ?_
  rintro _ w14 ⟨rfl, h14⟩
  have kg4_14 := h14.blk kg4_12; have kg6_14 := h14.blk kg6_12; have kg10_14 := h14.blk k12; have oxg4_14 := oxg4_12.low h14; have ovw_14 := (hvw.low ((low9.trans h11).upd u12 geg10)).low h14; refine l_q rfl (qm rfl (At.hit z13.p4 rfl) (l_q rfl (q_extract rfl (At.hit z13.p5 rfl).ev rfl (l_q rfl (q_extract rfl ((At.hit z13.p5 rfl).n1).ev rfl (l_fr z13.p8 fun a15 z15 m15 => ?_)))))); have s1_15 := m15 s1_13.n8; have s6_15 := m15 s6_13.n8; have s8_15 := m15 s8_13.n8; have s10_15 := m15 s10_13.n8; have s19_15 := m15 s19_13.n8; have s20_15 := m15 s20_13.n8; have s21_15 := m15 s21_13.n8; have s31_15 := m15 ((At.hit z13.p6 rfl).n1); have s32_15 := m15 (At.hit z13.p7 rfl); refine l_q rfl (qa rfl s31_15 (l_q rfl (qa rfl (s32_15.n1) (l_end (e_fr z15.p2 fun a16 z16 m16 => ?_))))); have s1_16 := m16 s1_15.n2; have s6_16 := m16 s6_15.n2; have s8_16 := m16 s8_15.n2; have s10_16 := m16 s10_15.n2; have s11_16 := m16 ((At.hit z15 rfl).n1); have s12_16 := m16 (At.hit z15.put rfl); have s19_16 := m16 s19_15.n2; have s20_16 := m16 s20_15.n2; have s21_16 := m16 s21_15.n2; have low16 := (low13.trans h14); refine e_then (wp_block (c_seq (c_region ?_))); refine l_q rfl (q_fld 0 rfl (by kernel_rfl) s10_16.ev ?_); refine l_q rfl (q_cellT (.string ((ws.getD k zW).f0)) rfl u_9 (At.hit z16 rfl).ev (fun _ e => by rw [e]; exact (cells_at kg10_14 0).trans rfl) ?_); refine l_call (fun v w' => v = .bool true ∧ Low w14 w') rfl rfl rfl Tryd.func27 rfl (args1 rfl (At.hit z16.put rfl).ev) (((calls_bool (RightN.calls ((ws.getD k zW).f0) _ (Gd.low hG low16)) hk1)).mono fun _ _ ⟨e, k⟩ => ⟨_, e, rfl, k⟩) ?_
  rintro _ w17 ⟨rfl, h17⟩
  have kg4_17 := h17.blk kg4_14; have kg6_17 := h17.blk kg6_14; have kg10_17 := h17.blk kg10_14; have oxg4_17 := oxg4_14.low h17; have ovw_17 := ovw_14.low h17; refine l_q rfl (q_not (b := true) rfl (At.hit z16.p2 rfl).ev ?_); refine l_q rfl (qa rfl (At.hit z16.p3 rfl) (l_end (e_fr z16.p5 fun a18 z18 m18 => ?_))); have s1_18 := m18 s1_16.n5; have s6_18 := m18 s6_16.n5; have s8_18 := m18 s8_16.n5; have s10_18 := m18 s10_16.n5; have s11_18 := m18 s11_16.n5; have s12_18 := m18 s12_16.n5; have s19_18 := m18 s19_16.n5; have s20_18 := m18 s20_16.n5; have s21_18 := m18 s21_16.n5; have s33_18 := m18 (At.hit z16.p4 rfl); have low18 := (low16.trans h17); refine e_then (c_false s33_18 ?_); refine c_seq ?_
  by_cases hb19 : ¬ (ws.getD k zW).f2 = nilB
  ·
   skip
   refine region_lowg hm (by kernel_rfl) ?_; refine gs rfl (q_fld 2 rfl (by kernel_rfl) s10_18.ev ?_); refine gs rfl (q_cellT (.string ((ws.getD k zW).f2)) rfl u_9 (At.hit z18 rfl).ev (fun _ h => (cells_at (h.blk kg10_17) 2).trans rfl) ?_); refine gs rfl (q_strne true rfl (At.hit z18.put rfl).ev rfl (neT hb19) ?_); refine gs rfl (qm rfl (At.hit z18.p2 rfl) (gsg (wis rfl rfl (At.hit z18.p3 rfl) rfl) (q_fld 2 rfl (by kernel_rfl) (s10_18.n4).ev (gsg (wis rfl rfl ((At.hit z18.p3 rfl).n1) rfl) (q_cellT (.string ((ws.getD k zW).f2)) rfl u_9 (At.hit z18.p4 rfl).ev (fun _ h => (cells_at (h.blk kg10_17) 2).trans rfl) (gsg (wis rfl rfl ((At.hit z18.p3 rfl).n2) rfl) (q_len rfl rfl u_9 (At.hit z18.p5 rfl).ev (gsg (wis rfl rfl ((At.hit z18.p3 rfl).n3) rfl) (qm rfl (s1_18.n7) (g_fr z18.p8 fun a20 z20 m20 => ?_)))))))))); have s1_20 := m20 s1_18.n8; have s6_20 := m20 s6_18.n8; have s8_20 := m20 s8_18.n8; have s10_20 := m20 s10_18.n8; have s11_20 := m20 s11_18.n8; have s12_20 := m20 s12_18.n8; have s19_20 := m20 s19_18.n8; have s20_20 := m20 s20_18.n8; have s21_20 := m20 s21_18.n8; have s43_20 := m20 ((At.hit z18.p3 rfl).n4); have s46_20 := m20 ((At.hit z18.p6 rfl).n1); have s47_20 := m20 (At.hit z18.p7 rfl); refine gsg (wis rfl rfl s43_20 rfl) (q_call (.int .i64 (nsize sp)) rfl rfl Tryd.func28 rfl (args1 rfl s47_20.ev) (fun _ h => (Size.calls sp _).mono fun _ _ ⟨e, k⟩ => ⟨e, h.trans k⟩) ?_); refine gsg (wis rfl rfl (s43_20.n1) rfl) (q_neq false rfl (s46_20.n1).ev (At.hit z20 rfl).ev (decide_eq_false (by have := hk2 hb19; omega)) ?_); refine gs rfl (q_pick (b := true) (.bool false) rfl (s43_20.n2).ev (At.hit z20.put rfl).ev ?_); refine gs rfl (qa rfl (At.hit z20.p2 rfl) (gz ?_)); intro w21 h21; have kg4_21 := h21.blk kg4_17; have kg6_21 := h21.blk kg6_17; have kg10_21 := h21.blk kg10_17; have oxg4_21 := oxg4_17.low h21; have ovw_21 := ovw_17.low h21; refine e_id (e_fr z20.p4 fun a22 z22 m22 => ?_); have s1_22 := m22 s1_20.n4; have s6_22 := m22 s6_20.n4; have s8_22 := m22 s8_20.n4; have s10_22 := m22 s10_20.n4; have s11_22 := m22 s11_20.n4; have s12_22 := m22 s12_20.n4; have s19_22 := m22 s19_20.n4; have s20_22 := m22 s20_20.n4; have s21_22 := m22 s21_20.n4; have s39_22 := m22 (At.hit z20.p3 rfl); have low22 := (low18.trans h21); refine e_then (c_false s39_22 ?_); refine c_seq (region_low hm (by kernel_rfl) ?_); refine qs (q_row rfl u_24 rfl (sz24.trans (congrArg some rfl.symm)) s8_22.ev (fun _ h => h.blk kg4_21) ?_); refine qs (q_fld 0 rfl (by kernel_rfl) (s10_22.n1).ev ?_); refine qs (q_cellT (.string ((ws.getD k zW).f0)) rfl u_9 (At.hit z22.put rfl).ev (fun _ h => (cells_at (h.blk kg10_21) 0).trans rfl) ?_); refine qs (q_call (.string (getL (stP l ws k) ((ws.getD k zW).f0))) rfl rfl Tryd.func15 rfl (args2 rfl ((At.hit z22 rfl).n2).ev (At.hit z22.p2 rfl).ev) (fun _ h => (Get.calls hd vg4_9 (stP l ws k) (by omega) ((ws.getD k zW).f0) _ ((oxg4_21.low h).rd)).mono fun _ _ ⟨e, k⟩ => ⟨e, h.trans k⟩) ?_); refine qs (q_fld 1 rfl (by kernel_rfl) (s10_22.n4).ev ?_); refine qs (q_cellT (.string ((ws.getD k zW).f1)) rfl u_9 (At.hit z22.p4 rfl).ev (fun _ h => (cells_at (h.blk kg10_21) 1).trans rfl) ?_)
   refine qs (q_strne false rfl ((At.hit z22.p3 rfl).n2).ev (At.hit z22.p5 rfl).ev (neF hk3) ?_); refine qs (qa rfl (At.hit z22.p6 rfl) (qz ?_)); intro w23 h23; have kg4_23 := h23.blk kg4_21; have kg6_23 := h23.blk kg6_21; have kg10_23 := h23.blk kg10_21; have oxg4_23 := oxg4_21.low h23; have ovw_23 := ovw_21.low h23; refine e_id (e_fr z22.p8 fun a24 z24 m24 => ?_); have s1_24 := m24 s1_22.n8; have s6_24 := m24 s6_22.n8; have s8_24 := m24 s8_22.n8; have s10_24 := m24 s10_22.n8; have s11_24 := m24 s11_22.n8; have s12_24 := m24 s12_22.n8; have s19_24 := m24 s19_22.n8; have s20_24 := m24 s20_22.n8; have s21_24 := m24 s21_22.n8; have s52_24 := m24 (At.hit z22.p7 rfl); have low24 := (low22.trans h23); refine e_then (c_false s52_24 ?_); refine c_seq ?_
   cases hc25 : bsB (stP l ws k) ((ws.getD k zW).f0) with
   | true =>
    have hs25 := s12_24.same (congrArg Value.bool hc25)
    by_cases hb26 : (ws.getD k zW).f2 = nilB
    ·
     skip
     refine c_region ?_; refine l_q rfl (qm rfl hs25 (l_q rfl (qm rfl (At.hit z24 rfl) (l_qg (wis rfl rfl (At.hit z24.put rfl) rfl) (q_fld 2 rfl (by kernel_rfl) (s10_24.n2).ev (l_qg (wis rfl rfl ((At.hit z24.put rfl).n1) rfl) (q_cellT (.string ((ws.getD k zW).f2)) rfl u_9 (At.hit z24.p2 rfl).ev (fun _ e => by rw [e]; exact (cells_at kg10_23 2).trans rfl) (l_qg (wis rfl rfl ((At.hit z24.put rfl).n2) rfl) (q_streq true rfl (At.hit z24.p3 rfl).ev rfl (strT hb26) (l_q rfl (q_pick (b := true) (.bool true) rfl ((At.hit z24.put rfl).n3).ev (At.hit z24.p4 rfl).ev (l_q rfl (qa rfl (At.hit z24.p5 rfl) (l_end (e_fr z24.p7 fun a27 z27 m27 => ?_))))))))))))))); have s1_27 := m27 s1_24.n7; have s6_27 := m27 s6_24.n7; have s8_27 := m27 s8_24.n7; have s10_27 := m27 s10_24.n7; have s11_27 := m27 s11_24.n7; have s12_27 := m27 hs25.n7; have s19_27 := m27 s19_24.n7; have s20_27 := m27 s20_24.n7; have s21_27 := m27 s21_24.n7; have s61_27 := m27 (At.hit z24.p6 rfl); refine e_then (c_true s61_27 ?_); refine c_region ?_; refine l_q rfl (q_fld 1 rfl (by kernel_rfl) s8_27.ev ?_); refine l_q rfl (q_cellS (vg4_9) rfl u_22 (At.hit z27 rfl).ev (fun _ e => by rw [e]; exact (cells_at kg4_23 1).trans rfl) ?_); refine l_q rfl (qm rfl (s11_27.n2) (l_q rfl (qm rfl (s11_27.n3) (l_q rfl (q_add ((((bsP (stP l ws k) ((ws.getD k zW).f0)) + 1 : Nat) : Int)) rfl (At.hit z27.p3 rfl).ev rfl (i64_is (by omega) (by omega) (by omega)) (l_call _ rfl rfl rfl Tryd.func29 rfl (args3 rfl ((At.hit z27.put rfl).n3).ev ((At.hit z27.p2 rfl).n2).ev (At.hit z27.p4 rfl).ev) (Delete.calls w0.heap.size (bsP (stP l ws k) (ws.getD k zW).f0) vg4_9 (stP l ws k) (by omega) (there_lt hc25) _ oxg4_23 low24.ge) ?_))))))
     rintro v28 w28 ⟨o28, gr28, ap28⟩
     have kg4_28 := gr28.blk kg4_23 rfl; have kg6_28 := gr28.blk kg6_23 rfl; have kg10_28 := gr28.blk kg10_23 rfl; have lw28 := low24.grw gr28; refine l_q rfl (q_fld 1 rfl (by kernel_rfl) (s8_27.n6).ev ?_); refine l_cell (j := 1) (v := v28) rfl rfl rfl sz22 (At.hit z27.p6 rfl).ev ((At.hit z27.p5 rfl).n1).ev (RdF.one o28.rd) kg4_28 (by simp) ?_; intro w29 k29 u29; replace k29 : w29.heap[g4]? = some (.cells (#[.string hd, v28]) 24) := k29; have ob28_29 := o28.upd u29 kg4_28 rfl; have kg6_29 := u29.blk kg6_28 (by omega); have kg10_29 := u29.blk kg10_28 (by omega); refine l_end (e_fr z27.p7 fun a30 z30 m30 => ?_); have s1_30 := m30 s1_27.n7; have s6_30 := m30 s6_27.n7; have s8_30 := m30 s8_27.n7; have s19_30 := m30 s19_27.n7; have s20_30 := m30 s20_27.n7; have s21_30 := m30 s21_27.n7; have low30 := (lw28.upd u29 geg4); refine e_in (e_in (e_then (c_region ?_))); refine l_q rfl (q_add (((k + 1 : Nat) : Int)) rfl s21_30.ev rfl (i64_is (by omega) (by omega) (by omega)) ?_); refine l_q rfl (qm rfl (At.hit z30 rfl) (l_end (e_fr z30.p2 fun a31 z31 m31 => ?_))); have s1_31 := m31 s1_30.n2; have s6_31 := m31 s6_30.n2; have s8_31 := m31 s8_30.n2; have s19_31 := m31 s19_30.n2; have s20_31 := m31 s20_30.n2; have s21_31 := m31 (At.hit z30.put rfl); have c32 := OwnF.castL ob28_29 (show (stP l ws k).take (bsP (stP l ws k) (ws.getD k zW).f0) ++ (stP l ws k).drop (bsP (stP l ws k) (ws.getD k zW).f0 + 1) = stP l ws (k + 1) from step_del hc25 hb26); exact ⟨v28, z31, s1_31, s6_31, s8_31, s19_31, s20_31, s21_31, k29, kg6_29, c32, low30⟩
    ·
     skip
     refine c_region ?_; refine l_q rfl (qm rfl hs25 (l_q rfl (qm rfl (At.hit z24 rfl) (l_qg (wis rfl rfl (At.hit z24.put rfl) rfl) (q_fld 2 rfl (by kernel_rfl) (s10_24.n2).ev (l_qg (wis rfl rfl ((At.hit z24.put rfl).n1) rfl) (q_cellT (.string ((ws.getD k zW).f2)) rfl u_9 (At.hit z24.p2 rfl).ev (fun _ e => by rw [e]; exact (cells_at kg10_23 2).trans rfl) (l_qg (wis rfl rfl ((At.hit z24.put rfl).n2) rfl) (q_streq false rfl (At.hit z24.p3 rfl).ev rfl (strF hb26) (l_q rfl (q_pick (b := true) (.bool false) rfl ((At.hit z24.put rfl).n3).ev (At.hit z24.p4 rfl).ev (l_q rfl (qa rfl (At.hit z24.p5 rfl) (l_end (e_fr z24.p7 fun a33 z33 m33 => ?_))))))))))))))); have s1_33 := m33 s1_24.n7; have s6_33 := m33 s6_24.n7; have s8_33 := m33 s8_24.n7; have s10_33 := m33 s10_24.n7; have s11_33 := m33 s11_24.n7; have s12_33 := m33 hs25.n7; have s19_33 := m33 s19_24.n7; have s20_33 := m33 s20_24.n7; have s21_33 := m33 s21_24.n7; have s61_33 := m33 (At.hit z24.p6 rfl); refine e_then (c_false s61_33 ?_); refine c_seq (c_region ?_); refine l_q rfl (qm rfl s12_33 (l_q rfl (qa rfl (At.hit z33 rfl) (l_end (e_fr z33.p2 fun a34 z34 m34 => ?_))))); have s1_34 := m34 s1_33.n2; have s6_34 := m34 s6_33.n2; have s8_34 := m34 s8_33.n2; have s10_34 := m34 s10_33.n2; have s11_34 := m34 s11_33.n2; have s19_34 := m34 s19_33.n2; have s20_34 := m34 s20_33.n2; have s21_34 := m34 s21_33.n2; have s75_34 := m34 (At.hit z33.put rfl); refine e_then (c_true s75_34 ?_); have hin := there_lt hc25; refine c_region ?_; refine l_q rfl (q_fld 1 rfl (by kernel_rfl) s8_34.ev ?_); refine l_q rfl (q_cellS (vg4_9) rfl u_22 (At.hit z34 rfl).ev (fun _ e => by rw [e]; exact (cells_at kg4_23 1).trans rfl) ?_); refine l_q rfl (qm rfl (s11_34.n2) (l_q rfl (q_fld 2 rfl (by kernel_rfl) (s10_34.n3).ev (l_q rfl (q_cellT (.string ((ws.getD k zW).f2)) rfl u_9 (At.hit z34.p3 rfl).ev (fun _ e => by rw [e]; exact (cells_at kg10_23 2).trans rfl) (l_q rfl (q_idxF (j := (bsP (stP l ws k) ((ws.getD k zW).f0))) rfl u_22 sz55 ((At.hit z34.put rfl).n3).ev oxg4_23.rd ((At.hit z34.p2 rfl).n2).ev (by omega) (l_q rfl (q_fldF 1 rfl fld55_1 (At.hit z34.p5 rfl).ev (oxg4_23.rd.form (by omega)) (l_setF (k := (bsP (stP l ws k) ((ws.getD k zW).f0)) * 2 + 1) rfl rfl rfl sz9 (At.hit z34.p6 rfl).ev ((At.hit z34.p4 rfl).n2).ev rfl oxg4_23 (by rw [flat_len encP_len]; have := (there_lt hc25); omega) ?_)))))))))); intro w35 o35 gr35; replace o35 := o35.cast (show _ = ((stP l ws k).set ((bsP (stP l ws k) ((ws.getD k zW).f0))) ⟨((stP l ws k).getD ((bsP (stP l ws k) ((ws.getD k zW).f0))) zP).f0, (ws.getD k zW).f2⟩).length from (List.length_set ..).symm) (flat_set (stP l ws k) ((bsP (stP l ws k) ((ws.getD k zW).f0))) ((ws.getD k zW).f2) (there_lt hc25)); have kg4_35 := gr35.blk kg4_23 rfl; have kg6_35 := gr35.blk kg6_23 rfl; have kg10_35 := gr35.blk kg10_23 rfl; have lw35 := low24.grw gr35; refine l_end (e_fr z34.p7 fun a36 z36 m36 => ?_); have s1_36 := m36 s1_34.n7; have s6_36 := m36 s6_34.n7; have s8_36 := m36 s8_34.n7; have s19_36 := m36 s19_34.n7; have s20_36 := m36 s20_34.n7
     have s21_36 := m36 s21_34.n7; have low36 := lw35; refine e_in (e_in (e_then (c_region ?_))); refine l_q rfl (q_add (((k + 1 : Nat) : Int)) rfl s21_36.ev rfl (i64_is (by omega) (by omega) (by omega)) ?_); refine l_q rfl (qm rfl (At.hit z36 rfl) (l_end (e_fr z36.p2 fun a37 z37 m37 => ?_))); have s1_37 := m37 s1_36.n2; have s6_37 := m37 s6_36.n2; have s8_37 := m37 s8_36.n2; have s19_37 := m37 s19_36.n2; have s20_37 := m37 s20_36.n2; have s21_37 := m37 (At.hit z36.put rfl); have c38 := OwnF.castL o35 (show (stP l ws k).set ((bsP (stP l ws k) ((ws.getD k zW).f0))) ⟨((stP l ws k).getD ((bsP (stP l ws k) ((ws.getD k zW).f0))) zP).f0, (ws.getD k zW).f2⟩ = stP l ws (k + 1) from step_set hc25 hb26); exact ⟨vg4_9, z37, s1_37, s6_37, s8_37, s19_37, s20_37, s21_37, kg4_35, kg6_35, c38, low36⟩
   | false =>
    have hs25 := s12_24.same (congrArg Value.bool hc25); refine c_region ?_; refine l_q rfl (qm rfl hs25 (l_q rfl (qm rfl (At.hit z24 rfl) (l_skip (wis rfl rfl (At.hit z24.put rfl) rfl) (l_skip (wis rfl rfl ((At.hit z24.put rfl).n1) rfl) (l_skip (wis rfl rfl ((At.hit z24.put rfl).n2) rfl) (l_q rfl (q_pick (b := false) (.bool false) rfl ((At.hit z24.put rfl).n3).ev rfl (l_q rfl (qa rfl (At.hit z24.p5 rfl) (l_end (e_fr z24.p7 fun a39 z39 m39 => ?_)))))))))))); have s1_39 := m39 s1_24.n7; have s6_39 := m39 s6_24.n7; have s8_39 := m39 s8_24.n7; have s10_39 := m39 s10_24.n7; have s11_39 := m39 s11_24.n7; have s12_39 := m39 hs25.n7; have s19_39 := m39 s19_24.n7; have s20_39 := m39 s20_24.n7; have s21_39 := m39 s21_24.n7; have s61_39 := m39 (At.hit z24.p6 rfl); refine e_then (c_false s61_39 ?_); refine c_seq (c_region ?_); refine l_q rfl (qm rfl s12_39 (l_q rfl (qa rfl (At.hit z39 rfl) (l_end (e_fr z39.p2 fun a40 z40 m40 => ?_))))); have s1_40 := m40 s1_39.n2; have s6_40 := m40 s6_39.n2; have s8_40 := m40 s8_39.n2; have s10_40 := m40 s10_39.n2; have s11_40 := m40 s11_39.n2; have s19_40 := m40 s19_39.n2; have s20_40 := m40 s20_39.n2; have s21_40 := m40 s21_39.n2; have s75_40 := m40 (At.hit z39.put rfl); refine e_then (c_false s75_40 ?_); refine c_seq ?_
    by_cases hb41 : ¬ (ws.getD k zW).f2 = nilB
    ·
     skip
     refine c_region ?_; refine l_q rfl (q_fld 2 rfl (by kernel_rfl) s10_40.ev ?_); refine l_q rfl (q_cellT (.string ((ws.getD k zW).f2)) rfl u_9 (At.hit z40 rfl).ev (fun _ e => by rw [e]; exact (cells_at kg10_23 2).trans rfl) ?_); refine l_q rfl (q_strne true rfl (At.hit z40.put rfl).ev rfl (neT hb41) ?_); refine l_q rfl (qm rfl (At.hit z40.p2 rfl) (l_qg (wis rfl rfl (At.hit z40.p3 rfl) rfl) (q_fld 1 rfl (by kernel_rfl) (s8_40.n4).ev (l_qg (wis rfl rfl ((At.hit z40.p3 rfl).n1) rfl) (q_cellS (vg4_9) rfl u_22 (At.hit z40.p4 rfl).ev (fun _ e => by rw [e]; exact (cells_at kg4_23 1).trans rfl) (l_qg (wis rfl rfl ((At.hit z40.p3 rfl).n2) rfl) (q_lenF rfl rfl u_22 (At.hit z40.p5 rfl).ev oxg4_23.rd (l_qg (wis rfl rfl ((At.hit z40.p3 rfl).n3) rfl) (q_geq false rfl (At.hit z40.p6 rfl).ev rfl (decide_eq_false (by omega)) (l_fr z40.p8 fun a42 z42 m42 => ?_)))))))))); have s1_42 := m42 s1_40.n8; have s6_42 := m42 s6_40.n8; have s8_42 := m42 s8_40.n8; have s10_42 := m42 s10_40.n8; have s11_42 := m42 s11_40.n8; have s19_42 := m42 s19_40.n8; have s20_42 := m42 s20_40.n8; have s21_42 := m42 s21_40.n8; have s88_42 := m42 ((At.hit z40.p3 rfl).n4); have s92_42 := m42 (At.hit z40.p7 rfl); refine l_q rfl (q_pick (b := true) (.bool false) rfl s88_42.ev s92_42.ev ?_); refine l_q rfl (qa rfl (At.hit z42 rfl) (l_end (e_fr z42.p2 fun a43 z43 m43 => ?_))); have s1_43 := m43 s1_42.n2; have s6_43 := m43 s6_42.n2; have s8_43 := m43 s8_42.n2; have s10_43 := m43 s10_42.n2; have s11_43 := m43 s11_42.n2; have s19_43 := m43 s19_42.n2; have s20_43 := m43 s20_42.n2; have s21_43 := m43 s21_42.n2; have s84_43 := m43 (At.hit z42.put rfl); refine e_then (c_false s84_43 ?_); refine c_seq (c_region ?_); refine l_q rfl (q_fld 2 rfl (by kernel_rfl) s10_43.ev ?_); refine l_q rfl (q_cellT (.string ((ws.getD k zW).f2)) rfl u_9 (At.hit z43 rfl).ev (fun _ e => by rw [e]; exact (cells_at kg10_23 2).trans rfl) ?_); refine l_q rfl (q_strne true rfl (At.hit z43.put rfl).ev rfl (neT hb41) ?_); refine l_q rfl (qa rfl (At.hit z43.p2 rfl) (l_end (e_fr z43.p4 fun a44 z44 m44 => ?_))); have s1_44 := m44 s1_43.n4; have s6_44 := m44 s6_43.n4; have s8_44 := m44 s8_43.n4; have s10_44 := m44 s10_43.n4; have s11_44 := m44 s11_43.n4; have s19_44 := m44 s19_43.n4; have s20_44 := m44 s20_43.n4; have s21_44 := m44 s21_43.n4; have s95_44 := m44 (At.hit z43.p3 rfl); refine e_then (c_true s95_44 ?_); refine c_region ?_; refine l_q rfl (q_fld 1 rfl (by kernel_rfl) s8_44.ev ?_); refine l_q rfl (q_cellS (vg4_9) rfl u_22 (At.hit z44 rfl).ev (fun _ e => by rw [e]; exact (cells_at kg4_23 1).trans rfl) ?_); refine l_q rfl (qm rfl (s11_44.n2) (l_q rfl (q_fld 0 rfl (by kernel_rfl) (s10_44.n3).ev (l_q rfl (q_cellT (.string ((ws.getD k zW).f0)) rfl u_9 (At.hit z44.p3 rfl).ev (fun _ e => by rw [e]; exact (cells_at kg10_23 0).trans rfl) (l_q rfl (q_fld 2 rfl (by kernel_rfl) (s10_44.n5).ev (l_q rfl (q_cellT (.string ((ws.getD k zW).f2)) rfl u_9 (At.hit z44.p5 rfl).ev (fun _ e => by rw [e]; exact (cells_at kg10_23 2).trans rfl) (l_q rfl (q_build rfl (parts2 ((At.hit z44.p4 rfl).n2).ev (At.hit z44.p6 rfl).ev) (built55 ((ws.getD k zW).f0) ((ws.getD k zW).f2)) (l_fr z44.p8 fun a45 z45 m45 => ?_))))))))))))
     have s1_45 := m45 s1_44.n8; have s6_45 := m45 s6_44.n8; have s8_45 := m45 s8_44.n8; have s19_45 := m45 s19_44.n8; have s20_45 := m45 s20_44.n8; have s21_45 := m45 s21_44.n8; have s100_45 := m45 ((At.hit z44.put rfl).n6); have s101_45 := m45 ((At.hit z44.p2 rfl).n5); have s106_45 := m45 (At.hit z44.p7 rfl); refine l_buildF (vs := [.string ((ws.getD k zW).f0), .string ((ws.getD k zW).f2)]) rfl rfl u_22 rec55 s106_45.ev rfl rfl (by decide) (by decide) ?_; intro g107_46 w46 hg46 k46 h46; have onxg4_g107_46 : ∀ k, Value.ownBlock vg4_9 = some k → k < g107_46 := fun k hk => Nat.lt_of_lt_of_le (OwnF.own_lt oxg4_23 hk) hg46
     have lt_g4_g107_46 := Nat.lt_of_lt_of_le (heap_lt kg4_23) hg46; have lt_g6_g107_46 := Nat.lt_of_lt_of_le (heap_lt kg6_23) hg46; have lt_g10_g107_46 := Nat.lt_of_lt_of_le (heap_lt kg10_23) hg46; have geg107_46 := Nat.le_trans low24.ge hg46; have kg4_46 := h46.blk kg4_23; have kg6_46 := h46.blk kg6_23; have kg10_46 := h46.blk kg10_23; have oxg4_46 := oxg4_23.low h46; have ovw_46 := ovw_23.low h46; refine l_call _ rfl rfl rfl Tryd.func30 rfl (args3 rfl (s100_45.n1).ev (s101_45.n1).ev (At.hit z45 rfl).ev) (Insert.calls w0.heap.size (bsP (stP l ws k) (ws.getD k zW).f0) vg4_9 (stP l ws k) ⟨(ws.getD k zW).f0, (ws.getD k zW).f2⟩ g107_46 (by omega) (bsP_le _ _) _ oxg4_46 k46 (fun e => Nat.lt_irrefl _ (onxg4_g107_46 _ e)) (low24.trans h46).ge) ?_
     rintro v47 w47 ⟨o47, gr47, ap47⟩
     have kg4_47 := gr47.blk kg4_46 rfl; have kg6_47 := gr47.blk kg6_46 rfl; have kg10_47 := gr47.blk kg10_46 rfl; have lw47 := (low24.trans h46).grw gr47; refine l_q rfl (q_fld 1 rfl (by kernel_rfl) (s8_45.n2).ev ?_); refine l_cell (j := 1) (v := v47) rfl rfl rfl sz22 (At.hit z45.p2 rfl).ev ((At.hit z45.put rfl).n1).ev (RdF.one o47.rd) kg4_47 (by simp) ?_; intro w48 k48 u48; replace k48 : w48.heap[g4]? = some (.cells (#[.string hd, v47]) 24) := k48; have ob47_48 := o47.upd u48 kg4_47 rfl; have kg6_48 := u48.blk kg6_47 (by omega); have kg10_48 := u48.blk kg10_47 (by omega); refine l_end (e_fr z45.p3 fun a49 z49 m49 => ?_); have s1_49 := m49 s1_45.n3; have s6_49 := m49 s6_45.n3; have s8_49 := m49 s8_45.n3; have s19_49 := m49 s19_45.n3; have s20_49 := m49 s20_45.n3; have s21_49 := m49 s21_45.n3; have low49 := (lw47.upd u48 geg4); refine e_in (e_in (e_then (c_region ?_))); refine l_q rfl (q_add (((k + 1 : Nat) : Int)) rfl s21_49.ev rfl (i64_is (by omega) (by omega) (by omega)) ?_); refine l_q rfl (qm rfl (At.hit z49 rfl) (l_end (e_fr z49.p2 fun a50 z50 m50 => ?_))); have s1_50 := m50 s1_49.n2; have s6_50 := m50 s6_49.n2; have s8_50 := m50 s8_49.n2; have s19_50 := m50 s19_49.n2; have s20_50 := m50 s20_49.n2; have s21_50 := m50 (At.hit z49.put rfl); have c51 := OwnF.castL ob47_48 (show (stP l ws k).take (bsP (stP l ws k) (ws.getD k zW).f0) ++ [(⟨(ws.getD k zW).f0, (ws.getD k zW).f2⟩ : Rf)] ++ (stP l ws k).drop (bsP (stP l ws k) (ws.getD k zW).f0) = stP l ws (k + 1) from step_ins hc25 hb41); exact ⟨v47, z50, s1_50, s6_50, s8_50, s19_50, s20_50, s21_50, k48, kg6_48, c51, low49⟩
    ·
     skip
     refine c_region ?_; refine l_q rfl (q_fld 2 rfl (by kernel_rfl) s10_40.ev ?_); refine l_q rfl (q_cellT (.string ((ws.getD k zW).f2)) rfl u_9 (At.hit z40 rfl).ev (fun _ e => by rw [e]; exact (cells_at kg10_23 2).trans rfl) ?_); refine l_q rfl (q_strne false rfl (At.hit z40.put rfl).ev rfl (neF (Decidable.not_not.1 hb41)) ?_); refine l_q rfl (qm rfl (At.hit z40.p2 rfl) (l_skip (wis rfl rfl (At.hit z40.p3 rfl) rfl) (l_skip (wis rfl rfl ((At.hit z40.p3 rfl).n1) rfl) (l_skip (wis rfl rfl ((At.hit z40.p3 rfl).n2) rfl) (l_skip (wis rfl rfl ((At.hit z40.p3 rfl).n3) rfl) (l_fr z40.p8 fun a52 z52 m52 => ?_)))))); have s1_52 := m52 s1_40.n8; have s6_52 := m52 s6_40.n8; have s8_52 := m52 s8_40.n8; have s10_52 := m52 s10_40.n8; have s11_52 := m52 s11_40.n8; have s19_52 := m52 s19_40.n8; have s20_52 := m52 s20_40.n8; have s21_52 := m52 s21_40.n8; have s88_52 := m52 ((At.hit z40.p3 rfl).n4); have s92_52 := m52 (At.hit z40.p7 rfl); refine l_q rfl (q_pick (b := false) (.bool false) rfl s88_52.ev rfl ?_); refine l_q rfl (qa rfl (At.hit z52 rfl) (l_end (e_fr z52.p2 fun a53 z53 m53 => ?_))); have s1_53 := m53 s1_52.n2; have s6_53 := m53 s6_52.n2; have s8_53 := m53 s8_52.n2; have s10_53 := m53 s10_52.n2; have s11_53 := m53 s11_52.n2; have s19_53 := m53 s19_52.n2; have s20_53 := m53 s20_52.n2; have s21_53 := m53 s21_52.n2; have s84_53 := m53 (At.hit z52.put rfl); refine e_then (c_false s84_53 ?_); refine c_seq (c_region ?_); refine l_q rfl (q_fld 2 rfl (by kernel_rfl) s10_53.ev ?_); refine l_q rfl (q_cellT (.string ((ws.getD k zW).f2)) rfl u_9 (At.hit z53 rfl).ev (fun _ e => by rw [e]; exact (cells_at kg10_23 2).trans rfl) ?_); refine l_q rfl (q_strne false rfl (At.hit z53.put rfl).ev rfl (neF (Decidable.not_not.1 hb41)) ?_); refine l_q rfl (qa rfl (At.hit z53.p2 rfl) (l_end (e_fr z53.p4 fun a54 z54 m54 => ?_))); have s1_54 := m54 s1_53.n4; have s6_54 := m54 s6_53.n4; have s8_54 := m54 s8_53.n4; have s10_54 := m54 s10_53.n4; have s11_54 := m54 s11_53.n4; have s19_54 := m54 s19_53.n4; have s20_54 := m54 s20_53.n4; have s21_54 := m54 s21_53.n4; have s95_54 := m54 (At.hit z53.p3 rfl); refine e_then (c_false s95_54 ?_); refine wp_skip (e_in (e_in (e_then (c_region ?_)))); refine l_q rfl (q_add (((k + 1 : Nat) : Int)) rfl s21_54.ev rfl (i64_is (by omega) (by omega) (by omega)) ?_); refine l_q rfl (qm rfl (At.hit z54 rfl) (l_end (e_fr z54.p2 fun a55 z55 m55 => ?_))); have s1_55 := m55 s1_54.n2; have s6_55 := m55 s6_54.n2; have s8_55 := m55 s8_54.n2; have s19_55 := m55 s19_54.n2; have s20_55 := m55 s20_54.n2; have s21_55 := m55 (At.hit z54.put rfl); have c56 := OwnF.castL oxg4_23 (show stP l ws k = stP l ws (k + 1) from step_none hc25 (Decidable.not_not.1 hb41)); exact ⟨vg4_9, z55, s1_55, s6_55, s8_55, s19_55, s20_55, s21_55, kg4_23, kg6_23, c56, low24⟩
  ·
   skip
   refine region_lowg hm (by kernel_rfl) ?_; refine gs rfl (q_fld 2 rfl (by kernel_rfl) s10_18.ev ?_); refine gs rfl (q_cellT (.string ((ws.getD k zW).f2)) rfl u_9 (At.hit z18 rfl).ev (fun _ h => (cells_at (h.blk kg10_17) 2).trans rfl) ?_); refine gs rfl (q_strne false rfl (At.hit z18.put rfl).ev rfl (neF (Decidable.not_not.1 hb19)) ?_); refine gs rfl (qm rfl (At.hit z18.p2 rfl) (gsk (wis rfl rfl (At.hit z18.p3 rfl) rfl) (gsk (wis rfl rfl ((At.hit z18.p3 rfl).n1) rfl) (gsk (wis rfl rfl ((At.hit z18.p3 rfl).n2) rfl) (gsk (wis rfl rfl ((At.hit z18.p3 rfl).n3) rfl) (g_fr z18.p8 fun a57 z57 m57 => ?_)))))); have s1_57 := m57 s1_18.n8; have s6_57 := m57 s6_18.n8; have s8_57 := m57 s8_18.n8; have s10_57 := m57 s10_18.n8; have s11_57 := m57 s11_18.n8; have s12_57 := m57 s12_18.n8; have s19_57 := m57 s19_18.n8; have s20_57 := m57 s20_18.n8; have s21_57 := m57 s21_18.n8; have s43_57 := m57 ((At.hit z18.p3 rfl).n4); have s46_57 := m57 ((At.hit z18.p6 rfl).n1); have s47_57 := m57 (At.hit z18.p7 rfl); refine gsk (wis rfl rfl s43_57 rfl) ?_; refine gsk (wis rfl rfl (s43_57.n1) rfl) ?_; refine gs rfl (q_pick (b := false) (.bool false) rfl (s43_57.n2).ev rfl ?_); refine gs rfl (qa rfl (At.hit z57.p2 rfl) (gz ?_)); intro w58 h58; have kg4_58 := h58.blk kg4_17; have kg6_58 := h58.blk kg6_17; have kg10_58 := h58.blk kg10_17; have oxg4_58 := oxg4_17.low h58; have ovw_58 := ovw_17.low h58; refine e_id (e_fr z57.p4 fun a59 z59 m59 => ?_); have s1_59 := m59 s1_57.n4; have s6_59 := m59 s6_57.n4; have s8_59 := m59 s8_57.n4; have s10_59 := m59 s10_57.n4; have s11_59 := m59 s11_57.n4; have s12_59 := m59 s12_57.n4; have s19_59 := m59 s19_57.n4; have s20_59 := m59 s20_57.n4; have s21_59 := m59 s21_57.n4; have s39_59 := m59 (At.hit z57.p3 rfl); have low59 := (low18.trans h58); refine e_then (c_false s39_59 ?_); refine c_seq (region_low hm (by kernel_rfl) ?_); refine qs (q_row rfl u_24 rfl (sz24.trans (congrArg some rfl.symm)) s8_59.ev (fun _ h => h.blk kg4_58) ?_); refine qs (q_fld 0 rfl (by kernel_rfl) (s10_59.n1).ev ?_); refine qs (q_cellT (.string ((ws.getD k zW).f0)) rfl u_9 (At.hit z59.put rfl).ev (fun _ h => (cells_at (h.blk kg10_58) 0).trans rfl) ?_); refine qs (q_call (.string (getL (stP l ws k) ((ws.getD k zW).f0))) rfl rfl Tryd.func15 rfl (args2 rfl ((At.hit z59 rfl).n2).ev (At.hit z59.p2 rfl).ev) (fun _ h => (Get.calls hd vg4_9 (stP l ws k) (by omega) ((ws.getD k zW).f0) _ ((oxg4_58.low h).rd)).mono fun _ _ ⟨e, k⟩ => ⟨e, h.trans k⟩) ?_); refine qs (q_fld 1 rfl (by kernel_rfl) (s10_59.n4).ev ?_); refine qs (q_cellT (.string ((ws.getD k zW).f1)) rfl u_9 (At.hit z59.p4 rfl).ev (fun _ h => (cells_at (h.blk kg10_58) 1).trans rfl) ?_); refine qs (q_strne false rfl ((At.hit z59.p3 rfl).n2).ev (At.hit z59.p5 rfl).ev (neF hk3) ?_); refine qs (qa rfl (At.hit z59.p6 rfl) (qz ?_)); intro w60 h60; have kg4_60 := h60.blk kg4_58; have kg6_60 := h60.blk kg6_58; have kg10_60 := h60.blk kg10_58; have oxg4_60 := oxg4_58.low h60; have ovw_60 := ovw_58.low h60; refine e_id (e_fr z59.p8 fun a61 z61 m61 => ?_)
   have s1_61 := m61 s1_59.n8; have s6_61 := m61 s6_59.n8; have s8_61 := m61 s8_59.n8; have s10_61 := m61 s10_59.n8; have s11_61 := m61 s11_59.n8; have s12_61 := m61 s12_59.n8; have s19_61 := m61 s19_59.n8; have s20_61 := m61 s20_59.n8; have s21_61 := m61 s21_59.n8; have s52_61 := m61 (At.hit z59.p7 rfl); have low61 := (low59.trans h60); refine e_then (c_false s52_61 ?_); refine c_seq ?_
   cases hc62 : bsB (stP l ws k) ((ws.getD k zW).f0) with
   | true =>
    have hs62 := s12_61.same (congrArg Value.bool hc62)
    by_cases hb63 : (ws.getD k zW).f2 = nilB
    ·
     skip
     refine c_region ?_; refine l_q rfl (qm rfl hs62 (l_q rfl (qm rfl (At.hit z61 rfl) (l_qg (wis rfl rfl (At.hit z61.put rfl) rfl) (q_fld 2 rfl (by kernel_rfl) (s10_61.n2).ev (l_qg (wis rfl rfl ((At.hit z61.put rfl).n1) rfl) (q_cellT (.string ((ws.getD k zW).f2)) rfl u_9 (At.hit z61.p2 rfl).ev (fun _ e => by rw [e]; exact (cells_at kg10_60 2).trans rfl) (l_qg (wis rfl rfl ((At.hit z61.put rfl).n2) rfl) (q_streq true rfl (At.hit z61.p3 rfl).ev rfl (strT hb63) (l_q rfl (q_pick (b := true) (.bool true) rfl ((At.hit z61.put rfl).n3).ev (At.hit z61.p4 rfl).ev (l_q rfl (qa rfl (At.hit z61.p5 rfl) (l_end (e_fr z61.p7 fun a64 z64 m64 => ?_))))))))))))))); have s1_64 := m64 s1_61.n7; have s6_64 := m64 s6_61.n7; have s8_64 := m64 s8_61.n7; have s10_64 := m64 s10_61.n7; have s11_64 := m64 s11_61.n7; have s12_64 := m64 hs62.n7; have s19_64 := m64 s19_61.n7; have s20_64 := m64 s20_61.n7; have s21_64 := m64 s21_61.n7; have s61_64 := m64 (At.hit z61.p6 rfl); refine e_then (c_true s61_64 ?_); refine c_region ?_; refine l_q rfl (q_fld 1 rfl (by kernel_rfl) s8_64.ev ?_); refine l_q rfl (q_cellS (vg4_9) rfl u_22 (At.hit z64 rfl).ev (fun _ e => by rw [e]; exact (cells_at kg4_60 1).trans rfl) ?_); refine l_q rfl (qm rfl (s11_64.n2) (l_q rfl (qm rfl (s11_64.n3) (l_q rfl (q_add ((((bsP (stP l ws k) ((ws.getD k zW).f0)) + 1 : Nat) : Int)) rfl (At.hit z64.p3 rfl).ev rfl (i64_is (by omega) (by omega) (by omega)) (l_call _ rfl rfl rfl Tryd.func29 rfl (args3 rfl ((At.hit z64.put rfl).n3).ev ((At.hit z64.p2 rfl).n2).ev (At.hit z64.p4 rfl).ev) (Delete.calls w0.heap.size (bsP (stP l ws k) (ws.getD k zW).f0) vg4_9 (stP l ws k) (by omega) (there_lt hc62) _ oxg4_60 low61.ge) ?_))))))
     rintro v65 w65 ⟨o65, gr65, ap65⟩
     have kg4_65 := gr65.blk kg4_60 rfl; have kg6_65 := gr65.blk kg6_60 rfl; have kg10_65 := gr65.blk kg10_60 rfl; have lw65 := low61.grw gr65; refine l_q rfl (q_fld 1 rfl (by kernel_rfl) (s8_64.n6).ev ?_); refine l_cell (j := 1) (v := v65) rfl rfl rfl sz22 (At.hit z64.p6 rfl).ev ((At.hit z64.p5 rfl).n1).ev (RdF.one o65.rd) kg4_65 (by simp) ?_; intro w66 k66 u66; replace k66 : w66.heap[g4]? = some (.cells (#[.string hd, v65]) 24) := k66; have ob65_66 := o65.upd u66 kg4_65 rfl; have kg6_66 := u66.blk kg6_65 (by omega); have kg10_66 := u66.blk kg10_65 (by omega); refine l_end (e_fr z64.p7 fun a67 z67 m67 => ?_); have s1_67 := m67 s1_64.n7; have s6_67 := m67 s6_64.n7; have s8_67 := m67 s8_64.n7; have s19_67 := m67 s19_64.n7; have s20_67 := m67 s20_64.n7; have s21_67 := m67 s21_64.n7; have low67 := (lw65.upd u66 geg4); refine e_in (e_in (e_then (c_region ?_))); refine l_q rfl (q_add (((k + 1 : Nat) : Int)) rfl s21_67.ev rfl (i64_is (by omega) (by omega) (by omega)) ?_); refine l_q rfl (qm rfl (At.hit z67 rfl) (l_end (e_fr z67.p2 fun a68 z68 m68 => ?_))); have s1_68 := m68 s1_67.n2; have s6_68 := m68 s6_67.n2; have s8_68 := m68 s8_67.n2; have s19_68 := m68 s19_67.n2; have s20_68 := m68 s20_67.n2; have s21_68 := m68 (At.hit z67.put rfl); have c69 := OwnF.castL ob65_66 (show (stP l ws k).take (bsP (stP l ws k) (ws.getD k zW).f0) ++ (stP l ws k).drop (bsP (stP l ws k) (ws.getD k zW).f0 + 1) = stP l ws (k + 1) from step_del hc62 hb63); exact ⟨v65, z68, s1_68, s6_68, s8_68, s19_68, s20_68, s21_68, k66, kg6_66, c69, low67⟩
    ·
     skip
     refine c_region ?_; refine l_q rfl (qm rfl hs62 (l_q rfl (qm rfl (At.hit z61 rfl) (l_qg (wis rfl rfl (At.hit z61.put rfl) rfl) (q_fld 2 rfl (by kernel_rfl) (s10_61.n2).ev (l_qg (wis rfl rfl ((At.hit z61.put rfl).n1) rfl) (q_cellT (.string ((ws.getD k zW).f2)) rfl u_9 (At.hit z61.p2 rfl).ev (fun _ e => by rw [e]; exact (cells_at kg10_60 2).trans rfl) (l_qg (wis rfl rfl ((At.hit z61.put rfl).n2) rfl) (q_streq false rfl (At.hit z61.p3 rfl).ev rfl (strF hb63) (l_q rfl (q_pick (b := true) (.bool false) rfl ((At.hit z61.put rfl).n3).ev (At.hit z61.p4 rfl).ev (l_q rfl (qa rfl (At.hit z61.p5 rfl) (l_end (e_fr z61.p7 fun a70 z70 m70 => ?_))))))))))))))); have s1_70 := m70 s1_61.n7; have s6_70 := m70 s6_61.n7; have s8_70 := m70 s8_61.n7; have s10_70 := m70 s10_61.n7; have s11_70 := m70 s11_61.n7; have s12_70 := m70 hs62.n7; have s19_70 := m70 s19_61.n7; have s20_70 := m70 s20_61.n7; have s21_70 := m70 s21_61.n7; have s61_70 := m70 (At.hit z61.p6 rfl); refine e_then (c_false s61_70 ?_); refine c_seq (c_region ?_); refine l_q rfl (qm rfl s12_70 (l_q rfl (qa rfl (At.hit z70 rfl) (l_end (e_fr z70.p2 fun a71 z71 m71 => ?_))))); have s1_71 := m71 s1_70.n2; have s6_71 := m71 s6_70.n2; have s8_71 := m71 s8_70.n2; have s10_71 := m71 s10_70.n2; have s11_71 := m71 s11_70.n2; have s19_71 := m71 s19_70.n2; have s20_71 := m71 s20_70.n2; have s21_71 := m71 s21_70.n2; have s75_71 := m71 (At.hit z70.put rfl); refine e_then (c_true s75_71 ?_); have hin := there_lt hc62; refine c_region ?_; refine l_q rfl (q_fld 1 rfl (by kernel_rfl) s8_71.ev ?_); refine l_q rfl (q_cellS (vg4_9) rfl u_22 (At.hit z71 rfl).ev (fun _ e => by rw [e]; exact (cells_at kg4_60 1).trans rfl) ?_); refine l_q rfl (qm rfl (s11_71.n2) (l_q rfl (q_fld 2 rfl (by kernel_rfl) (s10_71.n3).ev (l_q rfl (q_cellT (.string ((ws.getD k zW).f2)) rfl u_9 (At.hit z71.p3 rfl).ev (fun _ e => by rw [e]; exact (cells_at kg10_60 2).trans rfl) (l_q rfl (q_idxF (j := (bsP (stP l ws k) ((ws.getD k zW).f0))) rfl u_22 sz55 ((At.hit z71.put rfl).n3).ev oxg4_60.rd ((At.hit z71.p2 rfl).n2).ev (by omega) (l_q rfl (q_fldF 1 rfl fld55_1 (At.hit z71.p5 rfl).ev (oxg4_60.rd.form (by omega)) (l_setF (k := (bsP (stP l ws k) ((ws.getD k zW).f0)) * 2 + 1) rfl rfl rfl sz9 (At.hit z71.p6 rfl).ev ((At.hit z71.p4 rfl).n2).ev rfl oxg4_60 (by rw [flat_len encP_len]; have := (there_lt hc62); omega) ?_)))))))))); intro w72 o72 gr72; replace o72 := o72.cast (show _ = ((stP l ws k).set ((bsP (stP l ws k) ((ws.getD k zW).f0))) ⟨((stP l ws k).getD ((bsP (stP l ws k) ((ws.getD k zW).f0))) zP).f0, (ws.getD k zW).f2⟩).length from (List.length_set ..).symm) (flat_set (stP l ws k) ((bsP (stP l ws k) ((ws.getD k zW).f0))) ((ws.getD k zW).f2) (there_lt hc62)); have kg4_72 := gr72.blk kg4_60 rfl; have kg6_72 := gr72.blk kg6_60 rfl; have kg10_72 := gr72.blk kg10_60 rfl; have lw72 := low61.grw gr72; refine l_end (e_fr z71.p7 fun a73 z73 m73 => ?_); have s1_73 := m73 s1_71.n7; have s6_73 := m73 s6_71.n7; have s8_73 := m73 s8_71.n7; have s19_73 := m73 s19_71.n7; have s20_73 := m73 s20_71.n7
     have s21_73 := m73 s21_71.n7; have low73 := lw72; refine e_in (e_in (e_then (c_region ?_))); refine l_q rfl (q_add (((k + 1 : Nat) : Int)) rfl s21_73.ev rfl (i64_is (by omega) (by omega) (by omega)) ?_); refine l_q rfl (qm rfl (At.hit z73 rfl) (l_end (e_fr z73.p2 fun a74 z74 m74 => ?_))); have s1_74 := m74 s1_73.n2; have s6_74 := m74 s6_73.n2; have s8_74 := m74 s8_73.n2; have s19_74 := m74 s19_73.n2; have s20_74 := m74 s20_73.n2; have s21_74 := m74 (At.hit z73.put rfl); have c75 := OwnF.castL o72 (show (stP l ws k).set ((bsP (stP l ws k) ((ws.getD k zW).f0))) ⟨((stP l ws k).getD ((bsP (stP l ws k) ((ws.getD k zW).f0))) zP).f0, (ws.getD k zW).f2⟩ = stP l ws (k + 1) from step_set hc62 hb63); exact ⟨vg4_9, z74, s1_74, s6_74, s8_74, s19_74, s20_74, s21_74, kg4_72, kg6_72, c75, low73⟩
   | false =>
    have hs62 := s12_61.same (congrArg Value.bool hc62); refine c_region ?_; refine l_q rfl (qm rfl hs62 (l_q rfl (qm rfl (At.hit z61 rfl) (l_skip (wis rfl rfl (At.hit z61.put rfl) rfl) (l_skip (wis rfl rfl ((At.hit z61.put rfl).n1) rfl) (l_skip (wis rfl rfl ((At.hit z61.put rfl).n2) rfl) (l_q rfl (q_pick (b := false) (.bool false) rfl ((At.hit z61.put rfl).n3).ev rfl (l_q rfl (qa rfl (At.hit z61.p5 rfl) (l_end (e_fr z61.p7 fun a76 z76 m76 => ?_)))))))))))); have s1_76 := m76 s1_61.n7; have s6_76 := m76 s6_61.n7; have s8_76 := m76 s8_61.n7; have s10_76 := m76 s10_61.n7; have s11_76 := m76 s11_61.n7; have s12_76 := m76 hs62.n7; have s19_76 := m76 s19_61.n7; have s20_76 := m76 s20_61.n7; have s21_76 := m76 s21_61.n7; have s61_76 := m76 (At.hit z61.p6 rfl); refine e_then (c_false s61_76 ?_); refine c_seq (c_region ?_); refine l_q rfl (qm rfl s12_76 (l_q rfl (qa rfl (At.hit z76 rfl) (l_end (e_fr z76.p2 fun a77 z77 m77 => ?_))))); have s1_77 := m77 s1_76.n2; have s6_77 := m77 s6_76.n2; have s8_77 := m77 s8_76.n2; have s10_77 := m77 s10_76.n2; have s11_77 := m77 s11_76.n2; have s19_77 := m77 s19_76.n2; have s20_77 := m77 s20_76.n2; have s21_77 := m77 s21_76.n2; have s75_77 := m77 (At.hit z76.put rfl); refine e_then (c_false s75_77 ?_); refine c_seq ?_
    by_cases hb78 : ¬ (ws.getD k zW).f2 = nilB
    ·
     skip
     refine c_region ?_; refine l_q rfl (q_fld 2 rfl (by kernel_rfl) s10_77.ev ?_); refine l_q rfl (q_cellT (.string ((ws.getD k zW).f2)) rfl u_9 (At.hit z77 rfl).ev (fun _ e => by rw [e]; exact (cells_at kg10_60 2).trans rfl) ?_); refine l_q rfl (q_strne true rfl (At.hit z77.put rfl).ev rfl (neT hb78) ?_); refine l_q rfl (qm rfl (At.hit z77.p2 rfl) (l_qg (wis rfl rfl (At.hit z77.p3 rfl) rfl) (q_fld 1 rfl (by kernel_rfl) (s8_77.n4).ev (l_qg (wis rfl rfl ((At.hit z77.p3 rfl).n1) rfl) (q_cellS (vg4_9) rfl u_22 (At.hit z77.p4 rfl).ev (fun _ e => by rw [e]; exact (cells_at kg4_60 1).trans rfl) (l_qg (wis rfl rfl ((At.hit z77.p3 rfl).n2) rfl) (q_lenF rfl rfl u_22 (At.hit z77.p5 rfl).ev oxg4_60.rd (l_qg (wis rfl rfl ((At.hit z77.p3 rfl).n3) rfl) (q_geq false rfl (At.hit z77.p6 rfl).ev rfl (decide_eq_false (by omega)) (l_fr z77.p8 fun a79 z79 m79 => ?_)))))))))); have s1_79 := m79 s1_77.n8; have s6_79 := m79 s6_77.n8; have s8_79 := m79 s8_77.n8; have s10_79 := m79 s10_77.n8; have s11_79 := m79 s11_77.n8; have s19_79 := m79 s19_77.n8; have s20_79 := m79 s20_77.n8; have s21_79 := m79 s21_77.n8; have s88_79 := m79 ((At.hit z77.p3 rfl).n4); have s92_79 := m79 (At.hit z77.p7 rfl); refine l_q rfl (q_pick (b := true) (.bool false) rfl s88_79.ev s92_79.ev ?_); refine l_q rfl (qa rfl (At.hit z79 rfl) (l_end (e_fr z79.p2 fun a80 z80 m80 => ?_))); have s1_80 := m80 s1_79.n2; have s6_80 := m80 s6_79.n2; have s8_80 := m80 s8_79.n2; have s10_80 := m80 s10_79.n2; have s11_80 := m80 s11_79.n2; have s19_80 := m80 s19_79.n2; have s20_80 := m80 s20_79.n2; have s21_80 := m80 s21_79.n2; have s84_80 := m80 (At.hit z79.put rfl); refine e_then (c_false s84_80 ?_); refine c_seq (c_region ?_); refine l_q rfl (q_fld 2 rfl (by kernel_rfl) s10_80.ev ?_); refine l_q rfl (q_cellT (.string ((ws.getD k zW).f2)) rfl u_9 (At.hit z80 rfl).ev (fun _ e => by rw [e]; exact (cells_at kg10_60 2).trans rfl) ?_); refine l_q rfl (q_strne true rfl (At.hit z80.put rfl).ev rfl (neT hb78) ?_); refine l_q rfl (qa rfl (At.hit z80.p2 rfl) (l_end (e_fr z80.p4 fun a81 z81 m81 => ?_))); have s1_81 := m81 s1_80.n4; have s6_81 := m81 s6_80.n4; have s8_81 := m81 s8_80.n4; have s10_81 := m81 s10_80.n4; have s11_81 := m81 s11_80.n4; have s19_81 := m81 s19_80.n4; have s20_81 := m81 s20_80.n4; have s21_81 := m81 s21_80.n4; have s95_81 := m81 (At.hit z80.p3 rfl); refine e_then (c_true s95_81 ?_); refine c_region ?_; refine l_q rfl (q_fld 1 rfl (by kernel_rfl) s8_81.ev ?_); refine l_q rfl (q_cellS (vg4_9) rfl u_22 (At.hit z81 rfl).ev (fun _ e => by rw [e]; exact (cells_at kg4_60 1).trans rfl) ?_); refine l_q rfl (qm rfl (s11_81.n2) (l_q rfl (q_fld 0 rfl (by kernel_rfl) (s10_81.n3).ev (l_q rfl (q_cellT (.string ((ws.getD k zW).f0)) rfl u_9 (At.hit z81.p3 rfl).ev (fun _ e => by rw [e]; exact (cells_at kg10_60 0).trans rfl) (l_q rfl (q_fld 2 rfl (by kernel_rfl) (s10_81.n5).ev (l_q rfl (q_cellT (.string ((ws.getD k zW).f2)) rfl u_9 (At.hit z81.p5 rfl).ev (fun _ e => by rw [e]; exact (cells_at kg10_60 2).trans rfl) (l_q rfl (q_build rfl (parts2 ((At.hit z81.p4 rfl).n2).ev (At.hit z81.p6 rfl).ev) (built55 ((ws.getD k zW).f0) ((ws.getD k zW).f2)) (l_fr z81.p8 fun a82 z82 m82 => ?_))))))))))))
     have s1_82 := m82 s1_81.n8; have s6_82 := m82 s6_81.n8; have s8_82 := m82 s8_81.n8; have s19_82 := m82 s19_81.n8; have s20_82 := m82 s20_81.n8; have s21_82 := m82 s21_81.n8; have s100_82 := m82 ((At.hit z81.put rfl).n6); have s101_82 := m82 ((At.hit z81.p2 rfl).n5); have s106_82 := m82 (At.hit z81.p7 rfl); refine l_buildF (vs := [.string ((ws.getD k zW).f0), .string ((ws.getD k zW).f2)]) rfl rfl u_22 rec55 s106_82.ev rfl rfl (by decide) (by decide) ?_; intro g107_83 w83 hg83 k83 h83; have onxg4_g107_83 : ∀ k, Value.ownBlock vg4_9 = some k → k < g107_83 := fun k hk => Nat.lt_of_lt_of_le (OwnF.own_lt oxg4_60 hk) hg83
     have lt_g4_g107_83 := Nat.lt_of_lt_of_le (heap_lt kg4_60) hg83; have lt_g6_g107_83 := Nat.lt_of_lt_of_le (heap_lt kg6_60) hg83; have lt_g10_g107_83 := Nat.lt_of_lt_of_le (heap_lt kg10_60) hg83; have geg107_83 := Nat.le_trans low61.ge hg83; have kg4_83 := h83.blk kg4_60; have kg6_83 := h83.blk kg6_60; have kg10_83 := h83.blk kg10_60; have oxg4_83 := oxg4_60.low h83; have ovw_83 := ovw_60.low h83; refine l_call _ rfl rfl rfl Tryd.func30 rfl (args3 rfl (s100_82.n1).ev (s101_82.n1).ev (At.hit z82 rfl).ev) (Insert.calls w0.heap.size (bsP (stP l ws k) (ws.getD k zW).f0) vg4_9 (stP l ws k) ⟨(ws.getD k zW).f0, (ws.getD k zW).f2⟩ g107_83 (by omega) (bsP_le _ _) _ oxg4_83 k83 (fun e => Nat.lt_irrefl _ (onxg4_g107_83 _ e)) (low61.trans h83).ge) ?_
     rintro v84 w84 ⟨o84, gr84, ap84⟩
     have kg4_84 := gr84.blk kg4_83 rfl; have kg6_84 := gr84.blk kg6_83 rfl; have kg10_84 := gr84.blk kg10_83 rfl; have lw84 := (low61.trans h83).grw gr84; refine l_q rfl (q_fld 1 rfl (by kernel_rfl) (s8_82.n2).ev ?_); refine l_cell (j := 1) (v := v84) rfl rfl rfl sz22 (At.hit z82.p2 rfl).ev ((At.hit z82.put rfl).n1).ev (RdF.one o84.rd) kg4_84 (by simp) ?_; intro w85 k85 u85; replace k85 : w85.heap[g4]? = some (.cells (#[.string hd, v84]) 24) := k85; have ob84_85 := o84.upd u85 kg4_84 rfl; have kg6_85 := u85.blk kg6_84 (by omega); have kg10_85 := u85.blk kg10_84 (by omega); refine l_end (e_fr z82.p3 fun a86 z86 m86 => ?_); have s1_86 := m86 s1_82.n3; have s6_86 := m86 s6_82.n3; have s8_86 := m86 s8_82.n3; have s19_86 := m86 s19_82.n3; have s20_86 := m86 s20_82.n3; have s21_86 := m86 s21_82.n3; have low86 := (lw84.upd u85 geg4); refine e_in (e_in (e_then (c_region ?_))); refine l_q rfl (q_add (((k + 1 : Nat) : Int)) rfl s21_86.ev rfl (i64_is (by omega) (by omega) (by omega)) ?_); refine l_q rfl (qm rfl (At.hit z86 rfl) (l_end (e_fr z86.p2 fun a87 z87 m87 => ?_))); have s1_87 := m87 s1_86.n2; have s6_87 := m87 s6_86.n2; have s8_87 := m87 s8_86.n2; have s19_87 := m87 s19_86.n2; have s20_87 := m87 s20_86.n2; have s21_87 := m87 (At.hit z86.put rfl); have c88 := OwnF.castL ob84_85 (show (stP l ws k).take (bsP (stP l ws k) (ws.getD k zW).f0) ++ [(⟨(ws.getD k zW).f0, (ws.getD k zW).f2⟩ : Rf)] ++ (stP l ws k).drop (bsP (stP l ws k) (ws.getD k zW).f0) = stP l ws (k + 1) from step_ins hc62 hb78); exact ⟨v84, z87, s1_87, s6_87, s8_87, s19_87, s20_87, s21_87, k85, kg6_85, c88, low86⟩
    ·
     skip
     refine c_region ?_; refine l_q rfl (q_fld 2 rfl (by kernel_rfl) s10_77.ev ?_); refine l_q rfl (q_cellT (.string ((ws.getD k zW).f2)) rfl u_9 (At.hit z77 rfl).ev (fun _ e => by rw [e]; exact (cells_at kg10_60 2).trans rfl) ?_); refine l_q rfl (q_strne false rfl (At.hit z77.put rfl).ev rfl (neF (Decidable.not_not.1 hb78)) ?_); refine l_q rfl (qm rfl (At.hit z77.p2 rfl) (l_skip (wis rfl rfl (At.hit z77.p3 rfl) rfl) (l_skip (wis rfl rfl ((At.hit z77.p3 rfl).n1) rfl) (l_skip (wis rfl rfl ((At.hit z77.p3 rfl).n2) rfl) (l_skip (wis rfl rfl ((At.hit z77.p3 rfl).n3) rfl) (l_fr z77.p8 fun a89 z89 m89 => ?_)))))); have s1_89 := m89 s1_77.n8; have s6_89 := m89 s6_77.n8; have s8_89 := m89 s8_77.n8; have s10_89 := m89 s10_77.n8; have s11_89 := m89 s11_77.n8; have s19_89 := m89 s19_77.n8; have s20_89 := m89 s20_77.n8; have s21_89 := m89 s21_77.n8; have s88_89 := m89 ((At.hit z77.p3 rfl).n4); have s92_89 := m89 (At.hit z77.p7 rfl); refine l_q rfl (q_pick (b := false) (.bool false) rfl s88_89.ev rfl ?_); refine l_q rfl (qa rfl (At.hit z89 rfl) (l_end (e_fr z89.p2 fun a90 z90 m90 => ?_))); have s1_90 := m90 s1_89.n2; have s6_90 := m90 s6_89.n2; have s8_90 := m90 s8_89.n2; have s10_90 := m90 s10_89.n2; have s11_90 := m90 s11_89.n2; have s19_90 := m90 s19_89.n2; have s20_90 := m90 s20_89.n2; have s21_90 := m90 s21_89.n2; have s84_90 := m90 (At.hit z89.put rfl); refine e_then (c_false s84_90 ?_); refine c_seq (c_region ?_); refine l_q rfl (q_fld 2 rfl (by kernel_rfl) s10_90.ev ?_); refine l_q rfl (q_cellT (.string ((ws.getD k zW).f2)) rfl u_9 (At.hit z90 rfl).ev (fun _ e => by rw [e]; exact (cells_at kg10_60 2).trans rfl) ?_); refine l_q rfl (q_strne false rfl (At.hit z90.put rfl).ev rfl (neF (Decidable.not_not.1 hb78)) ?_); refine l_q rfl (qa rfl (At.hit z90.p2 rfl) (l_end (e_fr z90.p4 fun a91 z91 m91 => ?_))); have s1_91 := m91 s1_90.n4; have s6_91 := m91 s6_90.n4; have s8_91 := m91 s8_90.n4; have s10_91 := m91 s10_90.n4; have s11_91 := m91 s11_90.n4; have s19_91 := m91 s19_90.n4; have s20_91 := m91 s20_90.n4; have s21_91 := m91 s21_90.n4; have s95_91 := m91 (At.hit z90.p3 rfl); refine e_then (c_false s95_91 ?_); refine wp_skip (e_in (e_in (e_then (c_region ?_)))); refine l_q rfl (q_add (((k + 1 : Nat) : Int)) rfl s21_91.ev rfl (i64_is (by omega) (by omega) (by omega)) ?_); refine l_q rfl (qm rfl (At.hit z91 rfl) (l_end (e_fr z91.p2 fun a92 z92 m92 => ?_))); have s1_92 := m92 s1_91.n2; have s6_92 := m92 s6_91.n2; have s8_92 := m92 s8_91.n2; have s19_92 := m92 s19_91.n2; have s20_92 := m92 s20_91.n2; have s21_92 := m92 (At.hit z91.put rfl); have c93 := OwnF.castL oxg4_60 (show stP l ws k = stP l ws (k + 1) from step_none hc62 (Decidable.not_not.1 hb78)); exact ⟨vg4_9, z92, s1_92, s6_92, s8_92, s19_92, s20_92, s21_92, kg4_60, kg6_60, c93, low61⟩
 ·
  intro a94 w94 h; obtain ⟨vg4_94, z94, s1_94, s6_94, s8_94, s19_94, s20_94, s21_94, kg4_94, kg6_94, oxg4_94, low94⟩ := h; clear k5 kg6_5 low6 s19_7 s1_7 s20_7 s21_7 s6_7 s8_7 z7; have hphase := trivial; have hle := apN_le (nsize sp) l ws; have hsl := stP_len l ws (apN (nsize sp) l ws); refine c_seq ?_
  by_cases hb95 : (apN (nsize sp) l ws) < ws.length
  ·
   skip
   refine c_region ?_; refine l_q rfl (q_lss true rfl s21_94.ev s20_94.ev (decide_eq_true (by omega)) ?_); refine l_end (e_fr z94.put fun a96 z96 m96 => ?_); have s1_96 := m96 s1_94.n1; have s6_96 := m96 s6_94.n1; have s8_96 := m96 s8_94.n1; have s19_96 := m96 s19_94.n1; have s21_96 := m96 s21_94.n1; have s22_96 := m96 (At.hit z94 rfl); refine e_then (c_seq (c_true s22_96 ?_)); refine wp_skip (e_then (c_seq (wp_block (c_seq (c_region ?_))))); refine l_q rfl (q_idxF (j := (apN (nsize sp) l ws)) rfl u_25 sz32 s19_96.ev (hvw.low low94) s21_96.ev (by omega) ?_); refine l_q rfl (q_ldR (vs := [.string ((ws.getD (apN (nsize sp) l ws) zW).f0), .string ((ws.getD (apN (nsize sp) l ws) zW).f1), .string ((ws.getD (apN (nsize sp) l ws) zW).f2)]) rfl u_32 rfl sz32 (At.hit z96 rfl).ev (fun _ e => by rw [e]; exact (hvw.low low94)) (by omega) rfl (flat_part encW_len zW _ (apN (nsize sp) l ws) (by omega)) ?_); refine l_alloc rfl rfl zero32 ?_; intro g10 w97 hg97 k97 h97; have lt_g4_g10 := Nat.lt_of_lt_of_le (heap_lt kg4_94) hg97; have lt_g6_g10 := Nat.lt_of_lt_of_le (heap_lt kg6_94) hg97; have geg10 := Nat.le_trans low94.ge hg97; have kg4_97 := h97.blk kg4_94; have kg6_97 := h97.blk kg6_94; have oxg4_97 := oxg4_94.low h97; have ovw_97 := (hvw.low low94).low h97; refine l_row rfl rfl rfl (sz32.trans (congrArg some rfl.symm)) (At.hit z96.p2 rfl).ev ((At.hit z96.put rfl).n1).ev (by simp [Value.oneCell']) k97 (rfl.trans rfl.symm) ?_; intro w98 k98 u98; have oxg4_98 := oxg4_97.upd u98 k97 rfl; have kg4_98 := u98.blk kg4_97 (by omega); have kg6_98 := u98.blk kg6_97 (by omega); refine l_end (e_fr z96.p3 fun a99 z99 m99 => ?_); have s1_99 := m99 s1_96.n3; have s6_99 := m99 s6_96.n3; have s8_99 := m99 s8_96.n3; have s10_99 := m99 (At.hit z96.p2 rfl); have s21_99 := m99 s21_96.n3; have low99 := ((low94.trans h97).upd u98 geg10); refine e_then (c_seq (c_region ?_)); refine l_q rfl (q_fld 1 rfl (by kernel_rfl) s8_99.ev ?_); refine l_q rfl (q_cellS (vg4_94) rfl u_22 (At.hit z99 rfl).ev (fun _ e => by rw [e]; exact (cells_at kg4_98 1).trans rfl) ?_); refine l_q rfl (q_fld 0 rfl (by kernel_rfl) (s10_99.n2).ev ?_); refine l_q rfl (q_cellT (.string ((ws.getD (apN (nsize sp) l ws) zW).f0)) rfl u_9 (At.hit z99.p2 rfl).ev (fun _ e => by rw [e]; exact (cells_at k98 0).trans rfl) ?_); refine l_call (fun v w' => v = .tuple #[.int .i64 (((bsP (stP l ws (apN (nsize sp) l ws)) ((ws.getD (apN (nsize sp) l ws) zW).f0)) : Nat) : Int), .bool (bsB (stP l ws (apN (nsize sp) l ws)) ((ws.getD (apN (nsize sp) l ws) zW).f0))] ∧ Low w98 w') rfl rfl rfl Tryd.func26 rfl (args2 rfl ((At.hit z99.put rfl).n2).ev (At.hit z99.p3 rfl).ev) ((Place.calls vg4_94 (stP l ws (apN (nsize sp) l ws)) (by omega) ((ws.getD (apN (nsize sp) l ws) zW).f0) _ (oxg4_98.rd)).mono fun _ _ ⟨e, k⟩ => ⟨_, e, rfl, k⟩) ?_
   rintro _ w100 ⟨rfl, h100⟩
   have kg4_100 := h100.blk kg4_98; have kg6_100 := h100.blk kg6_98; have kg10_100 := h100.blk k98; have oxg4_100 := oxg4_98.low h100; refine l_q rfl (qm rfl (At.hit z99.p4 rfl) (l_q rfl (q_extract rfl (At.hit z99.p5 rfl).ev rfl (l_q rfl (q_extract rfl ((At.hit z99.p5 rfl).n1).ev rfl (l_fr z99.p8 fun a101 z101 m101 => ?_)))))); have s1_101 := m101 s1_99.n8; have s6_101 := m101 s6_99.n8; have s8_101 := m101 s8_99.n8; have s10_101 := m101 s10_99.n8; have s21_101 := m101 s21_99.n8; have s31_101 := m101 ((At.hit z99.p6 rfl).n1); have s32_101 := m101 (At.hit z99.p7 rfl); refine l_q rfl (qa rfl s31_101 (l_q rfl (qa rfl (s32_101.n1) (l_end (e_fr z101.p2 fun a102 z102 m102 => ?_))))); have s1_102 := m102 s1_101.n2; have s6_102 := m102 s6_101.n2; have s8_102 := m102 s8_101.n2; have s10_102 := m102 s10_101.n2; have s11_102 := m102 ((At.hit z101 rfl).n1); have s12_102 := m102 (At.hit z101.put rfl); have s21_102 := m102 s21_101.n2; have low102 := (low99.trans h100); refine e_then (wp_block (c_seq ?_))
   by_cases hb103 : rightN (ws.getD (apN (nsize sp) l ws) zW).f0 = true
   ·
    skip
    refine c_region ?_; refine l_q rfl (q_fld 0 rfl (by kernel_rfl) s10_102.ev ?_); refine l_q rfl (q_cellT (.string ((ws.getD (apN (nsize sp) l ws) zW).f0)) rfl u_9 (At.hit z102 rfl).ev (fun _ e => by rw [e]; exact (cells_at kg10_100 0).trans rfl) ?_); refine l_call (fun v w' => v = .bool true ∧ Low w100 w') rfl rfl rfl Tryd.func27 rfl (args1 rfl (At.hit z102.put rfl).ev) (((calls_bool (RightN.calls ((ws.getD (apN (nsize sp) l ws) zW).f0) _ (Gd.low hG low102)) hb103)).mono fun _ _ ⟨e, k⟩ => ⟨_, e, rfl, k⟩) ?_
    rintro _ w104 ⟨rfl, h104⟩
    have kg4_104 := h104.blk kg4_100; have kg6_104 := h104.blk kg6_100; have kg10_104 := h104.blk kg10_100; have oxg4_104 := oxg4_100.low h104; refine l_q rfl (q_not (b := true) rfl (At.hit z102.p2 rfl).ev ?_); refine l_q rfl (qa rfl (At.hit z102.p3 rfl) (l_end (e_fr z102.p5 fun a105 z105 m105 => ?_))); have s1_105 := m105 s1_102.n5; have s6_105 := m105 s6_102.n5; have s8_105 := m105 s8_102.n5; have s10_105 := m105 s10_102.n5; have s11_105 := m105 s11_102.n5; have s12_105 := m105 s12_102.n5; have s21_105 := m105 s21_102.n5; have s33_105 := m105 (At.hit z102.p4 rfl); have low105 := (low102.trans h104); refine e_then (c_false s33_105 ?_); refine c_seq ?_
    by_cases hb106 : ¬ (ws.getD (apN (nsize sp) l ws) zW).f2 = nilB
    ·
     skip
     by_cases hb107 : ¬ ((ws.getD (apN (nsize sp) l ws) zW).f2.size : Int) = nsize sp
     ·
      skip
      refine region_lowg hm (by kernel_rfl) ?_; refine gs rfl (q_fld 2 rfl (by kernel_rfl) s10_105.ev ?_); refine gs rfl (q_cellT (.string ((ws.getD (apN (nsize sp) l ws) zW).f2)) rfl u_9 (At.hit z105 rfl).ev (fun _ h => (cells_at (h.blk kg10_104) 2).trans rfl) ?_); refine gs rfl (q_strne true rfl (At.hit z105.put rfl).ev rfl (neT hb106) ?_); refine gs rfl (qm rfl (At.hit z105.p2 rfl) (gsg (wis rfl rfl (At.hit z105.p3 rfl) rfl) (q_fld 2 rfl (by kernel_rfl) (s10_105.n4).ev (gsg (wis rfl rfl ((At.hit z105.p3 rfl).n1) rfl) (q_cellT (.string ((ws.getD (apN (nsize sp) l ws) zW).f2)) rfl u_9 (At.hit z105.p4 rfl).ev (fun _ h => (cells_at (h.blk kg10_104) 2).trans rfl) (gsg (wis rfl rfl ((At.hit z105.p3 rfl).n2) rfl) (q_len rfl rfl u_9 (At.hit z105.p5 rfl).ev (gsg (wis rfl rfl ((At.hit z105.p3 rfl).n3) rfl) (qm rfl (s1_105.n7) (g_fr z105.p8 fun a108 z108 m108 => ?_)))))))))); have s6_108 := m108 s6_105.n8; have s8_108 := m108 s8_105.n8; have s10_108 := m108 s10_105.n8; have s11_108 := m108 s11_105.n8; have s12_108 := m108 s12_105.n8; have s21_108 := m108 s21_105.n8; have s43_108 := m108 ((At.hit z105.p3 rfl).n4); have s46_108 := m108 ((At.hit z105.p6 rfl).n1); have s47_108 := m108 (At.hit z105.p7 rfl); refine gsg (wis rfl rfl s43_108 rfl) (q_call (.int .i64 (nsize sp)) rfl rfl Tryd.func28 rfl (args1 rfl s47_108.ev) (fun _ h => (Size.calls sp _).mono fun _ _ ⟨e, k⟩ => ⟨e, h.trans k⟩) ?_); refine gsg (wis rfl rfl (s43_108.n1) rfl) (q_neq true rfl (s46_108.n1).ev (At.hit z108 rfl).ev (decide_eq_true (by omega)) ?_); refine gs rfl (q_pick (b := true) (.bool true) rfl (s43_108.n2).ev (At.hit z108.put rfl).ev ?_); refine gs rfl (qa rfl (At.hit z108.p2 rfl) (gz ?_)); intro w109 h109; have kg4_109 := h109.blk kg4_104; have kg6_109 := h109.blk kg6_104; have kg10_109 := h109.blk kg10_104; have oxg4_109 := oxg4_104.low h109; refine e_id (e_fr z108.p4 fun a110 z110 m110 => ?_); have s6_110 := m110 s6_108.n4; have s8_110 := m110 s8_108.n4; have s10_110 := m110 s10_108.n4; have s11_110 := m110 s11_108.n4; have s12_110 := m110 s12_108.n4; have s21_110 := m110 s21_108.n4; have s39_110 := m110 (At.hit z108.p3 rfl); have low110 := (low105.trans h109); refine e_then (c_true s39_110 ?_); refine c_seq (c_region ?_); refine l_q rfl (q_build (ps := #[]) (cs := #[.string nilB, .slice none 0 0]) rfl (by simp) built24_0 ?_); refine l_row rfl rfl rfl (sz24.trans (congrArg some rfl)) (s6_110.n1).ev (At.hit z110 rfl).ev (one2 _ rfl) kg6_109 rfl ?_; intro w111 k111 u111; have oxg4_111 := oxg4_109.upd u111 kg6_109 rfl; have kg4_111 := u111.blk kg4_109 (by omega); have kg10_111 := u111.blk kg10_109 (by omega); refine l_q rfl (q_assign _ _ rfl rfl ?_); refine l_end (e_fr z110.p2 fun a112 z112 m112 => ?_); have s6_112 := m112 s6_110.n2; have s7_112 := m112 (At.hit z110.put rfl); have low112 := (low110.upd u111 geg6); refine e_then (wp_ret (ret_in (ret_in (ret_then (ret_then (ret_in (ret_then (r_cell_tmp rfl z112.defers s6_112 s7_112 k111 u_24 rfl (sz24.trans (congrArg some rfl.symm)) ?_))))))))
      obtain ⟨e1, e2, e3⟩ := ap_bad hd hb95 (err_3 hb103 hb106 hb107); rw [e1, e2, e3]; exact ⟨_, rfl, OwnF.nil _ _ _ _, low112⟩
     ·
      skip
      refine region_lowg hm (by kernel_rfl) ?_; refine gs rfl (q_fld 2 rfl (by kernel_rfl) s10_105.ev ?_); refine gs rfl (q_cellT (.string ((ws.getD (apN (nsize sp) l ws) zW).f2)) rfl u_9 (At.hit z105 rfl).ev (fun _ h => (cells_at (h.blk kg10_104) 2).trans rfl) ?_); refine gs rfl (q_strne true rfl (At.hit z105.put rfl).ev rfl (neT hb106) ?_); refine gs rfl (qm rfl (At.hit z105.p2 rfl) (gsg (wis rfl rfl (At.hit z105.p3 rfl) rfl) (q_fld 2 rfl (by kernel_rfl) (s10_105.n4).ev (gsg (wis rfl rfl ((At.hit z105.p3 rfl).n1) rfl) (q_cellT (.string ((ws.getD (apN (nsize sp) l ws) zW).f2)) rfl u_9 (At.hit z105.p4 rfl).ev (fun _ h => (cells_at (h.blk kg10_104) 2).trans rfl) (gsg (wis rfl rfl ((At.hit z105.p3 rfl).n2) rfl) (q_len rfl rfl u_9 (At.hit z105.p5 rfl).ev (gsg (wis rfl rfl ((At.hit z105.p3 rfl).n3) rfl) (qm rfl (s1_105.n7) (g_fr z105.p8 fun a113 z113 m113 => ?_)))))))))); have s6_113 := m113 s6_105.n8; have s8_113 := m113 s8_105.n8; have s10_113 := m113 s10_105.n8; have s11_113 := m113 s11_105.n8; have s12_113 := m113 s12_105.n8; have s21_113 := m113 s21_105.n8; have s43_113 := m113 ((At.hit z105.p3 rfl).n4); have s46_113 := m113 ((At.hit z105.p6 rfl).n1); have s47_113 := m113 (At.hit z105.p7 rfl); refine gsg (wis rfl rfl s43_113 rfl) (q_call (.int .i64 (nsize sp)) rfl rfl Tryd.func28 rfl (args1 rfl s47_113.ev) (fun _ h => (Size.calls sp _).mono fun _ _ ⟨e, k⟩ => ⟨e, h.trans k⟩) ?_); refine gsg (wis rfl rfl (s43_113.n1) rfl) (q_neq false rfl (s46_113.n1).ev (At.hit z113 rfl).ev (decide_eq_false (by omega)) ?_); refine gs rfl (q_pick (b := true) (.bool false) rfl (s43_113.n2).ev (At.hit z113.put rfl).ev ?_); refine gs rfl (qa rfl (At.hit z113.p2 rfl) (gz ?_)); intro w114 h114; have kg4_114 := h114.blk kg4_104; have kg6_114 := h114.blk kg6_104; have kg10_114 := h114.blk kg10_104; have oxg4_114 := oxg4_104.low h114; refine e_id (e_fr z113.p4 fun a115 z115 m115 => ?_); have s6_115 := m115 s6_113.n4; have s8_115 := m115 s8_113.n4; have s10_115 := m115 s10_113.n4; have s11_115 := m115 s11_113.n4; have s12_115 := m115 s12_113.n4; have s21_115 := m115 s21_113.n4; have s39_115 := m115 (At.hit z113.p3 rfl); have low115 := (low105.trans h114); refine e_then (c_false s39_115 ?_); refine c_seq ?_
      by_cases hb116 : ¬ getL (stP l ws (apN (nsize sp) l ws)) (ws.getD (apN (nsize sp) l ws) zW).f0 = (ws.getD (apN (nsize sp) l ws) zW).f1
      ·
       skip
       refine region_low hm (by kernel_rfl) ?_; refine qs (q_row rfl u_24 rfl (sz24.trans (congrArg some rfl.symm)) s8_115.ev (fun _ h => h.blk kg4_114) ?_); refine qs (q_fld 0 rfl (by kernel_rfl) (s10_115.n1).ev ?_); refine qs (q_cellT (.string ((ws.getD (apN (nsize sp) l ws) zW).f0)) rfl u_9 (At.hit z115.put rfl).ev (fun _ h => (cells_at (h.blk kg10_114) 0).trans rfl) ?_); refine qs (q_call (.string (getL (stP l ws (apN (nsize sp) l ws)) ((ws.getD (apN (nsize sp) l ws) zW).f0))) rfl rfl Tryd.func15 rfl (args2 rfl ((At.hit z115 rfl).n2).ev (At.hit z115.p2 rfl).ev) (fun _ h => (Get.calls hd vg4_94 (stP l ws (apN (nsize sp) l ws)) (by omega) ((ws.getD (apN (nsize sp) l ws) zW).f0) _ ((oxg4_114.low h).rd)).mono fun _ _ ⟨e, k⟩ => ⟨e, h.trans k⟩) ?_); refine qs (q_fld 1 rfl (by kernel_rfl) (s10_115.n4).ev ?_); refine qs (q_cellT (.string ((ws.getD (apN (nsize sp) l ws) zW).f1)) rfl u_9 (At.hit z115.p4 rfl).ev (fun _ h => (cells_at (h.blk kg10_114) 1).trans rfl) ?_); refine qs (q_strne true rfl ((At.hit z115.p3 rfl).n2).ev (At.hit z115.p5 rfl).ev (neT hb116) ?_); refine qs (qa rfl (At.hit z115.p6 rfl) (qz ?_)); intro w117 h117; have kg4_117 := h117.blk kg4_114; have kg6_117 := h117.blk kg6_114; have kg10_117 := h117.blk kg10_114; have oxg4_117 := oxg4_114.low h117; refine e_id (e_fr z115.p8 fun a118 z118 m118 => ?_); have s6_118 := m118 s6_115.n8; have s8_118 := m118 s8_115.n8; have s10_118 := m118 s10_115.n8; have s11_118 := m118 s11_115.n8; have s12_118 := m118 s12_115.n8; have s21_118 := m118 s21_115.n8; have s52_118 := m118 (At.hit z115.p7 rfl); have low118 := (low115.trans h117); refine e_then (c_true s52_118 ?_); refine c_seq (c_region ?_); refine l_q rfl (q_build (ps := #[]) (cs := #[.string nilB, .slice none 0 0]) rfl (by simp) built24_0 ?_); refine l_row rfl rfl rfl (sz24.trans (congrArg some rfl)) (s6_118.n1).ev (At.hit z118 rfl).ev (one2 _ rfl) kg6_117 rfl ?_; intro w119 k119 u119; have oxg4_119 := oxg4_117.upd u119 kg6_117 rfl; have kg4_119 := u119.blk kg4_117 (by omega); have kg10_119 := u119.blk kg10_117 (by omega); refine l_q rfl (q_assign _ _ rfl rfl ?_); refine l_end (e_fr z118.p2 fun a120 z120 m120 => ?_); have s6_120 := m120 s6_118.n2; have s7_120 := m120 (At.hit z118.put rfl); have low120 := (low118.upd u119 geg6); refine e_then (wp_ret (ret_in (ret_in (ret_then (ret_then (ret_in (ret_then (r_cell_tmp rfl z120.defers s6_120 s7_120 k119 u_24 rfl (sz24.trans (congrArg some rfl.symm)) ?_)))))))); obtain ⟨e1, e2, e3⟩ := ap_bad hd hb95 (err_13 hb103 (fun _ => Decidable.not_not.1 hb107) hb116); rw [e1, e2, e3]; exact ⟨_, rfl, OwnF.nil _ _ _ _, low120⟩
      ·
       skip
       refine region_low hm (by kernel_rfl) ?_; refine qs (q_row rfl u_24 rfl (sz24.trans (congrArg some rfl.symm)) s8_115.ev (fun _ h => h.blk kg4_114) ?_); refine qs (q_fld 0 rfl (by kernel_rfl) (s10_115.n1).ev ?_); refine qs (q_cellT (.string ((ws.getD (apN (nsize sp) l ws) zW).f0)) rfl u_9 (At.hit z115.put rfl).ev (fun _ h => (cells_at (h.blk kg10_114) 0).trans rfl) ?_); refine qs (q_call (.string (getL (stP l ws (apN (nsize sp) l ws)) ((ws.getD (apN (nsize sp) l ws) zW).f0))) rfl rfl Tryd.func15 rfl (args2 rfl ((At.hit z115 rfl).n2).ev (At.hit z115.p2 rfl).ev) (fun _ h => (Get.calls hd vg4_94 (stP l ws (apN (nsize sp) l ws)) (by omega) ((ws.getD (apN (nsize sp) l ws) zW).f0) _ ((oxg4_114.low h).rd)).mono fun _ _ ⟨e, k⟩ => ⟨e, h.trans k⟩) ?_); refine qs (q_fld 1 rfl (by kernel_rfl) (s10_115.n4).ev ?_); refine qs (q_cellT (.string ((ws.getD (apN (nsize sp) l ws) zW).f1)) rfl u_9 (At.hit z115.p4 rfl).ev (fun _ h => (cells_at (h.blk kg10_114) 1).trans rfl) ?_); refine qs (q_strne false rfl ((At.hit z115.p3 rfl).n2).ev (At.hit z115.p5 rfl).ev (neF (Decidable.not_not.1 hb116)) ?_); refine qs (qa rfl (At.hit z115.p6 rfl) (qz ?_)); intro w121 h121; have kg4_121 := h121.blk kg4_114; have kg6_121 := h121.blk kg6_114; have kg10_121 := h121.blk kg10_114; have oxg4_121 := oxg4_114.low h121; refine e_id (e_fr z115.p8 fun a122 z122 m122 => ?_); have s6_122 := m122 s6_115.n8; have s8_122 := m122 s8_115.n8; have s10_122 := m122 s10_115.n8; have s11_122 := m122 s11_115.n8; have s12_122 := m122 s12_115.n8; have s21_122 := m122 s21_115.n8; have s52_122 := m122 (At.hit z115.p7 rfl); have low122 := (low115.trans h121); refine e_then (c_false s52_122 ?_); refine c_seq ?_
       cases hc123 : bsB (stP l ws (apN (nsize sp) l ws)) ((ws.getD (apN (nsize sp) l ws) zW).f0) with
       | true =>
        have hs123 := s12_122.same (congrArg Value.bool hc123); exact absurd (errP_ok hb103 (fun _ => Decidable.not_not.1 hb107) (Decidable.not_not.1 hb116)) (apN_stop hb95)
       | false =>
        have hs123 := s12_122.same (congrArg Value.bool hc123); exact absurd (errP_ok hb103 (fun _ => Decidable.not_not.1 hb107) (Decidable.not_not.1 hb116)) (apN_stop hb95)
    ·
     skip
     refine region_lowg hm (by kernel_rfl) ?_; refine gs rfl (q_fld 2 rfl (by kernel_rfl) s10_105.ev ?_); refine gs rfl (q_cellT (.string ((ws.getD (apN (nsize sp) l ws) zW).f2)) rfl u_9 (At.hit z105 rfl).ev (fun _ h => (cells_at (h.blk kg10_104) 2).trans rfl) ?_); refine gs rfl (q_strne false rfl (At.hit z105.put rfl).ev rfl (neF (Decidable.not_not.1 hb106)) ?_); refine gs rfl (qm rfl (At.hit z105.p2 rfl) (gsk (wis rfl rfl (At.hit z105.p3 rfl) rfl) (gsk (wis rfl rfl ((At.hit z105.p3 rfl).n1) rfl) (gsk (wis rfl rfl ((At.hit z105.p3 rfl).n2) rfl) (gsk (wis rfl rfl ((At.hit z105.p3 rfl).n3) rfl) (g_fr z105.p8 fun a124 z124 m124 => ?_)))))); have s6_124 := m124 s6_105.n8; have s8_124 := m124 s8_105.n8; have s10_124 := m124 s10_105.n8; have s11_124 := m124 s11_105.n8; have s12_124 := m124 s12_105.n8; have s21_124 := m124 s21_105.n8; have s43_124 := m124 ((At.hit z105.p3 rfl).n4); have s46_124 := m124 ((At.hit z105.p6 rfl).n1); have s47_124 := m124 (At.hit z105.p7 rfl); refine gsk (wis rfl rfl s43_124 rfl) ?_; refine gsk (wis rfl rfl (s43_124.n1) rfl) ?_; refine gs rfl (q_pick (b := false) (.bool false) rfl (s43_124.n2).ev rfl ?_); refine gs rfl (qa rfl (At.hit z124.p2 rfl) (gz ?_)); intro w125 h125; have kg4_125 := h125.blk kg4_104; have kg6_125 := h125.blk kg6_104; have kg10_125 := h125.blk kg10_104; have oxg4_125 := oxg4_104.low h125; refine e_id (e_fr z124.p4 fun a126 z126 m126 => ?_); have s6_126 := m126 s6_124.n4; have s8_126 := m126 s8_124.n4; have s10_126 := m126 s10_124.n4; have s11_126 := m126 s11_124.n4; have s12_126 := m126 s12_124.n4; have s21_126 := m126 s21_124.n4; have s39_126 := m126 (At.hit z124.p3 rfl); have low126 := (low105.trans h125); refine e_then (c_false s39_126 ?_); refine c_seq ?_
     by_cases hb127 : ¬ getL (stP l ws (apN (nsize sp) l ws)) (ws.getD (apN (nsize sp) l ws) zW).f0 = (ws.getD (apN (nsize sp) l ws) zW).f1
     ·
      skip
      refine region_low hm (by kernel_rfl) ?_; refine qs (q_row rfl u_24 rfl (sz24.trans (congrArg some rfl.symm)) s8_126.ev (fun _ h => h.blk kg4_125) ?_); refine qs (q_fld 0 rfl (by kernel_rfl) (s10_126.n1).ev ?_); refine qs (q_cellT (.string ((ws.getD (apN (nsize sp) l ws) zW).f0)) rfl u_9 (At.hit z126.put rfl).ev (fun _ h => (cells_at (h.blk kg10_125) 0).trans rfl) ?_); refine qs (q_call (.string (getL (stP l ws (apN (nsize sp) l ws)) ((ws.getD (apN (nsize sp) l ws) zW).f0))) rfl rfl Tryd.func15 rfl (args2 rfl ((At.hit z126 rfl).n2).ev (At.hit z126.p2 rfl).ev) (fun _ h => (Get.calls hd vg4_94 (stP l ws (apN (nsize sp) l ws)) (by omega) ((ws.getD (apN (nsize sp) l ws) zW).f0) _ ((oxg4_125.low h).rd)).mono fun _ _ ⟨e, k⟩ => ⟨e, h.trans k⟩) ?_); refine qs (q_fld 1 rfl (by kernel_rfl) (s10_126.n4).ev ?_); refine qs (q_cellT (.string ((ws.getD (apN (nsize sp) l ws) zW).f1)) rfl u_9 (At.hit z126.p4 rfl).ev (fun _ h => (cells_at (h.blk kg10_125) 1).trans rfl) ?_); refine qs (q_strne true rfl ((At.hit z126.p3 rfl).n2).ev (At.hit z126.p5 rfl).ev (neT hb127) ?_); refine qs (qa rfl (At.hit z126.p6 rfl) (qz ?_)); intro w128 h128; have kg4_128 := h128.blk kg4_125; have kg6_128 := h128.blk kg6_125; have kg10_128 := h128.blk kg10_125; have oxg4_128 := oxg4_125.low h128; refine e_id (e_fr z126.p8 fun a129 z129 m129 => ?_); have s6_129 := m129 s6_126.n8; have s8_129 := m129 s8_126.n8; have s10_129 := m129 s10_126.n8; have s11_129 := m129 s11_126.n8; have s12_129 := m129 s12_126.n8; have s21_129 := m129 s21_126.n8; have s52_129 := m129 (At.hit z126.p7 rfl); have low129 := (low126.trans h128); refine e_then (c_true s52_129 ?_); refine c_seq (c_region ?_); refine l_q rfl (q_build (ps := #[]) (cs := #[.string nilB, .slice none 0 0]) rfl (by simp) built24_0 ?_); refine l_row rfl rfl rfl (sz24.trans (congrArg some rfl)) (s6_129.n1).ev (At.hit z129 rfl).ev (one2 _ rfl) kg6_128 rfl ?_; intro w130 k130 u130; have oxg4_130 := oxg4_128.upd u130 kg6_128 rfl; have kg4_130 := u130.blk kg4_128 (by omega); have kg10_130 := u130.blk kg10_128 (by omega); refine l_q rfl (q_assign _ _ rfl rfl ?_); refine l_end (e_fr z129.p2 fun a131 z131 m131 => ?_); have s6_131 := m131 s6_129.n2; have s7_131 := m131 (At.hit z129.put rfl); have low131 := (low129.upd u130 geg6); refine e_then (wp_ret (ret_in (ret_in (ret_then (ret_then (ret_in (ret_then (r_cell_tmp rfl z131.defers s6_131 s7_131 k130 u_24 rfl (sz24.trans (congrArg some rfl.symm)) ?_)))))))); obtain ⟨e1, e2, e3⟩ := ap_bad hd hb95 (err_13 hb103 (fun h => absurd h hb106) hb127); rw [e1, e2, e3]; exact ⟨_, rfl, OwnF.nil _ _ _ _, low131⟩
     ·
      skip
      refine region_low hm (by kernel_rfl) ?_; refine qs (q_row rfl u_24 rfl (sz24.trans (congrArg some rfl.symm)) s8_126.ev (fun _ h => h.blk kg4_125) ?_); refine qs (q_fld 0 rfl (by kernel_rfl) (s10_126.n1).ev ?_); refine qs (q_cellT (.string ((ws.getD (apN (nsize sp) l ws) zW).f0)) rfl u_9 (At.hit z126.put rfl).ev (fun _ h => (cells_at (h.blk kg10_125) 0).trans rfl) ?_); refine qs (q_call (.string (getL (stP l ws (apN (nsize sp) l ws)) ((ws.getD (apN (nsize sp) l ws) zW).f0))) rfl rfl Tryd.func15 rfl (args2 rfl ((At.hit z126 rfl).n2).ev (At.hit z126.p2 rfl).ev) (fun _ h => (Get.calls hd vg4_94 (stP l ws (apN (nsize sp) l ws)) (by omega) ((ws.getD (apN (nsize sp) l ws) zW).f0) _ ((oxg4_125.low h).rd)).mono fun _ _ ⟨e, k⟩ => ⟨e, h.trans k⟩) ?_); refine qs (q_fld 1 rfl (by kernel_rfl) (s10_126.n4).ev ?_); refine qs (q_cellT (.string ((ws.getD (apN (nsize sp) l ws) zW).f1)) rfl u_9 (At.hit z126.p4 rfl).ev (fun _ h => (cells_at (h.blk kg10_125) 1).trans rfl) ?_); refine qs (q_strne false rfl ((At.hit z126.p3 rfl).n2).ev (At.hit z126.p5 rfl).ev (neF (Decidable.not_not.1 hb127)) ?_); refine qs (qa rfl (At.hit z126.p6 rfl) (qz ?_)); intro w132 h132; have kg4_132 := h132.blk kg4_125; have kg6_132 := h132.blk kg6_125; have kg10_132 := h132.blk kg10_125; have oxg4_132 := oxg4_125.low h132; refine e_id (e_fr z126.p8 fun a133 z133 m133 => ?_); have s6_133 := m133 s6_126.n8; have s8_133 := m133 s8_126.n8; have s10_133 := m133 s10_126.n8; have s11_133 := m133 s11_126.n8; have s12_133 := m133 s12_126.n8; have s21_133 := m133 s21_126.n8; have s52_133 := m133 (At.hit z126.p7 rfl); have low133 := (low126.trans h132); refine e_then (c_false s52_133 ?_); refine c_seq ?_
      cases hc134 : bsB (stP l ws (apN (nsize sp) l ws)) ((ws.getD (apN (nsize sp) l ws) zW).f0) with
      | true =>
       have hs134 := s12_133.same (congrArg Value.bool hc134); exact absurd (errP_ok hb103 (fun h => absurd h hb106) (Decidable.not_not.1 hb127)) (apN_stop hb95)
      | false =>
       have hs134 := s12_133.same (congrArg Value.bool hc134); exact absurd (errP_ok hb103 (fun h => absurd h hb106) (Decidable.not_not.1 hb127)) (apN_stop hb95)
   ·
    skip
    refine c_region ?_; refine l_q rfl (q_fld 0 rfl (by kernel_rfl) s10_102.ev ?_); refine l_q rfl (q_cellT (.string ((ws.getD (apN (nsize sp) l ws) zW).f0)) rfl u_9 (At.hit z102 rfl).ev (fun _ e => by rw [e]; exact (cells_at kg10_100 0).trans rfl) ?_); refine l_call (fun v w' => v = .bool false ∧ Low w100 w') rfl rfl rfl Tryd.func27 rfl (args1 rfl (At.hit z102.put rfl).ev) (((calls_bool (RightN.calls ((ws.getD (apN (nsize sp) l ws) zW).f0) _ (Gd.low hG low102)) (eq_false_of_ne_true hb103))).mono fun _ _ ⟨e, k⟩ => ⟨_, e, rfl, k⟩) ?_
    rintro _ w135 ⟨rfl, h135⟩
    have kg4_135 := h135.blk kg4_100; have kg6_135 := h135.blk kg6_100; have kg10_135 := h135.blk kg10_100; have oxg4_135 := oxg4_100.low h135; refine l_q rfl (q_not (b := false) rfl (At.hit z102.p2 rfl).ev ?_); refine l_q rfl (qa rfl (At.hit z102.p3 rfl) (l_end (e_fr z102.p5 fun a136 z136 m136 => ?_))); have s1_136 := m136 s1_102.n5; have s6_136 := m136 s6_102.n5; have s8_136 := m136 s8_102.n5; have s10_136 := m136 s10_102.n5; have s11_136 := m136 s11_102.n5; have s12_136 := m136 s12_102.n5; have s21_136 := m136 s21_102.n5; have s33_136 := m136 (At.hit z102.p4 rfl); have low136 := (low102.trans h135); refine e_then (c_true s33_136 ?_); refine c_seq (c_region ?_); refine l_q rfl (q_build (ps := #[]) (cs := #[.string nilB, .slice none 0 0]) rfl (by simp) built24_0 ?_); refine l_row rfl rfl rfl (sz24.trans (congrArg some rfl)) (s6_136.n1).ev (At.hit z136 rfl).ev (one2 _ rfl) kg6_135 rfl ?_; intro w137 k137 u137; have oxg4_137 := oxg4_135.upd u137 kg6_135 rfl; have kg4_137 := u137.blk kg4_135 (by omega); have kg10_137 := u137.blk kg10_135 (by omega); refine l_q rfl (q_assign _ _ rfl rfl ?_); refine l_end (e_fr z136.p2 fun a138 z138 m138 => ?_); have s6_138 := m138 s6_136.n2; have s7_138 := m138 (At.hit z136.put rfl); have low138 := (low136.upd u137 geg6); refine e_then (wp_ret (ret_in (ret_in (ret_then (ret_then (ret_in (ret_then (r_cell_tmp rfl z138.defers s6_138 s7_138 k137 u_24 rfl (sz24.trans (congrArg some rfl.symm)) ?_)))))))); obtain ⟨e1, e2, e3⟩ := ap_bad hd hb95 (err_12 hb103); rw [e1, e2, e3]; exact ⟨_, rfl, OwnF.nil _ _ _ _, low138⟩
  ·
   skip
   refine c_region ?_; refine l_q rfl (q_lss false rfl s21_94.ev s20_94.ev (decide_eq_false (by omega)) ?_); refine l_end (e_fr z94.put fun a139 z139 m139 => ?_); have s1_139 := m139 s1_94.n1; have s6_139 := m139 s6_94.n1; have s8_139 := m139 s8_94.n1; have s19_139 := m139 s19_94.n1; have s21_139 := m139 s21_94.n1; have s22_139 := m139 (At.hit z94 rfl); refine e_then (c_seq (c_false s22_139 ?_)); refine wp_exit (x_then (x_then (in_exit (e_then (c_seq (c_region ?_)))))); refine l_q rfl (q_row rfl u_24 rfl (sz24.trans (congrArg some rfl.symm)) s8_139.ev (fun _ e => by rw [e]; exact kg4_94) ?_); refine l_row rfl rfl rfl (sz24.trans (congrArg some rfl)) (s6_139.n1).ev (At.hit z139 rfl).ev (one2 _ (RdF.one oxg4_94.rd)) kg6_94 rfl ?_; intro w140 k140 u140; have oxg4_140 := oxg4_94.upd u140 kg6_94 rfl; have kg4_140 := u140.blk kg4_94 (by omega); refine l_q rfl (q_assign _ _ rfl rfl ?_); refine l_end (e_fr z139.p2 fun a141 z141 m141 => ?_); have s6_141 := m141 s6_139.n2; have s7_141 := m141 (At.hit z139.put rfl); have low141 := (low94.upd u140 geg6); refine e_then (wp_ret (r_cell_tmp rfl z141.defers s6_141 s7_141 k140 u_24 rfl (sz24.trans (congrArg some rfl.symm)) ?_)); obtain ⟨e1, e2, e3⟩ := ap_good hd hb95; rw [e1, e2, e3]; exact ⟨_, rfl, oxg4_140, low141⟩
end Go.Proofs.YtnhchnlgleokoaaDoor.Q
end
/-! T5 -/
section
namespace Go.Proofs.YtnhchnlgleokoaaDoor.Q
open Go.RowKit Go.Lib Go.Shelf
set_option linter.unusedSimpArgs false
set_option linter.unusedVariables false
set_option maxRecDepth 100000
def renB : Go.Shelf.Ren := ⟨fun | 166 => 34 | 240 => 61 | 276 => 84 | n => n, fun | 70 => 68 | 72 => 71 | 37 => 69 | 75 => 73 | 80 => 77 | 164 => 108 | 20 => 20 | n => n, fun | n => n⟩
theorem layB : Go.Proofs.Lays.n166 Tryd.prog renB where
  mixed := by kernel_rfl
  f166 := Tryd.func34.trans (congrArg some (by kernel_rfl))
  f240 := Tryd.func61.trans (congrArg some (by kernel_rfl))
  f276 := Tryd.func84.trans (congrArg some (by kernel_rfl))
  t0 := Tryd.underlying0
  a0 := Tryd.isAgg0
  z0 := Tryd.sizeOf0
  v0 := Tryd.zeroValue0
  t3 := Tryd.underlying3
  a3 := Tryd.isAgg3
  z3 := Tryd.sizeOf3
  v3 := Tryd.zeroValue3
  t4 := Tryd.underlying4
  a4 := Tryd.isAgg4
  z4 := Tryd.sizeOf4
  v4 := Tryd.zeroValue4
  t9 := Tryd.underlying9
  a9 := Tryd.isAgg9
  z9 := Tryd.sizeOf9
  v9 := Tryd.zeroValue9
  t20 := Tryd.underlying20
  a20 := Tryd.isAgg20
  z20 := Tryd.sizeOf20
  v20 := Tryd.zeroValue20
  t37 := Tryd.underlying69
  a37 := Tryd.isAgg69
  z37 := Tryd.sizeOf69
  v37 := Tryd.zeroValue69
  t70 := Tryd.underlying68
  a70 := Tryd.isAgg68
  z70 := Tryd.sizeOf68
  v70 := Tryd.zeroValue68
  t72 := Tryd.underlying71
  a72 := Tryd.isAgg71
  z72 := Tryd.sizeOf71
  v72 := Tryd.zeroValue71
  t75 := Tryd.underlying73
  a75 := Tryd.isAgg73
  z75 := Tryd.sizeOf73
  v75 := Tryd.zeroValue73
  t164 := Tryd.underlying108
  a164 := Tryd.isAgg108
  z164 := Tryd.sizeOf108
  v164 := Tryd.zeroValue108
theorem extraB : Builder.Extra Tryd.prog renB where
  sizeBuilder := by kernel_rfl
  liesBuilder := by kernel_rfl
  t5 := Tryd.underlying5
  a5 := Tryd.isAgg5
  z5 := Tryd.sizeOf5
  v5 := Tryd.zeroValue5
  infoByte := by kernel_rfl
  cellsByte := by kernel_rfl
  sizeByte := by kernel_rfl
  neB5 := by decide
theorem extraS : Builder.Extra Tryd.prog Tryd.lays169_ren where
  sizeBuilder := by kernel_rfl
  liesBuilder := by kernel_rfl
  t5 := Tryd.underlying5
  a5 := Tryd.isAgg5
  z5 := Tryd.sizeOf5
  v5 := Tryd.zeroValue5
  infoByte := by kernel_rfl
  cellsByte := by kernel_rfl
  sizeByte := by kernel_rfl
  neB5 := by decide
/-- the block b is a Builder that holds the text s -/
def BldIs (B : Nat) (w : World) (b : Nat) (s : ByteArray) : Prop := IsBuilderF 71 5 B b (strCells s) w
theorem BldIs.at {B : Nat} {w : World} {b : Nat} {s : ByteArray} (h : BldIs B w b s) : ∃ p, (p = .pointer none ∨ p = .pointer (some ⟨b, 0, none⟩)) ∧ BuilderAtF 71 5 B b p (strCells s) w := by
  rcases h with h | h
  · exact ⟨_, .inl rfl, h⟩
  · exact ⟨_, .inr rfl, h⟩
theorem BldIs.of {B : Nat} {w : World} {b : Nat} {s : ByteArray} {p : Value} (hp : p = .pointer none ∨ p = .pointer (some ⟨b, 0, none⟩)) (h : BuilderAtF 71 5 B b p (strCells s) w) : BldIs B w b s := by
  rcases hp with rfl | rfl
  · exact .inl h
  · exact .inr h
theorem BldIs.lt {B : Nat} {w : World} {b : Nat} {s : ByteArray} (h : BldIs B w b s) : b < w.heap.size := by
  obtain ⟨p, _, h⟩ := h.at
  exact h.lt
theorem BldIs.low {B : Nat} {w w' : World} {b : Nat} {s : ByteArray} (h : BldIs B w b s) (k : Low w w') : BldIs B w' b s := by
  obtain ⟨p, hp, hB, v, hb, ho, hn⟩ := h.at
  refine BldIs.of hp ⟨hB, v, k.blk hb, ?_, hn⟩
  exact ho.kept (row := none) ⟨k.os, k.tape, k.output, k.size, fun i hi _ => k.block i hi⟩ (by cases v.ownBlock <;> simp)
theorem BldIs.upd {B g : Nat} {w w' : World} {b : Nat} {s : ByteArray} {cs : Array Value} {T : TypeId} (h : BldIs B w b s) (u : Upd g w w') (hg : w.heap[g]? = some (.cells cs T)) (hT : Nat.beq T 5 = false) (hne : b ≠ g) : BldIs B w' b s := by
  obtain ⟨p, hp, hB, v, hb, ho, hn⟩ := h.at
  refine BldIs.of hp ⟨hB, v, u.blk hb hne, ?_, hn⟩
  refine ho.kept (row := some g) ⟨u.os, u.tape, u.output, Nat.le_of_eq u.size.symm, fun i _ hne => u.block i (fun e => hne (by rw [e]))⟩ (.inr ?_)
  exact ownBlock_neF ho hg (fun e => by rw [e] at hT; simp at hT)
theorem BldIs.new {B : Nat} {w : World} {b : Nat} (hB : B ≤ b) (hb : w.heap[b]? = some (.cells #[.pointer none, .slice none 0 0] 71)) : BldIs B w b nilB :=
  .inl ⟨hB, _, hb, World.ownsRowF_nil w B 5 1, by simp [Value.ownBlock]⟩
theorem strCells_app (s t : ByteArray) : strCells (s ++ t) = strCells s ++ strCells t := by simp [strCells]
theorem Write.calls (B b : Nat) (s t : ByteArray) (hlen : s.size + t.size ≤ 140737488355328) (w : World) (h : BldIs B w b s) (hB : B ≤ w.heap.size) : Calls Tryd.prog 34 #[.pointer (some ⟨b, 0, none⟩), .string t] w fun e w' => ∃ x, e = .returned x ∧ BldIs B w' b (s ++ t) ∧ Below B w w' ∧ OthersKept 5 (some b) w w' := by
  refine (Any.Builder_WriteString_k layB extraB B b (strCells s) t w h (by rw [strCells_length]; exact hlen) hB).mono fun e w' ⟨he, hb, hl, ho⟩ => ⟨_, he, ?_, hl, ho⟩
  refine BldIs.of (.inr rfl) ?_
  rw [strCells_app]
  exact hb
theorem Str.calls (B b : Nat) (s : ByteArray) (hs : ¬ s = nilB) (w : World) (h : BldIs B w b s) : Calls Tryd.prog 37 #[.pointer (some ⟨b, 0, none⟩)] w fun e w' => ∃ x, e = .returned x ∧ x = .string s ∧ Below B w w' := by
  refine (Any.Builder_String_k Tryd.lays169 extraS B b s.data.toList w h (fun e => hs (ba_ext (by rw [e])))).mono fun e w' ⟨he, _, hl, _⟩ => ⟨_, he, ?_, hl⟩
  rfl
theorem zero71 : ∀ w, (zeroValue 71).run Tryd.prog w = .ok (.agg #[.pointer none, .slice none 0 0]) w := fun w => by kernel_rfl
def headB : ByteArray := ⟨#[72, 69, 65, 68, 32]⟩
def nlB : ByteArray := ⟨#[10]⟩
def blB : ByteArray := ⟨#[32]⟩
def lineS (x : Rf) : ByteArray := digB x.f1 ++ blB ++ x.f0 ++ nlB
def linesS : List Rf → ByteArray
  | [] => nilB
  | x :: l => lineS x ++ linesS l
def prS (hd : ByteArray) (l : List Rf) : ByteArray := headB ++ hd ++ nlB ++ linesS l
theorem ba_app_nil (s : ByteArray) : s ++ nilB = s := by apply ba_ext; simp
theorem ba_nil_app (s : ByteArray) : nilB ++ s = s := by apply ba_ext; simp
theorem ba_assoc (a b c : ByteArray) : a ++ b ++ c = a ++ (b ++ c) := by apply ba_ext; simp
theorem linesS_app (l m : List Rf) : linesS (l ++ m) = linesS l ++ linesS m := by
  induction l with
  | nil => rw [List.nil_append, linesS, ba_nil_app]
  | cons x l ih => rw [List.cons_append, linesS, linesS, ih, ba_assoc]
theorem prS_next (hd : ByteArray) (l : List Rf) (k : Nat) (h : k < l.length) : prS hd (l.take k) ++ (digB (l.getD k zP).f1 ++ blB ++ (l.getD k zP).f0 ++ nlB) = prS hd (l.take (k + 1)) := by
  rw [getD_next l k zP h]
  unfold prS
  rw [linesS_app, linesS, linesS, ba_app_nil, ba_assoc]
  rfl
theorem prS_0 (hd : ByteArray) (l : List Rf) : headB ++ hd ++ nlB = prS hd (l.take 0) := by rw [List.take_zero, prS, linesS, ba_app_nil]
theorem digB_size (s : ByteArray) : (digB s).size = 2 * s.size := by
  unfold digB
  rw [U.ba_len, U.digs_length]
  show 2 * s.data.toList.length = 2 * s.size
  rfl
theorem sz_lit (a : Array UInt8) : (⟨a⟩ : ByteArray).size = a.size := rfl
def smallP (l : List Rf) : Prop := ∀ i, i < l.length → (l.getD i zP).f0.size ≤ 64 ∧ (l.getD i zP).f1.size ≤ 32
theorem linesS_size {l : List Rf} (h : smallP l) : (linesS l).size ≤ 130 * l.length := by
  induction l with
  | nil => exact Nat.le_refl _
  | cons x l ih =>
    have h0 := h 0 (by simp)
    have := ih fun i hi => by simpa using h (i + 1) (by simpa using hi)
    simp only [linesS, lineS, ByteArray.size_append, digB_size, List.length_cons]
    have e1 : blB.size = 1 := rfl
    have e2 : nlB.size = 1 := rfl
    simp only [List.getD_cons_zero] at h0
    omega
theorem smallP_take {l : List Rf} (h : smallP l) (k : Nat) : smallP (l.take k) := by
  intro i hi
  have hi' : i < l.length ∧ i < k := by rw [List.length_take] at hi; omega
  have := h i hi'.1
  simpa [List.getD_eq_getElem?_getD, List.getElem?_take, hi'.2] using this
theorem prS_size {hd : ByteArray} {l : List Rf} (h0 : hd.size ≤ 64) (h : smallP l) (k : Nat) (hk : k ≤ l.length) : (prS hd (l.take k)).size ≤ 70 + 130 * l.length := by
  have := linesS_size (smallP_take h k)
  simp only [prS, ByteArray.size_append]
  have e1 : headB.size = 5 := rfl
  have e2 : nlB.size = 1 := rfl
  rw [List.length_take] at this
  omega
theorem nsize_le (s : Int) : nsize s ≤ 32 := by
  unfold nsize
  repeat' split
  all_goals decide
theorem right_small {hd : ByteArray} {l : List Rf} {sp : Int} (h : rightS hd l sp = true) : hd.size ≤ 64 ∧ smallP l ∧ l.length ≤ 1024 := by
  obtain ⟨h1, h2, h3, h4⟩ := rightS_iff.1 h
  refine ⟨?_, fun i hi => ?_, h3⟩
  · by_cases c : hd = nilB
    · rw [c]; decide
    · exact rightN_size (h2 c)
  · obtain ⟨r1, r2, _⟩ := h4 i hi
    have := nsize_le sp
    exact ⟨rightN_size r1, by omega⟩
def prT (hd : ByteArray) (l : List Rf) (sp : Int) : ByteArray := if rightS hd l sp = true then sealB (prS hd l) else nilB
def prE (hd : ByteArray) (l : List Rf) (sp : Int) : Int := if rightS hd l sp = true then 0 else 3
theorem prS_ne (hd : ByteArray) (l : List Rf) : ¬ prS hd l = nilB := fun e => by
  have := congrArg ByteArray.size e
  simp only [prS, ByteArray.size_append] at this
  have e1 : headB.size = 5 := rfl
  have e2 : nilB.size = 0 := rfl
  omega
end Go.Proofs.YtnhchnlgleokoaaDoor.Q
end
/-! E5 -/
section
namespace Go.Proofs.YtnhchnlgleokoaaDoor.Q
open Go.RowKit
open Go.Proofs.YtnhchnlgleokoaaDoorW.PrintWords (bytesOf bytesOf_length)
set_option linter.unusedVariables false
set_option linter.unusedSimpArgs false
set_option maxRecDepth 100000
set_option maxHeartbeats 4000000
attribute [local irreducible] wpList wpQuiet qch Code.wp Oper.quiet Act.put At Region.wanted yielded
theorem Print.calls (hd : ByteArray) (v : Value) (l : List Rf) (hl : l.length ≤ 1000000) (sp : Int) (w0 : World) (hv : RdF w0 2 v l.length (l.map encP).flatten) (hG : Gd w0) : Calls Tryd.prog 18 #[.agg #[.string hd, v], .int .i64 sp] w0 fun e w' => e = .returned (.tuple #[.string (prT hd l sp), .int .i64 (prE hd l sp)]) ∧ Low w0 w' := by
 refine c_fun (R := _) Tryd.func18 rfl 37 rfl (Nat.le_of_ble_eq_true rfl) ?_; intro a z hA; have s0 := hA 0 _ rfl; have s1 := hA 1 _ rfl; clear hA; refine c_seq (c_region (l_box rfl rfl s0.ev ?_)); intro g2 w1 hg1 k1 h1; have geg2 := Nat.le_trans (Low.refl _).ge hg1; have ov_1 := hv.low h1; refine l_q rfl (q_assign _ _ rfl rfl ?_); refine l_q rfl (q_assign _ _ rfl rfl ?_); refine l_end (e_fr z.p3 fun a2 z2 m2 => ?_); have s1_2 := m2 s1.n3; have s2_2 := m2 ((At.hit z rfl).n2); have low2 := h1; refine e_then (c_seq (c_seq ?_))
 by_cases hb3 : rightS hd l sp = true
 ·
  skip
  refine c_region ?_; refine l_q rfl (q_row rfl u_24 rfl (sz24.trans (congrArg some rfl.symm)) s2_2.ev (fun _ e => by rw [e]; exact k1) ?_); refine l_q rfl (qm rfl (s1_2.n1) (l_call (fun v w' => v = .bool true ∧ Low w1 w') rfl rfl rfl Tryd.func17 rfl (args2 rfl ((At.hit z2 rfl).n1).ev (At.hit z2.put rfl).ev) (((calls_bool (RightS.calls hd v l hl sp _ ov_1 (Gd.low hG low2)) hb3)).mono fun _ _ ⟨e, k⟩ => ⟨_, e, rfl, k⟩) ?_))
  rintro _ w4 ⟨rfl, h4⟩
  have kg2_4 := h4.blk k1; have ov_4 := ov_1.low h4; refine l_q rfl (q_not (b := true) rfl (At.hit z2.p2 rfl).ev ?_); refine l_end (e_fr z2.p4 fun a5 z5 m5 => ?_); have s2_5 := m5 s2_2.n4; have s12_5 := m5 (At.hit z2.p3 rfl); have low5 := (low2.trans h4); refine e_then (c_false s12_5 ?_); refine wp_skip (e_then (c_seq (c_region (l_alloc rfl rfl zero71 ?_)))); intro g6 w6 hg6 k6 h6; have lt_g2_g6 := Nat.lt_of_lt_of_le (heap_lt kg2_4) hg6; have geg6 := Nat.le_trans low5.ge hg6; have kg2_6 := h6.blk kg2_4; have ov_6 := ov_4.low h6; have kbg6 := BldIs.new geg6 k6; refine l_end (e_fr z5.put fun a7 z7 m7 => ?_); have s2_7 := m7 s2_5.n1; have s6_7 := m7 (At.hit z5 rfl); have low7 := (low5.trans h6); refine e_then (c_seq ?_); obtain ⟨hs0, hs1, hs2⟩ := right_small hb3; refine c_region ?_; refine l_q rfl (q_fld 0 rfl (by kernel_rfl) s2_7.ev ?_); refine l_q rfl (q_cellT (.string hd) rfl u_9 (At.hit z7 rfl).ev (fun _ e => by rw [e]; exact (cells_at kg2_6 0).trans rfl) ?_); refine l_q rfl (q_cat rfl rfl (At.hit z7.put rfl).ev (by simp only [ByteArray.size_append, digB_size, sz_lit, List.size_toArray, List.length_cons, List.length_nil]; omega) ?_); refine l_q rfl (q_cat rfl (At.hit z7.p2 rfl).ev rfl (by simp only [ByteArray.size_append, digB_size, sz_lit, List.size_toArray, List.length_cons, List.length_nil]; omega) ?_); refine l_call _ rfl rfl rfl Tryd.func34 rfl (args2 rfl (s6_7.n4).ev (At.hit z7.p3 rfl).ev) (Write.calls w0.heap.size g6 nilB (((⟨#[72, 69, 65, 68, 32]⟩ : ByteArray) ++ hd) ++ (⟨#[10]⟩ : ByteArray)) (by simp only [ByteArray.size_append, digB_size, sz_lit, List.size_toArray, List.length_cons, List.length_nil]; omega) _ kbg6 low7.ge) ?_
  rintro x8 w8 ⟨kb8, hb8, ok8⟩
  have kg2_8 := ok8 _ _ kg2_6 (fun e => by simp at e; omega) (fun c fz e => by simp at e); have lw8 : Low w0 w8 := Below.trans low7 hb8; refine l_end (e_fr z7.p5 fun a9 z9 m9 => ?_); have s2_9 := m9 s2_7.n5; have s6_9 := m9 s6_7.n5; have low9 := lw8; refine e_then (c_seq (c_seq (c_region ?_))); refine l_q rfl (q_fld 1 rfl (by kernel_rfl) s2_9.ev ?_); refine l_q rfl (q_cellS (v) rfl u_22 (At.hit z9 rfl).ev (fun _ e => by rw [e]; exact (cells_at kg2_8 1).trans rfl) ?_); refine l_q rfl (q_lenF rfl rfl u_22 (At.hit z9.put rfl).ev (hv.low lw8) ?_); refine l_q rfl (q_move _ _ rfl rfl ?_); refine l_end (e_fr z9.p4 fun a10 z10 m10 => ?_); have s6_10 := m10 s6_9.n4; have s19_10 := m10 ((At.hit z9.put rfl).n2); have s20_10 := m10 ((At.hit z9.p2 rfl).n1); have s21_10 := m10 (At.hit z9.p3 rfl); refine e_then (wp_block ?_); have kp : BldIs w0.heap.size w8 g6 (nilB ++ (headB ++ hd ++ nlB)) := kb8; rw [ba_nil_app, prS_0 hd l] at kp; refine c_loop l.length (fun k a w => Fr 37 a ∧ At a 6 (.pointer (some ⟨g6, 0, none⟩)) ∧ At a 19 (v) ∧ At a 20 (.int .i64 ((l.length : Nat) : Int)) ∧ At a 21 (.int .i64 ((k : Nat) : Int)) ∧ BldIs w0.heap.size w g6 (prS hd (l.take k)) ∧ Low w0 w) ?_ ?_ ?_
  ·
   exact ⟨z10, s6_10, s19_10, s20_10, s21_10, kp, low9⟩
  ·
   intro k a11 w11 hk11 h; obtain ⟨z11, s6_11, s19_11, s20_11, s21_11, kg6_11, low11⟩ := h; clear kp low9 s19_10 s20_10 s21_10 s6_10 z10; obtain ⟨hs0, hs1, hs2⟩ := right_small hb3; obtain ⟨hs3, hs4⟩ := hs1 k (by omega); have hps := prS_size hs0 hs1 k (by omega); refine c_seq (c_region ?_); refine l_q rfl (q_lss true rfl s21_11.ev s20_11.ev (decide_eq_true (by omega)) ?_); refine l_end (e_fr z11.put fun a12 z12 m12 => ?_); have s6_12 := m12 s6_11.n1; have s19_12 := m12 s19_11.n1; have s20_12 := m12 s20_11.n1; have s21_12 := m12 s21_11.n1; have s22_12 := m12 (At.hit z11 rfl); refine e_then (c_seq (c_true s22_12 ?_)); refine wp_skip (e_then (c_seq (wp_block (c_seq (c_region ?_))))); refine l_q rfl (q_idxF (j := k) rfl u_22 sz55 s19_12.ev (hv.low low11) s21_12.ev (by omega) ?_); refine l_q rfl (q_ldR (vs := [.string ((l.getD k zP).f0), .string ((l.getD k zP).f1)]) rfl u_55 rfl sz55 (At.hit z12 rfl).ev (fun _ e => by rw [e]; exact (hv.low low11)) (by omega) rfl (flat_part encP_len zP _ k (by omega)) ?_); refine l_alloc rfl rfl zero55 ?_; intro g8 w13 hg13 k13 h13; have lt_g6_g8 := Nat.lt_of_lt_of_le kg6_11.lt hg13; have geg8 := Nat.le_trans low11.ge hg13; have kg6_13 := kg6_11.low h13; have ov_13 := (hv.low low11).low h13; refine l_row rfl rfl rfl (sz55.trans (congrArg some rfl.symm)) (At.hit z12.p2 rfl).ev ((At.hit z12.put rfl).n1).ev (by simp [Value.oneCell']) k13 (rfl.trans rfl.symm) ?_; intro w14 k14 u14; have kg6_14 := kg6_13.upd u14 k13 rfl (by omega); refine l_end (e_fr z12.p3 fun a15 z15 m15 => ?_); have s6_15 := m15 s6_12.n3; have s8_15 := m15 (At.hit z12.p2 rfl); have s19_15 := m15 s19_12.n3; have s20_15 := m15 s20_12.n3; have s21_15 := m15 s21_12.n3; have low15 := ((low11.trans h13).upd u14 geg8); refine e_then (region_low_tail 8 hm (by kernel_rfl) ?_)
   simp only [List.take_succ_cons, List.take_zero, List.drop_succ_cons, List.drop_zero]
   refine qs (q_fld 1 rfl (by kernel_rfl) s8_15.ev ?_); refine qs (q_cellT (.string ((l.getD k zP).f1)) rfl u_9 (At.hit z15 rfl).ev (fun _ h => (cells_at (h.blk k14) 1).trans rfl) ?_); refine qs (q_call (.string (digB ((l.getD k zP).f1))) rfl rfl Tryd.func35 rfl (args1 rfl (At.hit z15.put rfl).ev) (fun _ h => (Digits.calls ((l.getD k zP).f1) (by omega) _).mono fun _ _ ⟨e, k⟩ => ⟨e, h.trans k⟩) ?_); refine qs (q_cat rfl (At.hit z15.p2 rfl).ev rfl (by simp only [ByteArray.size_append, digB_size, sz_lit, List.size_toArray, List.length_cons, List.length_nil]; omega) ?_); refine qs (q_fld 0 rfl (by kernel_rfl) (s8_15.n4).ev ?_); refine qs (q_cellT (.string ((l.getD k zP).f0)) rfl u_9 (At.hit z15.p4 rfl).ev (fun _ h => (cells_at (h.blk k14) 0).trans rfl) ?_); refine qs (q_cat rfl ((At.hit z15.p3 rfl).n2).ev (At.hit z15.p5 rfl).ev (by simp only [ByteArray.size_append, digB_size, sz_lit, List.size_toArray, List.length_cons, List.length_nil]; omega) ?_); refine qs (q_cat rfl (At.hit z15.p6 rfl).ev rfl (by simp only [ByteArray.size_append, digB_size, sz_lit, List.size_toArray, List.length_cons, List.length_nil]; omega) ?_); refine qz ?_; intro w16 h16; have kg6_16 := kg6_14.low h16; have kg8_16 := h16.blk k14; have ov_16 := (hv.low ((low11.trans h13).upd u14 geg8)).low h16; refine l_fr z15.p8 fun a17 z17 m17 => ?_
   have s6_17 := m17 s6_15.n8; have s19_17 := m17 s19_15.n8; have s20_17 := m17 s20_15.n8; have s21_17 := m17 s21_15.n8; have s32_17 := m17 (At.hit z15.p7 rfl); refine l_call _ rfl rfl rfl Tryd.func34 rfl (args2 rfl s6_17.ev s32_17.ev) (Write.calls w0.heap.size g6 (prS hd (l.take k)) ((((digB ((l.getD k zP).f1)) ++ (⟨#[32]⟩ : ByteArray)) ++ ((l.getD k zP).f0)) ++ (⟨#[10]⟩ : ByteArray)) (by simp only [ByteArray.size_append, digB_size, sz_lit, List.size_toArray, List.length_cons, List.length_nil]; omega) _ kg6_16 (low15.trans h16).ge) ?_
   rintro x18 w18 ⟨kb18, hb18, ok18⟩
   have kg8_18 := ok18 _ _ kg8_16 (fun e => by simp at e; omega) (fun c fz e => by simp at e); have lw18 : Low w0 w18 := Below.trans (low15.trans h16) hb18; refine l_end (e_fr z17.put fun a19 z19 m19 => ?_); have s6_19 := m19 s6_17.n1; have s19_19 := m19 s19_17.n1; have s20_19 := m19 s20_17.n1; have s21_19 := m19 s21_17.n1; have low19 := lw18; refine e_in (e_then (c_region ?_)); refine l_q rfl (q_add (((k + 1 : Nat) : Int)) rfl s21_19.ev rfl (i64_is (by omega) (by omega) (by omega)) ?_); refine l_q rfl (qm rfl (At.hit z19 rfl) (l_end (e_fr z19.p2 fun a20 z20 m20 => ?_))); have s6_20 := m20 s6_19.n2; have s19_20 := m20 s19_19.n2; have s20_20 := m20 s20_19.n2; have s21_20 := m20 (At.hit z19.put rfl); have kq : BldIs w0.heap.size w18 g6 (prS hd (l.take k) ++ (digB (l.getD k zP).f1 ++ blB ++ (l.getD k zP).f0 ++ nlB)) := kb18; rw [prS_next hd l k (by assumption)] at kq; exact ⟨z20, s6_20, s19_20, s20_20, s21_20, kq, low19⟩
  ·
   intro a21 w21 h; obtain ⟨z21, s6_21, s19_21, s20_21, s21_21, kg6_21, low21⟩ := h; clear kp low9 s19_10 s20_10 s21_10 s6_10 z10; obtain ⟨hs0, hs1, hs2⟩ := right_small hb3; have hps := prS_size hs0 hs1 l.length (by omega); rw [List.take_length] at hps; refine c_seq (c_region ?_); refine l_q rfl (q_lss false rfl s21_21.ev s20_21.ev (decide_eq_false (by omega)) ?_); refine l_end (e_fr z21.put fun a22 z22 m22 => ?_); have s6_22 := m22 s6_21.n1; have s19_22 := m22 s19_21.n1; have s21_22 := m22 s21_21.n1; have s22_22 := m22 (At.hit z21 rfl); refine e_then (c_seq (c_false s22_22 ?_)); refine wp_exit (x_then (x_then (in_exit (e_then (c_seq ?_))))); rw [List.take_length] at kg6_21; refine c_region (l_call _ rfl rfl rfl Tryd.func37 rfl (args1 rfl s6_22.ev) (Str.calls w0.heap.size g6 (prS hd l) (prS_ne _ _) _ kg6_21) ?_)
   rintro x23 w23 ⟨ex23, hb23⟩
   subst ex23; have lw23 : Low w0 w23 := Below.trans low21 hb23; refine l_call (fun v w' => v = .string (sealB (prS hd l)) ∧ Low w23 w') rfl rfl rfl Tryd.func36 rfl (args1 rfl (At.hit z22 rfl).ev) ((Seal.calls (prS hd l) (by omega) _).mono fun _ _ ⟨e, k⟩ => ⟨_, e, rfl, k⟩) ?_
   rintro _ w24 ⟨rfl, h24⟩
   have ov_24 := (hv.low lw23).low h24; refine l_q rfl (qa rfl (At.hit z22.put rfl) (l_q rfl (q_assign _ _ rfl rfl (l_end (e_fr z22.p4 fun a25 z25 m25 => ?_))))); have s4_25 := m25 ((At.hit z22.p2 rfl).n1); have s5_25 := m25 (At.hit z22.p3 rfl); have low25 := (lw23.trans h24); refine e_then (wp_ret (r_two rfl z25.defers s4_25 s5_25 ?_)); exact ⟨by unfold prT prE; rw [if_pos hb3, if_pos hb3]; rfl, low25⟩
 ·
  skip
  refine c_region ?_; refine l_q rfl (q_row rfl u_24 rfl (sz24.trans (congrArg some rfl.symm)) s2_2.ev (fun _ e => by rw [e]; exact k1) ?_); refine l_q rfl (qm rfl (s1_2.n1) (l_call (fun v w' => v = .bool false ∧ Low w1 w') rfl rfl rfl Tryd.func17 rfl (args2 rfl ((At.hit z2 rfl).n1).ev (At.hit z2.put rfl).ev) (((calls_bool (RightS.calls hd v l hl sp _ ov_1 (Gd.low hG low2)) (eq_false_of_ne_true hb3))).mono fun _ _ ⟨e, k⟩ => ⟨_, e, rfl, k⟩) ?_))
  rintro _ w26 ⟨rfl, h26⟩
  have kg2_26 := h26.blk k1; have ov_26 := ov_1.low h26; refine l_q rfl (q_not (b := false) rfl (At.hit z2.p2 rfl).ev ?_); refine l_end (e_fr z2.p4 fun a27 z27 m27 => ?_); have s2_27 := m27 s2_2.n4; have s12_27 := m27 (At.hit z2.p3 rfl); have low27 := (low2.trans h26); refine e_then (c_true s12_27 ?_); refine c_seq (c_region ?_); refine l_q rfl (q_assign _ _ rfl rfl ?_); refine l_q rfl (q_assign _ _ rfl rfl ?_); refine l_end (e_fr z27.p2 fun a28 z28 m28 => ?_); have s4_28 := m28 ((At.hit z27 rfl).n1); have s5_28 := m28 (At.hit z27.put rfl); refine e_then (wp_ret (ret_then (r_two rfl z28.defers s4_28 s5_28 ?_))); exact ⟨by unfold prT prE; rw [if_neg hb3, if_neg hb3]; rfl, low27⟩
end Go.Proofs.YtnhchnlgleokoaaDoor.Q
end
/-! T6 -/
section
namespace Go.Proofs.YtnhchnlgleokoaaDoor.Q
open Go.RowKit Go.Lib Go.Shelf
set_option linter.unusedSimpArgs false
set_option linter.unusedVariables false
set_option maxRecDepth 100000
def trimNL (s : ByteArray) : ByteArray := ⟨(trimSuffix s.data.toList nlB.data.toList).toArray⟩
def trimH (s : ByteArray) : ByteArray := ⟨(trimPrefix s.data.toList headB.data.toList).toArray⟩
def cut1 (s : ByteArray) : ByteArray := ⟨(cut s.data.toList blB.data.toList).1.toArray⟩
def cut2 (s : ByteArray) : ByteArray := ⟨(cut s.data.toList blB.data.toList).2.1.toArray⟩
def cut3 (s : ByteArray) : Bool := (cut s.data.toList blB.data.toList).2.2
def partsB (s : ByteArray) : List ByteArray := splitB nlB 0 (countB s nlB) s
theorem ba_size_list (s : ByteArray) : s.size = s.data.toList.length := size_eq s
theorem trimNL_size (s : ByteArray) : (trimNL s).size ≤ s.size := by
  rw [ba_size_list, ba_size_list s]
  unfold trimNL trimSuffix
  split
  · simp only [List.length_take]; omega
  · simp
theorem cut1_size (s : ByteArray) : (cut1 s).size ≤ s.size := by
  rw [ba_size_list, ba_size_list s]
  unfold cut1 cut
  split
  · simp only [List.length_take]; omega
  · simp
theorem open_size (s : ByteArray) : (openB s).1.size ≤ s.size := by
  unfold openB U.openR
  split
  · exact Nat.zero_le _
  · split
    · show (⟨((U.L s).take (s.size - 4)).toArray⟩ : ByteArray).size ≤ s.size
      rw [U.ba_len, List.length_take]
      have : (U.L s).length = s.size := (U.size_L s).symm
      omega
    · exact Nat.zero_le _
theorem splitB_size (sep : ByteArray) : ∀ (k : Nat) (s p : ByteArray), p ∈ splitB sep 0 k s → p.size ≤ s.size
  | 0, s, p, h => by
    rw [splitB_zero, List.mem_singleton] at h
    rw [h]; exact Nat.le_refl _
  | k + 1, s, p, h => by
    unfold splitB at h
    split at h
    · rw [List.mem_singleton] at h
      rw [h]; exact Nat.le_refl _
    · rcases List.mem_cons.1 h with h | h
      · rw [h]; simp; omega
      · have := splitB_size sep k _ p h
        refine Nat.le_trans this ?_
        simp
        try omega
theorem parts_size {s : ByteArray} {k : Nat} (h : k < (partsB s).length) : ((partsB s).getD k ByteArray.empty).size ≤ s.size := splitB_size _ _ _ _ (getD_mem h)
theorem flat_encS (l : List ByteArray) : (l.map encS).flatten = l.map Value.string := by
  induction l with
  | nil => rfl
  | cons x l ih => rw [List.map_cons, List.flatten_cons, ih]; rfl
theorem parts_len (s : ByteArray) : (partsB s).length ≤ s.size + 1 := by
  unfold partsB
  rw [splitB_all nlB (by decide) 0 _ s rfl]
  have := countB_le nlB (by decide) s.size s (Nat.le_refl _)
  omega
theorem split_calls (s : ByteArray) (w : World) (hs : s.size < 4294967281) (hG : Gd w) : Calls Tryd.prog 41 #[.string s, .string nlB] w fun e w' => ∃ x, e = .returned x ∧ OwnF w' w.heap.size 9 1 x (partsB s).length ((partsB s).map encS).flatten ∧ Low w w' := by
  obtain ⟨m, hm⟩ := hG
  refine (Any.strings_Split Tryd.lays146 (by kernel_rfl) s nlB m w hs hm (by decide)).mono fun e w' ⟨he, hw⟩ => ⟨_, he, ?_, ?_⟩
  · subst hw
    have hl : (partsB s).length = countB s nlB + 1 := splitB_all nlB (by decide) 0 _ s rfl
    have hle := parts_len s
    rw [hl, flat_encS]
    refine ⟨by rw [List.length_map, hl, Nat.mul_one], .inr ⟨w.heap.size, _, _, rfl, Nat.le_refl _, new_block w _, Nat.le_refl _, by simp only [maxLen]; omega, ?_, ?_⟩⟩
    · rw [List.size_toArray, List.length_map, Nat.mul_one]; exact hl
    · show ((partsB s).map Value.string).take _ = _
      rw [List.take_of_length_le (by rw [List.length_map, Nat.mul_one, hl]; exact Nat.le_refl _)]
  · subst hw
    exact low_new w _
theorem trimNL_calls (s : ByteArray) (hs : s.size ≤ 9223372036854775807) (w : World) : Calls Tryd.prog 42 #[.string s, .string nlB] w fun e w' => e = .returned (.string (trimNL s)) ∧ Low w w' := (Any.strings_TrimSuffix Tryd.lays102 s nlB w hs).mono fun e w' ⟨h1, h2⟩ => ⟨h1, h2 ▸ Low.refl _⟩
theorem trimH_calls (s : ByteArray) (w : World) : Calls Tryd.prog 43 #[.string s, .string headB] w fun e w' => e = .returned (.string (trimH s)) ∧ Low w w' := (Any.strings_TrimPrefix Tryd.lays101 s headB w).mono fun e w' ⟨h1, h2⟩ => ⟨h1, h2 ▸ Low.refl _⟩
theorem low_drawnN (w : World) (n : Nat) : Low w (w.drewN n) := ⟨rfl, rfl, rfl, Nat.le_refl _, fun _ _ => rfl⟩
theorem cut_calls (s : ByteArray) (hs : s.size < 4294967281) (w : World) (hG : Gd w) : Calls Tryd.prog 44 #[.string s, .string blB] w fun e w' => e = .returned (.tuple #[.string (cut1 s), .string (cut2 s), .bool (cut3 s)]) ∧ Low w w' := by
  obtain ⟨m, hm⟩ := hG
  refine (Any.strings_Cut Tryd.lays145 s blB m w hs hm).mono fun e w' ⟨h1, n, h2⟩ => ⟨h1, ?_⟩
  rw [h2]
  exact low_drawnN w n
def lineR (p : ByteArray) : Rf := ⟨cut2 p, (unB (cut1 p)).1⟩
def paH (ps : List ByteArray) (k : Nat) : ByteArray := if k = 0 then nilB else trimH (ps.getD 0 ByteArray.empty)
def paL (ps : List ByteArray) (k : Nat) : List Rf := ((ps.take k).drop 1).map lineR
theorem paH_first (ps : List ByteArray) {k : Nat} (h : k = 0) : trimH (ps.getD k ByteArray.empty) = paH ps (k + 1) := by subst h; rfl
theorem paH_next (ps : List ByteArray) {k : Nat} (h : ¬ k = 0) : paH ps k = paH ps (k + 1) := by unfold paH; rw [if_neg h, if_neg (by omega)]
theorem paL_first (ps : List ByteArray) {k : Nat} (h : k = 0) : paL ps k = paL ps (k + 1) := by
  subst h
  unfold paL
  rw [List.take_zero, List.drop_nil]
  cases ps <;> simp
theorem paL_next (ps : List ByteArray) {k : Nat} (h : ¬ k = 0) (hk : k < ps.length) : paL ps k ++ [lineR (ps.getD k ByteArray.empty)] = paL ps (k + 1) := by
  unfold paL
  rw [getD_next ps k ByteArray.empty hk, List.drop_append_of_le_length (by rw [List.length_take]; omega), List.map_append]
  rfl
theorem paL_len (ps : List ByteArray) (k : Nat) : (paL ps k).length ≤ ps.length := by
  unfold paL
  rw [List.length_map, List.length_drop, List.length_take]
  omega
def psP (t : ByteArray) : List ByteArray := partsB (trimNL (openB t).1)
def psH (t : ByteArray) : ByteArray := paH (psP t) (psP t).length
def psL (t : ByteArray) : List Rf := paL (psP t) (psP t).length
def psOk (t : ByteArray) (sp : Int) : Prop := prE (psH t) (psL t) sp = 0 ∧ prT (psH t) (psL t) sp = t
instance psDec (t : ByteArray) (sp : Int) : Decidable (psOk t sp) := by unfold psOk; infer_instance
def paE (t : ByteArray) (sp : Int) : Int := if ¬ (openB t).2 = 0 then (openB t).2 else if psOk t sp then 0 else 3
def paB (t : ByteArray) (sp : Int) : Bool := decide ((openB t).2 = 0) && decide (psOk t sp)
def pzH (t : ByteArray) (sp : Int) : ByteArray := if paB t sp = true then psH t else nilB
def pzL (t : ByteArray) (sp : Int) : List Rf := if paB t sp = true then psL t else []
theorem pz_open {t : ByteArray} {sp : Int} (h : ¬ (openB t).2 = 0) : pzH t sp = nilB ∧ pzL t sp = [] ∧ paE t sp = (openB t).2 := by
  have hb : ¬ paB t sp = true := by unfold paB; rw [decide_eq_false h]; simp
  exact ⟨if_neg hb, if_neg hb, if_pos h⟩
theorem pz_form {t : ByteArray} {sp : Int} (h : ¬ ¬ (openB t).2 = 0) (h2 : ¬ psOk t sp) : pzH t sp = nilB ∧ pzL t sp = [] ∧ paE t sp = 3 := by
  have hb : ¬ paB t sp = true := by unfold paB; rw [decide_eq_false h2]; simp
  exact ⟨if_neg hb, if_neg hb, (if_neg h).trans (if_neg h2)⟩
theorem pz_good {t : ByteArray} {sp : Int} (h : ¬ ¬ (openB t).2 = 0) (h2 : psOk t sp) : pzH t sp = psH t ∧ pzL t sp = psL t ∧ paE t sp = 0 := by
  have hb : paB t sp = true := by unfold paB; rw [decide_eq_true h2, decide_eq_true (Decidable.not_not.1 h)]; rfl
  exact ⟨if_pos hb, if_pos hb, (if_neg h).trans (if_pos h2)⟩
theorem psP_len (t : ByteArray) : (psP t).length ≤ t.size + 1 := by
  have h1 := parts_len (trimNL (openB t).1)
  have h2 := trimNL_size (openB t).1
  have h3 := open_size t
  unfold psP
  omega
theorem psP_size {t : ByteArray} {k : Nat} (h : k < (psP t).length) : ((psP t).getD k ByteArray.empty).size ≤ t.size := by
  have h1 := parts_size h
  have h2 := trimNL_size (openB t).1
  have h3 := open_size t
  unfold psP
  omega
end Go.Proofs.YtnhchnlgleokoaaDoor.Q
end
/-! E6 -/
section
namespace Go.Proofs.YtnhchnlgleokoaaDoor.Q
open Go.RowKit
open Go.Proofs.YtnhchnlgleokoaaDoorW.PrintWords (bytesOf bytesOf_length)
set_option linter.unusedVariables false
set_option linter.unusedSimpArgs false
set_option maxRecDepth 100000
set_option maxHeartbeats 4000000
attribute [local irreducible] wpList wpQuiet qch Code.wp Oper.quiet Act.put At Region.wanted yielded
theorem Parse.calls (t : ByteArray) (ht : t.size ≤ 100000) (sp : Int) (w0 : World) (hG : Gd w0) : Calls Tryd.prog 20 #[.string t, .int .i64 sp] w0 fun e w' => ∃ x, e = .returned (.tuple #[.agg #[.string (pzH t sp), x], .int .i64 (paE t sp)]) ∧ OwnF w' w0.heap.size 55 2 x (pzL t sp).length ((pzL t sp).map encP).flatten ∧ Low w0 w' := by
 refine c_fun (R := _) Tryd.func20 rfl 76 rfl (Nat.le_of_ble_eq_true rfl) ?_; intro a z hA; have s0 := hA 0 _ rfl; have s1 := hA 1 _ rfl; clear hA; refine c_seq (c_region (l_alloc rfl rfl zero24 ?_)); intro g4 w1 hg1 k1 h1; have geg4 := Nat.le_trans (Low.refl _).ge hg1; refine l_q rfl (q_assign _ _ rfl rfl ?_); refine l_end (e_fr z.p2 fun a2 z2 m2 => ?_); have s0_2 := m2 s0.n2; have s1_2 := m2 s1.n2; have s4_2 := m2 ((At.hit z rfl).n1); have low2 := h1; refine e_then (c_seq (c_region ?_)); refine l_q rfl (qm rfl s0_2 (l_call (fun v w' => v = .tuple #[.string ((openB t).1), .int .i64 ((openB t).2)] ∧ Low w1 w') rfl rfl rfl Tryd.func40 rfl (args1 rfl (At.hit z2 rfl).ev) ((Open.calls t (by omega) _).mono fun _ _ ⟨e, k⟩ => ⟨_, e, rfl, k⟩) ?_))
 rintro _ w3 ⟨rfl, h3⟩
 have kg4_3 := h3.blk k1; refine l_q rfl (qm rfl (At.hit z2.put rfl) (l_q rfl (q_extract rfl (At.hit z2.p2 rfl).ev rfl (l_q rfl (q_extract rfl ((At.hit z2.p2 rfl).n1).ev rfl (l_q rfl (qa rfl ((At.hit z2.p3 rfl).n1) (l_q rfl (qa rfl ((At.hit z2.p4 rfl).n1) (l_end (e_fr z2.p7 fun a4 z4 m4 => ?_))))))))))); have s0_4 := m4 s0_2.n7; have s1_4 := m4 s1_2.n7; have s4_4 := m4 s4_2.n7; have s6_4 := m4 ((At.hit z2.p5 rfl).n1); have s7_4 := m4 (At.hit z2.p6 rfl); have low4 := (low2.trans h3); refine e_then (c_seq (c_seq ?_))
 by_cases hb5 : ¬ (openB t).2 = 0
 ·
  skip
  refine c_region ?_; refine l_q rfl (qm rfl s7_4 (l_q rfl (q_neq true rfl (At.hit z4 rfl).ev rfl (decide_eq_true (by omega)) (l_end (e_fr z4.p2 fun a6 z6 m6 => ?_))))); have s0_6 := m6 s0_4.n2; have s1_6 := m6 s1_4.n2; have s4_6 := m6 s4_4.n2; have s6_6 := m6 s6_4.n2; have s7_6 := m6 s7_4.n2; have s24_6 := m6 (At.hit z4.put rfl); refine e_then (c_true s24_6 ?_); refine c_seq (c_region ?_); refine l_q rfl (q_build (ps := #[]) (cs := #[.string nilB, .slice none 0 0]) rfl (by simp) built24_0 ?_); refine l_q rfl (qm rfl (s7_6.n1) (l_row rfl rfl rfl (sz24.trans (congrArg some rfl)) (s4_6.n2).ev ((At.hit z6 rfl).n1).ev (one2 _ rfl) kg4_3 rfl ?_)); intro w7 k7 u7; refine l_q rfl (qa rfl (At.hit z6.put rfl) (l_end (e_fr z6.p3 fun a8 z8 m8 => ?_))); have s4_8 := m8 s4_6.n3; have s5_8 := m8 (At.hit z6.p2 rfl); have low8 := (low4.upd u7 geg4); refine e_then (wp_ret (ret_then (r_cell_tmp rfl z8.defers s4_8 s5_8 k7 u_24 rfl (sz24.trans (congrArg some rfl.symm)) ?_))); obtain ⟨e1, e2, e3⟩ := pz_open (sp := sp) hb5; rw [e1, e2, e3]; exact ⟨_, rfl, OwnF.nil _ _ _ _, low8⟩
 ·
  skip
  refine c_region ?_; refine l_q rfl (qm rfl s7_4 (l_q rfl (q_neq false rfl (At.hit z4 rfl).ev rfl (decide_eq_false (by omega)) (l_end (e_fr z4.p2 fun a9 z9 m9 => ?_))))); have s0_9 := m9 s0_4.n2; have s1_9 := m9 s1_4.n2; have s4_9 := m9 s4_4.n2; have s6_9 := m9 s6_4.n2; have s7_9 := m9 s7_4.n2; have s24_9 := m9 (At.hit z4.put rfl); refine e_then (c_false s24_9 ?_); refine wp_skip (e_then (c_seq (c_region (l_alloc rfl rfl zero24 ?_)))); intro g8 w10 hg10 k10 h10; have lt_g4_g8 := Nat.lt_of_lt_of_le (heap_lt kg4_3) hg10; have geg8 := Nat.le_trans low4.ge hg10; have kg4_10 := h10.blk kg4_3; refine l_end (e_fr z9.put fun a11 z11 m11 => ?_); have s0_11 := m11 s0_9.n1; have s1_11 := m11 s1_9.n1; have s4_11 := m11 s4_9.n1; have s6_11 := m11 s6_9.n1; have s8_11 := m11 (At.hit z9 rfl); have low11 := (low4.trans h10); refine e_then (c_seq (c_seq (c_region ?_))); refine l_q rfl (qm rfl s6_11 (l_call (fun v w' => v = .string (trimNL ((openB t).1)) ∧ Low w10 w') rfl rfl rfl Tryd.func42 rfl (args2 rfl (At.hit z11 rfl).ev rfl) ((trimNL_calls ((openB t).1) (by have := open_size t; omega) _).mono fun _ _ ⟨e, k⟩ => ⟨_, e, rfl, k⟩) ?_))
  rintro _ w12 ⟨rfl, h12⟩
  have kg4_12 := h12.blk kg4_10; have kg8_12 := h12.blk k10; refine l_call _ rfl rfl rfl Tryd.func41 rfl (args2 rfl (At.hit z11.put rfl).ev rfl) (split_calls (trimNL ((openB t).1)) _ (by have := trimNL_size (openB t).1; have := open_size t; omega) (Gd.low hG (low11.trans h12))) ?_
  rintro v13 w13 ⟨o13, h13⟩
  have kg4_13 := h13.blk kg4_12; have kg8_13 := h13.blk kg8_12; obtain ⟨ps, hps⟩ : ∃ ps, ps = psP t := ⟨_, rfl⟩; have hpl : ps.length ≤ t.size + 1 := hps ▸ psP_len t; have hpz : ∀ k, k < ps.length → (ps.getD k ByteArray.empty).size ≤ t.size := fun k hk => by subst hps; exact psP_size hk
  replace o13 : OwnF w13 w0.heap.size 9 1 v13 ps.length (ps.map encS).flatten := hps ▸ o13.base (low11.trans h12).ge; refine l_q rfl (q_lenF rfl rfl u_79 (At.hit z11.p2 rfl).ev o13.rd ?_); refine l_q rfl (q_move _ _ rfl rfl ?_); refine l_end (e_fr z11.p5 fun a14 z14 m14 => ?_); have s0_14 := m14 s0_11.n5; have s1_14 := m14 s1_11.n5; have s4_14 := m14 s4_11.n5; have s8_14 := m14 s8_11.n5; have s29_14 := m14 ((At.hit z11.p2 rfl).n2); have s30_14 := m14 ((At.hit z11.p3 rfl).n1); have s31_14 := m14 (At.hit z11.p4 rfl); have low14 := ((low11.trans h12).trans h13); refine e_then (wp_block ?_); have op15 : OwnF w13 w0.heap.size 55 2 (.slice none 0 0) (paL ps 0).length ((paL ps 0).map encP).flatten := OwnF.nil _ _ _ _; have kp15 : w13.heap[g8]? = some (.cells (#[.string (paH ps 0), .slice none 0 0]) 24) := kg8_13; refine c_loop ps.length (fun k a w => ∃ vg8 : Value, Fr 76 a ∧ At a 0 (.string t) ∧ At a 1 (.int .i64 sp) ∧ At a 4 (.pointer (some ⟨g4, 0, none⟩)) ∧ At a 8 (.pointer (some ⟨g8, 0, none⟩)) ∧ At a 29 (v13) ∧ At a 30 (.int .i64 ((ps.length : Nat) : Int)) ∧ At a 31 (.int .i64 ((k : Nat) : Int)) ∧ w.heap[g4]? = some (.cells (#[.string nilB, .slice none 0 0]) 24) ∧ w.heap[g8]? = some (.cells (#[.string (paH ps k), vg8]) 24) ∧ OwnF w w0.heap.size 55 2 vg8 (paL ps k).length (((paL ps k).map encP).flatten) ∧ OwnF w w0.heap.size 9 1 v13 (ps).length ((ps.map encS).flatten) ∧ Low w0 w) ?_ ?_ ?_
  ·
   exact ⟨.slice none 0 0, z14, s0_14, s1_14, s4_14, s8_14, s29_14, s30_14, s31_14, kg4_13, kp15, op15, o13, low14⟩
  ·
   intro k a16 w16 hk16 h; obtain ⟨vg8_16, z16, s0_16, s1_16, s4_16, s8_16, s29_16, s30_16, s31_16, kg4_16, kg8_16, oxg8_16, ob13_16, low16⟩ := h; clear kg4_13 kp15 low14 s0_14 s1_14 s29_14 s30_14 s31_14 s4_14 s8_14 z14; have hpn := paL_len ps k; have hpk := hpz k (by assumption); have hc1 := cut1_size (ps.getD k ByteArray.empty); refine c_seq (c_region ?_); refine l_q rfl (q_lss true rfl s31_16.ev s30_16.ev (decide_eq_true (by omega)) ?_); refine l_end (e_fr z16.put fun a17 z17 m17 => ?_); have s0_17 := m17 s0_16.n1; have s1_17 := m17 s1_16.n1; have s4_17 := m17 s4_16.n1; have s8_17 := m17 s8_16.n1; have s29_17 := m17 s29_16.n1; have s30_17 := m17 s30_16.n1; have s31_17 := m17 s31_16.n1; have s32_17 := m17 (At.hit z16 rfl); refine e_then (c_seq (c_true s32_17 ?_)); refine wp_skip (e_then (c_seq (wp_block (c_seq (c_region ?_))))); refine l_q rfl (qm rfl s31_17 (l_q rfl (q_idxF (j := k) rfl u_79 sz9 (s29_17.n1).ev ob13_16.rd (s31_17.n1).ev (by omega) (l_q rfl (q_ld1 (u := .string (ps.getD k ByteArray.empty)) rfl u_9 rfl (At.hit z17.put rfl).ev (fun _ e => by rw [e]; exact ob13_16.rd) (by omega) ((flat_at encS_len ByteArray.empty _ k 0 (by omega) (by decide)).trans rfl) (l_q rfl (qa rfl ((At.hit z17 rfl).n2) (l_q rfl (qa rfl ((At.hit z17.p2 rfl).n1) (l_end (e_fr z17.p5 fun a18 z18 m18 => ?_))))))))))); have s0_18 := m18 s0_17.n5; have s1_18 := m18 s1_17.n5; have s4_18 := m18 s4_17.n5; have s8_18 := m18 s8_17.n5; have s9_18 := m18 ((At.hit z17.p3 rfl).n1); have s10_18 := m18 (At.hit z17.p4 rfl); have s29_18 := m18 s29_17.n5; have s30_18 := m18 s30_17.n5; have s31_18 := m18 s31_17.n5; refine e_then (c_seq (c_seq ?_))
   by_cases hb19 : k = 0
   ·
    skip
    refine c_region ?_; refine l_q rfl (qm rfl s9_18 (l_q rfl (q_eql true rfl (At.hit z18 rfl).ev rfl (decide_eq_true (by omega)) (l_end (e_fr z18.p2 fun a20 z20 m20 => ?_))))); have s0_20 := m20 s0_18.n2; have s1_20 := m20 s1_18.n2; have s4_20 := m20 s4_18.n2; have s8_20 := m20 s8_18.n2; have s10_20 := m20 s10_18.n2; have s29_20 := m20 s29_18.n2; have s30_20 := m20 s30_18.n2; have s31_20 := m20 s31_18.n2; have s37_20 := m20 (At.hit z18.put rfl); refine e_then (c_true s37_20 ?_); refine c_seq (c_region ?_); refine l_q rfl (qm rfl s10_20 (l_call (fun v w' => v = .string (trimH (ps.getD k ByteArray.empty)) ∧ Low w16 w') rfl rfl rfl Tryd.func43 rfl (args2 rfl (At.hit z20 rfl).ev rfl) ((trimH_calls (ps.getD k ByteArray.empty) _).mono fun _ _ ⟨e, k⟩ => ⟨_, e, rfl, k⟩) ?_))
    rintro _ w21 ⟨rfl, h21⟩
    have kg4_21 := h21.blk kg4_16; have kg8_21 := h21.blk kg8_16; have oxg8_21 := oxg8_16.low h21; have ob13_21 := ob13_16.low h21; refine l_q rfl (q_fld 0 rfl (by kernel_rfl) (s8_20.n2).ev ?_); refine l_cell (j := 0) (v := (.string (trimH (ps.getD k ByteArray.empty)))) rfl rfl rfl sz9 (At.hit z20.p2 rfl).ev ((At.hit z20.put rfl).n1).ev rfl kg8_21 (by simp) ?_; intro w22 k22 u22; replace k22 : w22.heap[g8]? = some (.cells (#[.string (trimH (ps.getD k ByteArray.empty)), vg8_16]) 24) := k22; have oxg8_22 := oxg8_21.upd u22 kg8_21 rfl; have ob13_22 := ob13_21.upd u22 kg8_21 rfl; have kg4_22 := u22.blk kg4_21 (by omega); refine l_end (e_fr z20.p3 fun a23 z23 m23 => ?_); have s0_23 := m23 s0_20.n3; have s1_23 := m23 s1_20.n3; have s4_23 := m23 s4_20.n3; have s8_23 := m23 s8_20.n3; have s29_23 := m23 s29_20.n3; have s30_23 := m23 s30_20.n3; have s31_23 := m23 s31_20.n3; have low23 := ((low16.trans h21).upd u22 geg8); refine e_then (wp_exit (x_then (in_exit (e_then (c_region ?_))))); refine l_q rfl (q_add (((k + 1 : Nat) : Int)) rfl s31_23.ev rfl (i64_is (by omega) (by omega) (by omega)) ?_); refine l_q rfl (qm rfl (At.hit z23 rfl) (l_end (e_fr z23.p2 fun a24 z24 m24 => ?_))); have s0_24 := m24 s0_23.n2; have s1_24 := m24 s1_23.n2; have s4_24 := m24 s4_23.n2; have s8_24 := m24 s8_23.n2; have s29_24 := m24 s29_23.n2; have s30_24 := m24 s30_23.n2; have s31_24 := m24 (At.hit z23.put rfl); have kh25 : w22.heap[g8]? = some (.cells (#[.string (paH ps (k + 1)), vg8_16]) 24) := by rw [← show (trimH (ps.getD k ByteArray.empty) : ByteArray) = paH ps (k + 1) from paH_first ps hb19]; exact k22
    have c26 := OwnF.castL oxg8_22 (show paL ps k = paL ps (k + 1) from paL_first ps hb19); exact ⟨vg8_16, z24, s0_24, s1_24, s4_24, s8_24, s29_24, s30_24, s31_24, kg4_22, kh25, c26, ob13_22, low23⟩
   ·
    skip
    refine c_region ?_; refine l_q rfl (qm rfl s9_18 (l_q rfl (q_eql false rfl (At.hit z18 rfl).ev rfl (decide_eq_false (by omega)) (l_end (e_fr z18.p2 fun a27 z27 m27 => ?_))))); have s0_27 := m27 s0_18.n2; have s1_27 := m27 s1_18.n2; have s4_27 := m27 s4_18.n2; have s8_27 := m27 s8_18.n2; have s10_27 := m27 s10_18.n2; have s29_27 := m27 s29_18.n2; have s30_27 := m27 s30_18.n2; have s31_27 := m27 s31_18.n2; have s37_27 := m27 (At.hit z18.put rfl); refine e_then (c_false s37_27 ?_); refine wp_skip (e_then (c_seq (c_region ?_))); refine l_q rfl (qm rfl s10_27 (l_call (fun v w' => v = .tuple #[.string (cut1 (ps.getD k ByteArray.empty)), .string (cut2 (ps.getD k ByteArray.empty)), .bool (cut3 (ps.getD k ByteArray.empty))] ∧ Low w16 w') rfl rfl rfl Tryd.func44 rfl (args2 rfl (At.hit z27 rfl).ev rfl) ((cut_calls (ps.getD k ByteArray.empty) (by omega) _ (Gd.low hG low16)).mono fun _ _ ⟨e, k⟩ => ⟨_, e, rfl, k⟩) ?_))
    rintro _ w28 ⟨rfl, h28⟩
    have kg4_28 := h28.blk kg4_16; have kg8_28 := h28.blk kg8_16; have oxg8_28 := oxg8_16.low h28; have ob13_28 := ob13_16.low h28; refine l_q rfl (qm rfl (At.hit z27.put rfl) (l_q rfl (q_extract rfl (At.hit z27.p2 rfl).ev rfl (l_q rfl (q_extract rfl ((At.hit z27.p2 rfl).n1).ev rfl (l_q rfl (q_extract rfl ((At.hit z27.p2 rfl).n2).ev rfl (l_q rfl (qa rfl ((At.hit z27.p3 rfl).n2) (l_q rfl (qa rfl ((At.hit z27.p4 rfl).n2) (l_fr z27.p8 fun a29 z29 m29 => ?_)))))))))))); have s0_29 := m29 s0_27.n8; have s1_29 := m29 s1_27.n8; have s4_29 := m29 s4_27.n8; have s8_29 := m29 s8_27.n8; have s11_29 := m29 ((At.hit z27.p6 rfl).n1); have s12_29 := m29 (At.hit z27.p7 rfl); have s29_29 := m29 s29_27.n8; have s30_29 := m29 s30_27.n8; have s31_29 := m29 s31_27.n8; have s46_29 := m29 ((At.hit z27.p5 rfl).n2); refine l_q rfl (qa rfl s46_29 (l_end (e_fr z29.put fun a30 z30 m30 => ?_))); have s0_30 := m30 s0_29.n1; have s1_30 := m30 s1_29.n1; have s4_30 := m30 s4_29.n1; have s8_30 := m30 s8_29.n1; have s11_30 := m30 s11_29.n1; have s12_30 := m30 s12_29.n1; have s29_30 := m30 s29_29.n1; have s30_30 := m30 s30_29.n1; have s31_30 := m30 s31_29.n1; have low30 := (low16.trans h28); refine e_then (c_seq (c_region ?_)); refine l_q rfl (qm rfl s11_30 (l_call (fun v w' => v = .tuple #[.string ((unB (cut1 (ps.getD k ByteArray.empty))).1), .int .i64 ((unB (cut1 (ps.getD k ByteArray.empty))).2)] ∧ Low w28 w') rfl rfl rfl Tryd.func45 rfl (args1 rfl (At.hit z30 rfl).ev) ((Bytes.calls (cut1 (ps.getD k ByteArray.empty)) (by omega) _).mono fun _ _ ⟨e, k⟩ => ⟨_, e, rfl, k⟩) ?_))
    rintro _ w31 ⟨rfl, h31⟩
    have kg4_31 := h31.blk kg4_28; have kg8_31 := h31.blk kg8_28; have oxg8_31 := oxg8_28.low h31; have ob13_31 := ob13_28.low h31; refine l_q rfl (qm rfl (At.hit z30.put rfl) (l_q rfl (q_extract rfl (At.hit z30.p2 rfl).ev rfl (l_q rfl (q_extract rfl ((At.hit z30.p2 rfl).n1).ev rfl (l_q rfl (qa rfl ((At.hit z30.p3 rfl).n1) (l_q rfl (qa rfl ((At.hit z30.p4 rfl).n1) (l_end (e_fr z30.p7 fun a32 z32 m32 => ?_))))))))))); have s0_32 := m32 s0_30.n7; have s1_32 := m32 s1_30.n7; have s4_32 := m32 s4_30.n7; have s8_32 := m32 s8_30.n7; have s12_32 := m32 s12_30.n7; have s14_32 := m32 ((At.hit z30.p5 rfl).n1); have s29_32 := m32 s29_30.n7; have s30_32 := m32 s30_30.n7; have s31_32 := m32 s31_30.n7; have low32 := (low30.trans h31); refine e_then (c_region ?_); refine l_q rfl (q_fld 1 rfl (by kernel_rfl) s8_32.ev ?_); refine l_q rfl (q_cellS (vg8_16) rfl u_22 (At.hit z32 rfl).ev (fun _ e => by rw [e]; exact (cells_at kg8_31 1).trans rfl) ?_); refine l_q rfl (qm rfl (s12_32.n2) (l_q rfl (qm rfl (s14_32.n3) (l_q rfl (q_build rfl (parts2 ((At.hit z32.p2 rfl).n1).ev (At.hit z32.p3 rfl).ev) (built55 (cut2 (ps.getD k ByteArray.empty)) ((unB (cut1 (ps.getD k ByteArray.empty))).1)) (l_buildF (vs := [.string (cut2 (ps.getD k ByteArray.empty)), .string ((unB (cut1 (ps.getD k ByteArray.empty))).1)]) rfl rfl u_22 rec55 (At.hit z32.p4 rfl).ev rfl rfl (by decide) (by decide) ?_)))))); intro g57_33 w33 hg33 k33 h33; have onxg8_g57_33 : ∀ k, Value.ownBlock vg8_16 = some k → k < g57_33 := fun k hk => Nat.lt_of_lt_of_le (OwnF.own_lt oxg8_31 hk) hg33
    have lt_g4_g57_33 := Nat.lt_of_lt_of_le (heap_lt kg4_31) hg33; have lt_g8_g57_33 := Nat.lt_of_lt_of_le (heap_lt kg8_31) hg33; have geg57_33 := Nat.le_trans low32.ge hg33; have kg4_33 := h33.blk kg4_31; have kg8_33 := h33.blk kg8_31; have oxg8_33 := oxg8_31.low h33; have ob13_33 := ob13_31.low h33; refine l_appF (B := w0.heap.size) rfl rfl u_22 rec55 ((At.hit z32.put rfl).n4).ev (At.hit z32.p5 rfl).ev k33 rfl (by decide) rfl oxg8_33 (low32.trans h33).ge (by omega) ?_; intro v34 w34 o34 gr34; have kg4_34 := gr34.blk kg4_33 rfl; have kg8_34 := gr34.blk kg8_33 rfl; have lw34 := (low32.trans h33).grw gr34; have ob13_34 := ob13_33.grw gr34 rfl; replace o34 := o34.cast (show _ = ((paL ps k) ++ [(⟨cut2 (ps.getD k ByteArray.empty), (unB (cut1 (ps.getD k ByteArray.empty))).1⟩ : Rf)]).length by rw [List.length_append]; rfl) (flat_snoc (enc := encP) (paL ps k) (⟨cut2 (ps.getD k ByteArray.empty), (unB (cut1 (ps.getD k ByteArray.empty))).1⟩ : Rf)); refine l_q rfl (q_fld 1 rfl (by kernel_rfl) (s8_32.n7).ev ?_); refine l_fr z32.p8 fun a35 z35 m35 => ?_
    have s0_35 := m35 s0_32.n8; have s1_35 := m35 s1_32.n8; have s4_35 := m35 s4_32.n8; have s8_35 := m35 s8_32.n8; have s29_35 := m35 s29_32.n8; have s30_35 := m35 s30_32.n8; have s31_35 := m35 s31_32.n8; have s58_35 := m35 ((At.hit z32.p6 rfl).n1); have s59_35 := m35 (At.hit z32.p7 rfl); refine l_cell (j := 1) (v := v34) rfl rfl rfl sz22 s59_35.ev s58_35.ev (RdF.one o34.rd) kg8_34 (by simp) ?_; intro w36 k36 u36; replace k36 : w36.heap[g8]? = some (.cells (#[.string (paH ps k), v34]) 24) := k36; have ob34_36 := o34.upd u36 kg8_34 rfl; have ob13_36 := ob13_34.upd u36 kg8_34 rfl; have kg4_36 := u36.blk kg4_34 (by omega); refine l_end (e_fr z35 fun a37 z37 m37 => ?_); have s0_37 := m37 s0_35; have s1_37 := m37 s1_35; have s4_37 := m37 s4_35; have s8_37 := m37 s8_35; have s29_37 := m37 s29_35; have s30_37 := m37 s30_35; have s31_37 := m37 s31_35; have low37 := (lw34.upd u36 geg8); refine e_in (e_then (c_region ?_)); refine l_q rfl (q_add (((k + 1 : Nat) : Int)) rfl s31_37.ev rfl (i64_is (by omega) (by omega) (by omega)) ?_); refine l_q rfl (qm rfl (At.hit z37 rfl) (l_end (e_fr z37.p2 fun a38 z38 m38 => ?_))); have s0_38 := m38 s0_37.n2; have s1_38 := m38 s1_37.n2; have s4_38 := m38 s4_37.n2; have s8_38 := m38 s8_37.n2; have s29_38 := m38 s29_37.n2; have s30_38 := m38 s30_37.n2; have s31_38 := m38 (At.hit z37.put rfl); have kh39 : w36.heap[g8]? = some (.cells (#[.string (paH ps (k + 1)), v34]) 24) := by rw [← show (paH ps k : ByteArray) = paH ps (k + 1) from paH_next ps hb19]; exact k36
    have c40 := OwnF.castL ob34_36 (show (paL ps k) ++ [(⟨cut2 (ps.getD k ByteArray.empty), (unB (cut1 (ps.getD k ByteArray.empty))).1⟩ : Rf)] = paL ps (k + 1) from paL_next ps hb19 (by assumption)); exact ⟨v34, z38, s0_38, s1_38, s4_38, s8_38, s29_38, s30_38, s31_38, kg4_36, kh39, c40, ob13_36, low37⟩
  ·
   intro a41 w41 h; obtain ⟨vg8_41, z41, s0_41, s1_41, s4_41, s8_41, s29_41, s30_41, s31_41, kg4_41, kg8_41, oxg8_41, ob13_41, low41⟩ := h; clear kg4_13 kp15 low14 s0_14 s1_14 s29_14 s30_14 s31_14 s4_14 s8_14 z14; have hpn := paL_len ps ps.length; refine c_seq (c_region ?_); refine l_q rfl (q_lss false rfl s31_41.ev s30_41.ev (decide_eq_false (by omega)) ?_); refine l_end (e_fr z41.put fun a42 z42 m42 => ?_); have s0_42 := m42 s0_41.n1; have s1_42 := m42 s1_41.n1; have s4_42 := m42 s4_41.n1; have s8_42 := m42 s8_41.n1; have s29_42 := m42 s29_41.n1; have s31_42 := m42 s31_41.n1; have s32_42 := m42 (At.hit z41 rfl); refine e_then (c_seq (c_false s32_42 ?_)); refine wp_exit (x_then (x_then (in_exit (e_then (c_seq (c_seq (c_region ?_))))))); refine l_q rfl (q_row rfl u_24 rfl (sz24.trans (congrArg some rfl.symm)) s8_42.ev (fun _ e => by rw [e]; exact kg8_41) ?_); refine l_q rfl (qm rfl (s1_42.n1) (l_call (fun v w' => v = .tuple #[.string (prT (paH ps ps.length) (paL ps ps.length) sp), .int .i64 (prE (paH ps ps.length) (paL ps ps.length) sp)] ∧ Low w41 w') rfl rfl rfl Tryd.func18 rfl (args2 rfl ((At.hit z42 rfl).n1).ev (At.hit z42.put rfl).ev) ((Print.calls (paH ps ps.length) vg8_41 (paL ps ps.length) (by omega) sp _ oxg8_41.rd (Gd.low hG low41)).mono fun _ _ ⟨e, k⟩ => ⟨_, e, rfl, k⟩) ?_))
   rintro _ w43 ⟨rfl, h43⟩
   have kg4_43 := h43.blk kg4_41; have kg8_43 := h43.blk kg8_41; have oxg8_43 := oxg8_41.low h43; have ob13_43 := ob13_41.low h43; refine l_q rfl (qm rfl (At.hit z42.p2 rfl) (l_q rfl (q_extract rfl (At.hit z42.p3 rfl).ev rfl (l_q rfl (q_extract rfl ((At.hit z42.p3 rfl).n1).ev rfl (l_q rfl (qa rfl ((At.hit z42.p4 rfl).n1) (l_q rfl (qa rfl ((At.hit z42.p5 rfl).n1) (l_end (e_fr z42.p8 fun a44 z44 m44 => ?_))))))))))); have s0_44 := m44 s0_42.n8; have s4_44 := m44 s4_42.n8; have s8_44 := m44 s8_42.n8; have s16_44 := m44 ((At.hit z42.p6 rfl).n1); have s17_44 := m44 (At.hit z42.p7 rfl); have low44 := (low41.trans h43); refine e_then (c_seq ?_)
   by_cases hb45 : ¬ prE (paH ps ps.length) (paL ps ps.length) sp = 0
   ·
    skip
    refine c_region ?_; refine l_q rfl (qm rfl s17_44 (l_q rfl (q_neq true rfl (At.hit z44 rfl).ev rfl (decide_eq_true (by omega)) (l_q rfl (qm rfl (At.hit z44.put rfl) (l_skip (wis rfl rfl (At.hit z44.p2 rfl) rfl) (l_skip (wis rfl rfl ((At.hit z44.p2 rfl).n1) rfl) (l_skip (wis rfl rfl ((At.hit z44.p2 rfl).n2) rfl) (l_q rfl (q_pick (b := true) (.bool true) rfl ((At.hit z44.p2 rfl).n3).ev rfl (l_end (e_fr z44.p7 fun a46 z46 m46 => ?_)))))))))))); have s4_46 := m46 s4_44.n7; have s8_46 := m46 s8_44.n7; have s73_46 := m46 (At.hit z44.p6 rfl); refine e_then (c_true s73_46 ?_); refine c_seq (c_region ?_); refine l_q rfl (q_build (ps := #[]) (cs := #[.string nilB, .slice none 0 0]) rfl (by simp) built24_0 ?_); refine l_row rfl rfl rfl (sz24.trans (congrArg some rfl)) (s4_46.n1).ev (At.hit z46 rfl).ev (one2 _ rfl) kg4_43 rfl ?_; intro w47 k47 u47; have oxg8_47 := oxg8_43.upd u47 kg4_43 rfl; have kg8_47 := u47.blk kg8_43 (by omega); refine l_q rfl (q_assign _ _ rfl rfl ?_); refine l_end (e_fr z46.p2 fun a48 z48 m48 => ?_); have s4_48 := m48 s4_46.n2; have s5_48 := m48 (At.hit z46.put rfl); have low48 := (low44.upd u47 geg4); refine e_then (wp_ret (ret_then (r_cell_tmp rfl z48.defers s4_48 s5_48 k47 u_24 rfl (sz24.trans (congrArg some rfl.symm)) ?_))); subst hps; obtain ⟨e1, e2, e3⟩ := pz_form (sp := sp) hb5 (fun h => hb45 h.1); rw [e1, e2, e3]; exact ⟨_, rfl, OwnF.nil _ _ _ _, low48⟩
   ·
    skip
    by_cases hb49 : ¬ prT (paH ps ps.length) (paL ps ps.length) sp = t
    ·
     skip
     refine c_region ?_; refine l_q rfl (qm rfl s17_44 (l_q rfl (q_neq false rfl (At.hit z44 rfl).ev rfl (decide_eq_false (by omega)) (l_q rfl (qm rfl (At.hit z44.put rfl) (l_qg (wis rfl rfl (At.hit z44.p2 rfl) rfl) (qm rfl (s16_44.n3) (l_qg (wis rfl rfl ((At.hit z44.p2 rfl).n1) rfl) (qm rfl (s0_44.n4) (l_qg (wis rfl rfl ((At.hit z44.p2 rfl).n2) rfl) (q_strne true rfl ((At.hit z44.p3 rfl).n1).ev (At.hit z44.p4 rfl).ev (neT hb49) (l_q rfl (q_pick (b := false) (.bool true) rfl ((At.hit z44.p2 rfl).n3).ev (At.hit z44.p5 rfl).ev (l_end (e_fr z44.p7 fun a50 z50 m50 => ?_))))))))))))))); have s4_50 := m50 s4_44.n7; have s8_50 := m50 s8_44.n7; have s73_50 := m50 (At.hit z44.p6 rfl); refine e_then (c_true s73_50 ?_); refine c_seq (c_region ?_); refine l_q rfl (q_build (ps := #[]) (cs := #[.string nilB, .slice none 0 0]) rfl (by simp) built24_0 ?_); refine l_row rfl rfl rfl (sz24.trans (congrArg some rfl)) (s4_50.n1).ev (At.hit z50 rfl).ev (one2 _ rfl) kg4_43 rfl ?_; intro w51 k51 u51; have oxg8_51 := oxg8_43.upd u51 kg4_43 rfl; have kg8_51 := u51.blk kg8_43 (by omega); refine l_q rfl (q_assign _ _ rfl rfl ?_); refine l_end (e_fr z50.p2 fun a52 z52 m52 => ?_); have s4_52 := m52 s4_50.n2; have s5_52 := m52 (At.hit z50.put rfl); have low52 := (low44.upd u51 geg4); refine e_then (wp_ret (ret_then (r_cell_tmp rfl z52.defers s4_52 s5_52 k51 u_24 rfl (sz24.trans (congrArg some rfl.symm)) ?_))); subst hps; obtain ⟨e1, e2, e3⟩ := pz_form (sp := sp) hb5 (fun h => hb49 h.2); rw [e1, e2, e3]; exact ⟨_, rfl, OwnF.nil _ _ _ _, low52⟩
    ·
     skip
     refine c_region ?_; refine l_q rfl (qm rfl s17_44 (l_q rfl (q_neq false rfl (At.hit z44 rfl).ev rfl (decide_eq_false (by omega)) (l_q rfl (qm rfl (At.hit z44.put rfl) (l_qg (wis rfl rfl (At.hit z44.p2 rfl) rfl) (qm rfl (s16_44.n3) (l_qg (wis rfl rfl ((At.hit z44.p2 rfl).n1) rfl) (qm rfl (s0_44.n4) (l_qg (wis rfl rfl ((At.hit z44.p2 rfl).n2) rfl) (q_strne false rfl ((At.hit z44.p3 rfl).n1).ev (At.hit z44.p4 rfl).ev (neF (Decidable.not_not.1 hb49)) (l_q rfl (q_pick (b := false) (.bool false) rfl ((At.hit z44.p2 rfl).n3).ev (At.hit z44.p5 rfl).ev (l_end (e_fr z44.p7 fun a53 z53 m53 => ?_))))))))))))))); have s4_53 := m53 s4_44.n7; have s8_53 := m53 s8_44.n7; have s73_53 := m53 (At.hit z44.p6 rfl); refine e_then (c_false s73_53 ?_); refine wp_skip (e_then (c_seq (c_region ?_))); refine l_q rfl (q_row rfl u_24 rfl (sz24.trans (congrArg some rfl.symm)) s8_53.ev (fun _ e => by rw [e]; exact kg8_43) ?_); refine l_row rfl rfl rfl (sz24.trans (congrArg some rfl)) (s4_53.n1).ev (At.hit z53 rfl).ev (one2 _ (RdF.one oxg8_43.rd)) kg4_43 rfl ?_; intro w54 k54 u54; have oxg8_54 := oxg8_43.upd u54 kg4_43 rfl; have kg8_54 := u54.blk kg8_43 (by omega); refine l_q rfl (q_assign _ _ rfl rfl ?_); refine l_end (e_fr z53.p2 fun a55 z55 m55 => ?_); have s4_55 := m55 s4_53.n2; have s5_55 := m55 (At.hit z53.put rfl); have low55 := (low44.upd u54 geg4); refine e_then (wp_ret (r_cell_tmp rfl z55.defers s4_55 s5_55 k54 u_24 rfl (sz24.trans (congrArg some rfl.symm)) ?_)); subst hps; obtain ⟨e1, e2, e3⟩ := pz_good (sp := sp) hb5 ⟨Decidable.not_not.1 hb45, Decidable.not_not.1 hb49⟩; rw [e1, e2, e3]; exact ⟨_, rfl, oxg8_54, low55⟩
end Go.Proofs.YtnhchnlgleokoaaDoor.Q
end
/-! T7 -/
section
namespace Go.Proofs.YtnhchnlgleokoaaDoor.Q
open Go.RowKit
set_option linter.unusedSimpArgs false
set_option linter.unusedVariables false
def belowN (n : ByteArray) (y : Rf) : Bool := lessB y.f0 n
def aboveN (n : ByteArray) (y : Rf) : Bool := lessB n y.f0
def midN (n x : ByteArray) : List Rf := if x = nilB then [] else [⟨n, x⟩]
def setF (l : List Rf) (n x : ByteArray) : List Rf := l.filter (belowN n) ++ midN n x ++ l.filter (aboveN n)
theorem mem_take_getD {l : List Rf} {p : Nat} {y : Rf} (h : y ∈ l.take p) : ∃ i, i < p ∧ i < l.length ∧ l.getD i zP = y := by
  obtain ⟨i, hi, e⟩ := List.mem_iff_getElem.1 h
  rw [List.length_take] at hi
  refine ⟨i, by omega, by omega, ?_⟩
  rw [List.getElem_take] at e
  rw [List.getD_eq_getElem?_getD, List.getElem?_eq_getElem (by omega)]
  exact e
theorem mem_drop_getD {l : List Rf} {p : Nat} {y : Rf} (h : y ∈ l.drop p) : ∃ i, p ≤ i ∧ i < l.length ∧ l.getD i zP = y := by
  obtain ⟨i, hi, e⟩ := List.mem_iff_getElem.1 h
  rw [List.length_drop] at hi
  refine ⟨p + i, by omega, by omega, ?_⟩
  rw [List.getElem_drop] at e
  rw [List.getD_eq_getElem?_getD, List.getElem?_eq_getElem (by omega)]
  exact e
theorem filter_below {l : List Rf} (hr : RiseP l) (n : ByteArray) : l.filter (belowN n) = l.take (bsP l n) := by
  have h : l.filter (belowN n) = (l.take (bsP l n) ++ l.drop (bsP l n)).filter (belowN n) := by rw [List.take_append_drop]
  rw [h, List.filter_append, List.filter_eq_self.2, List.filter_eq_nil_iff.2, List.append_nil]
  · intro y hy
    obtain ⟨i, h1, h2, rfl⟩ := mem_drop_getD hy
    rw [belowN, bsP_high hr n i h1 h2]
    simp
  · intro y hy
    obtain ⟨i, h1, h2, rfl⟩ := mem_take_getD hy
    exact bsP_low hr n i h1
theorem above_at {l : List Rf} (hr : RiseP l) (n : ByteArray) {i : Nat} (h1 : bsP l n ≤ i) (h2 : i < l.length) (h3 : ¬ (l.getD i zP).f0 = n) : aboveN n (l.getD i zP) = true := by
  have h := bsP_high hr n i h1 h2
  unfold aboveN
  cases h' : lessB n (l.getD i zP).f0 with
  | true => rfl
  | false => exact absurd (lessB_tri h h') h3
theorem filter_above {l : List Rf} (hr : RiseP l) (n : ByteArray) : l.filter (aboveN n) = l.drop (if bsB l n = true then bsP l n + 1 else bsP l n) := by
  have hlow : (l.take (bsP l n)).filter (aboveN n) = [] := by
    rw [List.filter_eq_nil_iff]
    intro y hy
    obtain ⟨i, h1, h2, rfl⟩ := mem_take_getD hy
    unfold aboveN
    rw [lessB_asymm (bsP_low hr n i h1)]
    simp
  have h : l.filter (aboveN n) = (l.take (bsP l n) ++ l.drop (bsP l n)).filter (aboveN n) := by rw [List.take_append_drop]
  rw [h, List.filter_append, hlow, List.nil_append]
  by_cases c : bsB l n = true
  · obtain ⟨hp, he⟩ := (bsB_iff l n).1 c
    rw [if_pos c, List.drop_eq_getElem_cons hp, List.filter_cons]
    have e : l[bsP l n] = l.getD (bsP l n) zP := by rw [List.getD_eq_getElem?_getD, List.getElem?_eq_getElem hp]; rfl
    rw [e, if_neg (by unfold aboveN; rw [he, lessB_irrefl]; simp), List.filter_eq_self.2]
    intro y hy
    obtain ⟨i, h1, h2, rfl⟩ := mem_drop_getD hy
    refine above_at hr n (by omega) h2 fun e2 => ?_
    have := riseG hr (i := bsP l n) (j := i) (by omega) h2
    rw [he, e2, lessB_irrefl] at this
    cases this
  · rw [if_neg c, List.filter_eq_self.2]
    intro y hy
    obtain ⟨i, h1, h2, rfl⟩ := mem_drop_getD hy
    refine above_at hr n h1 h2 fun e2 => c ((bsB_iff l n).2 ?_)
    rcases Nat.eq_or_lt_of_le h1 with h3 | h3
    · rw [← h3] at e2 h2; exact ⟨h2, e2⟩
    · have h4 := riseG hr h3 h2
      rw [e2, bsP_high hr n _ (Nat.le_refl _) (by omega)] at h4
      cases h4
theorem setP_eq {l : List Rf} (hr : RiseP l) (n x : ByteArray) : setP l n x = setF l n x := by
  unfold setP setF midN
  rw [filter_below hr, filter_above hr]
  by_cases c : bsB l n = true
  · rw [if_pos c, if_pos c]
    obtain ⟨hp, he⟩ := (bsB_iff l n).1 c
    by_cases d : x = nilB
    · rw [if_pos d, if_pos d, List.append_nil]
    · rw [if_neg d, if_neg d, he, List.set_eq_take_append_cons_drop, if_pos hp]
      simp
  · rw [if_neg c, if_neg c]
    by_cases d : x = nilB
    · rw [if_pos d, if_pos d, List.append_nil, List.take_append_drop]
    · rw [if_neg d, if_neg d]
theorem mem_setF {l : List Rf} {n x : ByteArray} {y : Rf} : y ∈ setF l n x ↔ (y ∈ l ∧ ¬ y.f0 = n) ∨ (¬ x = nilB ∧ y = ⟨n, x⟩) := by
  unfold setF midN
  rw [List.mem_append, List.mem_append, List.mem_filter, List.mem_filter]
  constructor
  · rintro ((⟨h1, h2⟩ | h) | ⟨h1, h2⟩)
    · exact .inl ⟨h1, lessB_ne h2⟩
    · split at h
      · cases h
      · exact .inr ⟨by assumption, List.mem_singleton.1 h⟩
    · exact .inl ⟨h1, fun e => lessB_ne h2 e.symm⟩
  · rintro (⟨h1, h2⟩ | ⟨h1, rfl⟩)
    · cases h3 : lessB y.f0 n with
      | true => exact .inl (.inl ⟨h1, h3⟩)
      | false =>
        cases h4 : lessB n y.f0 with
        | true => exact .inr ⟨h1, h4⟩
        | false => exact absurd (lessB_tri h3 h4) h2
    · rw [if_neg h1]
      exact .inl (.inr (by simp))
theorem rise_setF {l : List Rf} (hr : RiseP l) (n x : ByteArray) : RiseP (setF l n x) := by
  unfold RiseP setF midN
  rw [List.pairwise_append, List.pairwise_append]
  refine ⟨⟨hr.filter _, ?_, ?_⟩, hr.filter _, ?_⟩
  · split <;> simp
  · intro y hy z hz
    split at hz
    · cases hz
    · rw [List.mem_singleton.1 hz]; exact (List.mem_filter.1 hy).2
  · intro y hy z hz
    have hz' := (List.mem_filter.1 hz).2
    rcases List.mem_append.1 hy with h | h
    · exact lessB_trans (List.mem_filter.1 h).2 hz'
    · split at h
      · cases h
      · rw [List.mem_singleton.1 h]; exact hz'
theorem rise_setP {l : List Rf} (hr : RiseP l) (n x : ByteArray) : RiseP (setP l n x) := by rw [setP_eq hr]; exact rise_setF hr n x
def OkP (l : List Rf) (sz : Int) : Prop := ∀ i, i < l.length → rgOk l sz i
theorem ok_rise {l : List Rf} {sz : Int} (h : OkP l sz) : RiseP l := right_rise h
theorem ok_mem {l : List Rf} {sz : Int} (h : OkP l sz) {y : Rf} (hy : y ∈ l) : rightN y.f0 = true ∧ (y.f1.size : Int) = sz := by
  obtain ⟨i, hi, rfl⟩ := mem_getD zP hy
  exact ⟨(h i hi).1, (h i hi).2.1⟩
theorem ok_of {l : List Rf} {sz : Int} (hr : RiseP l) (h : ∀ y ∈ l, rightN y.f0 = true ∧ (y.f1.size : Int) = sz) : OkP l sz := fun i hi =>
  ⟨(h _ (getD_mem hi)).1, (h _ (getD_mem hi)).2, fun h0 => riseG hr (by omega) hi⟩
theorem ok_set {l : List Rf} {sz : Int} (h : OkP l sz) {n x : ByteArray} (hn : rightN n = true) (hx : ¬ x = nilB → (x.size : Int) = sz) : OkP (setP l n x) sz := by
  refine ok_of (rise_setP (ok_rise h) n x) fun y hy => ?_
  rw [setP_eq (ok_rise h)] at hy
  rcases mem_setF.1 hy with ⟨h1, _⟩ | ⟨h1, rfl⟩
  · exact ok_mem h h1
  · exact ⟨hn, hx h1⟩
theorem ok_stP {l : List Rf} {ws : List Sw} {sz : Int} (h : OkP l sz) : ∀ k, k ≤ apN sz l ws → OkP (stP l ws k) sz
  | 0, _ => h
  | k + 1, hk => by
    obtain ⟨h1, h2, _⟩ := apN_round (show k < apN sz l ws by omega)
    exact ok_set (ok_stP h k (by omega)) h1 h2
theorem ap1_ok {sz : Int} {l : List Rf} {w : Sw} (hd : ByteArray) (h : errP sz l w = 0) : apH hd sz l [w] = hd ∧ apL sz l [w] = setP l w.f0 w.f2 ∧ apE sz l [w] = 0 := by
  have hn : apN sz l [w] = 1 := firstN_all (p := okP sz l [w]) (n := 1) fun i hi => by
    obtain rfl : i = 0 := by omega
    exact h
  obtain ⟨e1, e2, e3⟩ := ap_good (sz := sz) (l := l) (ws := [w]) hd (by rw [hn]; simp)
  rw [e1, e2, e3, hn]
  exact ⟨rfl, rfl, rfl⟩
theorem ap1_bad {sz : Int} {l : List Rf} {w : Sw} (hd : ByteArray) (h : ¬ errP sz l w = 0) : apH hd sz l [w] = nilB ∧ apL sz l [w] = [] ∧ apE sz l [w] = errP sz l w := by
  have hn : apN sz l [w] = 0 := by
    rcases Nat.eq_zero_or_pos (apN sz l [w]) with c | c
    · exact c
    · exact absurd (firstN_round (p := okP sz l [w]) c) h
  have := ap_bad (sz := sz) (l := l) (ws := [w]) hd (by rw [hn]; simp) rfl
  rw [hn] at this
  exact this
end Go.Proofs.YtnhchnlgleokoaaDoor.Q
end
/-! T8 -/
section
namespace Go.Proofs.YtnhchnlgleokoaaDoor.Q
open Go.RowKit
set_option linter.unusedSimpArgs false
set_option linter.unusedVariables false
set_option maxRecDepth 1000000
def fewAt (l : List Rf) (i : Nat) : Prop := i < 60 ∧ (l.getD i zP).f0.size ≤ 200 ∧ (l.getD i zP).f1.size ≤ 200
instance fewDec (l : List Rf) (i : Nat) : Decidable (fewAt l i) := by unfold fewAt; infer_instance
def fewN (l : List Rf) : Nat := firstN l.length (fewAt l)
theorem fewN_le (l : List Rf) : fewN l ≤ l.length := firstN_le _ _
theorem fewN_round {l : List Rf} {i : Nat} (h : i < fewN l) : fewAt l i := firstN_round h
theorem fewN_stop {l : List Rf} (h : fewN l < l.length) : ¬ fewAt l (fewN l) := firstN_stop h
theorem fewN_60 (l : List Rf) : fewN l ≤ 60 := by
  rcases Nat.lt_or_ge 60 (fewN l) with h | h
  · exact absurd (fewN_round h).1 (by omega)
  · exact h
def fewB (hd : ByteArray) (l : List Rf) : Bool := decide (fewN l = l.length) && decide (hd.size ≤ 200)
theorem few_no {hd : ByteArray} {l : List Rf} (h : fewN l < l.length) : fewB hd l = false := by unfold fewB; rw [decide_eq_false (by omega)]; rfl
theorem few_yes {hd : ByteArray} {l : List Rf} (h : ¬ fewN l < l.length) : fewB hd l = decide (hd.size ≤ 200) := by
  unfold fewB
  rw [decide_eq_true (by have := fewN_le l; omega)]; rfl
theorem few_of {hd : ByteArray} {l : List Rf} (h : fewB hd l = true) : l.length ≤ 60 ∧ hd.size ≤ 200 ∧ ∀ i, i < l.length → (l.getD i zP).f0.size ≤ 200 ∧ (l.getD i zP).f1.size ≤ 200 := by
  unfold fewB at h
  rw [Bool.and_eq_true, decide_eq_true_iff, decide_eq_true_iff] at h
  refine ⟨h.1 ▸ fewN_60 l, h.2, fun i hi => ?_⟩
  have := fewN_round (l := l) (i := i) (by omega)
  exact this.2
theorem built32_02 (a c : ByteArray) : Tryd.prog.built 32 [(0, .string a), (2, .string c)] = some #[.string a, .string nilB, .string c] := by kernel_rfl
theorem built32_01 (a b : ByteArray) : Tryd.prog.built 32 [(0, .string a), (1, .string b)] = some #[.string a, .string b, .string nilB] := by kernel_rfl
theorem built24_h (a : ByteArray) : Tryd.prog.built 24 [(0, .string a)] = some #[.string a, .slice none 0 0] := by kernel_rfl
theorem rdnil (w : World) : RdF w 2 (.slice none 0 0) ([] : List Rf).length (([] : List Rf).map encP).flatten := (OwnF.nil w 0 0 2).rd
def mainB : ByteArray := ⟨#[109, 97, 105, 110]⟩
def idB : ByteArray := ⟨#[48, 49, 50, 51, 52, 53, 54, 55, 56, 57, 48, 49, 50, 51, 52, 53, 54, 55, 56, 57]⟩
def wA : Sw := ⟨mainB, nilB, idB⟩
def wB : Sw := ⟨mainB, ⟨#[120]⟩, nilB⟩
def lA : List Rf := [⟨mainB, idB⟩]
def tA : ByteArray := prT mainB lA 1
theorem aw_1 : errP (nsize 1) [] wA = 0 := by kernel_rfl
theorem aw_set : setP [] wA.f0 wA.f2 = lA := by kernel_rfl
theorem aw_ap : apH mainB (nsize 1) [] [wA] = mainB ∧ apL (nsize 1) [] [wA] = lA ∧ apE (nsize 1) [] [wA] = 0 := by
  obtain ⟨e1, e2, e3⟩ := ap1_ok mainB aw_1
  exact ⟨e1, e2.trans aw_set, e3⟩
theorem aw_2 : errP (nsize 1) lA wB = 13 := by kernel_rfl
theorem aw_ap2 : apH mainB (nsize 1) lA [wB] = nilB ∧ apL (nsize 1) lA [wB] = [] ∧ apE (nsize 1) lA [wB] = 13 := by
  obtain ⟨e1, e2, e3⟩ := ap1_bad (sz := nsize 1) (l := lA) (w := wB) mainB (by rw [aw_2]; decide)
  exact ⟨e1, e2, e3.trans aw_2⟩
theorem aw_right : rightS mainB lA 1 = true := by kernel_rfl
theorem aw_wide : rightS mainB lA 2 = false := by kernel_rfl
theorem aw_get : getL lA mainB = idB := by kernel_rfl
theorem aw_prE : prE mainB lA 1 = 0 := if_pos aw_right
theorem aw_text : tA = sealB (prS mainB lA) := by unfold tA prT; exact if_pos aw_right
theorem aw_size : tA.size = 60 := by rw [aw_text]; kernel_rfl
theorem aw_head : tA.extract 0 10 = ⟨#[72, 69, 65, 68, 32, 109, 97, 105, 110, 10]⟩ := by rw [aw_text]; kernel_rfl
theorem aw_open : openB tA = (prS mainB lA, 0) := by rw [aw_text]; kernel_rfl
theorem aw_parts : psP tA = [headB ++ mainB, digB idB ++ blB ++ mainB] := by unfold psP; rw [aw_open]; kernel_rfl
theorem aw_psH : psH tA = mainB := by unfold psH; rw [aw_parts]; kernel_rfl
theorem aw_psL : psL tA = lA := by unfold psL; rw [aw_parts]; kernel_rfl
theorem aw_pa : pzH tA 1 = mainB ∧ pzL tA 1 = lA ∧ paE tA 1 = 0 := by
  obtain ⟨e1, e2, e3⟩ := pz_good (t := tA) (sp := 1) (by rw [aw_open]; simp) ⟨by rw [aw_psH, aw_psL]; exact aw_prE, by rw [aw_psH, aw_psL]; rfl⟩
  exact ⟨e1.trans aw_psH, e2.trans aw_psL, e3⟩
end Go.Proofs.YtnhchnlgleokoaaDoor.Q
end
/-! E7 -/
section
namespace Go.Proofs.YtnhchnlgleokoaaDoor.Q
open Go.RowKit
open Go.Proofs.YtnhchnlgleokoaaDoorW.PrintWords (bytesOf bytesOf_length)
set_option linter.unusedVariables false
set_option linter.unusedSimpArgs false
set_option maxRecDepth 100000
set_option maxHeartbeats 4000000
attribute [local irreducible] wpList wpQuiet qch Code.wp Oper.quiet Act.put At Region.wanted yielded
theorem Few.calls (hd : ByteArray) (v : Value) (l : List Rf) (w0 : World) (hv : RdF w0 2 v l.length (l.map encP).flatten) : Calls Tryd.prog 8 #[.agg #[.string hd, v]] w0 fun e w' => e = .returned (.bool (fewB hd l)) ∧ Low w0 w' := by
 refine c_fun (R := _) Tryd.func8 rfl 37 rfl (Nat.le_of_ble_eq_true rfl) ?_; intro a z hA; have s0 := hA 0 _ rfl; clear hA; refine c_seq (c_region (l_box rfl rfl s0.ev ?_)); intro g1 w1 hg1 k1 h1; have geg1 := Nat.le_trans (Low.refl _).ge hg1; have ov_1 := hv.low h1; refine l_q rfl (q_assign _ _ rfl rfl ?_); refine l_end (e_fr z.p2 fun a2 z2 m2 => ?_); have s1_2 := m2 ((At.hit z rfl).n1); have low2 := h1; refine e_then (c_seq (c_seq (c_region ?_))); refine l_q rfl (q_assign _ _ rfl rfl ?_); refine l_end (e_fr z2.put fun a3 z3 m3 => ?_); have s1_3 := m3 s1_2.n1; have s3_3 := m3 (At.hit z2 rfl); refine e_then (wp_block (c_loop (fewN l) (fun k a w => Fr 37 a ∧ At a 1 (.pointer (some ⟨g1, 0, none⟩)) ∧ At a 3 (.int .i64 ((k : Nat) : Int)) ∧ w.heap[g1]? = some (.cells (#[.string hd, v]) 24) ∧ Low w0 w) ?_ ?_ ?_))
 ·
  exact ⟨z3, s1_3, s3_3, k1, low2⟩
 ·
  intro k a4 w4 hk4 h; obtain ⟨z4, s1_4, s3_4, kg1_4, low4⟩ := h; clear k1 low2 s1_3 s3_3 z3; have hle := fewN_le l; have h60 := fewN_60 l; obtain ⟨hf0, hf1, hf2⟩ := fewN_round (by assumption); refine c_seq (c_seq (c_region ?_)); refine l_q rfl (qm rfl s3_4 (l_q rfl (q_fld 1 rfl (by kernel_rfl) (s1_4.n1).ev (l_q rfl (q_cellS (v) rfl u_22 (At.hit z4.put rfl).ev (fun _ e => by rw [e]; exact (cells_at kg1_4 1).trans rfl) (l_q rfl (q_lenF rfl rfl u_22 (At.hit z4.p2 rfl).ev (hv.low low4) (l_q rfl (q_lss true rfl ((At.hit z4 rfl).n3).ev (At.hit z4.p3 rfl).ev (decide_eq_true (by omega)) (l_end (e_fr z4.p5 fun a5 z5 m5 => ?_))))))))))); have s1_5 := m5 s1_4.n5; have s3_5 := m5 s3_4.n5; have s8_5 := m5 (At.hit z4.p4 rfl); refine e_then (c_true s8_5 ?_); refine wp_skip (e_then (c_seq (wp_block (c_seq (c_region ?_))))); refine l_q rfl (qm rfl s3_5 (l_q rfl (q_geq false rfl (At.hit z5 rfl).ev rfl (decide_eq_false (by omega)) (l_q rfl (qm rfl (At.hit z5.put rfl) (l_qg (wis rfl rfl (At.hit z5.p2 rfl) rfl) (q_fld 1 rfl (by kernel_rfl) (s1_5.n3).ev (l_qg (wis rfl rfl ((At.hit z5.p2 rfl).n1) rfl) (q_cellS (v) rfl u_22 (At.hit z5.p3 rfl).ev (fun _ e => by rw [e]; exact (cells_at kg1_4 1).trans rfl) (l_qg (wis rfl rfl ((At.hit z5.p2 rfl).n2) rfl) (qm rfl (s3_5.n5) (l_qg (wis rfl rfl ((At.hit z5.p2 rfl).n3) rfl) (q_idxF (j := k) rfl u_22 sz55 ((At.hit z5.p4 rfl).n1).ev (hv.low low4) (At.hit z5.p5 rfl).ev (by omega) (l_qg (wis rfl rfl ((At.hit z5.p2 rfl).n4) rfl) (q_fldF 0 rfl fld55_0 (At.hit z5.p6 rfl).ev ((hv.low low4).form (by omega)) (l_fr z5.p8 fun a6 z6 m6 => ?_)))))))))))))))); have s1_6 := m6 s1_5.n8; have s3_6 := m6 s3_5.n8; have s13_6 := m6 ((At.hit z5.p2 rfl).n5); have s18_6 := m6 (At.hit z5.p7 rfl); refine l_qg (wis rfl rfl s13_6 rfl) (q_ld1 (u := .string ((l.getD k zP).f0)) rfl u_9 rfl s18_6.ev (fun _ e => by rw [e]; exact (hv.low low4)) (by omega) ((flat_at encP_len zP _ k 0 (by omega) (by decide)).trans rfl) ?_); refine l_qg (wis rfl rfl (s13_6.n1) rfl) (q_len rfl rfl u_9 (At.hit z6 rfl).ev ?_); refine l_qg (wis rfl rfl (s13_6.n2) rfl) (q_gtr false rfl (At.hit z6.put rfl).ev rfl (decide_eq_false (by omega)) ?_); refine l_q rfl (q_pick (b := false) (.bool false) rfl (s13_6.n3).ev (At.hit z6.p2 rfl).ev ?_); refine l_q rfl (qm rfl (At.hit z6.p3 rfl) (l_qg (wis rfl rfl (At.hit z6.p4 rfl) rfl) (q_fld 1 rfl (by kernel_rfl) (s1_6.n5).ev (l_qg (wis rfl rfl ((At.hit z6.p4 rfl).n1) rfl) (q_cellS (v) rfl u_22 (At.hit z6.p5 rfl).ev (fun _ e => by rw [e]; exact (cells_at kg1_4 1).trans rfl) (l_qg (wis rfl rfl ((At.hit z6.p4 rfl).n2) rfl) (qm rfl (s3_6.n7) (l_fr z6.p8 fun a7 z7 m7 => ?_)))))))); have s1_7 := m7 s1_6.n8; have s3_7 := m7 s3_6.n8; have s23_7 := m7 ((At.hit z6.p4 rfl).n3); have s25_7 := m7 ((At.hit z6.p6 rfl).n1); have s26_7 := m7 (At.hit z6.p7 rfl); refine l_qg (wis rfl rfl s23_7 rfl) (q_idxF (j := k) rfl u_22 sz55 s25_7.ev (hv.low low4) s26_7.ev (by omega) ?_); refine l_qg (wis rfl rfl (s23_7.n1) rfl) (q_fldF 1 rfl fld55_1 (At.hit z7 rfl).ev ((hv.low low4).form (by omega)) ?_)
  refine l_qg (wis rfl rfl (s23_7.n2) rfl) (q_ld1 (u := .string ((l.getD k zP).f1)) rfl u_9 rfl (At.hit z7.put rfl).ev (fun _ e => by rw [e]; exact (hv.low low4)) (by omega) ((flat_at encP_len zP _ k 1 (by omega) (by decide)).trans rfl) ?_); refine l_qg (wis rfl rfl (s23_7.n3) rfl) (q_len rfl rfl u_9 (At.hit z7.p2 rfl).ev ?_); refine l_qg (wis rfl rfl (s23_7.n4) rfl) (q_gtr false rfl (At.hit z7.p3 rfl).ev rfl (decide_eq_false (by omega)) ?_); refine l_q rfl (q_pick (b := false) (.bool false) rfl (s23_7.n5).ev (At.hit z7.p4 rfl).ev ?_); refine l_end (e_fr z7.p6 fun a8 z8 m8 => ?_); have s1_8 := m8 s1_7.n6; have s3_8 := m8 s3_7.n6; have s32_8 := m8 (At.hit z7.p5 rfl); refine e_then (c_false s32_8 ?_); refine wp_skip (e_in (e_then (c_region ?_))); refine l_q rfl (qm rfl s3_8 (l_q rfl (q_add (((k + 1 : Nat) : Int)) rfl (At.hit z8 rfl).ev rfl (i64_is (by omega) (by omega) (by omega)) (l_q rfl (qa rfl (At.hit z8.put rfl) (l_end (e_fr z8.p3 fun a9 z9 m9 => ?_))))))); have s1_9 := m9 s1_8.n3; have s3_9 := m9 (At.hit z8.p2 rfl); exact ⟨z9, s1_9, s3_9, kg1_4, low4⟩
 ·
  intro a10 w10 h; obtain ⟨z10, s1_10, s3_10, kg1_10, low10⟩ := h; clear k1 low2 s1_3 s3_3 z3; have hle := fewN_le l; have h60 := fewN_60 l; refine c_seq (c_seq ?_)
  by_cases hb11 : fewN l < l.length
  ·
   skip
   refine c_region ?_; refine l_q rfl (qm rfl s3_10 (l_q rfl (q_fld 1 rfl (by kernel_rfl) (s1_10.n1).ev (l_q rfl (q_cellS (v) rfl u_22 (At.hit z10.put rfl).ev (fun _ e => by rw [e]; exact (cells_at kg1_10 1).trans rfl) (l_q rfl (q_lenF rfl rfl u_22 (At.hit z10.p2 rfl).ev (hv.low low10) (l_q rfl (q_lss true rfl ((At.hit z10 rfl).n3).ev (At.hit z10.p3 rfl).ev (decide_eq_true (by omega)) (l_end (e_fr z10.p5 fun a12 z12 m12 => ?_))))))))))); have s1_12 := m12 s1_10.n5; have s3_12 := m12 s3_10.n5; have s8_12 := m12 (At.hit z10.p4 rfl); refine e_then (c_true s8_12 ?_); refine wp_skip (e_then (c_seq (wp_block (c_seq ?_))))
   by_cases hb13 : 60 ≤ fewN l
   ·
    skip
    refine c_region ?_; refine l_q rfl (qm rfl s3_12 (l_q rfl (q_geq true rfl (At.hit z12 rfl).ev rfl (decide_eq_true (by omega)) (l_q rfl (qm rfl (At.hit z12.put rfl) (l_skip (wis rfl rfl (At.hit z12.p2 rfl) rfl) (l_skip (wis rfl rfl ((At.hit z12.p2 rfl).n1) rfl) (l_skip (wis rfl rfl ((At.hit z12.p2 rfl).n2) rfl) (l_skip (wis rfl rfl ((At.hit z12.p2 rfl).n3) rfl) (l_skip (wis rfl rfl ((At.hit z12.p2 rfl).n4) rfl) (l_fr z12.p8 fun a14 z14 m14 => ?_))))))))))); have s1_14 := m14 s1_12.n8; have s3_14 := m14 s3_12.n8; have s13_14 := m14 ((At.hit z12.p2 rfl).n5); have s18_14 := m14 (At.hit z12.p7 rfl); refine l_skip (wis rfl rfl s13_14 rfl) ?_; refine l_skip (wis rfl rfl (s13_14.n1) rfl) ?_; refine l_skip (wis rfl rfl (s13_14.n2) rfl) ?_; refine l_q rfl (q_pick (b := true) (.bool true) rfl (s13_14.n3).ev rfl ?_); refine l_q rfl (qm rfl (At.hit z14.p3 rfl) (l_skip (wis rfl rfl (At.hit z14.p4 rfl) rfl) (l_skip (wis rfl rfl ((At.hit z14.p4 rfl).n1) rfl) (l_skip (wis rfl rfl ((At.hit z14.p4 rfl).n2) rfl) (l_fr z14.p8 fun a15 z15 m15 => ?_))))); have s1_15 := m15 s1_14.n8; have s3_15 := m15 s3_14.n8; have s23_15 := m15 ((At.hit z14.p4 rfl).n3); have s25_15 := m15 ((At.hit z14.p6 rfl).n1); have s26_15 := m15 (At.hit z14.p7 rfl); refine l_skip (wis rfl rfl s23_15 rfl) ?_; refine l_skip (wis rfl rfl (s23_15.n1) rfl) ?_; refine l_skip (wis rfl rfl (s23_15.n2) rfl) ?_; refine l_skip (wis rfl rfl (s23_15.n3) rfl) ?_; refine l_skip (wis rfl rfl (s23_15.n4) rfl) ?_; refine l_q rfl (q_pick (b := true) (.bool true) rfl (s23_15.n5).ev rfl ?_); refine l_end (e_fr z15.p6 fun a16 z16 m16 => ?_); have s1_16 := m16 s1_15.n6; have s3_16 := m16 s3_15.n6; have s32_16 := m16 (At.hit z15.p5 rfl); refine e_then (c_true s32_16 ?_); refine c_seq (c_region ?_); refine l_q rfl (q_assign _ _ rfl rfl ?_); refine l_end (e_fr z16.put fun a17 z17 m17 => ?_); have s2_17 := m17 (At.hit z16 rfl); refine e_then (wp_ret (ret_in (ret_then (ret_then (ret_in (ret_then (r_tmp rfl z17.defers s2_17 ?_))))))); exact ⟨by rw [few_no hb11] <;> rfl, low10⟩
   ·
    skip
    by_cases hb18 : 200 < (l.getD (fewN l) zP).f0.size
    ·
     skip
     refine c_region ?_; refine l_q rfl (qm rfl s3_12 (l_q rfl (q_geq false rfl (At.hit z12 rfl).ev rfl (decide_eq_false (by omega)) (l_q rfl (qm rfl (At.hit z12.put rfl) (l_qg (wis rfl rfl (At.hit z12.p2 rfl) rfl) (q_fld 1 rfl (by kernel_rfl) (s1_12.n3).ev (l_qg (wis rfl rfl ((At.hit z12.p2 rfl).n1) rfl) (q_cellS (v) rfl u_22 (At.hit z12.p3 rfl).ev (fun _ e => by rw [e]; exact (cells_at kg1_10 1).trans rfl) (l_qg (wis rfl rfl ((At.hit z12.p2 rfl).n2) rfl) (qm rfl (s3_12.n5) (l_qg (wis rfl rfl ((At.hit z12.p2 rfl).n3) rfl) (q_idxF (j := (fewN l)) rfl u_22 sz55 ((At.hit z12.p4 rfl).n1).ev (hv.low low10) (At.hit z12.p5 rfl).ev (by omega) (l_qg (wis rfl rfl ((At.hit z12.p2 rfl).n4) rfl) (q_fldF 0 rfl fld55_0 (At.hit z12.p6 rfl).ev ((hv.low low10).form (by omega)) (l_fr z12.p8 fun a19 z19 m19 => ?_)))))))))))))))); have s1_19 := m19 s1_12.n8; have s3_19 := m19 s3_12.n8; have s13_19 := m19 ((At.hit z12.p2 rfl).n5); have s18_19 := m19 (At.hit z12.p7 rfl); refine l_qg (wis rfl rfl s13_19 rfl) (q_ld1 (u := .string ((l.getD (fewN l) zP).f0)) rfl u_9 rfl s18_19.ev (fun _ e => by rw [e]; exact (hv.low low10)) (by omega) ((flat_at encP_len zP _ (fewN l) 0 (by omega) (by decide)).trans rfl) ?_); refine l_qg (wis rfl rfl (s13_19.n1) rfl) (q_len rfl rfl u_9 (At.hit z19 rfl).ev ?_); refine l_qg (wis rfl rfl (s13_19.n2) rfl) (q_gtr true rfl (At.hit z19.put rfl).ev rfl (decide_eq_true (by omega)) ?_); refine l_q rfl (q_pick (b := false) (.bool true) rfl (s13_19.n3).ev (At.hit z19.p2 rfl).ev ?_); refine l_q rfl (qm rfl (At.hit z19.p3 rfl) (l_skip (wis rfl rfl (At.hit z19.p4 rfl) rfl) (l_skip (wis rfl rfl ((At.hit z19.p4 rfl).n1) rfl) (l_skip (wis rfl rfl ((At.hit z19.p4 rfl).n2) rfl) (l_fr z19.p8 fun a20 z20 m20 => ?_))))); have s1_20 := m20 s1_19.n8; have s3_20 := m20 s3_19.n8; have s23_20 := m20 ((At.hit z19.p4 rfl).n3); have s25_20 := m20 ((At.hit z19.p6 rfl).n1); have s26_20 := m20 (At.hit z19.p7 rfl); refine l_skip (wis rfl rfl s23_20 rfl) ?_; refine l_skip (wis rfl rfl (s23_20.n1) rfl) ?_; refine l_skip (wis rfl rfl (s23_20.n2) rfl) ?_; refine l_skip (wis rfl rfl (s23_20.n3) rfl) ?_; refine l_skip (wis rfl rfl (s23_20.n4) rfl) ?_; refine l_q rfl (q_pick (b := true) (.bool true) rfl (s23_20.n5).ev rfl ?_); refine l_end (e_fr z20.p6 fun a21 z21 m21 => ?_); have s1_21 := m21 s1_20.n6; have s3_21 := m21 s3_20.n6; have s32_21 := m21 (At.hit z20.p5 rfl); refine e_then (c_true s32_21 ?_); refine c_seq (c_region ?_); refine l_q rfl (q_assign _ _ rfl rfl ?_); refine l_end (e_fr z21.put fun a22 z22 m22 => ?_); have s2_22 := m22 (At.hit z21 rfl); refine e_then (wp_ret (ret_in (ret_then (ret_then (ret_in (ret_then (r_tmp rfl z22.defers s2_22 ?_))))))); exact ⟨by rw [few_no hb11] <;> rfl, low10⟩
    ·
     skip
     by_cases hb23 : 200 < (l.getD (fewN l) zP).f1.size
     ·
      skip
      refine c_region ?_; refine l_q rfl (qm rfl s3_12 (l_q rfl (q_geq false rfl (At.hit z12 rfl).ev rfl (decide_eq_false (by omega)) (l_q rfl (qm rfl (At.hit z12.put rfl) (l_qg (wis rfl rfl (At.hit z12.p2 rfl) rfl) (q_fld 1 rfl (by kernel_rfl) (s1_12.n3).ev (l_qg (wis rfl rfl ((At.hit z12.p2 rfl).n1) rfl) (q_cellS (v) rfl u_22 (At.hit z12.p3 rfl).ev (fun _ e => by rw [e]; exact (cells_at kg1_10 1).trans rfl) (l_qg (wis rfl rfl ((At.hit z12.p2 rfl).n2) rfl) (qm rfl (s3_12.n5) (l_qg (wis rfl rfl ((At.hit z12.p2 rfl).n3) rfl) (q_idxF (j := (fewN l)) rfl u_22 sz55 ((At.hit z12.p4 rfl).n1).ev (hv.low low10) (At.hit z12.p5 rfl).ev (by omega) (l_qg (wis rfl rfl ((At.hit z12.p2 rfl).n4) rfl) (q_fldF 0 rfl fld55_0 (At.hit z12.p6 rfl).ev ((hv.low low10).form (by omega)) (l_fr z12.p8 fun a24 z24 m24 => ?_)))))))))))))))); have s1_24 := m24 s1_12.n8; have s3_24 := m24 s3_12.n8; have s13_24 := m24 ((At.hit z12.p2 rfl).n5); have s18_24 := m24 (At.hit z12.p7 rfl); refine l_qg (wis rfl rfl s13_24 rfl) (q_ld1 (u := .string ((l.getD (fewN l) zP).f0)) rfl u_9 rfl s18_24.ev (fun _ e => by rw [e]; exact (hv.low low10)) (by omega) ((flat_at encP_len zP _ (fewN l) 0 (by omega) (by decide)).trans rfl) ?_); refine l_qg (wis rfl rfl (s13_24.n1) rfl) (q_len rfl rfl u_9 (At.hit z24 rfl).ev ?_); refine l_qg (wis rfl rfl (s13_24.n2) rfl) (q_gtr false rfl (At.hit z24.put rfl).ev rfl (decide_eq_false (by omega)) ?_); refine l_q rfl (q_pick (b := false) (.bool false) rfl (s13_24.n3).ev (At.hit z24.p2 rfl).ev ?_); refine l_q rfl (qm rfl (At.hit z24.p3 rfl) (l_qg (wis rfl rfl (At.hit z24.p4 rfl) rfl) (q_fld 1 rfl (by kernel_rfl) (s1_24.n5).ev (l_qg (wis rfl rfl ((At.hit z24.p4 rfl).n1) rfl) (q_cellS (v) rfl u_22 (At.hit z24.p5 rfl).ev (fun _ e => by rw [e]; exact (cells_at kg1_10 1).trans rfl) (l_qg (wis rfl rfl ((At.hit z24.p4 rfl).n2) rfl) (qm rfl (s3_24.n7) (l_fr z24.p8 fun a25 z25 m25 => ?_)))))))); have s1_25 := m25 s1_24.n8; have s3_25 := m25 s3_24.n8; have s23_25 := m25 ((At.hit z24.p4 rfl).n3); have s25_25 := m25 ((At.hit z24.p6 rfl).n1); have s26_25 := m25 (At.hit z24.p7 rfl); refine l_qg (wis rfl rfl s23_25 rfl) (q_idxF (j := (fewN l)) rfl u_22 sz55 s25_25.ev (hv.low low10) s26_25.ev (by omega) ?_); refine l_qg (wis rfl rfl (s23_25.n1) rfl) (q_fldF 1 rfl fld55_1 (At.hit z25 rfl).ev ((hv.low low10).form (by omega)) ?_); refine l_qg (wis rfl rfl (s23_25.n2) rfl) (q_ld1 (u := .string ((l.getD (fewN l) zP).f1)) rfl u_9 rfl (At.hit z25.put rfl).ev (fun _ e => by rw [e]; exact (hv.low low10)) (by omega) ((flat_at encP_len zP _ (fewN l) 1 (by omega) (by decide)).trans rfl) ?_); refine l_qg (wis rfl rfl (s23_25.n3) rfl) (q_len rfl rfl u_9 (At.hit z25.p2 rfl).ev ?_); refine l_qg (wis rfl rfl (s23_25.n4) rfl) (q_gtr true rfl (At.hit z25.p3 rfl).ev rfl (decide_eq_true (by omega)) ?_); refine l_q rfl (q_pick (b := false) (.bool true) rfl (s23_25.n5).ev (At.hit z25.p4 rfl).ev ?_); refine l_end (e_fr z25.p6 fun a26 z26 m26 => ?_); have s1_26 := m26 s1_25.n6; have s3_26 := m26 s3_25.n6; have s32_26 := m26 (At.hit z25.p5 rfl)
      refine e_then (c_true s32_26 ?_); refine c_seq (c_region ?_); refine l_q rfl (q_assign _ _ rfl rfl ?_); refine l_end (e_fr z26.put fun a27 z27 m27 => ?_); have s2_27 := m27 (At.hit z26 rfl); refine e_then (wp_ret (ret_in (ret_then (ret_then (ret_in (ret_then (r_tmp rfl z27.defers s2_27 ?_))))))); exact ⟨by rw [few_no hb11] <;> rfl, low10⟩
     ·
      skip
      refine c_region ?_; refine l_q rfl (qm rfl s3_12 (l_q rfl (q_geq false rfl (At.hit z12 rfl).ev rfl (decide_eq_false (by omega)) (l_q rfl (qm rfl (At.hit z12.put rfl) (l_qg (wis rfl rfl (At.hit z12.p2 rfl) rfl) (q_fld 1 rfl (by kernel_rfl) (s1_12.n3).ev (l_qg (wis rfl rfl ((At.hit z12.p2 rfl).n1) rfl) (q_cellS (v) rfl u_22 (At.hit z12.p3 rfl).ev (fun _ e => by rw [e]; exact (cells_at kg1_10 1).trans rfl) (l_qg (wis rfl rfl ((At.hit z12.p2 rfl).n2) rfl) (qm rfl (s3_12.n5) (l_qg (wis rfl rfl ((At.hit z12.p2 rfl).n3) rfl) (q_idxF (j := (fewN l)) rfl u_22 sz55 ((At.hit z12.p4 rfl).n1).ev (hv.low low10) (At.hit z12.p5 rfl).ev (by omega) (l_qg (wis rfl rfl ((At.hit z12.p2 rfl).n4) rfl) (q_fldF 0 rfl fld55_0 (At.hit z12.p6 rfl).ev ((hv.low low10).form (by omega)) (l_fr z12.p8 fun a28 z28 m28 => ?_)))))))))))))))); have s1_28 := m28 s1_12.n8; have s3_28 := m28 s3_12.n8; have s13_28 := m28 ((At.hit z12.p2 rfl).n5); have s18_28 := m28 (At.hit z12.p7 rfl); refine l_qg (wis rfl rfl s13_28 rfl) (q_ld1 (u := .string ((l.getD (fewN l) zP).f0)) rfl u_9 rfl s18_28.ev (fun _ e => by rw [e]; exact (hv.low low10)) (by omega) ((flat_at encP_len zP _ (fewN l) 0 (by omega) (by decide)).trans rfl) ?_); refine l_qg (wis rfl rfl (s13_28.n1) rfl) (q_len rfl rfl u_9 (At.hit z28 rfl).ev ?_); refine l_qg (wis rfl rfl (s13_28.n2) rfl) (q_gtr false rfl (At.hit z28.put rfl).ev rfl (decide_eq_false (by omega)) ?_); refine l_q rfl (q_pick (b := false) (.bool false) rfl (s13_28.n3).ev (At.hit z28.p2 rfl).ev ?_); refine l_q rfl (qm rfl (At.hit z28.p3 rfl) (l_qg (wis rfl rfl (At.hit z28.p4 rfl) rfl) (q_fld 1 rfl (by kernel_rfl) (s1_28.n5).ev (l_qg (wis rfl rfl ((At.hit z28.p4 rfl).n1) rfl) (q_cellS (v) rfl u_22 (At.hit z28.p5 rfl).ev (fun _ e => by rw [e]; exact (cells_at kg1_10 1).trans rfl) (l_qg (wis rfl rfl ((At.hit z28.p4 rfl).n2) rfl) (qm rfl (s3_28.n7) (l_fr z28.p8 fun a29 z29 m29 => ?_)))))))); have s1_29 := m29 s1_28.n8; have s3_29 := m29 s3_28.n8; have s23_29 := m29 ((At.hit z28.p4 rfl).n3); have s25_29 := m29 ((At.hit z28.p6 rfl).n1); have s26_29 := m29 (At.hit z28.p7 rfl); refine l_qg (wis rfl rfl s23_29 rfl) (q_idxF (j := (fewN l)) rfl u_22 sz55 s25_29.ev (hv.low low10) s26_29.ev (by omega) ?_); refine l_qg (wis rfl rfl (s23_29.n1) rfl) (q_fldF 1 rfl fld55_1 (At.hit z29 rfl).ev ((hv.low low10).form (by omega)) ?_); refine l_qg (wis rfl rfl (s23_29.n2) rfl) (q_ld1 (u := .string ((l.getD (fewN l) zP).f1)) rfl u_9 rfl (At.hit z29.put rfl).ev (fun _ e => by rw [e]; exact (hv.low low10)) (by omega) ((flat_at encP_len zP _ (fewN l) 1 (by omega) (by decide)).trans rfl) ?_); refine l_qg (wis rfl rfl (s23_29.n3) rfl) (q_len rfl rfl u_9 (At.hit z29.p2 rfl).ev ?_); refine l_qg (wis rfl rfl (s23_29.n4) rfl) (q_gtr false rfl (At.hit z29.p3 rfl).ev rfl (decide_eq_false (by omega)) ?_); refine l_q rfl (q_pick (b := false) (.bool false) rfl (s23_29.n5).ev (At.hit z29.p4 rfl).ev ?_); refine l_end (e_fr z29.p6 fun a30 z30 m30 => ?_); have s1_30 := m30 s1_29.n6; have s3_30 := m30 s3_29.n6; have s32_30 := m30 (At.hit z29.p5 rfl)
      refine e_then (c_false s32_30 ?_); refine wp_skip (e_in (e_then (c_region ?_))); refine l_q rfl (qm rfl s3_30 (l_q rfl (q_add ((((fewN l) + 1 : Nat) : Int)) rfl (At.hit z30 rfl).ev rfl (i64_is (by omega) (by omega) (by omega)) (l_q rfl (qa rfl (At.hit z30.put rfl) (l_end (e_fr z30.p3 fun a31 z31 m31 => ?_))))))); have s1_31 := m31 s1_30.n3; exact absurd ⟨Nat.lt_of_not_le hb13, Nat.le_of_not_lt hb18, Nat.le_of_not_lt hb23⟩ (fewN_stop hb11)
  ·
   skip
   refine c_region ?_; refine l_q rfl (qm rfl s3_10 (l_q rfl (q_fld 1 rfl (by kernel_rfl) (s1_10.n1).ev (l_q rfl (q_cellS (v) rfl u_22 (At.hit z10.put rfl).ev (fun _ e => by rw [e]; exact (cells_at kg1_10 1).trans rfl) (l_q rfl (q_lenF rfl rfl u_22 (At.hit z10.p2 rfl).ev (hv.low low10) (l_q rfl (q_lss false rfl ((At.hit z10 rfl).n3).ev (At.hit z10.p3 rfl).ev (decide_eq_false (by omega)) (l_end (e_fr z10.p5 fun a32 z32 m32 => ?_))))))))))); have s1_32 := m32 s1_10.n5; have s3_32 := m32 s3_10.n5; have s8_32 := m32 (At.hit z10.p4 rfl); refine e_then (c_false s8_32 ?_); refine wp_exit (x_then (x_then (in_exit (e_then (c_seq ?_)))))
   by_cases hb33 : hd.size ≤ 200
   ·
    skip
    refine c_region ?_; refine l_q rfl (q_fld 0 rfl (by kernel_rfl) s1_32.ev ?_); refine l_q rfl (q_cellT (.string hd) rfl u_9 (At.hit z32 rfl).ev (fun _ e => by rw [e]; exact (cells_at kg1_10 0).trans rfl) ?_); refine l_q rfl (q_len rfl rfl u_9 (At.hit z32.put rfl).ev ?_); refine l_q rfl (q_leq true rfl (At.hit z32.p2 rfl).ev rfl (decide_eq_true (by omega)) ?_); refine l_q rfl (qa rfl (At.hit z32.p3 rfl) (l_end (e_fr z32.p5 fun a34 z34 m34 => ?_))); have s2_34 := m34 (At.hit z32.p4 rfl); refine e_then (wp_ret (r_tmp rfl z34.defers s2_34 ?_)); exact ⟨by rw [few_yes hb11, decide_eq_true hb33] <;> rfl, low10⟩
   ·
    skip
    refine c_region ?_; refine l_q rfl (q_fld 0 rfl (by kernel_rfl) s1_32.ev ?_); refine l_q rfl (q_cellT (.string hd) rfl u_9 (At.hit z32 rfl).ev (fun _ e => by rw [e]; exact (cells_at kg1_10 0).trans rfl) ?_); refine l_q rfl (q_len rfl rfl u_9 (At.hit z32.put rfl).ev ?_); refine l_q rfl (q_leq false rfl (At.hit z32.p2 rfl).ev rfl (decide_eq_false (by omega)) ?_); refine l_q rfl (qa rfl (At.hit z32.p3 rfl) (l_end (e_fr z32.p5 fun a35 z35 m35 => ?_))); have s2_35 := m35 (At.hit z32.p4 rfl); refine e_then (wp_ret (r_tmp rfl z35.defers s2_35 ?_)); exact ⟨by rw [few_yes hb11, decide_eq_false hb33] <;> rfl, low10⟩
theorem ApplyR.calls (hd : ByteArray) (v : Value) (l : List Rf) (sp : Int) (vw : Value) (ws : List Sw) (hln : l.length + ws.length ≤ 1000) {H : ByteArray} {L : List Rf} {E : Int} (h : apH hd (nsize sp) l ws = H ∧ apL (nsize sp) l ws = L ∧ apE (nsize sp) l ws = E) (w0 : World) (hv : RdF w0 2 v l.length (l.map encP).flatten) (hvw : RdF w0 3 vw ws.length (ws.map encW).flatten) (hG : Gd w0) : Calls Tryd.prog 11 #[.agg #[.string hd, v], .int .i64 sp, vw] w0 fun e w' => ∃ z, e = .returned z ∧ (∃ x, z = .tuple #[.agg #[.string H, x], .int .i64 E] ∧ OwnF w' w0.heap.size 55 2 x L.length (L.map encP).flatten) ∧ Low w0 w' := by
  obtain ⟨rfl, rfl, rfl⟩ := h
  exact (Apply.calls hd v l sp vw ws hln w0 hv hvw hG).mono fun e w' ⟨x, he, o, k⟩ => ⟨_, he, ⟨x, rfl, o⟩, k⟩
theorem ParseR.calls (t : ByteArray) (ht : t.size ≤ 100000) (sp : Int) {H : ByteArray} {L : List Rf} {E : Int} (h : pzH t sp = H ∧ pzL t sp = L ∧ paE t sp = E) (w0 : World) (hG : Gd w0) : Calls Tryd.prog 20 #[.string t, .int .i64 sp] w0 fun e w' => ∃ z, e = .returned z ∧ (∃ x, z = .tuple #[.agg #[.string H, x], .int .i64 E] ∧ OwnF w' w0.heap.size 55 2 x L.length (L.map encP).flatten) ∧ Low w0 w' := by
  obtain ⟨rfl, rfl, rfl⟩ := h
  exact (Parse.calls t ht sp w0 hG).mono fun e w' ⟨x, he, o, k⟩ => ⟨_, he, ⟨x, rfl, o⟩, k⟩
theorem Awake.calls (w0 : World) (hG : Gd w0) : Calls Tryd.prog 7 #[] w0 fun e w' => e = .returned (.bool true) ∧ Low w0 w' := by
 refine c_fun (R := _) Tryd.func7 rfl 82 rfl (Nat.le_of_ble_eq_true rfl) ?_; intro a z hA; clear hA; refine c_seq (c_region ?_); refine l_q rfl (q_assign _ _ rfl rfl ?_); refine l_end (e_fr z.put fun a1 z1 m1 => ?_); refine e_then (c_seq (c_region ?_)); refine l_q rfl (q_build (ps := #[(0, .string (⟨#[109, 97, 105, 110]⟩ : ByteArray))]) rfl (by simp [Act.eval]) (built24_h (⟨#[109, 97, 105, 110]⟩ : ByteArray)) ?_); refine l_q rfl (q_build (ps := #[(0, .string (⟨#[109, 97, 105, 110]⟩ : ByteArray)), (2, .string (⟨#[48, 49, 50, 51, 52, 53, 54, 55, 56, 57, 48, 49, 50, 51, 52, 53, 54, 55, 56, 57]⟩ : ByteArray))]) rfl (by simp [Act.eval]) (built32_02 (⟨#[109, 97, 105, 110]⟩ : ByteArray) (⟨#[48, 49, 50, 51, 52, 53, 54, 55, 56, 57, 48, 49, 50, 51, 52, 53, 54, 55, 56, 57]⟩ : ByteArray)) ?_); refine l_buildF (vs := [.string (⟨#[109, 97, 105, 110]⟩ : ByteArray), .string nilB, .string (⟨#[48, 49, 50, 51, 52, 53, 54, 55, 56, 57, 48, 49, 50, 51, 52, 53, 54, 55, 56, 57]⟩ : ByteArray)]) rfl rfl u_25 rec32 (At.hit z1.put rfl).ev rfl rfl (by decide) (by decide) ?_; intro g12_2 w2 hg2 k2 h2; have geg12_2 := Nat.le_trans (Low.refl _).ge hg2; have ol2 : RdF w2 3 (.slice (some ⟨g12_2, 0, none⟩) 1 1) ([wA]).length ([wA].map encW).flatten := rdF_rec k2 rfl; refine l_call _ rfl rfl rfl Tryd.func11 rfl (args3 rfl ((At.hit z1 rfl).n2).ev rfl (At.hit z1.p2 rfl).ev) (ApplyR.calls (⟨#[109, 97, 105, 110]⟩ : ByteArray) (.slice none 0 0) ([] : List Rf) 1 (.slice (some ⟨g12_2, 0, none⟩) 1 1) ([wA]) (by decide) (H := mainB) (L := lA) (E := 0) aw_ap _ (rdnil _) ol2 (Gd.low hG h2)) ?_
 rintro _ w3 ⟨⟨x3, rfl, o3⟩, h3⟩
 replace o3 := o3.base h2.ge; have kg12_2_3 := h3.blk k2; have oL2_3 := ol2.low h3; refine l_q rfl (qm rfl (At.hit z1.p3 rfl) (l_q rfl (q_extract rfl (At.hit z1.p4 rfl).ev rfl (l_q rfl (q_extract rfl ((At.hit z1.p4 rfl).n1).ev rfl (l_alloc rfl rfl zero24 ?_)))))); intro g1 w4 hg4 k4 h4; have lt_g12_2_g1 := Nat.lt_of_lt_of_le (heap_lt kg12_2_3) hg4; have geg1 := Nat.le_trans (h2.trans h3).ge hg4; have kg12_2_4 := h4.blk kg12_2_3; have oL2_4 := oL2_3.low h4; have oz3_4 := o3.low h4; refine l_fr z1.p8 fun a5 z5 m5 => ?_
 have s1_5 := m5 (At.hit z1.p7 rfl); have s14_5 := m5 ((At.hit z1.p5 rfl).n2); have s15_5 := m5 ((At.hit z1.p6 rfl).n1); refine l_row rfl rfl rfl (sz24.trans (congrArg some rfl)) s1_5.ev s14_5.ev (one2 _ (RdF.one oz3_4.rd)) k4 rfl ?_; intro w6 k6 u6; have oz3_6 := oz3_4.upd u6 k4 rfl; have kg12_2_6 := u6.blk kg12_2_4 (by omega); refine l_q rfl (qa rfl s15_5 (l_end (e_fr z5.put fun a7 z7 m7 => ?_))); have s1_7 := m7 s1_5.n1; have s2_7 := m7 (At.hit z5 rfl); have low7 := (((h2.trans h3).trans h4).upd u6 geg1); refine e_then (c_seq (c_region ?_)); refine l_q rfl (q_row rfl u_24 rfl (sz24.trans (congrArg some rfl.symm)) s1_7.ev (fun _ e => by rw [e]; exact k6) ?_); refine l_call (fun v w' => v = .tuple #[.string tA, .int .i64 (prE mainB lA 1)] ∧ Low w6 w') rfl rfl rfl Tryd.func18 rfl (args2 rfl (At.hit z7 rfl).ev rfl) ((Print.calls mainB (x3) lA (by decide) 1 _ oz3_6.rd (Gd.low hG low7)).mono fun _ _ ⟨e, k⟩ => ⟨_, e, rfl, k⟩) ?_
 rintro _ w8 ⟨rfl, h8⟩
 have kg1_8 := h8.blk k6; have oz3_8 := oz3_6.low h8; refine l_q rfl (qm rfl (At.hit z7.put rfl) (l_q rfl (q_extract rfl (At.hit z7.p2 rfl).ev rfl (l_q rfl (q_extract rfl ((At.hit z7.p2 rfl).n1).ev rfl (l_q rfl (qa rfl ((At.hit z7.p3 rfl).n1) (l_q rfl (qa rfl ((At.hit z7.p4 rfl).n1) (l_end (e_fr z7.p7 fun a9 z9 m9 => ?_))))))))))); have s1_9 := m9 s1_7.n7; have s2_9 := m9 s2_7.n7; have s3_9 := m9 ((At.hit z7.p5 rfl).n1); have s4_9 := m9 (At.hit z7.p6 rfl); have low9 := (low7.trans h8); refine e_then (c_seq (c_region ?_)); refine l_q rfl (qm rfl s3_9 (l_call _ rfl rfl rfl Tryd.func20 rfl (args2 rfl (At.hit z9 rfl).ev rfl) (ParseR.calls tA (by rw [aw_size]; decide) 1 (H := mainB) (L := lA) (E := 0) aw_pa _ (Gd.low hG low9)) ?_))
 rintro _ w10 ⟨⟨x10, rfl, o10⟩, h10⟩
 replace o10 := o10.base low9.ge; have kg1_10 := h10.blk kg1_8; have oz3_10 := oz3_8.low h10; refine l_q rfl (qm rfl (At.hit z9.put rfl) (l_q rfl (q_extract rfl (At.hit z9.p2 rfl).ev rfl (l_q rfl (q_extract rfl ((At.hit z9.p2 rfl).n1).ev rfl (l_alloc rfl rfl zero24 ?_)))))); intro g5 w11 hg11 k11 h11; have lt_g1_g5 := Nat.lt_of_lt_of_le (heap_lt kg1_10) hg11; have geg5 := Nat.le_trans (low9.trans h10).ge hg11; have kg1_11 := h11.blk kg1_10; have oz3_11 := oz3_10.low h11; have oz10_11 := o10.low h11; refine l_row rfl rfl rfl (sz24.trans (congrArg some rfl)) (At.hit z9.p5 rfl).ev ((At.hit z9.p3 rfl).n2).ev (one2 _ (RdF.one oz10_11.rd)) k11 rfl ?_; intro w12 k12 u12; have oz3_12 := oz3_11.upd u12 k11 rfl; have oz10_12 := oz10_11.upd u12 k11 rfl; have kg1_12 := u12.blk kg1_11 (by omega); refine l_q rfl (qa rfl ((At.hit z9.p4 rfl).n1) (l_end (e_fr z9.p7 fun a13 z13 m13 => ?_))); have s1_13 := m13 s1_9.n7; have s2_13 := m13 s2_9.n7; have s3_13 := m13 s3_9.n7; have s4_13 := m13 s4_9.n7; have s5_13 := m13 ((At.hit z9.p5 rfl).n1); have s6_13 := m13 (At.hit z9.p6 rfl); have low13 := (((low9.trans h10).trans h11).upd u12 geg5); refine e_then (c_seq (c_region ?_)); refine l_q rfl (q_row rfl u_24 rfl (sz24.trans (congrArg some rfl.symm)) s1_13.ev (fun _ e => by rw [e]; exact kg1_12) ?_); refine l_q rfl (q_build (ps := #[(0, .string (⟨#[109, 97, 105, 110]⟩ : ByteArray)), (1, .string (⟨#[120]⟩ : ByteArray))]) rfl (by simp [Act.eval]) (built32_01 (⟨#[109, 97, 105, 110]⟩ : ByteArray) (⟨#[120]⟩ : ByteArray)) ?_); refine l_buildF (vs := [.string (⟨#[109, 97, 105, 110]⟩ : ByteArray), .string (⟨#[120]⟩ : ByteArray), .string nilB]) rfl rfl u_25 rec32 (At.hit z13.put rfl).ev rfl rfl (by decide) (by decide) ?_; intro g29_14 w14 hg14 k14 h14; have lt_g1_g29_14 := Nat.lt_of_lt_of_le (heap_lt kg1_12) hg14; have lt_g5_g29_14 := Nat.lt_of_lt_of_le (heap_lt k12) hg14; have geg29_14 := Nat.le_trans low13.ge hg14; have kg1_14 := h14.blk kg1_12; have kg5_14 := h14.blk k12; have oz3_14 := oz3_12.low h14; have oz10_14 := oz10_12.low h14; have ol14 : RdF w14 3 (.slice (some ⟨g29_14, 0, none⟩) 1 1) ([wB]).length ([wB].map encW).flatten := rdF_rec k14 rfl; refine l_call _ rfl rfl rfl Tryd.func11 rfl (args3 rfl ((At.hit z13 rfl).n2).ev rfl (At.hit z13.p2 rfl).ev) (ApplyR.calls mainB (x3) lA 1 (.slice (some ⟨g29_14, 0, none⟩) 1 1) ([wB]) (by decide) (H := nilB) (L := ([] : List Rf)) (E := 13) aw_ap2 _ oz3_14.rd ol14 (Gd.low hG (low13.trans h14))) ?_
 rintro _ w15 ⟨⟨x15, rfl, o15⟩, h15⟩
 replace o15 := o15.base (low13.trans h14).ge; have kg1_15 := h15.blk kg1_14; have kg5_15 := h15.blk kg5_14; have kg29_14_15 := h15.blk k14; have oz3_15 := oz3_14.low h15; have oz10_15 := oz10_14.low h15; have oL14_15 := ol14.low h15; refine l_q rfl (qm rfl (At.hit z13.p3 rfl) (l_q rfl (q_extract rfl (At.hit z13.p4 rfl).ev rfl (l_q rfl (q_extract rfl ((At.hit z13.p4 rfl).n1).ev rfl (l_alloc rfl rfl zero24 ?_)))))); intro g7 w16 hg16 k16 h16; have lt_g1_g7 := Nat.lt_of_lt_of_le (heap_lt kg1_15) hg16; have lt_g5_g7 := Nat.lt_of_lt_of_le (heap_lt kg5_15) hg16; have lt_g29_14_g7 := Nat.lt_of_lt_of_le (heap_lt kg29_14_15) hg16; have geg7 := Nat.le_trans ((low13.trans h14).trans h15).ge hg16; have kg1_16 := h16.blk kg1_15; have kg5_16 := h16.blk kg5_15; have kg29_14_16 := h16.blk kg29_14_15; have oz3_16 := oz3_15.low h16; have oz10_16 := oz10_15.low h16; have oL14_16 := oL14_15.low h16; have oz15_16 := o15.low h16; refine l_fr z13.p8 fun a17 z17 m17 => ?_
 have s1_17 := m17 s1_13.n8; have s2_17 := m17 s2_13.n8; have s3_17 := m17 s3_13.n8; have s4_17 := m17 s4_13.n8; have s5_17 := m17 s5_13.n8; have s6_17 := m17 s6_13.n8; have s7_17 := m17 (At.hit z13.p7 rfl); have s31_17 := m17 ((At.hit z13.p5 rfl).n2); have s32_17 := m17 ((At.hit z13.p6 rfl).n1); refine l_row rfl rfl rfl (sz24.trans (congrArg some rfl)) s7_17.ev s31_17.ev (one2 _ (RdF.one oz15_16.rd)) k16 rfl ?_; intro w18 k18 u18; have oz3_18 := oz3_16.upd u18 k16 rfl; have oz10_18 := oz10_16.upd u18 k16 rfl; have oz15_18 := oz15_16.upd u18 k16 rfl; have kg1_18 := u18.blk kg1_16 (by omega); have kg5_18 := u18.blk kg5_16 (by omega); have kg29_14_18 := u18.blk kg29_14_16 (by omega); refine l_q rfl (qa rfl s32_17 (l_end (e_fr z17.put fun a19 z19 m19 => ?_))); have s1_19 := m19 s1_17.n1; have s2_19 := m19 s2_17.n1; have s3_19 := m19 s3_17.n1; have s4_19 := m19 s4_17.n1; have s5_19 := m19 s5_17.n1; have s6_19 := m19 s6_17.n1; have s8_19 := m19 (At.hit z17 rfl); have low19 := ((((low13.trans h14).trans h15).trans h16).upd u18 geg7); refine e_then (c_seq (c_region ?_)); refine l_q rfl (qm rfl s2_19 (l_q rfl (q_eql true rfl (At.hit z19 rfl).ev rfl (decide_eq_true rfl) (l_q rfl (qm rfl (At.hit z19.put rfl) (l_qg (wis rfl rfl (At.hit z19.p2 rfl) rfl) (q_row rfl u_24 rfl (sz24.trans (congrArg some rfl.symm)) (s1_19.n3).ev (fun _ e => by rw [e]; exact kg1_18) (l_callg (fun v w' => v = .string (getL lA (⟨#[109, 97, 105, 110]⟩ : ByteArray)) ∧ Low w18 w') (wis rfl rfl ((At.hit z19.p2 rfl).n1) rfl) rfl rfl Tryd.func15 rfl (args2 rfl (At.hit z19.p3 rfl).ev rfl) ((Get.calls mainB (x3) lA (by decide) (⟨#[109, 97, 105, 110]⟩ : ByteArray) _ oz3_18.rd).mono fun _ _ ⟨e, k⟩ => ⟨_, e, rfl, k⟩) ?_))))))))
 rintro _ w20 ⟨rfl, h20⟩
 have kg1_20 := h20.blk kg1_18; have kg5_20 := h20.blk kg5_18; have oz3_20 := oz3_18.low h20; have oz10_20 := oz10_18.low h20; refine l_qg (wis rfl rfl ((At.hit z19.p2 rfl).n2) rfl) (q_streq true rfl (At.hit z19.p4 rfl).ev rfl (strT aw_get) ?_); refine l_q rfl (q_pick (b := true) (.bool true) rfl ((At.hit z19.p2 rfl).n3).ev (At.hit z19.p5 rfl).ev ?_); refine l_q rfl (qm rfl (At.hit z19.p6 rfl) (l_fr z19.p8 fun a21 z21 m21 => ?_)); have s1_21 := m21 s1_19.n8; have s3_21 := m21 s3_19.n8; have s4_21 := m21 s4_19.n8; have s5_21 := m21 s5_19.n8; have s6_21 := m21 s6_19.n8; have s8_21 := m21 s8_19.n8; have s40_21 := m21 (At.hit z19.p7 rfl); refine l_qg (wis rfl rfl s40_21 rfl) (qm rfl s3_21 (l_qg (wis rfl rfl (s40_21.n1) rfl) (q_len rfl rfl u_9 (At.hit z21 rfl).ev (l_qg (wis rfl rfl (s40_21.n2) rfl) (q_eql true rfl (At.hit z21.put rfl).ev rfl (decide_eq_true (by rw [aw_size]; rfl)) (l_q rfl (q_pick (b := true) (.bool true) rfl (s40_21.n3).ev (At.hit z21.p2 rfl).ev (l_q rfl (qm rfl (At.hit z21.p3 rfl) (l_qg (wis rfl rfl (At.hit z21.p4 rfl) rfl) (qm rfl (s3_21.n5) (l_qg (wis rfl rfl ((At.hit z21.p4 rfl).n1) rfl) (q_cuthi (k := 10) rfl u_9 (At.hit z21.p5 rfl).ev rfl (by rw [aw_size]; decide) (l_qg (wis rfl rfl ((At.hit z21.p4 rfl).n2) rfl) (q_streq true rfl (At.hit z21.p6 rfl).ev rfl (strT aw_head) (l_fr z21.p8 fun a22 z22 m22 => ?_)))))))))))))))); have s1_22 := m22 s1_21.n8; have s4_22 := m22 s4_21.n8; have s5_22 := m22 s5_21.n8; have s6_22 := m22 s6_21.n8; have s8_22 := m22 s8_21.n8; have s45_22 := m22 ((At.hit z21.p4 rfl).n3); have s48_22 := m22 (At.hit z21.p7 rfl); refine l_q rfl (q_pick (b := true) (.bool true) rfl s45_22.ev s48_22.ev ?_); refine l_q rfl (qm rfl (At.hit z22 rfl) (l_qg (wis rfl rfl (At.hit z22.put rfl) rfl) (qm rfl (s4_22.n2) (l_qg (wis rfl rfl ((At.hit z22.put rfl).n1) rfl) (q_eql true rfl (At.hit z22.p2 rfl).ev rfl (decide_eq_true aw_prE) (l_q rfl (q_pick (b := true) (.bool true) rfl ((At.hit z22.put rfl).n2).ev (At.hit z22.p3 rfl).ev (l_q rfl (qm rfl (At.hit z22.p4 rfl) (l_qg (wis rfl rfl (At.hit z22.p5 rfl) rfl) (q_row rfl u_24 rfl (sz24.trans (congrArg some rfl.symm)) (s1_22.n6).ev (fun _ e => by rw [e]; exact kg1_20) (l_qg (wis rfl rfl ((At.hit z22.p5 rfl).n1) rfl) (q_row rfl u_24 rfl (sz24.trans (congrArg some rfl.symm)) (s5_22.n7).ev (fun _ e => by rw [e]; exact kg5_20) (l_fr z22.p8 fun a23 z23 m23 => ?_)))))))))))))); have s1_23 := m23 s1_22.n8; have s6_23 := m23 s6_22.n8; have s8_23 := m23 s8_22.n8; have s54_23 := m23 ((At.hit z22.p5 rfl).n2); have s55_23 := m23 ((At.hit z22.p6 rfl).n1); have s56_23 := m23 (At.hit z22.p7 rfl); refine l_callg (fun v w' => v = .bool true ∧ Low w20 w') (wis rfl rfl s54_23 rfl) rfl rfl Tryd.func22 rfl (args2 rfl s55_23.ev s56_23.ev) (((calls_bool (Same.calls mainB mainB (x3) (x10) lA lA (by decide) (by decide) _ oz3_20.rd oz10_20.rd) (by kernel_rfl))).mono fun _ _ ⟨e, k⟩ => ⟨_, e, rfl, k⟩) ?_
 rintro _ w24 ⟨rfl, h24⟩
 have kg1_24 := h24.blk kg1_20; have kg5_24 := h24.blk kg5_20; have oz3_24 := oz3_20.low h24; have oz10_24 := oz10_20.low h24; refine l_q rfl (q_pick (b := true) (.bool true) rfl (s54_23.n1).ev (At.hit z23 rfl).ev ?_); refine l_q rfl (qm rfl (At.hit z23.put rfl) (l_qg (wis rfl rfl (At.hit z23.p2 rfl) rfl) (qm rfl (s6_23.n3) (l_qg (wis rfl rfl ((At.hit z23.p2 rfl).n1) rfl) (q_eql true rfl (At.hit z23.p3 rfl).ev rfl (decide_eq_true rfl) (l_q rfl (q_pick (b := true) (.bool true) rfl ((At.hit z23.p2 rfl).n2).ev (At.hit z23.p4 rfl).ev (l_q rfl (qm rfl (At.hit z23.p5 rfl) (l_qg (wis rfl rfl (At.hit z23.p6 rfl) rfl) (qm rfl (s8_23.n7) (l_fr z23.p8 fun a25 z25 m25 => ?_)))))))))))); have s1_25 := m25 s1_23.n8; have s63_25 := m25 ((At.hit z23.p6 rfl).n1); have s64_25 := m25 (At.hit z23.p7 rfl); refine l_qg (wis rfl rfl s63_25 rfl) (q_eql true rfl s64_25.ev rfl (decide_eq_true rfl) ?_); refine l_q rfl (q_pick (b := true) (.bool true) rfl (s63_25.n1).ev (At.hit z25 rfl).ev ?_); refine l_q rfl (qm rfl (At.hit z25.put rfl) (l_qg (wis rfl rfl (At.hit z25.p2 rfl) rfl) (q_row rfl u_24 rfl (sz24.trans (congrArg some rfl.symm)) (s1_25.n3).ev (fun _ e => by rw [e]; exact kg1_24) (l_callg (fun v w' => v = .bool true ∧ Low w24 w') (wis rfl rfl ((At.hit z25.p2 rfl).n1) rfl) rfl rfl Tryd.func17 rfl (args2 rfl (At.hit z25.p3 rfl).ev rfl) (((calls_bool (RightS.calls mainB (x3) lA (by decide) 1 _ oz3_24.rd (Gd.low hG ((low19.trans h20).trans h24))) aw_right)).mono fun _ _ ⟨e, k⟩ => ⟨_, e, rfl, k⟩) ?_))))
 rintro _ w26 ⟨rfl, h26⟩
 have kg1_26 := h26.blk kg1_24; have kg5_26 := h26.blk kg5_24; have oz3_26 := oz3_24.low h26; have oz10_26 := oz10_24.low h26; refine l_q rfl (q_pick (b := true) (.bool true) rfl ((At.hit z25.p2 rfl).n2).ev (At.hit z25.p4 rfl).ev ?_); refine l_q rfl (qm rfl (At.hit z25.p5 rfl) (l_qg (wis rfl rfl (At.hit z25.p6 rfl) rfl) (q_row rfl u_24 rfl (sz24.trans (congrArg some rfl.symm)) (s1_25.n7).ev (fun _ e => by rw [e]; exact kg1_26) (l_fr z25.p8 fun a27 z27 m27 => ?_)))); have s1_27 := m27 s1_25.n8; have s71_27 := m27 ((At.hit z25.p6 rfl).n1); have s72_27 := m27 (At.hit z25.p7 rfl); refine l_callg (fun v w' => v = .bool false ∧ Low w26 w') (wis rfl rfl s71_27 rfl) rfl rfl Tryd.func17 rfl (args2 rfl s72_27.ev rfl) (((calls_bool (RightS.calls mainB (x3) lA (by decide) 2 _ oz3_26.rd (Gd.low hG (((low19.trans h20).trans h24).trans h26))) aw_wide)).mono fun _ _ ⟨e, k⟩ => ⟨_, e, rfl, k⟩) ?_
 rintro _ w28 ⟨rfl, h28⟩
 have kg1_28 := h28.blk kg1_26; have kg5_28 := h28.blk kg5_26; have oz3_28 := oz3_26.low h28; have oz10_28 := oz10_26.low h28; refine l_qg (wis rfl rfl (s71_27.n1) rfl) (q_not (b := false) rfl (At.hit z27 rfl).ev ?_); refine l_q rfl (q_pick (b := true) (.bool true) rfl (s71_27.n2).ev (At.hit z27.put rfl).ev ?_); refine l_q rfl (qm rfl (At.hit z27.p2 rfl) (l_qg (wis rfl rfl (At.hit z27.p3 rfl) rfl) (q_row rfl u_24 rfl (sz24.trans (congrArg some rfl.symm)) (s1_27.n4).ev (fun _ e => by rw [e]; exact kg1_28) (l_qg (wis rfl rfl ((At.hit z27.p3 rfl).n1) rfl) (q_build (ps := #[]) (cs := #[.string nilB, .slice none 0 0]) rfl (by simp) built24_0 (l_callg (fun v w' => v = .bool false ∧ Low w28 w') (wis rfl rfl ((At.hit z27.p3 rfl).n2) rfl) rfl rfl Tryd.func22 rfl (args2 rfl ((At.hit z27.p4 rfl).n1).ev (At.hit z27.p5 rfl).ev) (((calls_bool (Same.calls mainB nilB (x3) (.slice none 0 0) lA ([] : List Rf) (by decide) (by decide) _ oz3_28.rd (rdnil _)) (by kernel_rfl))).mono fun _ _ ⟨e, k⟩ => ⟨_, e, rfl, k⟩) ?_))))))
 rintro _ w29 ⟨rfl, h29⟩
 have kg1_29 := h29.blk kg1_28; have kg5_29 := h29.blk kg5_28; have oz3_29 := oz3_28.low h29; have oz10_29 := oz10_28.low h29; refine l_qg (wis rfl rfl ((At.hit z27.p3 rfl).n3) rfl) (q_not (b := false) rfl (At.hit z27.p6 rfl).ev ?_); refine l_fr z27.p8 fun a30 z30 m30 => ?_
 have s76_30 := m30 ((At.hit z27.p3 rfl).n4); have s80_30 := m30 (At.hit z27.p7 rfl); refine l_q rfl (q_pick (b := true) (.bool true) rfl s76_30.ev s80_30.ev ?_); refine l_q rfl (qa rfl (At.hit z30 rfl) (l_end (e_fr z30.p2 fun a31 z31 m31 => ?_))); have s0_31 := m31 (At.hit z30.put rfl); have low31 := (((((low19.trans h20).trans h24).trans h26).trans h28).trans h29); refine e_then (wp_ret (r_tmp rfl z31.defers s0_31 ?_)); exact ⟨rfl, low31⟩
end Go.Proofs.YtnhchnlgleokoaaDoor.Q
end
/-! Q21 -/
section
namespace Go.Proofs.YtnhchnlgleokoaaDoor.Q
open Go.RowKit
set_option linter.unusedSimpArgs false
set_option linter.unusedVariables false
section
variable {P : Program} {Q : Exit → Act → World → Prop} {a : Act} {w : World} {o : Oper} {ops : Array Oper} {rest : List Oper}
structure InvM (l : List Oper) (T : Nat → Value → World → Prop) (N : Nat) (a0 : Act) (W : World) (si da dg : Nat) (TS : TypeId) (L : Array Bool) (a : Act) (w : World) : Prop where
  fr : Fr N a
  rel : Low W w
  keep : ∀ t v, (∀ i, dstOf l i ≠ some t) → At a0 t v → At a t v
  told : ∀ i d, Has L i → dstOf l i = some d → ∃ v, At a d v ∧ T i v w
  laid : Has L si → ∃ g x, At a da (.pointer (some ⟨g, 0, none⟩)) ∧ At a dg (.agg x) ∧ W.heap.size ≤ g ∧ w.heap[g]? = some (.cells x TS)
end
end Go.Proofs.YtnhchnlgleokoaaDoor.Q
end
/-! T9 -/
section
namespace Go.Proofs.YtnhchnlgleokoaaDoor.Q
open Go.RowKit
set_option linter.unusedSimpArgs false
set_option linter.unusedVariables false
set_option maxRecDepth 1000000
end Go.Proofs.YtnhchnlgleokoaaDoor.Q
end
/-! E8 -/
section
namespace Go.Proofs.YtnhchnlgleokoaaDoor.Q
open Go.RowKit
open Go.Proofs.YtnhchnlgleokoaaDoorW.PrintWords (bytesOf bytesOf_length)
set_option linter.unusedVariables false
set_option linter.unusedSimpArgs false
set_option maxRecDepth 100000
set_option maxHeartbeats 4000000
attribute [local irreducible] wpList wpQuiet qch Code.wp Oper.quiet Act.put At Region.wanted yielded
end Go.Proofs.YtnhchnlgleokoaaDoor.Q
end
/-! T10 -/
section
namespace Go.Proofs.YtnhchnlgleokoaaDoor.Q
open Go.RowKit Go.Lib Go.Shelf Go.Proofs.YtnhchnlgleokoaaDoor.P
open Go.Proofs.YtnhchnlgleokoaaDoorW.PrintWords (Ev bt)
open Go.Proofs.YtnhchnlgleokoaaDoor.U (L hv hexB unhex bytesR ref_Bytes_ev bt_L w64n size_L Ev.succ Ev.one Ev.map)
set_option linter.unusedSimpArgs false
set_option linter.unusedVariables false
set_option maxRecDepth 100000
set_option maxHeartbeats 4000000
def okC (c : UInt8) : Bool := decide ((97 ≤ c.toNat ∧ c.toNat ≤ 122) ∨ (65 ≤ c.toNat ∧ c.toNat ≤ 90) ∨ (48 ≤ c.toNat ∧ c.toNat ≤ 57) ∨ c.toNat = 46 ∨ c.toNat = 95 ∨ c.toNat = 45 ∨ c.toNat = 47)
theorem drop_at (l : List UInt8) (i : Nat) (h : i < l.length) : l.drop i = l.getD i 0 :: l.drop (i + 1) := by
  rw [List.drop_eq_getElem_cons h, List.getD_eq_getElem?_getD, List.getElem?_eq_getElem h]; rfl
theorem tag_step (s : ByteArray) (k i : Nat) (hi : i < s.size) (hs : s.size ≤ 1099511627776) : diptychref11_TagName.l0 (k + 1) s (i : Int) = if okC ((L s).getD i 0) = true then diptychref11_TagName.l0 k s ((i + 1 : Nat) : Int) else some false := by
  simp only [diptychref11_TagName.l0]
  rw [bt_L, show wrap64 ((i : Int) + 1) = ((i + 1 : Nat) : Int) from w64n (by omega) (by omega), if_pos (by omega), if_pos (by omega)]
  generalize (L s).getD i 0 = c
  by_cases h : (97 ≤ c.toNat ∧ c.toNat ≤ 122) ∨ (65 ≤ c.toNat ∧ c.toNat ≤ 90) ∨ (48 ≤ c.toNat ∧ c.toNat ≤ 57) ∨ c.toNat = 46 ∨ c.toNat = 95 ∨ c.toNat = 45 ∨ c.toNat = 47
  · have e : okC c = true := decide_eq_true h
    rw [if_pos e]
    clear hi hs e
    repeat' split
    all_goals first | rfl | (exfalso; omega)
  · have e : ¬ okC c = true := by unfold okC; rw [decide_eq_false h]; decide
    rw [if_neg e]
    clear hi hs e
    repeat' split
    all_goals first | rfl | (exfalso; omega)
def tagB (s : ByteArray) : Bool := (L s).all okC && (decide (1 ≤ s.size) && decide (s.size ≤ 64))
theorem tag_l0 (s : ByteArray) (hs : s.size ≤ 1099511627776) : ∀ (d i : Nat), i + d = s.size → Ev (fun k => diptychref11_TagName.l0 k s (i : Int)) (((L s).drop i).all okC && (decide (1 ≤ s.size) && decide (s.size ≤ 64))) := by
  intro d
  induction d with
  | zero =>
    intro i hi
    refine Ev.one fun n => ?_
    simp only [diptychref11_TagName.l0]
    rw [if_neg (by omega), List.drop_of_length_le (by rw [← size_L]; omega)]
    by_cases c : 1 ≤ s.size
    · rw [if_pos (by omega), decide_eq_true c]
      simp only [List.all_nil, Bool.true_and, Option.some.injEq]
      by_cases e : s.size ≤ 64
      · rw [decide_eq_true e, decide_eq_true (by omega)]
      · rw [decide_eq_false e, decide_eq_false (by omega)]
    · rw [if_neg (by omega), decide_eq_false c]; rfl
  | succ d ih =>
    intro i hi
    have hL : i < (L s).length := by rw [← size_L]; omega
    rw [drop_at _ _ hL, List.all_cons]
    cases e : okC ((L s).getD i 0) with
    | true =>
      refine Ev.succ (ih (i + 1) (by omega)) fun n hn => ?_
      show diptychref11_TagName.l0 (n + 1) s (i : Int) = _
      rw [tag_step s n i (by omega) hs, if_pos e, Bool.true_and]
      exact hn
    | false =>
      refine Ev.one fun n => ?_
      show diptychref11_TagName.l0 (n + 1) s (i : Int) = _
      rw [tag_step s n i (by omega) hs, if_neg (by rw [e]; decide)]
      rfl
theorem tag_ev (s : ByteArray) (hs : s.size ≤ 1099511627776) : Ev (fun k => diptychref11_TagName.f k s) (tagB s) := tag_l0 s hs s.size 0 (by omega)
theorem unhex_hex : ∀ (n : Nat) (l : List UInt8), l.length ≤ n → l.length % 2 = 0 → (unhex l).isSome = hexB l
  | 0, l, h, h' => by
    have : l = [] := List.eq_nil_of_length_eq_zero (by omega)
    subst this; rfl
  | n + 1, [], _, h' => rfl
  | n + 1, [_], _, h' => by simp at h'
  | n + 1, a :: b :: r, h, h' => by
    simp only [List.length_cons] at h h'
    have ih := unhex_hex n r (by omega) (by omega)
    simp only [unhex, hexB, List.all_cons]
    change _ = (decide (hv a < 16) && (decide (hv b < 16) && hexB r))
    by_cases ca : hv a < 16
    · by_cases cb : hv b < 16
      · rw [if_pos ⟨ca, cb⟩, decide_eq_true ca, decide_eq_true cb, Option.isSome_map, ih]; rfl
      · rw [if_neg (fun c => cb c.2), decide_eq_false cb, decide_eq_true ca]; rfl
    · rw [if_neg (fun c => ca c.1), decide_eq_false ca]; rfl
theorem wholeR_ev (s : ByteArray) (hs : s.size ≤ 1099511627776) : Ev (fun k => diptychref20_whole.f k s) (wholeB s) := by
  refine Ev.map (ref_Bytes_ev s hs) fun n hn => ?_
  unfold diptychref20_whole.f wholeB
  rw [hn, Option.bind_some]
  by_cases h1 : s.size = 40 ∨ s.size = 64
  · have hu := unhex_hex _ (L s) (Nat.le_refl _) (by rw [← size_L]; omega)
    have hd : (decide (s.size = 40) || decide (s.size = 64)) = true := by simpa using h1
    rw [hd, Bool.true_and, ← hu]
    unfold bytesR
    cases unhex (L s) with
    | none => rfl
    | some r =>
      simp only [if_true, Option.isSome_some]
      rcases h1 with e | e
      · rw [if_pos (by omega)]
      · rw [if_neg (by omega), show (s.size : Int) = 64 from by omega]; rfl
  · have hd : (decide (s.size = 40) || decide (s.size = 64)) = false := by simpa using h1
    rw [hd, Bool.false_and, if_neg (show ¬ (s.size : Int) = 40 by omega), show ((s.size : Int) == 64) = false from beq_eq_false_iff_ne.2 (by omega)]
    split <;> rfl
def dblL : List UInt8 → Bool
  | a :: b :: r => (a == 47 && b == 47) || dblL (b :: r)
  | _ => false
theorem contains_cons (x : UInt8) (l p : List UInt8) : contains (x :: l) p = (p.isPrefixOf (x :: l) || contains l p) := by
  unfold contains
  rw [show index (x :: l) p = if p.isPrefixOf (x :: l) = true then 0 else if (index l p == -1) = true then -1 else index l p + 1 from rfl]
  cases h : p.isPrefixOf (x :: l) with
  | true => rfl
  | false =>
    have h1 := index_ge l p
    by_cases c : index l p = -1
    · rw [c]; rfl
    · rw [show (index l p == -1) = false from beq_eq_false_iff_ne.2 c]
      simp only [Bool.false_or, Bool.false_eq_true, if_false]
      rw [decide_eq_true (by omega), decide_eq_true (by omega)]
theorem comm47 (a : UInt8) : ((47 : UInt8) == a) = (a == 47) := by rw [Bool.eq_iff_iff, beq_iff_eq, beq_iff_eq]; exact eq_comm
theorem contains_dbl : ∀ l : List UInt8, contains l [47, 47] = dblL l
  | [] => rfl
  | [a] => by
    rw [contains_cons, show contains [] [47, 47] = false from rfl, Bool.or_false]
    show ((47 : UInt8) == a && false) = false
    rw [Bool.and_false]
  | a :: b :: r => by
    rw [contains_cons, contains_dbl (b :: r)]
    show (((47 : UInt8) == a && ((47 : UInt8) == b && true)) || dblL (b :: r)) = ((a == 47 && b == 47) || dblL (b :: r))
    rw [comm47, comm47, Bool.and_true]
theorem u47 (c : UInt8) : ((c.toNat : Int) = 47) ↔ c = 47 := by
  constructor
  · intro h; exact UInt8.toNat_inj.1 (by show c.toNat = 47; omega)
  · intro h; subst h; rfl
theorem dbl_l0 (s : ByteArray) (hs : s.size ≤ 1099511627776) : ∀ (d i : Nat), i + d = s.size → 1 ≤ i → Ev (fun k => diptychref20_Right.l0 k s (i : Int)) (!dblL ((L s).drop (i - 1))) := by
  intro d
  induction d with
  | zero =>
    intro i hi h1
    refine Ev.one fun n => ?_
    simp only [diptychref20_Right.l0]
    rw [if_neg (by omega)]
    have hl : ((L s).drop (i - 1)).length ≤ 1 := by rw [List.length_drop, ← size_L]; omega
    match (L s).drop (i - 1), hl with
    | [], _ => rfl
    | [_], _ => rfl
  | succ d ih =>
    intro i hi h1
    have hL : i < (L s).length := by rw [← size_L]; omega
    obtain ⟨j, rfl⟩ : ∃ j, i = j + 1 := ⟨i - 1, by omega⟩
    rw [Nat.add_sub_cancel, drop_at _ j (by omega), drop_at _ (j + 1) hL]
    have w1 : wrap64 (((j + 1 : Nat) : Int) - 1) = (j : Int) := w64n (by omega) (by omega)
    have w2 : wrap64 (((j + 1 : Nat) : Int) + 1) = ((j + 2 : Nat) : Int) := w64n (by omega) (by omega)
    have ih' := ih (j + 2) (by omega) (by omega)
    rw [show j + 2 - 1 = j + 1 from by omega, drop_at _ (j + 1) hL] at ih'
    by_cases c1 : (L s).getD (j + 1) 0 = 47
    · by_cases c2 : (L s).getD j 0 = 47
      · refine Ev.one fun n => ?_
        simp only [diptychref20_Right.l0]
        rw [w1, bt_L, bt_L, if_pos (by omega), if_pos (by omega), if_pos ((u47 _).2 c1), if_pos (by omega), if_pos (by omega), if_pos ((u47 _).2 c2), c1, c2]
        rfl
      · have e : ∀ r, dblL ((L s).getD j 0 :: (L s).getD (j + 1) 0 :: r) = dblL ((L s).getD (j + 1) 0 :: r) := fun r => by
          show (((L s).getD j 0 == 47 && (L s).getD (j + 1) 0 == 47) || _) = _
          rw [show ((L s).getD j 0 == 47) = false from beq_eq_false_iff_ne.2 c2]; rfl
        rw [e]
        refine Ev.succ ih' fun n hn => ?_
        simp only [diptychref20_Right.l0]
        rw [w1, w2, bt_L, bt_L, if_pos (by omega), if_pos (by omega), if_pos ((u47 _).2 c1), if_pos (by omega), if_pos (by omega), if_neg (fun h => c2 ((u47 _).1 h))]
        exact hn
    · have e : ∀ r, dblL ((L s).getD j 0 :: (L s).getD (j + 1) 0 :: r) = dblL ((L s).getD (j + 1) 0 :: r) := fun r => by
        show (((L s).getD j 0 == 47 && (L s).getD (j + 1) 0 == 47) || _) = _
        rw [show ((L s).getD (j + 1) 0 == 47) = false from beq_eq_false_iff_ne.2 c1, Bool.and_false]; rfl
      rw [e]
      refine Ev.succ ih' fun n hn => ?_
      simp only [diptychref20_Right.l0]
      rw [w2, bt_L, if_pos (by omega), if_pos (by omega), if_neg (fun h => c1 ((u47 _).1 h))]
      exact hn
theorem allowed_okC (c : UInt8) : allowed.data.toList.contains c = okC c := by
  have : ∀ n : Fin 256, allowed.data.toList.contains (UInt8.ofNat n.1) = okC (UInt8.ofNat n.1) := by decide +kernel
  have h := this ⟨c.toNat, UInt8.toNat_lt c⟩
  simpa using h
theorem trim_nil (s : ByteArray) : trimA s = nilB ↔ (L s).all okC = true := by
  have h1 : trimA s = nilB ↔ trimS s.data.toList allowed.data.toList = [] := by
    constructor
    · intro h
      have := congrArg (fun b : ByteArray => b.data.toList) h
      simpa [trimA, nilB] using this
    · intro h; unfold trimA; rw [h]
  rw [h1]
  rw [U.trim_nil]
  rw [show (fun c => allowed.data.toList.contains c) = okC from funext allowed_okC]
theorem pref_head (s : ByteArray) (h : 1 ≤ s.size) : prefS s = decide ((L s).getD 0 0 = 47) := by
  unfold prefS hasPrefix
  have hl : 1 ≤ s.data.toList.length := Nat.le_trans h (Nat.le_of_eq (size_L s))
  change _ = decide (s.data.toList.getD 0 0 = 47)
  match s.data.toList, hl with
  | c :: r, _ =>
    show ((47 : UInt8) == c && true) = _
    rw [Bool.and_true, comm47]; rfl
theorem suf_last (s : ByteArray) (h : 1 ≤ s.size) : sufS s = decide ((L s).getD (s.size - 1) 0 = 47) := by
  unfold sufS hasSuffix
  have hl : s.data.toList.length = s.size := (size_L s).symm
  change _ = decide (s.data.toList.getD (s.size - 1) 0 = 47)
  rw [← hl]
  rcases List.eq_nil_or_concat s.data.toList with e | ⟨r, c, e⟩
  · rw [e] at hl; simp at hl; omega
  · rw [List.concat_eq_append] at e
    rw [e]
    show ([47] : List UInt8).reverse.isPrefixOf (r ++ [c]).reverse = _
    rw [List.reverse_append]
    have e2 : (r ++ [c]).getD ((r ++ [c]).length - 1) 0 = c := by simp [List.getD_eq_getElem?_getD]
    rw [e2]
    show ((47 : UInt8) == c && true) = _
    rw [Bool.and_true, comm47]; rfl
theorem rightN_eq (s : ByteArray) : rightN s = (tagB s && (!wholeB s && (!decide ((L s).getD 0 0 = 47) && (!decide ((L s).getD (s.size - 1) 0 = 47) && !dblL (L s))))) := by
  unfold rightN
  by_cases h0 : s = nilB
  · rw [if_pos h0, h0]; rfl
  · have hs : 1 ≤ s.size := by
      rcases Nat.eq_zero_or_pos s.size with c | c
      · exact absurd (U.ext_L (List.eq_nil_of_length_eq_zero (by rw [← size_L]; exact c))) h0
      · exact c
    rw [if_neg h0]
    unfold tagB
    rw [decide_eq_true hs, Bool.true_and]
    by_cases h1 : 64 < s.size
    · rw [if_pos h1, decide_eq_false (by omega), Bool.and_false]; rfl
    · rw [if_neg h1, decide_eq_true (by omega), Bool.and_true]
      by_cases h2 : trimA s = nilB
      · rw [if_neg (fun c => c h2), (trim_nil s).1 h2, Bool.true_and, pref_head s hs, suf_last s hs, show dblS s = dblL (L s) from contains_dbl _]
        cases wholeB s <;> cases decide ((L s).getD 0 0 = 47) <;> cases decide ((L s).getD (s.size - 1) 0 = 47) <;> cases dblL (L s) <;> rfl
      · rw [if_pos h2, show (L s).all okC = false from by
          cases c : (L s).all okC with
          | true => exact absurd ((trim_nil s).2 c) h2
          | false => rfl]
        rfl
theorem rightR_ev (s : ByteArray) (hs : s.size ≤ 1099511627776) : Ev (fun k => diptychref20_Right.f k s) (rightN s) := by
  rw [rightN_eq]
  obtain ⟨K1, h1⟩ := tag_ev s hs
  obtain ⟨K2, h2⟩ := wholeR_ev s hs
  cases ht : tagB s with
  | false =>
    refine ⟨K1 + 1, fun n hn => ?_⟩
    obtain ⟨m, rfl⟩ : ∃ m, n = m + 1 := ⟨n - 1, by omega⟩
    show diptychref20_Right.f (m + 1) s = _
    unfold diptychref20_Right.f
    rw [show diptychref11_TagName.f (m + 1) s = some false from (h1 (m + 1) (by omega)).trans (by rw [ht]), Option.bind_some, if_neg (by decide)]
    simp only [diptychref20_Right.j0, if_true]
    rfl
  | true =>
    have hsz : 1 ≤ s.size ∧ s.size ≤ 64 := by
      unfold tagB at ht
      rw [Bool.and_eq_true, Bool.and_eq_true, decide_eq_true_iff, decide_eq_true_iff] at ht
      exact ht.2
    obtain ⟨K3, h3⟩ := dbl_l0 s hs (s.size - 1) 1 (by omega) (Nat.le_refl _)
    refine ⟨K1 + K2 + K3 + 1, fun n hn => ?_⟩
    obtain ⟨m, rfl⟩ : ∃ m, n = m + 1 := ⟨n - 1, by omega⟩
    show diptychref20_Right.f (m + 1) s = _
    unfold diptychref20_Right.f
    rw [show diptychref11_TagName.f (m + 1) s = some true from (h1 (m + 1) (by omega)).trans (by rw [ht]), Option.bind_some, if_pos rfl, show diptychref20_whole.f (m + 1) s = some (wholeB s) from h2 _ (by omega), Option.bind_some,
      show wrap64 ((s.size : Int) - 1) = ((s.size - 1 : Nat) : Int) from w64n (by omega) (by omega), bt_L, show bt s 0 = (((L s).getD 0 0).toNat : Int) from bt_L s 0, Bool.true_and]
    cases wholeB s with
    | true =>
      rw [if_pos rfl]
      simp only [diptychref20_Right.j0, if_true]
      rfl
    | false =>
      rw [if_neg (by decide), if_pos (by omega), Bool.not_false, Bool.true_and]
      by_cases c1 : (L s).getD 0 0 = 47
      · rw [if_pos ((u47 _).2 c1), decide_eq_true c1]
        simp only [diptychref20_Right.j0, if_true]
        rfl
      · rw [if_neg (fun h => c1 ((u47 _).1 h)), decide_eq_false c1, if_pos (by omega), if_pos (by omega), Bool.not_false, Bool.true_and]
        by_cases c2 : (L s).getD (s.size - 1) 0 = 47
        · rw [show ((((L s).getD (s.size - 1) 0).toNat : Int) == 47) = true from beq_iff_eq.2 ((u47 _).2 c2), decide_eq_true c2]
          simp only [diptychref20_Right.j0, if_true]
          rfl
        · rw [show ((((L s).getD (s.size - 1) 0).toNat : Int) == 47) = false from beq_eq_false_iff_ne.2 (fun h => c2 ((u47 _).1 h)), decide_eq_false c2, Bool.not_false, Bool.true_and]
          simp only [diptychref20_Right.j0, Bool.false_eq_true, if_false]
          exact h3 m (by omega)
theorem NameR.calls (s : ByteArray) (hs : s.size ≤ 1099511627776) (w0 : World) : Calls Tryd.prog 23 #[.string s] w0 fun e w' => e = .returned (.bool (rightN s)) ∧ Low w0 w' := by
  obtain ⟨k, h⟩ := rightR_ev s hs
  exact diptychref20_Right.calls k s _ w0 (h k (Nat.le_refl _))
end Go.Proofs.YtnhchnlgleokoaaDoor.Q
end
/-! T11 -/
section
namespace Go.Proofs.YtnhchnlgleokoaaDoor.Q
open Go.RowKit
set_option linter.unusedSimpArgs false
set_option linter.unusedVariables false
theorem take_nx {α : Type} (l : List α) (k : Nat) (d : α) (h : k < l.length) : l.take k ++ [l.getD k d] = l.take (k + 1) := by
  rw [List.getD_eq_getElem?_getD, List.getElem?_eq_getElem h, List.take_add_one, List.getElem?_eq_getElem h]; rfl
def rrN (l : List Rf) (sz : Int) : Nat := if rgN l sz < l.length then rgN l sz + 1 else l.length
theorem rrN_spec (l : List Rf) (sz : Int) : (rgN l sz < l.length ∧ rrN l sz = rgN l sz + 1) ∨ (rgN l sz = l.length ∧ rrN l sz = l.length) := by
  have := rgN_le l sz
  unfold rrN
  by_cases c : rgN l sz < l.length
  · rw [if_pos c]; exact .inl ⟨c, rfl⟩
  · rw [if_neg c]; exact .inr ⟨by omega, rfl⟩
theorem rg_more {l : List Rf} {sz : Int} {k : Nat} (h : k ≤ rgN l sz) (hk : k < l.length) (h1 : rightN (l.getD k zP).f0 = true) (h2 : ((l.getD k zP).f1.size : Int) = sz) (h3 : 0 < k → lessB (l.getD (k - 1) zP).f0 (l.getD k zP).f0 = true) : k + 1 ≤ rgN l sz := by
  rcases Nat.eq_or_lt_of_le h with e | e
  · exact absurd (show rgOk l sz (rgN l sz) from e ▸ ⟨h1, h2, h3⟩) (rgN_stop (e ▸ hk))
  · exact e
theorem rg_no1 {l : List Rf} {sz : Int} {k : Nat} (h : ¬ rightN (l.getD k zP).f0 = true) : ¬ k + 1 ≤ rgN l sz := fun c => h (rgN_round c).1
theorem rg_no2 {l : List Rf} {sz : Int} {k : Nat} (h : ¬ ((l.getD k zP).f1.size : Int) = sz) : ¬ k + 1 ≤ rgN l sz := fun c => h (rgN_round c).2.1
theorem rg_no3 {l : List Rf} {sz : Int} {k : Nat} (h0 : ¬ k = 0) (h : ¬ lessB (l.getD (k - 1) zP).f0 (l.getD k zP).f0 = true) : ¬ k + 1 ≤ rgN l sz := fun c => h ((rgN_round c).2.2 (Nat.pos_of_ne_zero h0))
theorem nsize_ne {sp : Int} (h1 : sp ≥ 1) (h2 : sp ≤ 2) : ¬ nsize sp = 0 := by
  unfold nsize
  rcases (show sp = 1 ∨ sp = 2 by omega) with rfl | rfl
  · decide
  · decide
theorem nsize_0 {sp : Int} (h : ¬ sp ≥ 1 ∨ ¬ sp ≤ 2) : nsize sp = 0 := by
  unfold nsize
  rw [if_neg (by omega), if_neg (by omega)]
theorem rr_space {hd : ByteArray} {l : List Rf} {sp : Int} (h : ¬ sp ≥ 1 ∨ ¬ sp ≤ 2) : rightS hd l sp = false := rs_1 (nsize_0 h)
theorem rr_end {hd : ByteArray} {l : List Rf} {sp : Int} (h1 : sp ≥ 1) (h2 : sp ≤ 2) (h3 : hd = nilB ∨ rightN hd = true) (h4 : l.length ≤ 1024) {b : Bool} (h5 : decide (rrN l (nsize sp) ≤ rgN l (nsize sp)) = b) : b = rightS hd l sp := by
  have hs := rrN_spec l (nsize sp)
  cases b with
  | true =>
    have := of_decide_eq_true h5
    exact (rs_5 (nsize_ne h1 h2) (fun c => h3.resolve_left c) (by omega) (by omega)).symm
  | false =>
    have := of_decide_eq_false h5
    exact (rs_4 (by omega)).symm
end Go.Proofs.YtnhchnlgleokoaaDoor.Q
end
