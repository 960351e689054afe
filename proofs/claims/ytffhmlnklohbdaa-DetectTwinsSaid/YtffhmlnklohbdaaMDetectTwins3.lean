/- Merged out of this session's texts by a program (wip/gen/merge.py): declarations that this claim doesn't name are left out. -/
import Derived.Test.YtffhmlnklohbdaaMDetectTwins2
import Derived.Shelf.Strings.Repeat
set_option linter.unusedVariables false
set_option linter.unusedSimpArgs false
/-! A3 -/
section
namespace Go.Proofs.Ytffhmlnklohbdaa.Q
open Go.RowKit Go.Proofs.Ytffhmlnklohbdaa.P
set_option linter.unusedVariables false
set_option linter.unusedSimpArgs false
set_option maxRecDepth 100000
set_option maxHeartbeats 4000000
attribute [local irreducible] wpList wpQuiet qch Code.wp Oper.quiet Act.put At Region.wanted yielded
theorem DR_1.calls (K B : Nat) (hK : K ≤ 64) (hB : B ≤ 31) (w0 : World) : Calls Try.prog 10 #[.agg #[.int .i64 1, .int .i64 (K : Int), .int .i64 (B : Int)]] w0 fun e w' => e = .returned (.agg (nums .u32 (diffR (rowR false K B) 80))) ∧ Low w0 w' := by
  refine c_fun (R := _) Try.func10 rfl 164 rfl (Nat.le_of_ble_eq_true rfl) ?_
  intro a z hA
  have s0 := hA 0 _ rfl
  clear hA
  refine c_seq ?_
  refine c_region ?_
  refine l_box rfl rfl s0.ev ?_
  intro g1 w1 hg1 k1 h1
  have geg1 := Nat.le_trans (Low.refl _).ge hg1
  refine l_alloc rfl rfl zero31 ?_
  intro g2 w2 hg2 k2 h2
  have lt_g1_g2 := Nat.lt_of_lt_of_le (heap_lt k1) hg2
  have geg2 := Nat.le_trans h1.ge hg2
  have kg1_2 := h2.blk k1
  refine l_end ?_
  refine e_fresh z.put.put ?_
  intro a3 z3 m3
  have s1_3 := m3 _ _ ((At.hit z rfl).ne rfl)
  have s2_3 := m3 _ _ (At.hit z.put rfl)
  have low3 := (h1.trans h2)
  clear m3
  refine e_then ?_
  refine c_seq ?_
  refine c_region ?_
  refine l_alloc rfl rfl zero31 ?_
  intro g3 w4 hg4 k4 h4
  have lt_g1_g3 := Nat.lt_of_lt_of_le (heap_lt kg1_2) hg4
  have lt_g2_g3 := Nat.lt_of_lt_of_le (heap_lt k2) hg4
  have geg3 := Nat.le_trans low3.ge hg4
  have kg1_4 := h4.blk kg1_2
  have kg2_4 := h4.blk k2
  refine l_end ?_
  refine e_fresh z3.put ?_
  intro a5 z5 m5
  have s1_5 := m5 _ _ (s1_3.ne rfl)
  have s2_5 := m5 _ _ (s2_3.ne rfl)
  have s3_5 := m5 _ _ (At.hit z3 rfl)
  have low5 := (low3.trans h4)
  clear m5
  refine e_then ?_
  refine c_seq ?_
  refine c_seq ?_
  refine c_region ?_
  refine l_q rfl (q_fld 0 rfl (by kernel_rfl) s1_5.ev ?_)
  refine l_q rfl (q_cell (.int .i64 1) rfl Try.underlying3 (At.hit z5 rfl).ev (fun _ e => by rw [e]; exact (cells_at kg1_4 0).trans rfl) ?_)
  refine l_q rfl (q_neq false rfl (At.hit z5.put rfl).ev rfl (decide_eq_false (by omega)) ?_)
  refine l_q rfl (q_move _ _ rfl (At.hit z5.put.put rfl).ev ?_)
  refine l_skip (wanted_is (j := 3) (d := 12) (b := false) rfl rfl (At.hit z5.put.put.put rfl) rfl) ?_
  refine l_skip (wanted_is (j := 3) (d := 12) (b := false) rfl rfl ((At.hit z5.put.put.put rfl).ne rfl) rfl) ?_
  refine l_skip (wanted_is (j := 3) (d := 12) (b := false) rfl rfl (((At.hit z5.put.put.put rfl).ne rfl).ne rfl) rfl) ?_
  refine l_q rfl (q_pick (b := false) (.bool false) rfl ((((At.hit z5.put.put.put rfl).ne rfl).ne rfl).ne rfl).ev rfl ?_)
  refine l_fresh z5.put.put.put.put.put.put.put.put ?_
  intro a6 z6 m6
  have s1_6 := m6 _ _ ((((((((s1_5.ne rfl).ne rfl).ne rfl).ne rfl).ne rfl).ne rfl).ne rfl).ne rfl)
  have s2_6 := m6 _ _ ((((((((s2_5.ne rfl).ne rfl).ne rfl).ne rfl).ne rfl).ne rfl).ne rfl).ne rfl)
  have s3_6 := m6 _ _ ((((((((s3_5.ne rfl).ne rfl).ne rfl).ne rfl).ne rfl).ne rfl).ne rfl).ne rfl)
  have s16_6 := m6 _ _ (At.hit z5.put.put.put.put.put.put.put rfl)
  clear m6
  refine l_q rfl (q_move _ _ rfl s16_6.ev ?_)
  refine l_qg (wanted_is (j := 8) (d := 17) (b := false) rfl rfl (At.hit z6 rfl) rfl) (q_fld 1 rfl (by kernel_rfl) (s1_6.ne rfl).ev ?_)
  refine l_qg (wanted_is (j := 8) (d := 17) (b := false) rfl rfl ((At.hit z6 rfl).ne rfl) rfl) (q_cell (.int .i64 ((K : Nat) : Int)) rfl Try.underlying3 (At.hit z6.put rfl).ev (fun _ e => by rw [e]; exact (cells_at kg1_4 1).trans rfl) ?_)
  refine l_qg (wanted_is (j := 8) (d := 17) (b := false) rfl rfl (((At.hit z6 rfl).ne rfl).ne rfl) rfl) (q_lss false rfl (At.hit z6.put.put rfl).ev rfl (decide_eq_false (by omega)) ?_)
  refine l_q rfl (q_pick (b := false) (.bool false) rfl ((((At.hit z6 rfl).ne rfl).ne rfl).ne rfl).ev (At.hit z6.put.put.put rfl).ev ?_)
  refine l_q rfl (q_move _ _ rfl (At.hit z6.put.put.put.put rfl).ev ?_)
  refine l_qg (wanted_is (j := 13) (d := 22) (b := false) rfl rfl (At.hit z6.put.put.put.put.put rfl) rfl) (q_fld 1 rfl (by kernel_rfl) ((((((s1_6.ne rfl).ne rfl).ne rfl).ne rfl).ne rfl).ne rfl).ev ?_)
  refine l_qg (wanted_is (j := 13) (d := 22) (b := false) rfl rfl ((At.hit z6.put.put.put.put.put rfl).ne rfl) rfl) (q_cell (.int .i64 ((K : Nat) : Int)) rfl Try.underlying3 (At.hit z6.put.put.put.put.put.put rfl).ev (fun _ e => by rw [e]; exact (cells_at kg1_4 1).trans rfl) ?_)
  refine l_fresh z6.put.put.put.put.put.put.put.put ?_
  intro a7 z7 m7
  have s1_7 := m7 _ _ ((((((((s1_6.ne rfl).ne rfl).ne rfl).ne rfl).ne rfl).ne rfl).ne rfl).ne rfl)
  have s2_7 := m7 _ _ ((((((((s2_6.ne rfl).ne rfl).ne rfl).ne rfl).ne rfl).ne rfl).ne rfl).ne rfl)
  have s3_7 := m7 _ _ ((((((((s3_6.ne rfl).ne rfl).ne rfl).ne rfl).ne rfl).ne rfl).ne rfl).ne rfl)
  have s22_7 := m7 _ _ (((At.hit z6.put.put.put.put.put rfl).ne rfl).ne rfl)
  have s24_7 := m7 _ _ (At.hit z6.put.put.put.put.put.put.put rfl)
  clear m7
  refine l_qg (wanted_is (j := 13) (d := 22) (b := false) rfl rfl s22_7 rfl) (q_gtr false rfl s24_7.ev rfl (decide_eq_false (by omega)) ?_)
  refine l_q rfl (q_pick (b := false) (.bool false) rfl (s22_7.ne rfl).ev (At.hit z7 rfl).ev ?_)
  refine l_q rfl (q_move _ _ rfl (At.hit z7.put rfl).ev ?_)
  refine l_qg (wanted_is (j := 18) (d := 27) (b := false) rfl rfl (At.hit z7.put.put rfl) rfl) (q_fld 2 rfl (by kernel_rfl) (((s1_7.ne rfl).ne rfl).ne rfl).ev ?_)
  refine l_qg (wanted_is (j := 18) (d := 27) (b := false) rfl rfl ((At.hit z7.put.put rfl).ne rfl) rfl) (q_cell (.int .i64 ((B : Nat) : Int)) rfl Try.underlying3 (At.hit z7.put.put.put rfl).ev (fun _ e => by rw [e]; exact (cells_at kg1_4 2).trans rfl) ?_)
  refine l_qg (wanted_is (j := 18) (d := 27) (b := false) rfl rfl (((At.hit z7.put.put rfl).ne rfl).ne rfl) rfl) (q_lss false rfl (At.hit z7.put.put.put.put rfl).ev rfl (decide_eq_false (by omega)) ?_)
  refine l_q rfl (q_pick (b := false) (.bool false) rfl ((((At.hit z7.put.put rfl).ne rfl).ne rfl).ne rfl).ev (At.hit z7.put.put.put.put.put rfl).ev ?_)
  refine l_q rfl (q_move _ _ rfl (At.hit z7.put.put.put.put.put.put rfl).ev ?_)
  refine l_fresh z7.put.put.put.put.put.put.put.put ?_
  intro a8 z8 m8
  have s1_8 := m8 _ _ ((((((((s1_7.ne rfl).ne rfl).ne rfl).ne rfl).ne rfl).ne rfl).ne rfl).ne rfl)
  have s2_8 := m8 _ _ ((((((((s2_7.ne rfl).ne rfl).ne rfl).ne rfl).ne rfl).ne rfl).ne rfl).ne rfl)
  have s3_8 := m8 _ _ ((((((((s3_7.ne rfl).ne rfl).ne rfl).ne rfl).ne rfl).ne rfl).ne rfl).ne rfl)
  have s32_8 := m8 _ _ (At.hit z7.put.put.put.put.put.put.put rfl)
  clear m8
  refine l_qg (wanted_is (j := 23) (d := 32) (b := false) rfl rfl s32_8 rfl) (q_fld 2 rfl (by kernel_rfl) s1_8.ev ?_)
  refine l_qg (wanted_is (j := 23) (d := 32) (b := false) rfl rfl (s32_8.ne rfl) rfl) (q_cell (.int .i64 ((B : Nat) : Int)) rfl Try.underlying3 (At.hit z8 rfl).ev (fun _ e => by rw [e]; exact (cells_at kg1_4 2).trans rfl) ?_)
  refine l_qg (wanted_is (j := 23) (d := 32) (b := false) rfl rfl ((s32_8.ne rfl).ne rfl) rfl) (q_gtr false rfl (At.hit z8.put rfl).ev rfl (decide_eq_false (by omega)) ?_)
  refine l_q rfl (q_pick (b := false) (.bool false) rfl (((s32_8.ne rfl).ne rfl).ne rfl).ev (At.hit z8.put.put rfl).ev ?_)
  refine l_end ?_
  refine e_fresh z8.put.put.put.put ?_
  intro a9 z9 m9
  have s1_9 := m9 _ _ ((((s1_8.ne rfl).ne rfl).ne rfl).ne rfl)
  have s2_9 := m9 _ _ ((((s2_8.ne rfl).ne rfl).ne rfl).ne rfl)
  have s3_9 := m9 _ _ ((((s3_8.ne rfl).ne rfl).ne rfl).ne rfl)
  have s36_9 := m9 _ _ (At.hit z8.put.put.put rfl)
  clear m9
  refine e_then ?_
  refine c_false s36_9 ?_
  refine wp_skip ?_
  refine e_then ?_
  refine c_seq ?_
  refine c_region ?_
  refine l_alloc rfl rfl zero48 ?_
  intro g4 w10 hg10 k10 h10
  have lt_g1_g4 := Nat.lt_of_lt_of_le (heap_lt kg1_4) hg10
  have lt_g2_g4 := Nat.lt_of_lt_of_le (heap_lt kg2_4) hg10
  have lt_g3_g4 := Nat.lt_of_lt_of_le (heap_lt k4) hg10
  have geg4 := Nat.le_trans low5.ge hg10
  have kg1_10 := h10.blk kg1_4
  have kg2_10 := h10.blk kg2_4
  have kg3_10 := h10.blk k4
  refine l_end ?_
  refine e_fresh z9.put ?_
  intro a11 z11 m11
  have s1_11 := m11 _ _ (s1_9.ne rfl)
  have s2_11 := m11 _ _ (s2_9.ne rfl)
  have s3_11 := m11 _ _ (s3_9.ne rfl)
  have s4_11 := m11 _ _ (At.hit z9 rfl)
  have low11 := (low5.trans h10)
  clear m11
  refine e_then ?_
  refine c_seq ?_
  refine c_region ?_
  refine l_q rfl (q_fld 1 rfl (by kernel_rfl) s1_11.ev ?_)
  refine l_q rfl (q_cell (.int .i64 ((K : Nat) : Int)) rfl Try.underlying3 (At.hit z11 rfl).ev (fun _ e => by rw [e]; exact (cells_at kg1_10 1).trans rfl) ?_)
  refine l_q rfl (q_add (((K + 5 : Nat) : Int)) rfl (At.hit z11.put rfl).ev rfl (i64_is (by omega) (by omega) (by omega)) ?_)
  refine l_q rfl (q_assign _ _ rfl (At.hit z11.put.put rfl).ev ?_)
  refine l_end ?_
  refine e_fresh z11.put.put.put.put ?_
  intro a12 z12 m12
  have s1_12 := m12 _ _ ((((s1_11.ne rfl).ne rfl).ne rfl).ne rfl)
  have s2_12 := m12 _ _ ((((s2_11.ne rfl).ne rfl).ne rfl).ne rfl)
  have s3_12 := m12 _ _ ((((s3_11.ne rfl).ne rfl).ne rfl).ne rfl)
  have s4_12 := m12 _ _ ((((s4_11.ne rfl).ne rfl).ne rfl).ne rfl)
  have s5_12 := m12 _ _ (At.hit z11.put.put.put rfl)
  clear m12
  refine e_then ?_
  refine c_seq ?_
  refine c_region ?_
  refine l_q rfl (q_move _ _ rfl s5_12.ev ?_)
  refine l_q rfl (q_add (((K + 20 : Nat) : Int)) rfl (At.hit z12 rfl).ev rfl (i64_is (by omega) (by omega) (by omega)) ?_)
  refine l_q rfl (q_fld 2 rfl (by kernel_rfl) ((s1_12.ne rfl).ne rfl).ev ?_)
  refine l_q rfl (q_cell (.int .i64 ((B : Nat) : Int)) rfl Try.underlying3 (At.hit z12.put.put rfl).ev (fun _ e => by rw [e]; exact (cells_at kg1_10 2).trans rfl) ?_)
  refine l_q rfl (q_conv _ rfl (At.hit z12.put.put.put rfl).ev Try.underlying3 Try.underlying51 rfl ?_)
  refine l_q rfl (q_shl (IntKind.u32.wrap (1 * 2 ^ min (IntKind.u64.wrap ((B : Nat) : Int) : Int).toNat 32)) rfl rfl (At.hit z12.put.put.put.put rfl).ev (by first | omega | exact u64_nonneg _) rfl ?_)
  refine l_q rfl (q_idx (j := K + 20) rfl Try.underlying48 sz30 ((((((s4_12.ne rfl).ne rfl).ne rfl).ne rfl).ne rfl).ne rfl).ev (((((At.hit z12.put rfl).ne rfl).ne rfl).ne rfl).ne rfl).ev (by omega) ?_)
  refine l_cell (j := (K + 20)) (v := .int .u32 (IntKind.u32.wrap (1 * 2 ^ min (IntKind.u64.wrap ((B : Nat) : Int) : Int).toNat 32))) rfl rfl rfl sz30 (At.hit z12.put.put.put.put.put.put rfl).ev ((At.hit z12.put.put.put.put.put rfl).ne rfl).ev rfl k10 (by rw [(nums_size _ _).trans (List.length_replicate)]; omega) ?_
  intro w13 k13 u13
  rw [nums_put] at k13
  have kg1_13 := u13.blk kg1_10 (by omega)
  have kg2_13 := u13.blk kg2_10 (by omega)
  have kg3_13 := u13.blk kg3_10 (by omega)
  refine l_end ?_
  refine e_fresh z12.put.put.put.put.put.put.put ?_
  intro a14 z14 m14
  have s1_14 := m14 _ _ (((((((s1_12.ne rfl).ne rfl).ne rfl).ne rfl).ne rfl).ne rfl).ne rfl)
  have s2_14 := m14 _ _ (((((((s2_12.ne rfl).ne rfl).ne rfl).ne rfl).ne rfl).ne rfl).ne rfl)
  have s3_14 := m14 _ _ (((((((s3_12.ne rfl).ne rfl).ne rfl).ne rfl).ne rfl).ne rfl).ne rfl)
  have s4_14 := m14 _ _ (((((((s4_12.ne rfl).ne rfl).ne rfl).ne rfl).ne rfl).ne rfl).ne rfl)
  have s5_14 := m14 _ _ (((((((s5_12.ne rfl).ne rfl).ne rfl).ne rfl).ne rfl).ne rfl).ne rfl)
  have low14 := (low11.upd u13 geg4)
  clear m14
  refine e_then ?_
  refine c_seq ?_
  refine c_seq ?_
  refine c_region ?_
  refine l_q rfl (q_fld 0 rfl (by kernel_rfl) s1_14.ev ?_)
  refine l_q rfl (q_cell (.int .i64 1) rfl Try.underlying3 (At.hit z14 rfl).ev (fun _ e => by rw [e]; exact (cells_at kg1_13 0).trans rfl) ?_)
  refine l_q rfl (q_eql false rfl (At.hit z14.put rfl).ev rfl (decide_eq_false (by omega)) ?_)
  refine l_end ?_
  refine e_fresh z14.put.put.put ?_
  intro a15 z15 m15
  have s1_15 := m15 _ _ (((s1_14.ne rfl).ne rfl).ne rfl)
  have s2_15 := m15 _ _ (((s2_14.ne rfl).ne rfl).ne rfl)
  have s3_15 := m15 _ _ (((s3_14.ne rfl).ne rfl).ne rfl)
  have s4_15 := m15 _ _ (((s4_14.ne rfl).ne rfl).ne rfl)
  have s5_15 := m15 _ _ (((s5_14.ne rfl).ne rfl).ne rfl)
  have s50_15 := m15 _ _ (At.hit z14.put.put rfl)
  clear m15
  refine e_then ?_
  refine c_false s50_15 ?_
  refine wp_skip ?_
  refine e_then ?_
  refine c_seq ?_
  refine c_seq ?_
  refine c_region ?_
  refine l_q rfl (q_move _ _ rfl s5_15.ev ?_)
  refine l_q rfl (q_add (((K + 21 : Nat) : Int)) rfl (At.hit z15 rfl).ev rfl (i64_is (by omega) (by omega) (by omega)) ?_)
  refine l_q rfl (q_assign _ _ rfl (At.hit z15.put rfl).ev ?_)
  refine l_end ?_
  refine e_fresh z15.put.put.put ?_
  intro a16 z16 m16
  have s2_16 := m16 _ _ (((s2_15.ne rfl).ne rfl).ne rfl)
  have s3_16 := m16 _ _ (((s3_15.ne rfl).ne rfl).ne rfl)
  have s4_16 := m16 _ _ (((s4_15.ne rfl).ne rfl).ne rfl)
  have s5_16 := m16 _ _ (((s5_15.ne rfl).ne rfl).ne rfl)
  have s6_16 := m16 _ _ (At.hit z15.put.put rfl)
  clear m16
  refine e_then ?_
  refine wp_block ?_
  refine c_loop (64 - K) (fun k a w => Fr 164 a ∧ At a 2 (.pointer (some ⟨g2, 0, none⟩)) ∧ At a 3 (.pointer (some ⟨g3, 0, none⟩)) ∧ At a 4 (.pointer (some ⟨g4, 0, none⟩)) ∧ At a 5 (.int .i64 ((K + 5 : Nat) : Int)) ∧ At a 6 (.int .i64 ((k + K + 21 : Nat) : Int)) ∧ w.heap[g2]? = some (.cells (nums .u32 (List.replicate 80 0)) 31) ∧ w.heap[g3]? = some (.cells (nums .u32 (List.replicate 80 0)) 31) ∧ w.heap[g4]? = some (.cells (nums .u32 (up (beginR false K B) K (fun x => rotr x 1) k)) 48) ∧ Low w0 w) ?_ ?_ ?_
  · exact ⟨z16, s2_16, s3_16, s4_16, s5_16, (s6_16.same (congrArg (Value.int .i64) (by omega))), kg2_13, kg3_13, k13, low14⟩
  · intro k a17 w17 hk17 h
    obtain ⟨z17, s2_17, s3_17, s4_17, s5_17, s6_17, kg2_17, kg3_17, kg4_17, low17⟩ := h
    clear k13 kg2_13 kg3_13 low14 s2_16 s3_16 s4_16 s5_16 s6_16 z16
    refine c_seq ?_
    refine c_seq ?_
    refine c_region ?_
    refine l_q rfl (q_move _ _ rfl s6_17.ev ?_)
    refine l_q rfl (q_lss true rfl (At.hit z17 rfl).ev rfl (decide_eq_true (by omega)) ?_)
    refine l_end ?_
    refine e_fresh z17.put.put ?_
    intro a18 z18 m18
    have s2_18 := m18 _ _ ((s2_17.ne rfl).ne rfl)
    have s3_18 := m18 _ _ ((s3_17.ne rfl).ne rfl)
    have s4_18 := m18 _ _ ((s4_17.ne rfl).ne rfl)
    have s5_18 := m18 _ _ ((s5_17.ne rfl).ne rfl)
    have s6_18 := m18 _ _ ((s6_17.ne rfl).ne rfl)
    have s72_18 := m18 _ _ (At.hit z17.put rfl)
    clear m18
    refine e_then ?_
    refine c_true s72_18 ?_
    refine wp_skip ?_
    refine e_then ?_
    refine c_seq ?_
    refine wp_block ?_
    refine region_low_tail 22 hm (by kernel_rfl) ?_
    simp only [List.take_succ_cons, List.take_zero, List.drop_succ_cons, List.drop_zero]
    refine qs (q_move _ _ rfl s6_18.ev ?_)
    refine qs (q_move _ _ rfl (s6_18.ne rfl).ev ?_)
    refine qs (q_sub (((k + K + 18 : Nat) : Int)) rfl (At.hit z18.put rfl).ev rfl (i64_is (by omega) (by omega) (by omega)) ?_)
    refine qs (q_idx (j := k + K + 18) rfl Try.underlying48 sz30 (((s4_18.ne rfl).ne rfl).ne rfl).ev (At.hit z18.put.put rfl).ev (by omega) ?_)
    refine qs (q_cell (.int .u32 ((up (beginR false K B) K (fun x => rotr x 1) k).getD (k + K + 18) 0)) rfl Try.underlying30 (At.hit z18.put.put.put rfl).ev (fun _ h => nums_cell (h.blk kg4_17) (k + K + 18) (by rw [(up_len _ K _ (beginR_len false K B) _)]; omega)) ?_)
    refine qs (q_move _ _ rfl (((((s6_18.ne rfl).ne rfl).ne rfl).ne rfl).ne rfl).ev ?_)
    refine qs (q_sub (((k + K + 13 : Nat) : Int)) rfl (At.hit z18.put.put.put.put.put rfl).ev rfl (i64_is (by omega) (by omega) (by omega)) ?_)
    refine qs (q_idx (j := k + K + 13) rfl Try.underlying48 sz30 (((((((s4_18.ne rfl).ne rfl).ne rfl).ne rfl).ne rfl).ne rfl).ne rfl).ev (At.hit z18.put.put.put.put.put.put rfl).ev (by omega) ?_)
    refine q_fresh z18.put.put.put.put.put.put.put.put ?_
    intro a19 z19 m19
    have s2_19 := m19 _ _ ((((((((s2_18.ne rfl).ne rfl).ne rfl).ne rfl).ne rfl).ne rfl).ne rfl).ne rfl)
    have s3_19 := m19 _ _ ((((((((s3_18.ne rfl).ne rfl).ne rfl).ne rfl).ne rfl).ne rfl).ne rfl).ne rfl)
    have s4_19 := m19 _ _ ((((((((s4_18.ne rfl).ne rfl).ne rfl).ne rfl).ne rfl).ne rfl).ne rfl).ne rfl)
    have s5_19 := m19 _ _ ((((((((s5_18.ne rfl).ne rfl).ne rfl).ne rfl).ne rfl).ne rfl).ne rfl).ne rfl)
    have s6_19 := m19 _ _ ((((((((s6_18.ne rfl).ne rfl).ne rfl).ne rfl).ne rfl).ne rfl).ne rfl).ne rfl)
    have s75_19 := m19 _ _ ((((((((At.hit z18 rfl).ne rfl).ne rfl).ne rfl).ne rfl).ne rfl).ne rfl).ne rfl)
    have s79_19 := m19 _ _ ((((At.hit z18.put.put.put.put rfl).ne rfl).ne rfl).ne rfl)
    have s82_19 := m19 _ _ (At.hit z18.put.put.put.put.put.put.put rfl)
    clear m19
    refine qs (q_cell (.int .u32 ((up (beginR false K B) K (fun x => rotr x 1) k).getD (k + K + 13) 0)) rfl Try.underlying30 s82_19.ev (fun _ h => nums_cell (h.blk kg4_17) (k + K + 13) (by rw [(up_len _ K _ (beginR_len false K B) _)]; omega)) ?_)
    refine qs (q_xor rfl (s79_19.ne rfl).ev (At.hit z19 rfl).ev ?_)
    refine qs (q_move _ _ rfl ((s6_19.ne rfl).ne rfl).ev ?_)
    refine qs (q_sub (((k + K + 7 : Nat) : Int)) rfl (At.hit z19.put.put rfl).ev rfl (i64_is (by omega) (by omega) (by omega)) ?_)
    refine qs (q_idx (j := k + K + 7) rfl Try.underlying48 sz30 ((((s4_19.ne rfl).ne rfl).ne rfl).ne rfl).ev (At.hit z19.put.put.put rfl).ev (by omega) ?_)
    refine qs (q_cell (.int .u32 ((up (beginR false K B) K (fun x => rotr x 1) k).getD (k + K + 7) 0)) rfl Try.underlying30 (At.hit z19.put.put.put.put rfl).ev (fun _ h => nums_cell (h.blk kg4_17) (k + K + 7) (by rw [(up_len _ K _ (beginR_len false K B) _)]; omega)) ?_)
    refine qs (q_xor rfl (((((At.hit z19.put rfl).ne rfl).ne rfl).ne rfl).ne rfl).ev (At.hit z19.put.put.put.put.put rfl).ev ?_)
    refine qs (q_move _ _ rfl (((((((s6_19.ne rfl).ne rfl).ne rfl).ne rfl).ne rfl).ne rfl).ne rfl).ev ?_)
    refine q_fresh z19.put.put.put.put.put.put.put.put ?_
    intro a20 z20 m20
    have s2_20 := m20 _ _ ((((((((s2_19.ne rfl).ne rfl).ne rfl).ne rfl).ne rfl).ne rfl).ne rfl).ne rfl)
    have s3_20 := m20 _ _ ((((((((s3_19.ne rfl).ne rfl).ne rfl).ne rfl).ne rfl).ne rfl).ne rfl).ne rfl)
    have s4_20 := m20 _ _ ((((((((s4_19.ne rfl).ne rfl).ne rfl).ne rfl).ne rfl).ne rfl).ne rfl).ne rfl)
    have s5_20 := m20 _ _ ((((((((s5_19.ne rfl).ne rfl).ne rfl).ne rfl).ne rfl).ne rfl).ne rfl).ne rfl)
    have s6_20 := m20 _ _ ((((((((s6_19.ne rfl).ne rfl).ne rfl).ne rfl).ne rfl).ne rfl).ne rfl).ne rfl)
    have s75_20 := m20 _ _ ((((((((s75_19.ne rfl).ne rfl).ne rfl).ne rfl).ne rfl).ne rfl).ne rfl).ne rfl)
    have s89_20 := m20 _ _ ((At.hit z19.put.put.put.put.put.put rfl).ne rfl)
    have s90_20 := m20 _ _ (At.hit z19.put.put.put.put.put.put.put rfl)
    clear m20
    refine qs (q_sub (((k + K + 5 : Nat) : Int)) rfl s90_20.ev rfl (i64_is (by omega) (by omega) (by omega)) ?_)
    refine qs (q_idx (j := k + K + 5) rfl Try.underlying48 sz30 (s4_20.ne rfl).ev (At.hit z20 rfl).ev (by omega) ?_)
    refine qs (q_cell (.int .u32 ((up (beginR false K B) K (fun x => rotr x 1) k).getD (k + K + 5) 0)) rfl Try.underlying30 (At.hit z20.put rfl).ev (fun _ h => nums_cell (h.blk kg4_17) (k + K + 5) (by rw [(up_len _ K _ (beginR_len false K B) _)]; omega)) ?_)
    refine qs (q_xor rfl (((s89_20.ne rfl).ne rfl).ne rfl).ev (At.hit z20.put.put rfl).ev ?_)
    refine qs (q_call (.int .u32 (rotr (Go.bits .xor .u32 (Go.bits .xor .u32 (Go.bits .xor .u32 ((up (beginR false K B) K (fun x => rotr x 1) k).getD (k + K + 18) 0) ((up (beginR false K B) K (fun x => rotr x 1) k).getD (k + K + 13) 0)) ((up (beginR false K B) K (fun x => rotr x 1) k).getD (k + K + 7) 0)) ((up (beginR false K B) K (fun x => rotr x 1) k).getD (k + K + 5) 0)) 1)) rfl rfl Try.func22 rfl (args2 rfl (At.hit z20.put.put.put rfl).ev rfl) (fun _ h => (RotR.calls (Go.bits .xor .u32 (Go.bits .xor .u32 (Go.bits .xor .u32 ((up (beginR false K B) K (fun x => rotr x 1) k).getD (k + K + 18) 0) ((up (beginR false K B) K (fun x => rotr x 1) k).getD (k + K + 13) 0)) ((up (beginR false K B) K (fun x => rotr x 1) k).getD (k + K + 7) 0)) ((up (beginR false K B) K (fun x => rotr x 1) k).getD (k + K + 5) 0)) 1 (by omega) _).mono fun _ _ ⟨e, k⟩ => ⟨e, h.trans k⟩) ?_)
    refine qs (q_idx (j := k + K + 21) rfl Try.underlying48 sz30 (((((s4_20.ne rfl).ne rfl).ne rfl).ne rfl).ne rfl).ev (((((s75_20.ne rfl).ne rfl).ne rfl).ne rfl).ne rfl).ev (by omega) ?_)
    refine qz ?_
    intro w21 h21
    have kg2_21 := h21.blk kg2_17
    have kg3_21 := h21.blk kg3_17
    have kg4_21 := h21.blk kg4_17
    refine l_cell (j := (k + K + 21)) (v := .int .u32 (rotr (Go.bits .xor .u32 (Go.bits .xor .u32 (Go.bits .xor .u32 ((up (beginR false K B) K (fun x => rotr x 1) k).getD (k + K + 18) 0) ((up (beginR false K B) K (fun x => rotr x 1) k).getD (k + K + 13) 0)) ((up (beginR false K B) K (fun x => rotr x 1) k).getD (k + K + 7) 0)) ((up (beginR false K B) K (fun x => rotr x 1) k).getD (k + K + 5) 0)) 1)) rfl rfl rfl sz30 (At.hit z20.put.put.put.put.put rfl).ev ((At.hit z20.put.put.put.put rfl).ne rfl).ev rfl kg4_21 (by rw [(nums_size _ _).trans (up_len _ K _ (beginR_len false K B) _)]; omega) ?_
    intro w22 k22 u22
    rw [nums_put] at k22
    have kg2_22 := u22.blk kg2_21 (by omega)
    have kg3_22 := u22.blk kg3_21 (by omega)
    refine l_end ?_
    refine e_fresh z20.put.put.put.put.put.put ?_
    intro a23 z23 m23
    have s2_23 := m23 _ _ ((((((s2_20.ne rfl).ne rfl).ne rfl).ne rfl).ne rfl).ne rfl)
    have s3_23 := m23 _ _ ((((((s3_20.ne rfl).ne rfl).ne rfl).ne rfl).ne rfl).ne rfl)
    have s4_23 := m23 _ _ ((((((s4_20.ne rfl).ne rfl).ne rfl).ne rfl).ne rfl).ne rfl)
    have s5_23 := m23 _ _ ((((((s5_20.ne rfl).ne rfl).ne rfl).ne rfl).ne rfl).ne rfl)
    have s6_23 := m23 _ _ ((((((s6_20.ne rfl).ne rfl).ne rfl).ne rfl).ne rfl).ne rfl)
    have low23 := ((low17.trans h21).upd u22 geg4)
    clear m23
    refine e_in ?_
    refine e_then ?_
    refine c_region ?_
    refine l_q rfl (q_move _ _ rfl s6_23.ev ?_)
    refine l_q rfl (q_add (((k + K + 22 : Nat) : Int)) rfl (At.hit z23 rfl).ev rfl (i64_is (by omega) (by omega) (by omega)) ?_)
    refine l_q rfl (q_assign _ _ rfl (At.hit z23.put rfl).ev ?_)
    refine l_end ?_
    refine e_fresh z23.put.put.put ?_
    intro a24 z24 m24
    have s2_24 := m24 _ _ (((s2_23.ne rfl).ne rfl).ne rfl)
    have s3_24 := m24 _ _ (((s3_23.ne rfl).ne rfl).ne rfl)
    have s4_24 := m24 _ _ (((s4_23.ne rfl).ne rfl).ne rfl)
    have s5_24 := m24 _ _ (((s5_23.ne rfl).ne rfl).ne rfl)
    have s6_24 := m24 _ _ (At.hit z23.put.put rfl)
    clear m24
    exact ⟨z24, s2_24, s3_24, s4_24, s5_24, (s6_24.same (congrArg (Value.int .i64) (by omega))), kg2_22, kg3_22, k22, low23⟩
  · intro a25 w25 h
    obtain ⟨z25, s2_25, s3_25, s4_25, s5_25, s6_25, kg2_25, kg3_25, kg4_25, low25⟩ := h
    clear k13 kg2_13 kg3_13 low14 s2_16 s3_16 s4_16 s5_16 s6_16 z16
    have s6_25 := s6_25.same (congrArg (Value.int .i64) (show _ = (85 : Int) by omega))
    refine c_seq ?_
    refine c_seq ?_
    refine c_region ?_
    refine l_q rfl (q_move _ _ rfl s6_25.ev ?_)
    refine l_q rfl (q_lss false rfl (At.hit z25 rfl).ev rfl (decide_eq_false (by omega)) ?_)
    refine l_end ?_
    refine e_fresh z25.put.put ?_
    intro a26 z26 m26
    have s2_26 := m26 _ _ ((s2_25.ne rfl).ne rfl)
    have s3_26 := m26 _ _ ((s3_25.ne rfl).ne rfl)
    have s4_26 := m26 _ _ ((s4_25.ne rfl).ne rfl)
    have s5_26 := m26 _ _ ((s5_25.ne rfl).ne rfl)
    have s6_26 := m26 _ _ ((s6_25.ne rfl).ne rfl)
    have s72_26 := m26 _ _ (At.hit z25.put rfl)
    clear m26
    refine e_then ?_
    refine c_false s72_26 ?_
    refine wp_exit ?_
    refine x_then ?_
    refine x_then ?_
    refine in_exit ?_
    refine e_then ?_
    refine c_seq ?_
    refine c_seq ?_
    refine c_region ?_
    refine l_q rfl (q_move _ _ rfl s5_26.ev ?_)
    refine l_q rfl (q_add (((K + 20 : Nat) : Int)) rfl (At.hit z26 rfl).ev rfl (i64_is (by omega) (by omega) (by omega)) ?_)
    refine l_q rfl (q_assign _ _ rfl (At.hit z26.put rfl).ev ?_)
    refine l_end ?_
    refine e_fresh z26.put.put.put ?_
    intro a27 z27 m27
    have s2_27 := m27 _ _ (((s2_26.ne rfl).ne rfl).ne rfl)
    have s3_27 := m27 _ _ (((s3_26.ne rfl).ne rfl).ne rfl)
    have s4_27 := m27 _ _ (((s4_26.ne rfl).ne rfl).ne rfl)
    have s7_27 := m27 _ _ (At.hit z26.put.put rfl)
    clear m27
    refine e_then ?_
    refine wp_block ?_
    refine c_loop (K + 5) (fun k a w => Fr 164 a ∧ At a 2 (.pointer (some ⟨g2, 0, none⟩)) ∧ At a 3 (.pointer (some ⟨g3, 0, none⟩)) ∧ At a 4 (.pointer (some ⟨g4, 0, none⟩)) ∧ At a 7 (.int .i64 (((K : Nat) : Int) + 20 - ((k : Nat) : Int))) ∧ w.heap[g2]? = some (.cells (nums .u32 (List.replicate 80 0)) 31) ∧ w.heap[g3]? = some (.cells (nums .u32 (List.replicate 80 0)) 31) ∧ w.heap[g4]? = some (.cells (nums .u32 (dnR (up (beginR false K B) K (fun x => rotr x 1) (64 - K)) K k)) 48) ∧ Low w0 w) ?_ ?_ ?_
    · exact ⟨z27, s2_27, s3_27, s4_27, (s7_27.same (congrArg (Value.int .i64) (by omega))), kg2_25, kg3_25, kg4_25, low25⟩
    · intro k a28 w28 hk28 h
      obtain ⟨z28, s2_28, s3_28, s4_28, s7_28, kg2_28, kg3_28, kg4_28, low28⟩ := h
      clear kg2_25 kg3_25 kg4_25 low25 s2_27 s3_27 s4_27 s7_27 z27
      refine c_seq ?_
      refine c_seq ?_
      refine c_region ?_
      refine l_q rfl (q_move _ _ rfl s7_28.ev ?_)
      refine l_q rfl (q_geq true rfl (At.hit z28 rfl).ev rfl (decide_eq_true (by omega)) ?_)
      refine l_end ?_
      refine e_fresh z28.put.put ?_
      intro a29 z29 m29
      have s2_29 := m29 _ _ ((s2_28.ne rfl).ne rfl)
      have s3_29 := m29 _ _ ((s3_28.ne rfl).ne rfl)
      have s4_29 := m29 _ _ ((s4_28.ne rfl).ne rfl)
      have s7_29 := m29 _ _ ((s7_28.ne rfl).ne rfl)
      have s100_29 := m29 _ _ (At.hit z28.put rfl)
      clear m29
      refine e_then ?_
      refine c_true s100_29 ?_
      refine wp_skip ?_
      refine e_then ?_
      refine c_seq ?_
      refine wp_block ?_
      refine region_low_tail 22 hm (by kernel_rfl) ?_
      simp only [List.take_succ_cons, List.take_zero, List.drop_succ_cons, List.drop_zero]
      refine qs (q_move _ _ rfl s7_29.ev ?_)
      refine qs (q_sub ((((K : Nat) : Int) + 4 - ((k : Nat) : Int))) rfl (At.hit z29 rfl).ev rfl (i64_is (by omega) (by omega) (by omega)) ?_)
      refine qs (q_move _ _ rfl ((s7_29.ne rfl).ne rfl).ev ?_)
      refine qs (q_idx (j := (K + 20) - k) rfl Try.underlying48 sz30 (((s4_29.ne rfl).ne rfl).ne rfl).ev ((At.hit z29.put.put rfl).same (congrArg (Value.int .i64) (show ((((K : Nat) : Int) + 20 - ((k : Nat) : Int)) : Int) = (((K + 20) - k : Nat) : Int) by omega))).ev (by omega) ?_)
      refine qs (q_cell (.int .u32 ((dnR (up (beginR false K B) K (fun x => rotr x 1) (64 - K)) K k).getD ((K + 20) - k) 0)) rfl Try.underlying30 (At.hit z29.put.put.put rfl).ev (fun _ h => nums_cell (h.blk kg4_28) ((K + 20) - k) (by rw [(dnR_len _ K (up_len _ K _ (beginR_len false K B) _) _)]; omega)) ?_)
      refine qs (q_call (.int .u32 (rotr ((dnR (up (beginR false K B) K (fun x => rotr x 1) (64 - K)) K k).getD ((K + 20) - k) 0) 31)) rfl rfl Try.func22 rfl (args2 rfl (At.hit z29.put.put.put.put rfl).ev rfl) (fun _ h => (RotR.calls ((dnR (up (beginR false K B) K (fun x => rotr x 1) (64 - K)) K k).getD ((K + 20) - k) 0) 31 (by omega) _).mono fun _ _ ⟨e, k⟩ => ⟨e, h.trans k⟩) ?_)
      refine qs (q_move _ _ rfl ((((((s7_29.ne rfl).ne rfl).ne rfl).ne rfl).ne rfl).ne rfl).ev ?_)
      refine qs (q_sub ((((K : Nat) : Int) + 17 - ((k : Nat) : Int))) rfl (At.hit z29.put.put.put.put.put.put rfl).ev rfl (i64_is (by omega) (by omega) (by omega)) ?_)
      refine q_fresh z29.put.put.put.put.put.put.put.put ?_
      intro a30 z30 m30
      have s2_30 := m30 _ _ ((((((((s2_29.ne rfl).ne rfl).ne rfl).ne rfl).ne rfl).ne rfl).ne rfl).ne rfl)
      have s3_30 := m30 _ _ ((((((((s3_29.ne rfl).ne rfl).ne rfl).ne rfl).ne rfl).ne rfl).ne rfl).ne rfl)
      have s4_30 := m30 _ _ ((((((((s4_29.ne rfl).ne rfl).ne rfl).ne rfl).ne rfl).ne rfl).ne rfl).ne rfl)
      have s7_30 := m30 _ _ ((((((((s7_29.ne rfl).ne rfl).ne rfl).ne rfl).ne rfl).ne rfl).ne rfl).ne rfl)
      have s104_30 := m30 _ _ (((((((At.hit z29.put rfl).ne rfl).ne rfl).ne rfl).ne rfl).ne rfl).ne rfl)
      have s108_30 := m30 _ _ (((At.hit z29.put.put.put.put.put rfl).ne rfl).ne rfl)
      have s110_30 := m30 _ _ (At.hit z29.put.put.put.put.put.put.put rfl)
      clear m30
      refine qs (q_idx (j := (K + 17) - k) rfl Try.underlying48 sz30 s4_30.ev (s110_30.same (congrArg (Value.int .i64) (show ((((K : Nat) : Int) + 17 - ((k : Nat) : Int)) : Int) = (((K + 17) - k : Nat) : Int) by omega))).ev (by omega) ?_)
      refine qs (q_cell (.int .u32 ((dnR (up (beginR false K B) K (fun x => rotr x 1) (64 - K)) K k).getD ((K + 17) - k) 0)) rfl Try.underlying30 (At.hit z30 rfl).ev (fun _ h => nums_cell (h.blk kg4_28) ((K + 17) - k) (by rw [(dnR_len _ K (up_len _ K _ (beginR_len false K B) _) _)]; omega)) ?_)
      refine qs (q_xor rfl ((s108_30.ne rfl).ne rfl).ev (At.hit z30.put rfl).ev ?_)
      refine qs (q_move _ _ rfl (((s7_30.ne rfl).ne rfl).ne rfl).ev ?_)
      refine qs (q_sub ((((K : Nat) : Int) + 12 - ((k : Nat) : Int))) rfl (At.hit z30.put.put.put rfl).ev rfl (i64_is (by omega) (by omega) (by omega)) ?_)
      refine qs (q_idx (j := (K + 12) - k) rfl Try.underlying48 sz30 (((((s4_30.ne rfl).ne rfl).ne rfl).ne rfl).ne rfl).ev ((At.hit z30.put.put.put.put rfl).same (congrArg (Value.int .i64) (show ((((K : Nat) : Int) + 12 - ((k : Nat) : Int)) : Int) = (((K + 12) - k : Nat) : Int) by omega))).ev (by omega) ?_)
      refine qs (q_cell (.int .u32 ((dnR (up (beginR false K B) K (fun x => rotr x 1) (64 - K)) K k).getD ((K + 12) - k) 0)) rfl Try.underlying30 (At.hit z30.put.put.put.put.put rfl).ev (fun _ h => nums_cell (h.blk kg4_28) ((K + 12) - k) (by rw [(dnR_len _ K (up_len _ K _ (beginR_len false K B) _) _)]; omega)) ?_)
      refine qs (q_xor rfl (((((At.hit z30.put.put rfl).ne rfl).ne rfl).ne rfl).ne rfl).ev (At.hit z30.put.put.put.put.put.put rfl).ev ?_)
      refine q_fresh z30.put.put.put.put.put.put.put.put ?_
      intro a31 z31 m31
      have s2_31 := m31 _ _ ((((((((s2_30.ne rfl).ne rfl).ne rfl).ne rfl).ne rfl).ne rfl).ne rfl).ne rfl)
      have s3_31 := m31 _ _ ((((((((s3_30.ne rfl).ne rfl).ne rfl).ne rfl).ne rfl).ne rfl).ne rfl).ne rfl)
      have s4_31 := m31 _ _ ((((((((s4_30.ne rfl).ne rfl).ne rfl).ne rfl).ne rfl).ne rfl).ne rfl).ne rfl)
      have s7_31 := m31 _ _ ((((((((s7_30.ne rfl).ne rfl).ne rfl).ne rfl).ne rfl).ne rfl).ne rfl).ne rfl)
      have s104_31 := m31 _ _ ((((((((s104_30.ne rfl).ne rfl).ne rfl).ne rfl).ne rfl).ne rfl).ne rfl).ne rfl)
      have s118_31 := m31 _ _ (At.hit z30.put.put.put.put.put.put.put rfl)
      clear m31
      refine qs (q_move _ _ rfl s7_31.ev ?_)
      refine qs (q_sub ((((K : Nat) : Int) + 6 - ((k : Nat) : Int))) rfl (At.hit z31 rfl).ev rfl (i64_is (by omega) (by omega) (by omega)) ?_)
      refine qs (q_idx (j := (K + 6) - k) rfl Try.underlying48 sz30 ((s4_31.ne rfl).ne rfl).ev ((At.hit z31.put rfl).same (congrArg (Value.int .i64) (show ((((K : Nat) : Int) + 6 - ((k : Nat) : Int)) : Int) = (((K + 6) - k : Nat) : Int) by omega))).ev (by omega) ?_)
      refine qs (q_cell (.int .u32 ((dnR (up (beginR false K B) K (fun x => rotr x 1) (64 - K)) K k).getD ((K + 6) - k) 0)) rfl Try.underlying30 (At.hit z31.put.put rfl).ev (fun _ h => nums_cell (h.blk kg4_28) ((K + 6) - k) (by rw [(dnR_len _ K (up_len _ K _ (beginR_len false K B) _) _)]; omega)) ?_)
      refine qs (q_xor rfl ((((s118_31.ne rfl).ne rfl).ne rfl).ne rfl).ev (At.hit z31.put.put.put rfl).ev ?_)
      refine qs (q_idx (j := (K + 4) - k) rfl Try.underlying48 sz30 (((((s4_31.ne rfl).ne rfl).ne rfl).ne rfl).ne rfl).ev ((((((s104_31.ne rfl).ne rfl).ne rfl).ne rfl).ne rfl).same (congrArg (Value.int .i64) (show ((((K : Nat) : Int) + 4 - ((k : Nat) : Int)) : Int) = (((K + 4) - k : Nat) : Int) by omega))).ev (by omega) ?_)
      refine qz ?_
      intro w32 h32
      have kg2_32 := h32.blk kg2_28
      have kg3_32 := h32.blk kg3_28
      have kg4_32 := h32.blk kg4_28
      refine l_cell (j := ((K + 4) - k)) (v := .int .u32 (Go.bits .xor .u32 (Go.bits .xor .u32 (Go.bits .xor .u32 (rotr ((dnR (up (beginR false K B) K (fun x => rotr x 1) (64 - K)) K k).getD ((K + 20) - k) 0) 31) ((dnR (up (beginR false K B) K (fun x => rotr x 1) (64 - K)) K k).getD ((K + 17) - k) 0)) ((dnR (up (beginR false K B) K (fun x => rotr x 1) (64 - K)) K k).getD ((K + 12) - k) 0)) ((dnR (up (beginR false K B) K (fun x => rotr x 1) (64 - K)) K k).getD ((K + 6) - k) 0))) rfl rfl rfl sz30 (At.hit z31.put.put.put.put.put rfl).ev ((At.hit z31.put.put.put.put rfl).ne rfl).ev rfl kg4_32 (by rw [(nums_size _ _).trans (dnR_len _ K (up_len _ K _ (beginR_len false K B) _) _)]; omega) ?_
      intro w33 k33 u33
      rw [nums_put] at k33
      have kg2_33 := u33.blk kg2_32 (by omega)
      have kg3_33 := u33.blk kg3_32 (by omega)
      refine l_end ?_
      refine e_fresh z31.put.put.put.put.put.put ?_
      intro a34 z34 m34
      have s2_34 := m34 _ _ ((((((s2_31.ne rfl).ne rfl).ne rfl).ne rfl).ne rfl).ne rfl)
      have s3_34 := m34 _ _ ((((((s3_31.ne rfl).ne rfl).ne rfl).ne rfl).ne rfl).ne rfl)
      have s4_34 := m34 _ _ ((((((s4_31.ne rfl).ne rfl).ne rfl).ne rfl).ne rfl).ne rfl)
      have s7_34 := m34 _ _ ((((((s7_31.ne rfl).ne rfl).ne rfl).ne rfl).ne rfl).ne rfl)
      have low34 := ((low28.trans h32).upd u33 geg4)
      clear m34
      refine e_in ?_
      refine e_then ?_
      refine c_region ?_
      refine l_q rfl (q_move _ _ rfl s7_34.ev ?_)
      refine l_q rfl (q_sub ((((K : Nat) : Int) + 19 - ((k : Nat) : Int))) rfl (At.hit z34 rfl).ev rfl (i64_is (by omega) (by omega) (by omega)) ?_)
      refine l_q rfl (q_assign _ _ rfl (At.hit z34.put rfl).ev ?_)
      refine l_end ?_
      refine e_fresh z34.put.put.put ?_
      intro a35 z35 m35
      have s2_35 := m35 _ _ (((s2_34.ne rfl).ne rfl).ne rfl)
      have s3_35 := m35 _ _ (((s3_34.ne rfl).ne rfl).ne rfl)
      have s4_35 := m35 _ _ (((s4_34.ne rfl).ne rfl).ne rfl)
      have s7_35 := m35 _ _ (At.hit z34.put.put rfl)
      clear m35
      exact ⟨z35, s2_35, s3_35, s4_35, (s7_35.same (congrArg (Value.int .i64) (by omega))), kg2_33, kg3_33, k33, low34⟩
    · intro a36 w36 h
      obtain ⟨z36, s2_36, s3_36, s4_36, s7_36, kg2_36, kg3_36, kg4_36, low36⟩ := h
      clear kg2_25 kg3_25 kg4_25 low25 s2_27 s3_27 s4_27 s7_27 z27
      have s7_36 := s7_36.same (congrArg (Value.int .i64) (show _ = (15 : Int) by omega))
      refine c_seq ?_
      refine c_seq ?_
      refine c_region ?_
      refine l_q rfl (q_move _ _ rfl s7_36.ev ?_)
      refine l_q rfl (q_geq false rfl (At.hit z36 rfl).ev rfl (decide_eq_false (by omega)) ?_)
      refine l_end ?_
      refine e_fresh z36.put.put ?_
      intro a37 z37 m37
      have s2_37 := m37 _ _ ((s2_36.ne rfl).ne rfl)
      have s3_37 := m37 _ _ ((s3_36.ne rfl).ne rfl)
      have s4_37 := m37 _ _ ((s4_36.ne rfl).ne rfl)
      have s7_37 := m37 _ _ ((s7_36.ne rfl).ne rfl)
      have s100_37 := m37 _ _ (At.hit z36.put rfl)
      clear m37
      refine e_then ?_
      refine c_false s100_37 ?_
      refine wp_exit ?_
      refine x_then ?_
      refine x_then ?_
      refine in_exit ?_
      refine e_then ?_
      refine c_seq ?_
      refine c_seq ?_
      refine c_region ?_
      refine l_q rfl (q_assign _ _ rfl rfl ?_)
      refine l_end ?_
      refine e_fresh z37.put ?_
      intro a38 z38 m38
      have s2_38 := m38 _ _ (s2_37.ne rfl)
      have s3_38 := m38 _ _ (s3_37.ne rfl)
      have s4_38 := m38 _ _ (s4_37.ne rfl)
      have s8_38 := m38 _ _ (At.hit z37 rfl)
      clear m38
      refine e_then ?_
      refine wp_block ?_
      refine c_loop 80 (fun t a w => Fr 164 a ∧ At a 2 (.pointer (some ⟨g2, 0, none⟩)) ∧ At a 3 (.pointer (some ⟨g3, 0, none⟩)) ∧ At a 4 (.pointer (some ⟨g4, 0, none⟩)) ∧ At a 8 (.int .i64 ((t : Nat) : Int)) ∧ w.heap[g2]? = some (.cells (nums .u32 (List.replicate 80 0)) 31) ∧ w.heap[g3]? = some (.cells (nums .u32 (diffR (rowR false K B) t)) 31) ∧ w.heap[g4]? = some (.cells (nums .u32 (dnR (up (beginR false K B) K (fun x => rotr x 1) (64 - K)) K (K + 5))) 48) ∧ Low w0 w) ?_ ?_ ?_
      · exact ⟨z38, s2_38, s3_38, s4_38, s8_38, kg2_36, kg3_36, kg4_36, low36⟩
      · intro t a39 w39 hk39 h
        obtain ⟨z39, s2_39, s3_39, s4_39, s8_39, kg2_39, kg3_39, kg4_39, low39⟩ := h
        clear kg2_36 kg3_36 kg4_36 low36 s2_38 s3_38 s4_38 s8_38 z38
        refine c_seq ?_
        refine c_seq ?_
        refine c_region ?_
        refine l_q rfl (q_move _ _ rfl s8_39.ev ?_)
        refine l_q rfl (q_lss true rfl (At.hit z39 rfl).ev rfl (decide_eq_true (by omega)) ?_)
        refine l_end ?_
        refine e_fresh z39.put.put ?_
        intro a40 z40 m40
        have s2_40 := m40 _ _ ((s2_39.ne rfl).ne rfl)
        have s3_40 := m40 _ _ ((s3_39.ne rfl).ne rfl)
        have s4_40 := m40 _ _ ((s4_39.ne rfl).ne rfl)
        have s8_40 := m40 _ _ ((s8_39.ne rfl).ne rfl)
        have s126_40 := m40 _ _ (At.hit z39.put rfl)
        clear m40
        refine e_then ?_
        refine c_true s126_40 ?_
        refine wp_skip ?_
        refine e_then ?_
        refine c_seq ?_
        refine wp_block ?_
        refine region_low_tail 34 hm (by kernel_rfl) ?_
        simp only [List.take_succ_cons, List.take_zero, List.drop_succ_cons, List.drop_zero]
        refine qs (q_move _ _ rfl s8_40.ev ?_)
        refine qs (q_move _ _ rfl (s8_40.ne rfl).ev ?_)
        refine qs (q_add (((t + 5 : Nat) : Int)) rfl (At.hit z40.put rfl).ev rfl (i64_is (by omega) (by omega) (by omega)) ?_)
        refine qs (q_idx (j := t + 5) rfl Try.underlying48 sz30 (((s4_40.ne rfl).ne rfl).ne rfl).ev (At.hit z40.put.put rfl).ev (by omega) ?_)
        refine qs (q_cell (.int .u32 ((dnR (up (beginR false K B) K (fun x => rotr x 1) (64 - K)) K (K + 5)).getD (t + 5) 0)) rfl Try.underlying30 (At.hit z40.put.put.put rfl).ev (fun _ h => nums_cell (h.blk kg4_39) (t + 5) (by rw [(dnR_len _ K (up_len _ K _ (beginR_len false K B) _) _)]; omega)) ?_)
        refine qs (q_move _ _ rfl (((((s8_40.ne rfl).ne rfl).ne rfl).ne rfl).ne rfl).ev ?_)
        refine qs (q_add (((t + 4 : Nat) : Int)) rfl (At.hit z40.put.put.put.put.put rfl).ev rfl (i64_is (by omega) (by omega) (by omega)) ?_)
        refine qs (q_idx (j := t + 4) rfl Try.underlying48 sz30 (((((((s4_40.ne rfl).ne rfl).ne rfl).ne rfl).ne rfl).ne rfl).ne rfl).ev (At.hit z40.put.put.put.put.put.put rfl).ev (by omega) ?_)
        refine q_fresh z40.put.put.put.put.put.put.put.put ?_
        intro a41 z41 m41
        have s2_41 := m41 _ _ ((((((((s2_40.ne rfl).ne rfl).ne rfl).ne rfl).ne rfl).ne rfl).ne rfl).ne rfl)
        have s3_41 := m41 _ _ ((((((((s3_40.ne rfl).ne rfl).ne rfl).ne rfl).ne rfl).ne rfl).ne rfl).ne rfl)
        have s4_41 := m41 _ _ ((((((((s4_40.ne rfl).ne rfl).ne rfl).ne rfl).ne rfl).ne rfl).ne rfl).ne rfl)
        have s8_41 := m41 _ _ ((((((((s8_40.ne rfl).ne rfl).ne rfl).ne rfl).ne rfl).ne rfl).ne rfl).ne rfl)
        have s129_41 := m41 _ _ ((((((((At.hit z40 rfl).ne rfl).ne rfl).ne rfl).ne rfl).ne rfl).ne rfl).ne rfl)
        have s133_41 := m41 _ _ ((((At.hit z40.put.put.put.put rfl).ne rfl).ne rfl).ne rfl)
        have s136_41 := m41 _ _ (At.hit z40.put.put.put.put.put.put.put rfl)
        clear m41
        refine qs (q_cell (.int .u32 ((dnR (up (beginR false K B) K (fun x => rotr x 1) (64 - K)) K (K + 5)).getD (t + 4) 0)) rfl Try.underlying30 s136_41.ev (fun _ h => nums_cell (h.blk kg4_39) (t + 4) (by rw [(dnR_len _ K (up_len _ K _ (beginR_len false K B) _) _)]; omega)) ?_)
        refine qs (q_call (.int .u32 (rotr ((dnR (up (beginR false K B) K (fun x => rotr x 1) (64 - K)) K (K + 5)).getD (t + 4) 0) 5)) rfl rfl Try.func22 rfl (args2 rfl (At.hit z41 rfl).ev rfl) (fun _ h => (RotR.calls ((dnR (up (beginR false K B) K (fun x => rotr x 1) (64 - K)) K (K + 5)).getD (t + 4) 0) 5 (by omega) _).mono fun _ _ ⟨e, k⟩ => ⟨e, h.trans k⟩) ?_)
        refine qs (q_xor rfl ((s133_41.ne rfl).ne rfl).ev (At.hit z41.put rfl).ev ?_)
        refine qs (q_move _ _ rfl (((s8_41.ne rfl).ne rfl).ne rfl).ev ?_)
        refine qs (q_add (((t + 3 : Nat) : Int)) rfl (At.hit z41.put.put.put rfl).ev rfl (i64_is (by omega) (by omega) (by omega)) ?_)
        refine qs (q_idx (j := t + 3) rfl Try.underlying48 sz30 (((((s4_41.ne rfl).ne rfl).ne rfl).ne rfl).ne rfl).ev (At.hit z41.put.put.put.put rfl).ev (by omega) ?_)
        refine qs (q_cell (.int .u32 ((dnR (up (beginR false K B) K (fun x => rotr x 1) (64 - K)) K (K + 5)).getD (t + 3) 0)) rfl Try.underlying30 (At.hit z41.put.put.put.put.put rfl).ev (fun _ h => nums_cell (h.blk kg4_39) (t + 3) (by rw [(dnR_len _ K (up_len _ K _ (beginR_len false K B) _) _)]; omega)) ?_)
        refine qs (q_xor rfl (((((At.hit z41.put.put rfl).ne rfl).ne rfl).ne rfl).ne rfl).ev (At.hit z41.put.put.put.put.put.put rfl).ev ?_)
        refine q_fresh z41.put.put.put.put.put.put.put.put ?_
        intro a42 z42 m42
        have s2_42 := m42 _ _ ((((((((s2_41.ne rfl).ne rfl).ne rfl).ne rfl).ne rfl).ne rfl).ne rfl).ne rfl)
        have s3_42 := m42 _ _ ((((((((s3_41.ne rfl).ne rfl).ne rfl).ne rfl).ne rfl).ne rfl).ne rfl).ne rfl)
        have s4_42 := m42 _ _ ((((((((s4_41.ne rfl).ne rfl).ne rfl).ne rfl).ne rfl).ne rfl).ne rfl).ne rfl)
        have s8_42 := m42 _ _ ((((((((s8_41.ne rfl).ne rfl).ne rfl).ne rfl).ne rfl).ne rfl).ne rfl).ne rfl)
        have s129_42 := m42 _ _ ((((((((s129_41.ne rfl).ne rfl).ne rfl).ne rfl).ne rfl).ne rfl).ne rfl).ne rfl)
        have s144_42 := m42 _ _ (At.hit z41.put.put.put.put.put.put.put rfl)
        clear m42
        refine qs (q_move _ _ rfl s8_42.ev ?_)
        refine qs (q_add (((t + 2 : Nat) : Int)) rfl (At.hit z42 rfl).ev rfl (i64_is (by omega) (by omega) (by omega)) ?_)
        refine qs (q_idx (j := t + 2) rfl Try.underlying48 sz30 ((s4_42.ne rfl).ne rfl).ev (At.hit z42.put rfl).ev (by omega) ?_)
        refine qs (q_cell (.int .u32 ((dnR (up (beginR false K B) K (fun x => rotr x 1) (64 - K)) K (K + 5)).getD (t + 2) 0)) rfl Try.underlying30 (At.hit z42.put.put rfl).ev (fun _ h => nums_cell (h.blk kg4_39) (t + 2) (by rw [(dnR_len _ K (up_len _ K _ (beginR_len false K B) _) _)]; omega)) ?_)
        refine qs (q_call (.int .u32 (rotr ((dnR (up (beginR false K B) K (fun x => rotr x 1) (64 - K)) K (K + 5)).getD (t + 2) 0) 30)) rfl rfl Try.func22 rfl (args2 rfl (At.hit z42.put.put.put rfl).ev rfl) (fun _ h => (RotR.calls ((dnR (up (beginR false K B) K (fun x => rotr x 1) (64 - K)) K (K + 5)).getD (t + 2) 0) 30 (by omega) _).mono fun _ _ ⟨e, k⟩ => ⟨e, h.trans k⟩) ?_)
        refine qs (q_xor rfl (((((s144_42.ne rfl).ne rfl).ne rfl).ne rfl).ne rfl).ev (At.hit z42.put.put.put.put rfl).ev ?_)
        refine qs (q_move _ _ rfl ((((((s8_42.ne rfl).ne rfl).ne rfl).ne rfl).ne rfl).ne rfl).ev ?_)
        refine qs (q_add (((t + 1 : Nat) : Int)) rfl (At.hit z42.put.put.put.put.put.put rfl).ev rfl (i64_is (by omega) (by omega) (by omega)) ?_)
        refine q_fresh z42.put.put.put.put.put.put.put.put ?_
        intro a43 z43 m43
        have s2_43 := m43 _ _ ((((((((s2_42.ne rfl).ne rfl).ne rfl).ne rfl).ne rfl).ne rfl).ne rfl).ne rfl)
        have s3_43 := m43 _ _ ((((((((s3_42.ne rfl).ne rfl).ne rfl).ne rfl).ne rfl).ne rfl).ne rfl).ne rfl)
        have s4_43 := m43 _ _ ((((((((s4_42.ne rfl).ne rfl).ne rfl).ne rfl).ne rfl).ne rfl).ne rfl).ne rfl)
        have s8_43 := m43 _ _ ((((((((s8_42.ne rfl).ne rfl).ne rfl).ne rfl).ne rfl).ne rfl).ne rfl).ne rfl)
        have s129_43 := m43 _ _ ((((((((s129_42.ne rfl).ne rfl).ne rfl).ne rfl).ne rfl).ne rfl).ne rfl).ne rfl)
        have s150_43 := m43 _ _ (((At.hit z42.put.put.put.put.put rfl).ne rfl).ne rfl)
        have s152_43 := m43 _ _ (At.hit z42.put.put.put.put.put.put.put rfl)
        clear m43
        refine qs (q_idx (j := t + 1) rfl Try.underlying48 sz30 s4_43.ev s152_43.ev (by omega) ?_)
        refine qs (q_cell (.int .u32 ((dnR (up (beginR false K B) K (fun x => rotr x 1) (64 - K)) K (K + 5)).getD (t + 1) 0)) rfl Try.underlying30 (At.hit z43 rfl).ev (fun _ h => nums_cell (h.blk kg4_39) (t + 1) (by rw [(dnR_len _ K (up_len _ K _ (beginR_len false K B) _) _)]; omega)) ?_)
        refine qs (q_call (.int .u32 (rotr ((dnR (up (beginR false K B) K (fun x => rotr x 1) (64 - K)) K (K + 5)).getD (t + 1) 0) 30)) rfl rfl Try.func22 rfl (args2 rfl (At.hit z43.put rfl).ev rfl) (fun _ h => (RotR.calls ((dnR (up (beginR false K B) K (fun x => rotr x 1) (64 - K)) K (K + 5)).getD (t + 1) 0) 30 (by omega) _).mono fun _ _ ⟨e, k⟩ => ⟨e, h.trans k⟩) ?_)
        refine qs (q_xor rfl (((s150_43.ne rfl).ne rfl).ne rfl).ev (At.hit z43.put.put rfl).ev ?_)
        refine qs (q_move _ _ rfl ((((s8_43.ne rfl).ne rfl).ne rfl).ne rfl).ev ?_)
        refine qs (q_idx (j := t) rfl Try.underlying48 sz30 (((((s4_43.ne rfl).ne rfl).ne rfl).ne rfl).ne rfl).ev (At.hit z43.put.put.put.put rfl).ev (by omega) ?_)
        refine qs (q_cell (.int .u32 ((dnR (up (beginR false K B) K (fun x => rotr x 1) (64 - K)) K (K + 5)).getD t 0)) rfl Try.underlying30 (At.hit z43.put.put.put.put.put rfl).ev (fun _ h => nums_cell (h.blk kg4_39) t (by rw [(dnR_len _ K (up_len _ K _ (beginR_len false K B) _) _)]; omega)) ?_)
        refine qs (q_call (.int .u32 (rotr ((dnR (up (beginR false K B) K (fun x => rotr x 1) (64 - K)) K (K + 5)).getD t 0) 30)) rfl rfl Try.func22 rfl (args2 rfl (At.hit z43.put.put.put.put.put.put rfl).ev rfl) (fun _ h => (RotR.calls ((dnR (up (beginR false K B) K (fun x => rotr x 1) (64 - K)) K (K + 5)).getD t 0) 30 (by omega) _).mono fun _ _ ⟨e, k⟩ => ⟨e, h.trans k⟩) ?_)
        refine q_fresh z43.put.put.put.put.put.put.put.put ?_
        intro a44 z44 m44
        have s2_44 := m44 _ _ ((((((((s2_43.ne rfl).ne rfl).ne rfl).ne rfl).ne rfl).ne rfl).ne rfl).ne rfl)
        have s3_44 := m44 _ _ ((((((((s3_43.ne rfl).ne rfl).ne rfl).ne rfl).ne rfl).ne rfl).ne rfl).ne rfl)
        have s4_44 := m44 _ _ ((((((((s4_43.ne rfl).ne rfl).ne rfl).ne rfl).ne rfl).ne rfl).ne rfl).ne rfl)
        have s8_44 := m44 _ _ ((((((((s8_43.ne rfl).ne rfl).ne rfl).ne rfl).ne rfl).ne rfl).ne rfl).ne rfl)
        have s129_44 := m44 _ _ ((((((((s129_43.ne rfl).ne rfl).ne rfl).ne rfl).ne rfl).ne rfl).ne rfl).ne rfl)
        have s156_44 := m44 _ _ (((((At.hit z43.put.put.put rfl).ne rfl).ne rfl).ne rfl).ne rfl)
        have s160_44 := m44 _ _ (At.hit z43.put.put.put.put.put.put.put rfl)
        clear m44
        refine qs (q_xor rfl s156_44.ev s160_44.ev ?_)
        refine qs (q_idx (j := t) rfl Try.underlying31 sz30 (s3_44.ne rfl).ev (s129_44.ne rfl).ev (by omega) ?_)
        refine qz ?_
        intro w45 h45
        have kg2_45 := h45.blk kg2_39
        have kg3_45 := h45.blk kg3_39
        have kg4_45 := h45.blk kg4_39
        refine l_cell (j := t) (v := .int .u32 (Go.bits .xor .u32 (Go.bits .xor .u32 (Go.bits .xor .u32 (Go.bits .xor .u32 (Go.bits .xor .u32 ((dnR (up (beginR false K B) K (fun x => rotr x 1) (64 - K)) K (K + 5)).getD (t + 5) 0) (rotr ((dnR (up (beginR false K B) K (fun x => rotr x 1) (64 - K)) K (K + 5)).getD (t + 4) 0) 5)) ((dnR (up (beginR false K B) K (fun x => rotr x 1) (64 - K)) K (K + 5)).getD (t + 3) 0)) (rotr ((dnR (up (beginR false K B) K (fun x => rotr x 1) (64 - K)) K (K + 5)).getD (t + 2) 0) 30)) (rotr ((dnR (up (beginR false K B) K (fun x => rotr x 1) (64 - K)) K (K + 5)).getD (t + 1) 0) 30)) (rotr ((dnR (up (beginR false K B) K (fun x => rotr x 1) (64 - K)) K (K + 5)).getD t 0) 30))) rfl rfl rfl sz30 (At.hit z44.put rfl).ev ((At.hit z44 rfl).ne rfl).ev rfl kg3_45 (by rw [(nums_size _ _).trans (diffR_len _ _)]; omega) ?_
        intro w46 k46 u46
        rw [nums_put] at k46
        have kg2_46 := u46.blk kg2_45 (by omega)
        have kg4_46 := u46.blk kg4_45 (by omega)
        refine l_end ?_
        refine e_fresh z44.put.put ?_
        intro a47 z47 m47
        have s2_47 := m47 _ _ ((s2_44.ne rfl).ne rfl)
        have s3_47 := m47 _ _ ((s3_44.ne rfl).ne rfl)
        have s4_47 := m47 _ _ ((s4_44.ne rfl).ne rfl)
        have s8_47 := m47 _ _ ((s8_44.ne rfl).ne rfl)
        have low47 := ((low39.trans h45).upd u46 geg3)
        clear m47
        refine e_in ?_
        refine e_then ?_
        refine c_region ?_
        refine l_q rfl (q_move _ _ rfl s8_47.ev ?_)
        refine l_q rfl (q_add (((t + 1 : Nat) : Int)) rfl (At.hit z47 rfl).ev rfl (i64_is (by omega) (by omega) (by omega)) ?_)
        refine l_q rfl (q_assign _ _ rfl (At.hit z47.put rfl).ev ?_)
        refine l_end ?_
        refine e_fresh z47.put.put.put ?_
        intro a48 z48 m48
        have s2_48 := m48 _ _ (((s2_47.ne rfl).ne rfl).ne rfl)
        have s3_48 := m48 _ _ (((s3_47.ne rfl).ne rfl).ne rfl)
        have s4_48 := m48 _ _ (((s4_47.ne rfl).ne rfl).ne rfl)
        have s8_48 := m48 _ _ (At.hit z47.put.put rfl)
        clear m48
        exact ⟨z48, s2_48, s3_48, s4_48, s8_48, kg2_46, k46, kg4_46, low47⟩
      · intro a49 w49 h
        obtain ⟨z49, s2_49, s3_49, s4_49, s8_49, kg2_49, kg3_49, kg4_49, low49⟩ := h
        clear kg2_36 kg3_36 kg4_36 low36 s2_38 s3_38 s4_38 s8_38 z38
        refine c_seq ?_
        refine c_seq ?_
        refine c_region ?_
        refine l_q rfl (q_move _ _ rfl s8_49.ev ?_)
        refine l_q rfl (q_lss false rfl (At.hit z49 rfl).ev rfl (decide_eq_false (by omega)) ?_)
        refine l_end ?_
        refine e_fresh z49.put.put ?_
        intro a50 z50 m50
        have s2_50 := m50 _ _ ((s2_49.ne rfl).ne rfl)
        have s3_50 := m50 _ _ ((s3_49.ne rfl).ne rfl)
        have s4_50 := m50 _ _ ((s4_49.ne rfl).ne rfl)
        have s8_50 := m50 _ _ ((s8_49.ne rfl).ne rfl)
        have s126_50 := m50 _ _ (At.hit z49.put rfl)
        clear m50
        refine e_then ?_
        refine c_false s126_50 ?_
        refine wp_exit ?_
        refine x_then ?_
        refine x_then ?_
        refine in_exit ?_
        refine e_then ?_
        refine c_seq ?_
        refine c_region ?_
        refine l_q rfl (q_row rfl Try.underlying31 rfl (sz31.trans (congrArg some ((nums_size _ _).trans (diffR_len _ _)).symm)) s3_50.ev (fun _ e => by rw [e]; exact kg3_49) ?_)
        refine l_row rfl rfl rfl (sz31.trans (congrArg some ((nums_size _ _).trans (diffR_len _ _)).symm)) (s2_50.ne rfl).ev (At.hit z50 rfl).ev (nums_one _ _) kg2_49 (((nums_size _ _).trans (List.length_replicate)).trans ((nums_size _ _).trans (diffR_len _ _)).symm) ?_
        intro w51 k51 u51
        have kg3_51 := u51.blk kg3_49 (by omega)
        have kg4_51 := u51.blk kg4_49 (by omega)
        refine l_end ?_
        refine e_fresh z50.put ?_
        intro a52 z52 m52
        have s2_52 := m52 _ _ (s2_50.ne rfl)
        have low52 := (low49.upd u51 geg2)
        clear m52
        refine e_then ?_
        refine wp_ret ?_
        refine r_cell rfl z52.defers s2_52 k51 Try.underlying31 rfl (sz31.trans (congrArg some ((nums_size _ _).trans (diffR_len _ _)).symm)) ?_
        exact ⟨rfl, low52⟩
theorem DR_2.calls (K B : Nat) (hK : K ≤ 64) (hB : B ≤ 31) (w0 : World) : Calls Try.prog 10 #[.agg #[.int .i64 2, .int .i64 (K : Int), .int .i64 (B : Int)]] w0 fun e w' => e = .returned (.agg (nums .u32 (diffR (rowR true K B) 80))) ∧ Low w0 w' := by
  refine c_fun (R := _) Try.func10 rfl 164 rfl (Nat.le_of_ble_eq_true rfl) ?_
  intro a z hA
  have s0 := hA 0 _ rfl
  clear hA
  refine c_seq ?_
  refine c_region ?_
  refine l_box rfl rfl s0.ev ?_
  intro g1 w1 hg1 k1 h1
  have geg1 := Nat.le_trans (Low.refl _).ge hg1
  refine l_alloc rfl rfl zero31 ?_
  intro g2 w2 hg2 k2 h2
  have lt_g1_g2 := Nat.lt_of_lt_of_le (heap_lt k1) hg2
  have geg2 := Nat.le_trans h1.ge hg2
  have kg1_2 := h2.blk k1
  refine l_end ?_
  refine e_fresh z.put.put ?_
  intro a3 z3 m3
  have s1_3 := m3 _ _ ((At.hit z rfl).ne rfl)
  have s2_3 := m3 _ _ (At.hit z.put rfl)
  have low3 := (h1.trans h2)
  clear m3
  refine e_then ?_
  refine c_seq ?_
  refine c_region ?_
  refine l_alloc rfl rfl zero31 ?_
  intro g3 w4 hg4 k4 h4
  have lt_g1_g3 := Nat.lt_of_lt_of_le (heap_lt kg1_2) hg4
  have lt_g2_g3 := Nat.lt_of_lt_of_le (heap_lt k2) hg4
  have geg3 := Nat.le_trans low3.ge hg4
  have kg1_4 := h4.blk kg1_2
  have kg2_4 := h4.blk k2
  refine l_end ?_
  refine e_fresh z3.put ?_
  intro a5 z5 m5
  have s1_5 := m5 _ _ (s1_3.ne rfl)
  have s2_5 := m5 _ _ (s2_3.ne rfl)
  have s3_5 := m5 _ _ (At.hit z3 rfl)
  have low5 := (low3.trans h4)
  clear m5
  refine e_then ?_
  refine c_seq ?_
  refine c_seq ?_
  refine c_region ?_
  refine l_q rfl (q_fld 0 rfl (by kernel_rfl) s1_5.ev ?_)
  refine l_q rfl (q_cell (.int .i64 2) rfl Try.underlying3 (At.hit z5 rfl).ev (fun _ e => by rw [e]; exact (cells_at kg1_4 0).trans rfl) ?_)
  refine l_q rfl (q_neq true rfl (At.hit z5.put rfl).ev rfl (decide_eq_true (by omega)) ?_)
  refine l_q rfl (q_move _ _ rfl (At.hit z5.put.put rfl).ev ?_)
  refine l_qg (wanted_is (j := 3) (d := 12) (b := true) rfl rfl (At.hit z5.put.put.put rfl) rfl) (q_fld 0 rfl (by kernel_rfl) ((((s1_5.ne rfl).ne rfl).ne rfl).ne rfl).ev ?_)
  refine l_qg (wanted_is (j := 3) (d := 12) (b := true) rfl rfl ((At.hit z5.put.put.put rfl).ne rfl) rfl) (q_cell (.int .i64 2) rfl Try.underlying3 (At.hit z5.put.put.put.put rfl).ev (fun _ e => by rw [e]; exact (cells_at kg1_4 0).trans rfl) ?_)
  refine l_qg (wanted_is (j := 3) (d := 12) (b := true) rfl rfl (((At.hit z5.put.put.put rfl).ne rfl).ne rfl) rfl) (q_neq false rfl (At.hit z5.put.put.put.put.put rfl).ev rfl (decide_eq_false (by omega)) ?_)
  refine l_q rfl (q_pick (b := true) (.bool false) rfl ((((At.hit z5.put.put.put rfl).ne rfl).ne rfl).ne rfl).ev (At.hit z5.put.put.put.put.put.put rfl).ev ?_)
  refine l_fresh z5.put.put.put.put.put.put.put.put ?_
  intro a6 z6 m6
  have s1_6 := m6 _ _ ((((((((s1_5.ne rfl).ne rfl).ne rfl).ne rfl).ne rfl).ne rfl).ne rfl).ne rfl)
  have s2_6 := m6 _ _ ((((((((s2_5.ne rfl).ne rfl).ne rfl).ne rfl).ne rfl).ne rfl).ne rfl).ne rfl)
  have s3_6 := m6 _ _ ((((((((s3_5.ne rfl).ne rfl).ne rfl).ne rfl).ne rfl).ne rfl).ne rfl).ne rfl)
  have s16_6 := m6 _ _ (At.hit z5.put.put.put.put.put.put.put rfl)
  clear m6
  refine l_q rfl (q_move _ _ rfl s16_6.ev ?_)
  refine l_qg (wanted_is (j := 8) (d := 17) (b := false) rfl rfl (At.hit z6 rfl) rfl) (q_fld 1 rfl (by kernel_rfl) (s1_6.ne rfl).ev ?_)
  refine l_qg (wanted_is (j := 8) (d := 17) (b := false) rfl rfl ((At.hit z6 rfl).ne rfl) rfl) (q_cell (.int .i64 ((K : Nat) : Int)) rfl Try.underlying3 (At.hit z6.put rfl).ev (fun _ e => by rw [e]; exact (cells_at kg1_4 1).trans rfl) ?_)
  refine l_qg (wanted_is (j := 8) (d := 17) (b := false) rfl rfl (((At.hit z6 rfl).ne rfl).ne rfl) rfl) (q_lss false rfl (At.hit z6.put.put rfl).ev rfl (decide_eq_false (by omega)) ?_)
  refine l_q rfl (q_pick (b := false) (.bool false) rfl ((((At.hit z6 rfl).ne rfl).ne rfl).ne rfl).ev (At.hit z6.put.put.put rfl).ev ?_)
  refine l_q rfl (q_move _ _ rfl (At.hit z6.put.put.put.put rfl).ev ?_)
  refine l_qg (wanted_is (j := 13) (d := 22) (b := false) rfl rfl (At.hit z6.put.put.put.put.put rfl) rfl) (q_fld 1 rfl (by kernel_rfl) ((((((s1_6.ne rfl).ne rfl).ne rfl).ne rfl).ne rfl).ne rfl).ev ?_)
  refine l_qg (wanted_is (j := 13) (d := 22) (b := false) rfl rfl ((At.hit z6.put.put.put.put.put rfl).ne rfl) rfl) (q_cell (.int .i64 ((K : Nat) : Int)) rfl Try.underlying3 (At.hit z6.put.put.put.put.put.put rfl).ev (fun _ e => by rw [e]; exact (cells_at kg1_4 1).trans rfl) ?_)
  refine l_fresh z6.put.put.put.put.put.put.put.put ?_
  intro a7 z7 m7
  have s1_7 := m7 _ _ ((((((((s1_6.ne rfl).ne rfl).ne rfl).ne rfl).ne rfl).ne rfl).ne rfl).ne rfl)
  have s2_7 := m7 _ _ ((((((((s2_6.ne rfl).ne rfl).ne rfl).ne rfl).ne rfl).ne rfl).ne rfl).ne rfl)
  have s3_7 := m7 _ _ ((((((((s3_6.ne rfl).ne rfl).ne rfl).ne rfl).ne rfl).ne rfl).ne rfl).ne rfl)
  have s22_7 := m7 _ _ (((At.hit z6.put.put.put.put.put rfl).ne rfl).ne rfl)
  have s24_7 := m7 _ _ (At.hit z6.put.put.put.put.put.put.put rfl)
  clear m7
  refine l_qg (wanted_is (j := 13) (d := 22) (b := false) rfl rfl s22_7 rfl) (q_gtr false rfl s24_7.ev rfl (decide_eq_false (by omega)) ?_)
  refine l_q rfl (q_pick (b := false) (.bool false) rfl (s22_7.ne rfl).ev (At.hit z7 rfl).ev ?_)
  refine l_q rfl (q_move _ _ rfl (At.hit z7.put rfl).ev ?_)
  refine l_qg (wanted_is (j := 18) (d := 27) (b := false) rfl rfl (At.hit z7.put.put rfl) rfl) (q_fld 2 rfl (by kernel_rfl) (((s1_7.ne rfl).ne rfl).ne rfl).ev ?_)
  refine l_qg (wanted_is (j := 18) (d := 27) (b := false) rfl rfl ((At.hit z7.put.put rfl).ne rfl) rfl) (q_cell (.int .i64 ((B : Nat) : Int)) rfl Try.underlying3 (At.hit z7.put.put.put rfl).ev (fun _ e => by rw [e]; exact (cells_at kg1_4 2).trans rfl) ?_)
  refine l_qg (wanted_is (j := 18) (d := 27) (b := false) rfl rfl (((At.hit z7.put.put rfl).ne rfl).ne rfl) rfl) (q_lss false rfl (At.hit z7.put.put.put.put rfl).ev rfl (decide_eq_false (by omega)) ?_)
  refine l_q rfl (q_pick (b := false) (.bool false) rfl ((((At.hit z7.put.put rfl).ne rfl).ne rfl).ne rfl).ev (At.hit z7.put.put.put.put.put rfl).ev ?_)
  refine l_q rfl (q_move _ _ rfl (At.hit z7.put.put.put.put.put.put rfl).ev ?_)
  refine l_fresh z7.put.put.put.put.put.put.put.put ?_
  intro a8 z8 m8
  have s1_8 := m8 _ _ ((((((((s1_7.ne rfl).ne rfl).ne rfl).ne rfl).ne rfl).ne rfl).ne rfl).ne rfl)
  have s2_8 := m8 _ _ ((((((((s2_7.ne rfl).ne rfl).ne rfl).ne rfl).ne rfl).ne rfl).ne rfl).ne rfl)
  have s3_8 := m8 _ _ ((((((((s3_7.ne rfl).ne rfl).ne rfl).ne rfl).ne rfl).ne rfl).ne rfl).ne rfl)
  have s32_8 := m8 _ _ (At.hit z7.put.put.put.put.put.put.put rfl)
  clear m8
  refine l_qg (wanted_is (j := 23) (d := 32) (b := false) rfl rfl s32_8 rfl) (q_fld 2 rfl (by kernel_rfl) s1_8.ev ?_)
  refine l_qg (wanted_is (j := 23) (d := 32) (b := false) rfl rfl (s32_8.ne rfl) rfl) (q_cell (.int .i64 ((B : Nat) : Int)) rfl Try.underlying3 (At.hit z8 rfl).ev (fun _ e => by rw [e]; exact (cells_at kg1_4 2).trans rfl) ?_)
  refine l_qg (wanted_is (j := 23) (d := 32) (b := false) rfl rfl ((s32_8.ne rfl).ne rfl) rfl) (q_gtr false rfl (At.hit z8.put rfl).ev rfl (decide_eq_false (by omega)) ?_)
  refine l_q rfl (q_pick (b := false) (.bool false) rfl (((s32_8.ne rfl).ne rfl).ne rfl).ev (At.hit z8.put.put rfl).ev ?_)
  refine l_end ?_
  refine e_fresh z8.put.put.put.put ?_
  intro a9 z9 m9
  have s1_9 := m9 _ _ ((((s1_8.ne rfl).ne rfl).ne rfl).ne rfl)
  have s2_9 := m9 _ _ ((((s2_8.ne rfl).ne rfl).ne rfl).ne rfl)
  have s3_9 := m9 _ _ ((((s3_8.ne rfl).ne rfl).ne rfl).ne rfl)
  have s36_9 := m9 _ _ (At.hit z8.put.put.put rfl)
  clear m9
  refine e_then ?_
  refine c_false s36_9 ?_
  refine wp_skip ?_
  refine e_then ?_
  refine c_seq ?_
  refine c_region ?_
  refine l_alloc rfl rfl zero48 ?_
  intro g4 w10 hg10 k10 h10
  have lt_g1_g4 := Nat.lt_of_lt_of_le (heap_lt kg1_4) hg10
  have lt_g2_g4 := Nat.lt_of_lt_of_le (heap_lt kg2_4) hg10
  have lt_g3_g4 := Nat.lt_of_lt_of_le (heap_lt k4) hg10
  have geg4 := Nat.le_trans low5.ge hg10
  have kg1_10 := h10.blk kg1_4
  have kg2_10 := h10.blk kg2_4
  have kg3_10 := h10.blk k4
  refine l_end ?_
  refine e_fresh z9.put ?_
  intro a11 z11 m11
  have s1_11 := m11 _ _ (s1_9.ne rfl)
  have s2_11 := m11 _ _ (s2_9.ne rfl)
  have s3_11 := m11 _ _ (s3_9.ne rfl)
  have s4_11 := m11 _ _ (At.hit z9 rfl)
  have low11 := (low5.trans h10)
  clear m11
  refine e_then ?_
  refine c_seq ?_
  refine c_region ?_
  refine l_q rfl (q_fld 1 rfl (by kernel_rfl) s1_11.ev ?_)
  refine l_q rfl (q_cell (.int .i64 ((K : Nat) : Int)) rfl Try.underlying3 (At.hit z11 rfl).ev (fun _ e => by rw [e]; exact (cells_at kg1_10 1).trans rfl) ?_)
  refine l_q rfl (q_add (((K + 5 : Nat) : Int)) rfl (At.hit z11.put rfl).ev rfl (i64_is (by omega) (by omega) (by omega)) ?_)
  refine l_q rfl (q_assign _ _ rfl (At.hit z11.put.put rfl).ev ?_)
  refine l_end ?_
  refine e_fresh z11.put.put.put.put ?_
  intro a12 z12 m12
  have s1_12 := m12 _ _ ((((s1_11.ne rfl).ne rfl).ne rfl).ne rfl)
  have s2_12 := m12 _ _ ((((s2_11.ne rfl).ne rfl).ne rfl).ne rfl)
  have s3_12 := m12 _ _ ((((s3_11.ne rfl).ne rfl).ne rfl).ne rfl)
  have s4_12 := m12 _ _ ((((s4_11.ne rfl).ne rfl).ne rfl).ne rfl)
  have s5_12 := m12 _ _ (At.hit z11.put.put.put rfl)
  clear m12
  refine e_then ?_
  refine c_seq ?_
  refine c_region ?_
  refine l_q rfl (q_move _ _ rfl s5_12.ev ?_)
  refine l_q rfl (q_add (((K + 20 : Nat) : Int)) rfl (At.hit z12 rfl).ev rfl (i64_is (by omega) (by omega) (by omega)) ?_)
  refine l_q rfl (q_fld 2 rfl (by kernel_rfl) ((s1_12.ne rfl).ne rfl).ev ?_)
  refine l_q rfl (q_cell (.int .i64 ((B : Nat) : Int)) rfl Try.underlying3 (At.hit z12.put.put rfl).ev (fun _ e => by rw [e]; exact (cells_at kg1_10 2).trans rfl) ?_)
  refine l_q rfl (q_conv _ rfl (At.hit z12.put.put.put rfl).ev Try.underlying3 Try.underlying51 rfl ?_)
  refine l_q rfl (q_shl (IntKind.u32.wrap (1 * 2 ^ min (IntKind.u64.wrap ((B : Nat) : Int) : Int).toNat 32)) rfl rfl (At.hit z12.put.put.put.put rfl).ev (by first | omega | exact u64_nonneg _) rfl ?_)
  refine l_q rfl (q_idx (j := K + 20) rfl Try.underlying48 sz30 ((((((s4_12.ne rfl).ne rfl).ne rfl).ne rfl).ne rfl).ne rfl).ev (((((At.hit z12.put rfl).ne rfl).ne rfl).ne rfl).ne rfl).ev (by omega) ?_)
  refine l_cell (j := (K + 20)) (v := .int .u32 (IntKind.u32.wrap (1 * 2 ^ min (IntKind.u64.wrap ((B : Nat) : Int) : Int).toNat 32))) rfl rfl rfl sz30 (At.hit z12.put.put.put.put.put.put rfl).ev ((At.hit z12.put.put.put.put.put rfl).ne rfl).ev rfl k10 (by rw [(nums_size _ _).trans (List.length_replicate)]; omega) ?_
  intro w13 k13 u13
  rw [nums_put] at k13
  have kg1_13 := u13.blk kg1_10 (by omega)
  have kg2_13 := u13.blk kg2_10 (by omega)
  have kg3_13 := u13.blk kg3_10 (by omega)
  refine l_end ?_
  refine e_fresh z12.put.put.put.put.put.put.put ?_
  intro a14 z14 m14
  have s1_14 := m14 _ _ (((((((s1_12.ne rfl).ne rfl).ne rfl).ne rfl).ne rfl).ne rfl).ne rfl)
  have s2_14 := m14 _ _ (((((((s2_12.ne rfl).ne rfl).ne rfl).ne rfl).ne rfl).ne rfl).ne rfl)
  have s3_14 := m14 _ _ (((((((s3_12.ne rfl).ne rfl).ne rfl).ne rfl).ne rfl).ne rfl).ne rfl)
  have s4_14 := m14 _ _ (((((((s4_12.ne rfl).ne rfl).ne rfl).ne rfl).ne rfl).ne rfl).ne rfl)
  have s5_14 := m14 _ _ (((((((s5_12.ne rfl).ne rfl).ne rfl).ne rfl).ne rfl).ne rfl).ne rfl)
  have low14 := (low11.upd u13 geg4)
  clear m14
  refine e_then ?_
  refine c_seq ?_
  refine c_seq ?_
  refine c_region ?_
  refine l_q rfl (q_fld 0 rfl (by kernel_rfl) s1_14.ev ?_)
  refine l_q rfl (q_cell (.int .i64 2) rfl Try.underlying3 (At.hit z14 rfl).ev (fun _ e => by rw [e]; exact (cells_at kg1_13 0).trans rfl) ?_)
  refine l_q rfl (q_eql true rfl (At.hit z14.put rfl).ev rfl (decide_eq_true (by omega)) ?_)
  refine l_end ?_
  refine e_fresh z14.put.put.put ?_
  intro a15 z15 m15
  have s1_15 := m15 _ _ (((s1_14.ne rfl).ne rfl).ne rfl)
  have s2_15 := m15 _ _ (((s2_14.ne rfl).ne rfl).ne rfl)
  have s3_15 := m15 _ _ (((s3_14.ne rfl).ne rfl).ne rfl)
  have s4_15 := m15 _ _ (((s4_14.ne rfl).ne rfl).ne rfl)
  have s5_15 := m15 _ _ (((s5_14.ne rfl).ne rfl).ne rfl)
  have s50_15 := m15 _ _ (At.hit z14.put.put rfl)
  clear m15
  refine e_then ?_
  refine c_true s50_15 ?_
  refine c_seq ?_
  refine c_region ?_
  refine l_q rfl (q_move _ _ rfl s5_15.ev ?_)
  refine l_q rfl (q_add (((K + 6 : Nat) : Int)) rfl (At.hit z15 rfl).ev rfl (i64_is (by omega) (by omega) (by omega)) ?_)
  refine l_q rfl (q_fld 2 rfl (by kernel_rfl) ((s1_15.ne rfl).ne rfl).ev ?_)
  refine l_q rfl (q_cell (.int .i64 ((B : Nat) : Int)) rfl Try.underlying3 (At.hit z15.put.put rfl).ev (fun _ e => by rw [e]; exact (cells_at kg1_13 2).trans rfl) ?_)
  refine l_q rfl (q_add (((B + 31 : Nat) : Int)) rfl rfl (At.hit z15.put.put.put rfl).ev (i64_is (by omega) (by omega) (by omega)) ?_)
  refine l_q rfl (q_rem (m := B + 31) (n := 32) (by omega) rfl (At.hit z15.put.put.put.put rfl).ev rfl ?_)
  refine l_q rfl (q_conv _ rfl (At.hit z15.put.put.put.put.put rfl).ev Try.underlying3 Try.underlying51 rfl ?_)
  refine l_q rfl (q_shl (IntKind.u32.wrap (1 * 2 ^ min (IntKind.u64.wrap ((((B + 31) % 32) : Nat) : Int) : Int).toNat 32)) rfl rfl (At.hit z15.put.put.put.put.put.put rfl).ev (by first | omega | exact u64_nonneg _) rfl ?_)
  refine l_fresh z15.put.put.put.put.put.put.put.put ?_
  intro a16 z16 m16
  have s1_16 := m16 _ _ ((((((((s1_15.ne rfl).ne rfl).ne rfl).ne rfl).ne rfl).ne rfl).ne rfl).ne rfl)
  have s2_16 := m16 _ _ ((((((((s2_15.ne rfl).ne rfl).ne rfl).ne rfl).ne rfl).ne rfl).ne rfl).ne rfl)
  have s3_16 := m16 _ _ ((((((((s3_15.ne rfl).ne rfl).ne rfl).ne rfl).ne rfl).ne rfl).ne rfl).ne rfl)
  have s4_16 := m16 _ _ ((((((((s4_15.ne rfl).ne rfl).ne rfl).ne rfl).ne rfl).ne rfl).ne rfl).ne rfl)
  have s5_16 := m16 _ _ ((((((((s5_15.ne rfl).ne rfl).ne rfl).ne rfl).ne rfl).ne rfl).ne rfl).ne rfl)
  have s52_16 := m16 _ _ (((((((At.hit z15.put rfl).ne rfl).ne rfl).ne rfl).ne rfl).ne rfl).ne rfl)
  have s58_16 := m16 _ _ (At.hit z15.put.put.put.put.put.put.put rfl)
  clear m16
  refine l_q rfl (q_idx (j := K + 6) rfl Try.underlying48 sz30 s4_16.ev s52_16.ev (by omega) ?_)
  refine l_cell (j := (K + 6)) (v := .int .u32 (IntKind.u32.wrap (1 * 2 ^ min (IntKind.u64.wrap ((((B + 31) % 32) : Nat) : Int) : Int).toNat 32))) rfl rfl rfl sz30 (At.hit z16 rfl).ev (s58_16.ne rfl).ev rfl k13 (by rw [(nums_size _ _).trans ((List.length_set ..).trans (List.length_replicate))]; omega) ?_
  intro w17 k17 u17
  rw [nums_put] at k17
  have kg1_17 := u17.blk kg1_13 (by omega)
  have kg2_17 := u17.blk kg2_13 (by omega)
  have kg3_17 := u17.blk kg3_13 (by omega)
  refine l_end ?_
  refine e_fresh z16.put ?_
  intro a18 z18 m18
  have s1_18 := m18 _ _ (s1_16.ne rfl)
  have s2_18 := m18 _ _ (s2_16.ne rfl)
  have s3_18 := m18 _ _ (s3_16.ne rfl)
  have s4_18 := m18 _ _ (s4_16.ne rfl)
  have s5_18 := m18 _ _ (s5_16.ne rfl)
  have low18 := (low14.upd u17 geg4)
  clear m18
  refine e_then ?_
  refine c_region ?_
  refine l_q rfl (q_move _ _ rfl s5_18.ev ?_)
  refine l_q rfl (q_add (((K + 8 : Nat) : Int)) rfl (At.hit z18 rfl).ev rfl (i64_is (by omega) (by omega) (by omega)) ?_)
  refine l_q rfl (q_fld 2 rfl (by kernel_rfl) ((s1_18.ne rfl).ne rfl).ev ?_)
  refine l_q rfl (q_cell (.int .i64 ((B : Nat) : Int)) rfl Try.underlying3 (At.hit z18.put.put rfl).ev (fun _ e => by rw [e]; exact (cells_at kg1_17 2).trans rfl) ?_)
  refine l_q rfl (q_add (((B + 31 : Nat) : Int)) rfl rfl (At.hit z18.put.put.put rfl).ev (i64_is (by omega) (by omega) (by omega)) ?_)
  refine l_q rfl (q_rem (m := B + 31) (n := 32) (by omega) rfl (At.hit z18.put.put.put.put rfl).ev rfl ?_)
  refine l_q rfl (q_conv _ rfl (At.hit z18.put.put.put.put.put rfl).ev Try.underlying3 Try.underlying51 rfl ?_)
  refine l_q rfl (q_shl (IntKind.u32.wrap (1 * 2 ^ min (IntKind.u64.wrap ((((B + 31) % 32) : Nat) : Int) : Int).toNat 32)) rfl rfl (At.hit z18.put.put.put.put.put.put rfl).ev (by first | omega | exact u64_nonneg _) rfl ?_)
  refine l_fresh z18.put.put.put.put.put.put.put.put ?_
  intro a19 z19 m19
  have s2_19 := m19 _ _ ((((((((s2_18.ne rfl).ne rfl).ne rfl).ne rfl).ne rfl).ne rfl).ne rfl).ne rfl)
  have s3_19 := m19 _ _ ((((((((s3_18.ne rfl).ne rfl).ne rfl).ne rfl).ne rfl).ne rfl).ne rfl).ne rfl)
  have s4_19 := m19 _ _ ((((((((s4_18.ne rfl).ne rfl).ne rfl).ne rfl).ne rfl).ne rfl).ne rfl).ne rfl)
  have s5_19 := m19 _ _ ((((((((s5_18.ne rfl).ne rfl).ne rfl).ne rfl).ne rfl).ne rfl).ne rfl).ne rfl)
  have s61_19 := m19 _ _ (((((((At.hit z18.put rfl).ne rfl).ne rfl).ne rfl).ne rfl).ne rfl).ne rfl)
  have s67_19 := m19 _ _ (At.hit z18.put.put.put.put.put.put.put rfl)
  clear m19
  refine l_q rfl (q_idx (j := K + 8) rfl Try.underlying48 sz30 s4_19.ev s61_19.ev (by omega) ?_)
  refine l_cell (j := (K + 8)) (v := .int .u32 (IntKind.u32.wrap (1 * 2 ^ min (IntKind.u64.wrap ((((B + 31) % 32) : Nat) : Int) : Int).toNat 32))) rfl rfl rfl sz30 (At.hit z19 rfl).ev (s67_19.ne rfl).ev rfl k17 (by rw [(nums_size _ _).trans ((List.length_set ..).trans ((List.length_set ..).trans (List.length_replicate)))]; omega) ?_
  intro w20 k20 u20
  rw [nums_put] at k20
  have kg1_20 := u20.blk kg1_17 (by omega)
  have kg2_20 := u20.blk kg2_17 (by omega)
  have kg3_20 := u20.blk kg3_17 (by omega)
  refine l_end ?_
  refine e_fresh z19.put ?_
  intro a21 z21 m21
  have s2_21 := m21 _ _ (s2_19.ne rfl)
  have s3_21 := m21 _ _ (s3_19.ne rfl)
  have s4_21 := m21 _ _ (s4_19.ne rfl)
  have s5_21 := m21 _ _ (s5_19.ne rfl)
  have low21 := (low18.upd u20 geg4)
  clear m21
  refine e_then ?_
  refine c_seq ?_
  refine c_seq ?_
  refine c_region ?_
  refine l_q rfl (q_move _ _ rfl s5_21.ev ?_)
  refine l_q rfl (q_add (((K + 21 : Nat) : Int)) rfl (At.hit z21 rfl).ev rfl (i64_is (by omega) (by omega) (by omega)) ?_)
  refine l_q rfl (q_assign _ _ rfl (At.hit z21.put rfl).ev ?_)
  refine l_end ?_
  refine e_fresh z21.put.put.put ?_
  intro a22 z22 m22
  have s2_22 := m22 _ _ (((s2_21.ne rfl).ne rfl).ne rfl)
  have s3_22 := m22 _ _ (((s3_21.ne rfl).ne rfl).ne rfl)
  have s4_22 := m22 _ _ (((s4_21.ne rfl).ne rfl).ne rfl)
  have s5_22 := m22 _ _ (((s5_21.ne rfl).ne rfl).ne rfl)
  have s6_22 := m22 _ _ (At.hit z21.put.put rfl)
  clear m22
  refine e_then ?_
  refine wp_block ?_
  refine c_loop (64 - K) (fun k a w => Fr 164 a ∧ At a 2 (.pointer (some ⟨g2, 0, none⟩)) ∧ At a 3 (.pointer (some ⟨g3, 0, none⟩)) ∧ At a 4 (.pointer (some ⟨g4, 0, none⟩)) ∧ At a 5 (.int .i64 ((K + 5 : Nat) : Int)) ∧ At a 6 (.int .i64 ((k + K + 21 : Nat) : Int)) ∧ w.heap[g2]? = some (.cells (nums .u32 (List.replicate 80 0)) 31) ∧ w.heap[g3]? = some (.cells (nums .u32 (List.replicate 80 0)) 31) ∧ w.heap[g4]? = some (.cells (nums .u32 (up (beginR true K B) K (fun x => rotr x 1) k)) 48) ∧ Low w0 w) ?_ ?_ ?_
  · exact ⟨z22, s2_22, s3_22, s4_22, s5_22, (s6_22.same (congrArg (Value.int .i64) (by omega))), kg2_20, kg3_20, k20, low21⟩
  · intro k a23 w23 hk23 h
    obtain ⟨z23, s2_23, s3_23, s4_23, s5_23, s6_23, kg2_23, kg3_23, kg4_23, low23⟩ := h
    clear k20 kg2_20 kg3_20 low21 s2_22 s3_22 s4_22 s5_22 s6_22 z22
    refine c_seq ?_
    refine c_seq ?_
    refine c_region ?_
    refine l_q rfl (q_move _ _ rfl s6_23.ev ?_)
    refine l_q rfl (q_lss true rfl (At.hit z23 rfl).ev rfl (decide_eq_true (by omega)) ?_)
    refine l_end ?_
    refine e_fresh z23.put.put ?_
    intro a24 z24 m24
    have s2_24 := m24 _ _ ((s2_23.ne rfl).ne rfl)
    have s3_24 := m24 _ _ ((s3_23.ne rfl).ne rfl)
    have s4_24 := m24 _ _ ((s4_23.ne rfl).ne rfl)
    have s5_24 := m24 _ _ ((s5_23.ne rfl).ne rfl)
    have s6_24 := m24 _ _ ((s6_23.ne rfl).ne rfl)
    have s72_24 := m24 _ _ (At.hit z23.put rfl)
    clear m24
    refine e_then ?_
    refine c_true s72_24 ?_
    refine wp_skip ?_
    refine e_then ?_
    refine c_seq ?_
    refine wp_block ?_
    refine region_low_tail 22 hm (by kernel_rfl) ?_
    simp only [List.take_succ_cons, List.take_zero, List.drop_succ_cons, List.drop_zero]
    refine qs (q_move _ _ rfl s6_24.ev ?_)
    refine qs (q_move _ _ rfl (s6_24.ne rfl).ev ?_)
    refine qs (q_sub (((k + K + 18 : Nat) : Int)) rfl (At.hit z24.put rfl).ev rfl (i64_is (by omega) (by omega) (by omega)) ?_)
    refine qs (q_idx (j := k + K + 18) rfl Try.underlying48 sz30 (((s4_24.ne rfl).ne rfl).ne rfl).ev (At.hit z24.put.put rfl).ev (by omega) ?_)
    refine qs (q_cell (.int .u32 ((up (beginR true K B) K (fun x => rotr x 1) k).getD (k + K + 18) 0)) rfl Try.underlying30 (At.hit z24.put.put.put rfl).ev (fun _ h => nums_cell (h.blk kg4_23) (k + K + 18) (by rw [(up_len _ K _ (beginR_len true K B) _)]; omega)) ?_)
    refine qs (q_move _ _ rfl (((((s6_24.ne rfl).ne rfl).ne rfl).ne rfl).ne rfl).ev ?_)
    refine qs (q_sub (((k + K + 13 : Nat) : Int)) rfl (At.hit z24.put.put.put.put.put rfl).ev rfl (i64_is (by omega) (by omega) (by omega)) ?_)
    refine qs (q_idx (j := k + K + 13) rfl Try.underlying48 sz30 (((((((s4_24.ne rfl).ne rfl).ne rfl).ne rfl).ne rfl).ne rfl).ne rfl).ev (At.hit z24.put.put.put.put.put.put rfl).ev (by omega) ?_)
    refine q_fresh z24.put.put.put.put.put.put.put.put ?_
    intro a25 z25 m25
    have s2_25 := m25 _ _ ((((((((s2_24.ne rfl).ne rfl).ne rfl).ne rfl).ne rfl).ne rfl).ne rfl).ne rfl)
    have s3_25 := m25 _ _ ((((((((s3_24.ne rfl).ne rfl).ne rfl).ne rfl).ne rfl).ne rfl).ne rfl).ne rfl)
    have s4_25 := m25 _ _ ((((((((s4_24.ne rfl).ne rfl).ne rfl).ne rfl).ne rfl).ne rfl).ne rfl).ne rfl)
    have s5_25 := m25 _ _ ((((((((s5_24.ne rfl).ne rfl).ne rfl).ne rfl).ne rfl).ne rfl).ne rfl).ne rfl)
    have s6_25 := m25 _ _ ((((((((s6_24.ne rfl).ne rfl).ne rfl).ne rfl).ne rfl).ne rfl).ne rfl).ne rfl)
    have s75_25 := m25 _ _ ((((((((At.hit z24 rfl).ne rfl).ne rfl).ne rfl).ne rfl).ne rfl).ne rfl).ne rfl)
    have s79_25 := m25 _ _ ((((At.hit z24.put.put.put.put rfl).ne rfl).ne rfl).ne rfl)
    have s82_25 := m25 _ _ (At.hit z24.put.put.put.put.put.put.put rfl)
    clear m25
    refine qs (q_cell (.int .u32 ((up (beginR true K B) K (fun x => rotr x 1) k).getD (k + K + 13) 0)) rfl Try.underlying30 s82_25.ev (fun _ h => nums_cell (h.blk kg4_23) (k + K + 13) (by rw [(up_len _ K _ (beginR_len true K B) _)]; omega)) ?_)
    refine qs (q_xor rfl (s79_25.ne rfl).ev (At.hit z25 rfl).ev ?_)
    refine qs (q_move _ _ rfl ((s6_25.ne rfl).ne rfl).ev ?_)
    refine qs (q_sub (((k + K + 7 : Nat) : Int)) rfl (At.hit z25.put.put rfl).ev rfl (i64_is (by omega) (by omega) (by omega)) ?_)
    refine qs (q_idx (j := k + K + 7) rfl Try.underlying48 sz30 ((((s4_25.ne rfl).ne rfl).ne rfl).ne rfl).ev (At.hit z25.put.put.put rfl).ev (by omega) ?_)
    refine qs (q_cell (.int .u32 ((up (beginR true K B) K (fun x => rotr x 1) k).getD (k + K + 7) 0)) rfl Try.underlying30 (At.hit z25.put.put.put.put rfl).ev (fun _ h => nums_cell (h.blk kg4_23) (k + K + 7) (by rw [(up_len _ K _ (beginR_len true K B) _)]; omega)) ?_)
    refine qs (q_xor rfl (((((At.hit z25.put rfl).ne rfl).ne rfl).ne rfl).ne rfl).ev (At.hit z25.put.put.put.put.put rfl).ev ?_)
    refine qs (q_move _ _ rfl (((((((s6_25.ne rfl).ne rfl).ne rfl).ne rfl).ne rfl).ne rfl).ne rfl).ev ?_)
    refine q_fresh z25.put.put.put.put.put.put.put.put ?_
    intro a26 z26 m26
    have s2_26 := m26 _ _ ((((((((s2_25.ne rfl).ne rfl).ne rfl).ne rfl).ne rfl).ne rfl).ne rfl).ne rfl)
    have s3_26 := m26 _ _ ((((((((s3_25.ne rfl).ne rfl).ne rfl).ne rfl).ne rfl).ne rfl).ne rfl).ne rfl)
    have s4_26 := m26 _ _ ((((((((s4_25.ne rfl).ne rfl).ne rfl).ne rfl).ne rfl).ne rfl).ne rfl).ne rfl)
    have s5_26 := m26 _ _ ((((((((s5_25.ne rfl).ne rfl).ne rfl).ne rfl).ne rfl).ne rfl).ne rfl).ne rfl)
    have s6_26 := m26 _ _ ((((((((s6_25.ne rfl).ne rfl).ne rfl).ne rfl).ne rfl).ne rfl).ne rfl).ne rfl)
    have s75_26 := m26 _ _ ((((((((s75_25.ne rfl).ne rfl).ne rfl).ne rfl).ne rfl).ne rfl).ne rfl).ne rfl)
    have s89_26 := m26 _ _ ((At.hit z25.put.put.put.put.put.put rfl).ne rfl)
    have s90_26 := m26 _ _ (At.hit z25.put.put.put.put.put.put.put rfl)
    clear m26
    refine qs (q_sub (((k + K + 5 : Nat) : Int)) rfl s90_26.ev rfl (i64_is (by omega) (by omega) (by omega)) ?_)
    refine qs (q_idx (j := k + K + 5) rfl Try.underlying48 sz30 (s4_26.ne rfl).ev (At.hit z26 rfl).ev (by omega) ?_)
    refine qs (q_cell (.int .u32 ((up (beginR true K B) K (fun x => rotr x 1) k).getD (k + K + 5) 0)) rfl Try.underlying30 (At.hit z26.put rfl).ev (fun _ h => nums_cell (h.blk kg4_23) (k + K + 5) (by rw [(up_len _ K _ (beginR_len true K B) _)]; omega)) ?_)
    refine qs (q_xor rfl (((s89_26.ne rfl).ne rfl).ne rfl).ev (At.hit z26.put.put rfl).ev ?_)
    refine qs (q_call (.int .u32 (rotr (Go.bits .xor .u32 (Go.bits .xor .u32 (Go.bits .xor .u32 ((up (beginR true K B) K (fun x => rotr x 1) k).getD (k + K + 18) 0) ((up (beginR true K B) K (fun x => rotr x 1) k).getD (k + K + 13) 0)) ((up (beginR true K B) K (fun x => rotr x 1) k).getD (k + K + 7) 0)) ((up (beginR true K B) K (fun x => rotr x 1) k).getD (k + K + 5) 0)) 1)) rfl rfl Try.func22 rfl (args2 rfl (At.hit z26.put.put.put rfl).ev rfl) (fun _ h => (RotR.calls (Go.bits .xor .u32 (Go.bits .xor .u32 (Go.bits .xor .u32 ((up (beginR true K B) K (fun x => rotr x 1) k).getD (k + K + 18) 0) ((up (beginR true K B) K (fun x => rotr x 1) k).getD (k + K + 13) 0)) ((up (beginR true K B) K (fun x => rotr x 1) k).getD (k + K + 7) 0)) ((up (beginR true K B) K (fun x => rotr x 1) k).getD (k + K + 5) 0)) 1 (by omega) _).mono fun _ _ ⟨e, k⟩ => ⟨e, h.trans k⟩) ?_)
    refine qs (q_idx (j := k + K + 21) rfl Try.underlying48 sz30 (((((s4_26.ne rfl).ne rfl).ne rfl).ne rfl).ne rfl).ev (((((s75_26.ne rfl).ne rfl).ne rfl).ne rfl).ne rfl).ev (by omega) ?_)
    refine qz ?_
    intro w27 h27
    have kg2_27 := h27.blk kg2_23
    have kg3_27 := h27.blk kg3_23
    have kg4_27 := h27.blk kg4_23
    refine l_cell (j := (k + K + 21)) (v := .int .u32 (rotr (Go.bits .xor .u32 (Go.bits .xor .u32 (Go.bits .xor .u32 ((up (beginR true K B) K (fun x => rotr x 1) k).getD (k + K + 18) 0) ((up (beginR true K B) K (fun x => rotr x 1) k).getD (k + K + 13) 0)) ((up (beginR true K B) K (fun x => rotr x 1) k).getD (k + K + 7) 0)) ((up (beginR true K B) K (fun x => rotr x 1) k).getD (k + K + 5) 0)) 1)) rfl rfl rfl sz30 (At.hit z26.put.put.put.put.put rfl).ev ((At.hit z26.put.put.put.put rfl).ne rfl).ev rfl kg4_27 (by rw [(nums_size _ _).trans (up_len _ K _ (beginR_len true K B) _)]; omega) ?_
    intro w28 k28 u28
    rw [nums_put] at k28
    have kg2_28 := u28.blk kg2_27 (by omega)
    have kg3_28 := u28.blk kg3_27 (by omega)
    refine l_end ?_
    refine e_fresh z26.put.put.put.put.put.put ?_
    intro a29 z29 m29
    have s2_29 := m29 _ _ ((((((s2_26.ne rfl).ne rfl).ne rfl).ne rfl).ne rfl).ne rfl)
    have s3_29 := m29 _ _ ((((((s3_26.ne rfl).ne rfl).ne rfl).ne rfl).ne rfl).ne rfl)
    have s4_29 := m29 _ _ ((((((s4_26.ne rfl).ne rfl).ne rfl).ne rfl).ne rfl).ne rfl)
    have s5_29 := m29 _ _ ((((((s5_26.ne rfl).ne rfl).ne rfl).ne rfl).ne rfl).ne rfl)
    have s6_29 := m29 _ _ ((((((s6_26.ne rfl).ne rfl).ne rfl).ne rfl).ne rfl).ne rfl)
    have low29 := ((low23.trans h27).upd u28 geg4)
    clear m29
    refine e_in ?_
    refine e_then ?_
    refine c_region ?_
    refine l_q rfl (q_move _ _ rfl s6_29.ev ?_)
    refine l_q rfl (q_add (((k + K + 22 : Nat) : Int)) rfl (At.hit z29 rfl).ev rfl (i64_is (by omega) (by omega) (by omega)) ?_)
    refine l_q rfl (q_assign _ _ rfl (At.hit z29.put rfl).ev ?_)
    refine l_end ?_
    refine e_fresh z29.put.put.put ?_
    intro a30 z30 m30
    have s2_30 := m30 _ _ (((s2_29.ne rfl).ne rfl).ne rfl)
    have s3_30 := m30 _ _ (((s3_29.ne rfl).ne rfl).ne rfl)
    have s4_30 := m30 _ _ (((s4_29.ne rfl).ne rfl).ne rfl)
    have s5_30 := m30 _ _ (((s5_29.ne rfl).ne rfl).ne rfl)
    have s6_30 := m30 _ _ (At.hit z29.put.put rfl)
    clear m30
    exact ⟨z30, s2_30, s3_30, s4_30, s5_30, (s6_30.same (congrArg (Value.int .i64) (by omega))), kg2_28, kg3_28, k28, low29⟩
  · intro a31 w31 h
    obtain ⟨z31, s2_31, s3_31, s4_31, s5_31, s6_31, kg2_31, kg3_31, kg4_31, low31⟩ := h
    clear k20 kg2_20 kg3_20 low21 s2_22 s3_22 s4_22 s5_22 s6_22 z22
    have s6_31 := s6_31.same (congrArg (Value.int .i64) (show _ = (85 : Int) by omega))
    refine c_seq ?_
    refine c_seq ?_
    refine c_region ?_
    refine l_q rfl (q_move _ _ rfl s6_31.ev ?_)
    refine l_q rfl (q_lss false rfl (At.hit z31 rfl).ev rfl (decide_eq_false (by omega)) ?_)
    refine l_end ?_
    refine e_fresh z31.put.put ?_
    intro a32 z32 m32
    have s2_32 := m32 _ _ ((s2_31.ne rfl).ne rfl)
    have s3_32 := m32 _ _ ((s3_31.ne rfl).ne rfl)
    have s4_32 := m32 _ _ ((s4_31.ne rfl).ne rfl)
    have s5_32 := m32 _ _ ((s5_31.ne rfl).ne rfl)
    have s6_32 := m32 _ _ ((s6_31.ne rfl).ne rfl)
    have s72_32 := m32 _ _ (At.hit z31.put rfl)
    clear m32
    refine e_then ?_
    refine c_false s72_32 ?_
    refine wp_exit ?_
    refine x_then ?_
    refine x_then ?_
    refine in_exit ?_
    refine e_then ?_
    refine c_seq ?_
    refine c_seq ?_
    refine c_region ?_
    refine l_q rfl (q_move _ _ rfl s5_32.ev ?_)
    refine l_q rfl (q_add (((K + 20 : Nat) : Int)) rfl (At.hit z32 rfl).ev rfl (i64_is (by omega) (by omega) (by omega)) ?_)
    refine l_q rfl (q_assign _ _ rfl (At.hit z32.put rfl).ev ?_)
    refine l_end ?_
    refine e_fresh z32.put.put.put ?_
    intro a33 z33 m33
    have s2_33 := m33 _ _ (((s2_32.ne rfl).ne rfl).ne rfl)
    have s3_33 := m33 _ _ (((s3_32.ne rfl).ne rfl).ne rfl)
    have s4_33 := m33 _ _ (((s4_32.ne rfl).ne rfl).ne rfl)
    have s7_33 := m33 _ _ (At.hit z32.put.put rfl)
    clear m33
    refine e_then ?_
    refine wp_block ?_
    refine c_loop (K + 5) (fun k a w => Fr 164 a ∧ At a 2 (.pointer (some ⟨g2, 0, none⟩)) ∧ At a 3 (.pointer (some ⟨g3, 0, none⟩)) ∧ At a 4 (.pointer (some ⟨g4, 0, none⟩)) ∧ At a 7 (.int .i64 (((K : Nat) : Int) + 20 - ((k : Nat) : Int))) ∧ w.heap[g2]? = some (.cells (nums .u32 (List.replicate 80 0)) 31) ∧ w.heap[g3]? = some (.cells (nums .u32 (List.replicate 80 0)) 31) ∧ w.heap[g4]? = some (.cells (nums .u32 (dnR (up (beginR true K B) K (fun x => rotr x 1) (64 - K)) K k)) 48) ∧ Low w0 w) ?_ ?_ ?_
    · exact ⟨z33, s2_33, s3_33, s4_33, (s7_33.same (congrArg (Value.int .i64) (by omega))), kg2_31, kg3_31, kg4_31, low31⟩
    · intro k a34 w34 hk34 h
      obtain ⟨z34, s2_34, s3_34, s4_34, s7_34, kg2_34, kg3_34, kg4_34, low34⟩ := h
      clear kg2_31 kg3_31 kg4_31 low31 s2_33 s3_33 s4_33 s7_33 z33
      refine c_seq ?_
      refine c_seq ?_
      refine c_region ?_
      refine l_q rfl (q_move _ _ rfl s7_34.ev ?_)
      refine l_q rfl (q_geq true rfl (At.hit z34 rfl).ev rfl (decide_eq_true (by omega)) ?_)
      refine l_end ?_
      refine e_fresh z34.put.put ?_
      intro a35 z35 m35
      have s2_35 := m35 _ _ ((s2_34.ne rfl).ne rfl)
      have s3_35 := m35 _ _ ((s3_34.ne rfl).ne rfl)
      have s4_35 := m35 _ _ ((s4_34.ne rfl).ne rfl)
      have s7_35 := m35 _ _ ((s7_34.ne rfl).ne rfl)
      have s100_35 := m35 _ _ (At.hit z34.put rfl)
      clear m35
      refine e_then ?_
      refine c_true s100_35 ?_
      refine wp_skip ?_
      refine e_then ?_
      refine c_seq ?_
      refine wp_block ?_
      refine region_low_tail 22 hm (by kernel_rfl) ?_
      simp only [List.take_succ_cons, List.take_zero, List.drop_succ_cons, List.drop_zero]
      refine qs (q_move _ _ rfl s7_35.ev ?_)
      refine qs (q_sub ((((K : Nat) : Int) + 4 - ((k : Nat) : Int))) rfl (At.hit z35 rfl).ev rfl (i64_is (by omega) (by omega) (by omega)) ?_)
      refine qs (q_move _ _ rfl ((s7_35.ne rfl).ne rfl).ev ?_)
      refine qs (q_idx (j := (K + 20) - k) rfl Try.underlying48 sz30 (((s4_35.ne rfl).ne rfl).ne rfl).ev ((At.hit z35.put.put rfl).same (congrArg (Value.int .i64) (show ((((K : Nat) : Int) + 20 - ((k : Nat) : Int)) : Int) = (((K + 20) - k : Nat) : Int) by omega))).ev (by omega) ?_)
      refine qs (q_cell (.int .u32 ((dnR (up (beginR true K B) K (fun x => rotr x 1) (64 - K)) K k).getD ((K + 20) - k) 0)) rfl Try.underlying30 (At.hit z35.put.put.put rfl).ev (fun _ h => nums_cell (h.blk kg4_34) ((K + 20) - k) (by rw [(dnR_len _ K (up_len _ K _ (beginR_len true K B) _) _)]; omega)) ?_)
      refine qs (q_call (.int .u32 (rotr ((dnR (up (beginR true K B) K (fun x => rotr x 1) (64 - K)) K k).getD ((K + 20) - k) 0) 31)) rfl rfl Try.func22 rfl (args2 rfl (At.hit z35.put.put.put.put rfl).ev rfl) (fun _ h => (RotR.calls ((dnR (up (beginR true K B) K (fun x => rotr x 1) (64 - K)) K k).getD ((K + 20) - k) 0) 31 (by omega) _).mono fun _ _ ⟨e, k⟩ => ⟨e, h.trans k⟩) ?_)
      refine qs (q_move _ _ rfl ((((((s7_35.ne rfl).ne rfl).ne rfl).ne rfl).ne rfl).ne rfl).ev ?_)
      refine qs (q_sub ((((K : Nat) : Int) + 17 - ((k : Nat) : Int))) rfl (At.hit z35.put.put.put.put.put.put rfl).ev rfl (i64_is (by omega) (by omega) (by omega)) ?_)
      refine q_fresh z35.put.put.put.put.put.put.put.put ?_
      intro a36 z36 m36
      have s2_36 := m36 _ _ ((((((((s2_35.ne rfl).ne rfl).ne rfl).ne rfl).ne rfl).ne rfl).ne rfl).ne rfl)
      have s3_36 := m36 _ _ ((((((((s3_35.ne rfl).ne rfl).ne rfl).ne rfl).ne rfl).ne rfl).ne rfl).ne rfl)
      have s4_36 := m36 _ _ ((((((((s4_35.ne rfl).ne rfl).ne rfl).ne rfl).ne rfl).ne rfl).ne rfl).ne rfl)
      have s7_36 := m36 _ _ ((((((((s7_35.ne rfl).ne rfl).ne rfl).ne rfl).ne rfl).ne rfl).ne rfl).ne rfl)
      have s104_36 := m36 _ _ (((((((At.hit z35.put rfl).ne rfl).ne rfl).ne rfl).ne rfl).ne rfl).ne rfl)
      have s108_36 := m36 _ _ (((At.hit z35.put.put.put.put.put rfl).ne rfl).ne rfl)
      have s110_36 := m36 _ _ (At.hit z35.put.put.put.put.put.put.put rfl)
      clear m36
      refine qs (q_idx (j := (K + 17) - k) rfl Try.underlying48 sz30 s4_36.ev (s110_36.same (congrArg (Value.int .i64) (show ((((K : Nat) : Int) + 17 - ((k : Nat) : Int)) : Int) = (((K + 17) - k : Nat) : Int) by omega))).ev (by omega) ?_)
      refine qs (q_cell (.int .u32 ((dnR (up (beginR true K B) K (fun x => rotr x 1) (64 - K)) K k).getD ((K + 17) - k) 0)) rfl Try.underlying30 (At.hit z36 rfl).ev (fun _ h => nums_cell (h.blk kg4_34) ((K + 17) - k) (by rw [(dnR_len _ K (up_len _ K _ (beginR_len true K B) _) _)]; omega)) ?_)
      refine qs (q_xor rfl ((s108_36.ne rfl).ne rfl).ev (At.hit z36.put rfl).ev ?_)
      refine qs (q_move _ _ rfl (((s7_36.ne rfl).ne rfl).ne rfl).ev ?_)
      refine qs (q_sub ((((K : Nat) : Int) + 12 - ((k : Nat) : Int))) rfl (At.hit z36.put.put.put rfl).ev rfl (i64_is (by omega) (by omega) (by omega)) ?_)
      refine qs (q_idx (j := (K + 12) - k) rfl Try.underlying48 sz30 (((((s4_36.ne rfl).ne rfl).ne rfl).ne rfl).ne rfl).ev ((At.hit z36.put.put.put.put rfl).same (congrArg (Value.int .i64) (show ((((K : Nat) : Int) + 12 - ((k : Nat) : Int)) : Int) = (((K + 12) - k : Nat) : Int) by omega))).ev (by omega) ?_)
      refine qs (q_cell (.int .u32 ((dnR (up (beginR true K B) K (fun x => rotr x 1) (64 - K)) K k).getD ((K + 12) - k) 0)) rfl Try.underlying30 (At.hit z36.put.put.put.put.put rfl).ev (fun _ h => nums_cell (h.blk kg4_34) ((K + 12) - k) (by rw [(dnR_len _ K (up_len _ K _ (beginR_len true K B) _) _)]; omega)) ?_)
      refine qs (q_xor rfl (((((At.hit z36.put.put rfl).ne rfl).ne rfl).ne rfl).ne rfl).ev (At.hit z36.put.put.put.put.put.put rfl).ev ?_)
      refine q_fresh z36.put.put.put.put.put.put.put.put ?_
      intro a37 z37 m37
      have s2_37 := m37 _ _ ((((((((s2_36.ne rfl).ne rfl).ne rfl).ne rfl).ne rfl).ne rfl).ne rfl).ne rfl)
      have s3_37 := m37 _ _ ((((((((s3_36.ne rfl).ne rfl).ne rfl).ne rfl).ne rfl).ne rfl).ne rfl).ne rfl)
      have s4_37 := m37 _ _ ((((((((s4_36.ne rfl).ne rfl).ne rfl).ne rfl).ne rfl).ne rfl).ne rfl).ne rfl)
      have s7_37 := m37 _ _ ((((((((s7_36.ne rfl).ne rfl).ne rfl).ne rfl).ne rfl).ne rfl).ne rfl).ne rfl)
      have s104_37 := m37 _ _ ((((((((s104_36.ne rfl).ne rfl).ne rfl).ne rfl).ne rfl).ne rfl).ne rfl).ne rfl)
      have s118_37 := m37 _ _ (At.hit z36.put.put.put.put.put.put.put rfl)
      clear m37
      refine qs (q_move _ _ rfl s7_37.ev ?_)
      refine qs (q_sub ((((K : Nat) : Int) + 6 - ((k : Nat) : Int))) rfl (At.hit z37 rfl).ev rfl (i64_is (by omega) (by omega) (by omega)) ?_)
      refine qs (q_idx (j := (K + 6) - k) rfl Try.underlying48 sz30 ((s4_37.ne rfl).ne rfl).ev ((At.hit z37.put rfl).same (congrArg (Value.int .i64) (show ((((K : Nat) : Int) + 6 - ((k : Nat) : Int)) : Int) = (((K + 6) - k : Nat) : Int) by omega))).ev (by omega) ?_)
      refine qs (q_cell (.int .u32 ((dnR (up (beginR true K B) K (fun x => rotr x 1) (64 - K)) K k).getD ((K + 6) - k) 0)) rfl Try.underlying30 (At.hit z37.put.put rfl).ev (fun _ h => nums_cell (h.blk kg4_34) ((K + 6) - k) (by rw [(dnR_len _ K (up_len _ K _ (beginR_len true K B) _) _)]; omega)) ?_)
      refine qs (q_xor rfl ((((s118_37.ne rfl).ne rfl).ne rfl).ne rfl).ev (At.hit z37.put.put.put rfl).ev ?_)
      refine qs (q_idx (j := (K + 4) - k) rfl Try.underlying48 sz30 (((((s4_37.ne rfl).ne rfl).ne rfl).ne rfl).ne rfl).ev ((((((s104_37.ne rfl).ne rfl).ne rfl).ne rfl).ne rfl).same (congrArg (Value.int .i64) (show ((((K : Nat) : Int) + 4 - ((k : Nat) : Int)) : Int) = (((K + 4) - k : Nat) : Int) by omega))).ev (by omega) ?_)
      refine qz ?_
      intro w38 h38
      have kg2_38 := h38.blk kg2_34
      have kg3_38 := h38.blk kg3_34
      have kg4_38 := h38.blk kg4_34
      refine l_cell (j := ((K + 4) - k)) (v := .int .u32 (Go.bits .xor .u32 (Go.bits .xor .u32 (Go.bits .xor .u32 (rotr ((dnR (up (beginR true K B) K (fun x => rotr x 1) (64 - K)) K k).getD ((K + 20) - k) 0) 31) ((dnR (up (beginR true K B) K (fun x => rotr x 1) (64 - K)) K k).getD ((K + 17) - k) 0)) ((dnR (up (beginR true K B) K (fun x => rotr x 1) (64 - K)) K k).getD ((K + 12) - k) 0)) ((dnR (up (beginR true K B) K (fun x => rotr x 1) (64 - K)) K k).getD ((K + 6) - k) 0))) rfl rfl rfl sz30 (At.hit z37.put.put.put.put.put rfl).ev ((At.hit z37.put.put.put.put rfl).ne rfl).ev rfl kg4_38 (by rw [(nums_size _ _).trans (dnR_len _ K (up_len _ K _ (beginR_len true K B) _) _)]; omega) ?_
      intro w39 k39 u39
      rw [nums_put] at k39
      have kg2_39 := u39.blk kg2_38 (by omega)
      have kg3_39 := u39.blk kg3_38 (by omega)
      refine l_end ?_
      refine e_fresh z37.put.put.put.put.put.put ?_
      intro a40 z40 m40
      have s2_40 := m40 _ _ ((((((s2_37.ne rfl).ne rfl).ne rfl).ne rfl).ne rfl).ne rfl)
      have s3_40 := m40 _ _ ((((((s3_37.ne rfl).ne rfl).ne rfl).ne rfl).ne rfl).ne rfl)
      have s4_40 := m40 _ _ ((((((s4_37.ne rfl).ne rfl).ne rfl).ne rfl).ne rfl).ne rfl)
      have s7_40 := m40 _ _ ((((((s7_37.ne rfl).ne rfl).ne rfl).ne rfl).ne rfl).ne rfl)
      have low40 := ((low34.trans h38).upd u39 geg4)
      clear m40
      refine e_in ?_
      refine e_then ?_
      refine c_region ?_
      refine l_q rfl (q_move _ _ rfl s7_40.ev ?_)
      refine l_q rfl (q_sub ((((K : Nat) : Int) + 19 - ((k : Nat) : Int))) rfl (At.hit z40 rfl).ev rfl (i64_is (by omega) (by omega) (by omega)) ?_)
      refine l_q rfl (q_assign _ _ rfl (At.hit z40.put rfl).ev ?_)
      refine l_end ?_
      refine e_fresh z40.put.put.put ?_
      intro a41 z41 m41
      have s2_41 := m41 _ _ (((s2_40.ne rfl).ne rfl).ne rfl)
      have s3_41 := m41 _ _ (((s3_40.ne rfl).ne rfl).ne rfl)
      have s4_41 := m41 _ _ (((s4_40.ne rfl).ne rfl).ne rfl)
      have s7_41 := m41 _ _ (At.hit z40.put.put rfl)
      clear m41
      exact ⟨z41, s2_41, s3_41, s4_41, (s7_41.same (congrArg (Value.int .i64) (by omega))), kg2_39, kg3_39, k39, low40⟩
    · intro a42 w42 h
      obtain ⟨z42, s2_42, s3_42, s4_42, s7_42, kg2_42, kg3_42, kg4_42, low42⟩ := h
      clear kg2_31 kg3_31 kg4_31 low31 s2_33 s3_33 s4_33 s7_33 z33
      have s7_42 := s7_42.same (congrArg (Value.int .i64) (show _ = (15 : Int) by omega))
      refine c_seq ?_
      refine c_seq ?_
      refine c_region ?_
      refine l_q rfl (q_move _ _ rfl s7_42.ev ?_)
      refine l_q rfl (q_geq false rfl (At.hit z42 rfl).ev rfl (decide_eq_false (by omega)) ?_)
      refine l_end ?_
      refine e_fresh z42.put.put ?_
      intro a43 z43 m43
      have s2_43 := m43 _ _ ((s2_42.ne rfl).ne rfl)
      have s3_43 := m43 _ _ ((s3_42.ne rfl).ne rfl)
      have s4_43 := m43 _ _ ((s4_42.ne rfl).ne rfl)
      have s7_43 := m43 _ _ ((s7_42.ne rfl).ne rfl)
      have s100_43 := m43 _ _ (At.hit z42.put rfl)
      clear m43
      refine e_then ?_
      refine c_false s100_43 ?_
      refine wp_exit ?_
      refine x_then ?_
      refine x_then ?_
      refine in_exit ?_
      refine e_then ?_
      refine c_seq ?_
      refine c_seq ?_
      refine c_region ?_
      refine l_q rfl (q_assign _ _ rfl rfl ?_)
      refine l_end ?_
      refine e_fresh z43.put ?_
      intro a44 z44 m44
      have s2_44 := m44 _ _ (s2_43.ne rfl)
      have s3_44 := m44 _ _ (s3_43.ne rfl)
      have s4_44 := m44 _ _ (s4_43.ne rfl)
      have s8_44 := m44 _ _ (At.hit z43 rfl)
      clear m44
      refine e_then ?_
      refine wp_block ?_
      refine c_loop 80 (fun t a w => Fr 164 a ∧ At a 2 (.pointer (some ⟨g2, 0, none⟩)) ∧ At a 3 (.pointer (some ⟨g3, 0, none⟩)) ∧ At a 4 (.pointer (some ⟨g4, 0, none⟩)) ∧ At a 8 (.int .i64 ((t : Nat) : Int)) ∧ w.heap[g2]? = some (.cells (nums .u32 (List.replicate 80 0)) 31) ∧ w.heap[g3]? = some (.cells (nums .u32 (diffR (rowR true K B) t)) 31) ∧ w.heap[g4]? = some (.cells (nums .u32 (dnR (up (beginR true K B) K (fun x => rotr x 1) (64 - K)) K (K + 5))) 48) ∧ Low w0 w) ?_ ?_ ?_
      · exact ⟨z44, s2_44, s3_44, s4_44, s8_44, kg2_42, kg3_42, kg4_42, low42⟩
      · intro t a45 w45 hk45 h
        obtain ⟨z45, s2_45, s3_45, s4_45, s8_45, kg2_45, kg3_45, kg4_45, low45⟩ := h
        clear kg2_42 kg3_42 kg4_42 low42 s2_44 s3_44 s4_44 s8_44 z44
        refine c_seq ?_
        refine c_seq ?_
        refine c_region ?_
        refine l_q rfl (q_move _ _ rfl s8_45.ev ?_)
        refine l_q rfl (q_lss true rfl (At.hit z45 rfl).ev rfl (decide_eq_true (by omega)) ?_)
        refine l_end ?_
        refine e_fresh z45.put.put ?_
        intro a46 z46 m46
        have s2_46 := m46 _ _ ((s2_45.ne rfl).ne rfl)
        have s3_46 := m46 _ _ ((s3_45.ne rfl).ne rfl)
        have s4_46 := m46 _ _ ((s4_45.ne rfl).ne rfl)
        have s8_46 := m46 _ _ ((s8_45.ne rfl).ne rfl)
        have s126_46 := m46 _ _ (At.hit z45.put rfl)
        clear m46
        refine e_then ?_
        refine c_true s126_46 ?_
        refine wp_skip ?_
        refine e_then ?_
        refine c_seq ?_
        refine wp_block ?_
        refine region_low_tail 34 hm (by kernel_rfl) ?_
        simp only [List.take_succ_cons, List.take_zero, List.drop_succ_cons, List.drop_zero]
        refine qs (q_move _ _ rfl s8_46.ev ?_)
        refine qs (q_move _ _ rfl (s8_46.ne rfl).ev ?_)
        refine qs (q_add (((t + 5 : Nat) : Int)) rfl (At.hit z46.put rfl).ev rfl (i64_is (by omega) (by omega) (by omega)) ?_)
        refine qs (q_idx (j := t + 5) rfl Try.underlying48 sz30 (((s4_46.ne rfl).ne rfl).ne rfl).ev (At.hit z46.put.put rfl).ev (by omega) ?_)
        refine qs (q_cell (.int .u32 ((dnR (up (beginR true K B) K (fun x => rotr x 1) (64 - K)) K (K + 5)).getD (t + 5) 0)) rfl Try.underlying30 (At.hit z46.put.put.put rfl).ev (fun _ h => nums_cell (h.blk kg4_45) (t + 5) (by rw [(dnR_len _ K (up_len _ K _ (beginR_len true K B) _) _)]; omega)) ?_)
        refine qs (q_move _ _ rfl (((((s8_46.ne rfl).ne rfl).ne rfl).ne rfl).ne rfl).ev ?_)
        refine qs (q_add (((t + 4 : Nat) : Int)) rfl (At.hit z46.put.put.put.put.put rfl).ev rfl (i64_is (by omega) (by omega) (by omega)) ?_)
        refine qs (q_idx (j := t + 4) rfl Try.underlying48 sz30 (((((((s4_46.ne rfl).ne rfl).ne rfl).ne rfl).ne rfl).ne rfl).ne rfl).ev (At.hit z46.put.put.put.put.put.put rfl).ev (by omega) ?_)
        refine q_fresh z46.put.put.put.put.put.put.put.put ?_
        intro a47 z47 m47
        have s2_47 := m47 _ _ ((((((((s2_46.ne rfl).ne rfl).ne rfl).ne rfl).ne rfl).ne rfl).ne rfl).ne rfl)
        have s3_47 := m47 _ _ ((((((((s3_46.ne rfl).ne rfl).ne rfl).ne rfl).ne rfl).ne rfl).ne rfl).ne rfl)
        have s4_47 := m47 _ _ ((((((((s4_46.ne rfl).ne rfl).ne rfl).ne rfl).ne rfl).ne rfl).ne rfl).ne rfl)
        have s8_47 := m47 _ _ ((((((((s8_46.ne rfl).ne rfl).ne rfl).ne rfl).ne rfl).ne rfl).ne rfl).ne rfl)
        have s129_47 := m47 _ _ ((((((((At.hit z46 rfl).ne rfl).ne rfl).ne rfl).ne rfl).ne rfl).ne rfl).ne rfl)
        have s133_47 := m47 _ _ ((((At.hit z46.put.put.put.put rfl).ne rfl).ne rfl).ne rfl)
        have s136_47 := m47 _ _ (At.hit z46.put.put.put.put.put.put.put rfl)
        clear m47
        refine qs (q_cell (.int .u32 ((dnR (up (beginR true K B) K (fun x => rotr x 1) (64 - K)) K (K + 5)).getD (t + 4) 0)) rfl Try.underlying30 s136_47.ev (fun _ h => nums_cell (h.blk kg4_45) (t + 4) (by rw [(dnR_len _ K (up_len _ K _ (beginR_len true K B) _) _)]; omega)) ?_)
        refine qs (q_call (.int .u32 (rotr ((dnR (up (beginR true K B) K (fun x => rotr x 1) (64 - K)) K (K + 5)).getD (t + 4) 0) 5)) rfl rfl Try.func22 rfl (args2 rfl (At.hit z47 rfl).ev rfl) (fun _ h => (RotR.calls ((dnR (up (beginR true K B) K (fun x => rotr x 1) (64 - K)) K (K + 5)).getD (t + 4) 0) 5 (by omega) _).mono fun _ _ ⟨e, k⟩ => ⟨e, h.trans k⟩) ?_)
        refine qs (q_xor rfl ((s133_47.ne rfl).ne rfl).ev (At.hit z47.put rfl).ev ?_)
        refine qs (q_move _ _ rfl (((s8_47.ne rfl).ne rfl).ne rfl).ev ?_)
        refine qs (q_add (((t + 3 : Nat) : Int)) rfl (At.hit z47.put.put.put rfl).ev rfl (i64_is (by omega) (by omega) (by omega)) ?_)
        refine qs (q_idx (j := t + 3) rfl Try.underlying48 sz30 (((((s4_47.ne rfl).ne rfl).ne rfl).ne rfl).ne rfl).ev (At.hit z47.put.put.put.put rfl).ev (by omega) ?_)
        refine qs (q_cell (.int .u32 ((dnR (up (beginR true K B) K (fun x => rotr x 1) (64 - K)) K (K + 5)).getD (t + 3) 0)) rfl Try.underlying30 (At.hit z47.put.put.put.put.put rfl).ev (fun _ h => nums_cell (h.blk kg4_45) (t + 3) (by rw [(dnR_len _ K (up_len _ K _ (beginR_len true K B) _) _)]; omega)) ?_)
        refine qs (q_xor rfl (((((At.hit z47.put.put rfl).ne rfl).ne rfl).ne rfl).ne rfl).ev (At.hit z47.put.put.put.put.put.put rfl).ev ?_)
        refine q_fresh z47.put.put.put.put.put.put.put.put ?_
        intro a48 z48 m48
        have s2_48 := m48 _ _ ((((((((s2_47.ne rfl).ne rfl).ne rfl).ne rfl).ne rfl).ne rfl).ne rfl).ne rfl)
        have s3_48 := m48 _ _ ((((((((s3_47.ne rfl).ne rfl).ne rfl).ne rfl).ne rfl).ne rfl).ne rfl).ne rfl)
        have s4_48 := m48 _ _ ((((((((s4_47.ne rfl).ne rfl).ne rfl).ne rfl).ne rfl).ne rfl).ne rfl).ne rfl)
        have s8_48 := m48 _ _ ((((((((s8_47.ne rfl).ne rfl).ne rfl).ne rfl).ne rfl).ne rfl).ne rfl).ne rfl)
        have s129_48 := m48 _ _ ((((((((s129_47.ne rfl).ne rfl).ne rfl).ne rfl).ne rfl).ne rfl).ne rfl).ne rfl)
        have s144_48 := m48 _ _ (At.hit z47.put.put.put.put.put.put.put rfl)
        clear m48
        refine qs (q_move _ _ rfl s8_48.ev ?_)
        refine qs (q_add (((t + 2 : Nat) : Int)) rfl (At.hit z48 rfl).ev rfl (i64_is (by omega) (by omega) (by omega)) ?_)
        refine qs (q_idx (j := t + 2) rfl Try.underlying48 sz30 ((s4_48.ne rfl).ne rfl).ev (At.hit z48.put rfl).ev (by omega) ?_)
        refine qs (q_cell (.int .u32 ((dnR (up (beginR true K B) K (fun x => rotr x 1) (64 - K)) K (K + 5)).getD (t + 2) 0)) rfl Try.underlying30 (At.hit z48.put.put rfl).ev (fun _ h => nums_cell (h.blk kg4_45) (t + 2) (by rw [(dnR_len _ K (up_len _ K _ (beginR_len true K B) _) _)]; omega)) ?_)
        refine qs (q_call (.int .u32 (rotr ((dnR (up (beginR true K B) K (fun x => rotr x 1) (64 - K)) K (K + 5)).getD (t + 2) 0) 30)) rfl rfl Try.func22 rfl (args2 rfl (At.hit z48.put.put.put rfl).ev rfl) (fun _ h => (RotR.calls ((dnR (up (beginR true K B) K (fun x => rotr x 1) (64 - K)) K (K + 5)).getD (t + 2) 0) 30 (by omega) _).mono fun _ _ ⟨e, k⟩ => ⟨e, h.trans k⟩) ?_)
        refine qs (q_xor rfl (((((s144_48.ne rfl).ne rfl).ne rfl).ne rfl).ne rfl).ev (At.hit z48.put.put.put.put rfl).ev ?_)
        refine qs (q_move _ _ rfl ((((((s8_48.ne rfl).ne rfl).ne rfl).ne rfl).ne rfl).ne rfl).ev ?_)
        refine qs (q_add (((t + 1 : Nat) : Int)) rfl (At.hit z48.put.put.put.put.put.put rfl).ev rfl (i64_is (by omega) (by omega) (by omega)) ?_)
        refine q_fresh z48.put.put.put.put.put.put.put.put ?_
        intro a49 z49 m49
        have s2_49 := m49 _ _ ((((((((s2_48.ne rfl).ne rfl).ne rfl).ne rfl).ne rfl).ne rfl).ne rfl).ne rfl)
        have s3_49 := m49 _ _ ((((((((s3_48.ne rfl).ne rfl).ne rfl).ne rfl).ne rfl).ne rfl).ne rfl).ne rfl)
        have s4_49 := m49 _ _ ((((((((s4_48.ne rfl).ne rfl).ne rfl).ne rfl).ne rfl).ne rfl).ne rfl).ne rfl)
        have s8_49 := m49 _ _ ((((((((s8_48.ne rfl).ne rfl).ne rfl).ne rfl).ne rfl).ne rfl).ne rfl).ne rfl)
        have s129_49 := m49 _ _ ((((((((s129_48.ne rfl).ne rfl).ne rfl).ne rfl).ne rfl).ne rfl).ne rfl).ne rfl)
        have s150_49 := m49 _ _ (((At.hit z48.put.put.put.put.put rfl).ne rfl).ne rfl)
        have s152_49 := m49 _ _ (At.hit z48.put.put.put.put.put.put.put rfl)
        clear m49
        refine qs (q_idx (j := t + 1) rfl Try.underlying48 sz30 s4_49.ev s152_49.ev (by omega) ?_)
        refine qs (q_cell (.int .u32 ((dnR (up (beginR true K B) K (fun x => rotr x 1) (64 - K)) K (K + 5)).getD (t + 1) 0)) rfl Try.underlying30 (At.hit z49 rfl).ev (fun _ h => nums_cell (h.blk kg4_45) (t + 1) (by rw [(dnR_len _ K (up_len _ K _ (beginR_len true K B) _) _)]; omega)) ?_)
        refine qs (q_call (.int .u32 (rotr ((dnR (up (beginR true K B) K (fun x => rotr x 1) (64 - K)) K (K + 5)).getD (t + 1) 0) 30)) rfl rfl Try.func22 rfl (args2 rfl (At.hit z49.put rfl).ev rfl) (fun _ h => (RotR.calls ((dnR (up (beginR true K B) K (fun x => rotr x 1) (64 - K)) K (K + 5)).getD (t + 1) 0) 30 (by omega) _).mono fun _ _ ⟨e, k⟩ => ⟨e, h.trans k⟩) ?_)
        refine qs (q_xor rfl (((s150_49.ne rfl).ne rfl).ne rfl).ev (At.hit z49.put.put rfl).ev ?_)
        refine qs (q_move _ _ rfl ((((s8_49.ne rfl).ne rfl).ne rfl).ne rfl).ev ?_)
        refine qs (q_idx (j := t) rfl Try.underlying48 sz30 (((((s4_49.ne rfl).ne rfl).ne rfl).ne rfl).ne rfl).ev (At.hit z49.put.put.put.put rfl).ev (by omega) ?_)
        refine qs (q_cell (.int .u32 ((dnR (up (beginR true K B) K (fun x => rotr x 1) (64 - K)) K (K + 5)).getD t 0)) rfl Try.underlying30 (At.hit z49.put.put.put.put.put rfl).ev (fun _ h => nums_cell (h.blk kg4_45) t (by rw [(dnR_len _ K (up_len _ K _ (beginR_len true K B) _) _)]; omega)) ?_)
        refine qs (q_call (.int .u32 (rotr ((dnR (up (beginR true K B) K (fun x => rotr x 1) (64 - K)) K (K + 5)).getD t 0) 30)) rfl rfl Try.func22 rfl (args2 rfl (At.hit z49.put.put.put.put.put.put rfl).ev rfl) (fun _ h => (RotR.calls ((dnR (up (beginR true K B) K (fun x => rotr x 1) (64 - K)) K (K + 5)).getD t 0) 30 (by omega) _).mono fun _ _ ⟨e, k⟩ => ⟨e, h.trans k⟩) ?_)
        refine q_fresh z49.put.put.put.put.put.put.put.put ?_
        intro a50 z50 m50
        have s2_50 := m50 _ _ ((((((((s2_49.ne rfl).ne rfl).ne rfl).ne rfl).ne rfl).ne rfl).ne rfl).ne rfl)
        have s3_50 := m50 _ _ ((((((((s3_49.ne rfl).ne rfl).ne rfl).ne rfl).ne rfl).ne rfl).ne rfl).ne rfl)
        have s4_50 := m50 _ _ ((((((((s4_49.ne rfl).ne rfl).ne rfl).ne rfl).ne rfl).ne rfl).ne rfl).ne rfl)
        have s8_50 := m50 _ _ ((((((((s8_49.ne rfl).ne rfl).ne rfl).ne rfl).ne rfl).ne rfl).ne rfl).ne rfl)
        have s129_50 := m50 _ _ ((((((((s129_49.ne rfl).ne rfl).ne rfl).ne rfl).ne rfl).ne rfl).ne rfl).ne rfl)
        have s156_50 := m50 _ _ (((((At.hit z49.put.put.put rfl).ne rfl).ne rfl).ne rfl).ne rfl)
        have s160_50 := m50 _ _ (At.hit z49.put.put.put.put.put.put.put rfl)
        clear m50
        refine qs (q_xor rfl s156_50.ev s160_50.ev ?_)
        refine qs (q_idx (j := t) rfl Try.underlying31 sz30 (s3_50.ne rfl).ev (s129_50.ne rfl).ev (by omega) ?_)
        refine qz ?_
        intro w51 h51
        have kg2_51 := h51.blk kg2_45
        have kg3_51 := h51.blk kg3_45
        have kg4_51 := h51.blk kg4_45
        refine l_cell (j := t) (v := .int .u32 (Go.bits .xor .u32 (Go.bits .xor .u32 (Go.bits .xor .u32 (Go.bits .xor .u32 (Go.bits .xor .u32 ((dnR (up (beginR true K B) K (fun x => rotr x 1) (64 - K)) K (K + 5)).getD (t + 5) 0) (rotr ((dnR (up (beginR true K B) K (fun x => rotr x 1) (64 - K)) K (K + 5)).getD (t + 4) 0) 5)) ((dnR (up (beginR true K B) K (fun x => rotr x 1) (64 - K)) K (K + 5)).getD (t + 3) 0)) (rotr ((dnR (up (beginR true K B) K (fun x => rotr x 1) (64 - K)) K (K + 5)).getD (t + 2) 0) 30)) (rotr ((dnR (up (beginR true K B) K (fun x => rotr x 1) (64 - K)) K (K + 5)).getD (t + 1) 0) 30)) (rotr ((dnR (up (beginR true K B) K (fun x => rotr x 1) (64 - K)) K (K + 5)).getD t 0) 30))) rfl rfl rfl sz30 (At.hit z50.put rfl).ev ((At.hit z50 rfl).ne rfl).ev rfl kg3_51 (by rw [(nums_size _ _).trans (diffR_len _ _)]; omega) ?_
        intro w52 k52 u52
        rw [nums_put] at k52
        have kg2_52 := u52.blk kg2_51 (by omega)
        have kg4_52 := u52.blk kg4_51 (by omega)
        refine l_end ?_
        refine e_fresh z50.put.put ?_
        intro a53 z53 m53
        have s2_53 := m53 _ _ ((s2_50.ne rfl).ne rfl)
        have s3_53 := m53 _ _ ((s3_50.ne rfl).ne rfl)
        have s4_53 := m53 _ _ ((s4_50.ne rfl).ne rfl)
        have s8_53 := m53 _ _ ((s8_50.ne rfl).ne rfl)
        have low53 := ((low45.trans h51).upd u52 geg3)
        clear m53
        refine e_in ?_
        refine e_then ?_
        refine c_region ?_
        refine l_q rfl (q_move _ _ rfl s8_53.ev ?_)
        refine l_q rfl (q_add (((t + 1 : Nat) : Int)) rfl (At.hit z53 rfl).ev rfl (i64_is (by omega) (by omega) (by omega)) ?_)
        refine l_q rfl (q_assign _ _ rfl (At.hit z53.put rfl).ev ?_)
        refine l_end ?_
        refine e_fresh z53.put.put.put ?_
        intro a54 z54 m54
        have s2_54 := m54 _ _ (((s2_53.ne rfl).ne rfl).ne rfl)
        have s3_54 := m54 _ _ (((s3_53.ne rfl).ne rfl).ne rfl)
        have s4_54 := m54 _ _ (((s4_53.ne rfl).ne rfl).ne rfl)
        have s8_54 := m54 _ _ (At.hit z53.put.put rfl)
        clear m54
        exact ⟨z54, s2_54, s3_54, s4_54, s8_54, kg2_52, k52, kg4_52, low53⟩
      · intro a55 w55 h
        obtain ⟨z55, s2_55, s3_55, s4_55, s8_55, kg2_55, kg3_55, kg4_55, low55⟩ := h
        clear kg2_42 kg3_42 kg4_42 low42 s2_44 s3_44 s4_44 s8_44 z44
        refine c_seq ?_
        refine c_seq ?_
        refine c_region ?_
        refine l_q rfl (q_move _ _ rfl s8_55.ev ?_)
        refine l_q rfl (q_lss false rfl (At.hit z55 rfl).ev rfl (decide_eq_false (by omega)) ?_)
        refine l_end ?_
        refine e_fresh z55.put.put ?_
        intro a56 z56 m56
        have s2_56 := m56 _ _ ((s2_55.ne rfl).ne rfl)
        have s3_56 := m56 _ _ ((s3_55.ne rfl).ne rfl)
        have s4_56 := m56 _ _ ((s4_55.ne rfl).ne rfl)
        have s8_56 := m56 _ _ ((s8_55.ne rfl).ne rfl)
        have s126_56 := m56 _ _ (At.hit z55.put rfl)
        clear m56
        refine e_then ?_
        refine c_false s126_56 ?_
        refine wp_exit ?_
        refine x_then ?_
        refine x_then ?_
        refine in_exit ?_
        refine e_then ?_
        refine c_seq ?_
        refine c_region ?_
        refine l_q rfl (q_row rfl Try.underlying31 rfl (sz31.trans (congrArg some ((nums_size _ _).trans (diffR_len _ _)).symm)) s3_56.ev (fun _ e => by rw [e]; exact kg3_55) ?_)
        refine l_row rfl rfl rfl (sz31.trans (congrArg some ((nums_size _ _).trans (diffR_len _ _)).symm)) (s2_56.ne rfl).ev (At.hit z56 rfl).ev (nums_one _ _) kg2_55 (((nums_size _ _).trans (List.length_replicate)).trans ((nums_size _ _).trans (diffR_len _ _)).symm) ?_
        intro w57 k57 u57
        have kg3_57 := u57.blk kg3_55 (by omega)
        have kg4_57 := u57.blk kg4_55 (by omega)
        refine l_end ?_
        refine e_fresh z56.put ?_
        intro a58 z58 m58
        have s2_58 := m58 _ _ (s2_56.ne rfl)
        have low58 := (low55.upd u57 geg2)
        clear m58
        refine e_then ?_
        refine wp_ret ?_
        refine r_cell rfl z58.defers s2_58 k57 Try.underlying31 rfl (sz31.trans (congrArg some ((nums_size _ _).trans (diffR_len _ _)).symm)) ?_
        exact ⟨rfl, low58⟩
theorem DR_bad0.calls (ty K B : Int) (h0 : ¬ ty = 1) (h1 : ¬ ty = 2) (w0 : World) : Calls Try.prog 10 #[.agg #[.int .i64 ty, .int .i64 K, .int .i64 B]] w0 fun e w' => e = .returned (.agg (nums .u32 (List.replicate 80 0))) ∧ Low w0 w' := by
  refine c_fun (R := _) Try.func10 rfl 164 rfl (Nat.le_of_ble_eq_true rfl) ?_
  intro a z hA
  have s0 := hA 0 _ rfl
  clear hA
  refine c_seq ?_
  refine c_region ?_
  refine l_box rfl rfl s0.ev ?_
  intro g1 w1 hg1 k1 h1
  have geg1 := Nat.le_trans (Low.refl _).ge hg1
  refine l_alloc rfl rfl zero31 ?_
  intro g2 w2 hg2 k2 h2
  have lt_g1_g2 := Nat.lt_of_lt_of_le (heap_lt k1) hg2
  have geg2 := Nat.le_trans h1.ge hg2
  have kg1_2 := h2.blk k1
  refine l_end ?_
  refine e_fresh z.put.put ?_
  intro a3 z3 m3
  have s1_3 := m3 _ _ ((At.hit z rfl).ne rfl)
  have s2_3 := m3 _ _ (At.hit z.put rfl)
  have low3 := (h1.trans h2)
  clear m3
  refine e_then ?_
  refine c_seq ?_
  refine c_region ?_
  refine l_alloc rfl rfl zero31 ?_
  intro g3 w4 hg4 k4 h4
  have lt_g1_g3 := Nat.lt_of_lt_of_le (heap_lt kg1_2) hg4
  have lt_g2_g3 := Nat.lt_of_lt_of_le (heap_lt k2) hg4
  have geg3 := Nat.le_trans low3.ge hg4
  have kg1_4 := h4.blk kg1_2
  have kg2_4 := h4.blk k2
  refine l_end ?_
  refine e_fresh z3.put ?_
  intro a5 z5 m5
  have s1_5 := m5 _ _ (s1_3.ne rfl)
  have s2_5 := m5 _ _ (s2_3.ne rfl)
  have s3_5 := m5 _ _ (At.hit z3 rfl)
  have low5 := (low3.trans h4)
  clear m5
  refine e_then ?_
  refine c_seq ?_
  refine c_seq ?_
  refine c_region ?_
  refine l_q rfl (q_fld 0 rfl (by kernel_rfl) s1_5.ev ?_)
  refine l_q rfl (q_cell (.int .i64 ty) rfl Try.underlying3 (At.hit z5 rfl).ev (fun _ e => by rw [e]; exact (cells_at kg1_4 0).trans rfl) ?_)
  refine l_q rfl (q_neq true rfl (At.hit z5.put rfl).ev rfl (decide_eq_true (by omega)) ?_)
  refine l_q rfl (q_move _ _ rfl (At.hit z5.put.put rfl).ev ?_)
  refine l_qg (wanted_is (j := 3) (d := 12) (b := true) rfl rfl (At.hit z5.put.put.put rfl) rfl) (q_fld 0 rfl (by kernel_rfl) ((((s1_5.ne rfl).ne rfl).ne rfl).ne rfl).ev ?_)
  refine l_qg (wanted_is (j := 3) (d := 12) (b := true) rfl rfl ((At.hit z5.put.put.put rfl).ne rfl) rfl) (q_cell (.int .i64 ty) rfl Try.underlying3 (At.hit z5.put.put.put.put rfl).ev (fun _ e => by rw [e]; exact (cells_at kg1_4 0).trans rfl) ?_)
  refine l_qg (wanted_is (j := 3) (d := 12) (b := true) rfl rfl (((At.hit z5.put.put.put rfl).ne rfl).ne rfl) rfl) (q_neq true rfl (At.hit z5.put.put.put.put.put rfl).ev rfl (decide_eq_true (by omega)) ?_)
  refine l_q rfl (q_pick (b := true) (.bool true) rfl ((((At.hit z5.put.put.put rfl).ne rfl).ne rfl).ne rfl).ev (At.hit z5.put.put.put.put.put.put rfl).ev ?_)
  refine l_fresh z5.put.put.put.put.put.put.put.put ?_
  intro a6 z6 m6
  have s1_6 := m6 _ _ ((((((((s1_5.ne rfl).ne rfl).ne rfl).ne rfl).ne rfl).ne rfl).ne rfl).ne rfl)
  have s2_6 := m6 _ _ ((((((((s2_5.ne rfl).ne rfl).ne rfl).ne rfl).ne rfl).ne rfl).ne rfl).ne rfl)
  have s3_6 := m6 _ _ ((((((((s3_5.ne rfl).ne rfl).ne rfl).ne rfl).ne rfl).ne rfl).ne rfl).ne rfl)
  have s16_6 := m6 _ _ (At.hit z5.put.put.put.put.put.put.put rfl)
  clear m6
  refine l_q rfl (q_move _ _ rfl s16_6.ev ?_)
  refine l_skip (wanted_is (j := 8) (d := 17) (b := true) rfl rfl (At.hit z6 rfl) rfl) ?_
  refine l_skip (wanted_is (j := 8) (d := 17) (b := true) rfl rfl ((At.hit z6 rfl).ne rfl) rfl) ?_
  refine l_skip (wanted_is (j := 8) (d := 17) (b := true) rfl rfl (((At.hit z6 rfl).ne rfl).ne rfl) rfl) ?_
  refine l_q rfl (q_pick (b := true) (.bool true) rfl ((((At.hit z6 rfl).ne rfl).ne rfl).ne rfl).ev rfl ?_)
  refine l_q rfl (q_move _ _ rfl (At.hit z6.put.put.put.put rfl).ev ?_)
  refine l_skip (wanted_is (j := 13) (d := 22) (b := true) rfl rfl (At.hit z6.put.put.put.put.put rfl) rfl) ?_
  refine l_skip (wanted_is (j := 13) (d := 22) (b := true) rfl rfl ((At.hit z6.put.put.put.put.put rfl).ne rfl) rfl) ?_
  refine l_fresh z6.put.put.put.put.put.put.put.put ?_
  intro a7 z7 m7
  have s1_7 := m7 _ _ ((((((((s1_6.ne rfl).ne rfl).ne rfl).ne rfl).ne rfl).ne rfl).ne rfl).ne rfl)
  have s2_7 := m7 _ _ ((((((((s2_6.ne rfl).ne rfl).ne rfl).ne rfl).ne rfl).ne rfl).ne rfl).ne rfl)
  have s3_7 := m7 _ _ ((((((((s3_6.ne rfl).ne rfl).ne rfl).ne rfl).ne rfl).ne rfl).ne rfl).ne rfl)
  have s22_7 := m7 _ _ (((At.hit z6.put.put.put.put.put rfl).ne rfl).ne rfl)
  have s24_7 := m7 _ _ (At.hit z6.put.put.put.put.put.put.put rfl)
  clear m7
  refine l_skip (wanted_is (j := 13) (d := 22) (b := true) rfl rfl s22_7 rfl) ?_
  refine l_q rfl (q_pick (b := true) (.bool true) rfl (s22_7.ne rfl).ev rfl ?_)
  refine l_q rfl (q_move _ _ rfl (At.hit z7.put rfl).ev ?_)
  refine l_skip (wanted_is (j := 18) (d := 27) (b := true) rfl rfl (At.hit z7.put.put rfl) rfl) ?_
  refine l_skip (wanted_is (j := 18) (d := 27) (b := true) rfl rfl ((At.hit z7.put.put rfl).ne rfl) rfl) ?_
  refine l_skip (wanted_is (j := 18) (d := 27) (b := true) rfl rfl (((At.hit z7.put.put rfl).ne rfl).ne rfl) rfl) ?_
  refine l_q rfl (q_pick (b := true) (.bool true) rfl ((((At.hit z7.put.put rfl).ne rfl).ne rfl).ne rfl).ev rfl ?_)
  refine l_q rfl (q_move _ _ rfl (At.hit z7.put.put.put.put.put.put rfl).ev ?_)
  refine l_fresh z7.put.put.put.put.put.put.put.put ?_
  intro a8 z8 m8
  have s1_8 := m8 _ _ ((((((((s1_7.ne rfl).ne rfl).ne rfl).ne rfl).ne rfl).ne rfl).ne rfl).ne rfl)
  have s2_8 := m8 _ _ ((((((((s2_7.ne rfl).ne rfl).ne rfl).ne rfl).ne rfl).ne rfl).ne rfl).ne rfl)
  have s3_8 := m8 _ _ ((((((((s3_7.ne rfl).ne rfl).ne rfl).ne rfl).ne rfl).ne rfl).ne rfl).ne rfl)
  have s32_8 := m8 _ _ (At.hit z7.put.put.put.put.put.put.put rfl)
  clear m8
  refine l_skip (wanted_is (j := 23) (d := 32) (b := true) rfl rfl s32_8 rfl) ?_
  refine l_skip (wanted_is (j := 23) (d := 32) (b := true) rfl rfl (s32_8.ne rfl) rfl) ?_
  refine l_skip (wanted_is (j := 23) (d := 32) (b := true) rfl rfl ((s32_8.ne rfl).ne rfl) rfl) ?_
  refine l_q rfl (q_pick (b := true) (.bool true) rfl (((s32_8.ne rfl).ne rfl).ne rfl).ev rfl ?_)
  refine l_end ?_
  refine e_fresh z8.put.put.put.put ?_
  intro a9 z9 m9
  have s1_9 := m9 _ _ ((((s1_8.ne rfl).ne rfl).ne rfl).ne rfl)
  have s2_9 := m9 _ _ ((((s2_8.ne rfl).ne rfl).ne rfl).ne rfl)
  have s3_9 := m9 _ _ ((((s3_8.ne rfl).ne rfl).ne rfl).ne rfl)
  have s36_9 := m9 _ _ (At.hit z8.put.put.put rfl)
  clear m9
  refine e_then ?_
  refine c_true s36_9 ?_
  refine c_seq ?_
  refine c_region ?_
  refine l_q rfl (q_row rfl Try.underlying31 rfl (sz31.trans (congrArg some ((nums_size _ _).trans (List.length_replicate)).symm)) s3_9.ev (fun _ e => by rw [e]; exact k4) ?_)
  refine l_row rfl rfl rfl (sz31.trans (congrArg some ((nums_size _ _).trans (List.length_replicate)).symm)) (s2_9.ne rfl).ev (At.hit z9 rfl).ev (nums_one _ _) kg2_4 (((nums_size _ _).trans (List.length_replicate)).trans ((nums_size _ _).trans (List.length_replicate)).symm) ?_
  intro w10 k10 u10
  have kg1_10 := u10.blk kg1_4 (by omega)
  have kg3_10 := u10.blk k4 (by omega)
  refine l_end ?_
  refine e_fresh z9.put ?_
  intro a11 z11 m11
  have s2_11 := m11 _ _ (s2_9.ne rfl)
  have low11 := (low5.upd u10 geg2)
  clear m11
  refine e_then ?_
  refine wp_ret ?_
  refine ret_then ?_
  refine r_cell rfl z11.defers s2_11 k10 Try.underlying31 rfl (sz31.trans (congrArg some ((nums_size _ _).trans (List.length_replicate)).symm)) ?_
  exact ⟨rfl, low11⟩
theorem DR_bad12.calls (K B : Int) (hy : K < 0) (w0 : World) : Calls Try.prog 10 #[.agg #[.int .i64 1, .int .i64 K, .int .i64 B]] w0 fun e w' => e = .returned (.agg (nums .u32 (List.replicate 80 0))) ∧ Low w0 w' := by
  refine c_fun (R := _) Try.func10 rfl 164 rfl (Nat.le_of_ble_eq_true rfl) ?_
  intro a z hA
  have s0 := hA 0 _ rfl
  clear hA
  refine c_seq ?_
  refine c_region ?_
  refine l_box rfl rfl s0.ev ?_
  intro g1 w1 hg1 k1 h1
  have geg1 := Nat.le_trans (Low.refl _).ge hg1
  refine l_alloc rfl rfl zero31 ?_
  intro g2 w2 hg2 k2 h2
  have lt_g1_g2 := Nat.lt_of_lt_of_le (heap_lt k1) hg2
  have geg2 := Nat.le_trans h1.ge hg2
  have kg1_2 := h2.blk k1
  refine l_end ?_
  refine e_fresh z.put.put ?_
  intro a3 z3 m3
  have s1_3 := m3 _ _ ((At.hit z rfl).ne rfl)
  have s2_3 := m3 _ _ (At.hit z.put rfl)
  have low3 := (h1.trans h2)
  clear m3
  refine e_then ?_
  refine c_seq ?_
  refine c_region ?_
  refine l_alloc rfl rfl zero31 ?_
  intro g3 w4 hg4 k4 h4
  have lt_g1_g3 := Nat.lt_of_lt_of_le (heap_lt kg1_2) hg4
  have lt_g2_g3 := Nat.lt_of_lt_of_le (heap_lt k2) hg4
  have geg3 := Nat.le_trans low3.ge hg4
  have kg1_4 := h4.blk kg1_2
  have kg2_4 := h4.blk k2
  refine l_end ?_
  refine e_fresh z3.put ?_
  intro a5 z5 m5
  have s1_5 := m5 _ _ (s1_3.ne rfl)
  have s2_5 := m5 _ _ (s2_3.ne rfl)
  have s3_5 := m5 _ _ (At.hit z3 rfl)
  have low5 := (low3.trans h4)
  clear m5
  refine e_then ?_
  refine c_seq ?_
  refine c_seq ?_
  refine c_region ?_
  refine l_q rfl (q_fld 0 rfl (by kernel_rfl) s1_5.ev ?_)
  refine l_q rfl (q_cell (.int .i64 1) rfl Try.underlying3 (At.hit z5 rfl).ev (fun _ e => by rw [e]; exact (cells_at kg1_4 0).trans rfl) ?_)
  refine l_q rfl (q_neq false rfl (At.hit z5.put rfl).ev rfl (decide_eq_false (by omega)) ?_)
  refine l_q rfl (q_move _ _ rfl (At.hit z5.put.put rfl).ev ?_)
  refine l_skip (wanted_is (j := 3) (d := 12) (b := false) rfl rfl (At.hit z5.put.put.put rfl) rfl) ?_
  refine l_skip (wanted_is (j := 3) (d := 12) (b := false) rfl rfl ((At.hit z5.put.put.put rfl).ne rfl) rfl) ?_
  refine l_skip (wanted_is (j := 3) (d := 12) (b := false) rfl rfl (((At.hit z5.put.put.put rfl).ne rfl).ne rfl) rfl) ?_
  refine l_q rfl (q_pick (b := false) (.bool false) rfl ((((At.hit z5.put.put.put rfl).ne rfl).ne rfl).ne rfl).ev rfl ?_)
  refine l_fresh z5.put.put.put.put.put.put.put.put ?_
  intro a6 z6 m6
  have s1_6 := m6 _ _ ((((((((s1_5.ne rfl).ne rfl).ne rfl).ne rfl).ne rfl).ne rfl).ne rfl).ne rfl)
  have s2_6 := m6 _ _ ((((((((s2_5.ne rfl).ne rfl).ne rfl).ne rfl).ne rfl).ne rfl).ne rfl).ne rfl)
  have s3_6 := m6 _ _ ((((((((s3_5.ne rfl).ne rfl).ne rfl).ne rfl).ne rfl).ne rfl).ne rfl).ne rfl)
  have s16_6 := m6 _ _ (At.hit z5.put.put.put.put.put.put.put rfl)
  clear m6
  refine l_q rfl (q_move _ _ rfl s16_6.ev ?_)
  refine l_qg (wanted_is (j := 8) (d := 17) (b := false) rfl rfl (At.hit z6 rfl) rfl) (q_fld 1 rfl (by kernel_rfl) (s1_6.ne rfl).ev ?_)
  refine l_qg (wanted_is (j := 8) (d := 17) (b := false) rfl rfl ((At.hit z6 rfl).ne rfl) rfl) (q_cell (.int .i64 K) rfl Try.underlying3 (At.hit z6.put rfl).ev (fun _ e => by rw [e]; exact (cells_at kg1_4 1).trans rfl) ?_)
  refine l_qg (wanted_is (j := 8) (d := 17) (b := false) rfl rfl (((At.hit z6 rfl).ne rfl).ne rfl) rfl) (q_lss true rfl (At.hit z6.put.put rfl).ev rfl (decide_eq_true (by omega)) ?_)
  refine l_q rfl (q_pick (b := false) (.bool true) rfl ((((At.hit z6 rfl).ne rfl).ne rfl).ne rfl).ev (At.hit z6.put.put.put rfl).ev ?_)
  refine l_q rfl (q_move _ _ rfl (At.hit z6.put.put.put.put rfl).ev ?_)
  refine l_skip (wanted_is (j := 13) (d := 22) (b := true) rfl rfl (At.hit z6.put.put.put.put.put rfl) rfl) ?_
  refine l_skip (wanted_is (j := 13) (d := 22) (b := true) rfl rfl ((At.hit z6.put.put.put.put.put rfl).ne rfl) rfl) ?_
  refine l_fresh z6.put.put.put.put.put.put.put.put ?_
  intro a7 z7 m7
  have s1_7 := m7 _ _ ((((((((s1_6.ne rfl).ne rfl).ne rfl).ne rfl).ne rfl).ne rfl).ne rfl).ne rfl)
  have s2_7 := m7 _ _ ((((((((s2_6.ne rfl).ne rfl).ne rfl).ne rfl).ne rfl).ne rfl).ne rfl).ne rfl)
  have s3_7 := m7 _ _ ((((((((s3_6.ne rfl).ne rfl).ne rfl).ne rfl).ne rfl).ne rfl).ne rfl).ne rfl)
  have s22_7 := m7 _ _ (((At.hit z6.put.put.put.put.put rfl).ne rfl).ne rfl)
  have s24_7 := m7 _ _ (At.hit z6.put.put.put.put.put.put.put rfl)
  clear m7
  refine l_skip (wanted_is (j := 13) (d := 22) (b := true) rfl rfl s22_7 rfl) ?_
  refine l_q rfl (q_pick (b := true) (.bool true) rfl (s22_7.ne rfl).ev rfl ?_)
  refine l_q rfl (q_move _ _ rfl (At.hit z7.put rfl).ev ?_)
  refine l_skip (wanted_is (j := 18) (d := 27) (b := true) rfl rfl (At.hit z7.put.put rfl) rfl) ?_
  refine l_skip (wanted_is (j := 18) (d := 27) (b := true) rfl rfl ((At.hit z7.put.put rfl).ne rfl) rfl) ?_
  refine l_skip (wanted_is (j := 18) (d := 27) (b := true) rfl rfl (((At.hit z7.put.put rfl).ne rfl).ne rfl) rfl) ?_
  refine l_q rfl (q_pick (b := true) (.bool true) rfl ((((At.hit z7.put.put rfl).ne rfl).ne rfl).ne rfl).ev rfl ?_)
  refine l_q rfl (q_move _ _ rfl (At.hit z7.put.put.put.put.put.put rfl).ev ?_)
  refine l_fresh z7.put.put.put.put.put.put.put.put ?_
  intro a8 z8 m8
  have s1_8 := m8 _ _ ((((((((s1_7.ne rfl).ne rfl).ne rfl).ne rfl).ne rfl).ne rfl).ne rfl).ne rfl)
  have s2_8 := m8 _ _ ((((((((s2_7.ne rfl).ne rfl).ne rfl).ne rfl).ne rfl).ne rfl).ne rfl).ne rfl)
  have s3_8 := m8 _ _ ((((((((s3_7.ne rfl).ne rfl).ne rfl).ne rfl).ne rfl).ne rfl).ne rfl).ne rfl)
  have s32_8 := m8 _ _ (At.hit z7.put.put.put.put.put.put.put rfl)
  clear m8
  refine l_skip (wanted_is (j := 23) (d := 32) (b := true) rfl rfl s32_8 rfl) ?_
  refine l_skip (wanted_is (j := 23) (d := 32) (b := true) rfl rfl (s32_8.ne rfl) rfl) ?_
  refine l_skip (wanted_is (j := 23) (d := 32) (b := true) rfl rfl ((s32_8.ne rfl).ne rfl) rfl) ?_
  refine l_q rfl (q_pick (b := true) (.bool true) rfl (((s32_8.ne rfl).ne rfl).ne rfl).ev rfl ?_)
  refine l_end ?_
  refine e_fresh z8.put.put.put.put ?_
  intro a9 z9 m9
  have s1_9 := m9 _ _ ((((s1_8.ne rfl).ne rfl).ne rfl).ne rfl)
  have s2_9 := m9 _ _ ((((s2_8.ne rfl).ne rfl).ne rfl).ne rfl)
  have s3_9 := m9 _ _ ((((s3_8.ne rfl).ne rfl).ne rfl).ne rfl)
  have s36_9 := m9 _ _ (At.hit z8.put.put.put rfl)
  clear m9
  refine e_then ?_
  refine c_true s36_9 ?_
  refine c_seq ?_
  refine c_region ?_
  refine l_q rfl (q_row rfl Try.underlying31 rfl (sz31.trans (congrArg some ((nums_size _ _).trans (List.length_replicate)).symm)) s3_9.ev (fun _ e => by rw [e]; exact k4) ?_)
  refine l_row rfl rfl rfl (sz31.trans (congrArg some ((nums_size _ _).trans (List.length_replicate)).symm)) (s2_9.ne rfl).ev (At.hit z9 rfl).ev (nums_one _ _) kg2_4 (((nums_size _ _).trans (List.length_replicate)).trans ((nums_size _ _).trans (List.length_replicate)).symm) ?_
  intro w10 k10 u10
  have kg1_10 := u10.blk kg1_4 (by omega)
  have kg3_10 := u10.blk k4 (by omega)
  refine l_end ?_
  refine e_fresh z9.put ?_
  intro a11 z11 m11
  have s2_11 := m11 _ _ (s2_9.ne rfl)
  have low11 := (low5.upd u10 geg2)
  clear m11
  refine e_then ?_
  refine wp_ret ?_
  refine ret_then ?_
  refine r_cell rfl z11.defers s2_11 k10 Try.underlying31 rfl (sz31.trans (congrArg some ((nums_size _ _).trans (List.length_replicate)).symm)) ?_
  exact ⟨rfl, low11⟩
theorem DR_bad13.calls (K B : Int) (h0 : ¬ K < 0) (hy : K > 64) (w0 : World) : Calls Try.prog 10 #[.agg #[.int .i64 1, .int .i64 K, .int .i64 B]] w0 fun e w' => e = .returned (.agg (nums .u32 (List.replicate 80 0))) ∧ Low w0 w' := by
  refine c_fun (R := _) Try.func10 rfl 164 rfl (Nat.le_of_ble_eq_true rfl) ?_
  intro a z hA
  have s0 := hA 0 _ rfl
  clear hA
  refine c_seq ?_
  refine c_region ?_
  refine l_box rfl rfl s0.ev ?_
  intro g1 w1 hg1 k1 h1
  have geg1 := Nat.le_trans (Low.refl _).ge hg1
  refine l_alloc rfl rfl zero31 ?_
  intro g2 w2 hg2 k2 h2
  have lt_g1_g2 := Nat.lt_of_lt_of_le (heap_lt k1) hg2
  have geg2 := Nat.le_trans h1.ge hg2
  have kg1_2 := h2.blk k1
  refine l_end ?_
  refine e_fresh z.put.put ?_
  intro a3 z3 m3
  have s1_3 := m3 _ _ ((At.hit z rfl).ne rfl)
  have s2_3 := m3 _ _ (At.hit z.put rfl)
  have low3 := (h1.trans h2)
  clear m3
  refine e_then ?_
  refine c_seq ?_
  refine c_region ?_
  refine l_alloc rfl rfl zero31 ?_
  intro g3 w4 hg4 k4 h4
  have lt_g1_g3 := Nat.lt_of_lt_of_le (heap_lt kg1_2) hg4
  have lt_g2_g3 := Nat.lt_of_lt_of_le (heap_lt k2) hg4
  have geg3 := Nat.le_trans low3.ge hg4
  have kg1_4 := h4.blk kg1_2
  have kg2_4 := h4.blk k2
  refine l_end ?_
  refine e_fresh z3.put ?_
  intro a5 z5 m5
  have s1_5 := m5 _ _ (s1_3.ne rfl)
  have s2_5 := m5 _ _ (s2_3.ne rfl)
  have s3_5 := m5 _ _ (At.hit z3 rfl)
  have low5 := (low3.trans h4)
  clear m5
  refine e_then ?_
  refine c_seq ?_
  refine c_seq ?_
  refine c_region ?_
  refine l_q rfl (q_fld 0 rfl (by kernel_rfl) s1_5.ev ?_)
  refine l_q rfl (q_cell (.int .i64 1) rfl Try.underlying3 (At.hit z5 rfl).ev (fun _ e => by rw [e]; exact (cells_at kg1_4 0).trans rfl) ?_)
  refine l_q rfl (q_neq false rfl (At.hit z5.put rfl).ev rfl (decide_eq_false (by omega)) ?_)
  refine l_q rfl (q_move _ _ rfl (At.hit z5.put.put rfl).ev ?_)
  refine l_skip (wanted_is (j := 3) (d := 12) (b := false) rfl rfl (At.hit z5.put.put.put rfl) rfl) ?_
  refine l_skip (wanted_is (j := 3) (d := 12) (b := false) rfl rfl ((At.hit z5.put.put.put rfl).ne rfl) rfl) ?_
  refine l_skip (wanted_is (j := 3) (d := 12) (b := false) rfl rfl (((At.hit z5.put.put.put rfl).ne rfl).ne rfl) rfl) ?_
  refine l_q rfl (q_pick (b := false) (.bool false) rfl ((((At.hit z5.put.put.put rfl).ne rfl).ne rfl).ne rfl).ev rfl ?_)
  refine l_fresh z5.put.put.put.put.put.put.put.put ?_
  intro a6 z6 m6
  have s1_6 := m6 _ _ ((((((((s1_5.ne rfl).ne rfl).ne rfl).ne rfl).ne rfl).ne rfl).ne rfl).ne rfl)
  have s2_6 := m6 _ _ ((((((((s2_5.ne rfl).ne rfl).ne rfl).ne rfl).ne rfl).ne rfl).ne rfl).ne rfl)
  have s3_6 := m6 _ _ ((((((((s3_5.ne rfl).ne rfl).ne rfl).ne rfl).ne rfl).ne rfl).ne rfl).ne rfl)
  have s16_6 := m6 _ _ (At.hit z5.put.put.put.put.put.put.put rfl)
  clear m6
  refine l_q rfl (q_move _ _ rfl s16_6.ev ?_)
  refine l_qg (wanted_is (j := 8) (d := 17) (b := false) rfl rfl (At.hit z6 rfl) rfl) (q_fld 1 rfl (by kernel_rfl) (s1_6.ne rfl).ev ?_)
  refine l_qg (wanted_is (j := 8) (d := 17) (b := false) rfl rfl ((At.hit z6 rfl).ne rfl) rfl) (q_cell (.int .i64 K) rfl Try.underlying3 (At.hit z6.put rfl).ev (fun _ e => by rw [e]; exact (cells_at kg1_4 1).trans rfl) ?_)
  refine l_qg (wanted_is (j := 8) (d := 17) (b := false) rfl rfl (((At.hit z6 rfl).ne rfl).ne rfl) rfl) (q_lss false rfl (At.hit z6.put.put rfl).ev rfl (decide_eq_false (by omega)) ?_)
  refine l_q rfl (q_pick (b := false) (.bool false) rfl ((((At.hit z6 rfl).ne rfl).ne rfl).ne rfl).ev (At.hit z6.put.put.put rfl).ev ?_)
  refine l_q rfl (q_move _ _ rfl (At.hit z6.put.put.put.put rfl).ev ?_)
  refine l_qg (wanted_is (j := 13) (d := 22) (b := false) rfl rfl (At.hit z6.put.put.put.put.put rfl) rfl) (q_fld 1 rfl (by kernel_rfl) ((((((s1_6.ne rfl).ne rfl).ne rfl).ne rfl).ne rfl).ne rfl).ev ?_)
  refine l_qg (wanted_is (j := 13) (d := 22) (b := false) rfl rfl ((At.hit z6.put.put.put.put.put rfl).ne rfl) rfl) (q_cell (.int .i64 K) rfl Try.underlying3 (At.hit z6.put.put.put.put.put.put rfl).ev (fun _ e => by rw [e]; exact (cells_at kg1_4 1).trans rfl) ?_)
  refine l_fresh z6.put.put.put.put.put.put.put.put ?_
  intro a7 z7 m7
  have s1_7 := m7 _ _ ((((((((s1_6.ne rfl).ne rfl).ne rfl).ne rfl).ne rfl).ne rfl).ne rfl).ne rfl)
  have s2_7 := m7 _ _ ((((((((s2_6.ne rfl).ne rfl).ne rfl).ne rfl).ne rfl).ne rfl).ne rfl).ne rfl)
  have s3_7 := m7 _ _ ((((((((s3_6.ne rfl).ne rfl).ne rfl).ne rfl).ne rfl).ne rfl).ne rfl).ne rfl)
  have s22_7 := m7 _ _ (((At.hit z6.put.put.put.put.put rfl).ne rfl).ne rfl)
  have s24_7 := m7 _ _ (At.hit z6.put.put.put.put.put.put.put rfl)
  clear m7
  refine l_qg (wanted_is (j := 13) (d := 22) (b := false) rfl rfl s22_7 rfl) (q_gtr true rfl s24_7.ev rfl (decide_eq_true (by omega)) ?_)
  refine l_q rfl (q_pick (b := false) (.bool true) rfl (s22_7.ne rfl).ev (At.hit z7 rfl).ev ?_)
  refine l_q rfl (q_move _ _ rfl (At.hit z7.put rfl).ev ?_)
  refine l_skip (wanted_is (j := 18) (d := 27) (b := true) rfl rfl (At.hit z7.put.put rfl) rfl) ?_
  refine l_skip (wanted_is (j := 18) (d := 27) (b := true) rfl rfl ((At.hit z7.put.put rfl).ne rfl) rfl) ?_
  refine l_skip (wanted_is (j := 18) (d := 27) (b := true) rfl rfl (((At.hit z7.put.put rfl).ne rfl).ne rfl) rfl) ?_
  refine l_q rfl (q_pick (b := true) (.bool true) rfl ((((At.hit z7.put.put rfl).ne rfl).ne rfl).ne rfl).ev rfl ?_)
  refine l_q rfl (q_move _ _ rfl (At.hit z7.put.put.put.put.put.put rfl).ev ?_)
  refine l_fresh z7.put.put.put.put.put.put.put.put ?_
  intro a8 z8 m8
  have s1_8 := m8 _ _ ((((((((s1_7.ne rfl).ne rfl).ne rfl).ne rfl).ne rfl).ne rfl).ne rfl).ne rfl)
  have s2_8 := m8 _ _ ((((((((s2_7.ne rfl).ne rfl).ne rfl).ne rfl).ne rfl).ne rfl).ne rfl).ne rfl)
  have s3_8 := m8 _ _ ((((((((s3_7.ne rfl).ne rfl).ne rfl).ne rfl).ne rfl).ne rfl).ne rfl).ne rfl)
  have s32_8 := m8 _ _ (At.hit z7.put.put.put.put.put.put.put rfl)
  clear m8
  refine l_skip (wanted_is (j := 23) (d := 32) (b := true) rfl rfl s32_8 rfl) ?_
  refine l_skip (wanted_is (j := 23) (d := 32) (b := true) rfl rfl (s32_8.ne rfl) rfl) ?_
  refine l_skip (wanted_is (j := 23) (d := 32) (b := true) rfl rfl ((s32_8.ne rfl).ne rfl) rfl) ?_
  refine l_q rfl (q_pick (b := true) (.bool true) rfl (((s32_8.ne rfl).ne rfl).ne rfl).ev rfl ?_)
  refine l_end ?_
  refine e_fresh z8.put.put.put.put ?_
  intro a9 z9 m9
  have s1_9 := m9 _ _ ((((s1_8.ne rfl).ne rfl).ne rfl).ne rfl)
  have s2_9 := m9 _ _ ((((s2_8.ne rfl).ne rfl).ne rfl).ne rfl)
  have s3_9 := m9 _ _ ((((s3_8.ne rfl).ne rfl).ne rfl).ne rfl)
  have s36_9 := m9 _ _ (At.hit z8.put.put.put rfl)
  clear m9
  refine e_then ?_
  refine c_true s36_9 ?_
  refine c_seq ?_
  refine c_region ?_
  refine l_q rfl (q_row rfl Try.underlying31 rfl (sz31.trans (congrArg some ((nums_size _ _).trans (List.length_replicate)).symm)) s3_9.ev (fun _ e => by rw [e]; exact k4) ?_)
  refine l_row rfl rfl rfl (sz31.trans (congrArg some ((nums_size _ _).trans (List.length_replicate)).symm)) (s2_9.ne rfl).ev (At.hit z9 rfl).ev (nums_one _ _) kg2_4 (((nums_size _ _).trans (List.length_replicate)).trans ((nums_size _ _).trans (List.length_replicate)).symm) ?_
  intro w10 k10 u10
  have kg1_10 := u10.blk kg1_4 (by omega)
  have kg3_10 := u10.blk k4 (by omega)
  refine l_end ?_
  refine e_fresh z9.put ?_
  intro a11 z11 m11
  have s2_11 := m11 _ _ (s2_9.ne rfl)
  have low11 := (low5.upd u10 geg2)
  clear m11
  refine e_then ?_
  refine wp_ret ?_
  refine ret_then ?_
  refine r_cell rfl z11.defers s2_11 k10 Try.underlying31 rfl (sz31.trans (congrArg some ((nums_size _ _).trans (List.length_replicate)).symm)) ?_
  exact ⟨rfl, low11⟩
theorem DR_bad14.calls (K B : Int) (h0 : ¬ K < 0) (h1 : ¬ K > 64) (hy : B < 0) (w0 : World) : Calls Try.prog 10 #[.agg #[.int .i64 1, .int .i64 K, .int .i64 B]] w0 fun e w' => e = .returned (.agg (nums .u32 (List.replicate 80 0))) ∧ Low w0 w' := by
  refine c_fun (R := _) Try.func10 rfl 164 rfl (Nat.le_of_ble_eq_true rfl) ?_
  intro a z hA
  have s0 := hA 0 _ rfl
  clear hA
  refine c_seq ?_
  refine c_region ?_
  refine l_box rfl rfl s0.ev ?_
  intro g1 w1 hg1 k1 h1
  have geg1 := Nat.le_trans (Low.refl _).ge hg1
  refine l_alloc rfl rfl zero31 ?_
  intro g2 w2 hg2 k2 h2
  have lt_g1_g2 := Nat.lt_of_lt_of_le (heap_lt k1) hg2
  have geg2 := Nat.le_trans h1.ge hg2
  have kg1_2 := h2.blk k1
  refine l_end ?_
  refine e_fresh z.put.put ?_
  intro a3 z3 m3
  have s1_3 := m3 _ _ ((At.hit z rfl).ne rfl)
  have s2_3 := m3 _ _ (At.hit z.put rfl)
  have low3 := (h1.trans h2)
  clear m3
  refine e_then ?_
  refine c_seq ?_
  refine c_region ?_
  refine l_alloc rfl rfl zero31 ?_
  intro g3 w4 hg4 k4 h4
  have lt_g1_g3 := Nat.lt_of_lt_of_le (heap_lt kg1_2) hg4
  have lt_g2_g3 := Nat.lt_of_lt_of_le (heap_lt k2) hg4
  have geg3 := Nat.le_trans low3.ge hg4
  have kg1_4 := h4.blk kg1_2
  have kg2_4 := h4.blk k2
  refine l_end ?_
  refine e_fresh z3.put ?_
  intro a5 z5 m5
  have s1_5 := m5 _ _ (s1_3.ne rfl)
  have s2_5 := m5 _ _ (s2_3.ne rfl)
  have s3_5 := m5 _ _ (At.hit z3 rfl)
  have low5 := (low3.trans h4)
  clear m5
  refine e_then ?_
  refine c_seq ?_
  refine c_seq ?_
  refine c_region ?_
  refine l_q rfl (q_fld 0 rfl (by kernel_rfl) s1_5.ev ?_)
  refine l_q rfl (q_cell (.int .i64 1) rfl Try.underlying3 (At.hit z5 rfl).ev (fun _ e => by rw [e]; exact (cells_at kg1_4 0).trans rfl) ?_)
  refine l_q rfl (q_neq false rfl (At.hit z5.put rfl).ev rfl (decide_eq_false (by omega)) ?_)
  refine l_q rfl (q_move _ _ rfl (At.hit z5.put.put rfl).ev ?_)
  refine l_skip (wanted_is (j := 3) (d := 12) (b := false) rfl rfl (At.hit z5.put.put.put rfl) rfl) ?_
  refine l_skip (wanted_is (j := 3) (d := 12) (b := false) rfl rfl ((At.hit z5.put.put.put rfl).ne rfl) rfl) ?_
  refine l_skip (wanted_is (j := 3) (d := 12) (b := false) rfl rfl (((At.hit z5.put.put.put rfl).ne rfl).ne rfl) rfl) ?_
  refine l_q rfl (q_pick (b := false) (.bool false) rfl ((((At.hit z5.put.put.put rfl).ne rfl).ne rfl).ne rfl).ev rfl ?_)
  refine l_fresh z5.put.put.put.put.put.put.put.put ?_
  intro a6 z6 m6
  have s1_6 := m6 _ _ ((((((((s1_5.ne rfl).ne rfl).ne rfl).ne rfl).ne rfl).ne rfl).ne rfl).ne rfl)
  have s2_6 := m6 _ _ ((((((((s2_5.ne rfl).ne rfl).ne rfl).ne rfl).ne rfl).ne rfl).ne rfl).ne rfl)
  have s3_6 := m6 _ _ ((((((((s3_5.ne rfl).ne rfl).ne rfl).ne rfl).ne rfl).ne rfl).ne rfl).ne rfl)
  have s16_6 := m6 _ _ (At.hit z5.put.put.put.put.put.put.put rfl)
  clear m6
  refine l_q rfl (q_move _ _ rfl s16_6.ev ?_)
  refine l_qg (wanted_is (j := 8) (d := 17) (b := false) rfl rfl (At.hit z6 rfl) rfl) (q_fld 1 rfl (by kernel_rfl) (s1_6.ne rfl).ev ?_)
  refine l_qg (wanted_is (j := 8) (d := 17) (b := false) rfl rfl ((At.hit z6 rfl).ne rfl) rfl) (q_cell (.int .i64 K) rfl Try.underlying3 (At.hit z6.put rfl).ev (fun _ e => by rw [e]; exact (cells_at kg1_4 1).trans rfl) ?_)
  refine l_qg (wanted_is (j := 8) (d := 17) (b := false) rfl rfl (((At.hit z6 rfl).ne rfl).ne rfl) rfl) (q_lss false rfl (At.hit z6.put.put rfl).ev rfl (decide_eq_false (by omega)) ?_)
  refine l_q rfl (q_pick (b := false) (.bool false) rfl ((((At.hit z6 rfl).ne rfl).ne rfl).ne rfl).ev (At.hit z6.put.put.put rfl).ev ?_)
  refine l_q rfl (q_move _ _ rfl (At.hit z6.put.put.put.put rfl).ev ?_)
  refine l_qg (wanted_is (j := 13) (d := 22) (b := false) rfl rfl (At.hit z6.put.put.put.put.put rfl) rfl) (q_fld 1 rfl (by kernel_rfl) ((((((s1_6.ne rfl).ne rfl).ne rfl).ne rfl).ne rfl).ne rfl).ev ?_)
  refine l_qg (wanted_is (j := 13) (d := 22) (b := false) rfl rfl ((At.hit z6.put.put.put.put.put rfl).ne rfl) rfl) (q_cell (.int .i64 K) rfl Try.underlying3 (At.hit z6.put.put.put.put.put.put rfl).ev (fun _ e => by rw [e]; exact (cells_at kg1_4 1).trans rfl) ?_)
  refine l_fresh z6.put.put.put.put.put.put.put.put ?_
  intro a7 z7 m7
  have s1_7 := m7 _ _ ((((((((s1_6.ne rfl).ne rfl).ne rfl).ne rfl).ne rfl).ne rfl).ne rfl).ne rfl)
  have s2_7 := m7 _ _ ((((((((s2_6.ne rfl).ne rfl).ne rfl).ne rfl).ne rfl).ne rfl).ne rfl).ne rfl)
  have s3_7 := m7 _ _ ((((((((s3_6.ne rfl).ne rfl).ne rfl).ne rfl).ne rfl).ne rfl).ne rfl).ne rfl)
  have s22_7 := m7 _ _ (((At.hit z6.put.put.put.put.put rfl).ne rfl).ne rfl)
  have s24_7 := m7 _ _ (At.hit z6.put.put.put.put.put.put.put rfl)
  clear m7
  refine l_qg (wanted_is (j := 13) (d := 22) (b := false) rfl rfl s22_7 rfl) (q_gtr false rfl s24_7.ev rfl (decide_eq_false (by omega)) ?_)
  refine l_q rfl (q_pick (b := false) (.bool false) rfl (s22_7.ne rfl).ev (At.hit z7 rfl).ev ?_)
  refine l_q rfl (q_move _ _ rfl (At.hit z7.put rfl).ev ?_)
  refine l_qg (wanted_is (j := 18) (d := 27) (b := false) rfl rfl (At.hit z7.put.put rfl) rfl) (q_fld 2 rfl (by kernel_rfl) (((s1_7.ne rfl).ne rfl).ne rfl).ev ?_)
  refine l_qg (wanted_is (j := 18) (d := 27) (b := false) rfl rfl ((At.hit z7.put.put rfl).ne rfl) rfl) (q_cell (.int .i64 B) rfl Try.underlying3 (At.hit z7.put.put.put rfl).ev (fun _ e => by rw [e]; exact (cells_at kg1_4 2).trans rfl) ?_)
  refine l_qg (wanted_is (j := 18) (d := 27) (b := false) rfl rfl (((At.hit z7.put.put rfl).ne rfl).ne rfl) rfl) (q_lss true rfl (At.hit z7.put.put.put.put rfl).ev rfl (decide_eq_true (by omega)) ?_)
  refine l_q rfl (q_pick (b := false) (.bool true) rfl ((((At.hit z7.put.put rfl).ne rfl).ne rfl).ne rfl).ev (At.hit z7.put.put.put.put.put rfl).ev ?_)
  refine l_q rfl (q_move _ _ rfl (At.hit z7.put.put.put.put.put.put rfl).ev ?_)
  refine l_fresh z7.put.put.put.put.put.put.put.put ?_
  intro a8 z8 m8
  have s1_8 := m8 _ _ ((((((((s1_7.ne rfl).ne rfl).ne rfl).ne rfl).ne rfl).ne rfl).ne rfl).ne rfl)
  have s2_8 := m8 _ _ ((((((((s2_7.ne rfl).ne rfl).ne rfl).ne rfl).ne rfl).ne rfl).ne rfl).ne rfl)
  have s3_8 := m8 _ _ ((((((((s3_7.ne rfl).ne rfl).ne rfl).ne rfl).ne rfl).ne rfl).ne rfl).ne rfl)
  have s32_8 := m8 _ _ (At.hit z7.put.put.put.put.put.put.put rfl)
  clear m8
  refine l_skip (wanted_is (j := 23) (d := 32) (b := true) rfl rfl s32_8 rfl) ?_
  refine l_skip (wanted_is (j := 23) (d := 32) (b := true) rfl rfl (s32_8.ne rfl) rfl) ?_
  refine l_skip (wanted_is (j := 23) (d := 32) (b := true) rfl rfl ((s32_8.ne rfl).ne rfl) rfl) ?_
  refine l_q rfl (q_pick (b := true) (.bool true) rfl (((s32_8.ne rfl).ne rfl).ne rfl).ev rfl ?_)
  refine l_end ?_
  refine e_fresh z8.put.put.put.put ?_
  intro a9 z9 m9
  have s1_9 := m9 _ _ ((((s1_8.ne rfl).ne rfl).ne rfl).ne rfl)
  have s2_9 := m9 _ _ ((((s2_8.ne rfl).ne rfl).ne rfl).ne rfl)
  have s3_9 := m9 _ _ ((((s3_8.ne rfl).ne rfl).ne rfl).ne rfl)
  have s36_9 := m9 _ _ (At.hit z8.put.put.put rfl)
  clear m9
  refine e_then ?_
  refine c_true s36_9 ?_
  refine c_seq ?_
  refine c_region ?_
  refine l_q rfl (q_row rfl Try.underlying31 rfl (sz31.trans (congrArg some ((nums_size _ _).trans (List.length_replicate)).symm)) s3_9.ev (fun _ e => by rw [e]; exact k4) ?_)
  refine l_row rfl rfl rfl (sz31.trans (congrArg some ((nums_size _ _).trans (List.length_replicate)).symm)) (s2_9.ne rfl).ev (At.hit z9 rfl).ev (nums_one _ _) kg2_4 (((nums_size _ _).trans (List.length_replicate)).trans ((nums_size _ _).trans (List.length_replicate)).symm) ?_
  intro w10 k10 u10
  have kg1_10 := u10.blk kg1_4 (by omega)
  have kg3_10 := u10.blk k4 (by omega)
  refine l_end ?_
  refine e_fresh z9.put ?_
  intro a11 z11 m11
  have s2_11 := m11 _ _ (s2_9.ne rfl)
  have low11 := (low5.upd u10 geg2)
  clear m11
  refine e_then ?_
  refine wp_ret ?_
  refine ret_then ?_
  refine r_cell rfl z11.defers s2_11 k10 Try.underlying31 rfl (sz31.trans (congrArg some ((nums_size _ _).trans (List.length_replicate)).symm)) ?_
  exact ⟨rfl, low11⟩
theorem DR_bad15.calls (K B : Int) (h0 : ¬ K < 0) (h1 : ¬ K > 64) (h2 : ¬ B < 0) (hy : B > 31) (w0 : World) : Calls Try.prog 10 #[.agg #[.int .i64 1, .int .i64 K, .int .i64 B]] w0 fun e w' => e = .returned (.agg (nums .u32 (List.replicate 80 0))) ∧ Low w0 w' := by
  refine c_fun (R := _) Try.func10 rfl 164 rfl (Nat.le_of_ble_eq_true rfl) ?_
  intro a z hA
  have s0 := hA 0 _ rfl
  clear hA
  refine c_seq ?_
  refine c_region ?_
  refine l_box rfl rfl s0.ev ?_
  intro g1 w1 hg1 k1 h1
  have geg1 := Nat.le_trans (Low.refl _).ge hg1
  refine l_alloc rfl rfl zero31 ?_
  intro g2 w2 hg2 k2 h2
  have lt_g1_g2 := Nat.lt_of_lt_of_le (heap_lt k1) hg2
  have geg2 := Nat.le_trans h1.ge hg2
  have kg1_2 := h2.blk k1
  refine l_end ?_
  refine e_fresh z.put.put ?_
  intro a3 z3 m3
  have s1_3 := m3 _ _ ((At.hit z rfl).ne rfl)
  have s2_3 := m3 _ _ (At.hit z.put rfl)
  have low3 := (h1.trans h2)
  clear m3
  refine e_then ?_
  refine c_seq ?_
  refine c_region ?_
  refine l_alloc rfl rfl zero31 ?_
  intro g3 w4 hg4 k4 h4
  have lt_g1_g3 := Nat.lt_of_lt_of_le (heap_lt kg1_2) hg4
  have lt_g2_g3 := Nat.lt_of_lt_of_le (heap_lt k2) hg4
  have geg3 := Nat.le_trans low3.ge hg4
  have kg1_4 := h4.blk kg1_2
  have kg2_4 := h4.blk k2
  refine l_end ?_
  refine e_fresh z3.put ?_
  intro a5 z5 m5
  have s1_5 := m5 _ _ (s1_3.ne rfl)
  have s2_5 := m5 _ _ (s2_3.ne rfl)
  have s3_5 := m5 _ _ (At.hit z3 rfl)
  have low5 := (low3.trans h4)
  clear m5
  refine e_then ?_
  refine c_seq ?_
  refine c_seq ?_
  refine c_region ?_
  refine l_q rfl (q_fld 0 rfl (by kernel_rfl) s1_5.ev ?_)
  refine l_q rfl (q_cell (.int .i64 1) rfl Try.underlying3 (At.hit z5 rfl).ev (fun _ e => by rw [e]; exact (cells_at kg1_4 0).trans rfl) ?_)
  refine l_q rfl (q_neq false rfl (At.hit z5.put rfl).ev rfl (decide_eq_false (by omega)) ?_)
  refine l_q rfl (q_move _ _ rfl (At.hit z5.put.put rfl).ev ?_)
  refine l_skip (wanted_is (j := 3) (d := 12) (b := false) rfl rfl (At.hit z5.put.put.put rfl) rfl) ?_
  refine l_skip (wanted_is (j := 3) (d := 12) (b := false) rfl rfl ((At.hit z5.put.put.put rfl).ne rfl) rfl) ?_
  refine l_skip (wanted_is (j := 3) (d := 12) (b := false) rfl rfl (((At.hit z5.put.put.put rfl).ne rfl).ne rfl) rfl) ?_
  refine l_q rfl (q_pick (b := false) (.bool false) rfl ((((At.hit z5.put.put.put rfl).ne rfl).ne rfl).ne rfl).ev rfl ?_)
  refine l_fresh z5.put.put.put.put.put.put.put.put ?_
  intro a6 z6 m6
  have s1_6 := m6 _ _ ((((((((s1_5.ne rfl).ne rfl).ne rfl).ne rfl).ne rfl).ne rfl).ne rfl).ne rfl)
  have s2_6 := m6 _ _ ((((((((s2_5.ne rfl).ne rfl).ne rfl).ne rfl).ne rfl).ne rfl).ne rfl).ne rfl)
  have s3_6 := m6 _ _ ((((((((s3_5.ne rfl).ne rfl).ne rfl).ne rfl).ne rfl).ne rfl).ne rfl).ne rfl)
  have s16_6 := m6 _ _ (At.hit z5.put.put.put.put.put.put.put rfl)
  clear m6
  refine l_q rfl (q_move _ _ rfl s16_6.ev ?_)
  refine l_qg (wanted_is (j := 8) (d := 17) (b := false) rfl rfl (At.hit z6 rfl) rfl) (q_fld 1 rfl (by kernel_rfl) (s1_6.ne rfl).ev ?_)
  refine l_qg (wanted_is (j := 8) (d := 17) (b := false) rfl rfl ((At.hit z6 rfl).ne rfl) rfl) (q_cell (.int .i64 K) rfl Try.underlying3 (At.hit z6.put rfl).ev (fun _ e => by rw [e]; exact (cells_at kg1_4 1).trans rfl) ?_)
  refine l_qg (wanted_is (j := 8) (d := 17) (b := false) rfl rfl (((At.hit z6 rfl).ne rfl).ne rfl) rfl) (q_lss false rfl (At.hit z6.put.put rfl).ev rfl (decide_eq_false (by omega)) ?_)
  refine l_q rfl (q_pick (b := false) (.bool false) rfl ((((At.hit z6 rfl).ne rfl).ne rfl).ne rfl).ev (At.hit z6.put.put.put rfl).ev ?_)
  refine l_q rfl (q_move _ _ rfl (At.hit z6.put.put.put.put rfl).ev ?_)
  refine l_qg (wanted_is (j := 13) (d := 22) (b := false) rfl rfl (At.hit z6.put.put.put.put.put rfl) rfl) (q_fld 1 rfl (by kernel_rfl) ((((((s1_6.ne rfl).ne rfl).ne rfl).ne rfl).ne rfl).ne rfl).ev ?_)
  refine l_qg (wanted_is (j := 13) (d := 22) (b := false) rfl rfl ((At.hit z6.put.put.put.put.put rfl).ne rfl) rfl) (q_cell (.int .i64 K) rfl Try.underlying3 (At.hit z6.put.put.put.put.put.put rfl).ev (fun _ e => by rw [e]; exact (cells_at kg1_4 1).trans rfl) ?_)
  refine l_fresh z6.put.put.put.put.put.put.put.put ?_
  intro a7 z7 m7
  have s1_7 := m7 _ _ ((((((((s1_6.ne rfl).ne rfl).ne rfl).ne rfl).ne rfl).ne rfl).ne rfl).ne rfl)
  have s2_7 := m7 _ _ ((((((((s2_6.ne rfl).ne rfl).ne rfl).ne rfl).ne rfl).ne rfl).ne rfl).ne rfl)
  have s3_7 := m7 _ _ ((((((((s3_6.ne rfl).ne rfl).ne rfl).ne rfl).ne rfl).ne rfl).ne rfl).ne rfl)
  have s22_7 := m7 _ _ (((At.hit z6.put.put.put.put.put rfl).ne rfl).ne rfl)
  have s24_7 := m7 _ _ (At.hit z6.put.put.put.put.put.put.put rfl)
  clear m7
  refine l_qg (wanted_is (j := 13) (d := 22) (b := false) rfl rfl s22_7 rfl) (q_gtr false rfl s24_7.ev rfl (decide_eq_false (by omega)) ?_)
  refine l_q rfl (q_pick (b := false) (.bool false) rfl (s22_7.ne rfl).ev (At.hit z7 rfl).ev ?_)
  refine l_q rfl (q_move _ _ rfl (At.hit z7.put rfl).ev ?_)
  refine l_qg (wanted_is (j := 18) (d := 27) (b := false) rfl rfl (At.hit z7.put.put rfl) rfl) (q_fld 2 rfl (by kernel_rfl) (((s1_7.ne rfl).ne rfl).ne rfl).ev ?_)
  refine l_qg (wanted_is (j := 18) (d := 27) (b := false) rfl rfl ((At.hit z7.put.put rfl).ne rfl) rfl) (q_cell (.int .i64 B) rfl Try.underlying3 (At.hit z7.put.put.put rfl).ev (fun _ e => by rw [e]; exact (cells_at kg1_4 2).trans rfl) ?_)
  refine l_qg (wanted_is (j := 18) (d := 27) (b := false) rfl rfl (((At.hit z7.put.put rfl).ne rfl).ne rfl) rfl) (q_lss false rfl (At.hit z7.put.put.put.put rfl).ev rfl (decide_eq_false (by omega)) ?_)
  refine l_q rfl (q_pick (b := false) (.bool false) rfl ((((At.hit z7.put.put rfl).ne rfl).ne rfl).ne rfl).ev (At.hit z7.put.put.put.put.put rfl).ev ?_)
  refine l_q rfl (q_move _ _ rfl (At.hit z7.put.put.put.put.put.put rfl).ev ?_)
  refine l_fresh z7.put.put.put.put.put.put.put.put ?_
  intro a8 z8 m8
  have s1_8 := m8 _ _ ((((((((s1_7.ne rfl).ne rfl).ne rfl).ne rfl).ne rfl).ne rfl).ne rfl).ne rfl)
  have s2_8 := m8 _ _ ((((((((s2_7.ne rfl).ne rfl).ne rfl).ne rfl).ne rfl).ne rfl).ne rfl).ne rfl)
  have s3_8 := m8 _ _ ((((((((s3_7.ne rfl).ne rfl).ne rfl).ne rfl).ne rfl).ne rfl).ne rfl).ne rfl)
  have s32_8 := m8 _ _ (At.hit z7.put.put.put.put.put.put.put rfl)
  clear m8
  refine l_qg (wanted_is (j := 23) (d := 32) (b := false) rfl rfl s32_8 rfl) (q_fld 2 rfl (by kernel_rfl) s1_8.ev ?_)
  refine l_qg (wanted_is (j := 23) (d := 32) (b := false) rfl rfl (s32_8.ne rfl) rfl) (q_cell (.int .i64 B) rfl Try.underlying3 (At.hit z8 rfl).ev (fun _ e => by rw [e]; exact (cells_at kg1_4 2).trans rfl) ?_)
  refine l_qg (wanted_is (j := 23) (d := 32) (b := false) rfl rfl ((s32_8.ne rfl).ne rfl) rfl) (q_gtr true rfl (At.hit z8.put rfl).ev rfl (decide_eq_true (by omega)) ?_)
  refine l_q rfl (q_pick (b := false) (.bool true) rfl (((s32_8.ne rfl).ne rfl).ne rfl).ev (At.hit z8.put.put rfl).ev ?_)
  refine l_end ?_
  refine e_fresh z8.put.put.put.put ?_
  intro a9 z9 m9
  have s1_9 := m9 _ _ ((((s1_8.ne rfl).ne rfl).ne rfl).ne rfl)
  have s2_9 := m9 _ _ ((((s2_8.ne rfl).ne rfl).ne rfl).ne rfl)
  have s3_9 := m9 _ _ ((((s3_8.ne rfl).ne rfl).ne rfl).ne rfl)
  have s36_9 := m9 _ _ (At.hit z8.put.put.put rfl)
  clear m9
  refine e_then ?_
  refine c_true s36_9 ?_
  refine c_seq ?_
  refine c_region ?_
  refine l_q rfl (q_row rfl Try.underlying31 rfl (sz31.trans (congrArg some ((nums_size _ _).trans (List.length_replicate)).symm)) s3_9.ev (fun _ e => by rw [e]; exact k4) ?_)
  refine l_row rfl rfl rfl (sz31.trans (congrArg some ((nums_size _ _).trans (List.length_replicate)).symm)) (s2_9.ne rfl).ev (At.hit z9 rfl).ev (nums_one _ _) kg2_4 (((nums_size _ _).trans (List.length_replicate)).trans ((nums_size _ _).trans (List.length_replicate)).symm) ?_
  intro w10 k10 u10
  have kg1_10 := u10.blk kg1_4 (by omega)
  have kg3_10 := u10.blk k4 (by omega)
  refine l_end ?_
  refine e_fresh z9.put ?_
  intro a11 z11 m11
  have s2_11 := m11 _ _ (s2_9.ne rfl)
  have low11 := (low5.upd u10 geg2)
  clear m11
  refine e_then ?_
  refine wp_ret ?_
  refine ret_then ?_
  refine r_cell rfl z11.defers s2_11 k10 Try.underlying31 rfl (sz31.trans (congrArg some ((nums_size _ _).trans (List.length_replicate)).symm)) ?_
  exact ⟨rfl, low11⟩
theorem DR_bad22.calls (K B : Int) (hy : K < 0) (w0 : World) : Calls Try.prog 10 #[.agg #[.int .i64 2, .int .i64 K, .int .i64 B]] w0 fun e w' => e = .returned (.agg (nums .u32 (List.replicate 80 0))) ∧ Low w0 w' := by
  refine c_fun (R := _) Try.func10 rfl 164 rfl (Nat.le_of_ble_eq_true rfl) ?_
  intro a z hA
  have s0 := hA 0 _ rfl
  clear hA
  refine c_seq ?_
  refine c_region ?_
  refine l_box rfl rfl s0.ev ?_
  intro g1 w1 hg1 k1 h1
  have geg1 := Nat.le_trans (Low.refl _).ge hg1
  refine l_alloc rfl rfl zero31 ?_
  intro g2 w2 hg2 k2 h2
  have lt_g1_g2 := Nat.lt_of_lt_of_le (heap_lt k1) hg2
  have geg2 := Nat.le_trans h1.ge hg2
  have kg1_2 := h2.blk k1
  refine l_end ?_
  refine e_fresh z.put.put ?_
  intro a3 z3 m3
  have s1_3 := m3 _ _ ((At.hit z rfl).ne rfl)
  have s2_3 := m3 _ _ (At.hit z.put rfl)
  have low3 := (h1.trans h2)
  clear m3
  refine e_then ?_
  refine c_seq ?_
  refine c_region ?_
  refine l_alloc rfl rfl zero31 ?_
  intro g3 w4 hg4 k4 h4
  have lt_g1_g3 := Nat.lt_of_lt_of_le (heap_lt kg1_2) hg4
  have lt_g2_g3 := Nat.lt_of_lt_of_le (heap_lt k2) hg4
  have geg3 := Nat.le_trans low3.ge hg4
  have kg1_4 := h4.blk kg1_2
  have kg2_4 := h4.blk k2
  refine l_end ?_
  refine e_fresh z3.put ?_
  intro a5 z5 m5
  have s1_5 := m5 _ _ (s1_3.ne rfl)
  have s2_5 := m5 _ _ (s2_3.ne rfl)
  have s3_5 := m5 _ _ (At.hit z3 rfl)
  have low5 := (low3.trans h4)
  clear m5
  refine e_then ?_
  refine c_seq ?_
  refine c_seq ?_
  refine c_region ?_
  refine l_q rfl (q_fld 0 rfl (by kernel_rfl) s1_5.ev ?_)
  refine l_q rfl (q_cell (.int .i64 2) rfl Try.underlying3 (At.hit z5 rfl).ev (fun _ e => by rw [e]; exact (cells_at kg1_4 0).trans rfl) ?_)
  refine l_q rfl (q_neq true rfl (At.hit z5.put rfl).ev rfl (decide_eq_true (by omega)) ?_)
  refine l_q rfl (q_move _ _ rfl (At.hit z5.put.put rfl).ev ?_)
  refine l_qg (wanted_is (j := 3) (d := 12) (b := true) rfl rfl (At.hit z5.put.put.put rfl) rfl) (q_fld 0 rfl (by kernel_rfl) ((((s1_5.ne rfl).ne rfl).ne rfl).ne rfl).ev ?_)
  refine l_qg (wanted_is (j := 3) (d := 12) (b := true) rfl rfl ((At.hit z5.put.put.put rfl).ne rfl) rfl) (q_cell (.int .i64 2) rfl Try.underlying3 (At.hit z5.put.put.put.put rfl).ev (fun _ e => by rw [e]; exact (cells_at kg1_4 0).trans rfl) ?_)
  refine l_qg (wanted_is (j := 3) (d := 12) (b := true) rfl rfl (((At.hit z5.put.put.put rfl).ne rfl).ne rfl) rfl) (q_neq false rfl (At.hit z5.put.put.put.put.put rfl).ev rfl (decide_eq_false (by omega)) ?_)
  refine l_q rfl (q_pick (b := true) (.bool false) rfl ((((At.hit z5.put.put.put rfl).ne rfl).ne rfl).ne rfl).ev (At.hit z5.put.put.put.put.put.put rfl).ev ?_)
  refine l_fresh z5.put.put.put.put.put.put.put.put ?_
  intro a6 z6 m6
  have s1_6 := m6 _ _ ((((((((s1_5.ne rfl).ne rfl).ne rfl).ne rfl).ne rfl).ne rfl).ne rfl).ne rfl)
  have s2_6 := m6 _ _ ((((((((s2_5.ne rfl).ne rfl).ne rfl).ne rfl).ne rfl).ne rfl).ne rfl).ne rfl)
  have s3_6 := m6 _ _ ((((((((s3_5.ne rfl).ne rfl).ne rfl).ne rfl).ne rfl).ne rfl).ne rfl).ne rfl)
  have s16_6 := m6 _ _ (At.hit z5.put.put.put.put.put.put.put rfl)
  clear m6
  refine l_q rfl (q_move _ _ rfl s16_6.ev ?_)
  refine l_qg (wanted_is (j := 8) (d := 17) (b := false) rfl rfl (At.hit z6 rfl) rfl) (q_fld 1 rfl (by kernel_rfl) (s1_6.ne rfl).ev ?_)
  refine l_qg (wanted_is (j := 8) (d := 17) (b := false) rfl rfl ((At.hit z6 rfl).ne rfl) rfl) (q_cell (.int .i64 K) rfl Try.underlying3 (At.hit z6.put rfl).ev (fun _ e => by rw [e]; exact (cells_at kg1_4 1).trans rfl) ?_)
  refine l_qg (wanted_is (j := 8) (d := 17) (b := false) rfl rfl (((At.hit z6 rfl).ne rfl).ne rfl) rfl) (q_lss true rfl (At.hit z6.put.put rfl).ev rfl (decide_eq_true (by omega)) ?_)
  refine l_q rfl (q_pick (b := false) (.bool true) rfl ((((At.hit z6 rfl).ne rfl).ne rfl).ne rfl).ev (At.hit z6.put.put.put rfl).ev ?_)
  refine l_q rfl (q_move _ _ rfl (At.hit z6.put.put.put.put rfl).ev ?_)
  refine l_skip (wanted_is (j := 13) (d := 22) (b := true) rfl rfl (At.hit z6.put.put.put.put.put rfl) rfl) ?_
  refine l_skip (wanted_is (j := 13) (d := 22) (b := true) rfl rfl ((At.hit z6.put.put.put.put.put rfl).ne rfl) rfl) ?_
  refine l_fresh z6.put.put.put.put.put.put.put.put ?_
  intro a7 z7 m7
  have s1_7 := m7 _ _ ((((((((s1_6.ne rfl).ne rfl).ne rfl).ne rfl).ne rfl).ne rfl).ne rfl).ne rfl)
  have s2_7 := m7 _ _ ((((((((s2_6.ne rfl).ne rfl).ne rfl).ne rfl).ne rfl).ne rfl).ne rfl).ne rfl)
  have s3_7 := m7 _ _ ((((((((s3_6.ne rfl).ne rfl).ne rfl).ne rfl).ne rfl).ne rfl).ne rfl).ne rfl)
  have s22_7 := m7 _ _ (((At.hit z6.put.put.put.put.put rfl).ne rfl).ne rfl)
  have s24_7 := m7 _ _ (At.hit z6.put.put.put.put.put.put.put rfl)
  clear m7
  refine l_skip (wanted_is (j := 13) (d := 22) (b := true) rfl rfl s22_7 rfl) ?_
  refine l_q rfl (q_pick (b := true) (.bool true) rfl (s22_7.ne rfl).ev rfl ?_)
  refine l_q rfl (q_move _ _ rfl (At.hit z7.put rfl).ev ?_)
  refine l_skip (wanted_is (j := 18) (d := 27) (b := true) rfl rfl (At.hit z7.put.put rfl) rfl) ?_
  refine l_skip (wanted_is (j := 18) (d := 27) (b := true) rfl rfl ((At.hit z7.put.put rfl).ne rfl) rfl) ?_
  refine l_skip (wanted_is (j := 18) (d := 27) (b := true) rfl rfl (((At.hit z7.put.put rfl).ne rfl).ne rfl) rfl) ?_
  refine l_q rfl (q_pick (b := true) (.bool true) rfl ((((At.hit z7.put.put rfl).ne rfl).ne rfl).ne rfl).ev rfl ?_)
  refine l_q rfl (q_move _ _ rfl (At.hit z7.put.put.put.put.put.put rfl).ev ?_)
  refine l_fresh z7.put.put.put.put.put.put.put.put ?_
  intro a8 z8 m8
  have s1_8 := m8 _ _ ((((((((s1_7.ne rfl).ne rfl).ne rfl).ne rfl).ne rfl).ne rfl).ne rfl).ne rfl)
  have s2_8 := m8 _ _ ((((((((s2_7.ne rfl).ne rfl).ne rfl).ne rfl).ne rfl).ne rfl).ne rfl).ne rfl)
  have s3_8 := m8 _ _ ((((((((s3_7.ne rfl).ne rfl).ne rfl).ne rfl).ne rfl).ne rfl).ne rfl).ne rfl)
  have s32_8 := m8 _ _ (At.hit z7.put.put.put.put.put.put.put rfl)
  clear m8
  refine l_skip (wanted_is (j := 23) (d := 32) (b := true) rfl rfl s32_8 rfl) ?_
  refine l_skip (wanted_is (j := 23) (d := 32) (b := true) rfl rfl (s32_8.ne rfl) rfl) ?_
  refine l_skip (wanted_is (j := 23) (d := 32) (b := true) rfl rfl ((s32_8.ne rfl).ne rfl) rfl) ?_
  refine l_q rfl (q_pick (b := true) (.bool true) rfl (((s32_8.ne rfl).ne rfl).ne rfl).ev rfl ?_)
  refine l_end ?_
  refine e_fresh z8.put.put.put.put ?_
  intro a9 z9 m9
  have s1_9 := m9 _ _ ((((s1_8.ne rfl).ne rfl).ne rfl).ne rfl)
  have s2_9 := m9 _ _ ((((s2_8.ne rfl).ne rfl).ne rfl).ne rfl)
  have s3_9 := m9 _ _ ((((s3_8.ne rfl).ne rfl).ne rfl).ne rfl)
  have s36_9 := m9 _ _ (At.hit z8.put.put.put rfl)
  clear m9
  refine e_then ?_
  refine c_true s36_9 ?_
  refine c_seq ?_
  refine c_region ?_
  refine l_q rfl (q_row rfl Try.underlying31 rfl (sz31.trans (congrArg some ((nums_size _ _).trans (List.length_replicate)).symm)) s3_9.ev (fun _ e => by rw [e]; exact k4) ?_)
  refine l_row rfl rfl rfl (sz31.trans (congrArg some ((nums_size _ _).trans (List.length_replicate)).symm)) (s2_9.ne rfl).ev (At.hit z9 rfl).ev (nums_one _ _) kg2_4 (((nums_size _ _).trans (List.length_replicate)).trans ((nums_size _ _).trans (List.length_replicate)).symm) ?_
  intro w10 k10 u10
  have kg1_10 := u10.blk kg1_4 (by omega)
  have kg3_10 := u10.blk k4 (by omega)
  refine l_end ?_
  refine e_fresh z9.put ?_
  intro a11 z11 m11
  have s2_11 := m11 _ _ (s2_9.ne rfl)
  have low11 := (low5.upd u10 geg2)
  clear m11
  refine e_then ?_
  refine wp_ret ?_
  refine ret_then ?_
  refine r_cell rfl z11.defers s2_11 k10 Try.underlying31 rfl (sz31.trans (congrArg some ((nums_size _ _).trans (List.length_replicate)).symm)) ?_
  exact ⟨rfl, low11⟩
theorem DR_bad23.calls (K B : Int) (h0 : ¬ K < 0) (hy : K > 64) (w0 : World) : Calls Try.prog 10 #[.agg #[.int .i64 2, .int .i64 K, .int .i64 B]] w0 fun e w' => e = .returned (.agg (nums .u32 (List.replicate 80 0))) ∧ Low w0 w' := by
  refine c_fun (R := _) Try.func10 rfl 164 rfl (Nat.le_of_ble_eq_true rfl) ?_
  intro a z hA
  have s0 := hA 0 _ rfl
  clear hA
  refine c_seq ?_
  refine c_region ?_
  refine l_box rfl rfl s0.ev ?_
  intro g1 w1 hg1 k1 h1
  have geg1 := Nat.le_trans (Low.refl _).ge hg1
  refine l_alloc rfl rfl zero31 ?_
  intro g2 w2 hg2 k2 h2
  have lt_g1_g2 := Nat.lt_of_lt_of_le (heap_lt k1) hg2
  have geg2 := Nat.le_trans h1.ge hg2
  have kg1_2 := h2.blk k1
  refine l_end ?_
  refine e_fresh z.put.put ?_
  intro a3 z3 m3
  have s1_3 := m3 _ _ ((At.hit z rfl).ne rfl)
  have s2_3 := m3 _ _ (At.hit z.put rfl)
  have low3 := (h1.trans h2)
  clear m3
  refine e_then ?_
  refine c_seq ?_
  refine c_region ?_
  refine l_alloc rfl rfl zero31 ?_
  intro g3 w4 hg4 k4 h4
  have lt_g1_g3 := Nat.lt_of_lt_of_le (heap_lt kg1_2) hg4
  have lt_g2_g3 := Nat.lt_of_lt_of_le (heap_lt k2) hg4
  have geg3 := Nat.le_trans low3.ge hg4
  have kg1_4 := h4.blk kg1_2
  have kg2_4 := h4.blk k2
  refine l_end ?_
  refine e_fresh z3.put ?_
  intro a5 z5 m5
  have s1_5 := m5 _ _ (s1_3.ne rfl)
  have s2_5 := m5 _ _ (s2_3.ne rfl)
  have s3_5 := m5 _ _ (At.hit z3 rfl)
  have low5 := (low3.trans h4)
  clear m5
  refine e_then ?_
  refine c_seq ?_
  refine c_seq ?_
  refine c_region ?_
  refine l_q rfl (q_fld 0 rfl (by kernel_rfl) s1_5.ev ?_)
  refine l_q rfl (q_cell (.int .i64 2) rfl Try.underlying3 (At.hit z5 rfl).ev (fun _ e => by rw [e]; exact (cells_at kg1_4 0).trans rfl) ?_)
  refine l_q rfl (q_neq true rfl (At.hit z5.put rfl).ev rfl (decide_eq_true (by omega)) ?_)
  refine l_q rfl (q_move _ _ rfl (At.hit z5.put.put rfl).ev ?_)
  refine l_qg (wanted_is (j := 3) (d := 12) (b := true) rfl rfl (At.hit z5.put.put.put rfl) rfl) (q_fld 0 rfl (by kernel_rfl) ((((s1_5.ne rfl).ne rfl).ne rfl).ne rfl).ev ?_)
  refine l_qg (wanted_is (j := 3) (d := 12) (b := true) rfl rfl ((At.hit z5.put.put.put rfl).ne rfl) rfl) (q_cell (.int .i64 2) rfl Try.underlying3 (At.hit z5.put.put.put.put rfl).ev (fun _ e => by rw [e]; exact (cells_at kg1_4 0).trans rfl) ?_)
  refine l_qg (wanted_is (j := 3) (d := 12) (b := true) rfl rfl (((At.hit z5.put.put.put rfl).ne rfl).ne rfl) rfl) (q_neq false rfl (At.hit z5.put.put.put.put.put rfl).ev rfl (decide_eq_false (by omega)) ?_)
  refine l_q rfl (q_pick (b := true) (.bool false) rfl ((((At.hit z5.put.put.put rfl).ne rfl).ne rfl).ne rfl).ev (At.hit z5.put.put.put.put.put.put rfl).ev ?_)
  refine l_fresh z5.put.put.put.put.put.put.put.put ?_
  intro a6 z6 m6
  have s1_6 := m6 _ _ ((((((((s1_5.ne rfl).ne rfl).ne rfl).ne rfl).ne rfl).ne rfl).ne rfl).ne rfl)
  have s2_6 := m6 _ _ ((((((((s2_5.ne rfl).ne rfl).ne rfl).ne rfl).ne rfl).ne rfl).ne rfl).ne rfl)
  have s3_6 := m6 _ _ ((((((((s3_5.ne rfl).ne rfl).ne rfl).ne rfl).ne rfl).ne rfl).ne rfl).ne rfl)
  have s16_6 := m6 _ _ (At.hit z5.put.put.put.put.put.put.put rfl)
  clear m6
  refine l_q rfl (q_move _ _ rfl s16_6.ev ?_)
  refine l_qg (wanted_is (j := 8) (d := 17) (b := false) rfl rfl (At.hit z6 rfl) rfl) (q_fld 1 rfl (by kernel_rfl) (s1_6.ne rfl).ev ?_)
  refine l_qg (wanted_is (j := 8) (d := 17) (b := false) rfl rfl ((At.hit z6 rfl).ne rfl) rfl) (q_cell (.int .i64 K) rfl Try.underlying3 (At.hit z6.put rfl).ev (fun _ e => by rw [e]; exact (cells_at kg1_4 1).trans rfl) ?_)
  refine l_qg (wanted_is (j := 8) (d := 17) (b := false) rfl rfl (((At.hit z6 rfl).ne rfl).ne rfl) rfl) (q_lss false rfl (At.hit z6.put.put rfl).ev rfl (decide_eq_false (by omega)) ?_)
  refine l_q rfl (q_pick (b := false) (.bool false) rfl ((((At.hit z6 rfl).ne rfl).ne rfl).ne rfl).ev (At.hit z6.put.put.put rfl).ev ?_)
  refine l_q rfl (q_move _ _ rfl (At.hit z6.put.put.put.put rfl).ev ?_)
  refine l_qg (wanted_is (j := 13) (d := 22) (b := false) rfl rfl (At.hit z6.put.put.put.put.put rfl) rfl) (q_fld 1 rfl (by kernel_rfl) ((((((s1_6.ne rfl).ne rfl).ne rfl).ne rfl).ne rfl).ne rfl).ev ?_)
  refine l_qg (wanted_is (j := 13) (d := 22) (b := false) rfl rfl ((At.hit z6.put.put.put.put.put rfl).ne rfl) rfl) (q_cell (.int .i64 K) rfl Try.underlying3 (At.hit z6.put.put.put.put.put.put rfl).ev (fun _ e => by rw [e]; exact (cells_at kg1_4 1).trans rfl) ?_)
  refine l_fresh z6.put.put.put.put.put.put.put.put ?_
  intro a7 z7 m7
  have s1_7 := m7 _ _ ((((((((s1_6.ne rfl).ne rfl).ne rfl).ne rfl).ne rfl).ne rfl).ne rfl).ne rfl)
  have s2_7 := m7 _ _ ((((((((s2_6.ne rfl).ne rfl).ne rfl).ne rfl).ne rfl).ne rfl).ne rfl).ne rfl)
  have s3_7 := m7 _ _ ((((((((s3_6.ne rfl).ne rfl).ne rfl).ne rfl).ne rfl).ne rfl).ne rfl).ne rfl)
  have s22_7 := m7 _ _ (((At.hit z6.put.put.put.put.put rfl).ne rfl).ne rfl)
  have s24_7 := m7 _ _ (At.hit z6.put.put.put.put.put.put.put rfl)
  clear m7
  refine l_qg (wanted_is (j := 13) (d := 22) (b := false) rfl rfl s22_7 rfl) (q_gtr true rfl s24_7.ev rfl (decide_eq_true (by omega)) ?_)
  refine l_q rfl (q_pick (b := false) (.bool true) rfl (s22_7.ne rfl).ev (At.hit z7 rfl).ev ?_)
  refine l_q rfl (q_move _ _ rfl (At.hit z7.put rfl).ev ?_)
  refine l_skip (wanted_is (j := 18) (d := 27) (b := true) rfl rfl (At.hit z7.put.put rfl) rfl) ?_
  refine l_skip (wanted_is (j := 18) (d := 27) (b := true) rfl rfl ((At.hit z7.put.put rfl).ne rfl) rfl) ?_
  refine l_skip (wanted_is (j := 18) (d := 27) (b := true) rfl rfl (((At.hit z7.put.put rfl).ne rfl).ne rfl) rfl) ?_
  refine l_q rfl (q_pick (b := true) (.bool true) rfl ((((At.hit z7.put.put rfl).ne rfl).ne rfl).ne rfl).ev rfl ?_)
  refine l_q rfl (q_move _ _ rfl (At.hit z7.put.put.put.put.put.put rfl).ev ?_)
  refine l_fresh z7.put.put.put.put.put.put.put.put ?_
  intro a8 z8 m8
  have s1_8 := m8 _ _ ((((((((s1_7.ne rfl).ne rfl).ne rfl).ne rfl).ne rfl).ne rfl).ne rfl).ne rfl)
  have s2_8 := m8 _ _ ((((((((s2_7.ne rfl).ne rfl).ne rfl).ne rfl).ne rfl).ne rfl).ne rfl).ne rfl)
  have s3_8 := m8 _ _ ((((((((s3_7.ne rfl).ne rfl).ne rfl).ne rfl).ne rfl).ne rfl).ne rfl).ne rfl)
  have s32_8 := m8 _ _ (At.hit z7.put.put.put.put.put.put.put rfl)
  clear m8
  refine l_skip (wanted_is (j := 23) (d := 32) (b := true) rfl rfl s32_8 rfl) ?_
  refine l_skip (wanted_is (j := 23) (d := 32) (b := true) rfl rfl (s32_8.ne rfl) rfl) ?_
  refine l_skip (wanted_is (j := 23) (d := 32) (b := true) rfl rfl ((s32_8.ne rfl).ne rfl) rfl) ?_
  refine l_q rfl (q_pick (b := true) (.bool true) rfl (((s32_8.ne rfl).ne rfl).ne rfl).ev rfl ?_)
  refine l_end ?_
  refine e_fresh z8.put.put.put.put ?_
  intro a9 z9 m9
  have s1_9 := m9 _ _ ((((s1_8.ne rfl).ne rfl).ne rfl).ne rfl)
  have s2_9 := m9 _ _ ((((s2_8.ne rfl).ne rfl).ne rfl).ne rfl)
  have s3_9 := m9 _ _ ((((s3_8.ne rfl).ne rfl).ne rfl).ne rfl)
  have s36_9 := m9 _ _ (At.hit z8.put.put.put rfl)
  clear m9
  refine e_then ?_
  refine c_true s36_9 ?_
  refine c_seq ?_
  refine c_region ?_
  refine l_q rfl (q_row rfl Try.underlying31 rfl (sz31.trans (congrArg some ((nums_size _ _).trans (List.length_replicate)).symm)) s3_9.ev (fun _ e => by rw [e]; exact k4) ?_)
  refine l_row rfl rfl rfl (sz31.trans (congrArg some ((nums_size _ _).trans (List.length_replicate)).symm)) (s2_9.ne rfl).ev (At.hit z9 rfl).ev (nums_one _ _) kg2_4 (((nums_size _ _).trans (List.length_replicate)).trans ((nums_size _ _).trans (List.length_replicate)).symm) ?_
  intro w10 k10 u10
  have kg1_10 := u10.blk kg1_4 (by omega)
  have kg3_10 := u10.blk k4 (by omega)
  refine l_end ?_
  refine e_fresh z9.put ?_
  intro a11 z11 m11
  have s2_11 := m11 _ _ (s2_9.ne rfl)
  have low11 := (low5.upd u10 geg2)
  clear m11
  refine e_then ?_
  refine wp_ret ?_
  refine ret_then ?_
  refine r_cell rfl z11.defers s2_11 k10 Try.underlying31 rfl (sz31.trans (congrArg some ((nums_size _ _).trans (List.length_replicate)).symm)) ?_
  exact ⟨rfl, low11⟩
theorem DR_bad24.calls (K B : Int) (h0 : ¬ K < 0) (h1 : ¬ K > 64) (hy : B < 0) (w0 : World) : Calls Try.prog 10 #[.agg #[.int .i64 2, .int .i64 K, .int .i64 B]] w0 fun e w' => e = .returned (.agg (nums .u32 (List.replicate 80 0))) ∧ Low w0 w' := by
  refine c_fun (R := _) Try.func10 rfl 164 rfl (Nat.le_of_ble_eq_true rfl) ?_
  intro a z hA
  have s0 := hA 0 _ rfl
  clear hA
  refine c_seq ?_
  refine c_region ?_
  refine l_box rfl rfl s0.ev ?_
  intro g1 w1 hg1 k1 h1
  have geg1 := Nat.le_trans (Low.refl _).ge hg1
  refine l_alloc rfl rfl zero31 ?_
  intro g2 w2 hg2 k2 h2
  have lt_g1_g2 := Nat.lt_of_lt_of_le (heap_lt k1) hg2
  have geg2 := Nat.le_trans h1.ge hg2
  have kg1_2 := h2.blk k1
  refine l_end ?_
  refine e_fresh z.put.put ?_
  intro a3 z3 m3
  have s1_3 := m3 _ _ ((At.hit z rfl).ne rfl)
  have s2_3 := m3 _ _ (At.hit z.put rfl)
  have low3 := (h1.trans h2)
  clear m3
  refine e_then ?_
  refine c_seq ?_
  refine c_region ?_
  refine l_alloc rfl rfl zero31 ?_
  intro g3 w4 hg4 k4 h4
  have lt_g1_g3 := Nat.lt_of_lt_of_le (heap_lt kg1_2) hg4
  have lt_g2_g3 := Nat.lt_of_lt_of_le (heap_lt k2) hg4
  have geg3 := Nat.le_trans low3.ge hg4
  have kg1_4 := h4.blk kg1_2
  have kg2_4 := h4.blk k2
  refine l_end ?_
  refine e_fresh z3.put ?_
  intro a5 z5 m5
  have s1_5 := m5 _ _ (s1_3.ne rfl)
  have s2_5 := m5 _ _ (s2_3.ne rfl)
  have s3_5 := m5 _ _ (At.hit z3 rfl)
  have low5 := (low3.trans h4)
  clear m5
  refine e_then ?_
  refine c_seq ?_
  refine c_seq ?_
  refine c_region ?_
  refine l_q rfl (q_fld 0 rfl (by kernel_rfl) s1_5.ev ?_)
  refine l_q rfl (q_cell (.int .i64 2) rfl Try.underlying3 (At.hit z5 rfl).ev (fun _ e => by rw [e]; exact (cells_at kg1_4 0).trans rfl) ?_)
  refine l_q rfl (q_neq true rfl (At.hit z5.put rfl).ev rfl (decide_eq_true (by omega)) ?_)
  refine l_q rfl (q_move _ _ rfl (At.hit z5.put.put rfl).ev ?_)
  refine l_qg (wanted_is (j := 3) (d := 12) (b := true) rfl rfl (At.hit z5.put.put.put rfl) rfl) (q_fld 0 rfl (by kernel_rfl) ((((s1_5.ne rfl).ne rfl).ne rfl).ne rfl).ev ?_)
  refine l_qg (wanted_is (j := 3) (d := 12) (b := true) rfl rfl ((At.hit z5.put.put.put rfl).ne rfl) rfl) (q_cell (.int .i64 2) rfl Try.underlying3 (At.hit z5.put.put.put.put rfl).ev (fun _ e => by rw [e]; exact (cells_at kg1_4 0).trans rfl) ?_)
  refine l_qg (wanted_is (j := 3) (d := 12) (b := true) rfl rfl (((At.hit z5.put.put.put rfl).ne rfl).ne rfl) rfl) (q_neq false rfl (At.hit z5.put.put.put.put.put rfl).ev rfl (decide_eq_false (by omega)) ?_)
  refine l_q rfl (q_pick (b := true) (.bool false) rfl ((((At.hit z5.put.put.put rfl).ne rfl).ne rfl).ne rfl).ev (At.hit z5.put.put.put.put.put.put rfl).ev ?_)
  refine l_fresh z5.put.put.put.put.put.put.put.put ?_
  intro a6 z6 m6
  have s1_6 := m6 _ _ ((((((((s1_5.ne rfl).ne rfl).ne rfl).ne rfl).ne rfl).ne rfl).ne rfl).ne rfl)
  have s2_6 := m6 _ _ ((((((((s2_5.ne rfl).ne rfl).ne rfl).ne rfl).ne rfl).ne rfl).ne rfl).ne rfl)
  have s3_6 := m6 _ _ ((((((((s3_5.ne rfl).ne rfl).ne rfl).ne rfl).ne rfl).ne rfl).ne rfl).ne rfl)
  have s16_6 := m6 _ _ (At.hit z5.put.put.put.put.put.put.put rfl)
  clear m6
  refine l_q rfl (q_move _ _ rfl s16_6.ev ?_)
  refine l_qg (wanted_is (j := 8) (d := 17) (b := false) rfl rfl (At.hit z6 rfl) rfl) (q_fld 1 rfl (by kernel_rfl) (s1_6.ne rfl).ev ?_)
  refine l_qg (wanted_is (j := 8) (d := 17) (b := false) rfl rfl ((At.hit z6 rfl).ne rfl) rfl) (q_cell (.int .i64 K) rfl Try.underlying3 (At.hit z6.put rfl).ev (fun _ e => by rw [e]; exact (cells_at kg1_4 1).trans rfl) ?_)
  refine l_qg (wanted_is (j := 8) (d := 17) (b := false) rfl rfl (((At.hit z6 rfl).ne rfl).ne rfl) rfl) (q_lss false rfl (At.hit z6.put.put rfl).ev rfl (decide_eq_false (by omega)) ?_)
  refine l_q rfl (q_pick (b := false) (.bool false) rfl ((((At.hit z6 rfl).ne rfl).ne rfl).ne rfl).ev (At.hit z6.put.put.put rfl).ev ?_)
  refine l_q rfl (q_move _ _ rfl (At.hit z6.put.put.put.put rfl).ev ?_)
  refine l_qg (wanted_is (j := 13) (d := 22) (b := false) rfl rfl (At.hit z6.put.put.put.put.put rfl) rfl) (q_fld 1 rfl (by kernel_rfl) ((((((s1_6.ne rfl).ne rfl).ne rfl).ne rfl).ne rfl).ne rfl).ev ?_)
  refine l_qg (wanted_is (j := 13) (d := 22) (b := false) rfl rfl ((At.hit z6.put.put.put.put.put rfl).ne rfl) rfl) (q_cell (.int .i64 K) rfl Try.underlying3 (At.hit z6.put.put.put.put.put.put rfl).ev (fun _ e => by rw [e]; exact (cells_at kg1_4 1).trans rfl) ?_)
  refine l_fresh z6.put.put.put.put.put.put.put.put ?_
  intro a7 z7 m7
  have s1_7 := m7 _ _ ((((((((s1_6.ne rfl).ne rfl).ne rfl).ne rfl).ne rfl).ne rfl).ne rfl).ne rfl)
  have s2_7 := m7 _ _ ((((((((s2_6.ne rfl).ne rfl).ne rfl).ne rfl).ne rfl).ne rfl).ne rfl).ne rfl)
  have s3_7 := m7 _ _ ((((((((s3_6.ne rfl).ne rfl).ne rfl).ne rfl).ne rfl).ne rfl).ne rfl).ne rfl)
  have s22_7 := m7 _ _ (((At.hit z6.put.put.put.put.put rfl).ne rfl).ne rfl)
  have s24_7 := m7 _ _ (At.hit z6.put.put.put.put.put.put.put rfl)
  clear m7
  refine l_qg (wanted_is (j := 13) (d := 22) (b := false) rfl rfl s22_7 rfl) (q_gtr false rfl s24_7.ev rfl (decide_eq_false (by omega)) ?_)
  refine l_q rfl (q_pick (b := false) (.bool false) rfl (s22_7.ne rfl).ev (At.hit z7 rfl).ev ?_)
  refine l_q rfl (q_move _ _ rfl (At.hit z7.put rfl).ev ?_)
  refine l_qg (wanted_is (j := 18) (d := 27) (b := false) rfl rfl (At.hit z7.put.put rfl) rfl) (q_fld 2 rfl (by kernel_rfl) (((s1_7.ne rfl).ne rfl).ne rfl).ev ?_)
  refine l_qg (wanted_is (j := 18) (d := 27) (b := false) rfl rfl ((At.hit z7.put.put rfl).ne rfl) rfl) (q_cell (.int .i64 B) rfl Try.underlying3 (At.hit z7.put.put.put rfl).ev (fun _ e => by rw [e]; exact (cells_at kg1_4 2).trans rfl) ?_)
  refine l_qg (wanted_is (j := 18) (d := 27) (b := false) rfl rfl (((At.hit z7.put.put rfl).ne rfl).ne rfl) rfl) (q_lss true rfl (At.hit z7.put.put.put.put rfl).ev rfl (decide_eq_true (by omega)) ?_)
  refine l_q rfl (q_pick (b := false) (.bool true) rfl ((((At.hit z7.put.put rfl).ne rfl).ne rfl).ne rfl).ev (At.hit z7.put.put.put.put.put rfl).ev ?_)
  refine l_q rfl (q_move _ _ rfl (At.hit z7.put.put.put.put.put.put rfl).ev ?_)
  refine l_fresh z7.put.put.put.put.put.put.put.put ?_
  intro a8 z8 m8
  have s1_8 := m8 _ _ ((((((((s1_7.ne rfl).ne rfl).ne rfl).ne rfl).ne rfl).ne rfl).ne rfl).ne rfl)
  have s2_8 := m8 _ _ ((((((((s2_7.ne rfl).ne rfl).ne rfl).ne rfl).ne rfl).ne rfl).ne rfl).ne rfl)
  have s3_8 := m8 _ _ ((((((((s3_7.ne rfl).ne rfl).ne rfl).ne rfl).ne rfl).ne rfl).ne rfl).ne rfl)
  have s32_8 := m8 _ _ (At.hit z7.put.put.put.put.put.put.put rfl)
  clear m8
  refine l_skip (wanted_is (j := 23) (d := 32) (b := true) rfl rfl s32_8 rfl) ?_
  refine l_skip (wanted_is (j := 23) (d := 32) (b := true) rfl rfl (s32_8.ne rfl) rfl) ?_
  refine l_skip (wanted_is (j := 23) (d := 32) (b := true) rfl rfl ((s32_8.ne rfl).ne rfl) rfl) ?_
  refine l_q rfl (q_pick (b := true) (.bool true) rfl (((s32_8.ne rfl).ne rfl).ne rfl).ev rfl ?_)
  refine l_end ?_
  refine e_fresh z8.put.put.put.put ?_
  intro a9 z9 m9
  have s1_9 := m9 _ _ ((((s1_8.ne rfl).ne rfl).ne rfl).ne rfl)
  have s2_9 := m9 _ _ ((((s2_8.ne rfl).ne rfl).ne rfl).ne rfl)
  have s3_9 := m9 _ _ ((((s3_8.ne rfl).ne rfl).ne rfl).ne rfl)
  have s36_9 := m9 _ _ (At.hit z8.put.put.put rfl)
  clear m9
  refine e_then ?_
  refine c_true s36_9 ?_
  refine c_seq ?_
  refine c_region ?_
  refine l_q rfl (q_row rfl Try.underlying31 rfl (sz31.trans (congrArg some ((nums_size _ _).trans (List.length_replicate)).symm)) s3_9.ev (fun _ e => by rw [e]; exact k4) ?_)
  refine l_row rfl rfl rfl (sz31.trans (congrArg some ((nums_size _ _).trans (List.length_replicate)).symm)) (s2_9.ne rfl).ev (At.hit z9 rfl).ev (nums_one _ _) kg2_4 (((nums_size _ _).trans (List.length_replicate)).trans ((nums_size _ _).trans (List.length_replicate)).symm) ?_
  intro w10 k10 u10
  have kg1_10 := u10.blk kg1_4 (by omega)
  have kg3_10 := u10.blk k4 (by omega)
  refine l_end ?_
  refine e_fresh z9.put ?_
  intro a11 z11 m11
  have s2_11 := m11 _ _ (s2_9.ne rfl)
  have low11 := (low5.upd u10 geg2)
  clear m11
  refine e_then ?_
  refine wp_ret ?_
  refine ret_then ?_
  refine r_cell rfl z11.defers s2_11 k10 Try.underlying31 rfl (sz31.trans (congrArg some ((nums_size _ _).trans (List.length_replicate)).symm)) ?_
  exact ⟨rfl, low11⟩
theorem DR_bad25.calls (K B : Int) (h0 : ¬ K < 0) (h1 : ¬ K > 64) (h2 : ¬ B < 0) (hy : B > 31) (w0 : World) : Calls Try.prog 10 #[.agg #[.int .i64 2, .int .i64 K, .int .i64 B]] w0 fun e w' => e = .returned (.agg (nums .u32 (List.replicate 80 0))) ∧ Low w0 w' := by
  refine c_fun (R := _) Try.func10 rfl 164 rfl (Nat.le_of_ble_eq_true rfl) ?_
  intro a z hA
  have s0 := hA 0 _ rfl
  clear hA
  refine c_seq ?_
  refine c_region ?_
  refine l_box rfl rfl s0.ev ?_
  intro g1 w1 hg1 k1 h1
  have geg1 := Nat.le_trans (Low.refl _).ge hg1
  refine l_alloc rfl rfl zero31 ?_
  intro g2 w2 hg2 k2 h2
  have lt_g1_g2 := Nat.lt_of_lt_of_le (heap_lt k1) hg2
  have geg2 := Nat.le_trans h1.ge hg2
  have kg1_2 := h2.blk k1
  refine l_end ?_
  refine e_fresh z.put.put ?_
  intro a3 z3 m3
  have s1_3 := m3 _ _ ((At.hit z rfl).ne rfl)
  have s2_3 := m3 _ _ (At.hit z.put rfl)
  have low3 := (h1.trans h2)
  clear m3
  refine e_then ?_
  refine c_seq ?_
  refine c_region ?_
  refine l_alloc rfl rfl zero31 ?_
  intro g3 w4 hg4 k4 h4
  have lt_g1_g3 := Nat.lt_of_lt_of_le (heap_lt kg1_2) hg4
  have lt_g2_g3 := Nat.lt_of_lt_of_le (heap_lt k2) hg4
  have geg3 := Nat.le_trans low3.ge hg4
  have kg1_4 := h4.blk kg1_2
  have kg2_4 := h4.blk k2
  refine l_end ?_
  refine e_fresh z3.put ?_
  intro a5 z5 m5
  have s1_5 := m5 _ _ (s1_3.ne rfl)
  have s2_5 := m5 _ _ (s2_3.ne rfl)
  have s3_5 := m5 _ _ (At.hit z3 rfl)
  have low5 := (low3.trans h4)
  clear m5
  refine e_then ?_
  refine c_seq ?_
  refine c_seq ?_
  refine c_region ?_
  refine l_q rfl (q_fld 0 rfl (by kernel_rfl) s1_5.ev ?_)
  refine l_q rfl (q_cell (.int .i64 2) rfl Try.underlying3 (At.hit z5 rfl).ev (fun _ e => by rw [e]; exact (cells_at kg1_4 0).trans rfl) ?_)
  refine l_q rfl (q_neq true rfl (At.hit z5.put rfl).ev rfl (decide_eq_true (by omega)) ?_)
  refine l_q rfl (q_move _ _ rfl (At.hit z5.put.put rfl).ev ?_)
  refine l_qg (wanted_is (j := 3) (d := 12) (b := true) rfl rfl (At.hit z5.put.put.put rfl) rfl) (q_fld 0 rfl (by kernel_rfl) ((((s1_5.ne rfl).ne rfl).ne rfl).ne rfl).ev ?_)
  refine l_qg (wanted_is (j := 3) (d := 12) (b := true) rfl rfl ((At.hit z5.put.put.put rfl).ne rfl) rfl) (q_cell (.int .i64 2) rfl Try.underlying3 (At.hit z5.put.put.put.put rfl).ev (fun _ e => by rw [e]; exact (cells_at kg1_4 0).trans rfl) ?_)
  refine l_qg (wanted_is (j := 3) (d := 12) (b := true) rfl rfl (((At.hit z5.put.put.put rfl).ne rfl).ne rfl) rfl) (q_neq false rfl (At.hit z5.put.put.put.put.put rfl).ev rfl (decide_eq_false (by omega)) ?_)
  refine l_q rfl (q_pick (b := true) (.bool false) rfl ((((At.hit z5.put.put.put rfl).ne rfl).ne rfl).ne rfl).ev (At.hit z5.put.put.put.put.put.put rfl).ev ?_)
  refine l_fresh z5.put.put.put.put.put.put.put.put ?_
  intro a6 z6 m6
  have s1_6 := m6 _ _ ((((((((s1_5.ne rfl).ne rfl).ne rfl).ne rfl).ne rfl).ne rfl).ne rfl).ne rfl)
  have s2_6 := m6 _ _ ((((((((s2_5.ne rfl).ne rfl).ne rfl).ne rfl).ne rfl).ne rfl).ne rfl).ne rfl)
  have s3_6 := m6 _ _ ((((((((s3_5.ne rfl).ne rfl).ne rfl).ne rfl).ne rfl).ne rfl).ne rfl).ne rfl)
  have s16_6 := m6 _ _ (At.hit z5.put.put.put.put.put.put.put rfl)
  clear m6
  refine l_q rfl (q_move _ _ rfl s16_6.ev ?_)
  refine l_qg (wanted_is (j := 8) (d := 17) (b := false) rfl rfl (At.hit z6 rfl) rfl) (q_fld 1 rfl (by kernel_rfl) (s1_6.ne rfl).ev ?_)
  refine l_qg (wanted_is (j := 8) (d := 17) (b := false) rfl rfl ((At.hit z6 rfl).ne rfl) rfl) (q_cell (.int .i64 K) rfl Try.underlying3 (At.hit z6.put rfl).ev (fun _ e => by rw [e]; exact (cells_at kg1_4 1).trans rfl) ?_)
  refine l_qg (wanted_is (j := 8) (d := 17) (b := false) rfl rfl (((At.hit z6 rfl).ne rfl).ne rfl) rfl) (q_lss false rfl (At.hit z6.put.put rfl).ev rfl (decide_eq_false (by omega)) ?_)
  refine l_q rfl (q_pick (b := false) (.bool false) rfl ((((At.hit z6 rfl).ne rfl).ne rfl).ne rfl).ev (At.hit z6.put.put.put rfl).ev ?_)
  refine l_q rfl (q_move _ _ rfl (At.hit z6.put.put.put.put rfl).ev ?_)
  refine l_qg (wanted_is (j := 13) (d := 22) (b := false) rfl rfl (At.hit z6.put.put.put.put.put rfl) rfl) (q_fld 1 rfl (by kernel_rfl) ((((((s1_6.ne rfl).ne rfl).ne rfl).ne rfl).ne rfl).ne rfl).ev ?_)
  refine l_qg (wanted_is (j := 13) (d := 22) (b := false) rfl rfl ((At.hit z6.put.put.put.put.put rfl).ne rfl) rfl) (q_cell (.int .i64 K) rfl Try.underlying3 (At.hit z6.put.put.put.put.put.put rfl).ev (fun _ e => by rw [e]; exact (cells_at kg1_4 1).trans rfl) ?_)
  refine l_fresh z6.put.put.put.put.put.put.put.put ?_
  intro a7 z7 m7
  have s1_7 := m7 _ _ ((((((((s1_6.ne rfl).ne rfl).ne rfl).ne rfl).ne rfl).ne rfl).ne rfl).ne rfl)
  have s2_7 := m7 _ _ ((((((((s2_6.ne rfl).ne rfl).ne rfl).ne rfl).ne rfl).ne rfl).ne rfl).ne rfl)
  have s3_7 := m7 _ _ ((((((((s3_6.ne rfl).ne rfl).ne rfl).ne rfl).ne rfl).ne rfl).ne rfl).ne rfl)
  have s22_7 := m7 _ _ (((At.hit z6.put.put.put.put.put rfl).ne rfl).ne rfl)
  have s24_7 := m7 _ _ (At.hit z6.put.put.put.put.put.put.put rfl)
  clear m7
  refine l_qg (wanted_is (j := 13) (d := 22) (b := false) rfl rfl s22_7 rfl) (q_gtr false rfl s24_7.ev rfl (decide_eq_false (by omega)) ?_)
  refine l_q rfl (q_pick (b := false) (.bool false) rfl (s22_7.ne rfl).ev (At.hit z7 rfl).ev ?_)
  refine l_q rfl (q_move _ _ rfl (At.hit z7.put rfl).ev ?_)
  refine l_qg (wanted_is (j := 18) (d := 27) (b := false) rfl rfl (At.hit z7.put.put rfl) rfl) (q_fld 2 rfl (by kernel_rfl) (((s1_7.ne rfl).ne rfl).ne rfl).ev ?_)
  refine l_qg (wanted_is (j := 18) (d := 27) (b := false) rfl rfl ((At.hit z7.put.put rfl).ne rfl) rfl) (q_cell (.int .i64 B) rfl Try.underlying3 (At.hit z7.put.put.put rfl).ev (fun _ e => by rw [e]; exact (cells_at kg1_4 2).trans rfl) ?_)
  refine l_qg (wanted_is (j := 18) (d := 27) (b := false) rfl rfl (((At.hit z7.put.put rfl).ne rfl).ne rfl) rfl) (q_lss false rfl (At.hit z7.put.put.put.put rfl).ev rfl (decide_eq_false (by omega)) ?_)
  refine l_q rfl (q_pick (b := false) (.bool false) rfl ((((At.hit z7.put.put rfl).ne rfl).ne rfl).ne rfl).ev (At.hit z7.put.put.put.put.put rfl).ev ?_)
  refine l_q rfl (q_move _ _ rfl (At.hit z7.put.put.put.put.put.put rfl).ev ?_)
  refine l_fresh z7.put.put.put.put.put.put.put.put ?_
  intro a8 z8 m8
  have s1_8 := m8 _ _ ((((((((s1_7.ne rfl).ne rfl).ne rfl).ne rfl).ne rfl).ne rfl).ne rfl).ne rfl)
  have s2_8 := m8 _ _ ((((((((s2_7.ne rfl).ne rfl).ne rfl).ne rfl).ne rfl).ne rfl).ne rfl).ne rfl)
  have s3_8 := m8 _ _ ((((((((s3_7.ne rfl).ne rfl).ne rfl).ne rfl).ne rfl).ne rfl).ne rfl).ne rfl)
  have s32_8 := m8 _ _ (At.hit z7.put.put.put.put.put.put.put rfl)
  clear m8
  refine l_qg (wanted_is (j := 23) (d := 32) (b := false) rfl rfl s32_8 rfl) (q_fld 2 rfl (by kernel_rfl) s1_8.ev ?_)
  refine l_qg (wanted_is (j := 23) (d := 32) (b := false) rfl rfl (s32_8.ne rfl) rfl) (q_cell (.int .i64 B) rfl Try.underlying3 (At.hit z8 rfl).ev (fun _ e => by rw [e]; exact (cells_at kg1_4 2).trans rfl) ?_)
  refine l_qg (wanted_is (j := 23) (d := 32) (b := false) rfl rfl ((s32_8.ne rfl).ne rfl) rfl) (q_gtr true rfl (At.hit z8.put rfl).ev rfl (decide_eq_true (by omega)) ?_)
  refine l_q rfl (q_pick (b := false) (.bool true) rfl (((s32_8.ne rfl).ne rfl).ne rfl).ev (At.hit z8.put.put rfl).ev ?_)
  refine l_end ?_
  refine e_fresh z8.put.put.put.put ?_
  intro a9 z9 m9
  have s1_9 := m9 _ _ ((((s1_8.ne rfl).ne rfl).ne rfl).ne rfl)
  have s2_9 := m9 _ _ ((((s2_8.ne rfl).ne rfl).ne rfl).ne rfl)
  have s3_9 := m9 _ _ ((((s3_8.ne rfl).ne rfl).ne rfl).ne rfl)
  have s36_9 := m9 _ _ (At.hit z8.put.put.put rfl)
  clear m9
  refine e_then ?_
  refine c_true s36_9 ?_
  refine c_seq ?_
  refine c_region ?_
  refine l_q rfl (q_row rfl Try.underlying31 rfl (sz31.trans (congrArg some ((nums_size _ _).trans (List.length_replicate)).symm)) s3_9.ev (fun _ e => by rw [e]; exact k4) ?_)
  refine l_row rfl rfl rfl (sz31.trans (congrArg some ((nums_size _ _).trans (List.length_replicate)).symm)) (s2_9.ne rfl).ev (At.hit z9 rfl).ev (nums_one _ _) kg2_4 (((nums_size _ _).trans (List.length_replicate)).trans ((nums_size _ _).trans (List.length_replicate)).symm) ?_
  intro w10 k10 u10
  have kg1_10 := u10.blk kg1_4 (by omega)
  have kg3_10 := u10.blk k4 (by omega)
  refine l_end ?_
  refine e_fresh z9.put ?_
  intro a11 z11 m11
  have s2_11 := m11 _ _ (s2_9.ne rfl)
  have low11 := (low5.upd u10 geg2)
  clear m11
  refine e_then ?_
  refine wp_ret ?_
  refine ret_then ?_
  refine r_cell rfl z11.defers s2_11 k10 Try.underlying31 rfl (sz31.trans (congrArg some ((nums_size _ _).trans (List.length_replicate)).symm)) ?_
  exact ⟨rfl, low11⟩
def okV (ty K B : Int) : Bool := decide (1 ≤ ty ∧ ty ≤ 2 ∧ 0 ≤ K ∧ K ≤ 64 ∧ 0 ≤ B ∧ B ≤ 31)
def differenceL (ty K B : Int) : List Int := if okV ty K B then diffL (rowL (decide (ty = 2)) K.toNat B.toNat) 80 else List.replicate 80 0
def differenceR (ty K B : Int) : List Int := if okV ty K B then diffR (rowR (decide (ty = 2)) K.toNat B.toNat) 80 else List.replicate 80 0
theorem differenceL_len (ty K B : Int) : (differenceL ty K B).length = 80 := by
  unfold differenceL
  split
  · exact diffL_len _ _
  · exact List.length_replicate
theorem differenceR_len (ty K B : Int) : (differenceR ty K B).length = 80 := by
  unfold differenceR
  split
  · exact diffR_len _ _
  · exact List.length_replicate
theorem DifferenceL.calls (ty K B : Int) (w0 : World) : Calls Try.prog 9 #[.agg #[.int .i64 ty, .int .i64 K, .int .i64 B]] w0 fun e w' => e = .returned (.agg (nums .u32 (differenceL ty K B))) ∧ Low w0 w' := by
  by_cases h : 1 ≤ ty ∧ ty ≤ 2 ∧ 0 ≤ K ∧ K ≤ 64 ∧ 0 ≤ B ∧ B ≤ 31
  · obtain ⟨t1, t2, k1, k2, b1, b2⟩ := h
    obtain ⟨k, rfl⟩ := Int.eq_ofNat_of_zero_le k1
    obtain ⟨b, rfl⟩ := Int.eq_ofNat_of_zero_le b1
    unfold differenceL
    rw [show okV ty k b = true from decide_eq_true ⟨t1, t2, k1, k2, b1, b2⟩, if_pos rfl]
    rcases (by omega : ty = 1 ∨ ty = 2) with rfl | rfl
    · exact DL_1.calls k b (by omega) (by omega) w0
    · exact DL_2.calls k b (by omega) (by omega) w0
  · unfold differenceL
    rw [show okV ty K B = false from decide_eq_false h, if_neg (by decide)]
    by_cases h0 : ty < 1
    · exact DL_bad0.calls ty K B h0 w0
    by_cases h1 : ty > 2
    · exact DL_bad1.calls ty K B h0 h1 w0
    by_cases h2 : K < 0
    · exact DL_bad2.calls ty K B h0 h1 h2 w0
    by_cases h3 : K > 64
    · exact DL_bad3.calls ty K B h0 h1 h2 h3 w0
    by_cases h4 : B < 0
    · exact DL_bad4.calls ty K B h0 h1 h2 h3 h4 w0
    by_cases h5 : B > 31
    · exact DL_bad5.calls ty K B h0 h1 h2 h3 h4 h5 w0
    omega
theorem DifferenceR.calls (ty K B : Int) (w0 : World) : Calls Try.prog 10 #[.agg #[.int .i64 ty, .int .i64 K, .int .i64 B]] w0 fun e w' => e = .returned (.agg (nums .u32 (differenceR ty K B))) ∧ Low w0 w' := by
  by_cases h : 1 ≤ ty ∧ ty ≤ 2 ∧ 0 ≤ K ∧ K ≤ 64 ∧ 0 ≤ B ∧ B ≤ 31
  · obtain ⟨t1, t2, k1, k2, b1, b2⟩ := h
    obtain ⟨k, rfl⟩ := Int.eq_ofNat_of_zero_le k1
    obtain ⟨b, rfl⟩ := Int.eq_ofNat_of_zero_le b1
    unfold differenceR
    rw [show okV ty k b = true from decide_eq_true ⟨t1, t2, k1, k2, b1, b2⟩, if_pos rfl]
    rcases (by omega : ty = 1 ∨ ty = 2) with rfl | rfl
    · exact DR_1.calls k b (by omega) (by omega) w0
    · exact DR_2.calls k b (by omega) (by omega) w0
  · unfold differenceR
    rw [show okV ty K B = false from decide_eq_false h, if_neg (by decide)]
    by_cases t1 : ty = 1
    · subst t1
      by_cases h2 : K < 0
      · exact DR_bad12.calls K B h2 w0
      by_cases h3 : K > 64
      · exact DR_bad13.calls K B h2 h3 w0
      by_cases h4 : B < 0
      · exact DR_bad14.calls K B h2 h3 h4 w0
      by_cases h5 : B > 31
      · exact DR_bad15.calls K B h2 h3 h4 h5 w0
      omega
    by_cases t2 : ty = 2
    · subst t2
      by_cases h2 : K < 0
      · exact DR_bad22.calls K B h2 w0
      by_cases h3 : K > 64
      · exact DR_bad23.calls K B h2 h3 w0
      by_cases h4 : B < 0
      · exact DR_bad24.calls K B h2 h3 h4 w0
      by_cases h5 : B > 31
      · exact DR_bad25.calls K B h2 h3 h4 h5 w0
      omega
    exact DR_bad0.calls ty K B t1 t2 w0
end Go.Proofs.Ytffhmlnklohbdaa.Q
end
/-! A4 -/
section
namespace Go.Proofs.Ytffhmlnklohbdaa.Q
open Go.RowKit Go.Proofs.Ytffhmlnklohbdaa.P
set_option linter.unusedVariables false
set_option linter.unusedSimpArgs false
set_option maxRecDepth 100000
set_option maxHeartbeats 4000000
attribute [local irreducible] wpList wpQuiet qch Code.wp Oper.quiet Act.put At Region.wanted yielded
def stepsX (l m : List Int) (x : Ch) (f : Ch → Int → Int → Ch) (t0 : Nat) : Nat → Ch
  | 0 => x
  | k + 1 => f (stepsX l m x f t0 k) ((k + t0 : Nat) : Int) (Go.bits .xor .u32 (l.getD (k + t0) 0) (m.getD (k + t0) 0))
def stepsO (l : List Int) (x : Ch) (t0 : Nat) : Nat → Ch
  | 0 => x
  | k + 1 => stepL (stepsO l x t0 k) ((k + t0 : Nat) : Int) (l.getD (k + t0) 0)
def backX (l m : List Int) (x : Ch) (f : Ch → Int → Int → Ch) : Nat → Ch
  | 0 => x
  | k + 1 => f (backX l m x f k) (57 - ((k : Nat) : Int)) (Go.bits .xor .u32 (l.getD (57 - k) 0) (m.getD (57 - k) 0))
def meetsL (c : Ch) (l m : List Int) : Bool :=
  decide (addL (cl (backX l m (stepsL l c 58) backL 58)) (cl (stepsX l m (stepsL l c 58) stepL 58 22)) 5 = addL (cl c) (cl (stepsO l (stepsL l c 58) 58 22)) 5)
theorem MeetsL.calls (c : Ch) (l m : List Int) (hl : l.length = 80) (hm' : m.length = 80) (gl gm om : Nat) (w0 : World) (kl : w0.heap[gl]? = some (.cells (nums .u32 l) 32)) (km : RdW w0 gm om m) : Calls Try.prog 25 #[.agg (nums .u32 (cl c)), .pointer (some ⟨gl, 0, none⟩), .pointer (some ⟨gm, om, none⟩)] w0 fun e w' => e = .returned (.bool (meetsL c l m)) ∧ Low w0 w' := by
  refine c_fun (R := _) Try.func25 rfl 81 rfl (Nat.le_of_ble_eq_true rfl) ?_
  intro a z hA
  have s0 := hA 0 _ rfl
  have s1 := hA 1 _ rfl
  have s2 := hA 2 _ rfl
  clear hA
  refine c_seq ?_
  refine c_region ?_
  refine l_box rfl rfl s0.ev ?_
  intro g3 w1 hg1 k1 h1
  have ngl_g3 := Nat.ne_of_lt (Nat.lt_of_lt_of_le (heap_lt kl) hg1)
  have ngm_g3 := Nat.ne_of_lt (Nat.lt_of_lt_of_le km.lt hg1)
  have geg3 := Nat.le_trans (Low.refl _).ge hg1
  have kgl_1 := h1.blk kl
  have kgm_1 := km.low h1
  refine l_q rfl (q_assign _ _ rfl rfl ?_)
  refine l_end ?_
  refine e_fresh z.put.put ?_
  intro a2 z2 m2
  have s1_2 := m2 _ _ ((s1.ne rfl).ne rfl)
  have s2_2 := m2 _ _ ((s2.ne rfl).ne rfl)
  have s3_2 := m2 _ _ ((At.hit z rfl).ne rfl)
  have low2 := h1
  clear m2
  refine e_then ?_
  refine c_seq ?_
  refine c_region ?_
  refine l_q rfl (q_row rfl Try.underlying40 rfl (sz40.trans (congrArg some ((nums_size _ _).trans (cl_len c)).symm)) s3_2.ev (fun _ e => by rw [e]; exact k1) ?_)
  refine l_alloc rfl rfl zero40 ?_
  intro g7 w3 hg3 k3 h3
  have lt_g3_g7 := Nat.lt_of_lt_of_le (heap_lt k1) hg3
  have ngl_g7 := Nat.ne_of_lt (Nat.lt_of_lt_of_le (heap_lt kgl_1) hg3)
  have ngm_g7 := Nat.ne_of_lt (Nat.lt_of_lt_of_le kgm_1.lt hg3)
  have geg7 := Nat.le_trans low2.ge hg3
  have kgl_3 := h3.blk kgl_1
  have kgm_3 := kgm_1.low h3
  have kg3_3 := h3.blk k1
  refine l_row rfl rfl rfl (sz40.trans (congrArg some ((nums_size _ _).trans (cl_len c)).symm)) (At.hit z2.put rfl).ev ((At.hit z2 rfl).ne rfl).ev (nums_one _ _) k3 (((nums_size _ _).trans (List.length_replicate)).trans ((nums_size _ _).trans (cl_len c)).symm) ?_
  intro w4 k4 u4
  have kgl_4 := u4.blk kgl_3 (by omega)
  have kgm_4 := kgm_3.upd u4 (by omega)
  have kg3_4 := u4.blk kg3_3 (by omega)
  refine l_end ?_
  refine e_fresh z2.put.put ?_
  intro a5 z5 m5
  have s1_5 := m5 _ _ ((s1_2.ne rfl).ne rfl)
  have s2_5 := m5 _ _ ((s2_2.ne rfl).ne rfl)
  have s3_5 := m5 _ _ ((s3_2.ne rfl).ne rfl)
  have s7_5 := m5 _ _ (At.hit z2.put rfl)
  have low5 := ((low2.trans h3).upd u4 geg7)
  clear m5
  refine e_then ?_
  refine c_seq ?_
  refine c_seq ?_
  refine c_region ?_
  refine l_q rfl (q_move _ _ rfl rfl ?_)
  refine l_end ?_
  refine e_fresh z5.put ?_
  intro a6 z6 m6
  have s1_6 := m6 _ _ (s1_5.ne rfl)
  have s2_6 := m6 _ _ (s2_5.ne rfl)
  have s3_6 := m6 _ _ (s3_5.ne rfl)
  have s7_6 := m6 _ _ (s7_5.ne rfl)
  have s15_6 := m6 _ _ (At.hit z5 rfl)
  clear m6
  refine e_then ?_
  refine wp_block ?_
  refine c_loop 58 (fun k a w => Fr 81 a ∧ At a 1 (.pointer (some ⟨gl, 0, none⟩)) ∧ At a 2 (.pointer (some ⟨gm, om, none⟩)) ∧ At a 3 (.pointer (some ⟨g3, 0, none⟩)) ∧ At a 7 (.pointer (some ⟨g7, 0, none⟩)) ∧ At a 15 (.int .i64 ((k : Nat) : Int)) ∧ w.heap[g3]? = some (.cells (nums .u32 (cl c)) 40) ∧ w.heap[g7]? = some (.cells (nums .u32 (cl (stepsL l c k))) 40) ∧ w.heap[gl]? = some (.cells (nums .u32 l) 32) ∧ RdW w gm om m ∧ Low w0 w) ?_ ?_ ?_
  · exact ⟨z6, s1_6, s2_6, s3_6, s7_6, s15_6, kg3_4, k4, kgl_4, kgm_4, low5⟩
  · intro k a7 w7 hk7 h
    obtain ⟨z7, s1_7, s2_7, s3_7, s7_7, s15_7, kg3_7, kg7_7, kgl_7, kgm_7, low7⟩ := h
    clear k4 kg3_4 kgl_4 kgm_4 low5 s15_6 s1_6 s2_6 s3_6 s7_6 z6
    refine c_seq ?_
    refine c_region ?_
    refine l_q rfl (q_lss true rfl s15_7.ev rfl (decide_eq_true (by omega)) ?_)
    refine l_end ?_
    refine e_fresh z7.put ?_
    intro a8 z8 m8
    have s1_8 := m8 _ _ (s1_7.ne rfl)
    have s2_8 := m8 _ _ (s2_7.ne rfl)
    have s3_8 := m8 _ _ (s3_7.ne rfl)
    have s7_8 := m8 _ _ (s7_7.ne rfl)
    have s15_8 := m8 _ _ (s15_7.ne rfl)
    have s16_8 := m8 _ _ (At.hit z7 rfl)
    clear m8
    refine e_then ?_
    refine c_seq ?_
    refine c_true s16_8 ?_
    refine wp_skip ?_
    refine e_then ?_
    refine c_seq ?_
    refine wp_block ?_
    refine c_seq ?_
    refine c_region ?_
    refine l_q rfl (q_move _ _ rfl s15_8.ev ?_)
    refine l_q rfl (q_assign _ _ rfl (At.hit z8 rfl).ev ?_)
    refine l_end ?_
    refine e_fresh z8.put.put ?_
    intro a9 z9 m9
    have s1_9 := m9 _ _ ((s1_8.ne rfl).ne rfl)
    have s2_9 := m9 _ _ ((s2_8.ne rfl).ne rfl)
    have s3_9 := m9 _ _ ((s3_8.ne rfl).ne rfl)
    have s7_9 := m9 _ _ ((s7_8.ne rfl).ne rfl)
    have s8_9 := m9 _ _ (At.hit z8.put rfl)
    have s15_9 := m9 _ _ ((s15_8.ne rfl).ne rfl)
    clear m9
    refine e_then ?_
    refine region_low_tail 8 hm (by kernel_rfl) ?_
    simp only [List.take_succ_cons, List.take_zero, List.drop_succ_cons, List.drop_zero]
    refine qs (q_row rfl Try.underlying40 rfl (sz40.trans (congrArg some ((nums_size _ _).trans (cl_len (stepsL l c k))).symm)) s7_9.ev (fun _ h => h.blk kg7_7) ?_)
    refine qs (q_move _ _ rfl (s8_9.ne rfl).ev ?_)
    refine qs (q_move _ _ rfl ((s1_9.ne rfl).ne rfl).ev ?_)
    refine qs (q_move _ _ rfl (((s8_9.ne rfl).ne rfl).ne rfl).ev ?_)
    refine qs (q_nil rfl ((At.hit z9.put.put rfl).ne rfl).ev ?_)
    refine qs (q_idx (j := k) rfl Try.underlying32 sz30 (At.hit z9.put.put.put.put rfl).ev ((At.hit z9.put.put.put rfl).ne rfl).ev (by omega) ?_)
    refine qs (q_cell (.int .u32 (l.getD k 0)) rfl Try.underlying30 (At.hit z9.put.put.put.put.put rfl).ev (fun _ h => nums_cell (h.blk kgl_7) k (by rw [hl]; omega)) ?_)
    refine qs (q_call (.agg (nums .u32 (cl (stepL (stepsL l c k) ((k : Nat) : Int) (l.getD k 0))))) rfl rfl Try.func16 rfl (args3 rfl (((((((At.hit z9 rfl).ne rfl).ne rfl).ne rfl).ne rfl).ne rfl).ne rfl).ev ((((((At.hit z9.put rfl).ne rfl).ne rfl).ne rfl).ne rfl).ne rfl).ev (At.hit z9.put.put.put.put.put.put rfl).ev) (fun _ h => (StepL.calls (stepsL l c k) ((k : Nat) : Int) (l.getD k 0) _).mono fun _ _ ⟨e, k⟩ => ⟨e, h.trans k⟩) ?_)
    refine qz ?_
    intro w10 h10
    have kg3_10 := h10.blk kg3_7
    have kg7_10 := h10.blk kg7_7
    have kgl_10 := h10.blk kgl_7
    have kgm_10 := kgm_7.low h10
    refine l_row rfl rfl rfl (sz40.trans (congrArg some ((nums_size _ _).trans (cl_len (stepL (stepsL l c k) ((k : Nat) : Int) (l.getD k 0)))).symm)) ((((((((s7_9.ne rfl).ne rfl).ne rfl).ne rfl).ne rfl).ne rfl).ne rfl).ne rfl).ev (At.hit z9.put.put.put.put.put.put.put rfl).ev (nums_one _ _) kg7_10 (((nums_size _ _).trans (cl_len (stepsL l c k))).trans ((nums_size _ _).trans (cl_len (stepL (stepsL l c k) ((k : Nat) : Int) (l.getD k 0)))).symm) ?_
    intro w11 k11 u11
    have kg3_11 := u11.blk kg3_10 (by omega)
    have kgl_11 := u11.blk kgl_10 (by omega)
    have kgm_11 := kgm_10.upd u11 (by omega)
    refine l_end ?_
    refine e_fresh z9.put.put.put.put.put.put.put.put ?_
    intro a12 z12 m12
    have s1_12 := m12 _ _ ((((((((s1_9.ne rfl).ne rfl).ne rfl).ne rfl).ne rfl).ne rfl).ne rfl).ne rfl)
    have s2_12 := m12 _ _ ((((((((s2_9.ne rfl).ne rfl).ne rfl).ne rfl).ne rfl).ne rfl).ne rfl).ne rfl)
    have s3_12 := m12 _ _ ((((((((s3_9.ne rfl).ne rfl).ne rfl).ne rfl).ne rfl).ne rfl).ne rfl).ne rfl)
    have s7_12 := m12 _ _ ((((((((s7_9.ne rfl).ne rfl).ne rfl).ne rfl).ne rfl).ne rfl).ne rfl).ne rfl)
    have s15_12 := m12 _ _ ((((((((s15_9.ne rfl).ne rfl).ne rfl).ne rfl).ne rfl).ne rfl).ne rfl).ne rfl)
    have low12 := ((low7.trans h10).upd u11 geg7)
    clear m12
    refine e_in ?_
    refine e_then ?_
    refine c_region ?_
    refine l_q rfl (q_add (((k + 1 : Nat) : Int)) rfl s15_12.ev rfl (i64_is (by omega) (by omega) (by omega)) ?_)
    refine l_q rfl (q_move _ _ rfl (At.hit z12 rfl).ev ?_)
    refine l_end ?_
    refine e_fresh z12.put.put ?_
    intro a13 z13 m13
    have s1_13 := m13 _ _ ((s1_12.ne rfl).ne rfl)
    have s2_13 := m13 _ _ ((s2_12.ne rfl).ne rfl)
    have s3_13 := m13 _ _ ((s3_12.ne rfl).ne rfl)
    have s7_13 := m13 _ _ ((s7_12.ne rfl).ne rfl)
    have s15_13 := m13 _ _ (At.hit z12.put rfl)
    clear m13
    exact ⟨z13, s1_13, s2_13, s3_13, s7_13, s15_13, kg3_11, k11, kgl_11, kgm_11, low12⟩
  · intro a14 w14 h
    obtain ⟨z14, s1_14, s2_14, s3_14, s7_14, s15_14, kg3_14, kg7_14, kgl_14, kgm_14, low14⟩ := h
    clear k4 kg3_4 kgl_4 kgm_4 low5 s15_6 s1_6 s2_6 s3_6 s7_6 z6
    refine c_seq ?_
    refine c_region ?_
    refine l_q rfl (q_lss false rfl s15_14.ev rfl (decide_eq_false (by omega)) ?_)
    refine l_end ?_
    refine e_fresh z14.put ?_
    intro a15 z15 m15
    have s1_15 := m15 _ _ (s1_14.ne rfl)
    have s2_15 := m15 _ _ (s2_14.ne rfl)
    have s3_15 := m15 _ _ (s3_14.ne rfl)
    have s7_15 := m15 _ _ (s7_14.ne rfl)
    have s15_15 := m15 _ _ (s15_14.ne rfl)
    have s16_15 := m15 _ _ (At.hit z14 rfl)
    clear m15
    refine e_then ?_
    refine c_seq ?_
    refine c_false s16_15 ?_
    refine wp_exit ?_
    refine x_then ?_
    refine x_then ?_
    refine in_exit ?_
    refine e_then ?_
    refine c_seq ?_
    refine region_told [.val (.agg (nums .u32 (cl (stepsL l c 58)))), .val (.agg (nums .u32 (cl (stepsL l c 58)))), .val (.agg (nums .u32 (cl (stepsL l c 58)))), .new (nums .u32 (List.replicate 5 0)) 40 6 (nums .u32 (cl (stepsL l c 58))), .new (nums .u32 (List.replicate 5 0)) 40 7 (nums .u32 (cl (stepsL l c 58))), .new (nums .u32 (List.replicate 5 0)) 40 8 (nums .u32 (cl (stepsL l c 58))), .put 3 0, .put 4 1, .put 5 2] hm (by kernel_rfl) rfl z15 (allO_cons ?_ (allO_cons ?_ (allO_cons ?_ (allO_cons (stepO_new _ rfl rfl rfl zero40) (allO_cons (stepO_new _ rfl rfl rfl zero40) (allO_cons (stepO_new _ rfl rfl rfl zero40) (allO_cons (stepO_put rfl rfl rfl rfl rfl rfl rfl rfl (((nums_size _ _).trans (List.length_replicate)).trans ((nums_size _ _).trans (cl_len (stepsL l c 58))).symm) (nums_one _ _) (sz40.trans (congrArg some ((nums_size _ _).trans (cl_len (stepsL l c 58))).symm))) (allO_cons (stepO_put rfl rfl rfl rfl rfl rfl rfl rfl (((nums_size _ _).trans (List.length_replicate)).trans ((nums_size _ _).trans (cl_len (stepsL l c 58))).symm) (nums_one _ _) (sz40.trans (congrArg some ((nums_size _ _).trans (cl_len (stepsL l c 58))).symm))) (allO_cons (stepO_put rfl rfl rfl rfl rfl rfl rfl rfl (((nums_size _ _).trans (List.length_replicate)).trans ((nums_size _ _).trans (cl_len (stepsL l c 58))).symm) (nums_one _ _) (sz40.trans (congrArg some ((nums_size _ _).trans (cl_len (stepsL l c 58))).symm))) allO_nil))))))))) ?_
    · exact stepO_val _ rfl rfl fun _ _ _ lw kp kn => q_row rfl Try.underlying40 rfl (sz40.trans (congrArg some ((nums_size _ _).trans (cl_len (stepsL l c 58))).symm)) (kp _ _ rfl s7_15).ev (fun _ h => h.blk (lw.blk kg7_14)) rfl
    · exact stepO_val _ rfl rfl fun _ _ _ lw kp kn => q_row rfl Try.underlying40 rfl (sz40.trans (congrArg some ((nums_size _ _).trans (cl_len (stepsL l c 58))).symm)) (kp _ _ rfl s7_15).ev (fun _ h => h.blk (lw.blk kg7_14)) rfl
    · exact stepO_val _ rfl rfl fun _ _ _ lw kp kn => q_row rfl Try.underlying40 rfl (sz40.trans (congrArg some ((nums_size _ _).trans (cl_len (stepsL l c 58))).symm)) (kp _ _ rfl s7_15).ev (fun _ h => h.blk (lw.blk kg7_14)) rfl
    intro a16 w16 G D
    have bg3_16 := (heap_lt kg3_14)
    have bg7_16 := (heap_lt kg7_14)
    have bgl_16 := (heap_lt kgl_14)
    have bgm_16 := kgm_14.lt
    have sg9 := D.ptr 3 _ _ _ _ _ rfl rfl
    have hgg9 := D.ge 3 _ _ _ _ _ rfl rfl
    have kg9 := D.blk 3 _ _ _ _ _ rfl rfl
    have geg9 := Nat.le_trans low14.ge hgg9
    have sg10 := D.ptr 4 _ _ _ _ _ rfl rfl
    have hgg10 := D.ge 4 _ _ _ _ _ rfl rfl
    have kg10 := D.blk 4 _ _ _ _ _ rfl rfl
    have geg10 := Nat.le_trans low14.ge hgg10
    have sg11 := D.ptr 5 _ _ _ _ _ rfl rfl
    have hgg11 := D.ge 5 _ _ _ _ _ rfl rfl
    have kg11 := D.blk 5 _ _ _ _ _ rfl rfl
    have geg11 := Nat.le_trans low14.ge hgg11
    have d16_3_4 := D.ne 3 4 _ _ _ _ _ _ _ _ rfl rfl rfl
    have d16_3_5 := D.ne 3 5 _ _ _ _ _ _ _ _ rfl rfl rfl
    have d16_4_5 := D.ne 4 5 _ _ _ _ _ _ _ _ rfl rfl rfl
    have h16 := D.low
    have kg3_16 := h16.blk kg3_14
    have kg7_16 := h16.blk kg7_14
    have kgl_16 := h16.blk kgl_14
    have kgm_16 := kgm_14.low h16
    have z16 := D.fr
    have s1_16 := (D.keep _ _ rfl s1_15)
    have s2_16 := (D.keep _ _ rfl s2_15)
    have s3_16 := (D.keep _ _ rfl s3_15)
    have s7_16 := (D.keep _ _ rfl s7_15)
    have s15_16 := (D.keep _ _ rfl s15_15)
    have s16_16 := (D.keep _ _ rfl s16_15)
    have s27_16 := (D.val 0 _ _ rfl rfl)
    have s28_16 := (D.val 1 _ _ rfl rfl)
    have s29_16 := (D.val 2 _ _ rfl rfl)
    clear D
    generalize G 3 = g9 at *
    generalize G 4 = g10 at *
    generalize G 5 = g11 at *
    refine e_fresh z16 ?_
    intro a17 z17 m17
    have s1_17 := m17 _ _ s1_16
    have s2_17 := m17 _ _ s2_16
    have s3_17 := m17 _ _ s3_16
    have s9_17 := m17 _ _ sg9
    have s10_17 := m17 _ _ sg10
    have s11_17 := m17 _ _ sg11
    have low17 := (low14.trans h16)
    clear m17
    refine e_then ?_
    refine c_seq ?_
    refine c_seq ?_
    refine c_region ?_
    refine l_q rfl (q_assign _ _ rfl rfl ?_)
    refine l_end ?_
    refine e_fresh z17.put ?_
    intro a18 z18 m18
    have s1_18 := m18 _ _ (s1_17.ne rfl)
    have s2_18 := m18 _ _ (s2_17.ne rfl)
    have s3_18 := m18 _ _ (s3_17.ne rfl)
    have s9_18 := m18 _ _ (s9_17.ne rfl)
    have s10_18 := m18 _ _ (s10_17.ne rfl)
    have s11_18 := m18 _ _ (s11_17.ne rfl)
    have s12_18 := m18 _ _ (At.hit z17 rfl)
    clear m18
    refine e_then ?_
    refine wp_block ?_
    refine c_loop 22 (fun k a w => Fr 81 a ∧ At a 1 (.pointer (some ⟨gl, 0, none⟩)) ∧ At a 2 (.pointer (some ⟨gm, om, none⟩)) ∧ At a 3 (.pointer (some ⟨g3, 0, none⟩)) ∧ At a 9 (.pointer (some ⟨g9, 0, none⟩)) ∧ At a 10 (.pointer (some ⟨g10, 0, none⟩)) ∧ At a 11 (.pointer (some ⟨g11, 0, none⟩)) ∧ At a 12 (.int .i64 ((k + 58 : Nat) : Int)) ∧ w.heap[g10]? = some (.cells (nums .u32 (cl (stepsL l c 58))) 40) ∧ w.heap[g11]? = some (.cells (nums .u32 (cl (stepsX l m (stepsL l c 58) stepL 58 k))) 40) ∧ w.heap[g3]? = some (.cells (nums .u32 (cl c)) 40) ∧ w.heap[g9]? = some (.cells (nums .u32 (cl (stepsO l (stepsL l c 58) 58 k))) 40) ∧ w.heap[gl]? = some (.cells (nums .u32 l) 32) ∧ RdW w gm om m ∧ Low w0 w) ?_ ?_ ?_
    · exact ⟨z18, s1_18, s2_18, s3_18, s9_18, s10_18, s11_18, (s12_18.same (congrArg (Value.int .i64) (by omega))), kg10, kg11, kg3_16, kg9, kgl_16, kgm_16, low17⟩
    · intro k a19 w19 hk19 h
      obtain ⟨z19, s1_19, s2_19, s3_19, s9_19, s10_19, s11_19, s12_19, kg10_19, kg11_19, kg3_19, kg9_19, kgl_19, kgm_19, low19⟩ := h
      clear kg10 kg11 kg3_16 kg9 kgl_16 kgm_16 low17 s10_18 s11_18 s12_18 s1_18 s2_18 s3_18 s9_18 z18
      refine c_seq ?_
      refine c_seq ?_
      refine c_region ?_
      refine l_q rfl (q_move _ _ rfl s12_19.ev ?_)
      refine l_q rfl (q_lss true rfl (At.hit z19 rfl).ev rfl (decide_eq_true (by omega)) ?_)
      refine l_end ?_
      refine e_fresh z19.put.put ?_
      intro a20 z20 m20
      have s1_20 := m20 _ _ ((s1_19.ne rfl).ne rfl)
      have s2_20 := m20 _ _ ((s2_19.ne rfl).ne rfl)
      have s3_20 := m20 _ _ ((s3_19.ne rfl).ne rfl)
      have s9_20 := m20 _ _ ((s9_19.ne rfl).ne rfl)
      have s10_20 := m20 _ _ ((s10_19.ne rfl).ne rfl)
      have s11_20 := m20 _ _ ((s11_19.ne rfl).ne rfl)
      have s12_20 := m20 _ _ ((s12_19.ne rfl).ne rfl)
      have s31_20 := m20 _ _ (At.hit z19.put rfl)
      clear m20
      refine e_then ?_
      refine c_true s31_20 ?_
      refine wp_skip ?_
      refine e_then ?_
      refine c_seq ?_
      refine wp_block ?_
      refine c_seq ?_
      refine region_low_tail 8 hm (by kernel_rfl) ?_
      simp only [List.take_succ_cons, List.take_zero, List.drop_succ_cons, List.drop_zero]
      refine qs (q_row rfl Try.underlying40 rfl (sz40.trans (congrArg some ((nums_size _ _).trans (cl_len (stepsO l (stepsL l c 58) 58 k))).symm)) s9_20.ev (fun _ h => h.blk kg9_19) ?_)
      refine qs (q_move _ _ rfl (s12_20.ne rfl).ev ?_)
      refine qs (q_move _ _ rfl ((s1_20.ne rfl).ne rfl).ev ?_)
      refine qs (q_move _ _ rfl (((s12_20.ne rfl).ne rfl).ne rfl).ev ?_)
      refine qs (q_nil rfl ((At.hit z20.put.put rfl).ne rfl).ev ?_)
      refine qs (q_idx (j := k + 58) rfl Try.underlying32 sz30 (At.hit z20.put.put.put.put rfl).ev ((At.hit z20.put.put.put rfl).ne rfl).ev (by omega) ?_)
      refine qs (q_cell (.int .u32 (l.getD (k + 58) 0)) rfl Try.underlying30 (At.hit z20.put.put.put.put.put rfl).ev (fun _ h => nums_cell (h.blk kgl_19) (k + 58) (by rw [hl]; omega)) ?_)
      refine qs (q_call (.agg (nums .u32 (cl (stepL (stepsO l (stepsL l c 58) 58 k) ((k + 58 : Nat) : Int) (l.getD (k + 58) 0))))) rfl rfl Try.func16 rfl (args3 rfl (((((((At.hit z20 rfl).ne rfl).ne rfl).ne rfl).ne rfl).ne rfl).ne rfl).ev ((((((At.hit z20.put rfl).ne rfl).ne rfl).ne rfl).ne rfl).ne rfl).ev (At.hit z20.put.put.put.put.put.put rfl).ev) (fun _ h => (StepL.calls (stepsO l (stepsL l c 58) 58 k) ((k + 58 : Nat) : Int) (l.getD (k + 58) 0) _).mono fun _ _ ⟨e, k⟩ => ⟨e, h.trans k⟩) ?_)
      refine qz ?_
      intro w21 h21
      have kg10_21 := h21.blk kg10_19
      have kg11_21 := h21.blk kg11_19
      have kg3_21 := h21.blk kg3_19
      have kg9_21 := h21.blk kg9_19
      have kgl_21 := h21.blk kgl_19
      have kgm_21 := kgm_19.low h21
      refine l_row rfl rfl rfl (sz40.trans (congrArg some ((nums_size _ _).trans (cl_len (stepL (stepsO l (stepsL l c 58) 58 k) ((k + 58 : Nat) : Int) (l.getD (k + 58) 0)))).symm)) ((((((((s9_20.ne rfl).ne rfl).ne rfl).ne rfl).ne rfl).ne rfl).ne rfl).ne rfl).ev (At.hit z20.put.put.put.put.put.put.put rfl).ev (nums_one _ _) kg9_21 (((nums_size _ _).trans (cl_len (stepsO l (stepsL l c 58) 58 k))).trans ((nums_size _ _).trans (cl_len (stepL (stepsO l (stepsL l c 58) 58 k) ((k + 58 : Nat) : Int) (l.getD (k + 58) 0)))).symm) ?_
      intro w22 k22 u22
      have kg10_22 := u22.blk kg10_21 (by omega)
      have kg11_22 := u22.blk kg11_21 (by omega)
      have kg3_22 := u22.blk kg3_21 (by omega)
      have kgl_22 := u22.blk kgl_21 (by omega)
      have kgm_22 := kgm_21.upd u22 (by omega)
      refine l_end ?_
      refine e_fresh z20.put.put.put.put.put.put.put.put ?_
      intro a23 z23 m23
      have s1_23 := m23 _ _ ((((((((s1_20.ne rfl).ne rfl).ne rfl).ne rfl).ne rfl).ne rfl).ne rfl).ne rfl)
      have s2_23 := m23 _ _ ((((((((s2_20.ne rfl).ne rfl).ne rfl).ne rfl).ne rfl).ne rfl).ne rfl).ne rfl)
      have s3_23 := m23 _ _ ((((((((s3_20.ne rfl).ne rfl).ne rfl).ne rfl).ne rfl).ne rfl).ne rfl).ne rfl)
      have s9_23 := m23 _ _ ((((((((s9_20.ne rfl).ne rfl).ne rfl).ne rfl).ne rfl).ne rfl).ne rfl).ne rfl)
      have s10_23 := m23 _ _ ((((((((s10_20.ne rfl).ne rfl).ne rfl).ne rfl).ne rfl).ne rfl).ne rfl).ne rfl)
      have s11_23 := m23 _ _ ((((((((s11_20.ne rfl).ne rfl).ne rfl).ne rfl).ne rfl).ne rfl).ne rfl).ne rfl)
      have s12_23 := m23 _ _ ((((((((s12_20.ne rfl).ne rfl).ne rfl).ne rfl).ne rfl).ne rfl).ne rfl).ne rfl)
      have low23 := ((low19.trans h21).upd u22 geg9)
      clear m23
      refine e_then ?_
      refine region_low_tail 14 hm (by kernel_rfl) ?_
      simp only [List.take_succ_cons, List.take_zero, List.drop_succ_cons, List.drop_zero]
      refine qs (q_row rfl Try.underlying40 rfl (sz40.trans (congrArg some ((nums_size _ _).trans (cl_len (stepsX l m (stepsL l c 58) stepL 58 k))).symm)) s11_23.ev (fun _ h => h.blk kg11_22) ?_)
      refine qs (q_move _ _ rfl (s12_23.ne rfl).ev ?_)
      refine qs (q_move _ _ rfl ((s1_23.ne rfl).ne rfl).ev ?_)
      refine qs (q_move _ _ rfl (((s12_23.ne rfl).ne rfl).ne rfl).ev ?_)
      refine qs (q_nil rfl ((At.hit z23.put.put rfl).ne rfl).ev ?_)
      refine qs (q_idx (j := k + 58) rfl Try.underlying32 sz30 (At.hit z23.put.put.put.put rfl).ev ((At.hit z23.put.put.put rfl).ne rfl).ev (by omega) ?_)
      refine qs (q_cell (.int .u32 (l.getD (k + 58) 0)) rfl Try.underlying30 (At.hit z23.put.put.put.put.put rfl).ev (fun _ h => nums_cell (h.blk kgl_22) (k + 58) (by rw [hl]; omega)) ?_)
      refine qs (q_move _ _ rfl (((((((s2_23.ne rfl).ne rfl).ne rfl).ne rfl).ne rfl).ne rfl).ne rfl).ev ?_)
      refine q_fresh z23.put.put.put.put.put.put.put.put ?_
      intro a24 z24 m24
      have s1_24 := m24 _ _ ((((((((s1_23.ne rfl).ne rfl).ne rfl).ne rfl).ne rfl).ne rfl).ne rfl).ne rfl)
      have s2_24 := m24 _ _ ((((((((s2_23.ne rfl).ne rfl).ne rfl).ne rfl).ne rfl).ne rfl).ne rfl).ne rfl)
      have s3_24 := m24 _ _ ((((((((s3_23.ne rfl).ne rfl).ne rfl).ne rfl).ne rfl).ne rfl).ne rfl).ne rfl)
      have s9_24 := m24 _ _ ((((((((s9_23.ne rfl).ne rfl).ne rfl).ne rfl).ne rfl).ne rfl).ne rfl).ne rfl)
      have s10_24 := m24 _ _ ((((((((s10_23.ne rfl).ne rfl).ne rfl).ne rfl).ne rfl).ne rfl).ne rfl).ne rfl)
      have s11_24 := m24 _ _ ((((((((s11_23.ne rfl).ne rfl).ne rfl).ne rfl).ne rfl).ne rfl).ne rfl).ne rfl)
      have s12_24 := m24 _ _ ((((((((s12_23.ne rfl).ne rfl).ne rfl).ne rfl).ne rfl).ne rfl).ne rfl).ne rfl)
      have s42_24 := m24 _ _ ((((((((At.hit z23 rfl).ne rfl).ne rfl).ne rfl).ne rfl).ne rfl).ne rfl).ne rfl)
      have s43_24 := m24 _ _ (((((((At.hit z23.put rfl).ne rfl).ne rfl).ne rfl).ne rfl).ne rfl).ne rfl)
      have s48_24 := m24 _ _ ((At.hit z23.put.put.put.put.put.put rfl).ne rfl)
      have s49_24 := m24 _ _ (At.hit z23.put.put.put.put.put.put.put rfl)
      clear m24
      refine qs (q_move _ _ rfl s12_24.ev ?_)
      refine qs (q_nil rfl (s49_24.ne rfl).ev ?_)
      refine qs (q_idxA (i := om) (j := k + 58) rfl Try.underlying32 sz30 (At.hit z24.put rfl).ev ((At.hit z24 rfl).ne rfl).ev (by omega) ?_)
      refine qs (q_cell (.int .u32 (m.getD (k + 58) 0)) rfl Try.underlying30 (At.hit z24.put.put rfl).ev (fun _ h => (kgm_22.low h).cell (k + 58) (by rw [hm']; omega)) ?_)
      refine qs (q_xor rfl ((((s48_24.ne rfl).ne rfl).ne rfl).ne rfl).ev (At.hit z24.put.put.put rfl).ev ?_)
      refine qs (q_call (.agg (nums .u32 (cl (stepL (stepsX l m (stepsL l c 58) stepL 58 k) ((k + 58 : Nat) : Int) (Go.bits .xor .u32 (l.getD (k + 58) 0) (m.getD (k + 58) 0)))))) rfl rfl Try.func16 rfl (args3 rfl (((((s42_24.ne rfl).ne rfl).ne rfl).ne rfl).ne rfl).ev (((((s43_24.ne rfl).ne rfl).ne rfl).ne rfl).ne rfl).ev (At.hit z24.put.put.put.put rfl).ev) (fun _ h => (StepL.calls (stepsX l m (stepsL l c 58) stepL 58 k) ((k + 58 : Nat) : Int) (Go.bits .xor .u32 (l.getD (k + 58) 0) (m.getD (k + 58) 0)) _).mono fun _ _ ⟨e, k⟩ => ⟨e, h.trans k⟩) ?_)
      refine qz ?_
      intro w25 h25
      have kg10_25 := h25.blk kg10_22
      have kg11_25 := h25.blk kg11_22
      have kg3_25 := h25.blk kg3_22
      have kg9_25 := h25.blk k22
      have kgl_25 := h25.blk kgl_22
      have kgm_25 := kgm_22.low h25
      refine l_row rfl rfl rfl (sz40.trans (congrArg some ((nums_size _ _).trans (cl_len (stepL (stepsX l m (stepsL l c 58) stepL 58 k) ((k + 58 : Nat) : Int) (Go.bits .xor .u32 (l.getD (k + 58) 0) (m.getD (k + 58) 0))))).symm)) ((((((s11_24.ne rfl).ne rfl).ne rfl).ne rfl).ne rfl).ne rfl).ev (At.hit z24.put.put.put.put.put rfl).ev (nums_one _ _) kg11_25 (((nums_size _ _).trans (cl_len (stepsX l m (stepsL l c 58) stepL 58 k))).trans ((nums_size _ _).trans (cl_len (stepL (stepsX l m (stepsL l c 58) stepL 58 k) ((k + 58 : Nat) : Int) (Go.bits .xor .u32 (l.getD (k + 58) 0) (m.getD (k + 58) 0))))).symm) ?_
      intro w26 k26 u26
      have kg10_26 := u26.blk kg10_25 (by omega)
      have kg3_26 := u26.blk kg3_25 (by omega)
      have kg9_26 := u26.blk kg9_25 (by omega)
      have kgl_26 := u26.blk kgl_25 (by omega)
      have kgm_26 := kgm_25.upd u26 (by omega)
      refine l_end ?_
      refine e_fresh z24.put.put.put.put.put.put ?_
      intro a27 z27 m27
      have s1_27 := m27 _ _ ((((((s1_24.ne rfl).ne rfl).ne rfl).ne rfl).ne rfl).ne rfl)
      have s2_27 := m27 _ _ ((((((s2_24.ne rfl).ne rfl).ne rfl).ne rfl).ne rfl).ne rfl)
      have s3_27 := m27 _ _ ((((((s3_24.ne rfl).ne rfl).ne rfl).ne rfl).ne rfl).ne rfl)
      have s9_27 := m27 _ _ ((((((s9_24.ne rfl).ne rfl).ne rfl).ne rfl).ne rfl).ne rfl)
      have s10_27 := m27 _ _ ((((((s10_24.ne rfl).ne rfl).ne rfl).ne rfl).ne rfl).ne rfl)
      have s11_27 := m27 _ _ ((((((s11_24.ne rfl).ne rfl).ne rfl).ne rfl).ne rfl).ne rfl)
      have s12_27 := m27 _ _ ((((((s12_24.ne rfl).ne rfl).ne rfl).ne rfl).ne rfl).ne rfl)
      have low27 := ((low23.trans h25).upd u26 geg11)
      clear m27
      refine e_in ?_
      refine e_then ?_
      refine c_region ?_
      refine l_q rfl (q_move _ _ rfl s12_27.ev ?_)
      refine l_q rfl (q_add (((k + 59 : Nat) : Int)) rfl (At.hit z27 rfl).ev rfl (i64_is (by omega) (by omega) (by omega)) ?_)
      refine l_q rfl (q_assign _ _ rfl (At.hit z27.put rfl).ev ?_)
      refine l_end ?_
      refine e_fresh z27.put.put.put ?_
      intro a28 z28 m28
      have s1_28 := m28 _ _ (((s1_27.ne rfl).ne rfl).ne rfl)
      have s2_28 := m28 _ _ (((s2_27.ne rfl).ne rfl).ne rfl)
      have s3_28 := m28 _ _ (((s3_27.ne rfl).ne rfl).ne rfl)
      have s9_28 := m28 _ _ (((s9_27.ne rfl).ne rfl).ne rfl)
      have s10_28 := m28 _ _ (((s10_27.ne rfl).ne rfl).ne rfl)
      have s11_28 := m28 _ _ (((s11_27.ne rfl).ne rfl).ne rfl)
      have s12_28 := m28 _ _ (At.hit z27.put.put rfl)
      clear m28
      exact ⟨z28, s1_28, s2_28, s3_28, s9_28, s10_28, s11_28, (s12_28.same (congrArg (Value.int .i64) (by omega))), kg10_26, k26, kg3_26, kg9_26, kgl_26, kgm_26, low27⟩
    · intro a29 w29 h
      obtain ⟨z29, s1_29, s2_29, s3_29, s9_29, s10_29, s11_29, s12_29, kg10_29, kg11_29, kg3_29, kg9_29, kgl_29, kgm_29, low29⟩ := h
      clear kg10 kg11 kg3_16 kg9 kgl_16 kgm_16 low17 s10_18 s11_18 s12_18 s1_18 s2_18 s3_18 s9_18 z18
      refine c_seq ?_
      refine c_seq ?_
      refine c_region ?_
      refine l_q rfl (q_move _ _ rfl s12_29.ev ?_)
      refine l_q rfl (q_lss false rfl (At.hit z29 rfl).ev rfl (decide_eq_false (by omega)) ?_)
      refine l_end ?_
      refine e_fresh z29.put.put ?_
      intro a30 z30 m30
      have s1_30 := m30 _ _ ((s1_29.ne rfl).ne rfl)
      have s2_30 := m30 _ _ ((s2_29.ne rfl).ne rfl)
      have s3_30 := m30 _ _ ((s3_29.ne rfl).ne rfl)
      have s9_30 := m30 _ _ ((s9_29.ne rfl).ne rfl)
      have s10_30 := m30 _ _ ((s10_29.ne rfl).ne rfl)
      have s11_30 := m30 _ _ ((s11_29.ne rfl).ne rfl)
      have s12_30 := m30 _ _ ((s12_29.ne rfl).ne rfl)
      have s31_30 := m30 _ _ (At.hit z29.put rfl)
      clear m30
      refine e_then ?_
      refine c_false s31_30 ?_
      refine wp_exit ?_
      refine x_then ?_
      refine x_then ?_
      refine in_exit ?_
      refine e_then ?_
      refine c_seq ?_
      refine c_seq ?_
      refine c_region ?_
      refine l_q rfl (q_assign _ _ rfl rfl ?_)
      refine l_end ?_
      refine e_fresh z30.put ?_
      intro a31 z31 m31
      have s1_31 := m31 _ _ (s1_30.ne rfl)
      have s2_31 := m31 _ _ (s2_30.ne rfl)
      have s3_31 := m31 _ _ (s3_30.ne rfl)
      have s9_31 := m31 _ _ (s9_30.ne rfl)
      have s10_31 := m31 _ _ (s10_30.ne rfl)
      have s11_31 := m31 _ _ (s11_30.ne rfl)
      have s13_31 := m31 _ _ (At.hit z30 rfl)
      clear m31
      refine e_then ?_
      refine wp_block ?_
      refine c_loop 58 (fun k a w => Fr 81 a ∧ At a 1 (.pointer (some ⟨gl, 0, none⟩)) ∧ At a 2 (.pointer (some ⟨gm, om, none⟩)) ∧ At a 3 (.pointer (some ⟨g3, 0, none⟩)) ∧ At a 9 (.pointer (some ⟨g9, 0, none⟩)) ∧ At a 10 (.pointer (some ⟨g10, 0, none⟩)) ∧ At a 11 (.pointer (some ⟨g11, 0, none⟩)) ∧ At a 13 (.int .i64 (57 - ((k : Nat) : Int))) ∧ w.heap[g10]? = some (.cells (nums .u32 (cl (backX l m (stepsL l c 58) backL k))) 40) ∧ w.heap[g11]? = some (.cells (nums .u32 (cl (stepsX l m (stepsL l c 58) stepL 58 22))) 40) ∧ w.heap[g3]? = some (.cells (nums .u32 (cl c)) 40) ∧ w.heap[g9]? = some (.cells (nums .u32 (cl (stepsO l (stepsL l c 58) 58 22))) 40) ∧ w.heap[gl]? = some (.cells (nums .u32 l) 32) ∧ RdW w gm om m ∧ Low w0 w) ?_ ?_ ?_
      · exact ⟨z31, s1_31, s2_31, s3_31, s9_31, s10_31, s11_31, (s13_31.same (congrArg (Value.int .i64) (by omega))), kg10_29, kg11_29, kg3_29, kg9_29, kgl_29, kgm_29, low29⟩
      · intro k a32 w32 hk32 h
        obtain ⟨z32, s1_32, s2_32, s3_32, s9_32, s10_32, s11_32, s13_32, kg10_32, kg11_32, kg3_32, kg9_32, kgl_32, kgm_32, low32⟩ := h
        clear kg10_29 kg11_29 kg3_29 kg9_29 kgl_29 kgm_29 low29 s10_31 s11_31 s13_31 s1_31 s2_31 s3_31 s9_31 z31
        refine c_seq ?_
        refine c_seq ?_
        refine c_region ?_
        refine l_q rfl (q_move _ _ rfl s13_32.ev ?_)
        refine l_q rfl (q_geq true rfl (At.hit z32 rfl).ev rfl (decide_eq_true (by omega)) ?_)
        refine l_end ?_
        refine e_fresh z32.put.put ?_
        intro a33 z33 m33
        have s1_33 := m33 _ _ ((s1_32.ne rfl).ne rfl)
        have s2_33 := m33 _ _ ((s2_32.ne rfl).ne rfl)
        have s3_33 := m33 _ _ ((s3_32.ne rfl).ne rfl)
        have s9_33 := m33 _ _ ((s9_32.ne rfl).ne rfl)
        have s10_33 := m33 _ _ ((s10_32.ne rfl).ne rfl)
        have s11_33 := m33 _ _ ((s11_32.ne rfl).ne rfl)
        have s13_33 := m33 _ _ ((s13_32.ne rfl).ne rfl)
        have s57_33 := m33 _ _ (At.hit z32.put rfl)
        clear m33
        refine e_then ?_
        refine c_true s57_33 ?_
        refine wp_skip ?_
        refine e_then ?_
        refine c_seq ?_
        refine wp_block ?_
        refine region_low_tail 14 hm (by kernel_rfl) ?_
        simp only [List.take_succ_cons, List.take_zero, List.drop_succ_cons, List.drop_zero]
        refine qs (q_row rfl Try.underlying40 rfl (sz40.trans (congrArg some ((nums_size _ _).trans (cl_len (backX l m (stepsL l c 58) backL k))).symm)) s10_33.ev (fun _ h => h.blk kg10_32) ?_)
        refine qs (q_move _ _ rfl (s13_33.ne rfl).ev ?_)
        refine qs (q_move _ _ rfl ((s1_33.ne rfl).ne rfl).ev ?_)
        refine qs (q_move _ _ rfl (((s13_33.ne rfl).ne rfl).ne rfl).ev ?_)
        refine qs (q_nil rfl ((At.hit z33.put.put rfl).ne rfl).ev ?_)
        refine qs (q_idx (j := 57 - k) rfl Try.underlying32 sz30 (At.hit z33.put.put.put.put rfl).ev (((At.hit z33.put.put.put rfl).ne rfl).same (congrArg (Value.int .i64) (show ((57 - ((k : Nat) : Int)) : Int) = ((57 - k : Nat) : Int) by omega))).ev (by omega) ?_)
        refine qs (q_cell (.int .u32 (l.getD (57 - k) 0)) rfl Try.underlying30 (At.hit z33.put.put.put.put.put rfl).ev (fun _ h => nums_cell (h.blk kgl_32) (57 - k) (by rw [hl]; omega)) ?_)
        refine qs (q_move _ _ rfl (((((((s2_33.ne rfl).ne rfl).ne rfl).ne rfl).ne rfl).ne rfl).ne rfl).ev ?_)
        refine q_fresh z33.put.put.put.put.put.put.put.put ?_
        intro a34 z34 m34
        have s1_34 := m34 _ _ ((((((((s1_33.ne rfl).ne rfl).ne rfl).ne rfl).ne rfl).ne rfl).ne rfl).ne rfl)
        have s2_34 := m34 _ _ ((((((((s2_33.ne rfl).ne rfl).ne rfl).ne rfl).ne rfl).ne rfl).ne rfl).ne rfl)
        have s3_34 := m34 _ _ ((((((((s3_33.ne rfl).ne rfl).ne rfl).ne rfl).ne rfl).ne rfl).ne rfl).ne rfl)
        have s9_34 := m34 _ _ ((((((((s9_33.ne rfl).ne rfl).ne rfl).ne rfl).ne rfl).ne rfl).ne rfl).ne rfl)
        have s10_34 := m34 _ _ ((((((((s10_33.ne rfl).ne rfl).ne rfl).ne rfl).ne rfl).ne rfl).ne rfl).ne rfl)
        have s11_34 := m34 _ _ ((((((((s11_33.ne rfl).ne rfl).ne rfl).ne rfl).ne rfl).ne rfl).ne rfl).ne rfl)
        have s13_34 := m34 _ _ ((((((((s13_33.ne rfl).ne rfl).ne rfl).ne rfl).ne rfl).ne rfl).ne rfl).ne rfl)
        have s60_34 := m34 _ _ ((((((((At.hit z33 rfl).ne rfl).ne rfl).ne rfl).ne rfl).ne rfl).ne rfl).ne rfl)
        have s61_34 := m34 _ _ (((((((At.hit z33.put rfl).ne rfl).ne rfl).ne rfl).ne rfl).ne rfl).ne rfl)
        have s66_34 := m34 _ _ ((At.hit z33.put.put.put.put.put.put rfl).ne rfl)
        have s67_34 := m34 _ _ (At.hit z33.put.put.put.put.put.put.put rfl)
        clear m34
        refine qs (q_move _ _ rfl s13_34.ev ?_)
        refine qs (q_nil rfl (s67_34.ne rfl).ev ?_)
        refine qs (q_idxA (i := om) (j := 57 - k) rfl Try.underlying32 sz30 (At.hit z34.put rfl).ev (((At.hit z34 rfl).ne rfl).same (congrArg (Value.int .i64) (show ((57 - ((k : Nat) : Int)) : Int) = ((57 - k : Nat) : Int) by omega))).ev (by omega) ?_)
        refine qs (q_cell (.int .u32 (m.getD (57 - k) 0)) rfl Try.underlying30 (At.hit z34.put.put rfl).ev (fun _ h => (kgm_32.low h).cell (57 - k) (by rw [hm']; omega)) ?_)
        refine qs (q_xor rfl ((((s66_34.ne rfl).ne rfl).ne rfl).ne rfl).ev (At.hit z34.put.put.put rfl).ev ?_)
        refine qs (q_call (.agg (nums .u32 (cl (backL (backX l m (stepsL l c 58) backL k) (57 - ((k : Nat) : Int)) (Go.bits .xor .u32 (l.getD (57 - k) 0) (m.getD (57 - k) 0)))))) rfl rfl Try.func17 rfl (args3 rfl (((((s60_34.ne rfl).ne rfl).ne rfl).ne rfl).ne rfl).ev (((((s61_34.ne rfl).ne rfl).ne rfl).ne rfl).ne rfl).ev (At.hit z34.put.put.put.put rfl).ev) (fun _ h => (BackL.calls (backX l m (stepsL l c 58) backL k) (57 - ((k : Nat) : Int)) (Go.bits .xor .u32 (l.getD (57 - k) 0) (m.getD (57 - k) 0)) _).mono fun _ _ ⟨e, k⟩ => ⟨e, h.trans k⟩) ?_)
        refine qz ?_
        intro w35 h35
        have kg10_35 := h35.blk kg10_32
        have kg11_35 := h35.blk kg11_32
        have kg3_35 := h35.blk kg3_32
        have kg9_35 := h35.blk kg9_32
        have kgl_35 := h35.blk kgl_32
        have kgm_35 := kgm_32.low h35
        refine l_row rfl rfl rfl (sz40.trans (congrArg some ((nums_size _ _).trans (cl_len (backL (backX l m (stepsL l c 58) backL k) (57 - ((k : Nat) : Int)) (Go.bits .xor .u32 (l.getD (57 - k) 0) (m.getD (57 - k) 0))))).symm)) ((((((s10_34.ne rfl).ne rfl).ne rfl).ne rfl).ne rfl).ne rfl).ev (At.hit z34.put.put.put.put.put rfl).ev (nums_one _ _) kg10_35 (((nums_size _ _).trans (cl_len (backX l m (stepsL l c 58) backL k))).trans ((nums_size _ _).trans (cl_len (backL (backX l m (stepsL l c 58) backL k) (57 - ((k : Nat) : Int)) (Go.bits .xor .u32 (l.getD (57 - k) 0) (m.getD (57 - k) 0))))).symm) ?_
        intro w36 k36 u36
        have kg11_36 := u36.blk kg11_35 (by omega)
        have kg3_36 := u36.blk kg3_35 (by omega)
        have kg9_36 := u36.blk kg9_35 (by omega)
        have kgl_36 := u36.blk kgl_35 (by omega)
        have kgm_36 := kgm_35.upd u36 (by omega)
        refine l_end ?_
        refine e_fresh z34.put.put.put.put.put.put ?_
        intro a37 z37 m37
        have s1_37 := m37 _ _ ((((((s1_34.ne rfl).ne rfl).ne rfl).ne rfl).ne rfl).ne rfl)
        have s2_37 := m37 _ _ ((((((s2_34.ne rfl).ne rfl).ne rfl).ne rfl).ne rfl).ne rfl)
        have s3_37 := m37 _ _ ((((((s3_34.ne rfl).ne rfl).ne rfl).ne rfl).ne rfl).ne rfl)
        have s9_37 := m37 _ _ ((((((s9_34.ne rfl).ne rfl).ne rfl).ne rfl).ne rfl).ne rfl)
        have s10_37 := m37 _ _ ((((((s10_34.ne rfl).ne rfl).ne rfl).ne rfl).ne rfl).ne rfl)
        have s11_37 := m37 _ _ ((((((s11_34.ne rfl).ne rfl).ne rfl).ne rfl).ne rfl).ne rfl)
        have s13_37 := m37 _ _ ((((((s13_34.ne rfl).ne rfl).ne rfl).ne rfl).ne rfl).ne rfl)
        have low37 := ((low32.trans h35).upd u36 geg10)
        clear m37
        refine e_in ?_
        refine e_then ?_
        refine c_region ?_
        refine l_q rfl (q_move _ _ rfl s13_37.ev ?_)
        refine l_q rfl (q_sub ((56 - ((k : Nat) : Int))) rfl (At.hit z37 rfl).ev rfl (i64_is (by omega) (by omega) (by omega)) ?_)
        refine l_q rfl (q_assign _ _ rfl (At.hit z37.put rfl).ev ?_)
        refine l_end ?_
        refine e_fresh z37.put.put.put ?_
        intro a38 z38 m38
        have s1_38 := m38 _ _ (((s1_37.ne rfl).ne rfl).ne rfl)
        have s2_38 := m38 _ _ (((s2_37.ne rfl).ne rfl).ne rfl)
        have s3_38 := m38 _ _ (((s3_37.ne rfl).ne rfl).ne rfl)
        have s9_38 := m38 _ _ (((s9_37.ne rfl).ne rfl).ne rfl)
        have s10_38 := m38 _ _ (((s10_37.ne rfl).ne rfl).ne rfl)
        have s11_38 := m38 _ _ (((s11_37.ne rfl).ne rfl).ne rfl)
        have s13_38 := m38 _ _ (At.hit z37.put.put rfl)
        clear m38
        exact ⟨z38, s1_38, s2_38, s3_38, s9_38, s10_38, s11_38, (s13_38.same (congrArg (Value.int .i64) (by omega))), k36, kg11_36, kg3_36, kg9_36, kgl_36, kgm_36, low37⟩
      · intro a39 w39 h
        obtain ⟨z39, s1_39, s2_39, s3_39, s9_39, s10_39, s11_39, s13_39, kg10_39, kg11_39, kg3_39, kg9_39, kgl_39, kgm_39, low39⟩ := h
        clear kg10_29 kg11_29 kg3_29 kg9_29 kgl_29 kgm_29 low29 s10_31 s11_31 s13_31 s1_31 s2_31 s3_31 s9_31 z31
        refine c_seq ?_
        refine c_seq ?_
        refine c_region ?_
        refine l_q rfl (q_move _ _ rfl s13_39.ev ?_)
        refine l_q rfl (q_geq false rfl (At.hit z39 rfl).ev rfl (decide_eq_false (by omega)) ?_)
        refine l_end ?_
        refine e_fresh z39.put.put ?_
        intro a40 z40 m40
        have s1_40 := m40 _ _ ((s1_39.ne rfl).ne rfl)
        have s2_40 := m40 _ _ ((s2_39.ne rfl).ne rfl)
        have s3_40 := m40 _ _ ((s3_39.ne rfl).ne rfl)
        have s9_40 := m40 _ _ ((s9_39.ne rfl).ne rfl)
        have s10_40 := m40 _ _ ((s10_39.ne rfl).ne rfl)
        have s11_40 := m40 _ _ ((s11_39.ne rfl).ne rfl)
        have s13_40 := m40 _ _ ((s13_39.ne rfl).ne rfl)
        have s57_40 := m40 _ _ (At.hit z39.put rfl)
        clear m40
        refine e_then ?_
        refine c_false s57_40 ?_
        refine wp_exit ?_
        refine x_then ?_
        refine x_then ?_
        refine in_exit ?_
        refine e_then ?_
        refine c_seq ?_
        refine region_low hm (by kernel_rfl) ?_
        refine qs (q_row rfl Try.underlying40 rfl (sz40.trans (congrArg some ((nums_size _ _).trans (cl_len (backX l m (stepsL l c 58) backL 58))).symm)) s10_40.ev (fun _ h => h.blk kg10_39) ?_)
        refine qs (q_row rfl Try.underlying40 rfl (sz40.trans (congrArg some ((nums_size _ _).trans (cl_len (stepsX l m (stepsL l c 58) stepL 58 22))).symm)) (s11_40.ne rfl).ev (fun _ h => h.blk kg11_39) ?_)
        refine qs (q_call (.agg (nums .u32 (addL (cl (backX l m (stepsL l c 58) backL 58)) (cl (stepsX l m (stepsL l c 58) stepL 58 22)) 5))) rfl rfl Try.func35 rfl (args2 rfl ((At.hit z40 rfl).ne rfl).ev (At.hit z40.put rfl).ev) (fun _ h => (Sum2.calls (backX l m (stepsL l c 58) backL 58) (stepsX l m (stepsL l c 58) stepL 58 22) _).mono fun _ _ ⟨e, k⟩ => ⟨e, h.trans k⟩) ?_)
        refine qs (q_row rfl Try.underlying40 rfl (sz40.trans (congrArg some ((nums_size _ _).trans (cl_len c)).symm)) (((s3_40.ne rfl).ne rfl).ne rfl).ev (fun _ h => h.blk kg3_39) ?_)
        refine qs (q_row rfl Try.underlying40 rfl (sz40.trans (congrArg some ((nums_size _ _).trans (cl_len (stepsO l (stepsL l c 58) 58 22))).symm)) ((((s9_40.ne rfl).ne rfl).ne rfl).ne rfl).ev (fun _ h => h.blk kg9_39) ?_)
        refine qs (q_call (.agg (nums .u32 (addL (cl c) (cl (stepsO l (stepsL l c 58) 58 22)) 5))) rfl rfl Try.func35 rfl (args2 rfl ((At.hit z40.put.put.put rfl).ne rfl).ev (At.hit z40.put.put.put.put rfl).ev) (fun _ h => (Sum2.calls c (stepsO l (stepsL l c 58) 58 22) _).mono fun _ _ ⟨e, k⟩ => ⟨e, h.trans k⟩) ?_)
        refine qs (q_eqrow _ rfl Try.eqGuardType40 Try.underlying40 Try.underlying30 info30 cells30 ((((At.hit z40.put.put rfl).ne rfl).ne rfl).ne rfl).ev (At.hit z40.put.put.put.put.put rfl).ev (addL_len (cl (backX l m (stepsL l c 58) backL 58)) _ 5) (addL_len (cl c) _ 5) rfl ?_)
        refine qs (q_assign _ _ rfl (At.hit z40.put.put.put.put.put.put rfl).ev ?_)
        refine qz ?_
        intro w41 h41
        have kg10_41 := h41.blk kg10_39
        have kg11_41 := h41.blk kg11_39
        have kg3_41 := h41.blk kg3_39
        have kg9_41 := h41.blk kg9_39
        have kgl_41 := h41.blk kgl_39
        have kgm_41 := kgm_39.low h41
        refine e_id ?_
        refine e_fresh z40.put.put.put.put.put.put.put.put ?_
        intro a42 z42 m42
        have s6_42 := m42 _ _ (At.hit z40.put.put.put.put.put.put.put rfl)
        have low42 := (low39.trans h41)
        clear m42
        refine e_then ?_
        refine wp_ret ?_
        refine r_tmp rfl z42.defers s6_42 ?_
        exact ⟨rfl, low42⟩
def markedL (c : Ch) (s : ByteArray) (ty K B : Int) : Bool := !decide (differenceL ty K B = List.replicate 80 0) && meetsL c (expandL s) (differenceL ty K B)
theorem MarkedL_yes.calls (c : Ch) (s : ByteArray) (hs : s.size ≤ 9223372036854775807) (ty K B : Int) (hd : ¬ differenceL ty K B = List.replicate 80 0) (w0 : World) : Calls Try.prog 13 #[.agg (nums .u32 (cl c)), .string s, .agg #[.int .i64 ty, .int .i64 K, .int .i64 B]] w0 fun e w' => e = .returned (.bool (markedL c s ty K B)) ∧ Low w0 w' := by
  refine c_fun (R := _) Try.func13 rfl 20 rfl (Nat.le_of_ble_eq_true rfl) ?_
  intro a z hA
  have s0 := hA 0 _ rfl
  have s1 := hA 1 _ rfl
  have s2 := hA 2 _ rfl
  clear hA
  refine c_seq ?_
  refine c_region ?_
  refine l_box rfl rfl s0.ev ?_
  intro g3 w1 hg1 k1 h1
  have geg3 := Nat.le_trans (Low.refl _).ge hg1
  refine l_box rfl rfl (s2.ne rfl).ev ?_
  intro g5 w2 hg2 k2 h2
  have lt_g3_g5 := Nat.lt_of_lt_of_le (heap_lt k1) hg2
  have geg5 := Nat.le_trans h1.ge hg2
  have kg3_2 := h2.blk k1
  refine l_q rfl (q_assign _ _ rfl rfl ?_)
  refine l_end ?_
  refine e_fresh z.put.put.put ?_
  intro a3 z3 m3
  have s1_3 := m3 _ _ (((s1.ne rfl).ne rfl).ne rfl)
  have s3_3 := m3 _ _ (((At.hit z rfl).ne rfl).ne rfl)
  have s5_3 := m3 _ _ ((At.hit z.put rfl).ne rfl)
  have low3 := (h1.trans h2)
  clear m3
  refine e_then ?_
  refine c_seq ?_
  refine region_told [.val (.string s), .val (.agg (nums .u32 (expandL s))), .val (.agg (#[.int .i64 ty, .int .i64 K, .int .i64 B])), .val (.agg (nums .u32 (differenceL ty K B))), .new (nums .u32 (List.replicate 80 0)) 32 6 (nums .u32 (expandL s)), .new (nums .u32 (List.replicate 80 0)) 32 7 (nums .u32 (differenceL ty K B)), .put 4 1, .put 5 3] hm (by kernel_rfl) rfl z3 (allO_cons ?_ (allO_cons ?_ (allO_cons ?_ (allO_cons ?_ (allO_cons (stepO_new _ rfl rfl rfl zero32) (allO_cons (stepO_new _ rfl rfl rfl zero32) (allO_cons (stepO_put rfl rfl rfl rfl rfl rfl rfl rfl (((nums_size _ _).trans (List.length_replicate)).trans ((nums_size _ _).trans (expandL_len s)).symm) (nums_one _ _) (sz32.trans (congrArg some ((nums_size _ _).trans (expandL_len s)).symm))) (allO_cons (stepO_put rfl rfl rfl rfl rfl rfl rfl rfl (((nums_size _ _).trans (List.length_replicate)).trans ((nums_size _ _).trans (differenceL_len _ _ _)).symm) (nums_one _ _) (sz32.trans (congrArg some ((nums_size _ _).trans (differenceL_len _ _ _)).symm))) allO_nil)))))))) ?_
  · exact stepO_val _ rfl rfl fun _ _ _ lw kp kn => q_move _ _ rfl (kp _ _ rfl s1_3).ev rfl
  · exact stepO_val _ rfl rfl fun _ _ _ lw kp kn => q_call (.agg (nums .u32 (expandL s))) rfl rfl Try.func15 rfl (args1 rfl (kn 0 _ _ rfl rfl rfl).ev) (fun _ h => (ExpandL.calls s hs _).mono fun _ _ ⟨e, k⟩ => ⟨e, h.trans k⟩) rfl
  · exact stepO_val _ rfl rfl fun _ _ _ lw kp kn => q_row rfl Try.underlying23 rfl (sz23.trans (congrArg some rfl.symm)) (kp _ _ rfl s5_3).ev (fun _ h => h.blk (lw.blk k2)) rfl
  · exact stepO_val _ rfl rfl fun _ _ _ lw kp kn => q_call (.agg (nums .u32 (differenceL ty K B))) rfl rfl Try.func9 rfl (args1 rfl (kn 2 _ _ rfl rfl rfl).ev) (fun _ h => (DifferenceL.calls ty K B _).mono fun _ _ ⟨e, k⟩ => ⟨e, h.trans k⟩) rfl
  intro a4 w4 G D
  have bg3_4 := (heap_lt kg3_2)
  have bg5_4 := (heap_lt k2)
  have sg7 := D.ptr 4 _ _ _ _ _ rfl rfl
  have hgg7 := D.ge 4 _ _ _ _ _ rfl rfl
  have kg7 := D.blk 4 _ _ _ _ _ rfl rfl
  have geg7 := Nat.le_trans low3.ge hgg7
  have sg8 := D.ptr 5 _ _ _ _ _ rfl rfl
  have hgg8 := D.ge 5 _ _ _ _ _ rfl rfl
  have kg8 := D.blk 5 _ _ _ _ _ rfl rfl
  have geg8 := Nat.le_trans low3.ge hgg8
  have d4_4_5 := D.ne 4 5 _ _ _ _ _ _ _ _ rfl rfl rfl
  have h4 := D.low
  have kg3_4 := h4.blk kg3_2
  have kg5_4 := h4.blk k2
  have z4 := D.fr
  have s1_4 := (D.keep _ _ rfl s1_3)
  have s3_4 := (D.keep _ _ rfl s3_3)
  have s5_4 := (D.keep _ _ rfl s5_3)
  have s9_4 := (D.val 0 _ _ rfl rfl)
  have s10_4 := (D.val 1 _ _ rfl rfl)
  have s11_4 := (D.val 2 _ _ rfl rfl)
  have s12_4 := (D.val 3 _ _ rfl rfl)
  clear D
  generalize G 4 = g7 at *
  generalize G 5 = g8 at *
  refine e_fresh z4 ?_
  intro a5 z5 m5
  have s3_5 := m5 _ _ s3_4
  have s7_5 := m5 _ _ sg7
  have s8_5 := m5 _ _ sg8
  have low5 := (low3.trans h4)
  clear m5
  refine e_then ?_
  refine c_seq ?_
  refine c_region ?_
  refine l_q rfl (q_row rfl Try.underlying32 rfl (sz32.trans (congrArg some ((nums_size _ _).trans (differenceL_len _ _ _)).symm)) s8_5.ev (fun _ e => by rw [e]; exact kg8) ?_)
  refine l_q rfl (q_zero rfl Try.underlying32 sz30 zero32 ?_)
  refine l_q rfl (q_nerow true rfl Try.eqGuardType32 Try.underlying32 Try.underlying30 info30 cells30 ((At.hit z5 rfl).ne rfl).ev (At.hit z5.put rfl).ev (differenceL_len _ _ _) (List.length_replicate) (by rw [decide_eq_false hd]; rfl) ?_)
  refine l_q rfl (q_move _ _ rfl (At.hit z5.put.put rfl).ev ?_)
  refine l_qg (wanted_is (j := 3) (d := 16) (b := true) rfl rfl (At.hit z5.put.put.put rfl) rfl) (q_row rfl Try.underlying40 rfl (sz40.trans (congrArg some ((nums_size _ _).trans (cl_len c)).symm)) ((((s3_5.ne rfl).ne rfl).ne rfl).ne rfl).ev (fun _ e => by rw [e]; exact kg3_4) ?_)
  refine l_callg (fun v w' => v = .bool (meetsL c (expandL s) (differenceL ty K B)) ∧ Low w4 w') (wanted_is (j := 3) (d := 16) (b := true) rfl rfl ((At.hit z5.put.put.put rfl).ne rfl) rfl) rfl rfl Try.func25 rfl (args3 rfl (At.hit z5.put.put.put.put rfl).ev (((((s7_5.ne rfl).ne rfl).ne rfl).ne rfl).ne rfl).ev (((((s8_5.ne rfl).ne rfl).ne rfl).ne rfl).ne rfl).ev) ((MeetsL.calls (c) (expandL s) (differenceL ty K B) (expandL_len s) (differenceL_len _ _ _) _ _ 0 _ kg7 (RdW.of kg8)).mono fun _ _ ⟨e, k⟩ => ⟨_, e, rfl, k⟩) ?_
  rintro _ w6 ⟨rfl, h6⟩
  have kg3_6 := h6.blk kg3_4
  have kg7_6 := h6.blk kg7
  have kg8_6 := h6.blk kg8
  refine l_q rfl (q_pick (b := true) (.bool (meetsL c (expandL s) (differenceL ty K B))) rfl (((At.hit z5.put.put.put rfl).ne rfl).ne rfl).ev (At.hit z5.put.put.put.put.put rfl).ev ?_)
  refine l_q rfl (q_assign _ _ rfl (At.hit z5.put.put.put.put.put.put rfl).ev ?_)
  refine l_end ?_
  refine e_fresh z5.put.put.put.put.put.put.put.put ?_
  intro a7 z7 m7
  have s6_7 := m7 _ _ (At.hit z5.put.put.put.put.put.put.put rfl)
  have low7 := (low5.trans h6)
  clear m7
  refine e_then ?_
  refine wp_ret ?_
  refine r_tmp rfl z7.defers s6_7 ?_
  exact ⟨by unfold markedL; rw [decide_eq_false hd]; rfl, low7⟩
theorem MarkedL_no.calls (c : Ch) (s : ByteArray) (hs : s.size ≤ 9223372036854775807) (ty K B : Int) (hd : differenceL ty K B = List.replicate 80 0) (w0 : World) : Calls Try.prog 13 #[.agg (nums .u32 (cl c)), .string s, .agg #[.int .i64 ty, .int .i64 K, .int .i64 B]] w0 fun e w' => e = .returned (.bool (markedL c s ty K B)) ∧ Low w0 w' := by
  refine c_fun (R := _) Try.func13 rfl 20 rfl (Nat.le_of_ble_eq_true rfl) ?_
  intro a z hA
  have s0 := hA 0 _ rfl
  have s1 := hA 1 _ rfl
  have s2 := hA 2 _ rfl
  clear hA
  refine c_seq ?_
  refine c_region ?_
  refine l_box rfl rfl s0.ev ?_
  intro g3 w1 hg1 k1 h1
  have geg3 := Nat.le_trans (Low.refl _).ge hg1
  refine l_box rfl rfl (s2.ne rfl).ev ?_
  intro g5 w2 hg2 k2 h2
  have lt_g3_g5 := Nat.lt_of_lt_of_le (heap_lt k1) hg2
  have geg5 := Nat.le_trans h1.ge hg2
  have kg3_2 := h2.blk k1
  refine l_q rfl (q_assign _ _ rfl rfl ?_)
  refine l_end ?_
  refine e_fresh z.put.put.put ?_
  intro a3 z3 m3
  have s1_3 := m3 _ _ (((s1.ne rfl).ne rfl).ne rfl)
  have s3_3 := m3 _ _ (((At.hit z rfl).ne rfl).ne rfl)
  have s5_3 := m3 _ _ ((At.hit z.put rfl).ne rfl)
  have low3 := (h1.trans h2)
  clear m3
  refine e_then ?_
  refine c_seq ?_
  refine region_told [.val (.string s), .val (.agg (nums .u32 (expandL s))), .val (.agg (#[.int .i64 ty, .int .i64 K, .int .i64 B])), .val (.agg (nums .u32 (differenceL ty K B))), .new (nums .u32 (List.replicate 80 0)) 32 6 (nums .u32 (expandL s)), .new (nums .u32 (List.replicate 80 0)) 32 7 (nums .u32 (differenceL ty K B)), .put 4 1, .put 5 3] hm (by kernel_rfl) rfl z3 (allO_cons ?_ (allO_cons ?_ (allO_cons ?_ (allO_cons ?_ (allO_cons (stepO_new _ rfl rfl rfl zero32) (allO_cons (stepO_new _ rfl rfl rfl zero32) (allO_cons (stepO_put rfl rfl rfl rfl rfl rfl rfl rfl (((nums_size _ _).trans (List.length_replicate)).trans ((nums_size _ _).trans (expandL_len s)).symm) (nums_one _ _) (sz32.trans (congrArg some ((nums_size _ _).trans (expandL_len s)).symm))) (allO_cons (stepO_put rfl rfl rfl rfl rfl rfl rfl rfl (((nums_size _ _).trans (List.length_replicate)).trans ((nums_size _ _).trans (differenceL_len _ _ _)).symm) (nums_one _ _) (sz32.trans (congrArg some ((nums_size _ _).trans (differenceL_len _ _ _)).symm))) allO_nil)))))))) ?_
  · exact stepO_val _ rfl rfl fun _ _ _ lw kp kn => q_move _ _ rfl (kp _ _ rfl s1_3).ev rfl
  · exact stepO_val _ rfl rfl fun _ _ _ lw kp kn => q_call (.agg (nums .u32 (expandL s))) rfl rfl Try.func15 rfl (args1 rfl (kn 0 _ _ rfl rfl rfl).ev) (fun _ h => (ExpandL.calls s hs _).mono fun _ _ ⟨e, k⟩ => ⟨e, h.trans k⟩) rfl
  · exact stepO_val _ rfl rfl fun _ _ _ lw kp kn => q_row rfl Try.underlying23 rfl (sz23.trans (congrArg some rfl.symm)) (kp _ _ rfl s5_3).ev (fun _ h => h.blk (lw.blk k2)) rfl
  · exact stepO_val _ rfl rfl fun _ _ _ lw kp kn => q_call (.agg (nums .u32 (differenceL ty K B))) rfl rfl Try.func9 rfl (args1 rfl (kn 2 _ _ rfl rfl rfl).ev) (fun _ h => (DifferenceL.calls ty K B _).mono fun _ _ ⟨e, k⟩ => ⟨e, h.trans k⟩) rfl
  intro a4 w4 G D
  have bg3_4 := (heap_lt kg3_2)
  have bg5_4 := (heap_lt k2)
  have sg7 := D.ptr 4 _ _ _ _ _ rfl rfl
  have hgg7 := D.ge 4 _ _ _ _ _ rfl rfl
  have kg7 := D.blk 4 _ _ _ _ _ rfl rfl
  have geg7 := Nat.le_trans low3.ge hgg7
  have sg8 := D.ptr 5 _ _ _ _ _ rfl rfl
  have hgg8 := D.ge 5 _ _ _ _ _ rfl rfl
  have kg8 := D.blk 5 _ _ _ _ _ rfl rfl
  have geg8 := Nat.le_trans low3.ge hgg8
  have d4_4_5 := D.ne 4 5 _ _ _ _ _ _ _ _ rfl rfl rfl
  have h4 := D.low
  have kg3_4 := h4.blk kg3_2
  have kg5_4 := h4.blk k2
  have z4 := D.fr
  have s1_4 := (D.keep _ _ rfl s1_3)
  have s3_4 := (D.keep _ _ rfl s3_3)
  have s5_4 := (D.keep _ _ rfl s5_3)
  have s9_4 := (D.val 0 _ _ rfl rfl)
  have s10_4 := (D.val 1 _ _ rfl rfl)
  have s11_4 := (D.val 2 _ _ rfl rfl)
  have s12_4 := (D.val 3 _ _ rfl rfl)
  clear D
  generalize G 4 = g7 at *
  generalize G 5 = g8 at *
  refine e_fresh z4 ?_
  intro a5 z5 m5
  have s3_5 := m5 _ _ s3_4
  have s7_5 := m5 _ _ sg7
  have s8_5 := m5 _ _ sg8
  have low5 := (low3.trans h4)
  clear m5
  refine e_then ?_
  refine c_seq ?_
  refine c_region ?_
  refine l_q rfl (q_row rfl Try.underlying32 rfl (sz32.trans (congrArg some ((nums_size _ _).trans (differenceL_len _ _ _)).symm)) s8_5.ev (fun _ e => by rw [e]; exact kg8) ?_)
  refine l_q rfl (q_zero rfl Try.underlying32 sz30 zero32 ?_)
  refine l_q rfl (q_nerow false rfl Try.eqGuardType32 Try.underlying32 Try.underlying30 info30 cells30 ((At.hit z5 rfl).ne rfl).ev (At.hit z5.put rfl).ev (differenceL_len _ _ _) (List.length_replicate) (by rw [decide_eq_true hd]; rfl) ?_)
  refine l_q rfl (q_move _ _ rfl (At.hit z5.put.put rfl).ev ?_)
  refine l_skip (wanted_is (j := 3) (d := 16) (b := false) rfl rfl (At.hit z5.put.put.put rfl) rfl) ?_
  refine l_skip (wanted_is (j := 3) (d := 16) (b := false) rfl rfl ((At.hit z5.put.put.put rfl).ne rfl) rfl) ?_
  refine l_q rfl (q_pick (b := false) (.bool false) rfl (((At.hit z5.put.put.put rfl).ne rfl).ne rfl).ev rfl ?_)
  refine l_q rfl (q_assign _ _ rfl (At.hit z5.put.put.put.put.put.put rfl).ev ?_)
  refine l_end ?_
  refine e_fresh z5.put.put.put.put.put.put.put.put ?_
  intro a6 z6 m6
  have s6_6 := m6 _ _ (At.hit z5.put.put.put.put.put.put.put rfl)
  clear m6
  refine e_then ?_
  refine wp_ret ?_
  refine r_tmp rfl z6.defers s6_6 ?_
  exact ⟨by unfold markedL; rw [decide_eq_true hd]; rfl, low5⟩
theorem MarkedL.calls (c : Ch) (s : ByteArray) (hs : s.size ≤ 9223372036854775807) (ty K B : Int) (w0 : World) : Calls Try.prog 13 #[.agg (nums .u32 (cl c)), .string s, .agg #[.int .i64 ty, .int .i64 K, .int .i64 B]] w0 fun e w' => e = .returned (.bool (markedL c s ty K B)) ∧ Low w0 w' := by
  by_cases hd : differenceL ty K B = List.replicate 80 0
  · exact MarkedL_no.calls c s hs ty K B hd w0
  · exact MarkedL_yes.calls c s hs ty K B hd w0
end Go.Proofs.Ytffhmlnklohbdaa.Q
end
/-! A5 -/
section
namespace Go.Proofs.Ytffhmlnklohbdaa.Q
open Go.Proofs.YtffhmlnklohbdaaW.PrintWords (bytesOf bytesOf_length)
open Go.RowKit Go.Proofs.Ytffhmlnklohbdaa.P
set_option linter.unusedVariables false
set_option linter.unusedSimpArgs false
set_option maxRecDepth 100000
set_option maxHeartbeats 4000000
attribute [local irreducible] wpList wpQuiet qch Code.wp Oper.quiet Act.put At Region.wanted yielded
theorem byte5 : byteB Try.prog 5 = true := by kernel_rfl
def padN (s : ByteArray) : Nat := (119 - s.size % 64) % 64
def fR1 (s : ByteArray) : Nat → List Int
  | 0 => bytesOf s ++ [128]
  | k + 1 => fR1 s k ++ [0]
theorem fR1_len (s : ByteArray) : ∀ k, (fR1 s k).length = s.size + 1 + k
  | 0 => by simp [fR1, bytesOf_length]
  | k + 1 => by rw [fR1, List.length_append, fR1_len s k]; rfl
def lenByte (s : ByteArray) (k : Nat) : Int := IntKind.u8.wrap ((IntKind.u64.wrap (IntKind.u64.wrap (s.size : Int) * 8)).fdiv (2 ^ min (IntKind.u64.wrap (8 * IntKind.u64.wrap (7 - ((k : Nat) : Int)))).toNat 64))
def fR2 (s : ByteArray) : Nat → List Int
  | 0 => fR1 s (padN s)
  | k + 1 => fR2 s k ++ [lenByte s k]
theorem fR2_len (s : ByteArray) : ∀ k, (fR2 s k).length = s.size + 1 + padN s + k
  | 0 => fR1_len s _
  | k + 1 => by rw [fR2, List.length_append, fR2_len s k]; rfl
def fillR (s : ByteArray) : ByteArray := strOfNums (fR2 s 8)
theorem padN_yes (s : ByteArray) (k : Nat) (h : k < padN s) : ((s.size + 1 + k) % 64 : Nat) ≠ 56 := by unfold padN at h; omega
theorem padN_no (s : ByteArray) : ((s.size + 1 + padN s) % 64 : Nat) = 56 := by unfold padN; omega
theorem padN_le (s : ByteArray) : padN s ≤ 63 := by unfold padN; omega
theorem FillR.calls (s : ByteArray) (hs : s.size ≤ 140737488350000) (w0 : World) : Calls Try.prog 27 #[.string s] w0 fun e w' => e = .returned (.string (fillR s)) ∧ Low w0 w' := by
  refine c_fun (R := _) Try.func27 rfl 36 rfl (Nat.le_of_ble_eq_true rfl) ?_
  intro a z hA
  have s0 := hA 0 _ rfl
  clear hA
  refine c_seq ?_
  refine c_region ?_
  refine l_q rfl (q_assign _ _ rfl rfl ?_)
  refine l_end ?_
  refine e_fresh z.put ?_
  intro a1 z1 m1
  have s0_1 := m1 _ _ (s0.ne rfl)
  clear m1
  refine e_then ?_
  refine c_seq ?_
  refine c_region ?_
  refine l_q rfl (q_move _ _ rfl s0_1.ev ?_)
  refine l_bytes (B := w0.heap.size) rfl rfl Try.underlying9 Try.underlying63 Try.underlying5 (At.hit z1 rfl).ev (Low.refl _).ge (by omega) ?_
  intro v2 w2 o2 h2
  refine l_build1 rfl rfl Try.underlying63 byte5 rfl ?_
  intro g8_3 w3 hg3 k3 h3
  have geg8_3 := Nat.le_trans h2.ge hg3
  have ob2_3 := o2.low h3
  refine l_appR (B := w0.heap.size) (ys := [128]) rfl rfl Try.underlying63 Try.underlying63 byte5 ((At.hit z1.put rfl).ne rfl).ev (At.hit z1.put.put rfl).ev k3 ob2_3 (h2.trans h3).ge (by rw [(bytesOf_length s)]; simp only [List.length_cons, List.length_nil]; omega) ?_
  intro v4 w4 o4 gr4
  have lw4 := (h2.trans h3).gr gr4
  refine l_q rfl (q_assign _ _ rfl (At.hit z1.put.put.put rfl).ev ?_)
  refine l_end ?_
  refine e_fresh z1.put.put.put.put.put ?_
  intro a5 z5 m5
  have s0_5 := m5 _ _ (((((s0_1.ne rfl).ne rfl).ne rfl).ne rfl).ne rfl)
  have s3_5 := m5 _ _ (At.hit z1.put.put.put.put rfl)
  have low5 := lw4
  clear m5
  refine e_then ?_
  refine c_seq ?_
  refine wp_block ?_
  refine c_loop (padN s) (fun k a w => ∃ v3 : Value, Fr 36 a ∧ At a 0 (.string s) ∧ At a 3 (v3) ∧ OwnB w w0.heap.size 5 v3 (fR1 s k) ∧ Low w0 w) ?_ ?_ ?_
  · exact ⟨v4, z5, s0_5, s3_5, o4, low5⟩
  · intro k a6 w6 hk6 h
    obtain ⟨v3_6, z6, s0_6, s3_6, ox3_6, low6⟩ := h
    clear low5 s0_5 s3_5 z5
    have hpl := padN_le s
    refine c_seq ?_
    refine c_seq ?_
    refine c_region ?_
    refine l_q rfl (q_move _ _ rfl s3_6.ev ?_)
    refine l_q rfl (q_lenB rfl rfl Try.underlying63 (At.hit z6 rfl).ev ox3_6 (s.size + k + 1) ((fR1_len s k).trans (by omega)) ?_)
    refine l_q rfl (q_rem (m := s.size + k + 1) (n := 64) (by omega) rfl (At.hit z6.put rfl).ev rfl ?_)
    refine l_q rfl (q_neq true rfl (At.hit z6.put.put rfl).ev rfl (decide_eq_true (by have := padN_yes s k (by assumption); omega)) ?_)
    refine l_end ?_
    refine e_fresh z6.put.put.put.put ?_
    intro a7 z7 m7
    have s0_7 := m7 _ _ ((((s0_6.ne rfl).ne rfl).ne rfl).ne rfl)
    have s3_7 := m7 _ _ ((((s3_6.ne rfl).ne rfl).ne rfl).ne rfl)
    have s13_7 := m7 _ _ (At.hit z6.put.put.put rfl)
    clear m7
    refine e_then ?_
    refine c_true s13_7 ?_
    refine wp_skip ?_
    refine e_then ?_
    refine wp_block ?_
    refine c_region ?_
    refine l_q rfl (q_move _ _ rfl s3_7.ev ?_)
    refine l_build1 rfl rfl Try.underlying63 byte5 rfl ?_
    intro g15_8 w8 hg8 k8 h8
    have geg15_8 := Nat.le_trans low6.ge hg8
    have ox3_8 := ox3_6.low h8
    refine l_appR (B := w0.heap.size) (ys := [0]) rfl rfl Try.underlying63 Try.underlying63 byte5 ((At.hit z7 rfl).ne rfl).ev (At.hit z7.put rfl).ev k8 ox3_8 (low6.trans h8).ge (by rw [(fR1_len s k)]; simp only [List.length_cons, List.length_nil]; omega) ?_
    intro v9 w9 o9 gr9
    have lw9 := (low6.trans h8).gr gr9
    refine l_q rfl (q_assign _ _ rfl (At.hit z7.put.put rfl).ev ?_)
    refine l_end ?_
    refine e_fresh z7.put.put.put.put ?_
    intro a10 z10 m10
    have s0_10 := m10 _ _ ((((s0_7.ne rfl).ne rfl).ne rfl).ne rfl)
    have s3_10 := m10 _ _ (At.hit z7.put.put.put rfl)
    have low10 := lw9
    clear m10
    refine e_in ?_
    exact ⟨v9, z10, s0_10, s3_10, o9, low10⟩
  · intro a11 w11 h
    obtain ⟨v3_11, z11, s0_11, s3_11, ox3_11, low11⟩ := h
    clear low5 s0_5 s3_5 z5
    have hpl := padN_le s
    refine c_seq ?_
    refine c_seq ?_
    refine c_region ?_
    refine l_q rfl (q_move _ _ rfl s3_11.ev ?_)
    refine l_q rfl (q_lenB rfl rfl Try.underlying63 (At.hit z11 rfl).ev ox3_11 (s.size + (padN s) + 1) ((fR1_len s (padN s)).trans (by omega)) ?_)
    refine l_q rfl (q_rem (m := s.size + (padN s) + 1) (n := 64) (by omega) rfl (At.hit z11.put rfl).ev rfl ?_)
    refine l_q rfl (q_neq false rfl (At.hit z11.put.put rfl).ev rfl (decide_eq_false (by have := padN_no s; omega)) ?_)
    refine l_end ?_
    refine e_fresh z11.put.put.put.put ?_
    intro a12 z12 m12
    have s0_12 := m12 _ _ ((((s0_11.ne rfl).ne rfl).ne rfl).ne rfl)
    have s3_12 := m12 _ _ ((((s3_11.ne rfl).ne rfl).ne rfl).ne rfl)
    have s13_12 := m12 _ _ (At.hit z11.put.put.put rfl)
    clear m12
    refine e_then ?_
    refine c_false s13_12 ?_
    refine wp_exit ?_
    refine x_then ?_
    refine x_then ?_
    refine in_exit ?_
    refine e_then ?_
    refine c_seq ?_
    refine c_region ?_
    refine l_q rfl (q_move _ _ rfl s0_12.ev ?_)
    refine l_q rfl (q_len rfl rfl Try.underlying9 (At.hit z12 rfl).ev ?_)
    refine l_q rfl (q_conv _ rfl (At.hit z12.put rfl).ev Try.underlying3 Try.underlying64 rfl ?_)
    refine l_q rfl (q_mul _ rfl (At.hit z12.put.put rfl).ev rfl rfl ?_)
    refine l_q rfl (q_assign _ _ rfl (At.hit z12.put.put.put rfl).ev ?_)
    refine l_end ?_
    refine e_fresh z12.put.put.put.put.put ?_
    intro a13 z13 m13
    have s3_13 := m13 _ _ (((((s3_12.ne rfl).ne rfl).ne rfl).ne rfl).ne rfl)
    have s4_13 := m13 _ _ (At.hit z12.put.put.put.put rfl)
    clear m13
    refine e_then ?_
    refine c_seq ?_
    refine c_seq ?_
    refine c_region ?_
    refine l_q rfl (q_assign _ _ rfl rfl ?_)
    refine l_end ?_
    refine e_fresh z13.put ?_
    intro a14 z14 m14
    have s3_14 := m14 _ _ (s3_13.ne rfl)
    have s4_14 := m14 _ _ (s4_13.ne rfl)
    have s5_14 := m14 _ _ (At.hit z13 rfl)
    clear m14
    refine e_then ?_
    refine wp_block ?_
    refine c_loop 8 (fun k a w => ∃ v3 : Value, Fr 36 a ∧ At a 3 (v3) ∧ At a 4 (.int .u64 (IntKind.u64.wrap ((IntKind.u64.wrap ((s.size : Nat) : Int)) * 8))) ∧ At a 5 (.int .i64 (7 - ((k : Nat) : Int))) ∧ OwnB w w0.heap.size 5 v3 (fR2 s k) ∧ Low w0 w) ?_ ?_ ?_
    · exact ⟨v3_11, z14, s3_14, s4_14, (s5_14.same (congrArg (Value.int .i64) (by omega))), ox3_11, low11⟩
    · intro k a15 w15 hk15 h
      obtain ⟨v3_15, z15, s3_15, s4_15, s5_15, ox3_15, low15⟩ := h
      clear low11 s3_14 s4_14 s5_14 z14
      have hpl := padN_le s
      refine c_seq ?_
      refine c_seq ?_
      refine c_region ?_
      refine l_q rfl (q_move _ _ rfl s5_15.ev ?_)
      refine l_q rfl (q_geq true rfl (At.hit z15 rfl).ev rfl (decide_eq_true (by omega)) ?_)
      refine l_end ?_
      refine e_fresh z15.put.put ?_
      intro a16 z16 m16
      have s3_16 := m16 _ _ ((s3_15.ne rfl).ne rfl)
      have s4_16 := m16 _ _ ((s4_15.ne rfl).ne rfl)
      have s5_16 := m16 _ _ ((s5_15.ne rfl).ne rfl)
      have s22_16 := m16 _ _ (At.hit z15.put rfl)
      clear m16
      refine e_then ?_
      refine c_true s22_16 ?_
      refine wp_skip ?_
      refine e_then ?_
      refine c_seq ?_
      refine wp_block ?_
      refine c_region ?_
      refine l_q rfl (q_move _ _ rfl s3_16.ev ?_)
      refine l_q rfl (q_move _ _ rfl (s4_16.ne rfl).ev ?_)
      refine l_q rfl (q_move _ _ rfl ((s5_16.ne rfl).ne rfl).ev ?_)
      refine l_q rfl (q_conv _ rfl (At.hit z16.put.put rfl).ev Try.underlying3 Try.underlying51 rfl ?_)
      refine l_q rfl (q_mul _ rfl rfl (At.hit z16.put.put.put rfl).ev rfl ?_)
      refine l_q rfl (q_shr ((IntKind.u64.wrap ((IntKind.u64.wrap ((s.size : Nat) : Int)) * 8)).fdiv (2 ^ min (IntKind.u64.wrap (8 * (IntKind.u64.wrap (7 - ((k : Nat) : Int)))) : Int).toNat 64)) rfl ((((At.hit z16.put rfl).ne rfl).ne rfl).ne rfl).ev (At.hit z16.put.put.put.put rfl).ev (by first | omega | exact u64_nonneg _) rfl ?_)
      refine l_q rfl (q_conv _ rfl (At.hit z16.put.put.put.put.put rfl).ev Try.underlying64 Try.underlying5 rfl ?_)
      refine l_build1 rfl rfl Try.underlying63 byte5 (At.hit z16.put.put.put.put.put.put rfl).ev ?_
      intro g32_17 w17 hg17 k17 h17
      have geg32_17 := Nat.le_trans low15.ge hg17
      have ox3_17 := ox3_15.low h17
      refine l_fresh z16.put.put.put.put.put.put.put.put ?_
      intro a18 z18 m18
      have s3_18 := m18 _ _ ((((((((s3_16.ne rfl).ne rfl).ne rfl).ne rfl).ne rfl).ne rfl).ne rfl).ne rfl)
      have s4_18 := m18 _ _ ((((((((s4_16.ne rfl).ne rfl).ne rfl).ne rfl).ne rfl).ne rfl).ne rfl).ne rfl)
      have s5_18 := m18 _ _ ((((((((s5_16.ne rfl).ne rfl).ne rfl).ne rfl).ne rfl).ne rfl).ne rfl).ne rfl)
      have s25_18 := m18 _ _ ((((((((At.hit z16 rfl).ne rfl).ne rfl).ne rfl).ne rfl).ne rfl).ne rfl).ne rfl)
      have s32_18 := m18 _ _ (At.hit z16.put.put.put.put.put.put.put rfl)
      clear m18
      refine l_appR (B := w0.heap.size) (ys := [IntKind.u8.wrap ((IntKind.u64.wrap ((IntKind.u64.wrap ((s.size : Nat) : Int)) * 8)).fdiv (2 ^ min (IntKind.u64.wrap (8 * (IntKind.u64.wrap (7 - ((k : Nat) : Int)))) : Int).toNat 64))]) rfl rfl Try.underlying63 Try.underlying63 byte5 s25_18.ev s32_18.ev k17 ox3_17 (low15.trans h17).ge (by rw [(fR2_len s k)]; simp only [List.length_cons, List.length_nil]; omega) ?_
      intro v19 w19 o19 gr19
      have lw19 := (low15.trans h17).gr gr19
      refine l_q rfl (q_assign _ _ rfl (At.hit z18 rfl).ev ?_)
      refine l_end ?_
      refine e_fresh z18.put.put ?_
      intro a20 z20 m20
      have s3_20 := m20 _ _ (At.hit z18.put rfl)
      have s4_20 := m20 _ _ ((s4_18.ne rfl).ne rfl)
      have s5_20 := m20 _ _ ((s5_18.ne rfl).ne rfl)
      have low20 := lw19
      clear m20
      refine e_in ?_
      refine e_then ?_
      refine c_region ?_
      refine l_q rfl (q_move _ _ rfl s5_20.ev ?_)
      refine l_q rfl (q_sub ((6 - ((k : Nat) : Int))) rfl (At.hit z20 rfl).ev rfl (i64_is (by omega) (by omega) (by omega)) ?_)
      refine l_q rfl (q_assign _ _ rfl (At.hit z20.put rfl).ev ?_)
      refine l_end ?_
      refine e_fresh z20.put.put.put ?_
      intro a21 z21 m21
      have s3_21 := m21 _ _ (((s3_20.ne rfl).ne rfl).ne rfl)
      have s4_21 := m21 _ _ (((s4_20.ne rfl).ne rfl).ne rfl)
      have s5_21 := m21 _ _ (At.hit z20.put.put rfl)
      clear m21
      exact ⟨v19, z21, s3_21, s4_21, (s5_21.same (congrArg (Value.int .i64) (by omega))), o19, low20⟩
    · intro a22 w22 h
      obtain ⟨v3_22, z22, s3_22, s4_22, s5_22, ox3_22, low22⟩ := h
      clear low11 s3_14 s4_14 s5_14 z14
      have hpl := padN_le s
      refine c_seq ?_
      refine c_seq ?_
      refine c_region ?_
      refine l_q rfl (q_move _ _ rfl s5_22.ev ?_)
      refine l_q rfl (q_geq false rfl (At.hit z22 rfl).ev rfl (decide_eq_false (by omega)) ?_)
      refine l_end ?_
      refine e_fresh z22.put.put ?_
      intro a23 z23 m23
      have s3_23 := m23 _ _ ((s3_22.ne rfl).ne rfl)
      have s4_23 := m23 _ _ ((s4_22.ne rfl).ne rfl)
      have s5_23 := m23 _ _ ((s5_22.ne rfl).ne rfl)
      have s22_23 := m23 _ _ (At.hit z22.put rfl)
      clear m23
      refine e_then ?_
      refine c_false s22_23 ?_
      refine wp_exit ?_
      refine x_then ?_
      refine x_then ?_
      refine in_exit ?_
      refine e_then ?_
      refine c_seq ?_
      refine c_region ?_
      refine l_q rfl (q_move _ _ rfl s3_23.ev ?_)
      refine l_q rfl (q_str rfl Try.underlying63 Try.underlying5 Try.underlying9 (At.hit z23 rfl).ev (fun _ e => by rw [e]; exact ox3_22) ?_)
      refine l_q rfl (q_assign _ _ rfl (At.hit z23.put rfl).ev ?_)
      refine l_end ?_
      refine e_fresh z23.put.put.put ?_
      intro a24 z24 m24
      have s2_24 := m24 _ _ (At.hit z23.put.put rfl)
      clear m24
      refine e_then ?_
      refine wp_ret ?_
      refine r_tmp rfl z24.defers s2_24 ?_
      exact ⟨rfl, low22⟩
def chOf (l : List Int) : Ch := (l.getD 0 0, l.getD 1 0, l.getD 2 0, l.getD 3 0, l.getD 4 0)
theorem cl_chOf (l : List Int) (h : l.length = 5) : cl (chOf l) = l := by
  match l, h with
  | [_, _, _, _, _], _ => rfl
def prR (c : Ch) (s : ByteArray) : Ch := chOf (pressR c s)
theorem cl_prR (c : Ch) (s : ByteArray) : cl (prR c s) = pressR c s := cl_chOf _ (addL_len (cl c) _ 5)
theorem PrR.calls (c : Ch) (s : ByteArray) (hs : s.size ≤ 9223372036854775807) (w0 : World) : Calls Try.prog 29 #[.agg (nums .u32 (cl c)), .string s] w0 fun e w' => e = .returned (.agg (nums .u32 (cl (prR c s)))) ∧ Low w0 w' := by
  rw [cl_prR]
  exact PressR.calls c s hs w0
def prL (c : Ch) (s : ByteArray) : Ch := chOf (pressL c s)
theorem cl_prL (c : Ch) (s : ByteArray) : cl (prL c s) = pressL c s := cl_chOf _ (addL_len (cl c) _ 5)
theorem PrL.calls (c : Ch) (s : ByteArray) (hs : s.size ≤ 9223372036854775807) (w0 : World) : Calls Try.prog 18 #[.agg (nums .u32 (cl c)), .string s] w0 fun e w' => e = .returned (.agg (nums .u32 (cl (prL c s)))) ∧ Low w0 w' := by
  rw [cl_prL]
  exact PressL.calls c s hs w0
theorem fillR_size (s : ByteArray) : (fillR s).size = s.size + 1 + padN s + 8 := by rw [fillR, strOfNums_size, fR2_len]
theorem fillR_mod (s : ByteArray) : (fillR s).size % 64 = 0 := by rw [fillR_size]; unfold padN; omega
def chR (s : ByteArray) : Nat → Ch
  | 0 => first
  | k + 1 => prR (chR s k) ((fillR s).extract (64 * k) (64 * k + 64))
def chainR (s : ByteArray) : Ch := chR s ((fillR s).size / 64)
def outR (x : Ch) : Nat → List Int
  | 0 => []
  | k + 1 => outR x k ++ [IntKind.u8.wrap (((cl x).getD k 0).fdiv (2 ^ min (24 : Int).toNat 32)), IntKind.u8.wrap (((cl x).getD k 0).fdiv (2 ^ min (16 : Int).toNat 32)), IntKind.u8.wrap (((cl x).getD k 0).fdiv (2 ^ min (8 : Int).toNat 32)), IntKind.u8.wrap ((cl x).getD k 0)]
theorem outR_len (x : Ch) : ∀ k, (outR x k).length = 4 * k
  | 0 => rfl
  | k + 1 => by rw [outR, List.length_append, outR_len x k]; simp only [List.length_cons, List.length_nil]; omega
def sumR (s : ByteArray) : ByteArray := strOfNums (outR (chainR s) 5)
theorem SumR.calls (s : ByteArray) (hs : s.size ≤ 140737488350000) (w0 : World) : Calls Try.prog 19 #[.string s] w0 fun e w' => e = .returned (.string (sumR s)) ∧ Low w0 w' := by
  refine c_fun (R := _) Try.func19 rfl 52 rfl (Nat.le_of_ble_eq_true rfl) ?_
  intro a z hA
  have s0 := hA 0 _ rfl
  clear hA
  refine c_seq ?_
  refine c_region ?_
  refine l_q rfl (q_assign _ _ rfl rfl ?_)
  refine l_end ?_
  refine e_fresh z.put ?_
  intro a1 z1 m1
  have s0_1 := m1 _ _ (s0.ne rfl)
  clear m1
  refine e_then ?_
  refine c_seq ?_
  refine c_region ?_
  refine l_q rfl (q_move _ _ rfl s0_1.ev ?_)
  refine l_call (fun v w' => v = .string (fillR s) ∧ Low w0 w') rfl rfl rfl Try.func27 rfl (args1 rfl (At.hit z1 rfl).ev) ((FillR.calls s hs _).mono fun _ _ ⟨e, k⟩ => ⟨_, e, rfl, k⟩) ?_
  rintro _ w2 ⟨rfl, h2⟩
  refine l_q rfl (q_assign _ _ rfl (At.hit z1.put rfl).ev ?_)
  refine l_end ?_
  refine e_fresh z1.put.put.put ?_
  intro a3 z3 m3
  have s3_3 := m3 _ _ (At.hit z1.put.put rfl)
  have low3 := h2
  clear m3
  refine e_then ?_
  refine c_seq ?_
  refine c_region ?_
  refine l_call (fun v w' => v = .agg (nums .u32 (cl first)) ∧ Low w2 w') rfl rfl rfl Try.func28 rfl (show Array.map _ _ = (#[] : Array Value) from by simp) ((FirstR.calls _).mono fun _ _ ⟨e, k⟩ => ⟨_, e, rfl, k⟩) ?_
  rintro _ w4 ⟨rfl, h4⟩
  refine l_alloc rfl rfl zero36 ?_
  intro g4 w5 hg5 k5 h5
  have geg4 := Nat.le_trans (low3.trans h4).ge hg5
  refine l_row rfl rfl rfl (sz36.trans (congrArg some ((nums_size _ _).trans (cl_len first)).symm)) (At.hit z3.put rfl).ev ((At.hit z3 rfl).ne rfl).ev (nums_one _ _) k5 (((nums_size _ _).trans (List.length_replicate)).trans ((nums_size _ _).trans (cl_len first)).symm) ?_
  intro w6 k6 u6
  refine l_end ?_
  refine e_fresh z3.put.put ?_
  intro a7 z7 m7
  have s3_7 := m7 _ _ ((s3_3.ne rfl).ne rfl)
  have s4_7 := m7 _ _ (At.hit z3.put rfl)
  have low7 := (((low3.trans h4).trans h5).upd u6 geg4)
  clear m7
  refine e_then ?_
  refine c_seq ?_
  refine c_seq ?_
  refine c_region ?_
  refine l_q rfl (q_assign _ _ rfl rfl ?_)
  refine l_end ?_
  refine e_fresh z7.put ?_
  intro a8 z8 m8
  have s3_8 := m8 _ _ (s3_7.ne rfl)
  have s4_8 := m8 _ _ (s4_7.ne rfl)
  have s5_8 := m8 _ _ (At.hit z7 rfl)
  clear m8
  refine e_then ?_
  refine wp_block ?_
  refine c_loop ((fillR s).size / 64) (fun k a w => Fr 52 a ∧ At a 3 (.string (fillR s)) ∧ At a 4 (.pointer (some ⟨g4, 0, none⟩)) ∧ At a 5 (.int .i64 ((64 * k : Nat) : Int)) ∧ w.heap[g4]? = some (.cells (nums .u32 (cl (chR s k))) 36) ∧ Low w0 w) ?_ ?_ ?_
  · exact ⟨z8, s3_8, s4_8, (s5_8.same (congrArg (Value.int .i64) (by omega))), k6, low7⟩
  · intro k a9 w9 hk9 h
    obtain ⟨z9, s3_9, s4_9, s5_9, kg4_9, low9⟩ := h
    clear k6 low7 s3_8 s4_8 s5_8 z8
    have hfm := fillR_mod s
    have hfs := fillR_size s
    have hpl := padN_le s
    refine c_seq ?_
    refine c_seq ?_
    refine c_region ?_
    refine l_q rfl (q_move _ _ rfl s5_9.ev ?_)
    refine l_q rfl (q_move _ _ rfl (s3_9.ne rfl).ev ?_)
    refine l_q rfl (q_len rfl rfl Try.underlying9 (At.hit z9.put rfl).ev ?_)
    refine l_q rfl (q_lss true rfl (((At.hit z9 rfl).ne rfl).ne rfl).ev (At.hit z9.put.put rfl).ev (decide_eq_true (by omega)) ?_)
    refine l_end ?_
    refine e_fresh z9.put.put.put.put ?_
    intro a10 z10 m10
    have s3_10 := m10 _ _ ((((s3_9.ne rfl).ne rfl).ne rfl).ne rfl)
    have s4_10 := m10 _ _ ((((s4_9.ne rfl).ne rfl).ne rfl).ne rfl)
    have s5_10 := m10 _ _ ((((s5_9.ne rfl).ne rfl).ne rfl).ne rfl)
    have s14_10 := m10 _ _ (At.hit z9.put.put.put rfl)
    clear m10
    refine e_then ?_
    refine c_true s14_10 ?_
    refine wp_skip ?_
    refine e_then ?_
    refine c_seq ?_
    refine wp_block ?_
    refine region_low_tail 7 hm (by kernel_rfl) ?_
    simp only [List.take_succ_cons, List.take_zero, List.drop_succ_cons, List.drop_zero]
    refine qs (q_row rfl Try.underlying36 rfl (sz36.trans (congrArg some ((nums_size _ _).trans (cl_len (chR s k))).symm)) s4_10.ev (fun _ h => h.blk kg4_9) ?_)
    refine qs (q_move _ _ rfl (s3_10.ne rfl).ev ?_)
    refine qs (q_move _ _ rfl ((s5_10.ne rfl).ne rfl).ev ?_)
    refine qs (q_move _ _ rfl (((s5_10.ne rfl).ne rfl).ne rfl).ev ?_)
    refine qs (q_add (((64 * k + 64 : Nat) : Int)) rfl (At.hit z10.put.put.put rfl).ev rfl (i64_is (by omega) (by omega) (by omega)) ?_)
    refine qs (q_cut (j := 64 * k) (k := 64 * k + 64) rfl Try.underlying9 ((((At.hit z10.put rfl).ne rfl).ne rfl).ne rfl).ev (((At.hit z10.put.put rfl).ne rfl).ne rfl).ev (At.hit z10.put.put.put.put rfl).ev (by omega) (by omega) ?_)
    refine qs (q_call (.agg (nums .u32 (cl (prR (chR s k) ((fillR s).extract (64 * k) (64 * k + 64)))))) rfl rfl Try.func29 rfl (args2 rfl ((((((At.hit z10 rfl).ne rfl).ne rfl).ne rfl).ne rfl).ne rfl).ev (At.hit z10.put.put.put.put.put rfl).ev) (fun _ h => (PrR.calls (chR s k) ((fillR s).extract (64 * k) (64 * k + 64)) (by first | omega | (simp only [ByteArray.size_extract]; omega)) _).mono fun _ _ ⟨e, k⟩ => ⟨e, h.trans k⟩) ?_)
    refine qz ?_
    intro w11 h11
    have kg4_11 := h11.blk kg4_9
    refine l_row rfl rfl rfl (sz36.trans (congrArg some ((nums_size _ _).trans (cl_len (prR (chR s k) ((fillR s).extract (64 * k) (64 * k + 64))))).symm)) (((((((s4_10.ne rfl).ne rfl).ne rfl).ne rfl).ne rfl).ne rfl).ne rfl).ev (At.hit z10.put.put.put.put.put.put rfl).ev (nums_one _ _) kg4_11 (((nums_size _ _).trans (cl_len (chR s k))).trans ((nums_size _ _).trans (cl_len (prR (chR s k) ((fillR s).extract (64 * k) (64 * k + 64))))).symm) ?_
    intro w12 k12 u12
    refine l_end ?_
    refine e_fresh z10.put.put.put.put.put.put.put ?_
    intro a13 z13 m13
    have s3_13 := m13 _ _ (((((((s3_10.ne rfl).ne rfl).ne rfl).ne rfl).ne rfl).ne rfl).ne rfl)
    have s4_13 := m13 _ _ (((((((s4_10.ne rfl).ne rfl).ne rfl).ne rfl).ne rfl).ne rfl).ne rfl)
    have s5_13 := m13 _ _ (((((((s5_10.ne rfl).ne rfl).ne rfl).ne rfl).ne rfl).ne rfl).ne rfl)
    have low13 := ((low9.trans h11).upd u12 geg4)
    clear m13
    refine e_in ?_
    refine e_then ?_
    refine c_region ?_
    refine l_q rfl (q_move _ _ rfl s5_13.ev ?_)
    refine l_q rfl (q_add (((64 * k + 64 : Nat) : Int)) rfl (At.hit z13 rfl).ev rfl (i64_is (by omega) (by omega) (by omega)) ?_)
    refine l_q rfl (q_assign _ _ rfl (At.hit z13.put rfl).ev ?_)
    refine l_end ?_
    refine e_fresh z13.put.put.put ?_
    intro a14 z14 m14
    have s3_14 := m14 _ _ (((s3_13.ne rfl).ne rfl).ne rfl)
    have s4_14 := m14 _ _ (((s4_13.ne rfl).ne rfl).ne rfl)
    have s5_14 := m14 _ _ (At.hit z13.put.put rfl)
    clear m14
    exact ⟨z14, s3_14, s4_14, (s5_14.same (congrArg (Value.int .i64) (by omega))), k12, low13⟩
  · intro a15 w15 h
    obtain ⟨z15, s3_15, s4_15, s5_15, kg4_15, low15⟩ := h
    clear k6 low7 s3_8 s4_8 s5_8 z8
    have hfm := fillR_mod s
    have hfs := fillR_size s
    have hpl := padN_le s
    refine c_seq ?_
    refine c_seq ?_
    refine c_region ?_
    refine l_q rfl (q_move _ _ rfl s5_15.ev ?_)
    refine l_q rfl (q_move _ _ rfl (s3_15.ne rfl).ev ?_)
    refine l_q rfl (q_len rfl rfl Try.underlying9 (At.hit z15.put rfl).ev ?_)
    refine l_q rfl (q_lss false rfl (((At.hit z15 rfl).ne rfl).ne rfl).ev (At.hit z15.put.put rfl).ev (decide_eq_false (by omega)) ?_)
    refine l_end ?_
    refine e_fresh z15.put.put.put.put ?_
    intro a16 z16 m16
    have s3_16 := m16 _ _ ((((s3_15.ne rfl).ne rfl).ne rfl).ne rfl)
    have s4_16 := m16 _ _ ((((s4_15.ne rfl).ne rfl).ne rfl).ne rfl)
    have s5_16 := m16 _ _ ((((s5_15.ne rfl).ne rfl).ne rfl).ne rfl)
    have s14_16 := m16 _ _ (At.hit z15.put.put.put rfl)
    clear m16
    refine e_then ?_
    refine c_false s14_16 ?_
    refine wp_exit ?_
    refine x_then ?_
    refine x_then ?_
    refine in_exit ?_
    refine e_then ?_
    refine c_seq ?_
    refine c_region ?_
    refine l_q rfl (q_assign _ _ rfl rfl ?_)
    refine l_end ?_
    refine e_fresh z16.put ?_
    intro a17 z17 m17
    have s4_17 := m17 _ _ (s4_16.ne rfl)
    have s6_17 := m17 _ _ (At.hit z16 rfl)
    clear m17
    refine e_then ?_
    refine c_seq ?_
    refine c_seq ?_
    refine c_region ?_
    refine l_q rfl (q_assign _ _ rfl rfl ?_)
    refine l_end ?_
    refine e_fresh z17.put ?_
    intro a18 z18 m18
    have s4_18 := m18 _ _ (s4_17.ne rfl)
    have s6_18 := m18 _ _ (s6_17.ne rfl)
    have s7_18 := m18 _ _ (At.hit z17 rfl)
    clear m18
    refine e_then ?_
    refine wp_block ?_
    refine c_loop 5 (fun k a w => ∃ v6 : Value, Fr 52 a ∧ At a 4 (.pointer (some ⟨g4, 0, none⟩)) ∧ At a 6 (v6) ∧ At a 7 (.int .i64 ((k : Nat) : Int)) ∧ w.heap[g4]? = some (.cells (nums .u32 (cl (chR s ((fillR s).size / 64)))) 36) ∧ OwnB w w0.heap.size 5 v6 (outR (chainR s) k) ∧ Low w0 w) ?_ ?_ ?_
    · exact ⟨.slice none 0 0, z18, s4_18, s6_18, s7_18, kg4_15, (OwnB.nil _ _ _), low15⟩
    · intro k a19 w19 hk19 h
      obtain ⟨v6_19, z19, s4_19, s6_19, s7_19, kg4_19, ox6_19, low19⟩ := h
      clear kg4_15 low15 s4_18 s6_18 s7_18 z18
      refine c_seq ?_
      refine c_seq ?_
      refine c_region ?_
      refine l_q rfl (q_move _ _ rfl s7_19.ev ?_)
      refine l_q rfl (q_lss true rfl (At.hit z19 rfl).ev rfl (decide_eq_true (by omega)) ?_)
      refine l_end ?_
      refine e_fresh z19.put.put ?_
      intro a20 z20 m20
      have s4_20 := m20 _ _ ((s4_19.ne rfl).ne rfl)
      have s6_20 := m20 _ _ ((s6_19.ne rfl).ne rfl)
      have s7_20 := m20 _ _ ((s7_19.ne rfl).ne rfl)
      have s25_20 := m20 _ _ (At.hit z19.put rfl)
      clear m20
      refine e_then ?_
      refine c_true s25_20 ?_
      refine wp_skip ?_
      refine e_then ?_
      refine c_seq ?_
      refine wp_block ?_
      refine region_some_tail 21 (TB [v6_19, .int .i64 ((k : Nat) : Int), .pointer (some ⟨g4, k, none⟩), .int .u32 ((cl (chR s ((fillR s).size / 64))).getD k 0), .int .u32 (((cl (chR s ((fillR s).size / 64))).getD k 0).fdiv (2 ^ min (24 : Int).toNat 32)), .int .u8 (IntKind.u8.wrap (((cl (chR s ((fillR s).size / 64))).getD k 0).fdiv (2 ^ min (24 : Int).toNat 32))), .int .i64 ((k : Nat) : Int), .pointer (some ⟨g4, k, none⟩), .int .u32 ((cl (chR s ((fillR s).size / 64))).getD k 0), .int .u32 (((cl (chR s ((fillR s).size / 64))).getD k 0).fdiv (2 ^ min (16 : Int).toNat 32)), .int .u8 (IntKind.u8.wrap (((cl (chR s ((fillR s).size / 64))).getD k 0).fdiv (2 ^ min (16 : Int).toNat 32))), .int .i64 ((k : Nat) : Int), .pointer (some ⟨g4, k, none⟩), .int .u32 ((cl (chR s ((fillR s).size / 64))).getD k 0), .int .u32 (((cl (chR s ((fillR s).size / 64))).getD k 0).fdiv (2 ^ min (8 : Int).toNat 32)), .int .u8 (IntKind.u8.wrap (((cl (chR s ((fillR s).size / 64))).getD k 0).fdiv (2 ^ min (8 : Int).toNat 32))), .int .i64 ((k : Nat) : Int), .pointer (some ⟨g4, k, none⟩), .int .u32 ((cl (chR s ((fillR s).size / 64))).getD k 0), .int .u8 (IntKind.u8.wrap ((cl (chR s ((fillR s).size / 64))).getD k 0)), undef] 20 [IntKind.u8.wrap (((cl (chR s ((fillR s).size / 64))).getD k 0).fdiv (2 ^ min (24 : Int).toNat 32)), IntKind.u8.wrap (((cl (chR s ((fillR s).size / 64))).getD k 0).fdiv (2 ^ min (16 : Int).toNat 32)), IntKind.u8.wrap (((cl (chR s ((fillR s).size / 64))).getD k 0).fdiv (2 ^ min (8 : Int).toNat 32)), IntKind.u8.wrap ((cl (chR s ((fillR s).size / 64))).getD k 0)] 5 w19) Low hm (by kernel_rfl) z20 (low_drawn _) (fun _ _ _ h k => Low.trans h k) TB_stable (allS_cons ?_ (allS_cons ?_ (allS_cons ?_ (allS_cons ?_ (allS_cons ?_ (allS_cons ?_ (allS_cons ?_ (allS_cons ?_ (allS_cons ?_ (allS_cons ?_ (allS_cons ?_ (allS_cons ?_ (allS_cons ?_ (allS_cons ?_ (allS_cons ?_ (allS_cons ?_ (allS_cons ?_ (allS_cons ?_ (allS_cons ?_ (allS_cons ?_ (allS_cons ?_ allS_nil))))))))))))))))))))) ?_
      · exact (stepS_val (v6_19) _ rfl rfl rfl Low.refl (fun _ => TB_val rfl rfl) fun _ _ _ lw kp kn => q_move _ _ rfl (kp _ _ rfl s6_20).ev rfl)
      · exact (stepS_val (.int .i64 ((k : Nat) : Int)) _ rfl rfl rfl Low.refl (fun _ => TB_val rfl rfl) fun _ _ _ lw kp kn => q_move _ _ rfl (kp _ _ rfl s7_20).ev rfl)
      · exact (stepS_val (.pointer (some ⟨g4, k, none⟩)) _ rfl rfl rfl Low.refl (fun _ => TB_val rfl rfl) fun _ _ _ lw kp kn => q_idx (j := k) rfl Try.underlying36 sz30 (kp _ _ rfl s4_20).ev (TB_at (kn 1 _ rfl rfl) rfl rfl).ev (by omega) rfl)
      · exact (stepS_val (.int .u32 ((cl (chR s ((fillR s).size / 64))).getD k 0)) _ rfl rfl rfl Low.refl (fun _ => TB_val rfl rfl) fun _ _ _ lw kp kn => q_cell (.int .u32 ((cl (chR s ((fillR s).size / 64))).getD k 0)) rfl Try.underlying30 (TB_at (kn 2 _ rfl rfl) rfl rfl).ev (fun _ e => by rw [e]; exact nums_cell (lw.blk kg4_19) k (by rw [(cl_len (chR s ((fillR s).size / 64)))]; omega)) rfl)
      · exact (stepS_val (.int .u32 (((cl (chR s ((fillR s).size / 64))).getD k 0).fdiv (2 ^ min (24 : Int).toNat 32))) _ rfl rfl rfl Low.refl (fun _ => TB_val rfl rfl) fun _ _ _ lw kp kn => q_shr (((cl (chR s ((fillR s).size / 64))).getD k 0).fdiv (2 ^ min (24 : Int).toNat 32)) rfl (TB_at (kn 3 _ rfl rfl) rfl rfl).ev rfl (by first | omega | exact u64_nonneg _) rfl rfl)
      · exact (stepS_val (.int .u8 (IntKind.u8.wrap (((cl (chR s ((fillR s).size / 64))).getD k 0).fdiv (2 ^ min (24 : Int).toNat 32)))) _ rfl rfl rfl Low.refl (fun _ => TB_val rfl rfl) fun _ _ _ lw kp kn => q_conv _ rfl (TB_at (kn 4 _ rfl rfl) rfl rfl).ev Try.underlying30 Try.underlying5 rfl rfl)
      · exact (stepS_val (.int .i64 ((k : Nat) : Int)) _ rfl rfl rfl Low.refl (fun _ => TB_val rfl rfl) fun _ _ _ lw kp kn => q_move _ _ rfl (kp _ _ rfl s7_20).ev rfl)
      · exact (stepS_val (.pointer (some ⟨g4, k, none⟩)) _ rfl rfl rfl Low.refl (fun _ => TB_val rfl rfl) fun _ _ _ lw kp kn => q_idx (j := k) rfl Try.underlying36 sz30 (kp _ _ rfl s4_20).ev (TB_at (kn 6 _ rfl rfl) rfl rfl).ev (by omega) rfl)
      · exact (stepS_val (.int .u32 ((cl (chR s ((fillR s).size / 64))).getD k 0)) _ rfl rfl rfl Low.refl (fun _ => TB_val rfl rfl) fun _ _ _ lw kp kn => q_cell (.int .u32 ((cl (chR s ((fillR s).size / 64))).getD k 0)) rfl Try.underlying30 (TB_at (kn 7 _ rfl rfl) rfl rfl).ev (fun _ e => by rw [e]; exact nums_cell (lw.blk kg4_19) k (by rw [(cl_len (chR s ((fillR s).size / 64)))]; omega)) rfl)
      · exact (stepS_val (.int .u32 (((cl (chR s ((fillR s).size / 64))).getD k 0).fdiv (2 ^ min (16 : Int).toNat 32))) _ rfl rfl rfl Low.refl (fun _ => TB_val rfl rfl) fun _ _ _ lw kp kn => q_shr (((cl (chR s ((fillR s).size / 64))).getD k 0).fdiv (2 ^ min (16 : Int).toNat 32)) rfl (TB_at (kn 8 _ rfl rfl) rfl rfl).ev rfl (by first | omega | exact u64_nonneg _) rfl rfl)
      · exact (stepS_val (.int .u8 (IntKind.u8.wrap (((cl (chR s ((fillR s).size / 64))).getD k 0).fdiv (2 ^ min (16 : Int).toNat 32)))) _ rfl rfl rfl Low.refl (fun _ => TB_val rfl rfl) fun _ _ _ lw kp kn => q_conv _ rfl (TB_at (kn 9 _ rfl rfl) rfl rfl).ev Try.underlying30 Try.underlying5 rfl rfl)
      · exact (stepS_val (.int .i64 ((k : Nat) : Int)) _ rfl rfl rfl Low.refl (fun _ => TB_val rfl rfl) fun _ _ _ lw kp kn => q_move _ _ rfl (kp _ _ rfl s7_20).ev rfl)
      · exact (stepS_val (.pointer (some ⟨g4, k, none⟩)) _ rfl rfl rfl Low.refl (fun _ => TB_val rfl rfl) fun _ _ _ lw kp kn => q_idx (j := k) rfl Try.underlying36 sz30 (kp _ _ rfl s4_20).ev (TB_at (kn 11 _ rfl rfl) rfl rfl).ev (by omega) rfl)
      · exact (stepS_val (.int .u32 ((cl (chR s ((fillR s).size / 64))).getD k 0)) _ rfl rfl rfl Low.refl (fun _ => TB_val rfl rfl) fun _ _ _ lw kp kn => q_cell (.int .u32 ((cl (chR s ((fillR s).size / 64))).getD k 0)) rfl Try.underlying30 (TB_at (kn 12 _ rfl rfl) rfl rfl).ev (fun _ e => by rw [e]; exact nums_cell (lw.blk kg4_19) k (by rw [(cl_len (chR s ((fillR s).size / 64)))]; omega)) rfl)
      · exact (stepS_val (.int .u32 (((cl (chR s ((fillR s).size / 64))).getD k 0).fdiv (2 ^ min (8 : Int).toNat 32))) _ rfl rfl rfl Low.refl (fun _ => TB_val rfl rfl) fun _ _ _ lw kp kn => q_shr (((cl (chR s ((fillR s).size / 64))).getD k 0).fdiv (2 ^ min (8 : Int).toNat 32)) rfl (TB_at (kn 13 _ rfl rfl) rfl rfl).ev rfl (by first | omega | exact u64_nonneg _) rfl rfl)
      · exact (stepS_val (.int .u8 (IntKind.u8.wrap (((cl (chR s ((fillR s).size / 64))).getD k 0).fdiv (2 ^ min (8 : Int).toNat 32)))) _ rfl rfl rfl Low.refl (fun _ => TB_val rfl rfl) fun _ _ _ lw kp kn => q_conv _ rfl (TB_at (kn 14 _ rfl rfl) rfl rfl).ev Try.underlying30 Try.underlying5 rfl rfl)
      · exact (stepS_val (.int .i64 ((k : Nat) : Int)) _ rfl rfl rfl Low.refl (fun _ => TB_val rfl rfl) fun _ _ _ lw kp kn => q_move _ _ rfl (kp _ _ rfl s7_20).ev rfl)
      · exact (stepS_val (.pointer (some ⟨g4, k, none⟩)) _ rfl rfl rfl Low.refl (fun _ => TB_val rfl rfl) fun _ _ _ lw kp kn => q_idx (j := k) rfl Try.underlying36 sz30 (kp _ _ rfl s4_20).ev (TB_at (kn 16 _ rfl rfl) rfl rfl).ev (by omega) rfl)
      · exact (stepS_val (.int .u32 ((cl (chR s ((fillR s).size / 64))).getD k 0)) _ rfl rfl rfl Low.refl (fun _ => TB_val rfl rfl) fun _ _ _ lw kp kn => q_cell (.int .u32 ((cl (chR s ((fillR s).size / 64))).getD k 0)) rfl Try.underlying30 (TB_at (kn 17 _ rfl rfl) rfl rfl).ev (fun _ e => by rw [e]; exact nums_cell (lw.blk kg4_19) k (by rw [(cl_len (chR s ((fillR s).size / 64)))]; omega)) rfl)
      · exact (stepS_val (.int .u8 (IntKind.u8.wrap ((cl (chR s ((fillR s).size / 64))).getD k 0))) _ rfl rfl rfl Low.refl (fun _ => TB_val rfl rfl) fun _ _ _ lw kp kn => q_conv _ rfl (TB_at (kn 18 _ rfl rfl) rfl rfl).ev Try.underlying30 Try.underlying5 rfl rfl)
      · exact (stepS _ rfl rfl fun _ _ _ lw kp kn => l_build4 rfl rfl Try.underlying63 byte5 (TB_at (kn 5 _ rfl rfl) rfl rfl).ev (TB_at (kn 10 _ rfl rfl) rfl rfl).ev (TB_at (kn 15 _ rfl rfl) rfl rfl).ev (TB_at (kn 19 _ rfl rfl) rfl rfl).ev (fun _ _ hg k h => l_end ⟨_, rfl, h, TB_new rfl (Nat.le_trans lw.ge hg) k⟩))
      intro a21 w21 z21 h21 kp kn
      have s4_21 := kp _ _ rfl s4_20
      have s6_21 := kp _ _ rfl s6_20
      have s7_21 := kp _ _ rfl s7_20
      have s25_21 := kp _ _ rfl s25_20
      have s28_21 := TB_at (kn 0 _ rfl) rfl rfl
      obtain ⟨g48_21, s48_21, hg21, k21⟩ := TB_blk (kn 20 _ rfl) rfl
      clear kp kn
      have lt_g4_g48_21 := Nat.lt_of_lt_of_le (heap_lt kg4_19) hg21
      have geg48_21 := Nat.le_trans low19.ge hg21
      have kg4_21 := h21.blk kg4_19
      have ox6_21 := ox6_19.low h21
      simp only [List.drop_succ_cons, List.drop_zero]
      refine l_appR (B := w0.heap.size) (ys := [IntKind.u8.wrap (((cl (chR s ((fillR s).size / 64))).getD k 0).fdiv (2 ^ min (24 : Int).toNat 32)), IntKind.u8.wrap (((cl (chR s ((fillR s).size / 64))).getD k 0).fdiv (2 ^ min (16 : Int).toNat 32)), IntKind.u8.wrap (((cl (chR s ((fillR s).size / 64))).getD k 0).fdiv (2 ^ min (8 : Int).toNat 32)), IntKind.u8.wrap ((cl (chR s ((fillR s).size / 64))).getD k 0)]) rfl rfl Try.underlying63 Try.underlying63 byte5 s28_21.ev s48_21.ev k21 ox6_21 (low19.trans h21).ge (by rw [(outR_len _ k)]; simp only [List.length_cons, List.length_nil]; omega) ?_
      intro v22 w22 o22 gr22
      have kg4_22 := gr22.blk kg4_21 rfl
      have lw22 := (low19.trans h21).gr gr22
      refine l_q rfl (q_assign _ _ rfl (At.hit z21 rfl).ev ?_)
      refine l_end ?_
      refine e_fresh z21.put.put ?_
      intro a23 z23 m23
      have s4_23 := m23 _ _ ((s4_21.ne rfl).ne rfl)
      have s6_23 := m23 _ _ (At.hit z21.put rfl)
      have s7_23 := m23 _ _ ((s7_21.ne rfl).ne rfl)
      have low23 := lw22
      clear m23
      refine e_in ?_
      refine e_then ?_
      refine c_region ?_
      refine l_q rfl (q_move _ _ rfl s7_23.ev ?_)
      refine l_q rfl (q_add (((k + 1 : Nat) : Int)) rfl (At.hit z23 rfl).ev rfl (i64_is (by omega) (by omega) (by omega)) ?_)
      refine l_q rfl (q_assign _ _ rfl (At.hit z23.put rfl).ev ?_)
      refine l_end ?_
      refine e_fresh z23.put.put.put ?_
      intro a24 z24 m24
      have s4_24 := m24 _ _ (((s4_23.ne rfl).ne rfl).ne rfl)
      have s6_24 := m24 _ _ (((s6_23.ne rfl).ne rfl).ne rfl)
      have s7_24 := m24 _ _ (At.hit z23.put.put rfl)
      clear m24
      exact ⟨v22, z24, s4_24, s6_24, s7_24, kg4_22, o22, low23⟩
    · intro a25 w25 h
      obtain ⟨v6_25, z25, s4_25, s6_25, s7_25, kg4_25, ox6_25, low25⟩ := h
      clear kg4_15 low15 s4_18 s6_18 s7_18 z18
      refine c_seq ?_
      refine c_seq ?_
      refine c_region ?_
      refine l_q rfl (q_move _ _ rfl s7_25.ev ?_)
      refine l_q rfl (q_lss false rfl (At.hit z25 rfl).ev rfl (decide_eq_false (by omega)) ?_)
      refine l_end ?_
      refine e_fresh z25.put.put ?_
      intro a26 z26 m26
      have s4_26 := m26 _ _ ((s4_25.ne rfl).ne rfl)
      have s6_26 := m26 _ _ ((s6_25.ne rfl).ne rfl)
      have s7_26 := m26 _ _ ((s7_25.ne rfl).ne rfl)
      have s25_26 := m26 _ _ (At.hit z25.put rfl)
      clear m26
      refine e_then ?_
      refine c_false s25_26 ?_
      refine wp_exit ?_
      refine x_then ?_
      refine x_then ?_
      refine in_exit ?_
      refine e_then ?_
      refine c_seq ?_
      refine c_region ?_
      refine l_q rfl (q_move _ _ rfl s6_26.ev ?_)
      refine l_q rfl (q_str rfl Try.underlying63 Try.underlying5 Try.underlying9 (At.hit z26 rfl).ev (fun _ e => by rw [e]; exact ox6_25) ?_)
      refine l_q rfl (q_assign _ _ rfl (At.hit z26.put rfl).ev ?_)
      refine l_end ?_
      refine e_fresh z26.put.put.put ?_
      intro a27 z27 m27
      have s2_27 := m27 _ _ (At.hit z26.put.put rfl)
      clear m27
      refine e_then ?_
      refine wp_ret ?_
      refine r_tmp rfl z27.defers s2_27 ?_
      exact ⟨rfl, low25⟩
end Go.Proofs.Ytffhmlnklohbdaa.Q
end
/-! Shelf -/
section
namespace Go.Proofs
open Go.Shelf
def Try.lays105_ren : Go.Shelf.Ren := ⟨fun | 105 => 34 | 212 => 40 | 99 => 41 | 165 => 42 | 166 => 43 | 170 => 44 | 169 => 45 | 263 => 47 | 264 => 48 | 206 => 49 | 240 => 50 | 241 => 51 | 276 => 52 | 277 => 53 | n => n, fun | 9 => 9 | 3 => 3 | 4 => 4 | 20 => 20 | 0 => 0 | 46 => 51 | 109 => 72 | 5 => 5 | 72 => 77 | 76 => 81 | 51 => 30 | 146 => 86 | 53 => 64 | 148 => 88 | 70 => 75 | 37 => 63 | 75 => 80 | 127 => 90 | 164 => 91 | 80 => 71 | n => n, fun | n => n⟩
theorem Try.lays105 : Go.Proofs.Lays.n105 Try.prog Try.lays105_ren := {
  mixed := by kernel_rfl
  f99 := Try.func41.trans (congrArg some (by kernel_rfl))
  f105 := Try.func34.trans (congrArg some (by kernel_rfl))
  f165 := Try.func42.trans (congrArg some (by kernel_rfl))
  f166 := Try.func43.trans (congrArg some (by kernel_rfl))
  f169 := Try.func45.trans (congrArg some (by kernel_rfl))
  f170 := Try.func44.trans (congrArg some (by kernel_rfl))
  f206 := Try.func49.trans (congrArg some (by kernel_rfl))
  f212 := Try.func40.trans (congrArg some (by kernel_rfl))
  f240 := Try.func50.trans (congrArg some (by kernel_rfl))
  f241 := Try.func51.trans (congrArg some (by kernel_rfl))
  f263 := Try.func47.trans (congrArg some (by kernel_rfl))
  f264 := Try.func48.trans (congrArg some (by kernel_rfl))
  f276 := Try.func52.trans (congrArg some (by kernel_rfl))
  f277 := Try.func53.trans (congrArg some (by kernel_rfl))
  t0 := Try.underlying0
  a0 := Try.isAgg0
  z0 := Try.sizeOf0
  v0 := Try.zeroValue0
  t3 := Try.underlying3
  a3 := Try.isAgg3
  z3 := Try.sizeOf3
  v3 := Try.zeroValue3
  t4 := Try.underlying4
  a4 := Try.isAgg4
  z4 := Try.sizeOf4
  v4 := Try.zeroValue4
  t5 := Try.underlying5
  a5 := Try.isAgg5
  z5 := Try.sizeOf5
  v5 := Try.zeroValue5
  t9 := Try.underlying9
  a9 := Try.isAgg9
  z9 := Try.sizeOf9
  v9 := Try.zeroValue9
  t20 := Try.underlying20
  a20 := Try.isAgg20
  z20 := Try.sizeOf20
  v20 := Try.zeroValue20
  t37 := Try.underlying63
  a37 := Try.isAgg63
  z37 := Try.sizeOf63
  v37 := Try.zeroValue63
  t46 := Try.underlying51
  a46 := Try.isAgg51
  z46 := Try.sizeOf51
  v46 := Try.zeroValue51
  t51 := Try.underlying30
  a51 := Try.isAgg30
  z51 := Try.sizeOf30
  v51 := Try.zeroValue30
  t53 := Try.underlying64
  a53 := Try.isAgg64
  z53 := Try.sizeOf64
  v53 := Try.zeroValue64
  t70 := Try.underlying75
  a70 := Try.isAgg75
  z70 := Try.sizeOf75
  v70 := Try.zeroValue75
  t72 := Try.underlying77
  a72 := Try.isAgg77
  z72 := Try.sizeOf77
  v72 := Try.zeroValue77
  t75 := Try.underlying80
  a75 := Try.isAgg80
  z75 := Try.sizeOf80
  v75 := Try.zeroValue80
  t76 := Try.underlying81
  a76 := Try.isAgg81
  z76 := Try.sizeOf81
  v76 := Try.zeroValue81
  t109 := Try.underlying72
  a109 := Try.isAgg72
  z109 := Try.sizeOf72
  v109 := Try.zeroValue72
  t127 := Try.underlying90
  a127 := Try.isAgg90
  z127 := Try.sizeOf90
  v127 := Try.zeroValue90
  t146 := Try.underlying86
  a146 := Try.isAgg86
  z146 := Try.sizeOf86
  v146 := Try.zeroValue86
  t148 := Try.underlying88
  a148 := Try.isAgg88
  z148 := Try.sizeOf88
  v148 := Try.zeroValue88
  t164 := Try.underlying91
  a164 := Try.isAgg91
  z164 := Try.sizeOf91
  v164 := Try.zeroValue91 }
theorem Try.Builder_Extra_105 : Builder.Extra Try.prog Try.lays105_ren := {
  sizeBuilder := by kernel_rfl
  liesBuilder := by kernel_rfl
  t5 := Try.underlying5
  a5 := Try.isAgg5
  z5 := Try.sizeOf5
  v5 := Try.zeroValue5
  infoByte := by kernel_rfl
  cellsByte := by kernel_rfl
  sizeByte := by kernel_rfl
  neB5 := by decide }
open Go.RowKit Go.Lib in
theorem Try.strings_Repeat (s : ByteArray) (c : Nat) (w : World) (hc : c ≤ 9223372036854775807) (hlen : s.size * c ≤ 140737488355328) :
    Calls Try.prog 34 #[.string s, .int .i64 c] w fun e w' => e = .returned (.string ⟨(Lib.repeatL s.data.toList c).toArray⟩) ∧ Below w.heap.size w w' := Any.strings_Repeat Try.lays105 Try.Builder_Extra_105 s c w hc hlen
end Go.Proofs
end
