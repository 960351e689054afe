/- Merged out of this session's texts by a program (wip/gen/merge.py): declarations that this claim doesn't name are left out. -/
import Derived.Test.YtffhmlnklohbdaaMDetectTwins4
import Derived.ProofKit
import Derived.OpenShut
import Derived.SliceStrings
import Derived.SizedLaws
import Derived.Test.YtffhmlnklohbdaaRows
import Derived.Lib.SmallJoins
import Derived.Laws.IdiomArrays
set_option linter.unusedVariables false
set_option linter.unusedSimpArgs false
/-! T1 -/
section
namespace Go.Proofs.Ytffhmlnklohbdaa.Q
open Go.RowKit Go.Proofs.Ytffhmlnklohbdaa.P
set_option linter.unusedVariables false
set_option linter.unusedSimpArgs false
set_option maxRecDepth 100000
set_option maxHeartbeats 4000000
attribute [local irreducible] wpList wpQuiet qch Code.wp Oper.quiet Act.put At Region.wanted yielded
def abc : ByteArray := ⟨#[97, 98, 99]⟩
theorem Awake_.calls (hsum : sumL abc = sumR abc) (hmk : mblk abc ((fillL abc).size / 64) = false) (hdf : ¬ differenceL 2 52 0 = List.replicate 80 0) (w0 : World) : Calls Try.prog 6 #[] w0 fun e w' => e = .returned (.bool true) ∧ Low w0 w' := by
  refine c_fun (R := _) Try.func6 rfl 36 rfl (Nat.le_of_ble_eq_true rfl) ?_
  intro a z hA
  clear hA
  refine c_seq ?_
  refine c_region ?_
  refine l_q rfl (q_assign _ _ rfl rfl ?_)
  refine l_end ?_
  refine e_fresh z.put ?_
  intro a1 z1 m1
  clear m1
  refine e_then ?_
  refine c_seq ?_
  refine c_region ?_
  refine l_call _ rfl rfl rfl Try.func7 rfl (show Array.map _ _ = (#[] : Array Value) from by simp) (VecsL.calls _) ?_
  rintro _ w2 ⟨gvL, capL, curL, rfl, hgL, kL, hcL, h2⟩
  have gegvL := Nat.le_trans (Low.refl _).ge hgL
  refine l_q rfl (q_assign _ _ rfl (At.hit z1 rfl).ev ?_)
  refine l_end ?_
  refine e_fresh z1.put.put ?_
  intro a3 z3 m3
  have s1_3 := m3 _ _ (At.hit z1.put rfl)
  have low3 := h2
  clear m3
  refine e_then ?_
  refine c_seq ?_
  refine c_region ?_
  refine l_call (fun v w' => v = .tuple #[.string (sumL abc), .bool (mblk abc ((fillL abc).size / 64))] ∧ Low w2 w') rfl rfl rfl Try.func11 rfl (args1 rfl rfl) ((ScanL.calls abc (by first | decide | omega) _).mono fun _ _ ⟨e, k⟩ => ⟨_, e, rfl, k⟩) ?_
  rintro _ w4 ⟨rfl, h4⟩
  have kgvL_4 := h4.blk kL
  refine l_q rfl (q_move _ _ rfl (At.hit z3 rfl).ev ?_)
  refine l_q rfl (q_extract rfl (At.hit z3.put rfl).ev rfl ?_)
  refine l_q rfl (q_extract rfl ((At.hit z3.put rfl).ne rfl).ev rfl ?_)
  refine l_q rfl (q_assign _ _ rfl ((At.hit z3.put.put rfl).ne rfl).ev ?_)
  refine l_q rfl (q_assign _ _ rfl ((At.hit z3.put.put.put rfl).ne rfl).ev ?_)
  refine l_end ?_
  refine e_fresh z3.put.put.put.put.put.put ?_
  intro a5 z5 m5
  have s1_5 := m5 _ _ ((((((s1_3.ne rfl).ne rfl).ne rfl).ne rfl).ne rfl).ne rfl)
  have s2_5 := m5 _ _ ((At.hit z3.put.put.put.put rfl).ne rfl)
  have s3_5 := m5 _ _ (At.hit z3.put.put.put.put.put rfl)
  have low5 := (low3.trans h4)
  clear m5
  refine e_then ?_
  refine c_seq ?_
  refine c_region ?_
  refine l_q rfl (q_build rfl (parts2 rfl rfl) (built23 2 52) ?_)
  refine l_call (fun v w' => v = .agg (nums .u32 (differenceL 2 52 0)) ∧ Low w4 w') rfl rfl rfl Try.func9 rfl (args1 rfl (At.hit z5 rfl).ev) ((DifferenceL.calls 2 52 0 _).mono fun _ _ ⟨e, k⟩ => ⟨_, e, rfl, k⟩) ?_
  rintro _ w6 ⟨rfl, h6⟩
  have kgvL_6 := h6.blk kgvL_4
  refine l_alloc rfl rfl zero32 ?_
  intro g4 w7 hg7 k7 h7
  have lt_gvL_g4 := Nat.lt_of_lt_of_le (heap_lt kgvL_6) hg7
  have geg4 := Nat.le_trans (low5.trans h6).ge hg7
  have kgvL_7 := h7.blk kgvL_6
  refine l_row rfl rfl rfl (sz32.trans (congrArg some ((nums_size _ _).trans (differenceL_len _ _ _)).symm)) (At.hit z5.put.put rfl).ev ((At.hit z5.put rfl).ne rfl).ev (nums_one _ _) k7 (((nums_size _ _).trans (List.length_replicate)).trans ((nums_size _ _).trans (differenceL_len _ _ _)).symm) ?_
  intro w8 k8 u8
  have kgvL_8 := u8.blk kgvL_7 (by omega)
  refine l_end ?_
  refine e_fresh z5.put.put.put ?_
  intro a9 z9 m9
  have s1_9 := m9 _ _ (((s1_5.ne rfl).ne rfl).ne rfl)
  have s2_9 := m9 _ _ (((s2_5.ne rfl).ne rfl).ne rfl)
  have s3_9 := m9 _ _ (((s3_5.ne rfl).ne rfl).ne rfl)
  have s4_9 := m9 _ _ (At.hit z5.put.put rfl)
  have low9 := (((low5.trans h6).trans h7).upd u8 geg4)
  clear m9
  refine e_then ?_
  refine c_seq ?_
  refine c_region ?_
  refine l_q rfl (q_move _ _ rfl s1_9.ev ?_)
  refine l_q rfl (q_lenL rfl rfl Try.underlying25 (At.hit z9 rfl).ev ?_)
  refine l_q rfl (q_eql true rfl (At.hit z9.put rfl).ev rfl (decide_eq_true (by omega)) ?_)
  refine l_q rfl (q_move _ _ rfl (At.hit z9.put.put rfl).ev ?_)
  refine l_qg (wanted_is (j := 3) (d := 15) (b := true) rfl rfl (At.hit z9.put.put.put rfl) rfl) (q_move _ _ rfl ((((s1_9.ne rfl).ne rfl).ne rfl).ne rfl).ev ?_)
  refine l_qg (wanted_is (j := 3) (d := 15) (b := true) rfl rfl ((At.hit z9.put.put.put rfl).ne rfl) rfl) (q_idxSz (j := 16) (sz := 3) rfl Try.underlying25 sz23 (At.hit z9.put.put.put.put rfl).ev rfl (by omega) ?_)
  refine l_qg (wanted_is (j := 3) (d := 15) (b := true) rfl rfl (((At.hit z9.put.put.put rfl).ne rfl).ne rfl) rfl) (q_mid (vs := #[.int .i64 (vT 16), .int .i64 (vK 16), .int .i64 (vB 16)]) rfl Try.underlying23 rfl sz23 (At.hit z9.put.put.put.put.put rfl).ev (fun _ e => by rw [e]; exact kgvL_8) (hcL.2 16 (by omega)) ?_)
  refine l_qg (wanted_is (j := 3) (d := 15) (b := true) rfl rfl ((((At.hit z9.put.put.put rfl).ne rfl).ne rfl).ne rfl) rfl) (q_build rfl (parts2 rfl rfl) (built23 2 52) ?_)
  refine l_fresh z9.put.put.put.put.put.put.put.put ?_
  intro a10 z10 m10
  have s2_10 := m10 _ _ ((((((((s2_9.ne rfl).ne rfl).ne rfl).ne rfl).ne rfl).ne rfl).ne rfl).ne rfl)
  have s3_10 := m10 _ _ (((((((((s3_9.same (congrArg Value.bool hmk)).ne rfl).ne rfl).ne rfl).ne rfl).ne rfl).ne rfl).ne rfl).ne rfl)
  have s4_10 := m10 _ _ ((((((((s4_9.ne rfl).ne rfl).ne rfl).ne rfl).ne rfl).ne rfl).ne rfl).ne rfl)
  have s15_10 := m10 _ _ (((((At.hit z9.put.put.put rfl).ne rfl).ne rfl).ne rfl).ne rfl)
  have s18_10 := m10 _ _ ((At.hit z9.put.put.put.put.put.put rfl).ne rfl)
  have s19_10 := m10 _ _ (At.hit z9.put.put.put.put.put.put.put rfl)
  clear m10
  refine l_qg (wanted_is (j := 3) (d := 15) (b := true) rfl rfl s15_10 rfl) (q_eq3 true rfl guard23 s18_10.ev s19_10.ev (eq23 9998 (vT 16) (vK 16) (vB 16) 2 52 0) rfl ?_)
  refine l_q rfl (q_pick (b := true) (.bool true) rfl (s15_10.ne rfl).ev (At.hit z10 rfl).ev ?_)
  refine l_q rfl (q_move _ _ rfl (At.hit z10.put rfl).ev ?_)
  refine l_qg (wanted_is (j := 10) (d := 22) (b := true) rfl rfl (At.hit z10.put.put rfl) rfl) (q_move _ _ rfl (((s2_10.ne rfl).ne rfl).ne rfl).ev ?_)
  refine l_callg (fun v w' => v = .string (sumR abc) ∧ Low w8 w') (wanted_is (j := 10) (d := 22) (b := true) rfl rfl ((At.hit z10.put.put rfl).ne rfl) rfl) rfl rfl Try.func19 rfl (args1 rfl rfl) ((SumR.calls abc (by decide) _).mono fun _ _ ⟨e, k⟩ => ⟨_, e, rfl, k⟩) ?_
  rintro _ w11 ⟨rfl, h11⟩
  have kgvL_11 := h11.blk kgvL_8
  have kg4_11 := h11.blk k8
  refine l_qg (wanted_is (j := 10) (d := 22) (b := true) rfl rfl (((At.hit z10.put.put rfl).ne rfl).ne rfl) rfl) (q_streq true rfl ((At.hit z10.put.put.put rfl).ne rfl).ev (At.hit z10.put.put.put.put rfl).ev (by rw [hsum]; simp) ?_)
  refine l_q rfl (q_pick (b := true) (.bool true) rfl ((((At.hit z10.put.put rfl).ne rfl).ne rfl).ne rfl).ev (At.hit z10.put.put.put.put.put rfl).ev ?_)
  refine l_q rfl (q_move _ _ rfl (At.hit z10.put.put.put.put.put.put rfl).ev ?_)
  refine l_fresh z10.put.put.put.put.put.put.put.put ?_
  intro a12 z12 m12
  have s3_12 := m12 _ _ ((((((((s3_10.ne rfl).ne rfl).ne rfl).ne rfl).ne rfl).ne rfl).ne rfl).ne rfl)
  have s4_12 := m12 _ _ ((((((((s4_10.ne rfl).ne rfl).ne rfl).ne rfl).ne rfl).ne rfl).ne rfl).ne rfl)
  have s27_12 := m12 _ _ (At.hit z10.put.put.put.put.put.put.put rfl)
  clear m12
  refine l_qg (wanted_is (j := 15) (d := 27) (b := true) rfl rfl s27_12 rfl) (q_move _ _ rfl s3_12.ev ?_)
  refine l_qg (wanted_is (j := 15) (d := 27) (b := true) rfl rfl (s27_12.ne rfl) rfl) (q_not (b := false) rfl (At.hit z12 rfl).ev ?_)
  refine l_q rfl (q_pick (b := true) (.bool true) rfl ((s27_12.ne rfl).ne rfl).ev (At.hit z12.put rfl).ev ?_)
  refine l_q rfl (q_move _ _ rfl (At.hit z12.put.put rfl).ev ?_)
  refine l_qg (wanted_is (j := 19) (d := 31) (b := true) rfl rfl (At.hit z12.put.put.put rfl) rfl) (q_row rfl Try.underlying32 rfl (sz32.trans (congrArg some ((nums_size _ _).trans (differenceL_len _ _ _)).symm)) ((((s4_12.ne rfl).ne rfl).ne rfl).ne rfl).ev (fun _ e => by rw [e]; exact kg4_11) ?_)
  refine l_qg (wanted_is (j := 19) (d := 31) (b := true) rfl rfl ((At.hit z12.put.put.put rfl).ne rfl) rfl) (q_zero rfl Try.underlying32 sz30 zero32 ?_)
  refine l_qg (wanted_is (j := 19) (d := 31) (b := true) rfl rfl (((At.hit z12.put.put.put rfl).ne rfl).ne rfl) rfl) (q_nerow true rfl Try.eqGuardType32 Try.underlying32 Try.underlying30 info30 cells30 ((At.hit z12.put.put.put.put rfl).ne rfl).ev (At.hit z12.put.put.put.put.put rfl).ev (differenceL_len _ _ _) (List.length_replicate) (by rw [decide_eq_false hdf]; rfl) ?_)
  refine l_q rfl (q_pick (b := true) (.bool true) rfl ((((At.hit z12.put.put.put rfl).ne rfl).ne rfl).ne rfl).ev (At.hit z12.put.put.put.put.put.put rfl).ev ?_)
  refine l_fresh z12.put.put.put.put.put.put.put.put ?_
  intro a13 z13 m13
  have s35_13 := m13 _ _ (At.hit z12.put.put.put.put.put.put.put rfl)
  clear m13
  refine l_q rfl (q_assign _ _ rfl s35_13.ev ?_)
  refine l_end ?_
  refine e_fresh z13.put ?_
  intro a14 z14 m14
  have s0_14 := m14 _ _ (At.hit z13 rfl)
  have low14 := (low9.trans h11)
  clear m14
  refine e_then ?_
  refine wp_ret ?_
  refine r_tmp rfl z14.defers s0_14 ?_
  exact ⟨rfl, low14⟩
theorem Rows_.calls (awk : ∀ w : World, Calls Try.prog 6 #[] w fun e w' => e = .returned (.bool true) ∧ Low w w') (ty K B : Int) (w0 : World) : Calls Try.prog 3 #[.agg #[.int .i64 ty, .int .i64 K, .int .i64 B]] w0 fun e w' => e = .returned (.bool (decide (differenceL ty K B = differenceR ty K B))) ∧ Low w0 w' := by
  refine c_fun (R := _) Try.func3 rfl 35 rfl (Nat.le_of_ble_eq_true rfl) ?_
  intro a z hA
  have s0 := hA 0 _ rfl
  clear hA
  refine c_seq ?_
  refine c_region ?_
  refine l_box rfl rfl s0.ev ?_
  intro g1 w1 hg1 k1 h1
  have geg1 := Nat.le_trans (Low.refl _).ge hg1
  refine l_q rfl (q_assign _ _ rfl rfl ?_)
  refine l_end ?_
  refine e_fresh z.put.put ?_
  intro a2 z2 m2
  have s1_2 := m2 _ _ ((At.hit z rfl).ne rfl)
  have low2 := h1
  clear m2
  refine e_then ?_
  refine c_seq ?_
  refine c_seq ?_
  refine c_region ?_
  refine l_call (fun v w' => v = .bool true ∧ Low w1 w') rfl rfl rfl Try.func6 rfl (show Array.map _ _ = (#[] : Array Value) from by simp) ((awk _).mono fun _ _ ⟨e, k⟩ => ⟨_, e, rfl, k⟩) ?_
  rintro _ w3 ⟨rfl, h3⟩
  have kg1_3 := h3.blk k1
  refine l_q rfl (q_not (b := true) rfl (At.hit z2 rfl).ev ?_)
  refine l_end ?_
  refine e_fresh z2.put.put ?_
  intro a4 z4 m4
  have s1_4 := m4 _ _ ((s1_2.ne rfl).ne rfl)
  have s7_4 := m4 _ _ (At.hit z2.put rfl)
  have low4 := (low2.trans h3)
  clear m4
  refine e_then ?_
  refine c_false s7_4 ?_
  refine wp_skip ?_
  refine e_then ?_
  refine c_seq ?_
  refine c_region ?_
  refine l_call _ rfl rfl rfl Try.func7 rfl (show Array.map _ _ = (#[] : Array Value) from by simp) (VecsL.calls _) ?_
  rintro _ w5 ⟨gvL, capL, curL, rfl, hgL, kL, hcL, h5⟩
  have lt_g1_gvL := Nat.lt_of_lt_of_le (heap_lt kg1_3) hgL
  have gegvL := Nat.le_trans low4.ge hgL
  have kg1_5 := h5.blk kg1_3
  refine l_call _ rfl rfl rfl Try.func8 rfl (show Array.map _ _ = (#[] : Array Value) from by simp) (VecsR.calls _) ?_
  rintro _ w6 ⟨gvR, capR, curR, rfl, hgR, kR, hcR, h6⟩
  have lt_g1_gvR := Nat.lt_of_lt_of_le (heap_lt kg1_5) hgR
  have lt_gvL_gvR := Nat.lt_of_lt_of_le (heap_lt kL) hgR
  have gegvR := Nat.le_trans (low4.trans h5).ge hgR
  have kg1_6 := h6.blk kg1_5
  have kgvL_6 := h6.blk kL
  refine l_q rfl (q_assign _ _ rfl ((At.hit z4 rfl).ne rfl).ev ?_)
  refine l_q rfl (q_assign _ _ rfl ((At.hit z4.put rfl).ne rfl).ev ?_)
  refine l_end ?_
  refine e_fresh z4.put.put.put.put ?_
  intro a7 z7 m7
  have s1_7 := m7 _ _ ((((s1_4.ne rfl).ne rfl).ne rfl).ne rfl)
  have s3_7 := m7 _ _ ((At.hit z4.put.put rfl).ne rfl)
  have s4_7 := m7 _ _ (At.hit z4.put.put.put rfl)
  have low7 := ((low4.trans h5).trans h6)
  clear m7
  refine e_then ?_
  refine c_seq ?_
  refine c_seq ?_
  refine c_region ?_
  refine l_q rfl (q_move _ _ rfl s3_7.ev ?_)
  refine l_q rfl (q_lenL rfl rfl Try.underlying25 (At.hit z7 rfl).ev ?_)
  refine l_q rfl (q_move _ _ rfl ((s4_7.ne rfl).ne rfl).ev ?_)
  refine l_q rfl (q_lenL rfl rfl Try.underlying27 (At.hit z7.put.put rfl).ev ?_)
  refine l_q rfl (q_neq false rfl (((At.hit z7.put rfl).ne rfl).ne rfl).ev (At.hit z7.put.put.put rfl).ev (decide_eq_false (by omega)) ?_)
  refine l_end ?_
  refine e_fresh z7.put.put.put.put.put ?_
  intro a8 z8 m8
  have s1_8 := m8 _ _ (((((s1_7.ne rfl).ne rfl).ne rfl).ne rfl).ne rfl)
  have s3_8 := m8 _ _ (((((s3_7.ne rfl).ne rfl).ne rfl).ne rfl).ne rfl)
  have s4_8 := m8 _ _ (((((s4_7.ne rfl).ne rfl).ne rfl).ne rfl).ne rfl)
  have s14_8 := m8 _ _ (At.hit z7.put.put.put.put rfl)
  clear m8
  refine e_then ?_
  refine c_false s14_8 ?_
  refine wp_skip ?_
  refine e_then ?_
  refine c_seq ?_
  refine c_seq ?_
  refine c_region ?_
  refine l_q rfl (q_assign _ _ rfl rfl ?_)
  refine l_end ?_
  refine e_fresh z8.put ?_
  intro a9 z9 m9
  have s1_9 := m9 _ _ (s1_8.ne rfl)
  have s3_9 := m9 _ _ (s3_8.ne rfl)
  have s4_9 := m9 _ _ (s4_8.ne rfl)
  have s5_9 := m9 _ _ (At.hit z8 rfl)
  clear m9
  refine e_then ?_
  refine wp_block ?_
  refine c_loop 21 (fun i a w => Fr 35 a ∧ At a 1 (.pointer (some ⟨g1, 0, none⟩)) ∧ At a 3 (.slice (some ⟨gvL, 0, none⟩) 21 capL) ∧ At a 4 (.slice (some ⟨gvR, 0, none⟩) 21 capR) ∧ At a 5 (.int .i64 ((i : Nat) : Int)) ∧ w.heap[g1]? = some (.cells (#[.int .i64 ty, .int .i64 K, .int .i64 B]) 23) ∧ w.heap[gvL]? = some (.cells (curL) 23) ∧ w.heap[gvR]? = some (.cells (curR) 29) ∧ Low w0 w) ?_ ?_ ?_
  · exact ⟨z9, s1_9, s3_9, s4_9, s5_9, kg1_6, kgvL_6, kR, low7⟩
  · intro i a10 w10 hk10 h
    obtain ⟨z10, s1_10, s3_10, s4_10, s5_10, kg1_10, kgvL_10, kgvR_10, low10⟩ := h
    clear kR kg1_6 kgvL_6 low7 s1_9 s3_9 s4_9 s5_9 z9
    refine c_seq ?_
    refine c_seq ?_
    refine c_region ?_
    refine l_q rfl (q_move _ _ rfl s5_10.ev ?_)
    refine l_q rfl (q_move _ _ rfl (s3_10.ne rfl).ev ?_)
    refine l_q rfl (q_lenL rfl rfl Try.underlying25 (At.hit z10.put rfl).ev ?_)
    refine l_q rfl (q_lss true rfl (((At.hit z10 rfl).ne rfl).ne rfl).ev (At.hit z10.put.put rfl).ev (decide_eq_true (by omega)) ?_)
    refine l_end ?_
    refine e_fresh z10.put.put.put.put ?_
    intro a11 z11 m11
    have s1_11 := m11 _ _ ((((s1_10.ne rfl).ne rfl).ne rfl).ne rfl)
    have s3_11 := m11 _ _ ((((s3_10.ne rfl).ne rfl).ne rfl).ne rfl)
    have s4_11 := m11 _ _ ((((s4_10.ne rfl).ne rfl).ne rfl).ne rfl)
    have s5_11 := m11 _ _ ((((s5_10.ne rfl).ne rfl).ne rfl).ne rfl)
    have s18_11 := m11 _ _ (At.hit z10.put.put.put rfl)
    clear m11
    refine e_then ?_
    refine c_true s18_11 ?_
    refine wp_skip ?_
    refine e_then ?_
    refine c_seq ?_
    refine wp_block ?_
    refine c_seq ?_
    refine region_low hm (by kernel_rfl) ?_
    refine qs (q_move _ _ rfl s3_11.ev ?_)
    refine qs (q_move _ _ rfl (s5_11.ne rfl).ev ?_)
    refine qs (q_idxSz (j := i) (sz := 3) rfl Try.underlying25 sz23 ((At.hit z11 rfl).ne rfl).ev (At.hit z11.put rfl).ev (by omega) ?_)
    refine qs (q_mid (vs := #[.int .i64 (vT i), .int .i64 (vK i), .int .i64 (vB i)]) rfl Try.underlying23 rfl sz23 (At.hit z11.put.put rfl).ev (fun _ h => h.blk kgvL_10) (hcL.2 i (by omega)) ?_)
    refine qs (q_move _ _ rfl ((((s4_11.ne rfl).ne rfl).ne rfl).ne rfl).ev ?_)
    refine qs (q_move _ _ rfl (((((s5_11.ne rfl).ne rfl).ne rfl).ne rfl).ne rfl).ev ?_)
    refine qs (q_idxSz (j := i) (sz := 3) rfl Try.underlying27 sz29 ((At.hit z11.put.put.put.put rfl).ne rfl).ev (At.hit z11.put.put.put.put.put rfl).ev (by omega) ?_)
    refine qs (q_mid (vs := #[.int .i64 (vT i), .int .i64 (vK i), .int .i64 (vB i)]) rfl Try.underlying29 rfl sz29 (At.hit z11.put.put.put.put.put.put rfl).ev (fun _ h => h.blk kgvR_10) (hcR.2 i (by omega)) ?_)
    refine q_fresh z11.put.put.put.put.put.put.put.put ?_
    intro a12 z12 m12
    have s1_12 := m12 _ _ ((((((((s1_11.ne rfl).ne rfl).ne rfl).ne rfl).ne rfl).ne rfl).ne rfl).ne rfl)
    have s3_12 := m12 _ _ ((((((((s3_11.ne rfl).ne rfl).ne rfl).ne rfl).ne rfl).ne rfl).ne rfl).ne rfl)
    have s4_12 := m12 _ _ ((((((((s4_11.ne rfl).ne rfl).ne rfl).ne rfl).ne rfl).ne rfl).ne rfl).ne rfl)
    have s5_12 := m12 _ _ ((((((((s5_11.ne rfl).ne rfl).ne rfl).ne rfl).ne rfl).ne rfl).ne rfl).ne rfl)
    have s24_12 := m12 _ _ (((((At.hit z11.put.put.put rfl).ne rfl).ne rfl).ne rfl).ne rfl)
    have s28_12 := m12 _ _ (At.hit z11.put.put.put.put.put.put.put rfl)
    clear m12
    refine qs (q_ne3 false rfl guard29 s24_12.ev s28_12.ev (eq29 9998 (vT i) (vK i) (vB i) (vT i) (vK i) (vB i)) (by simp) ?_)
    refine qz ?_
    intro w13 h13
    have kg1_13 := h13.blk kg1_10
    have kgvL_13 := h13.blk kgvL_10
    have kgvR_13 := h13.blk kgvR_10
    refine e_id ?_
    refine e_fresh z12.put ?_
    intro a14 z14 m14
    have s1_14 := m14 _ _ (s1_12.ne rfl)
    have s3_14 := m14 _ _ (s3_12.ne rfl)
    have s4_14 := m14 _ _ (s4_12.ne rfl)
    have s5_14 := m14 _ _ (s5_12.ne rfl)
    have s29_14 := m14 _ _ (At.hit z12 rfl)
    have low14 := (low10.trans h13)
    clear m14
    refine e_then ?_
    refine c_false s29_14 ?_
    refine wp_skip ?_
    refine e_in ?_
    refine e_then ?_
    refine c_region ?_
    refine l_q rfl (q_move _ _ rfl s5_14.ev ?_)
    refine l_q rfl (q_add (((i + 1 : Nat) : Int)) rfl (At.hit z14 rfl).ev rfl (i64_is (by omega) (by omega) (by omega)) ?_)
    refine l_q rfl (q_assign _ _ rfl (At.hit z14.put rfl).ev ?_)
    refine l_end ?_
    refine e_fresh z14.put.put.put ?_
    intro a15 z15 m15
    have s1_15 := m15 _ _ (((s1_14.ne rfl).ne rfl).ne rfl)
    have s3_15 := m15 _ _ (((s3_14.ne rfl).ne rfl).ne rfl)
    have s4_15 := m15 _ _ (((s4_14.ne rfl).ne rfl).ne rfl)
    have s5_15 := m15 _ _ (At.hit z14.put.put rfl)
    clear m15
    exact ⟨z15, s1_15, s3_15, s4_15, s5_15, kg1_13, kgvL_13, kgvR_13, low14⟩
  · intro a16 w16 h
    obtain ⟨z16, s1_16, s3_16, s4_16, s5_16, kg1_16, kgvL_16, kgvR_16, low16⟩ := h
    clear kR kg1_6 kgvL_6 low7 s1_9 s3_9 s4_9 s5_9 z9
    refine c_seq ?_
    refine c_seq ?_
    refine c_region ?_
    refine l_q rfl (q_move _ _ rfl s5_16.ev ?_)
    refine l_q rfl (q_move _ _ rfl (s3_16.ne rfl).ev ?_)
    refine l_q rfl (q_lenL rfl rfl Try.underlying25 (At.hit z16.put rfl).ev ?_)
    refine l_q rfl (q_lss false rfl (((At.hit z16 rfl).ne rfl).ne rfl).ev (At.hit z16.put.put rfl).ev (decide_eq_false (by omega)) ?_)
    refine l_end ?_
    refine e_fresh z16.put.put.put.put ?_
    intro a17 z17 m17
    have s1_17 := m17 _ _ ((((s1_16.ne rfl).ne rfl).ne rfl).ne rfl)
    have s3_17 := m17 _ _ ((((s3_16.ne rfl).ne rfl).ne rfl).ne rfl)
    have s4_17 := m17 _ _ ((((s4_16.ne rfl).ne rfl).ne rfl).ne rfl)
    have s5_17 := m17 _ _ ((((s5_16.ne rfl).ne rfl).ne rfl).ne rfl)
    have s18_17 := m17 _ _ (At.hit z16.put.put.put rfl)
    clear m17
    refine e_then ?_
    refine c_false s18_17 ?_
    refine wp_exit ?_
    refine x_then ?_
    refine x_then ?_
    refine in_exit ?_
    refine e_then ?_
    refine c_seq ?_
    refine region_low hm (by kernel_rfl) ?_
    refine qs (q_row rfl Try.underlying23 rfl (sz23.trans (congrArg some rfl.symm)) s1_17.ev (fun _ h => h.blk kg1_16) ?_)
    refine qs (q_call (.agg (nums .u32 (differenceL ty K B))) rfl rfl Try.func9 rfl (args1 rfl (At.hit z17 rfl).ev) (fun _ h => (DifferenceL.calls ty K B _).mono fun _ _ ⟨e, k⟩ => ⟨e, h.trans k⟩) ?_)
    refine qs (q_row rfl Try.underlying23 rfl (sz23.trans (congrArg some rfl.symm)) ((s1_17.ne rfl).ne rfl).ev (fun _ h => h.blk kg1_16) ?_)
    refine qs (q_call (.agg (nums .u32 (differenceR ty K B))) rfl rfl Try.func10 rfl (args1 rfl (At.hit z17.put.put rfl).ev) (fun _ h => (DifferenceR.calls ty K B _).mono fun _ _ ⟨e, k⟩ => ⟨e, h.trans k⟩) ?_)
    refine qs (q_eqrow _ rfl Try.eqGuardType31 Try.underlying31 Try.underlying30 info30 cells30 (((At.hit z17.put rfl).ne rfl).ne rfl).ev (At.hit z17.put.put.put rfl).ev (differenceL_len _ _ _) (differenceR_len _ _ _) rfl ?_)
    refine qs (q_assign _ _ rfl (At.hit z17.put.put.put.put rfl).ev ?_)
    refine qz ?_
    intro w18 h18
    have kg1_18 := h18.blk kg1_16
    have kgvL_18 := h18.blk kgvL_16
    have kgvR_18 := h18.blk kgvR_16
    refine e_id ?_
    refine e_fresh z17.put.put.put.put.put.put ?_
    intro a19 z19 m19
    have s2_19 := m19 _ _ (At.hit z17.put.put.put.put.put rfl)
    have low19 := (low16.trans h18)
    clear m19
    refine e_then ?_
    refine wp_ret ?_
    refine r_tmp rfl z19.defers s2_19 ?_
    exact ⟨rfl, low19⟩
theorem Marks_a.calls (awk : ∀ w : World, Calls Try.prog 6 #[] w fun e w' => e = .returned (.bool true) ∧ Low w w') (c : Ch) (s : ByteArray) (ty K B : Int) (x : ByteArray) (h1 : s.size > 200) (w0 : World) : Calls Try.prog 4 #[.agg (nums .u32 (cl c)), .string s, .agg #[.int .i64 ty, .int .i64 K, .int .i64 B], .string x] w0 fun e w' => e = .returned (.bool true) ∧ Low w0 w' := by
  refine c_fun (R := _) Try.func4 rfl 52 rfl (Nat.le_of_ble_eq_true rfl) ?_
  intro a z hA
  have s0 := hA 0 _ rfl
  have s1 := hA 1 _ rfl
  have s2 := hA 2 _ rfl
  have s3 := hA 3 _ rfl
  clear hA
  refine c_seq ?_
  refine c_region ?_
  refine l_box rfl rfl s0.ev ?_
  intro g4 w1 hg1 k1 h1
  have geg4 := Nat.le_trans (Low.refl _).ge hg1
  refine l_box rfl rfl (s2.ne rfl).ev ?_
  intro g6 w2 hg2 k2 h2
  have lt_g4_g6 := Nat.lt_of_lt_of_le (heap_lt k1) hg2
  have geg6 := Nat.le_trans h1.ge hg2
  have kg4_2 := h2.blk k1
  refine l_q rfl (q_assign _ _ rfl rfl ?_)
  refine l_end ?_
  refine e_fresh z.put.put.put ?_
  intro a3 z3 m3
  have s1_3 := m3 _ _ (((s1.ne rfl).ne rfl).ne rfl)
  have s3_3 := m3 _ _ (((s3.ne rfl).ne rfl).ne rfl)
  have s4_3 := m3 _ _ (((At.hit z rfl).ne rfl).ne rfl)
  have s6_3 := m3 _ _ ((At.hit z.put rfl).ne rfl)
  have low3 := (h1.trans h2)
  clear m3
  refine e_then ?_
  refine c_seq ?_
  refine c_seq ?_
  refine c_region ?_
  refine l_call (fun v w' => v = .bool true ∧ Low w2 w') rfl rfl rfl Try.func6 rfl (show Array.map _ _ = (#[] : Array Value) from by simp) ((awk _).mono fun _ _ ⟨e, k⟩ => ⟨_, e, rfl, k⟩) ?_
  rintro _ w4 ⟨rfl, h4⟩
  have kg4_4 := h4.blk kg4_2
  have kg6_4 := h4.blk k2
  refine l_q rfl (q_not (b := true) rfl (At.hit z3 rfl).ev ?_)
  refine l_end ?_
  refine e_fresh z3.put.put ?_
  intro a5 z5 m5
  have s1_5 := m5 _ _ ((s1_3.ne rfl).ne rfl)
  have s3_5 := m5 _ _ ((s3_3.ne rfl).ne rfl)
  have s4_5 := m5 _ _ ((s4_3.ne rfl).ne rfl)
  have s6_5 := m5 _ _ ((s6_3.ne rfl).ne rfl)
  have s14_5 := m5 _ _ (At.hit z3.put rfl)
  have low5 := (low3.trans h4)
  clear m5
  refine e_then ?_
  refine c_false s14_5 ?_
  refine wp_skip ?_
  refine e_then ?_
  refine c_seq ?_
  refine c_seq ?_
  refine c_region ?_
  refine l_q rfl (q_move _ _ rfl s1_5.ev ?_)
  refine l_q rfl (q_len rfl rfl Try.underlying9 (At.hit z5 rfl).ev ?_)
  refine l_q rfl (q_gtr true rfl (At.hit z5.put rfl).ev rfl (decide_eq_true (by omega)) ?_)
  refine l_q rfl (q_move _ _ rfl (At.hit z5.put.put rfl).ev ?_)
  refine l_skip (wanted_is (j := 3) (d := 18) (b := true) rfl rfl (At.hit z5.put.put.put rfl) rfl) ?_
  refine l_skip (wanted_is (j := 3) (d := 18) (b := true) rfl rfl ((At.hit z5.put.put.put rfl).ne rfl) rfl) ?_
  refine l_skip (wanted_is (j := 3) (d := 18) (b := true) rfl rfl (((At.hit z5.put.put.put rfl).ne rfl).ne rfl) rfl) ?_
  refine l_q rfl (q_pick (b := true) (.bool true) rfl ((((At.hit z5.put.put.put rfl).ne rfl).ne rfl).ne rfl).ev rfl ?_)
  refine l_end ?_
  refine e_fresh z5.put.put.put.put.put.put.put.put ?_
  intro a6 z6 m6
  have s1_6 := m6 _ _ ((((((((s1_5.ne rfl).ne rfl).ne rfl).ne rfl).ne rfl).ne rfl).ne rfl).ne rfl)
  have s3_6 := m6 _ _ ((((((((s3_5.ne rfl).ne rfl).ne rfl).ne rfl).ne rfl).ne rfl).ne rfl).ne rfl)
  have s4_6 := m6 _ _ ((((((((s4_5.ne rfl).ne rfl).ne rfl).ne rfl).ne rfl).ne rfl).ne rfl).ne rfl)
  have s6_6 := m6 _ _ ((((((((s6_5.ne rfl).ne rfl).ne rfl).ne rfl).ne rfl).ne rfl).ne rfl).ne rfl)
  have s22_6 := m6 _ _ (At.hit z5.put.put.put.put.put.put.put rfl)
  clear m6
  refine e_then ?_
  refine c_true s22_6 ?_
  refine c_seq ?_
  refine c_region ?_
  refine l_q rfl (q_assign _ _ rfl rfl ?_)
  refine l_end ?_
  refine e_fresh z6.put ?_
  intro a7 z7 m7
  have s8_7 := m7 _ _ (At.hit z6 rfl)
  clear m7
  refine e_then ?_
  refine wp_ret ?_
  refine ret_then ?_
  refine r_tmp rfl z7.defers s8_7 ?_
  exact ⟨rfl, low5⟩
theorem Marks_b.calls (awk : ∀ w : World, Calls Try.prog 6 #[] w fun e w' => e = .returned (.bool true) ∧ Low w w') (c : Ch) (s : ByteArray) (ty K B : Int) (x : ByteArray) (h1 : ¬ s.size > 200) (h2 : x.size > 200) (w0 : World) : Calls Try.prog 4 #[.agg (nums .u32 (cl c)), .string s, .agg #[.int .i64 ty, .int .i64 K, .int .i64 B], .string x] w0 fun e w' => e = .returned (.bool true) ∧ Low w0 w' := by
  refine c_fun (R := _) Try.func4 rfl 52 rfl (Nat.le_of_ble_eq_true rfl) ?_
  intro a z hA
  have s0 := hA 0 _ rfl
  have s1 := hA 1 _ rfl
  have s2 := hA 2 _ rfl
  have s3 := hA 3 _ rfl
  clear hA
  refine c_seq ?_
  refine c_region ?_
  refine l_box rfl rfl s0.ev ?_
  intro g4 w1 hg1 k1 h1
  have geg4 := Nat.le_trans (Low.refl _).ge hg1
  refine l_box rfl rfl (s2.ne rfl).ev ?_
  intro g6 w2 hg2 k2 h2
  have lt_g4_g6 := Nat.lt_of_lt_of_le (heap_lt k1) hg2
  have geg6 := Nat.le_trans h1.ge hg2
  have kg4_2 := h2.blk k1
  refine l_q rfl (q_assign _ _ rfl rfl ?_)
  refine l_end ?_
  refine e_fresh z.put.put.put ?_
  intro a3 z3 m3
  have s1_3 := m3 _ _ (((s1.ne rfl).ne rfl).ne rfl)
  have s3_3 := m3 _ _ (((s3.ne rfl).ne rfl).ne rfl)
  have s4_3 := m3 _ _ (((At.hit z rfl).ne rfl).ne rfl)
  have s6_3 := m3 _ _ ((At.hit z.put rfl).ne rfl)
  have low3 := (h1.trans h2)
  clear m3
  refine e_then ?_
  refine c_seq ?_
  refine c_seq ?_
  refine c_region ?_
  refine l_call (fun v w' => v = .bool true ∧ Low w2 w') rfl rfl rfl Try.func6 rfl (show Array.map _ _ = (#[] : Array Value) from by simp) ((awk _).mono fun _ _ ⟨e, k⟩ => ⟨_, e, rfl, k⟩) ?_
  rintro _ w4 ⟨rfl, h4⟩
  have kg4_4 := h4.blk kg4_2
  have kg6_4 := h4.blk k2
  refine l_q rfl (q_not (b := true) rfl (At.hit z3 rfl).ev ?_)
  refine l_end ?_
  refine e_fresh z3.put.put ?_
  intro a5 z5 m5
  have s1_5 := m5 _ _ ((s1_3.ne rfl).ne rfl)
  have s3_5 := m5 _ _ ((s3_3.ne rfl).ne rfl)
  have s4_5 := m5 _ _ ((s4_3.ne rfl).ne rfl)
  have s6_5 := m5 _ _ ((s6_3.ne rfl).ne rfl)
  have s14_5 := m5 _ _ (At.hit z3.put rfl)
  have low5 := (low3.trans h4)
  clear m5
  refine e_then ?_
  refine c_false s14_5 ?_
  refine wp_skip ?_
  refine e_then ?_
  refine c_seq ?_
  refine c_seq ?_
  refine c_region ?_
  refine l_q rfl (q_move _ _ rfl s1_5.ev ?_)
  refine l_q rfl (q_len rfl rfl Try.underlying9 (At.hit z5 rfl).ev ?_)
  refine l_q rfl (q_gtr false rfl (At.hit z5.put rfl).ev rfl (decide_eq_false (by omega)) ?_)
  refine l_q rfl (q_move _ _ rfl (At.hit z5.put.put rfl).ev ?_)
  refine l_qg (wanted_is (j := 3) (d := 18) (b := false) rfl rfl (At.hit z5.put.put.put rfl) rfl) (q_move _ _ rfl ((((s3_5.ne rfl).ne rfl).ne rfl).ne rfl).ev ?_)
  refine l_qg (wanted_is (j := 3) (d := 18) (b := false) rfl rfl ((At.hit z5.put.put.put rfl).ne rfl) rfl) (q_len rfl rfl Try.underlying9 (At.hit z5.put.put.put.put rfl).ev ?_)
  refine l_qg (wanted_is (j := 3) (d := 18) (b := false) rfl rfl (((At.hit z5.put.put.put rfl).ne rfl).ne rfl) rfl) (q_gtr true rfl (At.hit z5.put.put.put.put.put rfl).ev rfl (decide_eq_true (by omega)) ?_)
  refine l_q rfl (q_pick (b := false) (.bool true) rfl ((((At.hit z5.put.put.put rfl).ne rfl).ne rfl).ne rfl).ev (At.hit z5.put.put.put.put.put.put rfl).ev ?_)
  refine l_end ?_
  refine e_fresh z5.put.put.put.put.put.put.put.put ?_
  intro a6 z6 m6
  have s1_6 := m6 _ _ ((((((((s1_5.ne rfl).ne rfl).ne rfl).ne rfl).ne rfl).ne rfl).ne rfl).ne rfl)
  have s3_6 := m6 _ _ ((((((((s3_5.ne rfl).ne rfl).ne rfl).ne rfl).ne rfl).ne rfl).ne rfl).ne rfl)
  have s4_6 := m6 _ _ ((((((((s4_5.ne rfl).ne rfl).ne rfl).ne rfl).ne rfl).ne rfl).ne rfl).ne rfl)
  have s6_6 := m6 _ _ ((((((((s6_5.ne rfl).ne rfl).ne rfl).ne rfl).ne rfl).ne rfl).ne rfl).ne rfl)
  have s22_6 := m6 _ _ (At.hit z5.put.put.put.put.put.put.put rfl)
  clear m6
  refine e_then ?_
  refine c_true s22_6 ?_
  refine c_seq ?_
  refine c_region ?_
  refine l_q rfl (q_assign _ _ rfl rfl ?_)
  refine l_end ?_
  refine e_fresh z6.put ?_
  intro a7 z7 m7
  have s8_7 := m7 _ _ (At.hit z6 rfl)
  clear m7
  refine e_then ?_
  refine wp_ret ?_
  refine ret_then ?_
  refine r_tmp rfl z7.defers s8_7 ?_
  exact ⟨rfl, low5⟩
theorem Marks_c.calls (awk : ∀ w : World, Calls Try.prog 6 #[] w fun e w' => e = .returned (.bool true) ∧ Low w w') (c : Ch) (s : ByteArray) (ty K B : Int) (x : ByteArray) (h1 : ¬ s.size > 200) (h2 : ¬ x.size > 200) (he1 : markedL c s ty K B = markedR c s ty K B) (he2 : sumL x = sumR x) (he3 : mblk x ((fillL x).size / 64) = mblkR x ((fillR x).size / 64)) (w0 : World) : Calls Try.prog 4 #[.agg (nums .u32 (cl c)), .string s, .agg #[.int .i64 ty, .int .i64 K, .int .i64 B], .string x] w0 fun e w' => e = .returned (.bool true) ∧ Low w0 w' := by
  refine c_fun (R := _) Try.func4 rfl 52 rfl (Nat.le_of_ble_eq_true rfl) ?_
  intro a z hA
  have s0 := hA 0 _ rfl
  have s1 := hA 1 _ rfl
  have s2 := hA 2 _ rfl
  have s3 := hA 3 _ rfl
  clear hA
  refine c_seq ?_
  refine c_region ?_
  refine l_box rfl rfl s0.ev ?_
  intro g4 w1 hg1 k1 h1
  have geg4 := Nat.le_trans (Low.refl _).ge hg1
  refine l_box rfl rfl (s2.ne rfl).ev ?_
  intro g6 w2 hg2 k2 h2
  have lt_g4_g6 := Nat.lt_of_lt_of_le (heap_lt k1) hg2
  have geg6 := Nat.le_trans h1.ge hg2
  have kg4_2 := h2.blk k1
  refine l_q rfl (q_assign _ _ rfl rfl ?_)
  refine l_end ?_
  refine e_fresh z.put.put.put ?_
  intro a3 z3 m3
  have s1_3 := m3 _ _ (((s1.ne rfl).ne rfl).ne rfl)
  have s3_3 := m3 _ _ (((s3.ne rfl).ne rfl).ne rfl)
  have s4_3 := m3 _ _ (((At.hit z rfl).ne rfl).ne rfl)
  have s6_3 := m3 _ _ ((At.hit z.put rfl).ne rfl)
  have low3 := (h1.trans h2)
  clear m3
  refine e_then ?_
  refine c_seq ?_
  refine c_seq ?_
  refine c_region ?_
  refine l_call (fun v w' => v = .bool true ∧ Low w2 w') rfl rfl rfl Try.func6 rfl (show Array.map _ _ = (#[] : Array Value) from by simp) ((awk _).mono fun _ _ ⟨e, k⟩ => ⟨_, e, rfl, k⟩) ?_
  rintro _ w4 ⟨rfl, h4⟩
  have kg4_4 := h4.blk kg4_2
  have kg6_4 := h4.blk k2
  refine l_q rfl (q_not (b := true) rfl (At.hit z3 rfl).ev ?_)
  refine l_end ?_
  refine e_fresh z3.put.put ?_
  intro a5 z5 m5
  have s1_5 := m5 _ _ ((s1_3.ne rfl).ne rfl)
  have s3_5 := m5 _ _ ((s3_3.ne rfl).ne rfl)
  have s4_5 := m5 _ _ ((s4_3.ne rfl).ne rfl)
  have s6_5 := m5 _ _ ((s6_3.ne rfl).ne rfl)
  have s14_5 := m5 _ _ (At.hit z3.put rfl)
  have low5 := (low3.trans h4)
  clear m5
  refine e_then ?_
  refine c_false s14_5 ?_
  refine wp_skip ?_
  refine e_then ?_
  refine c_seq ?_
  refine c_seq ?_
  refine c_region ?_
  refine l_q rfl (q_move _ _ rfl s1_5.ev ?_)
  refine l_q rfl (q_len rfl rfl Try.underlying9 (At.hit z5 rfl).ev ?_)
  refine l_q rfl (q_gtr false rfl (At.hit z5.put rfl).ev rfl (decide_eq_false (by omega)) ?_)
  refine l_q rfl (q_move _ _ rfl (At.hit z5.put.put rfl).ev ?_)
  refine l_qg (wanted_is (j := 3) (d := 18) (b := false) rfl rfl (At.hit z5.put.put.put rfl) rfl) (q_move _ _ rfl ((((s3_5.ne rfl).ne rfl).ne rfl).ne rfl).ev ?_)
  refine l_qg (wanted_is (j := 3) (d := 18) (b := false) rfl rfl ((At.hit z5.put.put.put rfl).ne rfl) rfl) (q_len rfl rfl Try.underlying9 (At.hit z5.put.put.put.put rfl).ev ?_)
  refine l_qg (wanted_is (j := 3) (d := 18) (b := false) rfl rfl (((At.hit z5.put.put.put rfl).ne rfl).ne rfl) rfl) (q_gtr false rfl (At.hit z5.put.put.put.put.put rfl).ev rfl (decide_eq_false (by omega)) ?_)
  refine l_q rfl (q_pick (b := false) (.bool false) rfl ((((At.hit z5.put.put.put rfl).ne rfl).ne rfl).ne rfl).ev (At.hit z5.put.put.put.put.put.put rfl).ev ?_)
  refine l_end ?_
  refine e_fresh z5.put.put.put.put.put.put.put.put ?_
  intro a6 z6 m6
  have s1_6 := m6 _ _ ((((((((s1_5.ne rfl).ne rfl).ne rfl).ne rfl).ne rfl).ne rfl).ne rfl).ne rfl)
  have s3_6 := m6 _ _ ((((((((s3_5.ne rfl).ne rfl).ne rfl).ne rfl).ne rfl).ne rfl).ne rfl).ne rfl)
  have s4_6 := m6 _ _ ((((((((s4_5.ne rfl).ne rfl).ne rfl).ne rfl).ne rfl).ne rfl).ne rfl).ne rfl)
  have s6_6 := m6 _ _ ((((((((s6_5.ne rfl).ne rfl).ne rfl).ne rfl).ne rfl).ne rfl).ne rfl).ne rfl)
  have s22_6 := m6 _ _ (At.hit z5.put.put.put.put.put.put.put rfl)
  clear m6
  refine e_then ?_
  refine c_false s22_6 ?_
  refine wp_skip ?_
  refine e_then ?_
  refine c_seq ?_
  refine c_region ?_
  refine l_q rfl (q_move _ _ rfl s3_6.ev ?_)
  refine l_call (fun v w' => v = .tuple #[.string (sumL x), .bool (mblk x ((fillL x).size / 64))] ∧ Low w4 w') rfl rfl rfl Try.func11 rfl (args1 rfl (At.hit z6 rfl).ev) ((ScanL.calls x (by first | decide | omega) _).mono fun _ _ ⟨e, k⟩ => ⟨_, e, rfl, k⟩) ?_
  rintro _ w7 ⟨rfl, h7⟩
  have kg4_7 := h7.blk kg4_4
  have kg6_7 := h7.blk kg6_4
  refine l_q rfl (q_move _ _ rfl (At.hit z6.put rfl).ev ?_)
  refine l_q rfl (q_extract rfl (At.hit z6.put.put rfl).ev rfl ?_)
  refine l_q rfl (q_extract rfl ((At.hit z6.put.put rfl).ne rfl).ev rfl ?_)
  refine l_q rfl (q_assign _ _ rfl ((At.hit z6.put.put.put rfl).ne rfl).ev ?_)
  refine l_q rfl (q_assign _ _ rfl ((At.hit z6.put.put.put.put rfl).ne rfl).ev ?_)
  refine l_end ?_
  refine e_fresh z6.put.put.put.put.put.put.put ?_
  intro a8 z8 m8
  have s1_8 := m8 _ _ (((((((s1_6.ne rfl).ne rfl).ne rfl).ne rfl).ne rfl).ne rfl).ne rfl)
  have s3_8 := m8 _ _ (((((((s3_6.ne rfl).ne rfl).ne rfl).ne rfl).ne rfl).ne rfl).ne rfl)
  have s4_8 := m8 _ _ (((((((s4_6.ne rfl).ne rfl).ne rfl).ne rfl).ne rfl).ne rfl).ne rfl)
  have s6_8 := m8 _ _ (((((((s6_6.ne rfl).ne rfl).ne rfl).ne rfl).ne rfl).ne rfl).ne rfl)
  have s9_8 := m8 _ _ ((At.hit z6.put.put.put.put.put rfl).ne rfl)
  have s10_8 := m8 _ _ (At.hit z6.put.put.put.put.put.put rfl)
  have low8 := (low5.trans h7)
  clear m8
  refine e_then ?_
  refine c_seq ?_
  refine c_region ?_
  refine l_q rfl (q_move _ _ rfl s3_8.ev ?_)
  refine l_call (fun v w' => v = .tuple #[.string (sumR x), .bool (mblkR x ((fillR x).size / 64))] ∧ Low w7 w') rfl rfl rfl Try.func12 rfl (args1 rfl (At.hit z8 rfl).ev) ((ScanR.calls x (by first | decide | omega) _).mono fun _ _ ⟨e, k⟩ => ⟨_, e, rfl, k⟩) ?_
  rintro _ w9 ⟨rfl, h9⟩
  have kg4_9 := h9.blk kg4_7
  have kg6_9 := h9.blk kg6_7
  refine l_q rfl (q_move _ _ rfl (At.hit z8.put rfl).ev ?_)
  refine l_q rfl (q_extract rfl (At.hit z8.put.put rfl).ev rfl ?_)
  refine l_q rfl (q_extract rfl ((At.hit z8.put.put rfl).ne rfl).ev rfl ?_)
  refine l_q rfl (q_assign _ _ rfl ((At.hit z8.put.put.put rfl).ne rfl).ev ?_)
  refine l_q rfl (q_assign _ _ rfl ((At.hit z8.put.put.put.put rfl).ne rfl).ev ?_)
  refine l_end ?_
  refine e_fresh z8.put.put.put.put.put.put.put ?_
  intro a10 z10 m10
  have s1_10 := m10 _ _ (((((((s1_8.ne rfl).ne rfl).ne rfl).ne rfl).ne rfl).ne rfl).ne rfl)
  have s4_10 := m10 _ _ (((((((s4_8.ne rfl).ne rfl).ne rfl).ne rfl).ne rfl).ne rfl).ne rfl)
  have s6_10 := m10 _ _ (((((((s6_8.ne rfl).ne rfl).ne rfl).ne rfl).ne rfl).ne rfl).ne rfl)
  have s9_10 := m10 _ _ (((((((s9_8.ne rfl).ne rfl).ne rfl).ne rfl).ne rfl).ne rfl).ne rfl)
  have s10_10 := m10 _ _ (((((((s10_8.ne rfl).ne rfl).ne rfl).ne rfl).ne rfl).ne rfl).ne rfl)
  have s11_10 := m10 _ _ ((At.hit z8.put.put.put.put.put rfl).ne rfl)
  have s12_10 := m10 _ _ (At.hit z8.put.put.put.put.put.put rfl)
  have low10 := (low8.trans h9)
  clear m10
  refine e_then ?_
  refine c_seq ?_
  refine region_lowg hm (by kernel_rfl) ?_
  refine gs rfl (q_row rfl Try.underlying36 rfl (sz36.trans (congrArg some ((nums_size _ _).trans (cl_len c)).symm)) s4_10.ev (fun _ h => h.blk kg4_9) ?_)
  refine gs rfl (q_move _ _ rfl (s1_10.ne rfl).ev ?_)
  refine gs rfl (q_row rfl Try.underlying23 rfl (sz23.trans (congrArg some rfl.symm)) ((s6_10.ne rfl).ne rfl).ev (fun _ h => h.blk kg6_9) ?_)
  refine gs rfl (q_call (.bool (markedL c s ty K B)) rfl rfl Try.func13 rfl (args3 rfl (((At.hit z10 rfl).ne rfl).ne rfl).ev ((At.hit z10.put rfl).ne rfl).ev (At.hit z10.put.put rfl).ev) (fun _ h => (MarkedL.calls c s (by omega) ty K B _).mono fun _ _ ⟨e, k⟩ => ⟨e, h.trans k⟩) ?_)
  refine gs rfl (q_row rfl Try.underlying36 rfl (sz36.trans (congrArg some ((nums_size _ _).trans (cl_len c)).symm)) ((((s4_10.ne rfl).ne rfl).ne rfl).ne rfl).ev (fun _ h => h.blk kg4_9) ?_)
  refine gs rfl (q_move _ _ rfl (((((s1_10.ne rfl).ne rfl).ne rfl).ne rfl).ne rfl).ev ?_)
  refine gs rfl (q_row rfl Try.underlying23 rfl (sz23.trans (congrArg some rfl.symm)) ((((((s6_10.ne rfl).ne rfl).ne rfl).ne rfl).ne rfl).ne rfl).ev (fun _ h => h.blk kg6_9) ?_)
  refine gs rfl (q_call (.bool (markedR c s ty K B)) rfl rfl Try.func14 rfl (args3 rfl (((At.hit z10.put.put.put.put rfl).ne rfl).ne rfl).ev ((At.hit z10.put.put.put.put.put rfl).ne rfl).ev (At.hit z10.put.put.put.put.put.put rfl).ev) (fun _ h => (MarkedR.calls c s (by omega) ty K B _).mono fun _ _ ⟨e, k⟩ => ⟨e, h.trans k⟩) ?_)
  refine g_fresh z10.put.put.put.put.put.put.put.put ?_
  intro a11 z11 m11
  have s9_11 := m11 _ _ ((((((((s9_10.ne rfl).ne rfl).ne rfl).ne rfl).ne rfl).ne rfl).ne rfl).ne rfl)
  have s10_11 := m11 _ _ ((((((((s10_10.ne rfl).ne rfl).ne rfl).ne rfl).ne rfl).ne rfl).ne rfl).ne rfl)
  have s11_11 := m11 _ _ ((((((((s11_10.ne rfl).ne rfl).ne rfl).ne rfl).ne rfl).ne rfl).ne rfl).ne rfl)
  have s12_11 := m11 _ _ ((((((((s12_10.ne rfl).ne rfl).ne rfl).ne rfl).ne rfl).ne rfl).ne rfl).ne rfl)
  have s36_11 := m11 _ _ (((((At.hit z10.put.put.put rfl).ne rfl).ne rfl).ne rfl).ne rfl)
  have s40_11 := m11 _ _ (At.hit z10.put.put.put.put.put.put.put rfl)
  clear m11
  refine gs rfl (q_boolq true rfl Try.underlying4 s36_11.ev s40_11.ev (by rw [he1]; simp) ?_)
  refine gs rfl (q_move _ _ rfl (At.hit z11 rfl).ev ?_)
  refine gsg (wanted_is (j := 9) (d := 42) (b := true) rfl rfl (At.hit z11.put rfl) rfl) (q_move _ _ rfl ((s9_11.ne rfl).ne rfl).ev ?_)
  refine gsg (wanted_is (j := 9) (d := 42) (b := true) rfl rfl ((At.hit z11.put rfl).ne rfl) rfl) (q_move _ _ rfl (((s11_11.ne rfl).ne rfl).ne rfl).ev ?_)
  refine gsg (wanted_is (j := 9) (d := 42) (b := true) rfl rfl (((At.hit z11.put rfl).ne rfl).ne rfl) rfl) (q_streq true rfl ((At.hit z11.put.put rfl).ne rfl).ev (At.hit z11.put.put.put rfl).ev (by rw [he2]; simp) ?_)
  refine gs rfl (q_pick (b := true) (.bool true) rfl ((((At.hit z11.put rfl).ne rfl).ne rfl).ne rfl).ev (At.hit z11.put.put.put.put rfl).ev ?_)
  refine gs rfl (q_move _ _ rfl (At.hit z11.put.put.put.put.put rfl).ev ?_)
  refine gsg (wanted_is (j := 14) (d := 47) (b := true) rfl rfl (At.hit z11.put.put.put.put.put.put rfl) rfl) (q_move _ _ rfl (((((((s10_11.ne rfl).ne rfl).ne rfl).ne rfl).ne rfl).ne rfl).ne rfl).ev ?_)
  refine g_fresh z11.put.put.put.put.put.put.put.put ?_
  intro a12 z12 m12
  have s12_12 := m12 _ _ ((((((((s12_11.ne rfl).ne rfl).ne rfl).ne rfl).ne rfl).ne rfl).ne rfl).ne rfl)
  have s47_12 := m12 _ _ ((At.hit z11.put.put.put.put.put.put rfl).ne rfl)
  have s48_12 := m12 _ _ (At.hit z11.put.put.put.put.put.put.put rfl)
  clear m12
  refine gsg (wanted_is (j := 14) (d := 47) (b := true) rfl rfl s47_12 rfl) (q_move _ _ rfl s12_12.ev ?_)
  refine gsg (wanted_is (j := 14) (d := 47) (b := true) rfl rfl (s47_12.ne rfl) rfl) (q_boolq true rfl Try.underlying4 (s48_12.ne rfl).ev (At.hit z12 rfl).ev (by rw [he3]; simp) ?_)
  refine gs rfl (q_pick (b := true) (.bool true) rfl ((s47_12.ne rfl).ne rfl).ev (At.hit z12.put rfl).ev ?_)
  refine gs rfl (q_assign _ _ rfl (At.hit z12.put.put rfl).ev ?_)
  refine gz ?_
  intro w13 h13
  have kg4_13 := h13.blk kg4_9
  have kg6_13 := h13.blk kg6_9
  refine e_id ?_
  refine e_fresh z12.put.put.put.put ?_
  intro a14 z14 m14
  have s8_14 := m14 _ _ (At.hit z12.put.put.put rfl)
  have low14 := (low10.trans h13)
  clear m14
  refine e_then ?_
  refine wp_ret ?_
  refine r_tmp rfl z14.defers s8_14 ?_
  exact ⟨rfl, low14⟩
def midL (c : Ch) (s : ByteArray) : Ch := stepsL (expandL s) c 58
def firstT (c : Ch) (s : ByteArray) (m : List Int) : Ch := backX (expandL s) m (midL c s) backL 58
def lastT (c : Ch) (s : ByteArray) (m : List Int) : Ch := stepsX (expandL s) m (midL c s) stepL 58 22
def twinB (c : Ch) (s : ByteArray) (ty K B : Int) : Bool := !decide (differenceL ty K B = List.replicate 80 0) && decide (addL (cl (lastT c s (differenceL ty K B))) (cl (firstT c s (differenceL ty K B))) 5 = cl (prL c s))
theorem Twins_a.calls (awk : ∀ w : World, Calls Try.prog 6 #[] w fun e w' => e = .returned (.bool true) ∧ Low w w') (c : Ch) (s : ByteArray) (ty K B : Int) (h1 : s.size > 200) (w0 : World) : Calls Try.prog 5 #[.agg (nums .u32 (cl c)), .string s, .agg #[.int .i64 ty, .int .i64 K, .int .i64 B]] w0 fun e w' => e = .returned (.bool true) ∧ Low w0 w' := by
  refine c_fun (R := _) Try.func5 rfl 96 rfl (Nat.le_of_ble_eq_true rfl) ?_
  intro a z hA
  have s0 := hA 0 _ rfl
  have s1 := hA 1 _ rfl
  have s2 := hA 2 _ rfl
  clear hA
  refine c_seq ?_
  refine c_region ?_
  refine l_box rfl rfl s0.ev ?_
  intro g3 w1 hg1 k1 h1
  have geg3 := Nat.le_trans (Low.refl _).ge hg1
  refine l_box rfl rfl (s2.ne rfl).ev ?_
  intro g5 w2 hg2 k2 h2
  have lt_g3_g5 := Nat.lt_of_lt_of_le (heap_lt k1) hg2
  have geg5 := Nat.le_trans h1.ge hg2
  have kg3_2 := h2.blk k1
  refine l_q rfl (q_assign _ _ rfl rfl ?_)
  refine l_end ?_
  refine e_fresh z.put.put.put ?_
  intro a3 z3 m3
  have s1_3 := m3 _ _ (((s1.ne rfl).ne rfl).ne rfl)
  have s3_3 := m3 _ _ (((At.hit z rfl).ne rfl).ne rfl)
  have s5_3 := m3 _ _ ((At.hit z.put rfl).ne rfl)
  have low3 := (h1.trans h2)
  clear m3
  refine e_then ?_
  refine c_seq ?_
  refine c_seq ?_
  refine c_region ?_
  refine l_call (fun v w' => v = .bool true ∧ Low w2 w') rfl rfl rfl Try.func6 rfl (show Array.map _ _ = (#[] : Array Value) from by simp) ((awk _).mono fun _ _ ⟨e, k⟩ => ⟨_, e, rfl, k⟩) ?_
  rintro _ w4 ⟨rfl, h4⟩
  have kg3_4 := h4.blk kg3_2
  have kg5_4 := h4.blk k2
  refine l_q rfl (q_not (b := true) rfl (At.hit z3 rfl).ev ?_)
  refine l_end ?_
  refine e_fresh z3.put.put ?_
  intro a5 z5 m5
  have s1_5 := m5 _ _ ((s1_3.ne rfl).ne rfl)
  have s3_5 := m5 _ _ ((s3_3.ne rfl).ne rfl)
  have s5_5 := m5 _ _ ((s5_3.ne rfl).ne rfl)
  have s18_5 := m5 _ _ (At.hit z3.put rfl)
  have low5 := (low3.trans h4)
  clear m5
  refine e_then ?_
  refine c_false s18_5 ?_
  refine wp_skip ?_
  refine e_then ?_
  refine c_seq ?_
  refine c_seq ?_
  refine c_region ?_
  refine l_q rfl (q_move _ _ rfl s1_5.ev ?_)
  refine l_q rfl (q_len rfl rfl Try.underlying9 (At.hit z5 rfl).ev ?_)
  refine l_q rfl (q_gtr true rfl (At.hit z5.put rfl).ev rfl (decide_eq_true (by omega)) ?_)
  refine l_end ?_
  refine e_fresh z5.put.put.put ?_
  intro a6 z6 m6
  have s1_6 := m6 _ _ (((s1_5.ne rfl).ne rfl).ne rfl)
  have s3_6 := m6 _ _ (((s3_5.ne rfl).ne rfl).ne rfl)
  have s5_6 := m6 _ _ (((s5_5.ne rfl).ne rfl).ne rfl)
  have s21_6 := m6 _ _ (At.hit z5.put.put rfl)
  clear m6
  refine e_then ?_
  refine c_true s21_6 ?_
  refine c_seq ?_
  refine c_region ?_
  refine l_q rfl (q_assign _ _ rfl rfl ?_)
  refine l_end ?_
  refine e_fresh z6.put ?_
  intro a7 z7 m7
  have s6_7 := m7 _ _ (At.hit z6 rfl)
  clear m7
  refine e_then ?_
  refine wp_ret ?_
  refine ret_then ?_
  refine r_tmp rfl z7.defers s6_7 ?_
  exact ⟨rfl, low5⟩
theorem Twins_b.calls (awk : ∀ w : World, Calls Try.prog 6 #[] w fun e w' => e = .returned (.bool true) ∧ Low w w') (c : Ch) (s : ByteArray) (ty K B : Int) (h1 : ¬ s.size > 200) (hd : differenceL ty K B = List.replicate 80 0) (hmk : markedL c s ty K B = twinB c s ty K B) (w0 : World) : Calls Try.prog 5 #[.agg (nums .u32 (cl c)), .string s, .agg #[.int .i64 ty, .int .i64 K, .int .i64 B]] w0 fun e w' => e = .returned (.bool true) ∧ Low w0 w' := by
  refine c_fun (R := _) Try.func5 rfl 96 rfl (Nat.le_of_ble_eq_true rfl) ?_
  intro a z hA
  have s0 := hA 0 _ rfl
  have s1 := hA 1 _ rfl
  have s2 := hA 2 _ rfl
  clear hA
  refine c_seq ?_
  refine c_region ?_
  refine l_box rfl rfl s0.ev ?_
  intro g3 w1 hg1 k1 h1
  have geg3 := Nat.le_trans (Low.refl _).ge hg1
  refine l_box rfl rfl (s2.ne rfl).ev ?_
  intro g5 w2 hg2 k2 h2
  have lt_g3_g5 := Nat.lt_of_lt_of_le (heap_lt k1) hg2
  have geg5 := Nat.le_trans h1.ge hg2
  have kg3_2 := h2.blk k1
  refine l_q rfl (q_assign _ _ rfl rfl ?_)
  refine l_end ?_
  refine e_fresh z.put.put.put ?_
  intro a3 z3 m3
  have s1_3 := m3 _ _ (((s1.ne rfl).ne rfl).ne rfl)
  have s3_3 := m3 _ _ (((At.hit z rfl).ne rfl).ne rfl)
  have s5_3 := m3 _ _ ((At.hit z.put rfl).ne rfl)
  have low3 := (h1.trans h2)
  clear m3
  refine e_then ?_
  refine c_seq ?_
  refine c_seq ?_
  refine c_region ?_
  refine l_call (fun v w' => v = .bool true ∧ Low w2 w') rfl rfl rfl Try.func6 rfl (show Array.map _ _ = (#[] : Array Value) from by simp) ((awk _).mono fun _ _ ⟨e, k⟩ => ⟨_, e, rfl, k⟩) ?_
  rintro _ w4 ⟨rfl, h4⟩
  have kg3_4 := h4.blk kg3_2
  have kg5_4 := h4.blk k2
  refine l_q rfl (q_not (b := true) rfl (At.hit z3 rfl).ev ?_)
  refine l_end ?_
  refine e_fresh z3.put.put ?_
  intro a5 z5 m5
  have s1_5 := m5 _ _ ((s1_3.ne rfl).ne rfl)
  have s3_5 := m5 _ _ ((s3_3.ne rfl).ne rfl)
  have s5_5 := m5 _ _ ((s5_3.ne rfl).ne rfl)
  have s18_5 := m5 _ _ (At.hit z3.put rfl)
  have low5 := (low3.trans h4)
  clear m5
  refine e_then ?_
  refine c_false s18_5 ?_
  refine wp_skip ?_
  refine e_then ?_
  refine c_seq ?_
  refine c_seq ?_
  refine c_region ?_
  refine l_q rfl (q_move _ _ rfl s1_5.ev ?_)
  refine l_q rfl (q_len rfl rfl Try.underlying9 (At.hit z5 rfl).ev ?_)
  refine l_q rfl (q_gtr false rfl (At.hit z5.put rfl).ev rfl (decide_eq_false (by omega)) ?_)
  refine l_end ?_
  refine e_fresh z5.put.put.put ?_
  intro a6 z6 m6
  have s1_6 := m6 _ _ (((s1_5.ne rfl).ne rfl).ne rfl)
  have s3_6 := m6 _ _ (((s3_5.ne rfl).ne rfl).ne rfl)
  have s5_6 := m6 _ _ (((s5_5.ne rfl).ne rfl).ne rfl)
  have s21_6 := m6 _ _ (At.hit z5.put.put rfl)
  clear m6
  refine e_then ?_
  refine c_false s21_6 ?_
  refine wp_skip ?_
  refine e_then ?_
  refine c_seq ?_
  refine c_region ?_
  refine l_q rfl (q_row rfl Try.underlying23 rfl (sz23.trans (congrArg some rfl.symm)) s5_6.ev (fun _ e => by rw [e]; exact kg5_4) ?_)
  refine l_call (fun v w' => v = .agg (nums .u32 (differenceL ty K B)) ∧ Low w4 w') rfl rfl rfl Try.func9 rfl (args1 rfl (At.hit z6 rfl).ev) ((DifferenceL.calls ty K B _).mono fun _ _ ⟨e, k⟩ => ⟨_, e, rfl, k⟩) ?_
  rintro _ w7 ⟨rfl, h7⟩
  have kg3_7 := h7.blk kg3_4
  have kg5_7 := h7.blk kg5_4
  refine l_q rfl (q_move _ _ rfl ((s1_6.ne rfl).ne rfl).ev ?_)
  refine l_call (fun v w' => v = .agg (nums .u32 (expandL s)) ∧ Low w7 w') rfl rfl rfl Try.func15 rfl (args1 rfl (At.hit z6.put.put rfl).ev) ((ExpandL.calls s (by omega) _).mono fun _ _ ⟨e, k⟩ => ⟨_, e, rfl, k⟩) ?_
  rintro _ w8 ⟨rfl, h8⟩
  have kg3_8 := h8.blk kg3_7
  have kg5_8 := h8.blk kg5_7
  refine l_alloc rfl rfl zero32 ?_
  intro g7 w9 hg9 k9 h9
  have lt_g3_g7 := Nat.lt_of_lt_of_le (heap_lt kg3_8) hg9
  have lt_g5_g7 := Nat.lt_of_lt_of_le (heap_lt kg5_8) hg9
  have geg7 := Nat.le_trans ((low5.trans h7).trans h8).ge hg9
  have kg3_9 := h9.blk kg3_8
  have kg5_9 := h9.blk kg5_8
  refine l_alloc rfl rfl zero32 ?_
  intro g8 w10 hg10 k10 h10
  have lt_g3_g8 := Nat.lt_of_lt_of_le (heap_lt kg3_9) hg10
  have lt_g5_g8 := Nat.lt_of_lt_of_le (heap_lt kg5_9) hg10
  have lt_g7_g8 := Nat.lt_of_lt_of_le (heap_lt k9) hg10
  have geg8 := Nat.le_trans (((low5.trans h7).trans h8).trans h9).ge hg10
  have kg3_10 := h10.blk kg3_9
  have kg5_10 := h10.blk kg5_9
  have kg7_10 := h10.blk k9
  refine l_row rfl rfl rfl (sz32.trans (congrArg some ((nums_size _ _).trans (differenceL_len _ _ _)).symm)) ((At.hit z6.put.put.put.put rfl).ne rfl).ev (((((At.hit z6.put rfl).ne rfl).ne rfl).ne rfl).ne rfl).ev (nums_one _ _) kg7_10 (((nums_size _ _).trans (List.length_replicate)).trans ((nums_size _ _).trans (differenceL_len _ _ _)).symm) ?_
  intro w11 k11 u11
  have kg3_11 := u11.blk kg3_10 (by omega)
  have kg5_11 := u11.blk kg5_10 (by omega)
  have kg8_11 := u11.blk k10 (by omega)
  refine l_row rfl rfl rfl (sz32.trans (congrArg some ((nums_size _ _).trans (expandL_len s)).symm)) (At.hit z6.put.put.put.put.put rfl).ev (((At.hit z6.put.put.put rfl).ne rfl).ne rfl).ev (nums_one _ _) kg8_11 (((nums_size _ _).trans (List.length_replicate)).trans ((nums_size _ _).trans (expandL_len s)).symm) ?_
  intro w12 k12 u12
  have kg3_12 := u12.blk kg3_11 (by omega)
  have kg5_12 := u12.blk kg5_11 (by omega)
  have kg7_12 := u12.blk k11 (by omega)
  refine l_end ?_
  refine e_fresh z6.put.put.put.put.put.put ?_
  intro a13 z13 m13
  have s1_13 := m13 _ _ ((((((s1_6.ne rfl).ne rfl).ne rfl).ne rfl).ne rfl).ne rfl)
  have s3_13 := m13 _ _ ((((((s3_6.ne rfl).ne rfl).ne rfl).ne rfl).ne rfl).ne rfl)
  have s5_13 := m13 _ _ ((((((s5_6.ne rfl).ne rfl).ne rfl).ne rfl).ne rfl).ne rfl)
  have s7_13 := m13 _ _ ((At.hit z6.put.put.put.put rfl).ne rfl)
  have s8_13 := m13 _ _ (At.hit z6.put.put.put.put.put rfl)
  have low13 := ((((((low5.trans h7).trans h8).trans h9).trans h10).upd u11 geg7).upd u12 geg8)
  clear m13
  refine e_then ?_
  refine c_seq ?_
  refine c_region ?_
  refine l_q rfl (q_row rfl Try.underlying36 rfl (sz36.trans (congrArg some ((nums_size _ _).trans (cl_len c)).symm)) s3_13.ev (fun _ e => by rw [e]; exact kg3_12) ?_)
  refine l_alloc rfl rfl zero40 ?_
  intro g9 w14 hg14 k14 h14
  have lt_g3_g9 := Nat.lt_of_lt_of_le (heap_lt kg3_12) hg14
  have lt_g5_g9 := Nat.lt_of_lt_of_le (heap_lt kg5_12) hg14
  have lt_g7_g9 := Nat.lt_of_lt_of_le (heap_lt kg7_12) hg14
  have lt_g8_g9 := Nat.lt_of_lt_of_le (heap_lt k12) hg14
  have geg9 := Nat.le_trans low13.ge hg14
  have kg3_14 := h14.blk kg3_12
  have kg5_14 := h14.blk kg5_12
  have kg7_14 := h14.blk kg7_12
  have kg8_14 := h14.blk k12
  refine l_row rfl rfl rfl (sz40.trans (congrArg some ((nums_size _ _).trans (cl_len c)).symm)) (At.hit z13.put rfl).ev ((At.hit z13 rfl).ne rfl).ev (nums_one _ _) k14 (((nums_size _ _).trans (List.length_replicate)).trans ((nums_size _ _).trans (cl_len c)).symm) ?_
  intro w15 k15 u15
  have kg3_15 := u15.blk kg3_14 (by omega)
  have kg5_15 := u15.blk kg5_14 (by omega)
  have kg7_15 := u15.blk kg7_14 (by omega)
  have kg8_15 := u15.blk kg8_14 (by omega)
  refine l_end ?_
  refine e_fresh z13.put.put ?_
  intro a16 z16 m16
  have s1_16 := m16 _ _ ((s1_13.ne rfl).ne rfl)
  have s3_16 := m16 _ _ ((s3_13.ne rfl).ne rfl)
  have s5_16 := m16 _ _ ((s5_13.ne rfl).ne rfl)
  have s7_16 := m16 _ _ ((s7_13.ne rfl).ne rfl)
  have s8_16 := m16 _ _ ((s8_13.ne rfl).ne rfl)
  have s9_16 := m16 _ _ (At.hit z13.put rfl)
  have low16 := ((low13.trans h14).upd u15 geg9)
  clear m16
  refine e_then ?_
  refine c_seq ?_
  refine c_seq ?_
  refine c_region ?_
  refine l_q rfl (q_assign _ _ rfl rfl ?_)
  refine l_end ?_
  refine e_fresh z16.put ?_
  intro a17 z17 m17
  have s1_17 := m17 _ _ (s1_16.ne rfl)
  have s3_17 := m17 _ _ (s3_16.ne rfl)
  have s5_17 := m17 _ _ (s5_16.ne rfl)
  have s7_17 := m17 _ _ (s7_16.ne rfl)
  have s8_17 := m17 _ _ (s8_16.ne rfl)
  have s9_17 := m17 _ _ (s9_16.ne rfl)
  have s10_17 := m17 _ _ (At.hit z16 rfl)
  clear m17
  refine e_then ?_
  refine wp_block ?_
  refine c_loop 58 (fun k a w => Fr 96 a ∧ At a 1 (.string s) ∧ At a 3 (.pointer (some ⟨g3, 0, none⟩)) ∧ At a 5 (.pointer (some ⟨g5, 0, none⟩)) ∧ At a 7 (.pointer (some ⟨g7, 0, none⟩)) ∧ At a 8 (.pointer (some ⟨g8, 0, none⟩)) ∧ At a 9 (.pointer (some ⟨g9, 0, none⟩)) ∧ At a 10 (.int .i64 ((k : Nat) : Int)) ∧ w.heap[g3]? = some (.cells (nums .u32 (cl c)) 36) ∧ w.heap[g5]? = some (.cells (#[.int .i64 ty, .int .i64 K, .int .i64 B]) 23) ∧ w.heap[g7]? = some (.cells (nums .u32 (differenceL ty K B)) 32) ∧ w.heap[g8]? = some (.cells (nums .u32 (expandL s)) 32) ∧ w.heap[g9]? = some (.cells (nums .u32 (cl (stepsL (expandL s) c k))) 40) ∧ Low w0 w) ?_ ?_ ?_
  · exact ⟨z17, s1_17, s3_17, s5_17, s7_17, s8_17, s9_17, s10_17, kg3_15, kg5_15, kg7_15, kg8_15, k15, low16⟩
  · intro k a18 w18 hk18 h
    obtain ⟨z18, s1_18, s3_18, s5_18, s7_18, s8_18, s9_18, s10_18, kg3_18, kg5_18, kg7_18, kg8_18, kg9_18, low18⟩ := h
    clear k15 kg3_15 kg5_15 kg7_15 kg8_15 low16 s10_17 s1_17 s3_17 s5_17 s7_17 s8_17 s9_17 z17
    refine c_seq ?_
    refine c_seq ?_
    refine c_region ?_
    refine l_q rfl (q_move _ _ rfl s10_18.ev ?_)
    refine l_q rfl (q_lss true rfl (At.hit z18 rfl).ev rfl (decide_eq_true (by omega)) ?_)
    refine l_end ?_
    refine e_fresh z18.put.put ?_
    intro a19 z19 m19
    have s1_19 := m19 _ _ ((s1_18.ne rfl).ne rfl)
    have s3_19 := m19 _ _ ((s3_18.ne rfl).ne rfl)
    have s5_19 := m19 _ _ ((s5_18.ne rfl).ne rfl)
    have s7_19 := m19 _ _ ((s7_18.ne rfl).ne rfl)
    have s8_19 := m19 _ _ ((s8_18.ne rfl).ne rfl)
    have s9_19 := m19 _ _ ((s9_18.ne rfl).ne rfl)
    have s10_19 := m19 _ _ ((s10_18.ne rfl).ne rfl)
    have s28_19 := m19 _ _ (At.hit z18.put rfl)
    clear m19
    refine e_then ?_
    refine c_true s28_19 ?_
    refine wp_skip ?_
    refine e_then ?_
    refine c_seq ?_
    refine wp_block ?_
    refine region_low_tail 6 hm (by kernel_rfl) ?_
    simp only [List.take_succ_cons, List.take_zero, List.drop_succ_cons, List.drop_zero]
    refine qs (q_row rfl Try.underlying40 rfl (sz40.trans (congrArg some ((nums_size _ _).trans (cl_len (stepsL (expandL s) c k))).symm)) s9_19.ev (fun _ h => h.blk kg9_18) ?_)
    refine qs (q_move _ _ rfl (s10_19.ne rfl).ev ?_)
    refine qs (q_move _ _ rfl ((s10_19.ne rfl).ne rfl).ev ?_)
    refine qs (q_idx (j := k) rfl Try.underlying32 sz30 (((s8_19.ne rfl).ne rfl).ne rfl).ev (At.hit z19.put.put rfl).ev (by omega) ?_)
    refine qs (q_cell (.int .u32 ((expandL s).getD k 0)) rfl Try.underlying30 (At.hit z19.put.put.put rfl).ev (fun _ h => nums_cell (h.blk kg8_18) k (by rw [(expandL_len s)]; omega)) ?_)
    refine qs (q_call (.agg (nums .u32 (cl (stepL (stepsL (expandL s) c k) ((k : Nat) : Int) ((expandL s).getD k 0))))) rfl rfl Try.func16 rfl (args3 rfl (((((At.hit z19 rfl).ne rfl).ne rfl).ne rfl).ne rfl).ev ((((At.hit z19.put rfl).ne rfl).ne rfl).ne rfl).ev (At.hit z19.put.put.put.put rfl).ev) (fun _ h => (StepL.calls (stepsL (expandL s) c k) ((k : Nat) : Int) ((expandL s).getD k 0) _).mono fun _ _ ⟨e, k⟩ => ⟨e, h.trans k⟩) ?_)
    refine qz ?_
    intro w20 h20
    have kg3_20 := h20.blk kg3_18
    have kg5_20 := h20.blk kg5_18
    have kg7_20 := h20.blk kg7_18
    have kg8_20 := h20.blk kg8_18
    have kg9_20 := h20.blk kg9_18
    refine l_row rfl rfl rfl (sz40.trans (congrArg some ((nums_size _ _).trans (cl_len (stepL (stepsL (expandL s) c k) ((k : Nat) : Int) ((expandL s).getD k 0)))).symm)) ((((((s9_19.ne rfl).ne rfl).ne rfl).ne rfl).ne rfl).ne rfl).ev (At.hit z19.put.put.put.put.put rfl).ev (nums_one _ _) kg9_20 (((nums_size _ _).trans (cl_len (stepsL (expandL s) c k))).trans ((nums_size _ _).trans (cl_len (stepL (stepsL (expandL s) c k) ((k : Nat) : Int) ((expandL s).getD k 0)))).symm) ?_
    intro w21 k21 u21
    have kg3_21 := u21.blk kg3_20 (by omega)
    have kg5_21 := u21.blk kg5_20 (by omega)
    have kg7_21 := u21.blk kg7_20 (by omega)
    have kg8_21 := u21.blk kg8_20 (by omega)
    refine l_end ?_
    refine e_fresh z19.put.put.put.put.put.put ?_
    intro a22 z22 m22
    have s1_22 := m22 _ _ ((((((s1_19.ne rfl).ne rfl).ne rfl).ne rfl).ne rfl).ne rfl)
    have s3_22 := m22 _ _ ((((((s3_19.ne rfl).ne rfl).ne rfl).ne rfl).ne rfl).ne rfl)
    have s5_22 := m22 _ _ ((((((s5_19.ne rfl).ne rfl).ne rfl).ne rfl).ne rfl).ne rfl)
    have s7_22 := m22 _ _ ((((((s7_19.ne rfl).ne rfl).ne rfl).ne rfl).ne rfl).ne rfl)
    have s8_22 := m22 _ _ ((((((s8_19.ne rfl).ne rfl).ne rfl).ne rfl).ne rfl).ne rfl)
    have s9_22 := m22 _ _ ((((((s9_19.ne rfl).ne rfl).ne rfl).ne rfl).ne rfl).ne rfl)
    have s10_22 := m22 _ _ ((((((s10_19.ne rfl).ne rfl).ne rfl).ne rfl).ne rfl).ne rfl)
    have low22 := ((low18.trans h20).upd u21 geg9)
    clear m22
    refine e_in ?_
    refine e_then ?_
    refine c_region ?_
    refine l_q rfl (q_move _ _ rfl s10_22.ev ?_)
    refine l_q rfl (q_add (((k + 1 : Nat) : Int)) rfl (At.hit z22 rfl).ev rfl (i64_is (by omega) (by omega) (by omega)) ?_)
    refine l_q rfl (q_assign _ _ rfl (At.hit z22.put rfl).ev ?_)
    refine l_end ?_
    refine e_fresh z22.put.put.put ?_
    intro a23 z23 m23
    have s1_23 := m23 _ _ (((s1_22.ne rfl).ne rfl).ne rfl)
    have s3_23 := m23 _ _ (((s3_22.ne rfl).ne rfl).ne rfl)
    have s5_23 := m23 _ _ (((s5_22.ne rfl).ne rfl).ne rfl)
    have s7_23 := m23 _ _ (((s7_22.ne rfl).ne rfl).ne rfl)
    have s8_23 := m23 _ _ (((s8_22.ne rfl).ne rfl).ne rfl)
    have s9_23 := m23 _ _ (((s9_22.ne rfl).ne rfl).ne rfl)
    have s10_23 := m23 _ _ (At.hit z22.put.put rfl)
    clear m23
    exact ⟨z23, s1_23, s3_23, s5_23, s7_23, s8_23, s9_23, s10_23, kg3_21, kg5_21, kg7_21, kg8_21, k21, low22⟩
  · intro a24 w24 h
    obtain ⟨z24, s1_24, s3_24, s5_24, s7_24, s8_24, s9_24, s10_24, kg3_24, kg5_24, kg7_24, kg8_24, kg9_24, low24⟩ := h
    clear k15 kg3_15 kg5_15 kg7_15 kg8_15 low16 s10_17 s1_17 s3_17 s5_17 s7_17 s8_17 s9_17 z17
    refine c_seq ?_
    refine c_seq ?_
    refine c_region ?_
    refine l_q rfl (q_move _ _ rfl s10_24.ev ?_)
    refine l_q rfl (q_lss false rfl (At.hit z24 rfl).ev rfl (decide_eq_false (by omega)) ?_)
    refine l_end ?_
    refine e_fresh z24.put.put ?_
    intro a25 z25 m25
    have s1_25 := m25 _ _ ((s1_24.ne rfl).ne rfl)
    have s3_25 := m25 _ _ ((s3_24.ne rfl).ne rfl)
    have s5_25 := m25 _ _ ((s5_24.ne rfl).ne rfl)
    have s7_25 := m25 _ _ ((s7_24.ne rfl).ne rfl)
    have s8_25 := m25 _ _ ((s8_24.ne rfl).ne rfl)
    have s9_25 := m25 _ _ ((s9_24.ne rfl).ne rfl)
    have s10_25 := m25 _ _ ((s10_24.ne rfl).ne rfl)
    have s28_25 := m25 _ _ (At.hit z24.put rfl)
    clear m25
    refine e_then ?_
    refine c_false s28_25 ?_
    refine wp_exit ?_
    refine x_then ?_
    refine x_then ?_
    refine in_exit ?_
    refine e_then ?_
    refine c_seq ?_
    refine region_told [.val (.agg (nums .u32 (cl (stepsL (expandL s) c 58)))), .val (.agg (nums .u32 (cl (stepsL (expandL s) c 58)))), .new (nums .u32 (List.replicate 5 0)) 40 4 (nums .u32 (cl (stepsL (expandL s) c 58))), .new (nums .u32 (List.replicate 5 0)) 40 5 (nums .u32 (cl (stepsL (expandL s) c 58))), .put 2 0, .put 3 1] hm (by kernel_rfl) rfl z25 (allO_cons ?_ (allO_cons ?_ (allO_cons (stepO_new _ rfl rfl rfl zero40) (allO_cons (stepO_new _ rfl rfl rfl zero40) (allO_cons (stepO_put rfl rfl rfl rfl rfl rfl rfl rfl (((nums_size _ _).trans (List.length_replicate)).trans ((nums_size _ _).trans (cl_len (stepsL (expandL s) c 58))).symm) (nums_one _ _) (sz40.trans (congrArg some ((nums_size _ _).trans (cl_len (stepsL (expandL s) c 58))).symm))) (allO_cons (stepO_put rfl rfl rfl rfl rfl rfl rfl rfl (((nums_size _ _).trans (List.length_replicate)).trans ((nums_size _ _).trans (cl_len (stepsL (expandL s) c 58))).symm) (nums_one _ _) (sz40.trans (congrArg some ((nums_size _ _).trans (cl_len (stepsL (expandL s) c 58))).symm))) allO_nil)))))) ?_
    · exact stepO_val _ rfl rfl fun _ _ _ lw kp kn => q_row rfl Try.underlying40 rfl (sz40.trans (congrArg some ((nums_size _ _).trans (cl_len (stepsL (expandL s) c 58))).symm)) (kp _ _ rfl s9_25).ev (fun _ h => h.blk (lw.blk kg9_24)) rfl
    · exact stepO_val _ rfl rfl fun _ _ _ lw kp kn => q_row rfl Try.underlying40 rfl (sz40.trans (congrArg some ((nums_size _ _).trans (cl_len (stepsL (expandL s) c 58))).symm)) (kp _ _ rfl s9_25).ev (fun _ h => h.blk (lw.blk kg9_24)) rfl
    intro a26 w26 G D
    have bg3_26 := (heap_lt kg3_24)
    have bg5_26 := (heap_lt kg5_24)
    have bg7_26 := (heap_lt kg7_24)
    have bg8_26 := (heap_lt kg8_24)
    have bg9_26 := (heap_lt kg9_24)
    have sg11 := D.ptr 2 _ _ _ _ _ rfl rfl
    have hgg11 := D.ge 2 _ _ _ _ _ rfl rfl
    have kg11 := D.blk 2 _ _ _ _ _ rfl rfl
    have geg11 := Nat.le_trans low24.ge hgg11
    have sg12 := D.ptr 3 _ _ _ _ _ rfl rfl
    have hgg12 := D.ge 3 _ _ _ _ _ rfl rfl
    have kg12 := D.blk 3 _ _ _ _ _ rfl rfl
    have geg12 := Nat.le_trans low24.ge hgg12
    have d26_2_3 := D.ne 2 3 _ _ _ _ _ _ _ _ rfl rfl rfl
    have h26 := D.low
    have kg3_26 := h26.blk kg3_24
    have kg5_26 := h26.blk kg5_24
    have kg7_26 := h26.blk kg7_24
    have kg8_26 := h26.blk kg8_24
    have kg9_26 := h26.blk kg9_24
    have z26 := D.fr
    have s1_26 := (D.keep _ _ rfl s1_25)
    have s3_26 := (D.keep _ _ rfl s3_25)
    have s5_26 := (D.keep _ _ rfl s5_25)
    have s7_26 := (D.keep _ _ rfl s7_25)
    have s8_26 := (D.keep _ _ rfl s8_25)
    have s9_26 := (D.keep _ _ rfl s9_25)
    have s10_26 := (D.keep _ _ rfl s10_25)
    have s28_26 := (D.keep _ _ rfl s28_25)
    have s37_26 := (D.val 0 _ _ rfl rfl)
    have s38_26 := (D.val 1 _ _ rfl rfl)
    clear D
    generalize G 2 = g11 at *
    generalize G 3 = g12 at *
    refine e_fresh z26 ?_
    intro a27 z27 m27
    have s1_27 := m27 _ _ s1_26
    have s3_27 := m27 _ _ s3_26
    have s5_27 := m27 _ _ s5_26
    have s7_27 := m27 _ _ s7_26
    have s8_27 := m27 _ _ s8_26
    have s11_27 := m27 _ _ sg11
    have s12_27 := m27 _ _ sg12
    have low27 := (low24.trans h26)
    clear m27
    refine e_then ?_
    refine c_seq ?_
    refine c_seq ?_
    refine c_region ?_
    refine l_q rfl (q_assign _ _ rfl rfl ?_)
    refine l_end ?_
    refine e_fresh z27.put ?_
    intro a28 z28 m28
    have s1_28 := m28 _ _ (s1_27.ne rfl)
    have s3_28 := m28 _ _ (s3_27.ne rfl)
    have s5_28 := m28 _ _ (s5_27.ne rfl)
    have s7_28 := m28 _ _ (s7_27.ne rfl)
    have s8_28 := m28 _ _ (s8_27.ne rfl)
    have s11_28 := m28 _ _ (s11_27.ne rfl)
    have s12_28 := m28 _ _ (s12_27.ne rfl)
    have s13_28 := m28 _ _ (At.hit z27 rfl)
    clear m28
    refine e_then ?_
    refine wp_block ?_
    refine c_loop 58 (fun k a w => Fr 96 a ∧ At a 1 (.string s) ∧ At a 3 (.pointer (some ⟨g3, 0, none⟩)) ∧ At a 5 (.pointer (some ⟨g5, 0, none⟩)) ∧ At a 7 (.pointer (some ⟨g7, 0, none⟩)) ∧ At a 8 (.pointer (some ⟨g8, 0, none⟩)) ∧ At a 11 (.pointer (some ⟨g11, 0, none⟩)) ∧ At a 12 (.pointer (some ⟨g12, 0, none⟩)) ∧ At a 13 (.int .i64 (57 - ((k : Nat) : Int))) ∧ w.heap[g11]? = some (.cells (nums .u32 (cl (backX (expandL s) (differenceL ty K B) (midL c s) backL k))) 40) ∧ w.heap[g12]? = some (.cells (nums .u32 (cl (stepsL (expandL s) c 58))) 40) ∧ w.heap[g3]? = some (.cells (nums .u32 (cl c)) 36) ∧ w.heap[g5]? = some (.cells (#[.int .i64 ty, .int .i64 K, .int .i64 B]) 23) ∧ w.heap[g7]? = some (.cells (nums .u32 (differenceL ty K B)) 32) ∧ w.heap[g8]? = some (.cells (nums .u32 (expandL s)) 32) ∧ Low w0 w) ?_ ?_ ?_
    · exact ⟨z28, s1_28, s3_28, s5_28, s7_28, s8_28, s11_28, s12_28, (s13_28.same (congrArg (Value.int .i64) (by omega))), kg11, kg12, kg3_26, kg5_26, kg7_26, kg8_26, low27⟩
    · intro k a29 w29 hk29 h
      obtain ⟨z29, s1_29, s3_29, s5_29, s7_29, s8_29, s11_29, s12_29, s13_29, kg11_29, kg12_29, kg3_29, kg5_29, kg7_29, kg8_29, low29⟩ := h
      clear kg11 kg12 kg3_26 kg5_26 kg7_26 kg8_26 low27 s11_28 s12_28 s13_28 s1_28 s3_28 s5_28 s7_28 s8_28 z28
      refine c_seq ?_
      refine c_seq ?_
      refine c_region ?_
      refine l_q rfl (q_move _ _ rfl s13_29.ev ?_)
      refine l_q rfl (q_geq true rfl (At.hit z29 rfl).ev rfl (decide_eq_true (by omega)) ?_)
      refine l_end ?_
      refine e_fresh z29.put.put ?_
      intro a30 z30 m30
      have s1_30 := m30 _ _ ((s1_29.ne rfl).ne rfl)
      have s3_30 := m30 _ _ ((s3_29.ne rfl).ne rfl)
      have s5_30 := m30 _ _ ((s5_29.ne rfl).ne rfl)
      have s7_30 := m30 _ _ ((s7_29.ne rfl).ne rfl)
      have s8_30 := m30 _ _ ((s8_29.ne rfl).ne rfl)
      have s11_30 := m30 _ _ ((s11_29.ne rfl).ne rfl)
      have s12_30 := m30 _ _ ((s12_29.ne rfl).ne rfl)
      have s13_30 := m30 _ _ ((s13_29.ne rfl).ne rfl)
      have s40_30 := m30 _ _ (At.hit z29.put rfl)
      clear m30
      refine e_then ?_
      refine c_true s40_30 ?_
      refine wp_skip ?_
      refine e_then ?_
      refine c_seq ?_
      refine wp_block ?_
      refine region_low_tail 10 hm (by kernel_rfl) ?_
      simp only [List.take_succ_cons, List.take_zero, List.drop_succ_cons, List.drop_zero]
      refine qs (q_row rfl Try.underlying40 rfl (sz40.trans (congrArg some ((nums_size _ _).trans (cl_len (backX (expandL s) (differenceL ty K B) (midL c s) backL k))).symm)) s11_30.ev (fun _ h => h.blk kg11_29) ?_)
      refine qs (q_move _ _ rfl (s13_30.ne rfl).ev ?_)
      refine qs (q_move _ _ rfl ((s13_30.ne rfl).ne rfl).ev ?_)
      refine qs (q_idx (j := 57 - k) rfl Try.underlying32 sz30 (((s8_30.ne rfl).ne rfl).ne rfl).ev ((At.hit z30.put.put rfl).same (congrArg (Value.int .i64) (show ((57 - ((k : Nat) : Int)) : Int) = ((57 - k : Nat) : Int) by omega))).ev (by omega) ?_)
      refine qs (q_cell (.int .u32 ((expandL s).getD (57 - k) 0)) rfl Try.underlying30 (At.hit z30.put.put.put rfl).ev (fun _ h => nums_cell (h.blk kg8_29) (57 - k) (by rw [(expandL_len s)]; omega)) ?_)
      refine qs (q_move _ _ rfl (((((s13_30.ne rfl).ne rfl).ne rfl).ne rfl).ne rfl).ev ?_)
      refine qs (q_idx (j := 57 - k) rfl Try.underlying32 sz30 ((((((s7_30.ne rfl).ne rfl).ne rfl).ne rfl).ne rfl).ne rfl).ev ((At.hit z30.put.put.put.put.put rfl).same (congrArg (Value.int .i64) (show ((57 - ((k : Nat) : Int)) : Int) = ((57 - k : Nat) : Int) by omega))).ev (by omega) ?_)
      refine qs (q_cell (.int .u32 ((differenceL ty K B).getD (57 - k) 0)) rfl Try.underlying30 (At.hit z30.put.put.put.put.put.put rfl).ev (fun _ h => nums_cell (h.blk kg7_29) (57 - k) (by rw [(differenceL_len _ _ _)]; omega)) ?_)
      refine q_fresh z30.put.put.put.put.put.put.put.put ?_
      intro a31 z31 m31
      have s1_31 := m31 _ _ ((((((((s1_30.ne rfl).ne rfl).ne rfl).ne rfl).ne rfl).ne rfl).ne rfl).ne rfl)
      have s3_31 := m31 _ _ ((((((((s3_30.ne rfl).ne rfl).ne rfl).ne rfl).ne rfl).ne rfl).ne rfl).ne rfl)
      have s5_31 := m31 _ _ ((((((((s5_30.ne rfl).ne rfl).ne rfl).ne rfl).ne rfl).ne rfl).ne rfl).ne rfl)
      have s7_31 := m31 _ _ ((((((((s7_30.ne rfl).ne rfl).ne rfl).ne rfl).ne rfl).ne rfl).ne rfl).ne rfl)
      have s8_31 := m31 _ _ ((((((((s8_30.ne rfl).ne rfl).ne rfl).ne rfl).ne rfl).ne rfl).ne rfl).ne rfl)
      have s11_31 := m31 _ _ ((((((((s11_30.ne rfl).ne rfl).ne rfl).ne rfl).ne rfl).ne rfl).ne rfl).ne rfl)
      have s12_31 := m31 _ _ ((((((((s12_30.ne rfl).ne rfl).ne rfl).ne rfl).ne rfl).ne rfl).ne rfl).ne rfl)
      have s13_31 := m31 _ _ ((((((((s13_30.ne rfl).ne rfl).ne rfl).ne rfl).ne rfl).ne rfl).ne rfl).ne rfl)
      have s43_31 := m31 _ _ ((((((((At.hit z30 rfl).ne rfl).ne rfl).ne rfl).ne rfl).ne rfl).ne rfl).ne rfl)
      have s44_31 := m31 _ _ (((((((At.hit z30.put rfl).ne rfl).ne rfl).ne rfl).ne rfl).ne rfl).ne rfl)
      have s47_31 := m31 _ _ ((((At.hit z30.put.put.put.put rfl).ne rfl).ne rfl).ne rfl)
      have s50_31 := m31 _ _ (At.hit z30.put.put.put.put.put.put.put rfl)
      clear m31
      refine qs (q_xor rfl s47_31.ev s50_31.ev ?_)
      refine qs (q_call (.agg (nums .u32 (cl (backL (backX (expandL s) (differenceL ty K B) (midL c s) backL k) (57 - ((k : Nat) : Int)) (Go.bits .xor .u32 ((expandL s).getD (57 - k) 0) ((differenceL ty K B).getD (57 - k) 0)))))) rfl rfl Try.func17 rfl (args3 rfl (s43_31.ne rfl).ev (s44_31.ne rfl).ev (At.hit z31 rfl).ev) (fun _ h => (BackL.calls (backX (expandL s) (differenceL ty K B) (midL c s) backL k) (57 - ((k : Nat) : Int)) (Go.bits .xor .u32 ((expandL s).getD (57 - k) 0) ((differenceL ty K B).getD (57 - k) 0)) _).mono fun _ _ ⟨e, k⟩ => ⟨e, h.trans k⟩) ?_)
      refine qz ?_
      intro w32 h32
      have kg11_32 := h32.blk kg11_29
      have kg12_32 := h32.blk kg12_29
      have kg3_32 := h32.blk kg3_29
      have kg5_32 := h32.blk kg5_29
      have kg7_32 := h32.blk kg7_29
      have kg8_32 := h32.blk kg8_29
      refine l_row rfl rfl rfl (sz40.trans (congrArg some ((nums_size _ _).trans (cl_len (backL (backX (expandL s) (differenceL ty K B) (midL c s) backL k) (57 - ((k : Nat) : Int)) (Go.bits .xor .u32 ((expandL s).getD (57 - k) 0) ((differenceL ty K B).getD (57 - k) 0))))).symm)) ((s11_31.ne rfl).ne rfl).ev (At.hit z31.put rfl).ev (nums_one _ _) kg11_32 (((nums_size _ _).trans (cl_len (backX (expandL s) (differenceL ty K B) (midL c s) backL k))).trans ((nums_size _ _).trans (cl_len (backL (backX (expandL s) (differenceL ty K B) (midL c s) backL k) (57 - ((k : Nat) : Int)) (Go.bits .xor .u32 ((expandL s).getD (57 - k) 0) ((differenceL ty K B).getD (57 - k) 0))))).symm) ?_
      intro w33 k33 u33
      have kg12_33 := u33.blk kg12_32 (by omega)
      have kg3_33 := u33.blk kg3_32 (by omega)
      have kg5_33 := u33.blk kg5_32 (by omega)
      have kg7_33 := u33.blk kg7_32 (by omega)
      have kg8_33 := u33.blk kg8_32 (by omega)
      refine l_end ?_
      refine e_fresh z31.put.put ?_
      intro a34 z34 m34
      have s1_34 := m34 _ _ ((s1_31.ne rfl).ne rfl)
      have s3_34 := m34 _ _ ((s3_31.ne rfl).ne rfl)
      have s5_34 := m34 _ _ ((s5_31.ne rfl).ne rfl)
      have s7_34 := m34 _ _ ((s7_31.ne rfl).ne rfl)
      have s8_34 := m34 _ _ ((s8_31.ne rfl).ne rfl)
      have s11_34 := m34 _ _ ((s11_31.ne rfl).ne rfl)
      have s12_34 := m34 _ _ ((s12_31.ne rfl).ne rfl)
      have s13_34 := m34 _ _ ((s13_31.ne rfl).ne rfl)
      have low34 := ((low29.trans h32).upd u33 geg11)
      clear m34
      refine e_in ?_
      refine e_then ?_
      refine c_region ?_
      refine l_q rfl (q_move _ _ rfl s13_34.ev ?_)
      refine l_q rfl (q_sub ((56 - ((k : Nat) : Int))) rfl (At.hit z34 rfl).ev rfl (i64_is (by omega) (by omega) (by omega)) ?_)
      refine l_q rfl (q_assign _ _ rfl (At.hit z34.put rfl).ev ?_)
      refine l_end ?_
      refine e_fresh z34.put.put.put ?_
      intro a35 z35 m35
      have s1_35 := m35 _ _ (((s1_34.ne rfl).ne rfl).ne rfl)
      have s3_35 := m35 _ _ (((s3_34.ne rfl).ne rfl).ne rfl)
      have s5_35 := m35 _ _ (((s5_34.ne rfl).ne rfl).ne rfl)
      have s7_35 := m35 _ _ (((s7_34.ne rfl).ne rfl).ne rfl)
      have s8_35 := m35 _ _ (((s8_34.ne rfl).ne rfl).ne rfl)
      have s11_35 := m35 _ _ (((s11_34.ne rfl).ne rfl).ne rfl)
      have s12_35 := m35 _ _ (((s12_34.ne rfl).ne rfl).ne rfl)
      have s13_35 := m35 _ _ (At.hit z34.put.put rfl)
      clear m35
      exact ⟨z35, s1_35, s3_35, s5_35, s7_35, s8_35, s11_35, s12_35, (s13_35.same (congrArg (Value.int .i64) (by omega))), k33, kg12_33, kg3_33, kg5_33, kg7_33, kg8_33, low34⟩
    · intro a36 w36 h
      obtain ⟨z36, s1_36, s3_36, s5_36, s7_36, s8_36, s11_36, s12_36, s13_36, kg11_36, kg12_36, kg3_36, kg5_36, kg7_36, kg8_36, low36⟩ := h
      clear kg11 kg12 kg3_26 kg5_26 kg7_26 kg8_26 low27 s11_28 s12_28 s13_28 s1_28 s3_28 s5_28 s7_28 s8_28 z28
      refine c_seq ?_
      refine c_seq ?_
      refine c_region ?_
      refine l_q rfl (q_move _ _ rfl s13_36.ev ?_)
      refine l_q rfl (q_geq false rfl (At.hit z36 rfl).ev rfl (decide_eq_false (by omega)) ?_)
      refine l_end ?_
      refine e_fresh z36.put.put ?_
      intro a37 z37 m37
      have s1_37 := m37 _ _ ((s1_36.ne rfl).ne rfl)
      have s3_37 := m37 _ _ ((s3_36.ne rfl).ne rfl)
      have s5_37 := m37 _ _ ((s5_36.ne rfl).ne rfl)
      have s7_37 := m37 _ _ ((s7_36.ne rfl).ne rfl)
      have s8_37 := m37 _ _ ((s8_36.ne rfl).ne rfl)
      have s11_37 := m37 _ _ ((s11_36.ne rfl).ne rfl)
      have s12_37 := m37 _ _ ((s12_36.ne rfl).ne rfl)
      have s13_37 := m37 _ _ ((s13_36.ne rfl).ne rfl)
      have s40_37 := m37 _ _ (At.hit z36.put rfl)
      clear m37
      refine e_then ?_
      refine c_false s40_37 ?_
      refine wp_exit ?_
      refine x_then ?_
      refine x_then ?_
      refine in_exit ?_
      refine e_then ?_
      refine c_seq ?_
      refine c_seq ?_
      refine c_region ?_
      refine l_q rfl (q_assign _ _ rfl rfl ?_)
      refine l_end ?_
      refine e_fresh z37.put ?_
      intro a38 z38 m38
      have s1_38 := m38 _ _ (s1_37.ne rfl)
      have s3_38 := m38 _ _ (s3_37.ne rfl)
      have s5_38 := m38 _ _ (s5_37.ne rfl)
      have s7_38 := m38 _ _ (s7_37.ne rfl)
      have s8_38 := m38 _ _ (s8_37.ne rfl)
      have s11_38 := m38 _ _ (s11_37.ne rfl)
      have s12_38 := m38 _ _ (s12_37.ne rfl)
      have s14_38 := m38 _ _ (At.hit z37 rfl)
      clear m38
      refine e_then ?_
      refine wp_block ?_
      refine c_loop 22 (fun k a w => Fr 96 a ∧ At a 1 (.string s) ∧ At a 3 (.pointer (some ⟨g3, 0, none⟩)) ∧ At a 5 (.pointer (some ⟨g5, 0, none⟩)) ∧ At a 7 (.pointer (some ⟨g7, 0, none⟩)) ∧ At a 8 (.pointer (some ⟨g8, 0, none⟩)) ∧ At a 11 (.pointer (some ⟨g11, 0, none⟩)) ∧ At a 12 (.pointer (some ⟨g12, 0, none⟩)) ∧ At a 14 (.int .i64 ((k + 58 : Nat) : Int)) ∧ w.heap[g11]? = some (.cells (nums .u32 (cl (backX (expandL s) (differenceL ty K B) (midL c s) backL 58))) 40) ∧ w.heap[g12]? = some (.cells (nums .u32 (cl (stepsX (expandL s) (differenceL ty K B) (midL c s) stepL 58 k))) 40) ∧ w.heap[g3]? = some (.cells (nums .u32 (cl c)) 36) ∧ w.heap[g5]? = some (.cells (#[.int .i64 ty, .int .i64 K, .int .i64 B]) 23) ∧ w.heap[g7]? = some (.cells (nums .u32 (differenceL ty K B)) 32) ∧ w.heap[g8]? = some (.cells (nums .u32 (expandL s)) 32) ∧ Low w0 w) ?_ ?_ ?_
      · exact ⟨z38, s1_38, s3_38, s5_38, s7_38, s8_38, s11_38, s12_38, (s14_38.same (congrArg (Value.int .i64) (by omega))), kg11_36, kg12_36, kg3_36, kg5_36, kg7_36, kg8_36, low36⟩
      · intro k a39 w39 hk39 h
        obtain ⟨z39, s1_39, s3_39, s5_39, s7_39, s8_39, s11_39, s12_39, s14_39, kg11_39, kg12_39, kg3_39, kg5_39, kg7_39, kg8_39, low39⟩ := h
        clear kg11_36 kg12_36 kg3_36 kg5_36 kg7_36 kg8_36 low36 s11_38 s12_38 s14_38 s1_38 s3_38 s5_38 s7_38 s8_38 z38
        refine c_seq ?_
        refine c_seq ?_
        refine c_region ?_
        refine l_q rfl (q_move _ _ rfl s14_39.ev ?_)
        refine l_q rfl (q_lss true rfl (At.hit z39 rfl).ev rfl (decide_eq_true (by omega)) ?_)
        refine l_end ?_
        refine e_fresh z39.put.put ?_
        intro a40 z40 m40
        have s1_40 := m40 _ _ ((s1_39.ne rfl).ne rfl)
        have s3_40 := m40 _ _ ((s3_39.ne rfl).ne rfl)
        have s5_40 := m40 _ _ ((s5_39.ne rfl).ne rfl)
        have s7_40 := m40 _ _ ((s7_39.ne rfl).ne rfl)
        have s8_40 := m40 _ _ ((s8_39.ne rfl).ne rfl)
        have s11_40 := m40 _ _ ((s11_39.ne rfl).ne rfl)
        have s12_40 := m40 _ _ ((s12_39.ne rfl).ne rfl)
        have s14_40 := m40 _ _ ((s14_39.ne rfl).ne rfl)
        have s54_40 := m40 _ _ (At.hit z39.put rfl)
        clear m40
        refine e_then ?_
        refine c_true s54_40 ?_
        refine wp_skip ?_
        refine e_then ?_
        refine c_seq ?_
        refine wp_block ?_
        refine region_low_tail 10 hm (by kernel_rfl) ?_
        simp only [List.take_succ_cons, List.take_zero, List.drop_succ_cons, List.drop_zero]
        refine qs (q_row rfl Try.underlying40 rfl (sz40.trans (congrArg some ((nums_size _ _).trans (cl_len (stepsX (expandL s) (differenceL ty K B) (midL c s) stepL 58 k))).symm)) s12_40.ev (fun _ h => h.blk kg12_39) ?_)
        refine qs (q_move _ _ rfl (s14_40.ne rfl).ev ?_)
        refine qs (q_move _ _ rfl ((s14_40.ne rfl).ne rfl).ev ?_)
        refine qs (q_idx (j := k + 58) rfl Try.underlying32 sz30 (((s8_40.ne rfl).ne rfl).ne rfl).ev (At.hit z40.put.put rfl).ev (by omega) ?_)
        refine qs (q_cell (.int .u32 ((expandL s).getD (k + 58) 0)) rfl Try.underlying30 (At.hit z40.put.put.put rfl).ev (fun _ h => nums_cell (h.blk kg8_39) (k + 58) (by rw [(expandL_len s)]; omega)) ?_)
        refine qs (q_move _ _ rfl (((((s14_40.ne rfl).ne rfl).ne rfl).ne rfl).ne rfl).ev ?_)
        refine qs (q_idx (j := k + 58) rfl Try.underlying32 sz30 ((((((s7_40.ne rfl).ne rfl).ne rfl).ne rfl).ne rfl).ne rfl).ev (At.hit z40.put.put.put.put.put rfl).ev (by omega) ?_)
        refine qs (q_cell (.int .u32 ((differenceL ty K B).getD (k + 58) 0)) rfl Try.underlying30 (At.hit z40.put.put.put.put.put.put rfl).ev (fun _ h => nums_cell (h.blk kg7_39) (k + 58) (by rw [(differenceL_len _ _ _)]; omega)) ?_)
        refine q_fresh z40.put.put.put.put.put.put.put.put ?_
        intro a41 z41 m41
        have s1_41 := m41 _ _ ((((((((s1_40.ne rfl).ne rfl).ne rfl).ne rfl).ne rfl).ne rfl).ne rfl).ne rfl)
        have s3_41 := m41 _ _ ((((((((s3_40.ne rfl).ne rfl).ne rfl).ne rfl).ne rfl).ne rfl).ne rfl).ne rfl)
        have s5_41 := m41 _ _ ((((((((s5_40.ne rfl).ne rfl).ne rfl).ne rfl).ne rfl).ne rfl).ne rfl).ne rfl)
        have s7_41 := m41 _ _ ((((((((s7_40.ne rfl).ne rfl).ne rfl).ne rfl).ne rfl).ne rfl).ne rfl).ne rfl)
        have s8_41 := m41 _ _ ((((((((s8_40.ne rfl).ne rfl).ne rfl).ne rfl).ne rfl).ne rfl).ne rfl).ne rfl)
        have s11_41 := m41 _ _ ((((((((s11_40.ne rfl).ne rfl).ne rfl).ne rfl).ne rfl).ne rfl).ne rfl).ne rfl)
        have s12_41 := m41 _ _ ((((((((s12_40.ne rfl).ne rfl).ne rfl).ne rfl).ne rfl).ne rfl).ne rfl).ne rfl)
        have s14_41 := m41 _ _ ((((((((s14_40.ne rfl).ne rfl).ne rfl).ne rfl).ne rfl).ne rfl).ne rfl).ne rfl)
        have s57_41 := m41 _ _ ((((((((At.hit z40 rfl).ne rfl).ne rfl).ne rfl).ne rfl).ne rfl).ne rfl).ne rfl)
        have s58_41 := m41 _ _ (((((((At.hit z40.put rfl).ne rfl).ne rfl).ne rfl).ne rfl).ne rfl).ne rfl)
        have s61_41 := m41 _ _ ((((At.hit z40.put.put.put.put rfl).ne rfl).ne rfl).ne rfl)
        have s64_41 := m41 _ _ (At.hit z40.put.put.put.put.put.put.put rfl)
        clear m41
        refine qs (q_xor rfl s61_41.ev s64_41.ev ?_)
        refine qs (q_call (.agg (nums .u32 (cl (stepL (stepsX (expandL s) (differenceL ty K B) (midL c s) stepL 58 k) ((k + 58 : Nat) : Int) (Go.bits .xor .u32 ((expandL s).getD (k + 58) 0) ((differenceL ty K B).getD (k + 58) 0)))))) rfl rfl Try.func16 rfl (args3 rfl (s57_41.ne rfl).ev (s58_41.ne rfl).ev (At.hit z41 rfl).ev) (fun _ h => (StepL.calls (stepsX (expandL s) (differenceL ty K B) (midL c s) stepL 58 k) ((k + 58 : Nat) : Int) (Go.bits .xor .u32 ((expandL s).getD (k + 58) 0) ((differenceL ty K B).getD (k + 58) 0)) _).mono fun _ _ ⟨e, k⟩ => ⟨e, h.trans k⟩) ?_)
        refine qz ?_
        intro w42 h42
        have kg11_42 := h42.blk kg11_39
        have kg12_42 := h42.blk kg12_39
        have kg3_42 := h42.blk kg3_39
        have kg5_42 := h42.blk kg5_39
        have kg7_42 := h42.blk kg7_39
        have kg8_42 := h42.blk kg8_39
        refine l_row rfl rfl rfl (sz40.trans (congrArg some ((nums_size _ _).trans (cl_len (stepL (stepsX (expandL s) (differenceL ty K B) (midL c s) stepL 58 k) ((k + 58 : Nat) : Int) (Go.bits .xor .u32 ((expandL s).getD (k + 58) 0) ((differenceL ty K B).getD (k + 58) 0))))).symm)) ((s12_41.ne rfl).ne rfl).ev (At.hit z41.put rfl).ev (nums_one _ _) kg12_42 (((nums_size _ _).trans (cl_len (stepsX (expandL s) (differenceL ty K B) (midL c s) stepL 58 k))).trans ((nums_size _ _).trans (cl_len (stepL (stepsX (expandL s) (differenceL ty K B) (midL c s) stepL 58 k) ((k + 58 : Nat) : Int) (Go.bits .xor .u32 ((expandL s).getD (k + 58) 0) ((differenceL ty K B).getD (k + 58) 0))))).symm) ?_
        intro w43 k43 u43
        have kg11_43 := u43.blk kg11_42 (by omega)
        have kg3_43 := u43.blk kg3_42 (by omega)
        have kg5_43 := u43.blk kg5_42 (by omega)
        have kg7_43 := u43.blk kg7_42 (by omega)
        have kg8_43 := u43.blk kg8_42 (by omega)
        refine l_end ?_
        refine e_fresh z41.put.put ?_
        intro a44 z44 m44
        have s1_44 := m44 _ _ ((s1_41.ne rfl).ne rfl)
        have s3_44 := m44 _ _ ((s3_41.ne rfl).ne rfl)
        have s5_44 := m44 _ _ ((s5_41.ne rfl).ne rfl)
        have s7_44 := m44 _ _ ((s7_41.ne rfl).ne rfl)
        have s8_44 := m44 _ _ ((s8_41.ne rfl).ne rfl)
        have s11_44 := m44 _ _ ((s11_41.ne rfl).ne rfl)
        have s12_44 := m44 _ _ ((s12_41.ne rfl).ne rfl)
        have s14_44 := m44 _ _ ((s14_41.ne rfl).ne rfl)
        have low44 := ((low39.trans h42).upd u43 geg12)
        clear m44
        refine e_in ?_
        refine e_then ?_
        refine c_region ?_
        refine l_q rfl (q_move _ _ rfl s14_44.ev ?_)
        refine l_q rfl (q_add (((k + 59 : Nat) : Int)) rfl (At.hit z44 rfl).ev rfl (i64_is (by omega) (by omega) (by omega)) ?_)
        refine l_q rfl (q_assign _ _ rfl (At.hit z44.put rfl).ev ?_)
        refine l_end ?_
        refine e_fresh z44.put.put.put ?_
        intro a45 z45 m45
        have s1_45 := m45 _ _ (((s1_44.ne rfl).ne rfl).ne rfl)
        have s3_45 := m45 _ _ (((s3_44.ne rfl).ne rfl).ne rfl)
        have s5_45 := m45 _ _ (((s5_44.ne rfl).ne rfl).ne rfl)
        have s7_45 := m45 _ _ (((s7_44.ne rfl).ne rfl).ne rfl)
        have s8_45 := m45 _ _ (((s8_44.ne rfl).ne rfl).ne rfl)
        have s11_45 := m45 _ _ (((s11_44.ne rfl).ne rfl).ne rfl)
        have s12_45 := m45 _ _ (((s12_44.ne rfl).ne rfl).ne rfl)
        have s14_45 := m45 _ _ (At.hit z44.put.put rfl)
        clear m45
        exact ⟨z45, s1_45, s3_45, s5_45, s7_45, s8_45, s11_45, s12_45, (s14_45.same (congrArg (Value.int .i64) (by omega))), kg11_43, k43, kg3_43, kg5_43, kg7_43, kg8_43, low44⟩
      · intro a46 w46 h
        obtain ⟨z46, s1_46, s3_46, s5_46, s7_46, s8_46, s11_46, s12_46, s14_46, kg11_46, kg12_46, kg3_46, kg5_46, kg7_46, kg8_46, low46⟩ := h
        clear kg11_36 kg12_36 kg3_36 kg5_36 kg7_36 kg8_36 low36 s11_38 s12_38 s14_38 s1_38 s3_38 s5_38 s7_38 s8_38 z38
        refine c_seq ?_
        refine c_seq ?_
        refine c_region ?_
        refine l_q rfl (q_move _ _ rfl s14_46.ev ?_)
        refine l_q rfl (q_lss false rfl (At.hit z46 rfl).ev rfl (decide_eq_false (by omega)) ?_)
        refine l_end ?_
        refine e_fresh z46.put.put ?_
        intro a47 z47 m47
        have s1_47 := m47 _ _ ((s1_46.ne rfl).ne rfl)
        have s3_47 := m47 _ _ ((s3_46.ne rfl).ne rfl)
        have s5_47 := m47 _ _ ((s5_46.ne rfl).ne rfl)
        have s7_47 := m47 _ _ ((s7_46.ne rfl).ne rfl)
        have s8_47 := m47 _ _ ((s8_46.ne rfl).ne rfl)
        have s11_47 := m47 _ _ ((s11_46.ne rfl).ne rfl)
        have s12_47 := m47 _ _ ((s12_46.ne rfl).ne rfl)
        have s14_47 := m47 _ _ ((s14_46.ne rfl).ne rfl)
        have s54_47 := m47 _ _ (At.hit z46.put rfl)
        clear m47
        refine e_then ?_
        refine c_false s54_47 ?_
        refine wp_exit ?_
        refine x_then ?_
        refine x_then ?_
        refine in_exit ?_
        refine e_then ?_
        refine c_seq ?_
        refine c_region ?_
        refine l_q rfl (q_row rfl Try.underlying36 rfl (sz36.trans (congrArg some ((nums_size _ _).trans (cl_len c)).symm)) s3_47.ev (fun _ e => by rw [e]; exact kg3_46) ?_)
        refine l_q rfl (q_move _ _ rfl (s1_47.ne rfl).ev ?_)
        refine l_call (fun v w' => v = .agg (nums .u32 (cl (prL c s))) ∧ Low w46 w') rfl rfl rfl Try.func18 rfl (args2 rfl ((At.hit z47 rfl).ne rfl).ev (At.hit z47.put rfl).ev) ((PrL.calls c s (by omega) _).mono fun _ _ ⟨e, k⟩ => ⟨_, e, rfl, k⟩) ?_
        rintro _ w48 ⟨rfl, h48⟩
        have kg11_48 := h48.blk kg11_46
        have kg12_48 := h48.blk kg12_46
        have kg3_48 := h48.blk kg3_46
        have kg5_48 := h48.blk kg5_46
        have kg7_48 := h48.blk kg7_46
        have kg8_48 := h48.blk kg8_46
        refine l_alloc rfl rfl zero40 ?_
        intro g15 w49 hg49 k49 h49
        have lt_g11_g15 := Nat.lt_of_lt_of_le (heap_lt kg11_48) hg49
        have lt_g12_g15 := Nat.lt_of_lt_of_le (heap_lt kg12_48) hg49
        have lt_g3_g15 := Nat.lt_of_lt_of_le (heap_lt kg3_48) hg49
        have lt_g5_g15 := Nat.lt_of_lt_of_le (heap_lt kg5_48) hg49
        have lt_g7_g15 := Nat.lt_of_lt_of_le (heap_lt kg7_48) hg49
        have lt_g8_g15 := Nat.lt_of_lt_of_le (heap_lt kg8_48) hg49
        have geg15 := Nat.le_trans (low46.trans h48).ge hg49
        have kg11_49 := h49.blk kg11_48
        have kg12_49 := h49.blk kg12_48
        have kg3_49 := h49.blk kg3_48
        have kg5_49 := h49.blk kg5_48
        have kg7_49 := h49.blk kg7_48
        have kg8_49 := h49.blk kg8_48
        refine l_row rfl rfl rfl (sz40.trans (congrArg some ((nums_size _ _).trans (cl_len (prL c s))).symm)) (At.hit z47.put.put.put rfl).ev ((At.hit z47.put.put rfl).ne rfl).ev (nums_one _ _) k49 (((nums_size _ _).trans (List.length_replicate)).trans ((nums_size _ _).trans (cl_len (prL c s))).symm) ?_
        intro w50 k50 u50
        have kg11_50 := u50.blk kg11_49 (by omega)
        have kg12_50 := u50.blk kg12_49 (by omega)
        have kg3_50 := u50.blk kg3_49 (by omega)
        have kg5_50 := u50.blk kg5_49 (by omega)
        have kg7_50 := u50.blk kg7_49 (by omega)
        have kg8_50 := u50.blk kg8_49 (by omega)
        refine l_end ?_
        refine e_fresh z47.put.put.put.put ?_
        intro a51 z51 m51
        have s1_51 := m51 _ _ ((((s1_47.ne rfl).ne rfl).ne rfl).ne rfl)
        have s3_51 := m51 _ _ ((((s3_47.ne rfl).ne rfl).ne rfl).ne rfl)
        have s5_51 := m51 _ _ ((((s5_47.ne rfl).ne rfl).ne rfl).ne rfl)
        have s7_51 := m51 _ _ ((((s7_47.ne rfl).ne rfl).ne rfl).ne rfl)
        have s11_51 := m51 _ _ ((((s11_47.ne rfl).ne rfl).ne rfl).ne rfl)
        have s12_51 := m51 _ _ ((((s12_47.ne rfl).ne rfl).ne rfl).ne rfl)
        have s15_51 := m51 _ _ (At.hit z47.put.put.put rfl)
        have low51 := (((low46.trans h48).trans h49).upd u50 geg15)
        clear m51
        refine e_then ?_
        refine c_seq ?_
        refine c_seq ?_
        refine c_region ?_
        refine l_q rfl (q_assign _ _ rfl rfl ?_)
        refine l_end ?_
        refine e_fresh z51.put ?_
        intro a52 z52 m52
        have s1_52 := m52 _ _ (s1_51.ne rfl)
        have s3_52 := m52 _ _ (s3_51.ne rfl)
        have s5_52 := m52 _ _ (s5_51.ne rfl)
        have s7_52 := m52 _ _ (s7_51.ne rfl)
        have s11_52 := m52 _ _ (s11_51.ne rfl)
        have s12_52 := m52 _ _ (s12_51.ne rfl)
        have s15_52 := m52 _ _ (s15_51.ne rfl)
        have s16_52 := m52 _ _ (At.hit z51 rfl)
        clear m52
        refine e_then ?_
        refine wp_block ?_
        refine c_loop 5 (fun k a w => Fr 96 a ∧ At a 1 (.string s) ∧ At a 3 (.pointer (some ⟨g3, 0, none⟩)) ∧ At a 5 (.pointer (some ⟨g5, 0, none⟩)) ∧ At a 7 (.pointer (some ⟨g7, 0, none⟩)) ∧ At a 11 (.pointer (some ⟨g11, 0, none⟩)) ∧ At a 12 (.pointer (some ⟨g12, 0, none⟩)) ∧ At a 15 (.pointer (some ⟨g15, 0, none⟩)) ∧ At a 16 (.int .i64 ((k : Nat) : Int)) ∧ w.heap[g11]? = some (.cells (nums .u32 (cl (backX (expandL s) (differenceL ty K B) (midL c s) backL 58))) 40) ∧ w.heap[g12]? = some (.cells (nums .u32 (addL (cl (lastT c s (differenceL ty K B))) (cl (firstT c s (differenceL ty K B))) k)) 40) ∧ w.heap[g15]? = some (.cells (nums .u32 (cl (prL c s))) 40) ∧ w.heap[g3]? = some (.cells (nums .u32 (cl c)) 36) ∧ w.heap[g5]? = some (.cells (#[.int .i64 ty, .int .i64 K, .int .i64 B]) 23) ∧ w.heap[g7]? = some (.cells (nums .u32 (differenceL ty K B)) 32) ∧ Low w0 w) ?_ ?_ ?_
        · exact ⟨z52, s1_52, s3_52, s5_52, s7_52, s11_52, s12_52, s15_52, s16_52, kg11_50, kg12_50, k50, kg3_50, kg5_50, kg7_50, low51⟩
        · intro k a53 w53 hk53 h
          obtain ⟨z53, s1_53, s3_53, s5_53, s7_53, s11_53, s12_53, s15_53, s16_53, kg11_53, kg12_53, kg15_53, kg3_53, kg5_53, kg7_53, low53⟩ := h
          clear k50 kg11_50 kg12_50 kg3_50 kg5_50 kg7_50 low51 s11_52 s12_52 s15_52 s16_52 s1_52 s3_52 s5_52 s7_52 z52
          refine c_seq ?_
          refine c_seq ?_
          refine c_region ?_
          refine l_q rfl (q_move _ _ rfl s16_53.ev ?_)
          refine l_q rfl (q_lss true rfl (At.hit z53 rfl).ev rfl (decide_eq_true (by omega)) ?_)
          refine l_end ?_
          refine e_fresh z53.put.put ?_
          intro a54 z54 m54
          have s1_54 := m54 _ _ ((s1_53.ne rfl).ne rfl)
          have s3_54 := m54 _ _ ((s3_53.ne rfl).ne rfl)
          have s5_54 := m54 _ _ ((s5_53.ne rfl).ne rfl)
          have s7_54 := m54 _ _ ((s7_53.ne rfl).ne rfl)
          have s11_54 := m54 _ _ ((s11_53.ne rfl).ne rfl)
          have s12_54 := m54 _ _ ((s12_53.ne rfl).ne rfl)
          have s15_54 := m54 _ _ ((s15_53.ne rfl).ne rfl)
          have s16_54 := m54 _ _ ((s16_53.ne rfl).ne rfl)
          have s71_54 := m54 _ _ (At.hit z53.put rfl)
          clear m54
          refine e_then ?_
          refine c_true s71_54 ?_
          refine wp_skip ?_
          refine e_then ?_
          refine c_seq ?_
          refine wp_block ?_
          refine region_low_tail 9 hm (by kernel_rfl) ?_
          simp only [List.take_succ_cons, List.take_zero, List.drop_succ_cons, List.drop_zero]
          refine qs (q_move _ _ rfl s16_54.ev ?_)
          refine qs (q_move _ _ rfl (s16_54.ne rfl).ev ?_)
          refine qs (q_idx (j := k) rfl Try.underlying40 sz30 ((s12_54.ne rfl).ne rfl).ev (At.hit z54.put rfl).ev (by omega) ?_)
          refine qs (q_cell (.int .u32 ((addL (cl (lastT c s (differenceL ty K B))) (cl (firstT c s (differenceL ty K B))) k).getD k 0)) rfl Try.underlying30 (At.hit z54.put.put rfl).ev (fun _ h => nums_cell (h.blk kg12_53) k (by rw [(addL_len (cl _) _ k)]; omega)) ?_)
          refine qs (q_move _ _ rfl ((((s16_54.ne rfl).ne rfl).ne rfl).ne rfl).ev ?_)
          refine qs (q_idx (j := k) rfl Try.underlying40 sz30 (((((s11_54.ne rfl).ne rfl).ne rfl).ne rfl).ne rfl).ev (At.hit z54.put.put.put.put rfl).ev (by omega) ?_)
          refine qs (q_cell (.int .u32 ((cl (backX (expandL s) (differenceL ty K B) (midL c s) backL 58)).getD k 0)) rfl Try.underlying30 (At.hit z54.put.put.put.put.put rfl).ev (fun _ h => nums_cell (h.blk kg11_53) k (by rw [(cl_len (backX (expandL s) (differenceL ty K B) (midL c s) backL 58))]; omega)) ?_)
          refine qs (q_add _ rfl ((((At.hit z54.put.put.put rfl).ne rfl).ne rfl).ne rfl).ev (At.hit z54.put.put.put.put.put.put rfl).ev rfl ?_)
          refine q_fresh z54.put.put.put.put.put.put.put.put ?_
          intro a55 z55 m55
          have s1_55 := m55 _ _ ((((((((s1_54.ne rfl).ne rfl).ne rfl).ne rfl).ne rfl).ne rfl).ne rfl).ne rfl)
          have s3_55 := m55 _ _ ((((((((s3_54.ne rfl).ne rfl).ne rfl).ne rfl).ne rfl).ne rfl).ne rfl).ne rfl)
          have s5_55 := m55 _ _ ((((((((s5_54.ne rfl).ne rfl).ne rfl).ne rfl).ne rfl).ne rfl).ne rfl).ne rfl)
          have s7_55 := m55 _ _ ((((((((s7_54.ne rfl).ne rfl).ne rfl).ne rfl).ne rfl).ne rfl).ne rfl).ne rfl)
          have s11_55 := m55 _ _ ((((((((s11_54.ne rfl).ne rfl).ne rfl).ne rfl).ne rfl).ne rfl).ne rfl).ne rfl)
          have s12_55 := m55 _ _ ((((((((s12_54.ne rfl).ne rfl).ne rfl).ne rfl).ne rfl).ne rfl).ne rfl).ne rfl)
          have s15_55 := m55 _ _ ((((((((s15_54.ne rfl).ne rfl).ne rfl).ne rfl).ne rfl).ne rfl).ne rfl).ne rfl)
          have s16_55 := m55 _ _ ((((((((s16_54.ne rfl).ne rfl).ne rfl).ne rfl).ne rfl).ne rfl).ne rfl).ne rfl)
          have s74_55 := m55 _ _ ((((((((At.hit z54 rfl).ne rfl).ne rfl).ne rfl).ne rfl).ne rfl).ne rfl).ne rfl)
          have s81_55 := m55 _ _ (At.hit z54.put.put.put.put.put.put.put rfl)
          clear m55
          refine qs (q_idx (j := k) rfl Try.underlying40 sz30 s12_55.ev s74_55.ev (by omega) ?_)
          refine qz ?_
          intro w56 h56
          have kg11_56 := h56.blk kg11_53
          have kg12_56 := h56.blk kg12_53
          have kg15_56 := h56.blk kg15_53
          have kg3_56 := h56.blk kg3_53
          have kg5_56 := h56.blk kg5_53
          have kg7_56 := h56.blk kg7_53
          refine l_cell (j := k) (v := .int .u32 (IntKind.u32.wrap (((addL (cl (lastT c s (differenceL ty K B))) (cl (firstT c s (differenceL ty K B))) k).getD k 0) + ((cl (backX (expandL s) (differenceL ty K B) (midL c s) backL 58)).getD k 0)))) rfl rfl rfl sz30 (At.hit z55 rfl).ev (s81_55.ne rfl).ev rfl kg12_56 (by rw [(nums_size _ _).trans (addL_len (cl _) _ k)]; omega) ?_
          intro w57 k57 u57
          rw [nums_put] at k57
          have kg11_57 := u57.blk kg11_56 (by omega)
          have kg15_57 := u57.blk kg15_56 (by omega)
          have kg3_57 := u57.blk kg3_56 (by omega)
          have kg5_57 := u57.blk kg5_56 (by omega)
          have kg7_57 := u57.blk kg7_56 (by omega)
          refine l_end ?_
          refine e_fresh z55.put ?_
          intro a58 z58 m58
          have s1_58 := m58 _ _ (s1_55.ne rfl)
          have s3_58 := m58 _ _ (s3_55.ne rfl)
          have s5_58 := m58 _ _ (s5_55.ne rfl)
          have s7_58 := m58 _ _ (s7_55.ne rfl)
          have s11_58 := m58 _ _ (s11_55.ne rfl)
          have s12_58 := m58 _ _ (s12_55.ne rfl)
          have s15_58 := m58 _ _ (s15_55.ne rfl)
          have s16_58 := m58 _ _ (s16_55.ne rfl)
          have low58 := ((low53.trans h56).upd u57 geg12)
          clear m58
          refine e_in ?_
          refine e_then ?_
          refine c_region ?_
          refine l_q rfl (q_move _ _ rfl s16_58.ev ?_)
          refine l_q rfl (q_add (((k + 1 : Nat) : Int)) rfl (At.hit z58 rfl).ev rfl (i64_is (by omega) (by omega) (by omega)) ?_)
          refine l_q rfl (q_assign _ _ rfl (At.hit z58.put rfl).ev ?_)
          refine l_end ?_
          refine e_fresh z58.put.put.put ?_
          intro a59 z59 m59
          have s1_59 := m59 _ _ (((s1_58.ne rfl).ne rfl).ne rfl)
          have s3_59 := m59 _ _ (((s3_58.ne rfl).ne rfl).ne rfl)
          have s5_59 := m59 _ _ (((s5_58.ne rfl).ne rfl).ne rfl)
          have s7_59 := m59 _ _ (((s7_58.ne rfl).ne rfl).ne rfl)
          have s11_59 := m59 _ _ (((s11_58.ne rfl).ne rfl).ne rfl)
          have s12_59 := m59 _ _ (((s12_58.ne rfl).ne rfl).ne rfl)
          have s15_59 := m59 _ _ (((s15_58.ne rfl).ne rfl).ne rfl)
          have s16_59 := m59 _ _ (At.hit z58.put.put rfl)
          clear m59
          exact ⟨z59, s1_59, s3_59, s5_59, s7_59, s11_59, s12_59, s15_59, s16_59, kg11_57, k57, kg15_57, kg3_57, kg5_57, kg7_57, low58⟩
        · intro a60 w60 h
          obtain ⟨z60, s1_60, s3_60, s5_60, s7_60, s11_60, s12_60, s15_60, s16_60, kg11_60, kg12_60, kg15_60, kg3_60, kg5_60, kg7_60, low60⟩ := h
          clear k50 kg11_50 kg12_50 kg3_50 kg5_50 kg7_50 low51 s11_52 s12_52 s15_52 s16_52 s1_52 s3_52 s5_52 s7_52 z52
          refine c_seq ?_
          refine c_seq ?_
          refine c_region ?_
          refine l_q rfl (q_move _ _ rfl s16_60.ev ?_)
          refine l_q rfl (q_lss false rfl (At.hit z60 rfl).ev rfl (decide_eq_false (by omega)) ?_)
          refine l_end ?_
          refine e_fresh z60.put.put ?_
          intro a61 z61 m61
          have s1_61 := m61 _ _ ((s1_60.ne rfl).ne rfl)
          have s3_61 := m61 _ _ ((s3_60.ne rfl).ne rfl)
          have s5_61 := m61 _ _ ((s5_60.ne rfl).ne rfl)
          have s7_61 := m61 _ _ ((s7_60.ne rfl).ne rfl)
          have s11_61 := m61 _ _ ((s11_60.ne rfl).ne rfl)
          have s12_61 := m61 _ _ ((s12_60.ne rfl).ne rfl)
          have s15_61 := m61 _ _ ((s15_60.ne rfl).ne rfl)
          have s16_61 := m61 _ _ ((s16_60.ne rfl).ne rfl)
          have s71_61 := m61 _ _ (At.hit z60.put rfl)
          clear m61
          refine e_then ?_
          refine c_false s71_61 ?_
          refine wp_exit ?_
          refine x_then ?_
          refine x_then ?_
          refine in_exit ?_
          refine e_then ?_
          refine c_seq ?_
          refine region_lowg hm (by kernel_rfl) ?_
          refine gs rfl (q_row rfl Try.underlying36 rfl (sz36.trans (congrArg some ((nums_size _ _).trans (cl_len c)).symm)) s3_61.ev (fun _ h => h.blk kg3_60) ?_)
          refine gs rfl (q_move _ _ rfl (s1_61.ne rfl).ev ?_)
          refine gs rfl (q_row rfl Try.underlying23 rfl (sz23.trans (congrArg some rfl.symm)) ((s5_61.ne rfl).ne rfl).ev (fun _ h => h.blk kg5_60) ?_)
          refine gs rfl (q_call (.bool (markedL c s ty K B)) rfl rfl Try.func13 rfl (args3 rfl (((At.hit z61 rfl).ne rfl).ne rfl).ev ((At.hit z61.put rfl).ne rfl).ev (At.hit z61.put.put rfl).ev) (fun _ h => (MarkedL.calls c s (by omega) ty K B _).mono fun _ _ ⟨e, k⟩ => ⟨e, h.trans k⟩) ?_)
          refine gs rfl (q_row rfl Try.underlying32 rfl (sz32.trans (congrArg some ((nums_size _ _).trans (differenceL_len _ _ _)).symm)) ((((s7_61.ne rfl).ne rfl).ne rfl).ne rfl).ev (fun _ h => h.blk kg7_60) ?_)
          refine gs rfl (q_zero rfl Try.underlying32 sz30 zero32 ?_)
          refine gs rfl (q_nerow false rfl Try.eqGuardType32 Try.underlying32 Try.underlying30 info30 cells30 ((At.hit z61.put.put.put.put rfl).ne rfl).ev (At.hit z61.put.put.put.put.put rfl).ev (differenceL_len _ _ _) (List.length_replicate) (by rw [decide_eq_true hd]; rfl) ?_)
          refine gs rfl (q_move _ _ rfl (At.hit z61.put.put.put.put.put.put rfl).ev ?_)
          refine g_fresh z61.put.put.put.put.put.put.put.put ?_
          intro a62 z62 m62
          have s12_62 := m62 _ _ ((((((((s12_61.ne rfl).ne rfl).ne rfl).ne rfl).ne rfl).ne rfl).ne rfl).ne rfl)
          have s15_62 := m62 _ _ ((((((((s15_61.ne rfl).ne rfl).ne rfl).ne rfl).ne rfl).ne rfl).ne rfl).ne rfl)
          have s86_62 := m62 _ _ (((((At.hit z61.put.put.put rfl).ne rfl).ne rfl).ne rfl).ne rfl)
          have s90_62 := m62 _ _ (At.hit z61.put.put.put.put.put.put.put rfl)
          clear m62
          refine gsk (wanted_is (j := 7) (d := 90) (b := false) rfl rfl s90_62 rfl) ?_
          refine gsk (wanted_is (j := 7) (d := 90) (b := false) rfl rfl (s90_62.ne rfl) rfl) ?_
          refine gsk (wanted_is (j := 7) (d := 90) (b := false) rfl rfl ((s90_62.ne rfl).ne rfl) rfl) ?_
          refine gs rfl (q_pick (b := false) (.bool false) rfl (((s90_62.ne rfl).ne rfl).ne rfl).ev rfl ?_)
          refine gs rfl (q_boolq true rfl Try.underlying4 ((((s86_62.ne rfl).ne rfl).ne rfl).ne rfl).ev (At.hit z62.put.put.put rfl).ev (by rw [hmk, twinB, decide_eq_true hd]; rfl) ?_)
          refine gs rfl (q_assign _ _ rfl (At.hit z62.put.put.put.put rfl).ev ?_)
          refine gz ?_
          intro w63 h63
          have kg11_63 := h63.blk kg11_60
          have kg12_63 := h63.blk kg12_60
          have kg15_63 := h63.blk kg15_60
          have kg3_63 := h63.blk kg3_60
          have kg5_63 := h63.blk kg5_60
          have kg7_63 := h63.blk kg7_60
          refine e_id ?_
          refine e_fresh z62.put.put.put.put.put.put ?_
          intro a64 z64 m64
          have s6_64 := m64 _ _ (At.hit z62.put.put.put.put.put rfl)
          have low64 := (low60.trans h63)
          clear m64
          refine e_then ?_
          refine wp_ret ?_
          refine r_tmp rfl z64.defers s6_64 ?_
          exact ⟨rfl, low64⟩
theorem Twins_c.calls (awk : ∀ w : World, Calls Try.prog 6 #[] w fun e w' => e = .returned (.bool true) ∧ Low w w') (c : Ch) (s : ByteArray) (ty K B : Int) (h1 : ¬ s.size > 200) (hd : ¬ differenceL ty K B = List.replicate 80 0) (hmk : markedL c s ty K B = twinB c s ty K B) (w0 : World) : Calls Try.prog 5 #[.agg (nums .u32 (cl c)), .string s, .agg #[.int .i64 ty, .int .i64 K, .int .i64 B]] w0 fun e w' => e = .returned (.bool true) ∧ Low w0 w' := by
  refine c_fun (R := _) Try.func5 rfl 96 rfl (Nat.le_of_ble_eq_true rfl) ?_
  intro a z hA
  have s0 := hA 0 _ rfl
  have s1 := hA 1 _ rfl
  have s2 := hA 2 _ rfl
  clear hA
  refine c_seq ?_
  refine c_region ?_
  refine l_box rfl rfl s0.ev ?_
  intro g3 w1 hg1 k1 h1
  have geg3 := Nat.le_trans (Low.refl _).ge hg1
  refine l_box rfl rfl (s2.ne rfl).ev ?_
  intro g5 w2 hg2 k2 h2
  have lt_g3_g5 := Nat.lt_of_lt_of_le (heap_lt k1) hg2
  have geg5 := Nat.le_trans h1.ge hg2
  have kg3_2 := h2.blk k1
  refine l_q rfl (q_assign _ _ rfl rfl ?_)
  refine l_end ?_
  refine e_fresh z.put.put.put ?_
  intro a3 z3 m3
  have s1_3 := m3 _ _ (((s1.ne rfl).ne rfl).ne rfl)
  have s3_3 := m3 _ _ (((At.hit z rfl).ne rfl).ne rfl)
  have s5_3 := m3 _ _ ((At.hit z.put rfl).ne rfl)
  have low3 := (h1.trans h2)
  clear m3
  refine e_then ?_
  refine c_seq ?_
  refine c_seq ?_
  refine c_region ?_
  refine l_call (fun v w' => v = .bool true ∧ Low w2 w') rfl rfl rfl Try.func6 rfl (show Array.map _ _ = (#[] : Array Value) from by simp) ((awk _).mono fun _ _ ⟨e, k⟩ => ⟨_, e, rfl, k⟩) ?_
  rintro _ w4 ⟨rfl, h4⟩
  have kg3_4 := h4.blk kg3_2
  have kg5_4 := h4.blk k2
  refine l_q rfl (q_not (b := true) rfl (At.hit z3 rfl).ev ?_)
  refine l_end ?_
  refine e_fresh z3.put.put ?_
  intro a5 z5 m5
  have s1_5 := m5 _ _ ((s1_3.ne rfl).ne rfl)
  have s3_5 := m5 _ _ ((s3_3.ne rfl).ne rfl)
  have s5_5 := m5 _ _ ((s5_3.ne rfl).ne rfl)
  have s18_5 := m5 _ _ (At.hit z3.put rfl)
  have low5 := (low3.trans h4)
  clear m5
  refine e_then ?_
  refine c_false s18_5 ?_
  refine wp_skip ?_
  refine e_then ?_
  refine c_seq ?_
  refine c_seq ?_
  refine c_region ?_
  refine l_q rfl (q_move _ _ rfl s1_5.ev ?_)
  refine l_q rfl (q_len rfl rfl Try.underlying9 (At.hit z5 rfl).ev ?_)
  refine l_q rfl (q_gtr false rfl (At.hit z5.put rfl).ev rfl (decide_eq_false (by omega)) ?_)
  refine l_end ?_
  refine e_fresh z5.put.put.put ?_
  intro a6 z6 m6
  have s1_6 := m6 _ _ (((s1_5.ne rfl).ne rfl).ne rfl)
  have s3_6 := m6 _ _ (((s3_5.ne rfl).ne rfl).ne rfl)
  have s5_6 := m6 _ _ (((s5_5.ne rfl).ne rfl).ne rfl)
  have s21_6 := m6 _ _ (At.hit z5.put.put rfl)
  clear m6
  refine e_then ?_
  refine c_false s21_6 ?_
  refine wp_skip ?_
  refine e_then ?_
  refine c_seq ?_
  refine c_region ?_
  refine l_q rfl (q_row rfl Try.underlying23 rfl (sz23.trans (congrArg some rfl.symm)) s5_6.ev (fun _ e => by rw [e]; exact kg5_4) ?_)
  refine l_call (fun v w' => v = .agg (nums .u32 (differenceL ty K B)) ∧ Low w4 w') rfl rfl rfl Try.func9 rfl (args1 rfl (At.hit z6 rfl).ev) ((DifferenceL.calls ty K B _).mono fun _ _ ⟨e, k⟩ => ⟨_, e, rfl, k⟩) ?_
  rintro _ w7 ⟨rfl, h7⟩
  have kg3_7 := h7.blk kg3_4
  have kg5_7 := h7.blk kg5_4
  refine l_q rfl (q_move _ _ rfl ((s1_6.ne rfl).ne rfl).ev ?_)
  refine l_call (fun v w' => v = .agg (nums .u32 (expandL s)) ∧ Low w7 w') rfl rfl rfl Try.func15 rfl (args1 rfl (At.hit z6.put.put rfl).ev) ((ExpandL.calls s (by omega) _).mono fun _ _ ⟨e, k⟩ => ⟨_, e, rfl, k⟩) ?_
  rintro _ w8 ⟨rfl, h8⟩
  have kg3_8 := h8.blk kg3_7
  have kg5_8 := h8.blk kg5_7
  refine l_alloc rfl rfl zero32 ?_
  intro g7 w9 hg9 k9 h9
  have lt_g3_g7 := Nat.lt_of_lt_of_le (heap_lt kg3_8) hg9
  have lt_g5_g7 := Nat.lt_of_lt_of_le (heap_lt kg5_8) hg9
  have geg7 := Nat.le_trans ((low5.trans h7).trans h8).ge hg9
  have kg3_9 := h9.blk kg3_8
  have kg5_9 := h9.blk kg5_8
  refine l_alloc rfl rfl zero32 ?_
  intro g8 w10 hg10 k10 h10
  have lt_g3_g8 := Nat.lt_of_lt_of_le (heap_lt kg3_9) hg10
  have lt_g5_g8 := Nat.lt_of_lt_of_le (heap_lt kg5_9) hg10
  have lt_g7_g8 := Nat.lt_of_lt_of_le (heap_lt k9) hg10
  have geg8 := Nat.le_trans (((low5.trans h7).trans h8).trans h9).ge hg10
  have kg3_10 := h10.blk kg3_9
  have kg5_10 := h10.blk kg5_9
  have kg7_10 := h10.blk k9
  refine l_row rfl rfl rfl (sz32.trans (congrArg some ((nums_size _ _).trans (differenceL_len _ _ _)).symm)) ((At.hit z6.put.put.put.put rfl).ne rfl).ev (((((At.hit z6.put rfl).ne rfl).ne rfl).ne rfl).ne rfl).ev (nums_one _ _) kg7_10 (((nums_size _ _).trans (List.length_replicate)).trans ((nums_size _ _).trans (differenceL_len _ _ _)).symm) ?_
  intro w11 k11 u11
  have kg3_11 := u11.blk kg3_10 (by omega)
  have kg5_11 := u11.blk kg5_10 (by omega)
  have kg8_11 := u11.blk k10 (by omega)
  refine l_row rfl rfl rfl (sz32.trans (congrArg some ((nums_size _ _).trans (expandL_len s)).symm)) (At.hit z6.put.put.put.put.put rfl).ev (((At.hit z6.put.put.put rfl).ne rfl).ne rfl).ev (nums_one _ _) kg8_11 (((nums_size _ _).trans (List.length_replicate)).trans ((nums_size _ _).trans (expandL_len s)).symm) ?_
  intro w12 k12 u12
  have kg3_12 := u12.blk kg3_11 (by omega)
  have kg5_12 := u12.blk kg5_11 (by omega)
  have kg7_12 := u12.blk k11 (by omega)
  refine l_end ?_
  refine e_fresh z6.put.put.put.put.put.put ?_
  intro a13 z13 m13
  have s1_13 := m13 _ _ ((((((s1_6.ne rfl).ne rfl).ne rfl).ne rfl).ne rfl).ne rfl)
  have s3_13 := m13 _ _ ((((((s3_6.ne rfl).ne rfl).ne rfl).ne rfl).ne rfl).ne rfl)
  have s5_13 := m13 _ _ ((((((s5_6.ne rfl).ne rfl).ne rfl).ne rfl).ne rfl).ne rfl)
  have s7_13 := m13 _ _ ((At.hit z6.put.put.put.put rfl).ne rfl)
  have s8_13 := m13 _ _ (At.hit z6.put.put.put.put.put rfl)
  have low13 := ((((((low5.trans h7).trans h8).trans h9).trans h10).upd u11 geg7).upd u12 geg8)
  clear m13
  refine e_then ?_
  refine c_seq ?_
  refine c_region ?_
  refine l_q rfl (q_row rfl Try.underlying36 rfl (sz36.trans (congrArg some ((nums_size _ _).trans (cl_len c)).symm)) s3_13.ev (fun _ e => by rw [e]; exact kg3_12) ?_)
  refine l_alloc rfl rfl zero40 ?_
  intro g9 w14 hg14 k14 h14
  have lt_g3_g9 := Nat.lt_of_lt_of_le (heap_lt kg3_12) hg14
  have lt_g5_g9 := Nat.lt_of_lt_of_le (heap_lt kg5_12) hg14
  have lt_g7_g9 := Nat.lt_of_lt_of_le (heap_lt kg7_12) hg14
  have lt_g8_g9 := Nat.lt_of_lt_of_le (heap_lt k12) hg14
  have geg9 := Nat.le_trans low13.ge hg14
  have kg3_14 := h14.blk kg3_12
  have kg5_14 := h14.blk kg5_12
  have kg7_14 := h14.blk kg7_12
  have kg8_14 := h14.blk k12
  refine l_row rfl rfl rfl (sz40.trans (congrArg some ((nums_size _ _).trans (cl_len c)).symm)) (At.hit z13.put rfl).ev ((At.hit z13 rfl).ne rfl).ev (nums_one _ _) k14 (((nums_size _ _).trans (List.length_replicate)).trans ((nums_size _ _).trans (cl_len c)).symm) ?_
  intro w15 k15 u15
  have kg3_15 := u15.blk kg3_14 (by omega)
  have kg5_15 := u15.blk kg5_14 (by omega)
  have kg7_15 := u15.blk kg7_14 (by omega)
  have kg8_15 := u15.blk kg8_14 (by omega)
  refine l_end ?_
  refine e_fresh z13.put.put ?_
  intro a16 z16 m16
  have s1_16 := m16 _ _ ((s1_13.ne rfl).ne rfl)
  have s3_16 := m16 _ _ ((s3_13.ne rfl).ne rfl)
  have s5_16 := m16 _ _ ((s5_13.ne rfl).ne rfl)
  have s7_16 := m16 _ _ ((s7_13.ne rfl).ne rfl)
  have s8_16 := m16 _ _ ((s8_13.ne rfl).ne rfl)
  have s9_16 := m16 _ _ (At.hit z13.put rfl)
  have low16 := ((low13.trans h14).upd u15 geg9)
  clear m16
  refine e_then ?_
  refine c_seq ?_
  refine c_seq ?_
  refine c_region ?_
  refine l_q rfl (q_assign _ _ rfl rfl ?_)
  refine l_end ?_
  refine e_fresh z16.put ?_
  intro a17 z17 m17
  have s1_17 := m17 _ _ (s1_16.ne rfl)
  have s3_17 := m17 _ _ (s3_16.ne rfl)
  have s5_17 := m17 _ _ (s5_16.ne rfl)
  have s7_17 := m17 _ _ (s7_16.ne rfl)
  have s8_17 := m17 _ _ (s8_16.ne rfl)
  have s9_17 := m17 _ _ (s9_16.ne rfl)
  have s10_17 := m17 _ _ (At.hit z16 rfl)
  clear m17
  refine e_then ?_
  refine wp_block ?_
  refine c_loop 58 (fun k a w => Fr 96 a ∧ At a 1 (.string s) ∧ At a 3 (.pointer (some ⟨g3, 0, none⟩)) ∧ At a 5 (.pointer (some ⟨g5, 0, none⟩)) ∧ At a 7 (.pointer (some ⟨g7, 0, none⟩)) ∧ At a 8 (.pointer (some ⟨g8, 0, none⟩)) ∧ At a 9 (.pointer (some ⟨g9, 0, none⟩)) ∧ At a 10 (.int .i64 ((k : Nat) : Int)) ∧ w.heap[g3]? = some (.cells (nums .u32 (cl c)) 36) ∧ w.heap[g5]? = some (.cells (#[.int .i64 ty, .int .i64 K, .int .i64 B]) 23) ∧ w.heap[g7]? = some (.cells (nums .u32 (differenceL ty K B)) 32) ∧ w.heap[g8]? = some (.cells (nums .u32 (expandL s)) 32) ∧ w.heap[g9]? = some (.cells (nums .u32 (cl (stepsL (expandL s) c k))) 40) ∧ Low w0 w) ?_ ?_ ?_
  · exact ⟨z17, s1_17, s3_17, s5_17, s7_17, s8_17, s9_17, s10_17, kg3_15, kg5_15, kg7_15, kg8_15, k15, low16⟩
  · intro k a18 w18 hk18 h
    obtain ⟨z18, s1_18, s3_18, s5_18, s7_18, s8_18, s9_18, s10_18, kg3_18, kg5_18, kg7_18, kg8_18, kg9_18, low18⟩ := h
    clear k15 kg3_15 kg5_15 kg7_15 kg8_15 low16 s10_17 s1_17 s3_17 s5_17 s7_17 s8_17 s9_17 z17
    refine c_seq ?_
    refine c_seq ?_
    refine c_region ?_
    refine l_q rfl (q_move _ _ rfl s10_18.ev ?_)
    refine l_q rfl (q_lss true rfl (At.hit z18 rfl).ev rfl (decide_eq_true (by omega)) ?_)
    refine l_end ?_
    refine e_fresh z18.put.put ?_
    intro a19 z19 m19
    have s1_19 := m19 _ _ ((s1_18.ne rfl).ne rfl)
    have s3_19 := m19 _ _ ((s3_18.ne rfl).ne rfl)
    have s5_19 := m19 _ _ ((s5_18.ne rfl).ne rfl)
    have s7_19 := m19 _ _ ((s7_18.ne rfl).ne rfl)
    have s8_19 := m19 _ _ ((s8_18.ne rfl).ne rfl)
    have s9_19 := m19 _ _ ((s9_18.ne rfl).ne rfl)
    have s10_19 := m19 _ _ ((s10_18.ne rfl).ne rfl)
    have s28_19 := m19 _ _ (At.hit z18.put rfl)
    clear m19
    refine e_then ?_
    refine c_true s28_19 ?_
    refine wp_skip ?_
    refine e_then ?_
    refine c_seq ?_
    refine wp_block ?_
    refine region_low_tail 6 hm (by kernel_rfl) ?_
    simp only [List.take_succ_cons, List.take_zero, List.drop_succ_cons, List.drop_zero]
    refine qs (q_row rfl Try.underlying40 rfl (sz40.trans (congrArg some ((nums_size _ _).trans (cl_len (stepsL (expandL s) c k))).symm)) s9_19.ev (fun _ h => h.blk kg9_18) ?_)
    refine qs (q_move _ _ rfl (s10_19.ne rfl).ev ?_)
    refine qs (q_move _ _ rfl ((s10_19.ne rfl).ne rfl).ev ?_)
    refine qs (q_idx (j := k) rfl Try.underlying32 sz30 (((s8_19.ne rfl).ne rfl).ne rfl).ev (At.hit z19.put.put rfl).ev (by omega) ?_)
    refine qs (q_cell (.int .u32 ((expandL s).getD k 0)) rfl Try.underlying30 (At.hit z19.put.put.put rfl).ev (fun _ h => nums_cell (h.blk kg8_18) k (by rw [(expandL_len s)]; omega)) ?_)
    refine qs (q_call (.agg (nums .u32 (cl (stepL (stepsL (expandL s) c k) ((k : Nat) : Int) ((expandL s).getD k 0))))) rfl rfl Try.func16 rfl (args3 rfl (((((At.hit z19 rfl).ne rfl).ne rfl).ne rfl).ne rfl).ev ((((At.hit z19.put rfl).ne rfl).ne rfl).ne rfl).ev (At.hit z19.put.put.put.put rfl).ev) (fun _ h => (StepL.calls (stepsL (expandL s) c k) ((k : Nat) : Int) ((expandL s).getD k 0) _).mono fun _ _ ⟨e, k⟩ => ⟨e, h.trans k⟩) ?_)
    refine qz ?_
    intro w20 h20
    have kg3_20 := h20.blk kg3_18
    have kg5_20 := h20.blk kg5_18
    have kg7_20 := h20.blk kg7_18
    have kg8_20 := h20.blk kg8_18
    have kg9_20 := h20.blk kg9_18
    refine l_row rfl rfl rfl (sz40.trans (congrArg some ((nums_size _ _).trans (cl_len (stepL (stepsL (expandL s) c k) ((k : Nat) : Int) ((expandL s).getD k 0)))).symm)) ((((((s9_19.ne rfl).ne rfl).ne rfl).ne rfl).ne rfl).ne rfl).ev (At.hit z19.put.put.put.put.put rfl).ev (nums_one _ _) kg9_20 (((nums_size _ _).trans (cl_len (stepsL (expandL s) c k))).trans ((nums_size _ _).trans (cl_len (stepL (stepsL (expandL s) c k) ((k : Nat) : Int) ((expandL s).getD k 0)))).symm) ?_
    intro w21 k21 u21
    have kg3_21 := u21.blk kg3_20 (by omega)
    have kg5_21 := u21.blk kg5_20 (by omega)
    have kg7_21 := u21.blk kg7_20 (by omega)
    have kg8_21 := u21.blk kg8_20 (by omega)
    refine l_end ?_
    refine e_fresh z19.put.put.put.put.put.put ?_
    intro a22 z22 m22
    have s1_22 := m22 _ _ ((((((s1_19.ne rfl).ne rfl).ne rfl).ne rfl).ne rfl).ne rfl)
    have s3_22 := m22 _ _ ((((((s3_19.ne rfl).ne rfl).ne rfl).ne rfl).ne rfl).ne rfl)
    have s5_22 := m22 _ _ ((((((s5_19.ne rfl).ne rfl).ne rfl).ne rfl).ne rfl).ne rfl)
    have s7_22 := m22 _ _ ((((((s7_19.ne rfl).ne rfl).ne rfl).ne rfl).ne rfl).ne rfl)
    have s8_22 := m22 _ _ ((((((s8_19.ne rfl).ne rfl).ne rfl).ne rfl).ne rfl).ne rfl)
    have s9_22 := m22 _ _ ((((((s9_19.ne rfl).ne rfl).ne rfl).ne rfl).ne rfl).ne rfl)
    have s10_22 := m22 _ _ ((((((s10_19.ne rfl).ne rfl).ne rfl).ne rfl).ne rfl).ne rfl)
    have low22 := ((low18.trans h20).upd u21 geg9)
    clear m22
    refine e_in ?_
    refine e_then ?_
    refine c_region ?_
    refine l_q rfl (q_move _ _ rfl s10_22.ev ?_)
    refine l_q rfl (q_add (((k + 1 : Nat) : Int)) rfl (At.hit z22 rfl).ev rfl (i64_is (by omega) (by omega) (by omega)) ?_)
    refine l_q rfl (q_assign _ _ rfl (At.hit z22.put rfl).ev ?_)
    refine l_end ?_
    refine e_fresh z22.put.put.put ?_
    intro a23 z23 m23
    have s1_23 := m23 _ _ (((s1_22.ne rfl).ne rfl).ne rfl)
    have s3_23 := m23 _ _ (((s3_22.ne rfl).ne rfl).ne rfl)
    have s5_23 := m23 _ _ (((s5_22.ne rfl).ne rfl).ne rfl)
    have s7_23 := m23 _ _ (((s7_22.ne rfl).ne rfl).ne rfl)
    have s8_23 := m23 _ _ (((s8_22.ne rfl).ne rfl).ne rfl)
    have s9_23 := m23 _ _ (((s9_22.ne rfl).ne rfl).ne rfl)
    have s10_23 := m23 _ _ (At.hit z22.put.put rfl)
    clear m23
    exact ⟨z23, s1_23, s3_23, s5_23, s7_23, s8_23, s9_23, s10_23, kg3_21, kg5_21, kg7_21, kg8_21, k21, low22⟩
  · intro a24 w24 h
    obtain ⟨z24, s1_24, s3_24, s5_24, s7_24, s8_24, s9_24, s10_24, kg3_24, kg5_24, kg7_24, kg8_24, kg9_24, low24⟩ := h
    clear k15 kg3_15 kg5_15 kg7_15 kg8_15 low16 s10_17 s1_17 s3_17 s5_17 s7_17 s8_17 s9_17 z17
    refine c_seq ?_
    refine c_seq ?_
    refine c_region ?_
    refine l_q rfl (q_move _ _ rfl s10_24.ev ?_)
    refine l_q rfl (q_lss false rfl (At.hit z24 rfl).ev rfl (decide_eq_false (by omega)) ?_)
    refine l_end ?_
    refine e_fresh z24.put.put ?_
    intro a25 z25 m25
    have s1_25 := m25 _ _ ((s1_24.ne rfl).ne rfl)
    have s3_25 := m25 _ _ ((s3_24.ne rfl).ne rfl)
    have s5_25 := m25 _ _ ((s5_24.ne rfl).ne rfl)
    have s7_25 := m25 _ _ ((s7_24.ne rfl).ne rfl)
    have s8_25 := m25 _ _ ((s8_24.ne rfl).ne rfl)
    have s9_25 := m25 _ _ ((s9_24.ne rfl).ne rfl)
    have s10_25 := m25 _ _ ((s10_24.ne rfl).ne rfl)
    have s28_25 := m25 _ _ (At.hit z24.put rfl)
    clear m25
    refine e_then ?_
    refine c_false s28_25 ?_
    refine wp_exit ?_
    refine x_then ?_
    refine x_then ?_
    refine in_exit ?_
    refine e_then ?_
    refine c_seq ?_
    refine region_told [.val (.agg (nums .u32 (cl (stepsL (expandL s) c 58)))), .val (.agg (nums .u32 (cl (stepsL (expandL s) c 58)))), .new (nums .u32 (List.replicate 5 0)) 40 4 (nums .u32 (cl (stepsL (expandL s) c 58))), .new (nums .u32 (List.replicate 5 0)) 40 5 (nums .u32 (cl (stepsL (expandL s) c 58))), .put 2 0, .put 3 1] hm (by kernel_rfl) rfl z25 (allO_cons ?_ (allO_cons ?_ (allO_cons (stepO_new _ rfl rfl rfl zero40) (allO_cons (stepO_new _ rfl rfl rfl zero40) (allO_cons (stepO_put rfl rfl rfl rfl rfl rfl rfl rfl (((nums_size _ _).trans (List.length_replicate)).trans ((nums_size _ _).trans (cl_len (stepsL (expandL s) c 58))).symm) (nums_one _ _) (sz40.trans (congrArg some ((nums_size _ _).trans (cl_len (stepsL (expandL s) c 58))).symm))) (allO_cons (stepO_put rfl rfl rfl rfl rfl rfl rfl rfl (((nums_size _ _).trans (List.length_replicate)).trans ((nums_size _ _).trans (cl_len (stepsL (expandL s) c 58))).symm) (nums_one _ _) (sz40.trans (congrArg some ((nums_size _ _).trans (cl_len (stepsL (expandL s) c 58))).symm))) allO_nil)))))) ?_
    · exact stepO_val _ rfl rfl fun _ _ _ lw kp kn => q_row rfl Try.underlying40 rfl (sz40.trans (congrArg some ((nums_size _ _).trans (cl_len (stepsL (expandL s) c 58))).symm)) (kp _ _ rfl s9_25).ev (fun _ h => h.blk (lw.blk kg9_24)) rfl
    · exact stepO_val _ rfl rfl fun _ _ _ lw kp kn => q_row rfl Try.underlying40 rfl (sz40.trans (congrArg some ((nums_size _ _).trans (cl_len (stepsL (expandL s) c 58))).symm)) (kp _ _ rfl s9_25).ev (fun _ h => h.blk (lw.blk kg9_24)) rfl
    intro a26 w26 G D
    have bg3_26 := (heap_lt kg3_24)
    have bg5_26 := (heap_lt kg5_24)
    have bg7_26 := (heap_lt kg7_24)
    have bg8_26 := (heap_lt kg8_24)
    have bg9_26 := (heap_lt kg9_24)
    have sg11 := D.ptr 2 _ _ _ _ _ rfl rfl
    have hgg11 := D.ge 2 _ _ _ _ _ rfl rfl
    have kg11 := D.blk 2 _ _ _ _ _ rfl rfl
    have geg11 := Nat.le_trans low24.ge hgg11
    have sg12 := D.ptr 3 _ _ _ _ _ rfl rfl
    have hgg12 := D.ge 3 _ _ _ _ _ rfl rfl
    have kg12 := D.blk 3 _ _ _ _ _ rfl rfl
    have geg12 := Nat.le_trans low24.ge hgg12
    have d26_2_3 := D.ne 2 3 _ _ _ _ _ _ _ _ rfl rfl rfl
    have h26 := D.low
    have kg3_26 := h26.blk kg3_24
    have kg5_26 := h26.blk kg5_24
    have kg7_26 := h26.blk kg7_24
    have kg8_26 := h26.blk kg8_24
    have kg9_26 := h26.blk kg9_24
    have z26 := D.fr
    have s1_26 := (D.keep _ _ rfl s1_25)
    have s3_26 := (D.keep _ _ rfl s3_25)
    have s5_26 := (D.keep _ _ rfl s5_25)
    have s7_26 := (D.keep _ _ rfl s7_25)
    have s8_26 := (D.keep _ _ rfl s8_25)
    have s9_26 := (D.keep _ _ rfl s9_25)
    have s10_26 := (D.keep _ _ rfl s10_25)
    have s28_26 := (D.keep _ _ rfl s28_25)
    have s37_26 := (D.val 0 _ _ rfl rfl)
    have s38_26 := (D.val 1 _ _ rfl rfl)
    clear D
    generalize G 2 = g11 at *
    generalize G 3 = g12 at *
    refine e_fresh z26 ?_
    intro a27 z27 m27
    have s1_27 := m27 _ _ s1_26
    have s3_27 := m27 _ _ s3_26
    have s5_27 := m27 _ _ s5_26
    have s7_27 := m27 _ _ s7_26
    have s8_27 := m27 _ _ s8_26
    have s11_27 := m27 _ _ sg11
    have s12_27 := m27 _ _ sg12
    have low27 := (low24.trans h26)
    clear m27
    refine e_then ?_
    refine c_seq ?_
    refine c_seq ?_
    refine c_region ?_
    refine l_q rfl (q_assign _ _ rfl rfl ?_)
    refine l_end ?_
    refine e_fresh z27.put ?_
    intro a28 z28 m28
    have s1_28 := m28 _ _ (s1_27.ne rfl)
    have s3_28 := m28 _ _ (s3_27.ne rfl)
    have s5_28 := m28 _ _ (s5_27.ne rfl)
    have s7_28 := m28 _ _ (s7_27.ne rfl)
    have s8_28 := m28 _ _ (s8_27.ne rfl)
    have s11_28 := m28 _ _ (s11_27.ne rfl)
    have s12_28 := m28 _ _ (s12_27.ne rfl)
    have s13_28 := m28 _ _ (At.hit z27 rfl)
    clear m28
    refine e_then ?_
    refine wp_block ?_
    refine c_loop 58 (fun k a w => Fr 96 a ∧ At a 1 (.string s) ∧ At a 3 (.pointer (some ⟨g3, 0, none⟩)) ∧ At a 5 (.pointer (some ⟨g5, 0, none⟩)) ∧ At a 7 (.pointer (some ⟨g7, 0, none⟩)) ∧ At a 8 (.pointer (some ⟨g8, 0, none⟩)) ∧ At a 11 (.pointer (some ⟨g11, 0, none⟩)) ∧ At a 12 (.pointer (some ⟨g12, 0, none⟩)) ∧ At a 13 (.int .i64 (57 - ((k : Nat) : Int))) ∧ w.heap[g11]? = some (.cells (nums .u32 (cl (backX (expandL s) (differenceL ty K B) (midL c s) backL k))) 40) ∧ w.heap[g12]? = some (.cells (nums .u32 (cl (stepsL (expandL s) c 58))) 40) ∧ w.heap[g3]? = some (.cells (nums .u32 (cl c)) 36) ∧ w.heap[g5]? = some (.cells (#[.int .i64 ty, .int .i64 K, .int .i64 B]) 23) ∧ w.heap[g7]? = some (.cells (nums .u32 (differenceL ty K B)) 32) ∧ w.heap[g8]? = some (.cells (nums .u32 (expandL s)) 32) ∧ Low w0 w) ?_ ?_ ?_
    · exact ⟨z28, s1_28, s3_28, s5_28, s7_28, s8_28, s11_28, s12_28, (s13_28.same (congrArg (Value.int .i64) (by omega))), kg11, kg12, kg3_26, kg5_26, kg7_26, kg8_26, low27⟩
    · intro k a29 w29 hk29 h
      obtain ⟨z29, s1_29, s3_29, s5_29, s7_29, s8_29, s11_29, s12_29, s13_29, kg11_29, kg12_29, kg3_29, kg5_29, kg7_29, kg8_29, low29⟩ := h
      clear kg11 kg12 kg3_26 kg5_26 kg7_26 kg8_26 low27 s11_28 s12_28 s13_28 s1_28 s3_28 s5_28 s7_28 s8_28 z28
      refine c_seq ?_
      refine c_seq ?_
      refine c_region ?_
      refine l_q rfl (q_move _ _ rfl s13_29.ev ?_)
      refine l_q rfl (q_geq true rfl (At.hit z29 rfl).ev rfl (decide_eq_true (by omega)) ?_)
      refine l_end ?_
      refine e_fresh z29.put.put ?_
      intro a30 z30 m30
      have s1_30 := m30 _ _ ((s1_29.ne rfl).ne rfl)
      have s3_30 := m30 _ _ ((s3_29.ne rfl).ne rfl)
      have s5_30 := m30 _ _ ((s5_29.ne rfl).ne rfl)
      have s7_30 := m30 _ _ ((s7_29.ne rfl).ne rfl)
      have s8_30 := m30 _ _ ((s8_29.ne rfl).ne rfl)
      have s11_30 := m30 _ _ ((s11_29.ne rfl).ne rfl)
      have s12_30 := m30 _ _ ((s12_29.ne rfl).ne rfl)
      have s13_30 := m30 _ _ ((s13_29.ne rfl).ne rfl)
      have s40_30 := m30 _ _ (At.hit z29.put rfl)
      clear m30
      refine e_then ?_
      refine c_true s40_30 ?_
      refine wp_skip ?_
      refine e_then ?_
      refine c_seq ?_
      refine wp_block ?_
      refine region_low_tail 10 hm (by kernel_rfl) ?_
      simp only [List.take_succ_cons, List.take_zero, List.drop_succ_cons, List.drop_zero]
      refine qs (q_row rfl Try.underlying40 rfl (sz40.trans (congrArg some ((nums_size _ _).trans (cl_len (backX (expandL s) (differenceL ty K B) (midL c s) backL k))).symm)) s11_30.ev (fun _ h => h.blk kg11_29) ?_)
      refine qs (q_move _ _ rfl (s13_30.ne rfl).ev ?_)
      refine qs (q_move _ _ rfl ((s13_30.ne rfl).ne rfl).ev ?_)
      refine qs (q_idx (j := 57 - k) rfl Try.underlying32 sz30 (((s8_30.ne rfl).ne rfl).ne rfl).ev ((At.hit z30.put.put rfl).same (congrArg (Value.int .i64) (show ((57 - ((k : Nat) : Int)) : Int) = ((57 - k : Nat) : Int) by omega))).ev (by omega) ?_)
      refine qs (q_cell (.int .u32 ((expandL s).getD (57 - k) 0)) rfl Try.underlying30 (At.hit z30.put.put.put rfl).ev (fun _ h => nums_cell (h.blk kg8_29) (57 - k) (by rw [(expandL_len s)]; omega)) ?_)
      refine qs (q_move _ _ rfl (((((s13_30.ne rfl).ne rfl).ne rfl).ne rfl).ne rfl).ev ?_)
      refine qs (q_idx (j := 57 - k) rfl Try.underlying32 sz30 ((((((s7_30.ne rfl).ne rfl).ne rfl).ne rfl).ne rfl).ne rfl).ev ((At.hit z30.put.put.put.put.put rfl).same (congrArg (Value.int .i64) (show ((57 - ((k : Nat) : Int)) : Int) = ((57 - k : Nat) : Int) by omega))).ev (by omega) ?_)
      refine qs (q_cell (.int .u32 ((differenceL ty K B).getD (57 - k) 0)) rfl Try.underlying30 (At.hit z30.put.put.put.put.put.put rfl).ev (fun _ h => nums_cell (h.blk kg7_29) (57 - k) (by rw [(differenceL_len _ _ _)]; omega)) ?_)
      refine q_fresh z30.put.put.put.put.put.put.put.put ?_
      intro a31 z31 m31
      have s1_31 := m31 _ _ ((((((((s1_30.ne rfl).ne rfl).ne rfl).ne rfl).ne rfl).ne rfl).ne rfl).ne rfl)
      have s3_31 := m31 _ _ ((((((((s3_30.ne rfl).ne rfl).ne rfl).ne rfl).ne rfl).ne rfl).ne rfl).ne rfl)
      have s5_31 := m31 _ _ ((((((((s5_30.ne rfl).ne rfl).ne rfl).ne rfl).ne rfl).ne rfl).ne rfl).ne rfl)
      have s7_31 := m31 _ _ ((((((((s7_30.ne rfl).ne rfl).ne rfl).ne rfl).ne rfl).ne rfl).ne rfl).ne rfl)
      have s8_31 := m31 _ _ ((((((((s8_30.ne rfl).ne rfl).ne rfl).ne rfl).ne rfl).ne rfl).ne rfl).ne rfl)
      have s11_31 := m31 _ _ ((((((((s11_30.ne rfl).ne rfl).ne rfl).ne rfl).ne rfl).ne rfl).ne rfl).ne rfl)
      have s12_31 := m31 _ _ ((((((((s12_30.ne rfl).ne rfl).ne rfl).ne rfl).ne rfl).ne rfl).ne rfl).ne rfl)
      have s13_31 := m31 _ _ ((((((((s13_30.ne rfl).ne rfl).ne rfl).ne rfl).ne rfl).ne rfl).ne rfl).ne rfl)
      have s43_31 := m31 _ _ ((((((((At.hit z30 rfl).ne rfl).ne rfl).ne rfl).ne rfl).ne rfl).ne rfl).ne rfl)
      have s44_31 := m31 _ _ (((((((At.hit z30.put rfl).ne rfl).ne rfl).ne rfl).ne rfl).ne rfl).ne rfl)
      have s47_31 := m31 _ _ ((((At.hit z30.put.put.put.put rfl).ne rfl).ne rfl).ne rfl)
      have s50_31 := m31 _ _ (At.hit z30.put.put.put.put.put.put.put rfl)
      clear m31
      refine qs (q_xor rfl s47_31.ev s50_31.ev ?_)
      refine qs (q_call (.agg (nums .u32 (cl (backL (backX (expandL s) (differenceL ty K B) (midL c s) backL k) (57 - ((k : Nat) : Int)) (Go.bits .xor .u32 ((expandL s).getD (57 - k) 0) ((differenceL ty K B).getD (57 - k) 0)))))) rfl rfl Try.func17 rfl (args3 rfl (s43_31.ne rfl).ev (s44_31.ne rfl).ev (At.hit z31 rfl).ev) (fun _ h => (BackL.calls (backX (expandL s) (differenceL ty K B) (midL c s) backL k) (57 - ((k : Nat) : Int)) (Go.bits .xor .u32 ((expandL s).getD (57 - k) 0) ((differenceL ty K B).getD (57 - k) 0)) _).mono fun _ _ ⟨e, k⟩ => ⟨e, h.trans k⟩) ?_)
      refine qz ?_
      intro w32 h32
      have kg11_32 := h32.blk kg11_29
      have kg12_32 := h32.blk kg12_29
      have kg3_32 := h32.blk kg3_29
      have kg5_32 := h32.blk kg5_29
      have kg7_32 := h32.blk kg7_29
      have kg8_32 := h32.blk kg8_29
      refine l_row rfl rfl rfl (sz40.trans (congrArg some ((nums_size _ _).trans (cl_len (backL (backX (expandL s) (differenceL ty K B) (midL c s) backL k) (57 - ((k : Nat) : Int)) (Go.bits .xor .u32 ((expandL s).getD (57 - k) 0) ((differenceL ty K B).getD (57 - k) 0))))).symm)) ((s11_31.ne rfl).ne rfl).ev (At.hit z31.put rfl).ev (nums_one _ _) kg11_32 (((nums_size _ _).trans (cl_len (backX (expandL s) (differenceL ty K B) (midL c s) backL k))).trans ((nums_size _ _).trans (cl_len (backL (backX (expandL s) (differenceL ty K B) (midL c s) backL k) (57 - ((k : Nat) : Int)) (Go.bits .xor .u32 ((expandL s).getD (57 - k) 0) ((differenceL ty K B).getD (57 - k) 0))))).symm) ?_
      intro w33 k33 u33
      have kg12_33 := u33.blk kg12_32 (by omega)
      have kg3_33 := u33.blk kg3_32 (by omega)
      have kg5_33 := u33.blk kg5_32 (by omega)
      have kg7_33 := u33.blk kg7_32 (by omega)
      have kg8_33 := u33.blk kg8_32 (by omega)
      refine l_end ?_
      refine e_fresh z31.put.put ?_
      intro a34 z34 m34
      have s1_34 := m34 _ _ ((s1_31.ne rfl).ne rfl)
      have s3_34 := m34 _ _ ((s3_31.ne rfl).ne rfl)
      have s5_34 := m34 _ _ ((s5_31.ne rfl).ne rfl)
      have s7_34 := m34 _ _ ((s7_31.ne rfl).ne rfl)
      have s8_34 := m34 _ _ ((s8_31.ne rfl).ne rfl)
      have s11_34 := m34 _ _ ((s11_31.ne rfl).ne rfl)
      have s12_34 := m34 _ _ ((s12_31.ne rfl).ne rfl)
      have s13_34 := m34 _ _ ((s13_31.ne rfl).ne rfl)
      have low34 := ((low29.trans h32).upd u33 geg11)
      clear m34
      refine e_in ?_
      refine e_then ?_
      refine c_region ?_
      refine l_q rfl (q_move _ _ rfl s13_34.ev ?_)
      refine l_q rfl (q_sub ((56 - ((k : Nat) : Int))) rfl (At.hit z34 rfl).ev rfl (i64_is (by omega) (by omega) (by omega)) ?_)
      refine l_q rfl (q_assign _ _ rfl (At.hit z34.put rfl).ev ?_)
      refine l_end ?_
      refine e_fresh z34.put.put.put ?_
      intro a35 z35 m35
      have s1_35 := m35 _ _ (((s1_34.ne rfl).ne rfl).ne rfl)
      have s3_35 := m35 _ _ (((s3_34.ne rfl).ne rfl).ne rfl)
      have s5_35 := m35 _ _ (((s5_34.ne rfl).ne rfl).ne rfl)
      have s7_35 := m35 _ _ (((s7_34.ne rfl).ne rfl).ne rfl)
      have s8_35 := m35 _ _ (((s8_34.ne rfl).ne rfl).ne rfl)
      have s11_35 := m35 _ _ (((s11_34.ne rfl).ne rfl).ne rfl)
      have s12_35 := m35 _ _ (((s12_34.ne rfl).ne rfl).ne rfl)
      have s13_35 := m35 _ _ (At.hit z34.put.put rfl)
      clear m35
      exact ⟨z35, s1_35, s3_35, s5_35, s7_35, s8_35, s11_35, s12_35, (s13_35.same (congrArg (Value.int .i64) (by omega))), k33, kg12_33, kg3_33, kg5_33, kg7_33, kg8_33, low34⟩
    · intro a36 w36 h
      obtain ⟨z36, s1_36, s3_36, s5_36, s7_36, s8_36, s11_36, s12_36, s13_36, kg11_36, kg12_36, kg3_36, kg5_36, kg7_36, kg8_36, low36⟩ := h
      clear kg11 kg12 kg3_26 kg5_26 kg7_26 kg8_26 low27 s11_28 s12_28 s13_28 s1_28 s3_28 s5_28 s7_28 s8_28 z28
      refine c_seq ?_
      refine c_seq ?_
      refine c_region ?_
      refine l_q rfl (q_move _ _ rfl s13_36.ev ?_)
      refine l_q rfl (q_geq false rfl (At.hit z36 rfl).ev rfl (decide_eq_false (by omega)) ?_)
      refine l_end ?_
      refine e_fresh z36.put.put ?_
      intro a37 z37 m37
      have s1_37 := m37 _ _ ((s1_36.ne rfl).ne rfl)
      have s3_37 := m37 _ _ ((s3_36.ne rfl).ne rfl)
      have s5_37 := m37 _ _ ((s5_36.ne rfl).ne rfl)
      have s7_37 := m37 _ _ ((s7_36.ne rfl).ne rfl)
      have s8_37 := m37 _ _ ((s8_36.ne rfl).ne rfl)
      have s11_37 := m37 _ _ ((s11_36.ne rfl).ne rfl)
      have s12_37 := m37 _ _ ((s12_36.ne rfl).ne rfl)
      have s13_37 := m37 _ _ ((s13_36.ne rfl).ne rfl)
      have s40_37 := m37 _ _ (At.hit z36.put rfl)
      clear m37
      refine e_then ?_
      refine c_false s40_37 ?_
      refine wp_exit ?_
      refine x_then ?_
      refine x_then ?_
      refine in_exit ?_
      refine e_then ?_
      refine c_seq ?_
      refine c_seq ?_
      refine c_region ?_
      refine l_q rfl (q_assign _ _ rfl rfl ?_)
      refine l_end ?_
      refine e_fresh z37.put ?_
      intro a38 z38 m38
      have s1_38 := m38 _ _ (s1_37.ne rfl)
      have s3_38 := m38 _ _ (s3_37.ne rfl)
      have s5_38 := m38 _ _ (s5_37.ne rfl)
      have s7_38 := m38 _ _ (s7_37.ne rfl)
      have s8_38 := m38 _ _ (s8_37.ne rfl)
      have s11_38 := m38 _ _ (s11_37.ne rfl)
      have s12_38 := m38 _ _ (s12_37.ne rfl)
      have s14_38 := m38 _ _ (At.hit z37 rfl)
      clear m38
      refine e_then ?_
      refine wp_block ?_
      refine c_loop 22 (fun k a w => Fr 96 a ∧ At a 1 (.string s) ∧ At a 3 (.pointer (some ⟨g3, 0, none⟩)) ∧ At a 5 (.pointer (some ⟨g5, 0, none⟩)) ∧ At a 7 (.pointer (some ⟨g7, 0, none⟩)) ∧ At a 8 (.pointer (some ⟨g8, 0, none⟩)) ∧ At a 11 (.pointer (some ⟨g11, 0, none⟩)) ∧ At a 12 (.pointer (some ⟨g12, 0, none⟩)) ∧ At a 14 (.int .i64 ((k + 58 : Nat) : Int)) ∧ w.heap[g11]? = some (.cells (nums .u32 (cl (backX (expandL s) (differenceL ty K B) (midL c s) backL 58))) 40) ∧ w.heap[g12]? = some (.cells (nums .u32 (cl (stepsX (expandL s) (differenceL ty K B) (midL c s) stepL 58 k))) 40) ∧ w.heap[g3]? = some (.cells (nums .u32 (cl c)) 36) ∧ w.heap[g5]? = some (.cells (#[.int .i64 ty, .int .i64 K, .int .i64 B]) 23) ∧ w.heap[g7]? = some (.cells (nums .u32 (differenceL ty K B)) 32) ∧ w.heap[g8]? = some (.cells (nums .u32 (expandL s)) 32) ∧ Low w0 w) ?_ ?_ ?_
      · exact ⟨z38, s1_38, s3_38, s5_38, s7_38, s8_38, s11_38, s12_38, (s14_38.same (congrArg (Value.int .i64) (by omega))), kg11_36, kg12_36, kg3_36, kg5_36, kg7_36, kg8_36, low36⟩
      · intro k a39 w39 hk39 h
        obtain ⟨z39, s1_39, s3_39, s5_39, s7_39, s8_39, s11_39, s12_39, s14_39, kg11_39, kg12_39, kg3_39, kg5_39, kg7_39, kg8_39, low39⟩ := h
        clear kg11_36 kg12_36 kg3_36 kg5_36 kg7_36 kg8_36 low36 s11_38 s12_38 s14_38 s1_38 s3_38 s5_38 s7_38 s8_38 z38
        refine c_seq ?_
        refine c_seq ?_
        refine c_region ?_
        refine l_q rfl (q_move _ _ rfl s14_39.ev ?_)
        refine l_q rfl (q_lss true rfl (At.hit z39 rfl).ev rfl (decide_eq_true (by omega)) ?_)
        refine l_end ?_
        refine e_fresh z39.put.put ?_
        intro a40 z40 m40
        have s1_40 := m40 _ _ ((s1_39.ne rfl).ne rfl)
        have s3_40 := m40 _ _ ((s3_39.ne rfl).ne rfl)
        have s5_40 := m40 _ _ ((s5_39.ne rfl).ne rfl)
        have s7_40 := m40 _ _ ((s7_39.ne rfl).ne rfl)
        have s8_40 := m40 _ _ ((s8_39.ne rfl).ne rfl)
        have s11_40 := m40 _ _ ((s11_39.ne rfl).ne rfl)
        have s12_40 := m40 _ _ ((s12_39.ne rfl).ne rfl)
        have s14_40 := m40 _ _ ((s14_39.ne rfl).ne rfl)
        have s54_40 := m40 _ _ (At.hit z39.put rfl)
        clear m40
        refine e_then ?_
        refine c_true s54_40 ?_
        refine wp_skip ?_
        refine e_then ?_
        refine c_seq ?_
        refine wp_block ?_
        refine region_low_tail 10 hm (by kernel_rfl) ?_
        simp only [List.take_succ_cons, List.take_zero, List.drop_succ_cons, List.drop_zero]
        refine qs (q_row rfl Try.underlying40 rfl (sz40.trans (congrArg some ((nums_size _ _).trans (cl_len (stepsX (expandL s) (differenceL ty K B) (midL c s) stepL 58 k))).symm)) s12_40.ev (fun _ h => h.blk kg12_39) ?_)
        refine qs (q_move _ _ rfl (s14_40.ne rfl).ev ?_)
        refine qs (q_move _ _ rfl ((s14_40.ne rfl).ne rfl).ev ?_)
        refine qs (q_idx (j := k + 58) rfl Try.underlying32 sz30 (((s8_40.ne rfl).ne rfl).ne rfl).ev (At.hit z40.put.put rfl).ev (by omega) ?_)
        refine qs (q_cell (.int .u32 ((expandL s).getD (k + 58) 0)) rfl Try.underlying30 (At.hit z40.put.put.put rfl).ev (fun _ h => nums_cell (h.blk kg8_39) (k + 58) (by rw [(expandL_len s)]; omega)) ?_)
        refine qs (q_move _ _ rfl (((((s14_40.ne rfl).ne rfl).ne rfl).ne rfl).ne rfl).ev ?_)
        refine qs (q_idx (j := k + 58) rfl Try.underlying32 sz30 ((((((s7_40.ne rfl).ne rfl).ne rfl).ne rfl).ne rfl).ne rfl).ev (At.hit z40.put.put.put.put.put rfl).ev (by omega) ?_)
        refine qs (q_cell (.int .u32 ((differenceL ty K B).getD (k + 58) 0)) rfl Try.underlying30 (At.hit z40.put.put.put.put.put.put rfl).ev (fun _ h => nums_cell (h.blk kg7_39) (k + 58) (by rw [(differenceL_len _ _ _)]; omega)) ?_)
        refine q_fresh z40.put.put.put.put.put.put.put.put ?_
        intro a41 z41 m41
        have s1_41 := m41 _ _ ((((((((s1_40.ne rfl).ne rfl).ne rfl).ne rfl).ne rfl).ne rfl).ne rfl).ne rfl)
        have s3_41 := m41 _ _ ((((((((s3_40.ne rfl).ne rfl).ne rfl).ne rfl).ne rfl).ne rfl).ne rfl).ne rfl)
        have s5_41 := m41 _ _ ((((((((s5_40.ne rfl).ne rfl).ne rfl).ne rfl).ne rfl).ne rfl).ne rfl).ne rfl)
        have s7_41 := m41 _ _ ((((((((s7_40.ne rfl).ne rfl).ne rfl).ne rfl).ne rfl).ne rfl).ne rfl).ne rfl)
        have s8_41 := m41 _ _ ((((((((s8_40.ne rfl).ne rfl).ne rfl).ne rfl).ne rfl).ne rfl).ne rfl).ne rfl)
        have s11_41 := m41 _ _ ((((((((s11_40.ne rfl).ne rfl).ne rfl).ne rfl).ne rfl).ne rfl).ne rfl).ne rfl)
        have s12_41 := m41 _ _ ((((((((s12_40.ne rfl).ne rfl).ne rfl).ne rfl).ne rfl).ne rfl).ne rfl).ne rfl)
        have s14_41 := m41 _ _ ((((((((s14_40.ne rfl).ne rfl).ne rfl).ne rfl).ne rfl).ne rfl).ne rfl).ne rfl)
        have s57_41 := m41 _ _ ((((((((At.hit z40 rfl).ne rfl).ne rfl).ne rfl).ne rfl).ne rfl).ne rfl).ne rfl)
        have s58_41 := m41 _ _ (((((((At.hit z40.put rfl).ne rfl).ne rfl).ne rfl).ne rfl).ne rfl).ne rfl)
        have s61_41 := m41 _ _ ((((At.hit z40.put.put.put.put rfl).ne rfl).ne rfl).ne rfl)
        have s64_41 := m41 _ _ (At.hit z40.put.put.put.put.put.put.put rfl)
        clear m41
        refine qs (q_xor rfl s61_41.ev s64_41.ev ?_)
        refine qs (q_call (.agg (nums .u32 (cl (stepL (stepsX (expandL s) (differenceL ty K B) (midL c s) stepL 58 k) ((k + 58 : Nat) : Int) (Go.bits .xor .u32 ((expandL s).getD (k + 58) 0) ((differenceL ty K B).getD (k + 58) 0)))))) rfl rfl Try.func16 rfl (args3 rfl (s57_41.ne rfl).ev (s58_41.ne rfl).ev (At.hit z41 rfl).ev) (fun _ h => (StepL.calls (stepsX (expandL s) (differenceL ty K B) (midL c s) stepL 58 k) ((k + 58 : Nat) : Int) (Go.bits .xor .u32 ((expandL s).getD (k + 58) 0) ((differenceL ty K B).getD (k + 58) 0)) _).mono fun _ _ ⟨e, k⟩ => ⟨e, h.trans k⟩) ?_)
        refine qz ?_
        intro w42 h42
        have kg11_42 := h42.blk kg11_39
        have kg12_42 := h42.blk kg12_39
        have kg3_42 := h42.blk kg3_39
        have kg5_42 := h42.blk kg5_39
        have kg7_42 := h42.blk kg7_39
        have kg8_42 := h42.blk kg8_39
        refine l_row rfl rfl rfl (sz40.trans (congrArg some ((nums_size _ _).trans (cl_len (stepL (stepsX (expandL s) (differenceL ty K B) (midL c s) stepL 58 k) ((k + 58 : Nat) : Int) (Go.bits .xor .u32 ((expandL s).getD (k + 58) 0) ((differenceL ty K B).getD (k + 58) 0))))).symm)) ((s12_41.ne rfl).ne rfl).ev (At.hit z41.put rfl).ev (nums_one _ _) kg12_42 (((nums_size _ _).trans (cl_len (stepsX (expandL s) (differenceL ty K B) (midL c s) stepL 58 k))).trans ((nums_size _ _).trans (cl_len (stepL (stepsX (expandL s) (differenceL ty K B) (midL c s) stepL 58 k) ((k + 58 : Nat) : Int) (Go.bits .xor .u32 ((expandL s).getD (k + 58) 0) ((differenceL ty K B).getD (k + 58) 0))))).symm) ?_
        intro w43 k43 u43
        have kg11_43 := u43.blk kg11_42 (by omega)
        have kg3_43 := u43.blk kg3_42 (by omega)
        have kg5_43 := u43.blk kg5_42 (by omega)
        have kg7_43 := u43.blk kg7_42 (by omega)
        have kg8_43 := u43.blk kg8_42 (by omega)
        refine l_end ?_
        refine e_fresh z41.put.put ?_
        intro a44 z44 m44
        have s1_44 := m44 _ _ ((s1_41.ne rfl).ne rfl)
        have s3_44 := m44 _ _ ((s3_41.ne rfl).ne rfl)
        have s5_44 := m44 _ _ ((s5_41.ne rfl).ne rfl)
        have s7_44 := m44 _ _ ((s7_41.ne rfl).ne rfl)
        have s8_44 := m44 _ _ ((s8_41.ne rfl).ne rfl)
        have s11_44 := m44 _ _ ((s11_41.ne rfl).ne rfl)
        have s12_44 := m44 _ _ ((s12_41.ne rfl).ne rfl)
        have s14_44 := m44 _ _ ((s14_41.ne rfl).ne rfl)
        have low44 := ((low39.trans h42).upd u43 geg12)
        clear m44
        refine e_in ?_
        refine e_then ?_
        refine c_region ?_
        refine l_q rfl (q_move _ _ rfl s14_44.ev ?_)
        refine l_q rfl (q_add (((k + 59 : Nat) : Int)) rfl (At.hit z44 rfl).ev rfl (i64_is (by omega) (by omega) (by omega)) ?_)
        refine l_q rfl (q_assign _ _ rfl (At.hit z44.put rfl).ev ?_)
        refine l_end ?_
        refine e_fresh z44.put.put.put ?_
        intro a45 z45 m45
        have s1_45 := m45 _ _ (((s1_44.ne rfl).ne rfl).ne rfl)
        have s3_45 := m45 _ _ (((s3_44.ne rfl).ne rfl).ne rfl)
        have s5_45 := m45 _ _ (((s5_44.ne rfl).ne rfl).ne rfl)
        have s7_45 := m45 _ _ (((s7_44.ne rfl).ne rfl).ne rfl)
        have s8_45 := m45 _ _ (((s8_44.ne rfl).ne rfl).ne rfl)
        have s11_45 := m45 _ _ (((s11_44.ne rfl).ne rfl).ne rfl)
        have s12_45 := m45 _ _ (((s12_44.ne rfl).ne rfl).ne rfl)
        have s14_45 := m45 _ _ (At.hit z44.put.put rfl)
        clear m45
        exact ⟨z45, s1_45, s3_45, s5_45, s7_45, s8_45, s11_45, s12_45, (s14_45.same (congrArg (Value.int .i64) (by omega))), kg11_43, k43, kg3_43, kg5_43, kg7_43, kg8_43, low44⟩
      · intro a46 w46 h
        obtain ⟨z46, s1_46, s3_46, s5_46, s7_46, s8_46, s11_46, s12_46, s14_46, kg11_46, kg12_46, kg3_46, kg5_46, kg7_46, kg8_46, low46⟩ := h
        clear kg11_36 kg12_36 kg3_36 kg5_36 kg7_36 kg8_36 low36 s11_38 s12_38 s14_38 s1_38 s3_38 s5_38 s7_38 s8_38 z38
        refine c_seq ?_
        refine c_seq ?_
        refine c_region ?_
        refine l_q rfl (q_move _ _ rfl s14_46.ev ?_)
        refine l_q rfl (q_lss false rfl (At.hit z46 rfl).ev rfl (decide_eq_false (by omega)) ?_)
        refine l_end ?_
        refine e_fresh z46.put.put ?_
        intro a47 z47 m47
        have s1_47 := m47 _ _ ((s1_46.ne rfl).ne rfl)
        have s3_47 := m47 _ _ ((s3_46.ne rfl).ne rfl)
        have s5_47 := m47 _ _ ((s5_46.ne rfl).ne rfl)
        have s7_47 := m47 _ _ ((s7_46.ne rfl).ne rfl)
        have s8_47 := m47 _ _ ((s8_46.ne rfl).ne rfl)
        have s11_47 := m47 _ _ ((s11_46.ne rfl).ne rfl)
        have s12_47 := m47 _ _ ((s12_46.ne rfl).ne rfl)
        have s14_47 := m47 _ _ ((s14_46.ne rfl).ne rfl)
        have s54_47 := m47 _ _ (At.hit z46.put rfl)
        clear m47
        refine e_then ?_
        refine c_false s54_47 ?_
        refine wp_exit ?_
        refine x_then ?_
        refine x_then ?_
        refine in_exit ?_
        refine e_then ?_
        refine c_seq ?_
        refine c_region ?_
        refine l_q rfl (q_row rfl Try.underlying36 rfl (sz36.trans (congrArg some ((nums_size _ _).trans (cl_len c)).symm)) s3_47.ev (fun _ e => by rw [e]; exact kg3_46) ?_)
        refine l_q rfl (q_move _ _ rfl (s1_47.ne rfl).ev ?_)
        refine l_call (fun v w' => v = .agg (nums .u32 (cl (prL c s))) ∧ Low w46 w') rfl rfl rfl Try.func18 rfl (args2 rfl ((At.hit z47 rfl).ne rfl).ev (At.hit z47.put rfl).ev) ((PrL.calls c s (by omega) _).mono fun _ _ ⟨e, k⟩ => ⟨_, e, rfl, k⟩) ?_
        rintro _ w48 ⟨rfl, h48⟩
        have kg11_48 := h48.blk kg11_46
        have kg12_48 := h48.blk kg12_46
        have kg3_48 := h48.blk kg3_46
        have kg5_48 := h48.blk kg5_46
        have kg7_48 := h48.blk kg7_46
        have kg8_48 := h48.blk kg8_46
        refine l_alloc rfl rfl zero40 ?_
        intro g15 w49 hg49 k49 h49
        have lt_g11_g15 := Nat.lt_of_lt_of_le (heap_lt kg11_48) hg49
        have lt_g12_g15 := Nat.lt_of_lt_of_le (heap_lt kg12_48) hg49
        have lt_g3_g15 := Nat.lt_of_lt_of_le (heap_lt kg3_48) hg49
        have lt_g5_g15 := Nat.lt_of_lt_of_le (heap_lt kg5_48) hg49
        have lt_g7_g15 := Nat.lt_of_lt_of_le (heap_lt kg7_48) hg49
        have lt_g8_g15 := Nat.lt_of_lt_of_le (heap_lt kg8_48) hg49
        have geg15 := Nat.le_trans (low46.trans h48).ge hg49
        have kg11_49 := h49.blk kg11_48
        have kg12_49 := h49.blk kg12_48
        have kg3_49 := h49.blk kg3_48
        have kg5_49 := h49.blk kg5_48
        have kg7_49 := h49.blk kg7_48
        have kg8_49 := h49.blk kg8_48
        refine l_row rfl rfl rfl (sz40.trans (congrArg some ((nums_size _ _).trans (cl_len (prL c s))).symm)) (At.hit z47.put.put.put rfl).ev ((At.hit z47.put.put rfl).ne rfl).ev (nums_one _ _) k49 (((nums_size _ _).trans (List.length_replicate)).trans ((nums_size _ _).trans (cl_len (prL c s))).symm) ?_
        intro w50 k50 u50
        have kg11_50 := u50.blk kg11_49 (by omega)
        have kg12_50 := u50.blk kg12_49 (by omega)
        have kg3_50 := u50.blk kg3_49 (by omega)
        have kg5_50 := u50.blk kg5_49 (by omega)
        have kg7_50 := u50.blk kg7_49 (by omega)
        have kg8_50 := u50.blk kg8_49 (by omega)
        refine l_end ?_
        refine e_fresh z47.put.put.put.put ?_
        intro a51 z51 m51
        have s1_51 := m51 _ _ ((((s1_47.ne rfl).ne rfl).ne rfl).ne rfl)
        have s3_51 := m51 _ _ ((((s3_47.ne rfl).ne rfl).ne rfl).ne rfl)
        have s5_51 := m51 _ _ ((((s5_47.ne rfl).ne rfl).ne rfl).ne rfl)
        have s7_51 := m51 _ _ ((((s7_47.ne rfl).ne rfl).ne rfl).ne rfl)
        have s11_51 := m51 _ _ ((((s11_47.ne rfl).ne rfl).ne rfl).ne rfl)
        have s12_51 := m51 _ _ ((((s12_47.ne rfl).ne rfl).ne rfl).ne rfl)
        have s15_51 := m51 _ _ (At.hit z47.put.put.put rfl)
        have low51 := (((low46.trans h48).trans h49).upd u50 geg15)
        clear m51
        refine e_then ?_
        refine c_seq ?_
        refine c_seq ?_
        refine c_region ?_
        refine l_q rfl (q_assign _ _ rfl rfl ?_)
        refine l_end ?_
        refine e_fresh z51.put ?_
        intro a52 z52 m52
        have s1_52 := m52 _ _ (s1_51.ne rfl)
        have s3_52 := m52 _ _ (s3_51.ne rfl)
        have s5_52 := m52 _ _ (s5_51.ne rfl)
        have s7_52 := m52 _ _ (s7_51.ne rfl)
        have s11_52 := m52 _ _ (s11_51.ne rfl)
        have s12_52 := m52 _ _ (s12_51.ne rfl)
        have s15_52 := m52 _ _ (s15_51.ne rfl)
        have s16_52 := m52 _ _ (At.hit z51 rfl)
        clear m52
        refine e_then ?_
        refine wp_block ?_
        refine c_loop 5 (fun k a w => Fr 96 a ∧ At a 1 (.string s) ∧ At a 3 (.pointer (some ⟨g3, 0, none⟩)) ∧ At a 5 (.pointer (some ⟨g5, 0, none⟩)) ∧ At a 7 (.pointer (some ⟨g7, 0, none⟩)) ∧ At a 11 (.pointer (some ⟨g11, 0, none⟩)) ∧ At a 12 (.pointer (some ⟨g12, 0, none⟩)) ∧ At a 15 (.pointer (some ⟨g15, 0, none⟩)) ∧ At a 16 (.int .i64 ((k : Nat) : Int)) ∧ w.heap[g11]? = some (.cells (nums .u32 (cl (backX (expandL s) (differenceL ty K B) (midL c s) backL 58))) 40) ∧ w.heap[g12]? = some (.cells (nums .u32 (addL (cl (lastT c s (differenceL ty K B))) (cl (firstT c s (differenceL ty K B))) k)) 40) ∧ w.heap[g15]? = some (.cells (nums .u32 (cl (prL c s))) 40) ∧ w.heap[g3]? = some (.cells (nums .u32 (cl c)) 36) ∧ w.heap[g5]? = some (.cells (#[.int .i64 ty, .int .i64 K, .int .i64 B]) 23) ∧ w.heap[g7]? = some (.cells (nums .u32 (differenceL ty K B)) 32) ∧ Low w0 w) ?_ ?_ ?_
        · exact ⟨z52, s1_52, s3_52, s5_52, s7_52, s11_52, s12_52, s15_52, s16_52, kg11_50, kg12_50, k50, kg3_50, kg5_50, kg7_50, low51⟩
        · intro k a53 w53 hk53 h
          obtain ⟨z53, s1_53, s3_53, s5_53, s7_53, s11_53, s12_53, s15_53, s16_53, kg11_53, kg12_53, kg15_53, kg3_53, kg5_53, kg7_53, low53⟩ := h
          clear k50 kg11_50 kg12_50 kg3_50 kg5_50 kg7_50 low51 s11_52 s12_52 s15_52 s16_52 s1_52 s3_52 s5_52 s7_52 z52
          refine c_seq ?_
          refine c_seq ?_
          refine c_region ?_
          refine l_q rfl (q_move _ _ rfl s16_53.ev ?_)
          refine l_q rfl (q_lss true rfl (At.hit z53 rfl).ev rfl (decide_eq_true (by omega)) ?_)
          refine l_end ?_
          refine e_fresh z53.put.put ?_
          intro a54 z54 m54
          have s1_54 := m54 _ _ ((s1_53.ne rfl).ne rfl)
          have s3_54 := m54 _ _ ((s3_53.ne rfl).ne rfl)
          have s5_54 := m54 _ _ ((s5_53.ne rfl).ne rfl)
          have s7_54 := m54 _ _ ((s7_53.ne rfl).ne rfl)
          have s11_54 := m54 _ _ ((s11_53.ne rfl).ne rfl)
          have s12_54 := m54 _ _ ((s12_53.ne rfl).ne rfl)
          have s15_54 := m54 _ _ ((s15_53.ne rfl).ne rfl)
          have s16_54 := m54 _ _ ((s16_53.ne rfl).ne rfl)
          have s71_54 := m54 _ _ (At.hit z53.put rfl)
          clear m54
          refine e_then ?_
          refine c_true s71_54 ?_
          refine wp_skip ?_
          refine e_then ?_
          refine c_seq ?_
          refine wp_block ?_
          refine region_low_tail 9 hm (by kernel_rfl) ?_
          simp only [List.take_succ_cons, List.take_zero, List.drop_succ_cons, List.drop_zero]
          refine qs (q_move _ _ rfl s16_54.ev ?_)
          refine qs (q_move _ _ rfl (s16_54.ne rfl).ev ?_)
          refine qs (q_idx (j := k) rfl Try.underlying40 sz30 ((s12_54.ne rfl).ne rfl).ev (At.hit z54.put rfl).ev (by omega) ?_)
          refine qs (q_cell (.int .u32 ((addL (cl (lastT c s (differenceL ty K B))) (cl (firstT c s (differenceL ty K B))) k).getD k 0)) rfl Try.underlying30 (At.hit z54.put.put rfl).ev (fun _ h => nums_cell (h.blk kg12_53) k (by rw [(addL_len (cl _) _ k)]; omega)) ?_)
          refine qs (q_move _ _ rfl ((((s16_54.ne rfl).ne rfl).ne rfl).ne rfl).ev ?_)
          refine qs (q_idx (j := k) rfl Try.underlying40 sz30 (((((s11_54.ne rfl).ne rfl).ne rfl).ne rfl).ne rfl).ev (At.hit z54.put.put.put.put rfl).ev (by omega) ?_)
          refine qs (q_cell (.int .u32 ((cl (backX (expandL s) (differenceL ty K B) (midL c s) backL 58)).getD k 0)) rfl Try.underlying30 (At.hit z54.put.put.put.put.put rfl).ev (fun _ h => nums_cell (h.blk kg11_53) k (by rw [(cl_len (backX (expandL s) (differenceL ty K B) (midL c s) backL 58))]; omega)) ?_)
          refine qs (q_add _ rfl ((((At.hit z54.put.put.put rfl).ne rfl).ne rfl).ne rfl).ev (At.hit z54.put.put.put.put.put.put rfl).ev rfl ?_)
          refine q_fresh z54.put.put.put.put.put.put.put.put ?_
          intro a55 z55 m55
          have s1_55 := m55 _ _ ((((((((s1_54.ne rfl).ne rfl).ne rfl).ne rfl).ne rfl).ne rfl).ne rfl).ne rfl)
          have s3_55 := m55 _ _ ((((((((s3_54.ne rfl).ne rfl).ne rfl).ne rfl).ne rfl).ne rfl).ne rfl).ne rfl)
          have s5_55 := m55 _ _ ((((((((s5_54.ne rfl).ne rfl).ne rfl).ne rfl).ne rfl).ne rfl).ne rfl).ne rfl)
          have s7_55 := m55 _ _ ((((((((s7_54.ne rfl).ne rfl).ne rfl).ne rfl).ne rfl).ne rfl).ne rfl).ne rfl)
          have s11_55 := m55 _ _ ((((((((s11_54.ne rfl).ne rfl).ne rfl).ne rfl).ne rfl).ne rfl).ne rfl).ne rfl)
          have s12_55 := m55 _ _ ((((((((s12_54.ne rfl).ne rfl).ne rfl).ne rfl).ne rfl).ne rfl).ne rfl).ne rfl)
          have s15_55 := m55 _ _ ((((((((s15_54.ne rfl).ne rfl).ne rfl).ne rfl).ne rfl).ne rfl).ne rfl).ne rfl)
          have s16_55 := m55 _ _ ((((((((s16_54.ne rfl).ne rfl).ne rfl).ne rfl).ne rfl).ne rfl).ne rfl).ne rfl)
          have s74_55 := m55 _ _ ((((((((At.hit z54 rfl).ne rfl).ne rfl).ne rfl).ne rfl).ne rfl).ne rfl).ne rfl)
          have s81_55 := m55 _ _ (At.hit z54.put.put.put.put.put.put.put rfl)
          clear m55
          refine qs (q_idx (j := k) rfl Try.underlying40 sz30 s12_55.ev s74_55.ev (by omega) ?_)
          refine qz ?_
          intro w56 h56
          have kg11_56 := h56.blk kg11_53
          have kg12_56 := h56.blk kg12_53
          have kg15_56 := h56.blk kg15_53
          have kg3_56 := h56.blk kg3_53
          have kg5_56 := h56.blk kg5_53
          have kg7_56 := h56.blk kg7_53
          refine l_cell (j := k) (v := .int .u32 (IntKind.u32.wrap (((addL (cl (lastT c s (differenceL ty K B))) (cl (firstT c s (differenceL ty K B))) k).getD k 0) + ((cl (backX (expandL s) (differenceL ty K B) (midL c s) backL 58)).getD k 0)))) rfl rfl rfl sz30 (At.hit z55 rfl).ev (s81_55.ne rfl).ev rfl kg12_56 (by rw [(nums_size _ _).trans (addL_len (cl _) _ k)]; omega) ?_
          intro w57 k57 u57
          rw [nums_put] at k57
          have kg11_57 := u57.blk kg11_56 (by omega)
          have kg15_57 := u57.blk kg15_56 (by omega)
          have kg3_57 := u57.blk kg3_56 (by omega)
          have kg5_57 := u57.blk kg5_56 (by omega)
          have kg7_57 := u57.blk kg7_56 (by omega)
          refine l_end ?_
          refine e_fresh z55.put ?_
          intro a58 z58 m58
          have s1_58 := m58 _ _ (s1_55.ne rfl)
          have s3_58 := m58 _ _ (s3_55.ne rfl)
          have s5_58 := m58 _ _ (s5_55.ne rfl)
          have s7_58 := m58 _ _ (s7_55.ne rfl)
          have s11_58 := m58 _ _ (s11_55.ne rfl)
          have s12_58 := m58 _ _ (s12_55.ne rfl)
          have s15_58 := m58 _ _ (s15_55.ne rfl)
          have s16_58 := m58 _ _ (s16_55.ne rfl)
          have low58 := ((low53.trans h56).upd u57 geg12)
          clear m58
          refine e_in ?_
          refine e_then ?_
          refine c_region ?_
          refine l_q rfl (q_move _ _ rfl s16_58.ev ?_)
          refine l_q rfl (q_add (((k + 1 : Nat) : Int)) rfl (At.hit z58 rfl).ev rfl (i64_is (by omega) (by omega) (by omega)) ?_)
          refine l_q rfl (q_assign _ _ rfl (At.hit z58.put rfl).ev ?_)
          refine l_end ?_
          refine e_fresh z58.put.put.put ?_
          intro a59 z59 m59
          have s1_59 := m59 _ _ (((s1_58.ne rfl).ne rfl).ne rfl)
          have s3_59 := m59 _ _ (((s3_58.ne rfl).ne rfl).ne rfl)
          have s5_59 := m59 _ _ (((s5_58.ne rfl).ne rfl).ne rfl)
          have s7_59 := m59 _ _ (((s7_58.ne rfl).ne rfl).ne rfl)
          have s11_59 := m59 _ _ (((s11_58.ne rfl).ne rfl).ne rfl)
          have s12_59 := m59 _ _ (((s12_58.ne rfl).ne rfl).ne rfl)
          have s15_59 := m59 _ _ (((s15_58.ne rfl).ne rfl).ne rfl)
          have s16_59 := m59 _ _ (At.hit z58.put.put rfl)
          clear m59
          exact ⟨z59, s1_59, s3_59, s5_59, s7_59, s11_59, s12_59, s15_59, s16_59, kg11_57, k57, kg15_57, kg3_57, kg5_57, kg7_57, low58⟩
        · intro a60 w60 h
          obtain ⟨z60, s1_60, s3_60, s5_60, s7_60, s11_60, s12_60, s15_60, s16_60, kg11_60, kg12_60, kg15_60, kg3_60, kg5_60, kg7_60, low60⟩ := h
          clear k50 kg11_50 kg12_50 kg3_50 kg5_50 kg7_50 low51 s11_52 s12_52 s15_52 s16_52 s1_52 s3_52 s5_52 s7_52 z52
          refine c_seq ?_
          refine c_seq ?_
          refine c_region ?_
          refine l_q rfl (q_move _ _ rfl s16_60.ev ?_)
          refine l_q rfl (q_lss false rfl (At.hit z60 rfl).ev rfl (decide_eq_false (by omega)) ?_)
          refine l_end ?_
          refine e_fresh z60.put.put ?_
          intro a61 z61 m61
          have s1_61 := m61 _ _ ((s1_60.ne rfl).ne rfl)
          have s3_61 := m61 _ _ ((s3_60.ne rfl).ne rfl)
          have s5_61 := m61 _ _ ((s5_60.ne rfl).ne rfl)
          have s7_61 := m61 _ _ ((s7_60.ne rfl).ne rfl)
          have s11_61 := m61 _ _ ((s11_60.ne rfl).ne rfl)
          have s12_61 := m61 _ _ ((s12_60.ne rfl).ne rfl)
          have s15_61 := m61 _ _ ((s15_60.ne rfl).ne rfl)
          have s16_61 := m61 _ _ ((s16_60.ne rfl).ne rfl)
          have s71_61 := m61 _ _ (At.hit z60.put rfl)
          clear m61
          refine e_then ?_
          refine c_false s71_61 ?_
          refine wp_exit ?_
          refine x_then ?_
          refine x_then ?_
          refine in_exit ?_
          refine e_then ?_
          refine c_seq ?_
          refine region_lowg hm (by kernel_rfl) ?_
          refine gs rfl (q_row rfl Try.underlying36 rfl (sz36.trans (congrArg some ((nums_size _ _).trans (cl_len c)).symm)) s3_61.ev (fun _ h => h.blk kg3_60) ?_)
          refine gs rfl (q_move _ _ rfl (s1_61.ne rfl).ev ?_)
          refine gs rfl (q_row rfl Try.underlying23 rfl (sz23.trans (congrArg some rfl.symm)) ((s5_61.ne rfl).ne rfl).ev (fun _ h => h.blk kg5_60) ?_)
          refine gs rfl (q_call (.bool (markedL c s ty K B)) rfl rfl Try.func13 rfl (args3 rfl (((At.hit z61 rfl).ne rfl).ne rfl).ev ((At.hit z61.put rfl).ne rfl).ev (At.hit z61.put.put rfl).ev) (fun _ h => (MarkedL.calls c s (by omega) ty K B _).mono fun _ _ ⟨e, k⟩ => ⟨e, h.trans k⟩) ?_)
          refine gs rfl (q_row rfl Try.underlying32 rfl (sz32.trans (congrArg some ((nums_size _ _).trans (differenceL_len _ _ _)).symm)) ((((s7_61.ne rfl).ne rfl).ne rfl).ne rfl).ev (fun _ h => h.blk kg7_60) ?_)
          refine gs rfl (q_zero rfl Try.underlying32 sz30 zero32 ?_)
          refine gs rfl (q_nerow true rfl Try.eqGuardType32 Try.underlying32 Try.underlying30 info30 cells30 ((At.hit z61.put.put.put.put rfl).ne rfl).ev (At.hit z61.put.put.put.put.put rfl).ev (differenceL_len _ _ _) (List.length_replicate) (by rw [decide_eq_false hd]; rfl) ?_)
          refine gs rfl (q_move _ _ rfl (At.hit z61.put.put.put.put.put.put rfl).ev ?_)
          refine g_fresh z61.put.put.put.put.put.put.put.put ?_
          intro a62 z62 m62
          have s12_62 := m62 _ _ ((((((((s12_61.ne rfl).ne rfl).ne rfl).ne rfl).ne rfl).ne rfl).ne rfl).ne rfl)
          have s15_62 := m62 _ _ ((((((((s15_61.ne rfl).ne rfl).ne rfl).ne rfl).ne rfl).ne rfl).ne rfl).ne rfl)
          have s86_62 := m62 _ _ (((((At.hit z61.put.put.put rfl).ne rfl).ne rfl).ne rfl).ne rfl)
          have s90_62 := m62 _ _ (At.hit z61.put.put.put.put.put.put.put rfl)
          clear m62
          refine gsg (wanted_is (j := 7) (d := 90) (b := true) rfl rfl s90_62 rfl) (q_row rfl Try.underlying40 rfl (sz40.trans (congrArg some ((nums_size _ _).trans (addL_len (cl _) _ 5)).symm)) s12_62.ev (fun _ h => h.blk kg12_60) ?_)
          refine gsg (wanted_is (j := 7) (d := 90) (b := true) rfl rfl (s90_62.ne rfl) rfl) (q_row rfl Try.underlying40 rfl (sz40.trans (congrArg some ((nums_size _ _).trans (cl_len (prL c s))).symm)) (s15_62.ne rfl).ev (fun _ h => h.blk kg15_60) ?_)
          refine gsg (wanted_is (j := 7) (d := 90) (b := true) rfl rfl ((s90_62.ne rfl).ne rfl) rfl) (q_eqrow _ rfl Try.eqGuardType40 Try.underlying40 Try.underlying30 info30 cells30 ((At.hit z62 rfl).ne rfl).ev (At.hit z62.put rfl).ev (addL_len (cl _) _ 5) (cl_len (prL c s)) rfl ?_)
          refine gs rfl (q_pick (b := true) (.bool (decide (addL (cl (lastT c s (differenceL ty K B))) (cl (firstT c s (differenceL ty K B))) 5 = cl (prL c s)))) rfl (((s90_62.ne rfl).ne rfl).ne rfl).ev (At.hit z62.put.put rfl).ev ?_)
          refine gs rfl (q_boolq true rfl Try.underlying4 ((((s86_62.ne rfl).ne rfl).ne rfl).ne rfl).ev (At.hit z62.put.put.put rfl).ev (by rw [hmk, twinB, decide_eq_false hd]; simp) ?_)
          refine gs rfl (q_assign _ _ rfl (At.hit z62.put.put.put.put rfl).ev ?_)
          refine gz ?_
          intro w63 h63
          have kg11_63 := h63.blk kg11_60
          have kg12_63 := h63.blk kg12_60
          have kg15_63 := h63.blk kg15_60
          have kg3_63 := h63.blk kg3_60
          have kg5_63 := h63.blk kg5_60
          have kg7_63 := h63.blk kg7_60
          refine e_id ?_
          refine e_fresh z62.put.put.put.put.put.put ?_
          intro a64 z64 m64
          have s6_64 := m64 _ _ (At.hit z62.put.put.put.put.put rfl)
          have low64 := (low60.trans h63)
          clear m64
          refine e_then ?_
          refine wp_ret ?_
          refine r_tmp rfl z64.defers s6_64 ?_
          exact ⟨rfl, low64⟩
end Go.Proofs.Ytffhmlnklohbdaa.Q
end
/-! P0 -/
section
namespace Go.Proofs.Ytffhmlnklohbdaa.Q
open Go.RowKit Go.Proofs.Ytffhmlnklohbdaa.P Go.Proofs.YtffhmlnklohbdaaW.PrintWords Go.Proofs.YtffhmlnklohbdaaW.PrintMore
theorem rot1 (x : Int) : rotl x 1 = rotr x 1 := by unfold rotl rotr; rw [show Go.bits .and .u64 (IntKind.u64.wrap 1) 31 = 1 from by decide]
theorem rot2 (x : Int) : rotl x 2 = rotr x 2 := by unfold rotl rotr; rw [show Go.bits .and .u64 (IntKind.u64.wrap 2) 31 = 2 from by decide]
theorem rot5 (x : Int) : rotl x 5 = rotr x 5 := by unfold rotl rotr; rw [show Go.bits .and .u64 (IntKind.u64.wrap 5) 31 = 5 from by decide]
theorem rot30 (x : Int) : rotl x 30 = rotr x 30 := by unfold rotl rotr; rw [show Go.bits .and .u64 (IntKind.u64.wrap 30) 31 = 30 from by decide]
theorem rot31 (x : Int) : rotl x 31 = rotr x 31 := by unfold rotl rotr; rw [show Go.bits .and .u64 (IntKind.u64.wrap 31) 31 = 31 from by decide]
theorem mix_eq (t b c d : Int) (h0 : 0 ≤ t) (h1 : t < 80) : mixL t b c d = mixR t b c d := by
  unfold mixL mixR sha1_mixed.f diptychref02_Mix.f
  have hm : mx 0 (mn t 79) = t := by unfold mx mn; repeat' split <;> omega
  rw [hm]
  by_cases a : t < 20
  · rw [if_pos a, if_pos (by omega)]
  · rw [if_neg a, if_neg (by omega)]
    by_cases a2 : t < 40
    · rw [if_pos a2, if_pos (by omega)]
    · rw [if_neg a2, if_neg (by omega)]
      by_cases a3 : t < 60
      · rw [if_pos a3, if_pos (by omega)]
      · rw [if_neg a3, if_neg (by omega)]
theorem step_eq (x : Ch) (t w : Int) (h0 : 0 ≤ t) (h1 : t < 80) : stepL x t w = stepR x t w := by
  unfold stepL stepR
  rw [rot5, rot30, mix_eq t _ _ _ h0 h1]
  congr 1
  simp only [IntKind.wrap_u32]
  omega
theorem back_eq (x : Ch) (t w : Int) (h0 : 0 ≤ t) (h1 : t < 80) : backL x t w = backR x t w := by
  unfold backL backR stepR
  rw [rot2, rot5, mix_eq t _ _ _ h0 h1]
  congr 5
  simp only [IntKind.wrap_u32]
  omega
theorem stepsLR (l : List Int) (x : Ch) : ∀ k, k ≤ 80 → stepsL l x k = stepsR l x k
  | 0, _ => rfl
  | k + 1, h => by rw [stepsL, stepsR, stepsLR l x k (by omega), step_eq _ _ _ (by omega) (by omega)]
theorem stepsX_eq (l m : List Int) (x : Ch) (t0 : Nat) : ∀ k, t0 + k ≤ 80 → stepsX l m x stepL t0 k = stepsX l m x stepR t0 k
  | 0, _ => rfl
  | k + 1, h => by rw [stepsX, stepsX, stepsX_eq l m x t0 k (by omega), step_eq _ _ _ (by omega) (by omega)]
theorem backX_eq (l m : List Int) (x : Ch) : ∀ k, k ≤ 58 → backX l m x backL k = backX l m x backR k
  | 0, _ => rfl
  | k + 1, h => by rw [backX, backX, backX_eq l m x k (by omega), back_eq _ _ _ (by omega) (by omega)]
theorem stepsO_eq (l : List Int) (x : Ch) (t0 : Nat) : ∀ k, stepsO l (stepsL l x t0) t0 k = stepsL l x (t0 + k)
  | 0 => rfl
  | k + 1 => by rw [stepsO, stepsO_eq l x t0 k, show t0 + (k + 1) = (t0 + k) + 1 from rfl, stepsL, Nat.add_comm k t0]
end Go.Proofs.Ytffhmlnklohbdaa.Q
end
/-! P1 -/
section
namespace Go.Proofs.Ytffhmlnklohbdaa.Q
open Go.RowKit Go.Proofs.Ytffhmlnklohbdaa.P Go.Proofs.YtffhmlnklohbdaaW.PrintWords Go.Proofs.YtffhmlnklohbdaaW.PrintMore
def bv (x : Int) : BitVec 32 := BitVec.ofInt 32 x
def InR (x : Int) : Prop := 0 ≤ x ∧ x < 4294967296
theorem wrap_bv (b : BitVec 32) : IntKind.u32.wrap (b.toNat : Int) = (b.toNat : Int) := by
  rw [IntKind.wrap_u32]
  have := b.isLt
  omega
theorem bits_xor (x y : Int) : Go.bits .xor .u32 x y = ((bv x ^^^ bv y).toNat : Int) := wrap_bv _
theorem bits_or (x y : Int) : Go.bits .or .u32 x y = ((bv x ||| bv y).toNat : Int) := wrap_bv _
theorem bv_toNat (b : BitVec 32) : bv (b.toNat : Int) = b := by
  unfold bv
  rw [BitVec.ofInt_natCast]
  simp
theorem inR_bv (b : BitVec 32) : InR (b.toNat : Int) := ⟨by omega, by have := b.isLt; omega⟩
theorem inR_xor (x y : Int) : InR (Go.bits .xor .u32 x y) := by rw [bits_xor]; exact inR_bv _
theorem inR_or (x y : Int) : InR (Go.bits .or .u32 x y) := by rw [bits_or]; exact inR_bv _
theorem inR_wrap (x : Int) : InR (IntKind.u32.wrap x) := by rw [IntKind.wrap_u32]; unfold InR; omega
theorem inR_zero : InR 0 := ⟨Int.le_refl _, by decide⟩
theorem bv_of (x : Int) (h : InR x) : ((bv x).toNat : Int) = x := by
  obtain ⟨h0, h1⟩ := h
  obtain ⟨n, rfl⟩ := Int.eq_ofNat_of_zero_le h0
  unfold bv
  rw [BitVec.ofInt_natCast, BitVec.toNat_ofNat]
  omega
/-- a word of 32 bits turned to the left by 30 -/
def rt30 (b : BitVec 32) : BitVec 32 := b <<< 30 ||| b >>> 2
theorem rt30_xor (a b : BitVec 32) : rt30 (a ^^^ b) = rt30 a ^^^ rt30 b := by
  apply BitVec.eq_of_getLsbD_eq
  intro i hi
  unfold rt30
  simp only [BitVec.getLsbD_or, BitVec.getLsbD_xor, BitVec.getLsbD_shiftLeft, BitVec.getLsbD_ushiftRight]
  by_cases h : i < 30
  · simp [h]
  · have h1 : a.getLsbD (2 + i) = false := BitVec.getLsbD_of_ge _ _ (by omega)
    have h2 : b.getLsbD (2 + i) = false := BitVec.getLsbD_of_ge _ _ (by omega)
    simp [h, hi, h1, h2]
theorem shl30_bv (b : BitVec 32) : bv (Proofs.YtffhmlnklohbdaaW.PrintWords.shl .u32 (b.toNat : Int) 30) = b <<< 30 := by
  apply BitVec.eq_of_toNat_eq
  unfold Proofs.YtffhmlnklohbdaaW.PrintWords.shl
  rw [show min (30 : Int).toNat IntKind.u32.bits = 30 from rfl, IntKind.wrap_u32]
  have h : ((b.toNat : Int) * 2 ^ 30) % 4294967296 = ((b.toNat * 2 ^ 30 % 4294967296 : Nat) : Int) := by omega
  rw [h]
  unfold bv
  rw [BitVec.ofInt_natCast, BitVec.toNat_ofNat, BitVec.toNat_shiftLeft, Nat.shiftLeft_eq]
  omega
theorem shr2_bv (b : BitVec 32) : bv (shr .u32 (b.toNat : Int) (IntKind.u64.wrap (32 - 30))) = b >>> 2 := by
  apply BitVec.eq_of_toNat_eq
  unfold shr
  rw [show min (IntKind.u64.wrap (32 - 30)).toNat IntKind.u32.bits = 2 from by decide]
  have h : (b.toNat : Int) / 2 ^ 2 = ((b.toNat / 4 : Nat) : Int) := by omega
  rw [h]
  unfold bv
  rw [BitVec.ofInt_natCast, BitVec.toNat_ofNat, BitVec.toNat_ushiftRight, Nat.shiftRight_eq_div_pow]
  have := b.isLt
  omega
theorem rotr30_bv (b : BitVec 32) : rotr (b.toNat : Int) 30 = ((rt30 b).toNat : Int) := by
  unfold rotr
  rw [bits_or, shl30_bv, shr2_bv]
  rfl
theorem rotr30 (x : Int) (h : InR x) : rotr x 30 = ((rt30 (bv x)).toNat : Int) := by
  rw [← rotr30_bv, bv_of x h]
def AllR (l : List Int) : Prop := ∀ i, InR (l.getD i 0)
theorem AllR.set {l : List Int} (h : AllR l) (i : Nat) {v : Int} (hv : InR v) : AllR (l.set i v) := fun j => by
  rw [List.getD_eq_getElem?_getD, List.getElem?_set]
  split
  · split
    · exact hv
    · exact inR_zero
  · rw [← List.getD_eq_getElem?_getD]; exact h j
theorem allR_zero (n : Nat) : AllR (List.replicate n 0) := fun j => by
  rw [List.getD_eq_getElem?_getD, List.getElem?_replicate]
  split <;> exact inR_zero
theorem begin_eq (two : Bool) (K B : Nat) (hK : K ≤ 64) (hB : B ≤ 31) : beginL two K B = beginR two K B := by
  have h1 : IntKind.u32.wrap (1 * 2 ^ min ((B : Nat) : Int).toNat 32) = IntKind.u32.wrap (1 * 2 ^ min (IntKind.u64.wrap ((B : Nat) : Int)).toNat 32) := by
    rw [IntKind.wrap_u64]
    congr 4
    omega
  have h2 : rotl 1 ((B + 31 : Nat) : Int) = IntKind.u32.wrap (1 * 2 ^ min (IntKind.u64.wrap (((B + 31) % 32 : Nat) : Int)).toNat 32) := by
    have : ∀ b, b < 32 → rotl 1 ((b + 31 : Nat) : Int) = IntKind.u32.wrap (1 * 2 ^ min (IntKind.u64.wrap (((b + 31) % 32 : Nat) : Int)).toNat 32) := by decide +kernel
    exact this B (by omega)
  unfold beginL beginR
  rw [h1, h2]
  cases two
  · rfl
  · simp only [if_true]
    congr 1
    rw [List.getD_eq_getElem?_getD, List.getElem?_set_self (by simp; omega)]
    rfl
theorem dn_eq (l : List Int) (K : Nat) : ∀ k, dnL l K k = dnR l K k
  | 0 => rfl
  | k + 1 => by rw [dnL, dnR, dn_eq l K k, rot31]
theorem row_eq (two : Bool) (K B : Nat) (hK : K ≤ 64) (hB : B ≤ 31) : rowL two K B = rowR two K B := by
  unfold rowL rowR
  rw [begin_eq two K B hK hB, dn_eq, funext rot1]
theorem up_R {l : List Int} (K : Nat) (rt : Int → Int) (h : AllR l) (hr : ∀ x, InR (rt x)) : ∀ k, AllR (up l K rt k)
  | 0 => h
  | k + 1 => (up_R K rt h hr k).set _ (hr _)
theorem dnL_R {l : List Int} (K : Nat) (h : AllR l) : ∀ k, AllR (dnL l K k)
  | 0 => h
  | k + 1 => (dnL_R K h k).set _ (inR_xor _ _)
theorem rowL_R (two : Bool) (K B : Nat) : AllR (rowL two K B) := by
  refine dnL_R K (up_R K _ ?_ (fun x => inR_or _ _) _) _
  unfold beginL
  cases two
  · exact (allR_zero 85).set _ (inR_wrap _)
  · have h1 := (allR_zero 85).set (K + 20) (inR_wrap (1 * 2 ^ min ((B : Nat) : Int).toNat 32))
    have h2 := h1.set (K + 6) (inR_or (Proofs.YtffhmlnklohbdaaW.PrintWords.shl .u32 1 (Go.bits .and .u64 (IntKind.u64.wrap ((B + 31 : Nat) : Int)) 31)) (shr .u32 1 (IntKind.u64.wrap (32 - (Go.bits .and .u64 (IntKind.u64.wrap ((B + 31 : Nat) : Int)) 31)))))
    exact h2.set (K + 8) (h2 _)
theorem diff_eq (d : List Int) (h : AllR d) : ∀ t, diffL d t = diffR d t
  | 0 => rfl
  | t + 1 => by
    rw [diffL, diffR, diff_eq d h t]
    congr 1
    rw [rot5, rot30, rotr30 _ (inR_xor _ _), rotr30 _ (h (t + 2)), rotr30 _ (h (t + 1)), rotr30 _ (h t)]
    simp only [bits_xor, bv_toNat, rt30_xor]
    congr 1
    simp only [BitVec.xor_assoc]
theorem difference_eq (ty K B : Int) : differenceL ty K B = differenceR ty K B := by
  unfold differenceL differenceR
  by_cases ho : okV ty K B = true
  · rw [if_pos ho, if_pos ho]
    unfold okV at ho
    simp only [decide_eq_true_eq] at ho
    rw [← row_eq _ _ _ (by omega) (by omega), diff_eq _ (rowL_R _ _ _)]
  · rw [if_neg ho, if_neg ho]
end Go.Proofs.Ytffhmlnklohbdaa.Q
end
/-! P2 -/
section
namespace Go.Proofs.Ytffhmlnklohbdaa.Q
open Go.RowKit Go.Proofs.Ytffhmlnklohbdaa.P Go.Proofs.YtffhmlnklohbdaaW.PrintWords Go.Proofs.YtffhmlnklohbdaaW.PrintMore
def bt (s : ByteArray) (i : Nat) : Nat := if h : i < s.size then s[i].toNat else 0
theorem bt_lt (s : ByteArray) (i : Nat) : bt s i < 256 := by
  unfold bt
  split
  · exact UInt8.toNat_lt _
  · omega
theorem bt_in {s : ByteArray} {i : Nat} (h : i < s.size) : s[i].toNat = bt s i := by unfold bt; rw [dif_pos h]
theorem bt_out {s : ByteArray} {i : Nat} (h : s.size ≤ i) : bt s i = 0 := by unfold bt; rw [dif_neg (by omega)]
theorem ext_getD {l l' : List Int} (hl : l.length = l'.length) (h : ∀ j, l.getD j 0 = l'.getD j 0) : l = l' := by
  refine List.ext_getElem hl fun j h1 h2 => ?_
  have := h j
  simp only [List.getD_eq_getElem?_getD, List.getElem?_eq_getElem h1, List.getElem?_eq_getElem h2, Option.getD_some] at this
  exact this
theorem getD_set (l : List Int) (t j : Nat) (v : Int) (ht : t < l.length) : (l.set t v).getD j 0 = if j = t then v else l.getD j 0 := by
  rw [List.getD_eq_getElem?_getD, List.getElem?_set]
  by_cases h : t = j
  · subst h; simp [ht]
  · rw [if_neg h, if_neg (fun e => h e.symm), ← List.getD_eq_getElem?_getD]
def vR (s : ByteArray) (t : Nat) : Nat → Nat
  | 0 => 0
  | m + 1 => (vR s t m * 256 + bt s (4 * t + m)) % 4294967296
theorem exR1_get (s : ByteArray) (t : Nat) (l : List Int) (hl : l.length = 80) (ht : t < 80) (h0 : l.getD t 0 = 0) : ∀ m j, (exR1 s t l m).getD j 0 = if j = t then ((vR s t m : Nat) : Int) else l.getD j 0
  | 0, j => by
    show l.getD j 0 = _
    split
    · rename_i h; rw [h, h0]; rfl
    · rfl
  | m + 1, j => by
    have ih := exR1_get s t l hl ht h0 m
    have ht' : t < (exR1 s t l m).length := by rw [exR1_len s t l hl]; exact ht
    have e1 : ((exR1 s t l m).set t (IntKind.u32.wrap ((exR1 s t l m).getD t 0 * 256))).getD t 0 = ((vR s t m * 256 % 4294967296 : Nat) : Int) := by
      rw [getD_set _ _ _ _ ht', if_pos rfl, ih t, if_pos rfl, IntKind.wrap_u32]
      omega
    by_cases hb : 4 * t + m < s.size
    · rw [exR1_yes s t m l hb, getD_set _ _ _ _ (by rw [List.length_set]; exact ht')]
      split
      · rw [e1, IntKind.wrap_u32, IntKind.wrap_u32, bt_in hb, vR]
        have := bt_lt s (4 * t + m)
        omega
      · rename_i hj
        rw [getD_set _ _ _ _ ht', if_neg hj, ih j, if_neg hj]
    · rw [exR1_no s t m l hb, getD_set _ _ _ _ ht']
      split
      · rw [ih t, if_pos rfl, IntKind.wrap_u32, vR, bt_out (by omega)]
        omega
      · rename_i hj
        rw [ih j, if_neg hj]
theorem exR_get (s : ByteArray) : ∀ k, k ≤ 80 → ∀ j, (exR s k).getD j 0 = if j < k then ((vR s j 4 : Nat) : Int) else 0
  | 0, _, j => by
    show (List.replicate 80 (0 : Int)).getD j 0 = _
    rw [List.getD_eq_getElem?_getD, List.getElem?_replicate]
    split <;> simp
  | k + 1, hk, j => by
    have ih := exR_get s k (by omega)
    rw [exR, exR1_get s k _ (exR_len s k) (by omega) (by rw [ih k, if_neg (by omega)]) 4 j]
    by_cases h1 : j = k
    · subst h1; rw [if_pos rfl, if_pos (by omega)]
    · rw [if_neg h1, ih j]
      by_cases h2 : j < k
      · rw [if_pos h2, if_pos (by omega)]
      · rw [if_neg h2, if_neg (by omega)]
def wd (s : ByteArray) (t : Nat) : Nat := bt s (4 * t) * 16777216 + bt s (4 * t + 1) * 65536 + bt s (4 * t + 2) * 256 + bt s (4 * t + 3)
theorem vR_wd (s : ByteArray) (t : Nat) : vR s t 4 = wd s t := by
  have h0 := bt_lt s (4 * t)
  have h1 := bt_lt s (4 * t + 1)
  have h2 := bt_lt s (4 * t + 2)
  have h3 := bt_lt s (4 * t + 3)
  simp only [vR, wd, Nat.add_zero]
  omega
def pL (s : ByteArray) (k t : Nat) : Nat := (if 4 * t < k then bt s (4 * t) else 0) * 16777216 + (if 4 * t + 1 < k then bt s (4 * t + 1) else 0) * 65536 + (if 4 * t + 2 < k then bt s (4 * t + 2) else 0) * 256 + (if 4 * t + 3 < k then bt s (4 * t + 3) else 0)
theorem bits_or_nat (x y : Nat) (hx : x < 4294967296) (hy : y < 4294967296) : Go.bits .or .u32 (x : Int) (y : Int) = ((x ||| y : Nat) : Int) := by
  rw [bits_or]
  unfold bv
  rw [BitVec.ofInt_natCast, BitVec.ofInt_natCast, BitVec.toNat_or, BitVec.toNat_ofNat, BitVec.toNat_ofNat, Nat.mod_eq_of_lt hx, Nat.mod_eq_of_lt hy]
theorem or_add (a b e : Nat) (hb : b < 2 ^ e) (h : 2 ^ e * a + b < 4294967296) : Go.bits .or .u32 ((2 ^ e * a : Nat) : Int) (b : Int) = ((2 ^ e * a + b : Nat) : Int) := by
  rw [bits_or_nat _ _ (by omega) (by omega), Nat.two_pow_add_eq_or_of_lt hb]
theorem shifted (b m : Nat) (hb : b < 256) (hm : m < 4) : IntKind.u32.wrap (IntKind.u32.wrap (b : Int) * 2 ^ min (24 - 8 * ((m : Nat) : Int)).toNat 32) = ((b * 2 ^ (24 - 8 * m) : Nat) : Int) := by
  rw [IntKind.wrap_u32, IntKind.wrap_u32]
  have h : m = 0 ∨ m = 1 ∨ m = 2 ∨ m = 3 := by omega
  rcases h with rfl | rfl | rfl | rfl
  · rw [show min (24 - 8 * ((0 : Nat) : Int)).toNat 32 = 24 from by decide]; simp only [Nat.mul_zero, Nat.sub_zero]; omega
  · rw [show min (24 - 8 * ((1 : Nat) : Int)).toNat 32 = 16 from by decide]; simp only [Nat.mul_one, Nat.reduceSub]; omega
  · rw [show min (24 - 8 * ((2 : Nat) : Int)).toNat 32 = 8 from by decide]; simp only [Nat.reduceMul, Nat.reduceSub]; omega
  · rw [show min (24 - 8 * ((3 : Nat) : Int)).toNat 32 = 0 from by decide]; simp only [Nat.reduceMul, Nat.reduceSub]; omega
theorem pL_other (s : ByteArray) (k j : Nat) (h : j ≠ k / 4) : pL s (k + 1) j = pL s k j := by
  unfold pL
  have e : ∀ m, m < 4 → ((4 * j + m < k + 1) ↔ (4 * j + m < k)) := fun m hm => by omega
  have e0 := e 0 (by omega)
  simp only [Nat.add_zero] at e0
  simp only [e0, e 1 (by omega), e 2 (by omega), e 3 (by omega)]
theorem pL_at (s : ByteArray) (k : Nat) : Go.bits .or .u32 ((pL s k (k / 4) : Nat) : Int) ((bt s k * 2 ^ (24 - 8 * (k % 4)) : Nat) : Int) = ((pL s (k + 1) (k / 4) : Nat) : Int) := by
  generalize hq : k / 4 = q
  have hm : k % 4 = 0 ∨ k % 4 = 1 ∨ k % 4 = 2 ∨ k % 4 = 3 := by omega
  have h0 := bt_lt s (4 * q)
  have h1 := bt_lt s (4 * q + 1)
  have h2 := bt_lt s (4 * q + 2)
  have h3 := bt_lt s (4 * q + 3)
  rcases hm with hm | hm | hm | hm
  · obtain rfl : k = 4 * q := by omega
    rw [hm]
    unfold pL
    rw [if_neg (by omega), if_neg (by omega), if_neg (by omega), if_neg (by omega), if_pos (by omega), if_neg (by omega), if_neg (by omega), if_neg (by omega)]
    have := or_add 0 (bt s (4 * q) * 16777216) 32 (by omega) (by omega)
    simpa using this
  · obtain rfl : k = 4 * q + 1 := by omega
    rw [hm]
    unfold pL
    rw [if_pos (by omega), if_neg (by omega), if_neg (by omega), if_neg (by omega), if_pos (by omega), if_pos (by omega), if_neg (by omega), if_neg (by omega)]
    have := or_add (bt s (4 * q)) (bt s (4 * q + 1) * 65536) 24 (by omega) (by omega)
    rw [show 2 ^ 24 * bt s (4 * q) = bt s (4 * q) * 16777216 from by omega] at this
    simpa using this
  · obtain rfl : k = 4 * q + 2 := by omega
    rw [hm]
    unfold pL
    rw [if_pos (by omega), if_pos (by omega), if_neg (by omega), if_neg (by omega), if_pos (by omega), if_pos (by omega), if_pos (by omega), if_neg (by omega)]
    have := or_add (bt s (4 * q) * 256 + bt s (4 * q + 1)) (bt s (4 * q + 2) * 256) 16 (by omega) (by omega)
    rw [show 2 ^ 16 * (bt s (4 * q) * 256 + bt s (4 * q + 1)) = bt s (4 * q) * 16777216 + bt s (4 * q + 1) * 65536 from by omega] at this
    simpa using this
  · obtain rfl : k = 4 * q + 3 := by omega
    rw [hm]
    unfold pL
    rw [if_pos (by omega), if_pos (by omega), if_pos (by omega), if_neg (by omega), if_pos (by omega), if_pos (by omega), if_pos (by omega), if_pos (by omega)]
    have := or_add (bt s (4 * q) * 65536 + bt s (4 * q + 1) * 256 + bt s (4 * q + 2)) (bt s (4 * q + 3)) 8 (by omega) (by omega)
    rw [show 2 ^ 8 * (bt s (4 * q) * 65536 + bt s (4 * q + 1) * 256 + bt s (4 * q + 2)) = bt s (4 * q) * 16777216 + bt s (4 * q + 1) * 65536 + bt s (4 * q + 2) * 256 from by omega] at this
    simpa using this
theorem exL_get (s : ByteArray) : ∀ k, k ≤ s.size → k ≤ 64 → ∀ j, (exL s k).getD j 0 = ((pL s k j : Nat) : Int)
  | 0, _, _, j => by
    show (List.replicate 80 (0 : Int)).getD j 0 = _
    rw [List.getD_eq_getElem?_getD, List.getElem?_replicate]
    unfold pL
    split <;> simp
  | k + 1, hk, h6, j => by
    have ih := exL_get s k (by omega) (by omega)
    have hks : k < s.size := by omega
    rw [exL_yes s k hks, getD_set _ _ _ _ (by rw [exL_len s k]; omega)]
    split
    · rename_i hj
      rw [ih, bt_in hks, shifted _ _ (bt_lt s k) (Nat.mod_lt _ (by omega)), pL_at, hj]
    · rename_i hj
      rw [ih j, pL_other s k j hj]
theorem pL_wd (s : ByteArray) (t : Nat) : pL s (min s.size 64) t = if t < 16 then wd s t else 0 := by
  split
  · rename_i h
    unfold pL wd
    have e : ∀ i, i < 64 → (if i < min s.size 64 then bt s i else 0) = bt s i := fun i hi => by
      split
      · rfl
      · rw [bt_out (by omega)]
    rw [e _ (by omega), e _ (by omega), e _ (by omega), e _ (by omega)]
  · unfold pL
    rw [if_neg (by omega), if_neg (by omega), if_neg (by omega), if_neg (by omega)]
theorem words_eq (s : ByteArray) : exL s (min s.size 64) = exR s 16 := by
  refine ext_getD (by rw [exL_len s, exR_len s]) fun j => ?_
  rw [exL_get s _ (by omega) (by omega), exR_get s 16 (by omega), pL_wd]
  split
  · rw [vR_wd]
  · rfl
theorem exL2_eq (l : List Int) : ∀ d, exL2 l d = exR2 l d
  | 0 => rfl
  | d + 1 => by rw [exL2, exR2, exL2_eq l d, rot1]
theorem expand_eq (s : ByteArray) : expandL s = expandR s := by rw [expandL, expandR, words_eq, exL2_eq]
theorem expand_congr {s s' : ByteArray} (h : ∀ i, i < 64 → bt s i = bt s' i) : expandR s = expandR s' := by
  have e : exR s 16 = exR s' 16 := by
    refine ext_getD (by rw [exR_len s, exR_len s']) fun j => ?_
    rw [exR_get s 16 (by omega), exR_get s' 16 (by omega)]
    split
    · rw [vR_wd, vR_wd]
      unfold wd
      rw [h _ (by omega), h _ (by omega), h _ (by omega), h _ (by omega)]
    · rfl
  rw [expandR, expandR, e]
end Go.Proofs.Ytffhmlnklohbdaa.Q
end
/-! P3 -/
section
namespace Go.Proofs.Ytffhmlnklohbdaa.Q
open Go.RowKit Go.Proofs.Ytffhmlnklohbdaa.P
open Go.Proofs.YtffhmlnklohbdaaW.PrintWords (bytesOf bytesOf_length)
theorem str_bytes (s : ByteArray) : strOfNums (bytesOf s) = s := by
  obtain ⟨⟨l⟩⟩ := s
  unfold strOfNums bytesOf
  congr 2
  rw [List.map_map]
  conv => rhs; rw [← List.map_id l]
  apply List.map_congr_left
  intro b _
  simp
theorem str_append (a b : List Int) : strOfNums (a ++ b) = strOfNums a ++ strOfNums b := by
  unfold strOfNums
  rw [List.map_append]
  apply ByteArray.ext
  simp
theorem bytes_str (l : List Int) (h : ∀ x ∈ l, 0 ≤ x ∧ x < 256) : bytesOf (strOfNums l) = l := by
  unfold bytesOf strOfNums
  simp only [List.map_map]
  conv => rhs; rw [← List.map_id l]
  apply List.map_congr_left
  intro x hx
  obtain ⟨h0, h1⟩ := h x hx
  simp only [Function.comp, id]
  rw [UInt8.toNat_ofNat']
  omega
theorem str_extract (l : List Int) (a b : Nat) : (strOfNums l).extract a b = strOfNums ((l.drop a).take (b - a)) := by
  apply ByteArray.ext
  rw [ByteArray.data_extract]
  unfold strOfNums
  simp only [List.map_take, List.map_drop]
  simp
theorem len_eq (s : ByteArray) (k : Nat) (hk : k < 8) : lenByteL s k = lenByte s k := by
  unfold lenByteL lenByte
  rw [Int.mul_comm 8]
  congr 4
  rw [IntKind.wrap_u64, IntKind.wrap_u64]
  omega
theorem pad_eq (s : ByteArray) : f80 s ++ padL s = strOfNums (fR1 s (padN s)) := by
  have h : ∀ k, strOfNums (fR1 s k) = f80 s ++ ⟨(List.replicate k (0 : UInt8)).toArray⟩ := by
    intro k
    induction k with
    | zero =>
      show strOfNums (bytesOf s ++ [128]) = _
      rw [str_append, str_bytes]
      apply ByteArray.ext
      simp [f80, strOfNums]
    | succ k ih =>
      show strOfNums (fR1 s k ++ [0]) = _
      rw [str_append, ih]
      apply ByteArray.ext
      simp only [strOfNums, List.replicate_succ', ByteArray.data_append, List.map_cons, List.map_nil]
      rw [Array.append_assoc]
      congr 1
      apply Array.toList_inj.1
      simp
  rw [h]
  congr 1
  unfold padL padN
  rw [show (⟨#[0]⟩ : ByteArray).data.toList = [(0 : UInt8)] from rfl, repeat_zero, f80_size]
  congr 3
  omega
theorem fL_eq (s : ByteArray) : ∀ k, k ≤ 8 → fL s k = strOfNums (fR2 s k)
  | 0, _ => pad_eq s
  | k + 1, h => by rw [fL, fR2, fL_eq s k (by omega), str_append, len_eq s k (by omega)]
theorem fill_eq (s : ByteArray) : fillL s = fillR s := fL_eq s 8 (by omega)
theorem press_eq (c : Ch) (s : ByteArray) : pressL c s = pressR c s := by
  unfold pressL pressR
  rw [stepsLR _ _ _ (by omega), expand_eq]
theorem pr_eq (c : Ch) (s : ByteArray) : prL c s = prR c s := by rw [prL, prR, press_eq]
theorem chR_blk (x : ByteArray) : ∀ k, chR x k = chB first (fR2 x 8) k
  | 0 => rfl
  | k + 1 => by
    rw [chR, chB, chR_blk x k, pr_eq]
    congr 1
    rw [fillR, str_extract, blk]
    congr 2
    omega
theorem blk_front (A T : List Int) (k : Nat) (h : 64 * (k + 1) ≤ A.length) : blk (A ++ T) k = blk A k := by
  unfold blk
  rw [List.drop_append_of_le_length (by omega), List.take_append_of_le_length (by rw [List.length_drop]; omega)]
theorem chB_front (c : Ch) (A T : List Int) : ∀ k, 64 * k ≤ A.length → chB c (A ++ T) k = chB c A k
  | 0, _ => rfl
  | k + 1, h => by rw [chB, chB, chB_front c A T k (by omega), blk_front A T k h]
theorem chB_back (c : Ch) (A T : List Int) (n : Nat) (h : 64 * n ≤ A.length) : ∀ k, chB c (A ++ T) (n + k) = chB (chB c A n) (A.drop (64 * n) ++ T) k
  | 0 => chB_front c A T n h
  | k + 1 => by
    rw [show n + (k + 1) = (n + k) + 1 from rfl, chB, chB, chB_back c A T n h k]
    congr 1
    unfold blk
    congr 2
    rw [show 64 * (n + k) = 64 * n + 64 * k from by omega, ← List.drop_drop, List.drop_append_of_le_length h]
theorem fR1_tail (x : ByteArray) : ∀ k, fR1 x k = bytesOf x ++ tailP k
  | 0 => rfl
  | k + 1 => by rw [fR1, tailP, fR1_tail x k, List.append_assoc]
theorem lenB_eq (x : ByteArray) (k : Nat) (hk : k < 8) : lenByte x k = lenB (n1 x) k := by
  rw [← len_eq x k hk]
  unfold lenByteL lenB n1
  congr 3
  simp only [IntKind.wrap_u64]
  omega
theorem fR2_tail (x : ByteArray) : ∀ k, k ≤ 8 → fR2 x k = bytesOf x ++ tailQ (x.size % 64) (n1 x) k
  | 0, _ => by
    rw [fR2, tailQ, fR1_tail]
    congr 2
  | k + 1, h => by rw [fR2, tailQ, fR2_tail x k (by omega), List.append_assoc, lenB_eq x k (by omega)]
theorem u8_range (x : Int) : 0 ≤ IntKind.u8.wrap x ∧ IntKind.u8.wrap x < 256 := by rw [IntKind.wrap_u8]; omega
theorem tailP_R : ∀ k, ∀ x ∈ tailP k, (0 : Int) ≤ x ∧ x < 256
  | 0, x, h => by
    simp only [tailP, List.mem_singleton] at h
    omega
  | k + 1, x, h => by
    rw [tailP, List.mem_append] at h
    rcases h with h | h
    · exact tailP_R k x h
    · simp only [List.mem_singleton] at h
      omega
theorem tailQ_R (m : Nat) (n : Int) : ∀ k, ∀ x ∈ tailQ m n k, (0 : Int) ≤ x ∧ x < 256
  | 0, x, h => tailP_R _ x h
  | k + 1, x, h => by
    rw [tailQ, List.mem_append] at h
    rcases h with h | h
    · exact tailQ_R m n k x h
    · simp only [List.mem_singleton] at h
      subst h
      exact u8_range _
theorem chain_eq (x : ByteArray) : chF (ch1 x) (rest1 x) (x.size % 64) (n1 x) = chainR x := by
  have hT : bytesOf (tailS (x.size % 64) (n1 x)) = tailQ (x.size % 64) (n1 x) 8 := bytes_str _ (tailQ_R _ _ _)
  have hb := bytesOf_length x
  have hs := tailS_size (x.size % 64) (n1 x)
  have hf := fillR_size x
  have hp : padM (x.size % 64) = padN x := rfl
  have hn : (fillR x).size / 64 = (0 + x.size) / 64 + (x.size % 64 + (tailS (x.size % 64) (n1 x)).size) / 64 := by
    rw [hs, hf, hp]
    omega
  unfold chF chainR
  rw [hT, hn, chR_blk, fR2_tail x 8 (by omega), chB_back _ _ _ _ (by omega)]
  rfl
theorem sum_eq (x : ByteArray) : sumL x = sumR x := by rw [sumL, sumR, chain_eq]
theorem addL_get (a b : List Int) (j : Nat) : ∀ k, k ≤ a.length → (addL a b k).getD j 0 = if j < k then IntKind.u32.wrap (a.getD j 0 + b.getD j 0) else a.getD j 0
  | 0, _ => by rw [if_neg (by omega)]; rfl
  | k + 1, h => by
    rw [addL, getD_set _ _ _ _ (by rw [addL_len]; omega)]
    split
    · rename_i e
      subst e
      rw [if_pos (by omega), addL_get a b j j (by omega), if_neg (by omega)]
    · rw [addL_get a b j k (by omega)]
      by_cases h2 : j < k
      · rw [if_pos h2, if_pos (by omega)]
      · rw [if_neg h2, if_neg (by omega)]
theorem addL_iff (a b e : List Int) (ha : a.length = 5) (he : e.length = 5) : addL a b 5 = e ↔ ∀ i, i < 5 → IntKind.u32.wrap (a.getD i 0 + b.getD i 0) = e.getD i 0 := by
  constructor
  · intro h i hi
    rw [← h, addL_get a b i 5 (by omega), if_pos hi]
  · intro h
    refine ext_getD (by rw [addL_len, ha, he]) fun j => ?_
    rw [addL_get a b j 5 (by omega)]
    split
    · rename_i hj
      exact h j hj
    · rename_i hj
      rw [List.getD_eq_getElem?_getD, List.getD_eq_getElem?_getD, List.getElem?_eq_none (by omega), List.getElem?_eq_none (by omega)]
theorem end_eq (c : Ch) (s : ByteArray) : addL (cl c) (cl (stepsO (expandL s) (stepsL (expandL s) c 58) 58 22)) 5 = cl (prR c s) := by
  rw [stepsO_eq, cl_prR, ← press_eq]
  rfl
theorem meets_iff (c : Ch) (s : ByteArray) (m : List Int) : addL (cl (backX (expandL s) m (stepsL (expandL s) c 58) backL 58)) (cl (stepsX (expandL s) m (stepsL (expandL s) c 58) stepL 58 22)) 5 = addL (cl c) (cl (stepsO (expandL s) (stepsL (expandL s) c 58) 58 22)) 5 ↔ ∀ i, i < 5 → endsR c s m i := by
  rw [end_eq, addL_iff _ _ _ rfl rfl]
  unfold endsR firstR' lastR mR
  rw [backX_eq _ _ _ _ (by omega), stepsX_eq _ _ _ _ _ (by omega), stepsLR _ _ _ (by omega), expand_eq]
theorem meets_eq (c : Ch) (s : ByteArray) (m : List Int) : meetsL c (expandL s) m = @decide (∀ i, i < 5 → endsR c s m i) (Classical.propDecidable _) := by
  unfold meetsL
  rw [Bool.eq_iff_iff, decide_eq_true_iff, @decide_eq_true_iff _ (Classical.propDecidable _)]
  exact meets_iff c s m
theorem marked_eq (c : Ch) (s : ByteArray) (ty K B : Int) : markedL c s ty K B = markedR c s ty K B := by
  unfold markedL markedR
  rw [difference_eq, meets_eq]
theorem twin_eq (c : Ch) (s : ByteArray) (ty K B : Int) : markedL c s ty K B = twinB c s ty K B := by
  unfold markedL twinB
  congr 1
  unfold meetsL
  rw [Bool.eq_iff_iff, decide_eq_true_iff, decide_eq_true_iff, end_eq, ← pr_eq, addL_iff _ _ _ rfl rfl, addL_iff _ _ _ rfl rfl]
  unfold firstT lastT midL
  constructor
  · intro h i hi
    rw [Int.add_comm]
    exact h i hi
  · intro h i hi
    rw [Int.add_comm]
    exact h i hi
end Go.Proofs.Ytffhmlnklohbdaa.Q
end
/-! P4 -/
section
namespace Go.Proofs.Ytffhmlnklohbdaa.Q
open Go.RowKit Go.Proofs.Ytffhmlnklohbdaa.P
set_option maxRecDepth 100000
theorem alnz : ∀ i, i < 21 → ¬ AL i = List.replicate 80 0 := by decide +kernel
theorem abc_unmarked : mblk abc ((fillL abc).size / 64) = false := by decide +kernel
end Go.Proofs.Ytffhmlnklohbdaa.Q
end
/-! P5 -/
section
namespace Go.Proofs.Ytffhmlnklohbdaa.Q
open Go.RowKit Go.Proofs.Ytffhmlnklohbdaa.P
theorem bt_extract (s : ByteArray) (a e i : Nat) (h : i < min e s.size - a) : bt (s.extract a e) i = bt s (a + i) := by
  have h1 : i < (s.extract a e).size := by rw [ByteArray.size_extract]; exact h
  rw [← bt_in h1, ← bt_in (s := s) (i := a + i) (by omega)]
  congr 1
  exact ByteArray.getElem_extract h1
theorem bt_fB (s : ByteArray) (b : Nat) (h : b < (fillL s).size / 64) (i : Nat) (hi : i < 64) : bt (fB s b) i = bt (bR s b) i := by
  unfold fB bR
  rw [← fill_eq, bt_extract _ _ _ _ (by omega), bt_extract _ _ _ _ (by omega)]
theorem expand_fB (s : ByteArray) (b : Nat) (h : b < (fillL s).size / 64) : expandL (fB s b) = expandL (bR s b) := by
  rw [expand_eq, expand_eq, expand_congr (bt_fB s b h)]
theorem cS_eq (s : ByteArray) : ∀ b, b ≤ (fillL s).size / 64 → cS s b = chR s b
  | 0, _ => rfl
  | b + 1, h => by
    rw [cS, chR, cS_eq s b (by omega), ← pr_eq, prL, prL]
    unfold pressL
    rw [expand_fB s b (by omega)]
    rfl
theorem mrow_eq (s : ByteArray) (b : Nat) (h : b < (fillL s).size / 64) (m0 : Bool) : ∀ i, i ≤ 21 → mrow s b m0 i = mrowR s b m0 i
  | 0, _ => rfl
  | i + 1, hi => by
    rw [mrow, mrowR, mrow_eq s b h m0 i (by omega)]
    congr 1
    rw [← marked_eq]
    unfold markedL
    have hz : ¬ differenceL (vT i) (vK i) (vB i) = List.replicate 80 0 := alnz i (by omega)
    rw [decide_eq_false hz, cS_eq s b (by omega), expand_fB s b h]
    rfl
theorem mblk_eq (s : ByteArray) : ∀ b, b ≤ (fillL s).size / 64 → mblk s b = mblkR s b
  | 0, _ => rfl
  | b + 1, h => by rw [mblk, mblkR, mblk_eq s b (by omega), mrow_eq s b (by omega) _ 21 (by omega)]
theorem Awake.calls (w0 : World) : Calls Try.prog 6 #[] w0 fun e w' => e = .returned (.bool true) ∧ Low w0 w' :=
  Awake_.calls (sum_eq abc) abc_unmarked (alnz 16 (by omega)) w0
theorem DetectRows.calls (ty K B : Int) (w0 : World) : Calls Try.prog 3 #[.agg #[.int .i64 ty, .int .i64 K, .int .i64 B]] w0 fun e w' => e = .returned (.bool true) ∧ Low w0 w' := by
  have h := Rows_.calls Awake.calls ty K B w0
  rw [decide_eq_true (difference_eq ty K B)] at h
  exact h
theorem DetectMarks.calls (c : Ch) (s : ByteArray) (ty K B : Int) (x : ByteArray) (w0 : World) : Calls Try.prog 4 #[.agg (nums .u32 (cl c)), .string s, .agg #[.int .i64 ty, .int .i64 K, .int .i64 B], .string x] w0 fun e w' => e = .returned (.bool true) ∧ Low w0 w' := by
  by_cases h1 : s.size > 200
  · exact Marks_a.calls Awake.calls c s ty K B x h1 w0
  by_cases h2 : x.size > 200
  · exact Marks_b.calls Awake.calls c s ty K B x h1 h2 w0
  · refine Marks_c.calls Awake.calls c s ty K B x h1 h2 (marked_eq _ _ _ _ _) (sum_eq x) ?_ w0
    rw [mblk_eq x _ (Nat.le_refl _), fill_eq]
theorem DetectTwins.calls (c : Ch) (s : ByteArray) (ty K B : Int) (w0 : World) : Calls Try.prog 5 #[.agg (nums .u32 (cl c)), .string s, .agg #[.int .i64 ty, .int .i64 K, .int .i64 B]] w0 fun e w' => e = .returned (.bool true) ∧ Low w0 w' := by
  by_cases h1 : s.size > 200
  · exact Twins_a.calls Awake.calls c s ty K B h1 w0
  by_cases hd : differenceL ty K B = List.replicate 80 0
  · exact Twins_b.calls Awake.calls c s ty K B h1 hd (twin_eq _ _ _ _ _) w0
  · exact Twins_c.calls Awake.calls c s ty K B h1 hd (twin_eq _ _ _ _ _) w0
end Go.Proofs.Ytffhmlnklohbdaa.Q
end
/-! R0 -/
section
namespace Go.Proofs.Ytffhmlnklohbdaa.R
open Go.ChangeShapes Go.WideShapes Go.RowKit Go.Proofs.YtffhmlnklohbdaaW.PrintWords
end Go.Proofs.Ytffhmlnklohbdaa.R
end
/-! R2 -/
section
namespace Go.Proofs.Ytffhmlnklohbdaa.R
open Go.ChangeShapes Go.WideShapes Go.RowKit Go.Joins Go.Deep Go.WideElems Go.Maps
theorem open_vec {H : Type} {enc : TypeId × Value → H} {P : Program} {W : World} {base : Nat} {spare : Nat → Bool} {held : Bool} {r : Reach} {b0 : Nat} {t : TypeId} {f0 f1 f2 : Field} {v : Value} {d : DataW H} {p : List MemPlace}
    (hs : P.underlying t = some (.struct #[f0, f1, f2])) (hone : oneCellFields P #[f0, f1, f2] = true) (hC : P.cellsOf t = 3)
    (h0 : P.underlying f0.type = some (.int .i64)) (h1 : P.underlying f1.type = some (.int .i64)) (h2 : P.underlying f2.type = some (.int .i64))
    (hv : Value.okWide P W r b0 t v) (h : DataW.Trod enc P W base spare held t v d p) :
    ∃ (a b c : Int), v = .agg #[.int .i64 a, .int .i64 b, .int .i64 c] := by
  obtain ⟨v0, v1, v2, y0, y1, y2, n, rfl, -, -, g0, g1, g2⟩ := open_agg3 hs hone hC hv h
  obtain ⟨a, ha, -, -⟩ := DataW.trod_int h0 g0
  obtain ⟨b, hb, -, -⟩ := DataW.trod_int h1 g1
  obtain ⟨c, hc', -, -⟩ := DataW.trod_int h2 g2
  obtain rfl := (List.cons.inj ha).1
  obtain rfl := (List.cons.inj hb).1
  obtain rfl := (List.cons.inj hc').1
  exact ⟨a, b, c, rfl⟩
theorem okWide_array {P : Program} {W : World} {r : Reach} {b0 : Nat} {t e : TypeId} {n : Nat} {v : Value} (ht : P.underlying t = some (.array n e)) (h : Value.okWide P W r b0 t v) : ∃ cs, v = .agg cs ∧ cs.size = P.cellsOf t := by
  simp only [Value.okWide, ht] at h
  obtain ⟨cs, h1, h2, _⟩ := h
  exact ⟨cs, h1, h2⟩
theorem array5 {α : Type} {cs : Array α} (h : cs.size = 5) : ∃ c0 c1 c2 c3 c4, cs = #[c0, c1, c2, c3, c4] := by
  obtain ⟨l⟩ := cs
  match l, h with
  | [c0, c1, c2, c3, c4], _ => exact ⟨c0, c1, c2, c3, c4, rfl⟩
theorem trod_array5 {H : Type} {enc : TypeId × Value → H} {P : Program} {w : World} {base : Nat} {spare : Nat → Bool} {held : Bool} {t e : TypeId} {fuel : Nat} {c0 c1 c2 c3 c4 : Value} {x : DataW H × List MemPlace} (ht : P.underlying t = some (.array 5 e)) (hce : P.cellsOf e = 1)
    (h : DataW.trod enc P w base spare held fuel t [c0, c1, c2, c3, c4] = some x) :
    ∃ y0 y1 y2 y3 y4 n, DataW.trod enc P w base spare held n e [c0] = some y0 ∧ DataW.trod enc P w base spare held n e [c1] = some y1 ∧ DataW.trod enc P w base spare held n e [c2] = some y2 ∧ DataW.trod enc P w base spare held n e [c3] = some y3 ∧ DataW.trod enc P w base spare held n e [c4] = some y4 := by
  cases fuel with
  | zero => simp [DataW.trod] at h
  | succ n =>
    unfold DataW.trod at h
    rw [ht] at h
    have r5 : List.range 5 = [0, 1, 2, 3, 4] := rfl
    simp [r5, hce] at h
    obtain ⟨_, h⟩ := h
    cases h0 : DataW.trod enc P w base spare held n e [c0] with
    | none => simp [h0] at h
    | some y0 =>
      cases h1 : DataW.trod enc P w base spare held n e [c1] with
      | none => simp [h0, h1] at h
      | some y1 =>
        cases h2 : DataW.trod enc P w base spare held n e [c2] with
        | none => simp [h0, h1, h2] at h
        | some y2 =>
          cases h3 : DataW.trod enc P w base spare held n e [c3] with
          | none => simp [h0, h1, h2, h3] at h
          | some y3 =>
            cases h4 : DataW.trod enc P w base spare held n e [c4] with
            | none => simp [h0, h1, h2, h3, h4] at h
            | some y4 => exact ⟨y0, y1, y2, y3, y4, n, h0, h1, h2, h3, h4⟩
theorem open_chain {H : Type} {enc : TypeId × Value → H} {P : Program} {W : World} {base : Nat} {spare : Nat → Bool} {held : Bool} {r : Reach} {b0 : Nat} {t e : TypeId} {v : Value} {d : DataW H} {p : List MemPlace}
    (hs : P.underlying t = some (.array 5 e)) (hC : P.cellsOf t = 5) (he : P.underlying e = some (.int .u32)) (hce : P.cellsOf e = 1)
    (hv : Value.okWide P W r b0 t v) (h : DataW.Trod enc P W base spare held t v d p) :
    ∃ x : Int × Int × Int × Int × Int, v = .agg #[.int .u32 x.1, .int .u32 x.2.1, .int .u32 x.2.2.1, .int .u32 x.2.2.2.1, .int .u32 x.2.2.2.2] := by
  obtain ⟨cs, rfl, hsz⟩ := okWide_array hs hv
  obtain ⟨c0, c1, c2, c3, c4, rfl⟩ := array5 (hsz.trans hC)
  obtain ⟨fuel, hf⟩ := h
  obtain ⟨y0, y1, y2, y3, y4, n, g0, g1, g2, g3, g4⟩ := trod_array5 hs hce hf
  obtain ⟨a0, h0, -, -⟩ := DataW.trod_int he g0
  obtain ⟨a1, h1, -, -⟩ := DataW.trod_int he g1
  obtain ⟨a2, h2, -, -⟩ := DataW.trod_int he g2
  obtain ⟨a3, h3, -, -⟩ := DataW.trod_int he g3
  obtain ⟨a4, h4, -, -⟩ := DataW.trod_int he g4
  obtain rfl := (List.cons.inj h0).1
  obtain rfl := (List.cons.inj h1).1
  obtain rfl := (List.cons.inj h2).1
  obtain rfl := (List.cons.inj h3).1
  obtain rfl := (List.cons.inj h4).1
  exact ⟨(a0, a1, a2, a3, a4), rfl⟩
end Go.Proofs.Ytffhmlnklohbdaa.R
end
