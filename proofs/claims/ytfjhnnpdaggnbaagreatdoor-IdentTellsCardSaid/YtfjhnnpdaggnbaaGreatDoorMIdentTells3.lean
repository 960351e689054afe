/- Merged out of this session's texts by a program (wip/gen/merge.py): declarations that this claim doesn't name are left out. -/
import Derived.Test.YtfjhnnpdaggnbaaGreatDoorMIdentTells2
import Derived.Laws.CopyRow
set_option linter.unusedVariables false
set_option linter.unusedSimpArgs false
/-! A7 -/
section
namespace Go.Proofs.YtfjhnnpdaggnbaaGreatDoor.Q
open Go.RowKit Go.Proofs.YtfjhnnpdaggnbaaGreatDoor.P
set_option linter.unusedVariables false
set_option linter.unusedSimpArgs false
set_option maxRecDepth 100000
set_option maxHeartbeats 4000000
attribute [local irreducible] wpList wpQuiet qch Code.wp Oper.quiet Act.put At Region.wanted yielded
def mR (c : Ch) (s : ByteArray) : Ch := stepsR (expandR s) c 58
def firstR' (c : Ch) (s : ByteArray) (m : List Int) : Ch := backX (expandR s) m (mR c s) backR 58
def lastR (c : Ch) (s : ByteArray) (m : List Int) : Ch := stepsX (expandR s) m (mR c s) stepR 58 22
def endsR (c : Ch) (s : ByteArray) (m : List Int) (i : Nat) : Prop := IntKind.u32.wrap ((cl (firstR' c s m)).getD i 0 + (cl (lastR c s m)).getD i 0) = (cl (prR c s)).getD i 0
noncomputable def markedR (c : Ch) (s : ByteArray) (ty K B : Int) : Bool := !decide (differenceR ty K B = List.replicate 80 0) && @decide (∀ i, i < 5 → endsR c s (differenceR ty K B) i) (Classical.propDecidable _)
theorem markedR_no (c : Ch) (s : ByteArray) (ty K B : Int) (hd : differenceR ty K B = List.replicate 80 0) : markedR c s ty K B = false := by
  unfold markedR
  rw [decide_eq_true hd]
  rfl
open Classical in
theorem markedR_all (c : Ch) (s : ByteArray) (ty K B : Int) (hd : ¬ differenceR ty K B = List.replicate 80 0) (h : ∀ i, i < 5 → endsR c s (differenceR ty K B) i) : markedR c s ty K B = true := by
  unfold markedR
  rw [decide_eq_false hd, Bool.not_false, Bool.true_and]
  exact @decide_eq_true _ (Classical.propDecidable _) h
open Classical in
theorem markedR_fail (c : Ch) (s : ByteArray) (ty K B : Int) (j : Nat) (hj : j < 5) (h : ¬ endsR c s (differenceR ty K B) j) : markedR c s ty K B = false := by
  unfold markedR
  rw [Bool.and_eq_false_iff]
  exact .inr (@decide_eq_false _ (Classical.propDecidable _) fun hh => h (hh j hj))
theorem least_not (p : Nat → Prop) : ∀ n, (∀ i, i < n → p i) ∨ ∃ j, j < n ∧ ¬ p j ∧ ∀ i, i < j → p i
  | 0 => .inl fun i h => absurd h (Nat.not_lt_zero i)
  | n + 1 => by
    rcases least_not p n with h | ⟨j, h1, h2, h3⟩
    · by_cases hn : p n
      · refine .inl fun i hi => ?_
        rcases Nat.lt_succ_iff_lt_or_eq.1 hi with h' | h'
        · exact h i h'
        · rw [h']; exact hn
      · exact .inr ⟨n, Nat.lt_succ_self n, hn, h⟩
    · exact .inr ⟨j, Nat.lt_succ_of_lt h1, h2, h3⟩
theorem MarkedR_no.calls (c : Ch) (s : ByteArray) (hs : s.size ≤ 9223372036854775807) (ty K B : Int) (hok : okV ty K B = true) (hd : differenceR ty K B = List.replicate 80 0) (w0 : World) : Calls Tryz.prog 54 #[.agg (nums .u32 (cl c)), .string s, .agg #[.int .i64 ty, .int .i64 K, .int .i64 B]] w0 fun e w' => e = .returned (.bool (markedR c s ty K B)) ∧ Low w0 w' := by
 refine c_fun (R := _) Tryz.func54 rfl 83 rfl (Nat.le_of_ble_eq_true rfl) ?_
 intro a z hA
 have s0 := hA 0 _ rfl
 have s1 := hA 1 _ rfl
 have s2 := hA 2 _ rfl
 clear hA
 refine c_seq (c_region (l_box rfl rfl s0.ev ?_))
 intro g3 w1 hg1 k1 h1
 have geg3 := Nat.le_trans (Low.refl _).ge hg1
 refine l_box rfl rfl (s2.n1).ev ?_
 intro g5 w2 hg2 k2 h2
 have lt_g3_g5 := Nat.lt_of_lt_of_le (heap_lt k1) hg2
 have geg5 := Nat.le_trans h1.ge hg2
 have kg3_2 := h2.blk k1
 refine l_q rfl (q_assign _ _ rfl rfl ?_)
 refine l_end (e_fresh z.p3 ?_)
 intro a3 z3 m3
 have s1_3 := m3 _ _ (s1.n3)
 have s3_3 := m3 _ _ ((At.hit z rfl).n2)
 have s5_3 := m3 _ _ ((At.hit z.put rfl).n1)
 have low3 := (h1.trans h2)
 clear m3
 refine e_then (c_seq (c_region ?_))
 refine l_q rfl (q_row rfl Tryz.underlying84 rfl (sz84.trans (congrArg some rfl.symm)) s5_3.ev (fun _ e => by rw [e]; exact k2) ?_)
 refine l_call (fun v w' => v = .agg (nums .u32 (differenceR ty K B)) ∧ Low w2 w') rfl rfl rfl Tryz.func69 rfl (args1 rfl (At.hit z3 rfl).ev) ((DifferenceR.calls ty K B hok _).mono fun _ _ ⟨e, k⟩ => ⟨_, e, rfl, k⟩) ?_
 rintro _ w4 ⟨rfl, h4⟩
 have kg3_4 := h4.blk kg3_2
 have kg5_4 := h4.blk k2
 refine l_alloc rfl rfl zero65 ?_
 intro g7 w5 hg5 k5 h5
 have lt_g3_g7 := Nat.lt_of_lt_of_le (heap_lt kg3_4) hg5
 have lt_g5_g7 := Nat.lt_of_lt_of_le (heap_lt kg5_4) hg5
 have geg7 := Nat.le_trans (low3.trans h4).ge hg5
 have kg3_5 := h5.blk kg3_4
 have kg5_5 := h5.blk kg5_4
 refine l_row rfl rfl rfl (sz65.trans (congrArg some ((nums_size _ _).trans (differenceR_len _ _ _)).symm)) (At.hit z3.p2 rfl).ev ((At.hit z3.put rfl).n1).ev (nums_one _ _) k5 (((nums_size _ _).trans (List.length_replicate)).trans ((nums_size _ _).trans (differenceR_len _ _ _)).symm) ?_
 intro w6 k6 u6
 have kg3_6 := u6.blk kg3_5 (by omega)
 have kg5_6 := u6.blk kg5_5 (by omega)
 refine l_end (e_fresh z3.p3 ?_)
 intro a7 z7 m7
 have s1_7 := m7 _ _ (s1_3.n3)
 have s3_7 := m7 _ _ (s3_3.n3)
 have s7_7 := m7 _ _ (At.hit z3.p2 rfl)
 have low7 := (((low3.trans h4).trans h5).upd u6 geg7)
 clear m7
 refine e_then (c_seq (c_seq (c_region ?_)))
 refine l_q rfl (q_row rfl Tryz.underlying65 rfl (sz65.trans (congrArg some ((nums_size _ _).trans (differenceR_len _ _ _)).symm)) s7_7.ev (fun _ e => by rw [e]; exact k6) ?_)
 refine l_q rfl (q_zero rfl Tryz.underlying65 sz64 zero65 ?_)
 refine l_q rfl (q_eqrow true rfl Tryz.eqGuardType65 Tryz.underlying65 Tryz.underlying64 info64 cells64 ((At.hit z7 rfl).n1).ev (At.hit z7.put rfl).ev (differenceR_len _ _ _) (List.length_replicate) (by rw [decide_eq_true hd]) ?_)
 refine l_end (e_fresh z7.p3 ?_)
 intro a8 z8 m8
 have s1_8 := m8 _ _ (s1_7.n3)
 have s3_8 := m8 _ _ (s3_7.n3)
 have s7_8 := m8 _ _ (s7_7.n3)
 have s21_8 := m8 _ _ (At.hit z7.p2 rfl)
 clear m8
 refine e_then (c_true s21_8 ?_)
 refine c_seq (c_region ?_)
 refine l_q rfl (q_assign _ _ rfl rfl ?_)
 refine l_end (e_fresh z8.put ?_)
 intro a9 z9 m9
 have s6_9 := m9 _ _ (At.hit z8 rfl)
 clear m9
 refine e_then (wp_ret (ret_then (r_tmp rfl z9.defers s6_9 ?_)))
 exact ⟨by rw [markedR_no c s ty K B hd]; rfl, low7⟩
theorem MarkedR_all.calls (c : Ch) (s : ByteArray) (hs : s.size ≤ 9223372036854775807) (ty K B : Int) (hok : okV ty K B = true) (hd : ¬ differenceR ty K B = List.replicate 80 0) (hall : ∀ i, i < 5 → endsR c s (differenceR ty K B) i) (w0 : World) : Calls Tryz.prog 54 #[.agg (nums .u32 (cl c)), .string s, .agg #[.int .i64 ty, .int .i64 K, .int .i64 B]] w0 fun e w' => e = .returned (.bool (markedR c s ty K B)) ∧ Low w0 w' := by
 refine c_fun (R := _) Tryz.func54 rfl 83 rfl (Nat.le_of_ble_eq_true rfl) ?_
 intro a z hA
 have s0 := hA 0 _ rfl
 have s1 := hA 1 _ rfl
 have s2 := hA 2 _ rfl
 clear hA
 refine c_seq (c_region (l_box rfl rfl s0.ev ?_))
 intro g3 w1 hg1 k1 h1
 have geg3 := Nat.le_trans (Low.refl _).ge hg1
 refine l_box rfl rfl (s2.n1).ev ?_
 intro g5 w2 hg2 k2 h2
 have lt_g3_g5 := Nat.lt_of_lt_of_le (heap_lt k1) hg2
 have geg5 := Nat.le_trans h1.ge hg2
 have kg3_2 := h2.blk k1
 refine l_q rfl (q_assign _ _ rfl rfl ?_)
 refine l_end (e_fresh z.p3 ?_)
 intro a3 z3 m3
 have s1_3 := m3 _ _ (s1.n3)
 have s3_3 := m3 _ _ ((At.hit z rfl).n2)
 have s5_3 := m3 _ _ ((At.hit z.put rfl).n1)
 have low3 := (h1.trans h2)
 clear m3
 refine e_then (c_seq (c_region ?_))
 refine l_q rfl (q_row rfl Tryz.underlying84 rfl (sz84.trans (congrArg some rfl.symm)) s5_3.ev (fun _ e => by rw [e]; exact k2) ?_)
 refine l_call (fun v w' => v = .agg (nums .u32 (differenceR ty K B)) ∧ Low w2 w') rfl rfl rfl Tryz.func69 rfl (args1 rfl (At.hit z3 rfl).ev) ((DifferenceR.calls ty K B hok _).mono fun _ _ ⟨e, k⟩ => ⟨_, e, rfl, k⟩) ?_
 rintro _ w4 ⟨rfl, h4⟩
 have kg3_4 := h4.blk kg3_2
 have kg5_4 := h4.blk k2
 refine l_alloc rfl rfl zero65 ?_
 intro g7 w5 hg5 k5 h5
 have lt_g3_g7 := Nat.lt_of_lt_of_le (heap_lt kg3_4) hg5
 have lt_g5_g7 := Nat.lt_of_lt_of_le (heap_lt kg5_4) hg5
 have geg7 := Nat.le_trans (low3.trans h4).ge hg5
 have kg3_5 := h5.blk kg3_4
 have kg5_5 := h5.blk kg5_4
 refine l_row rfl rfl rfl (sz65.trans (congrArg some ((nums_size _ _).trans (differenceR_len _ _ _)).symm)) (At.hit z3.p2 rfl).ev ((At.hit z3.put rfl).n1).ev (nums_one _ _) k5 (((nums_size _ _).trans (List.length_replicate)).trans ((nums_size _ _).trans (differenceR_len _ _ _)).symm) ?_
 intro w6 k6 u6
 have kg3_6 := u6.blk kg3_5 (by omega)
 have kg5_6 := u6.blk kg5_5 (by omega)
 refine l_end (e_fresh z3.p3 ?_)
 intro a7 z7 m7
 have s1_7 := m7 _ _ (s1_3.n3)
 have s3_7 := m7 _ _ (s3_3.n3)
 have s7_7 := m7 _ _ (At.hit z3.p2 rfl)
 have low7 := (((low3.trans h4).trans h5).upd u6 geg7)
 clear m7
 refine e_then (c_seq (c_seq (c_region ?_)))
 refine l_q rfl (q_row rfl Tryz.underlying65 rfl (sz65.trans (congrArg some ((nums_size _ _).trans (differenceR_len _ _ _)).symm)) s7_7.ev (fun _ e => by rw [e]; exact k6) ?_)
 refine l_q rfl (q_zero rfl Tryz.underlying65 sz64 zero65 ?_)
 refine l_q rfl (q_eqrow false rfl Tryz.eqGuardType65 Tryz.underlying65 Tryz.underlying64 info64 cells64 ((At.hit z7 rfl).n1).ev (At.hit z7.put rfl).ev (differenceR_len _ _ _) (List.length_replicate) (by rw [decide_eq_false hd]) ?_)
 refine l_end (e_fresh z7.p3 ?_)
 intro a8 z8 m8
 have s1_8 := m8 _ _ (s1_7.n3)
 have s3_8 := m8 _ _ (s3_7.n3)
 have s7_8 := m8 _ _ (s7_7.n3)
 have s21_8 := m8 _ _ (At.hit z7.p2 rfl)
 clear m8
 refine e_then (c_false s21_8 ?_)
 refine wp_skip (e_then (c_seq (c_region ?_)))
 refine l_q rfl (q_move _ _ rfl s1_8.ev ?_)
 refine l_call (fun v w' => v = .agg (nums .u32 (expandR s)) ∧ Low w6 w') rfl rfl rfl Tryz.func70 rfl (args1 rfl (At.hit z8 rfl).ev) ((ExpandR.calls s hs _).mono fun _ _ ⟨e, k⟩ => ⟨_, e, rfl, k⟩) ?_
 rintro _ w9 ⟨rfl, h9⟩
 have kg3_9 := h9.blk kg3_6
 have kg7_9 := h9.blk k6
 refine l_alloc rfl rfl zero65 ?_
 intro g8 w10 hg10 k10 h10
 have lt_g3_g8 := Nat.lt_of_lt_of_le (heap_lt kg3_9) hg10
 have lt_g7_g8 := Nat.lt_of_lt_of_le (heap_lt kg7_9) hg10
 have geg8 := Nat.le_trans (low7.trans h9).ge hg10
 have kg3_10 := h10.blk kg3_9
 have kg7_10 := h10.blk kg7_9
 refine l_row rfl rfl rfl (sz65.trans (congrArg some ((nums_size _ _).trans (expandR_len s)).symm)) (At.hit z8.p2 rfl).ev ((At.hit z8.put rfl).n1).ev (nums_one _ _) k10 (((nums_size _ _).trans (List.length_replicate)).trans ((nums_size _ _).trans (expandR_len s)).symm) ?_
 intro w11 k11 u11
 have kg3_11 := u11.blk kg3_10 (by omega)
 have kg7_11 := u11.blk kg7_10 (by omega)
 refine l_end (e_fresh z8.p3 ?_)
 intro a12 z12 m12
 have s1_12 := m12 _ _ (s1_8.n3)
 have s3_12 := m12 _ _ (s3_8.n3)
 have s7_12 := m12 _ _ (s7_8.n3)
 have s8_12 := m12 _ _ (At.hit z8.p2 rfl)
 have low12 := (((low7.trans h9).trans h10).upd u11 geg8)
 clear m12
 refine e_then (c_seq (c_region ?_))
 refine l_q rfl (q_row rfl Tryz.underlying68 rfl (sz68.trans (congrArg some ((nums_size _ _).trans (cl_len c)).symm)) s3_12.ev (fun _ e => by rw [e]; exact kg3_11) ?_)
 refine l_alloc rfl rfl zero68 ?_
 intro g9 w13 hg13 k13 h13
 have lt_g3_g9 := Nat.lt_of_lt_of_le (heap_lt kg3_11) hg13
 have lt_g7_g9 := Nat.lt_of_lt_of_le (heap_lt kg7_11) hg13
 have lt_g8_g9 := Nat.lt_of_lt_of_le (heap_lt k11) hg13
 have geg9 := Nat.le_trans low12.ge hg13
 have kg3_13 := h13.blk kg3_11
 have kg7_13 := h13.blk kg7_11
 have kg8_13 := h13.blk k11
 refine l_row rfl rfl rfl (sz68.trans (congrArg some ((nums_size _ _).trans (cl_len c)).symm)) (At.hit z12.put rfl).ev ((At.hit z12 rfl).n1).ev (nums_one _ _) k13 (((nums_size _ _).trans (List.length_replicate)).trans ((nums_size _ _).trans (cl_len c)).symm) ?_
 intro w14 k14 u14
 have kg3_14 := u14.blk kg3_13 (by omega)
 have kg7_14 := u14.blk kg7_13 (by omega)
 have kg8_14 := u14.blk kg8_13 (by omega)
 refine l_end (e_fresh z12.p2 ?_)
 intro a15 z15 m15
 have s1_15 := m15 _ _ (s1_12.n2)
 have s3_15 := m15 _ _ (s3_12.n2)
 have s7_15 := m15 _ _ (s7_12.n2)
 have s8_15 := m15 _ _ (s8_12.n2)
 have s9_15 := m15 _ _ (At.hit z12.put rfl)
 have low15 := ((low12.trans h13).upd u14 geg9)
 clear m15
 refine e_then (c_seq (c_seq (c_region ?_)))
 refine l_q rfl (q_assign _ _ rfl rfl ?_)
 refine l_end (e_fresh z15.put ?_)
 intro a16 z16 m16
 have s1_16 := m16 _ _ (s1_15.n1)
 have s3_16 := m16 _ _ (s3_15.n1)
 have s7_16 := m16 _ _ (s7_15.n1)
 have s8_16 := m16 _ _ (s8_15.n1)
 have s9_16 := m16 _ _ (s9_15.n1)
 have s10_16 := m16 _ _ (At.hit z15 rfl)
 clear m16
 refine e_then (wp_block (c_loop 58 (fun k a w => Fr 83 a ∧ At a 1 (.string s) ∧ At a 3 (.pointer (some ⟨g3, 0, none⟩)) ∧ At a 7 (.pointer (some ⟨g7, 0, none⟩)) ∧ At a 8 (.pointer (some ⟨g8, 0, none⟩)) ∧ At a 9 (.pointer (some ⟨g9, 0, none⟩)) ∧ At a 10 (.int .i64 ((k : Nat) : Int)) ∧ w.heap[g3]? = some (.cells (nums .u32 (cl c)) 68) ∧ w.heap[g7]? = some (.cells (nums .u32 (differenceR ty K B)) 65) ∧ w.heap[g8]? = some (.cells (nums .u32 (expandR s)) 65) ∧ w.heap[g9]? = some (.cells (nums .u32 (cl (stepsR (expandR s) c k))) 68) ∧ Low w0 w) ?_ ?_ ?_))
 ·
  exact ⟨z16, s1_16, s3_16, s7_16, s8_16, s9_16, s10_16, kg3_14, kg7_14, kg8_14, k14, low15⟩
 ·
  intro k a17 w17 hk17 h
  obtain ⟨z17, s1_17, s3_17, s7_17, s8_17, s9_17, s10_17, kg3_17, kg7_17, kg8_17, kg9_17, low17⟩ := h
  clear k14 kg3_14 kg7_14 kg8_14 low15 s10_16 s1_16 s3_16 s7_16 s8_16 s9_16 z16
  refine c_seq (c_seq (c_region ?_))
  refine l_q rfl (q_move _ _ rfl s10_17.ev ?_)
  refine l_q rfl (q_lss true rfl (At.hit z17 rfl).ev rfl (decide_eq_true (by omega)) ?_)
  refine l_end (e_fresh z17.p2 ?_)
  intro a18 z18 m18
  have s1_18 := m18 _ _ (s1_17.n2)
  have s3_18 := m18 _ _ (s3_17.n2)
  have s7_18 := m18 _ _ (s7_17.n2)
  have s8_18 := m18 _ _ (s8_17.n2)
  have s9_18 := m18 _ _ (s9_17.n2)
  have s10_18 := m18 _ _ (s10_17.n2)
  have s26_18 := m18 _ _ (At.hit z17.put rfl)
  clear m18
  refine e_then (c_true s26_18 ?_)
  refine wp_skip (e_then (c_seq (wp_block (region_low_tail 6 hm (by kernel_rfl) ?_))))
  simp only [List.take_succ_cons, List.take_zero, List.drop_succ_cons, List.drop_zero]
  refine qs (q_row rfl Tryz.underlying68 rfl (sz68.trans (congrArg some ((nums_size _ _).trans (cl_len (stepsR (expandR s) c k))).symm)) s9_18.ev (fun _ h => h.blk kg9_17) ?_)
  refine qs (q_move _ _ rfl (s10_18.n1).ev ?_)
  refine qs (q_move _ _ rfl (s10_18.n2).ev ?_)
  refine qs (q_idx (j := k) rfl Tryz.underlying65 sz64 (s8_18.n3).ev (At.hit z18.p2 rfl).ev (by omega) ?_)
  refine qs (q_cell (.int .u32 ((expandR s).getD k 0)) rfl Tryz.underlying64 (At.hit z18.p3 rfl).ev (fun _ h => nums_cell (h.blk kg8_17) k (by rw [(expandR_len s)]; omega)) ?_)
  refine qs (q_call (.agg (nums .u32 (cl (stepR (stepsR (expandR s) c k) ((k : Nat) : Int) ((expandR s).getD k 0))))) rfl rfl Tryz.func71 rfl (args3 rfl ((At.hit z18 rfl).n4).ev ((At.hit z18.put rfl).n3).ev (At.hit z18.p4 rfl).ev) (fun _ h => (StepR.calls (stepsR (expandR s) c k) ((k : Nat) : Int) ((expandR s).getD k 0) _).mono fun _ _ ⟨e, k⟩ => ⟨e, h.trans k⟩) ?_)
  refine qz ?_
  intro w19 h19
  have kg3_19 := h19.blk kg3_17
  have kg7_19 := h19.blk kg7_17
  have kg8_19 := h19.blk kg8_17
  have kg9_19 := h19.blk kg9_17
  refine l_row rfl rfl rfl (sz68.trans (congrArg some ((nums_size _ _).trans (cl_len (stepR (stepsR (expandR s) c k) ((k : Nat) : Int) ((expandR s).getD k 0)))).symm)) (s9_18.n6).ev (At.hit z18.p5 rfl).ev (nums_one _ _) kg9_19 (((nums_size _ _).trans (cl_len (stepsR (expandR s) c k))).trans ((nums_size _ _).trans (cl_len (stepR (stepsR (expandR s) c k) ((k : Nat) : Int) ((expandR s).getD k 0)))).symm) ?_
  intro w20 k20 u20
  have kg3_20 := u20.blk kg3_19 (by omega)
  have kg7_20 := u20.blk kg7_19 (by omega)
  have kg8_20 := u20.blk kg8_19 (by omega)
  refine l_end (e_fresh z18.p6 ?_)
  intro a21 z21 m21
  have s1_21 := m21 _ _ (s1_18.n6)
  have s3_21 := m21 _ _ (s3_18.n6)
  have s7_21 := m21 _ _ (s7_18.n6)
  have s8_21 := m21 _ _ (s8_18.n6)
  have s9_21 := m21 _ _ (s9_18.n6)
  have s10_21 := m21 _ _ (s10_18.n6)
  have low21 := ((low17.trans h19).upd u20 geg9)
  clear m21
  refine e_in (e_then (c_region ?_))
  refine l_q rfl (q_move _ _ rfl s10_21.ev ?_)
  refine l_q rfl (q_add (((k + 1 : Nat) : Int)) rfl (At.hit z21 rfl).ev rfl (i64_is (by omega) (by omega) (by omega)) ?_)
  refine l_q rfl (q_assign _ _ rfl (At.hit z21.put rfl).ev ?_)
  refine l_end (e_fresh z21.p3 ?_)
  intro a22 z22 m22
  have s1_22 := m22 _ _ (s1_21.n3)
  have s3_22 := m22 _ _ (s3_21.n3)
  have s7_22 := m22 _ _ (s7_21.n3)
  have s8_22 := m22 _ _ (s8_21.n3)
  have s9_22 := m22 _ _ (s9_21.n3)
  have s10_22 := m22 _ _ (At.hit z21.p2 rfl)
  clear m22
  exact ⟨z22, s1_22, s3_22, s7_22, s8_22, s9_22, s10_22, kg3_20, kg7_20, kg8_20, k20, low21⟩
 ·
  intro a23 w23 h
  obtain ⟨z23, s1_23, s3_23, s7_23, s8_23, s9_23, s10_23, kg3_23, kg7_23, kg8_23, kg9_23, low23⟩ := h
  clear k14 kg3_14 kg7_14 kg8_14 low15 s10_16 s1_16 s3_16 s7_16 s8_16 s9_16 z16
  refine c_seq (c_seq (c_region ?_))
  refine l_q rfl (q_move _ _ rfl s10_23.ev ?_)
  refine l_q rfl (q_lss false rfl (At.hit z23 rfl).ev rfl (decide_eq_false (by omega)) ?_)
  refine l_end (e_fresh z23.p2 ?_)
  intro a24 z24 m24
  have s1_24 := m24 _ _ (s1_23.n2)
  have s3_24 := m24 _ _ (s3_23.n2)
  have s7_24 := m24 _ _ (s7_23.n2)
  have s8_24 := m24 _ _ (s8_23.n2)
  have s9_24 := m24 _ _ (s9_23.n2)
  have s10_24 := m24 _ _ (s10_23.n2)
  have s26_24 := m24 _ _ (At.hit z23.put rfl)
  clear m24
  refine e_then (c_false s26_24 ?_)
  refine wp_exit (x_then (x_then (in_exit (e_then (c_seq (c_region ?_))))))
  refine l_q rfl (q_row rfl Tryz.underlying68 rfl (sz68.trans (congrArg some ((nums_size _ _).trans (cl_len (stepsR (expandR s) c 58))).symm)) s9_24.ev (fun _ e => by rw [e]; exact kg9_23) ?_)
  refine l_alloc rfl rfl zero68 ?_
  intro g11 w25 hg25 k25 h25
  have lt_g3_g11 := Nat.lt_of_lt_of_le (heap_lt kg3_23) hg25
  have lt_g7_g11 := Nat.lt_of_lt_of_le (heap_lt kg7_23) hg25
  have lt_g8_g11 := Nat.lt_of_lt_of_le (heap_lt kg8_23) hg25
  have lt_g9_g11 := Nat.lt_of_lt_of_le (heap_lt kg9_23) hg25
  have geg11 := Nat.le_trans low23.ge hg25
  have kg3_25 := h25.blk kg3_23
  have kg7_25 := h25.blk kg7_23
  have kg8_25 := h25.blk kg8_23
  have kg9_25 := h25.blk kg9_23
  refine l_row rfl rfl rfl (sz68.trans (congrArg some ((nums_size _ _).trans (cl_len (stepsR (expandR s) c 58))).symm)) (At.hit z24.put rfl).ev ((At.hit z24 rfl).n1).ev (nums_one _ _) k25 (((nums_size _ _).trans (List.length_replicate)).trans ((nums_size _ _).trans (cl_len (stepsR (expandR s) c 58))).symm) ?_
  intro w26 k26 u26
  have kg3_26 := u26.blk kg3_25 (by omega)
  have kg7_26 := u26.blk kg7_25 (by omega)
  have kg8_26 := u26.blk kg8_25 (by omega)
  have kg9_26 := u26.blk kg9_25 (by omega)
  refine l_end (e_fresh z24.p2 ?_)
  intro a27 z27 m27
  have s1_27 := m27 _ _ (s1_24.n2)
  have s3_27 := m27 _ _ (s3_24.n2)
  have s7_27 := m27 _ _ (s7_24.n2)
  have s8_27 := m27 _ _ (s8_24.n2)
  have s9_27 := m27 _ _ (s9_24.n2)
  have s11_27 := m27 _ _ (At.hit z24.put rfl)
  have low27 := ((low23.trans h25).upd u26 geg11)
  clear m27
  refine e_then (c_seq (c_seq (c_region ?_)))
  refine l_q rfl (q_assign _ _ rfl rfl ?_)
  refine l_end (e_fresh z27.put ?_)
  intro a28 z28 m28
  have s1_28 := m28 _ _ (s1_27.n1)
  have s3_28 := m28 _ _ (s3_27.n1)
  have s7_28 := m28 _ _ (s7_27.n1)
  have s8_28 := m28 _ _ (s8_27.n1)
  have s9_28 := m28 _ _ (s9_27.n1)
  have s11_28 := m28 _ _ (s11_27.n1)
  have s12_28 := m28 _ _ (At.hit z27 rfl)
  clear m28
  refine e_then (wp_block (c_loop 58 (fun k a w => Fr 83 a ∧ At a 1 (.string s) ∧ At a 3 (.pointer (some ⟨g3, 0, none⟩)) ∧ At a 7 (.pointer (some ⟨g7, 0, none⟩)) ∧ At a 8 (.pointer (some ⟨g8, 0, none⟩)) ∧ At a 9 (.pointer (some ⟨g9, 0, none⟩)) ∧ At a 11 (.pointer (some ⟨g11, 0, none⟩)) ∧ At a 12 (.int .i64 (57 - ((k : Nat) : Int))) ∧ w.heap[g11]? = some (.cells (nums .u32 (cl (backX (expandR s) (differenceR ty K B) (mR c s) backR k))) 68) ∧ w.heap[g3]? = some (.cells (nums .u32 (cl c)) 68) ∧ w.heap[g7]? = some (.cells (nums .u32 (differenceR ty K B)) 65) ∧ w.heap[g8]? = some (.cells (nums .u32 (expandR s)) 65) ∧ w.heap[g9]? = some (.cells (nums .u32 (cl (stepsR (expandR s) c 58))) 68) ∧ Low w0 w) ?_ ?_ ?_))
  ·
   exact ⟨z28, s1_28, s3_28, s7_28, s8_28, s9_28, s11_28, (s12_28.same (congrArg (Value.int .i64) (by omega))), k26, kg3_26, kg7_26, kg8_26, kg9_26, low27⟩
  ·
   intro k a29 w29 hk29 h
   obtain ⟨z29, s1_29, s3_29, s7_29, s8_29, s9_29, s11_29, s12_29, kg11_29, kg3_29, kg7_29, kg8_29, kg9_29, low29⟩ := h
   clear k26 kg3_26 kg7_26 kg8_26 kg9_26 low27 s11_28 s12_28 s1_28 s3_28 s7_28 s8_28 s9_28 z28
   refine c_seq (c_seq (c_region ?_))
   refine l_q rfl (q_move _ _ rfl s12_29.ev ?_)
   refine l_q rfl (q_geq true rfl (At.hit z29 rfl).ev rfl (decide_eq_true (by omega)) ?_)
   refine l_end (e_fresh z29.p2 ?_)
   intro a30 z30 m30
   have s1_30 := m30 _ _ (s1_29.n2)
   have s3_30 := m30 _ _ (s3_29.n2)
   have s7_30 := m30 _ _ (s7_29.n2)
   have s8_30 := m30 _ _ (s8_29.n2)
   have s9_30 := m30 _ _ (s9_29.n2)
   have s11_30 := m30 _ _ (s11_29.n2)
   have s12_30 := m30 _ _ (s12_29.n2)
   have s37_30 := m30 _ _ (At.hit z29.put rfl)
   clear m30
   refine e_then (c_true s37_30 ?_)
   refine wp_skip (e_then (c_seq (wp_block (region_low_tail 10 hm (by kernel_rfl) ?_))))
   simp only [List.take_succ_cons, List.take_zero, List.drop_succ_cons, List.drop_zero]
   refine qs (q_row rfl Tryz.underlying68 rfl (sz68.trans (congrArg some ((nums_size _ _).trans (cl_len (backX (expandR s) (differenceR ty K B) (mR c s) backR k))).symm)) s11_30.ev (fun _ h => h.blk kg11_29) ?_)
   refine qs (q_move _ _ rfl (s12_30.n1).ev ?_)
   refine qs (q_move _ _ rfl (s12_30.n2).ev ?_)
   refine qs (q_idx (j := 57 - k) rfl Tryz.underlying65 sz64 (s8_30.n3).ev ((At.hit z30.p2 rfl).same (congrArg (Value.int .i64) (show ((57 - ((k : Nat) : Int)) : Int) = ((57 - k : Nat) : Int) by omega))).ev (by omega) ?_)
   refine qs (q_cell (.int .u32 ((expandR s).getD (57 - k) 0)) rfl Tryz.underlying64 (At.hit z30.p3 rfl).ev (fun _ h => nums_cell (h.blk kg8_29) (57 - k) (by rw [(expandR_len s)]; omega)) ?_)
   refine qs (q_move _ _ rfl (s12_30.n5).ev ?_)
   refine qs (q_idx (j := 57 - k) rfl Tryz.underlying65 sz64 (s7_30.n6).ev ((At.hit z30.p5 rfl).same (congrArg (Value.int .i64) (show ((57 - ((k : Nat) : Int)) : Int) = ((57 - k : Nat) : Int) by omega))).ev (by omega) ?_)
   refine qs (q_cell (.int .u32 ((differenceR ty K B).getD (57 - k) 0)) rfl Tryz.underlying64 (At.hit z30.p6 rfl).ev (fun _ h => nums_cell (h.blk kg7_29) (57 - k) (by rw [(differenceR_len _ _ _)]; omega)) ?_)
   refine q_fresh z30.p8 ?_
   intro a31 z31 m31
   have s1_31 := m31 _ _ (s1_30.n8)
   have s3_31 := m31 _ _ (s3_30.n8)
   have s7_31 := m31 _ _ (s7_30.n8)
   have s8_31 := m31 _ _ (s8_30.n8)
   have s9_31 := m31 _ _ (s9_30.n8)
   have s11_31 := m31 _ _ (s11_30.n8)
   have s12_31 := m31 _ _ (s12_30.n8)
   have s40_31 := m31 _ _ ((At.hit z30 rfl).n7)
   have s41_31 := m31 _ _ ((At.hit z30.put rfl).n6)
   have s44_31 := m31 _ _ ((At.hit z30.p4 rfl).n3)
   have s47_31 := m31 _ _ (At.hit z30.p7 rfl)
   clear m31
   refine qs (q_xor rfl s44_31.ev s47_31.ev ?_)
   refine qs (q_call (.agg (nums .u32 (cl (backR (backX (expandR s) (differenceR ty K B) (mR c s) backR k) (57 - ((k : Nat) : Int)) (Go.bits .xor .u32 ((expandR s).getD (57 - k) 0) ((differenceR ty K B).getD (57 - k) 0)))))) rfl rfl Tryz.func72 rfl (args3 rfl (s40_31.n1).ev (s41_31.n1).ev (At.hit z31 rfl).ev) (fun _ h => (BackR.calls (backX (expandR s) (differenceR ty K B) (mR c s) backR k) (57 - ((k : Nat) : Int)) (Go.bits .xor .u32 ((expandR s).getD (57 - k) 0) ((differenceR ty K B).getD (57 - k) 0)) _).mono fun _ _ ⟨e, k⟩ => ⟨e, h.trans k⟩) ?_)
   refine qz ?_
   intro w32 h32
   have kg11_32 := h32.blk kg11_29
   have kg3_32 := h32.blk kg3_29
   have kg7_32 := h32.blk kg7_29
   have kg8_32 := h32.blk kg8_29
   have kg9_32 := h32.blk kg9_29
   refine l_row rfl rfl rfl (sz68.trans (congrArg some ((nums_size _ _).trans (cl_len (backR (backX (expandR s) (differenceR ty K B) (mR c s) backR k) (57 - ((k : Nat) : Int)) (Go.bits .xor .u32 ((expandR s).getD (57 - k) 0) ((differenceR ty K B).getD (57 - k) 0))))).symm)) (s11_31.n2).ev (At.hit z31.put rfl).ev (nums_one _ _) kg11_32 (((nums_size _ _).trans (cl_len (backX (expandR s) (differenceR ty K B) (mR c s) backR k))).trans ((nums_size _ _).trans (cl_len (backR (backX (expandR s) (differenceR ty K B) (mR c s) backR k) (57 - ((k : Nat) : Int)) (Go.bits .xor .u32 ((expandR s).getD (57 - k) 0) ((differenceR ty K B).getD (57 - k) 0))))).symm) ?_
   intro w33 k33 u33
   have kg3_33 := u33.blk kg3_32 (by omega)
   have kg7_33 := u33.blk kg7_32 (by omega)
   have kg8_33 := u33.blk kg8_32 (by omega)
   have kg9_33 := u33.blk kg9_32 (by omega)
   refine l_end (e_fresh z31.p2 ?_)
   intro a34 z34 m34
   have s1_34 := m34 _ _ (s1_31.n2)
   have s3_34 := m34 _ _ (s3_31.n2)
   have s7_34 := m34 _ _ (s7_31.n2)
   have s8_34 := m34 _ _ (s8_31.n2)
   have s9_34 := m34 _ _ (s9_31.n2)
   have s11_34 := m34 _ _ (s11_31.n2)
   have s12_34 := m34 _ _ (s12_31.n2)
   have low34 := ((low29.trans h32).upd u33 geg11)
   clear m34
   refine e_in (e_then (c_region ?_))
   refine l_q rfl (q_move _ _ rfl s12_34.ev ?_)
   refine l_q rfl (q_sub ((56 - ((k : Nat) : Int))) rfl (At.hit z34 rfl).ev rfl (i64_is (by omega) (by omega) (by omega)) ?_)
   refine l_q rfl (q_assign _ _ rfl (At.hit z34.put rfl).ev ?_)
   refine l_end (e_fresh z34.p3 ?_)
   intro a35 z35 m35
   have s1_35 := m35 _ _ (s1_34.n3)
   have s3_35 := m35 _ _ (s3_34.n3)
   have s7_35 := m35 _ _ (s7_34.n3)
   have s8_35 := m35 _ _ (s8_34.n3)
   have s9_35 := m35 _ _ (s9_34.n3)
   have s11_35 := m35 _ _ (s11_34.n3)
   have s12_35 := m35 _ _ (At.hit z34.p2 rfl)
   clear m35
   exact ⟨z35, s1_35, s3_35, s7_35, s8_35, s9_35, s11_35, (s12_35.same (congrArg (Value.int .i64) (by omega))), k33, kg3_33, kg7_33, kg8_33, kg9_33, low34⟩
  ·
   intro a36 w36 h
   obtain ⟨z36, s1_36, s3_36, s7_36, s8_36, s9_36, s11_36, s12_36, kg11_36, kg3_36, kg7_36, kg8_36, kg9_36, low36⟩ := h
   clear k26 kg3_26 kg7_26 kg8_26 kg9_26 low27 s11_28 s12_28 s1_28 s3_28 s7_28 s8_28 s9_28 z28
   refine c_seq (c_seq (c_region ?_))
   refine l_q rfl (q_move _ _ rfl s12_36.ev ?_)
   refine l_q rfl (q_geq false rfl (At.hit z36 rfl).ev rfl (decide_eq_false (by omega)) ?_)
   refine l_end (e_fresh z36.p2 ?_)
   intro a37 z37 m37
   have s1_37 := m37 _ _ (s1_36.n2)
   have s3_37 := m37 _ _ (s3_36.n2)
   have s7_37 := m37 _ _ (s7_36.n2)
   have s8_37 := m37 _ _ (s8_36.n2)
   have s9_37 := m37 _ _ (s9_36.n2)
   have s11_37 := m37 _ _ (s11_36.n2)
   have s12_37 := m37 _ _ (s12_36.n2)
   have s37_37 := m37 _ _ (At.hit z36.put rfl)
   clear m37
   refine e_then (c_false s37_37 ?_)
   refine wp_exit (x_then (x_then (in_exit (e_then (c_seq (c_region ?_))))))
   refine l_q rfl (q_row rfl Tryz.underlying68 rfl (sz68.trans (congrArg some ((nums_size _ _).trans (cl_len (stepsR (expandR s) c 58))).symm)) s9_37.ev (fun _ e => by rw [e]; exact kg9_36) ?_)
   refine l_alloc rfl rfl zero68 ?_
   intro g13 w38 hg38 k38 h38
   have lt_g11_g13 := Nat.lt_of_lt_of_le (heap_lt kg11_36) hg38
   have lt_g3_g13 := Nat.lt_of_lt_of_le (heap_lt kg3_36) hg38
   have lt_g7_g13 := Nat.lt_of_lt_of_le (heap_lt kg7_36) hg38
   have lt_g8_g13 := Nat.lt_of_lt_of_le (heap_lt kg8_36) hg38
   have lt_g9_g13 := Nat.lt_of_lt_of_le (heap_lt kg9_36) hg38
   have geg13 := Nat.le_trans low36.ge hg38
   have kg11_38 := h38.blk kg11_36
   have kg3_38 := h38.blk kg3_36
   have kg7_38 := h38.blk kg7_36
   have kg8_38 := h38.blk kg8_36
   have kg9_38 := h38.blk kg9_36
   refine l_row rfl rfl rfl (sz68.trans (congrArg some ((nums_size _ _).trans (cl_len (stepsR (expandR s) c 58))).symm)) (At.hit z37.put rfl).ev ((At.hit z37 rfl).n1).ev (nums_one _ _) k38 (((nums_size _ _).trans (List.length_replicate)).trans ((nums_size _ _).trans (cl_len (stepsR (expandR s) c 58))).symm) ?_
   intro w39 k39 u39
   have kg11_39 := u39.blk kg11_38 (by omega)
   have kg3_39 := u39.blk kg3_38 (by omega)
   have kg7_39 := u39.blk kg7_38 (by omega)
   have kg8_39 := u39.blk kg8_38 (by omega)
   have kg9_39 := u39.blk kg9_38 (by omega)
   refine l_end (e_fresh z37.p2 ?_)
   intro a40 z40 m40
   have s1_40 := m40 _ _ (s1_37.n2)
   have s3_40 := m40 _ _ (s3_37.n2)
   have s7_40 := m40 _ _ (s7_37.n2)
   have s8_40 := m40 _ _ (s8_37.n2)
   have s11_40 := m40 _ _ (s11_37.n2)
   have s13_40 := m40 _ _ (At.hit z37.put rfl)
   have low40 := ((low36.trans h38).upd u39 geg13)
   clear m40
   refine e_then (c_seq (c_seq (c_region ?_)))
   refine l_q rfl (q_assign _ _ rfl rfl ?_)
   refine l_end (e_fresh z40.put ?_)
   intro a41 z41 m41
   have s1_41 := m41 _ _ (s1_40.n1)
   have s3_41 := m41 _ _ (s3_40.n1)
   have s7_41 := m41 _ _ (s7_40.n1)
   have s8_41 := m41 _ _ (s8_40.n1)
   have s11_41 := m41 _ _ (s11_40.n1)
   have s13_41 := m41 _ _ (s13_40.n1)
   have s14_41 := m41 _ _ (At.hit z40 rfl)
   clear m41
   refine e_then (wp_block (c_loop 22 (fun k a w => Fr 83 a ∧ At a 1 (.string s) ∧ At a 3 (.pointer (some ⟨g3, 0, none⟩)) ∧ At a 7 (.pointer (some ⟨g7, 0, none⟩)) ∧ At a 8 (.pointer (some ⟨g8, 0, none⟩)) ∧ At a 11 (.pointer (some ⟨g11, 0, none⟩)) ∧ At a 13 (.pointer (some ⟨g13, 0, none⟩)) ∧ At a 14 (.int .i64 ((k + 58 : Nat) : Int)) ∧ w.heap[g11]? = some (.cells (nums .u32 (cl (backX (expandR s) (differenceR ty K B) (mR c s) backR 58))) 68) ∧ w.heap[g13]? = some (.cells (nums .u32 (cl (stepsX (expandR s) (differenceR ty K B) (mR c s) stepR 58 k))) 68) ∧ w.heap[g3]? = some (.cells (nums .u32 (cl c)) 68) ∧ w.heap[g7]? = some (.cells (nums .u32 (differenceR ty K B)) 65) ∧ w.heap[g8]? = some (.cells (nums .u32 (expandR s)) 65) ∧ Low w0 w) ?_ ?_ ?_))
   ·
    exact ⟨z41, s1_41, s3_41, s7_41, s8_41, s11_41, s13_41, (s14_41.same (congrArg (Value.int .i64) (by omega))), kg11_39, k39, kg3_39, kg7_39, kg8_39, low40⟩
   ·
    intro k a42 w42 hk42 h
    obtain ⟨z42, s1_42, s3_42, s7_42, s8_42, s11_42, s13_42, s14_42, kg11_42, kg13_42, kg3_42, kg7_42, kg8_42, low42⟩ := h
    clear k39 kg11_39 kg3_39 kg7_39 kg8_39 low40 s11_41 s13_41 s14_41 s1_41 s3_41 s7_41 s8_41 z41
    refine c_seq (c_seq (c_region ?_))
    refine l_q rfl (q_move _ _ rfl s14_42.ev ?_)
    refine l_q rfl (q_lss true rfl (At.hit z42 rfl).ev rfl (decide_eq_true (by omega)) ?_)
    refine l_end (e_fresh z42.p2 ?_)
    intro a43 z43 m43
    have s1_43 := m43 _ _ (s1_42.n2)
    have s3_43 := m43 _ _ (s3_42.n2)
    have s7_43 := m43 _ _ (s7_42.n2)
    have s8_43 := m43 _ _ (s8_42.n2)
    have s11_43 := m43 _ _ (s11_42.n2)
    have s13_43 := m43 _ _ (s13_42.n2)
    have s14_43 := m43 _ _ (s14_42.n2)
    have s52_43 := m43 _ _ (At.hit z42.put rfl)
    clear m43
    refine e_then (c_true s52_43 ?_)
    refine wp_skip (e_then (c_seq (wp_block (region_low_tail 10 hm (by kernel_rfl) ?_))))
    simp only [List.take_succ_cons, List.take_zero, List.drop_succ_cons, List.drop_zero]
    refine qs (q_row rfl Tryz.underlying68 rfl (sz68.trans (congrArg some ((nums_size _ _).trans (cl_len (stepsX (expandR s) (differenceR ty K B) (mR c s) stepR 58 k))).symm)) s13_43.ev (fun _ h => h.blk kg13_42) ?_)
    refine qs (q_move _ _ rfl (s14_43.n1).ev ?_)
    refine qs (q_move _ _ rfl (s14_43.n2).ev ?_)
    refine qs (q_idx (j := k + 58) rfl Tryz.underlying65 sz64 (s8_43.n3).ev (At.hit z43.p2 rfl).ev (by omega) ?_)
    refine qs (q_cell (.int .u32 ((expandR s).getD (k + 58) 0)) rfl Tryz.underlying64 (At.hit z43.p3 rfl).ev (fun _ h => nums_cell (h.blk kg8_42) (k + 58) (by rw [(expandR_len s)]; omega)) ?_)
    refine qs (q_move _ _ rfl (s14_43.n5).ev ?_)
    refine qs (q_idx (j := k + 58) rfl Tryz.underlying65 sz64 (s7_43.n6).ev (At.hit z43.p5 rfl).ev (by omega) ?_)
    refine qs (q_cell (.int .u32 ((differenceR ty K B).getD (k + 58) 0)) rfl Tryz.underlying64 (At.hit z43.p6 rfl).ev (fun _ h => nums_cell (h.blk kg7_42) (k + 58) (by rw [(differenceR_len _ _ _)]; omega)) ?_)
    refine q_fresh z43.p8 ?_
    intro a44 z44 m44
    have s1_44 := m44 _ _ (s1_43.n8)
    have s3_44 := m44 _ _ (s3_43.n8)
    have s7_44 := m44 _ _ (s7_43.n8)
    have s8_44 := m44 _ _ (s8_43.n8)
    have s11_44 := m44 _ _ (s11_43.n8)
    have s13_44 := m44 _ _ (s13_43.n8)
    have s14_44 := m44 _ _ (s14_43.n8)
    have s55_44 := m44 _ _ ((At.hit z43 rfl).n7)
    have s56_44 := m44 _ _ ((At.hit z43.put rfl).n6)
    have s59_44 := m44 _ _ ((At.hit z43.p4 rfl).n3)
    have s62_44 := m44 _ _ (At.hit z43.p7 rfl)
    clear m44
    refine qs (q_xor rfl s59_44.ev s62_44.ev ?_)
    refine qs (q_call (.agg (nums .u32 (cl (stepR (stepsX (expandR s) (differenceR ty K B) (mR c s) stepR 58 k) ((k + 58 : Nat) : Int) (Go.bits .xor .u32 ((expandR s).getD (k + 58) 0) ((differenceR ty K B).getD (k + 58) 0)))))) rfl rfl Tryz.func71 rfl (args3 rfl (s55_44.n1).ev (s56_44.n1).ev (At.hit z44 rfl).ev) (fun _ h => (StepR.calls (stepsX (expandR s) (differenceR ty K B) (mR c s) stepR 58 k) ((k + 58 : Nat) : Int) (Go.bits .xor .u32 ((expandR s).getD (k + 58) 0) ((differenceR ty K B).getD (k + 58) 0)) _).mono fun _ _ ⟨e, k⟩ => ⟨e, h.trans k⟩) ?_)
    refine qz ?_
    intro w45 h45
    have kg11_45 := h45.blk kg11_42
    have kg13_45 := h45.blk kg13_42
    have kg3_45 := h45.blk kg3_42
    have kg7_45 := h45.blk kg7_42
    have kg8_45 := h45.blk kg8_42
    refine l_row rfl rfl rfl (sz68.trans (congrArg some ((nums_size _ _).trans (cl_len (stepR (stepsX (expandR s) (differenceR ty K B) (mR c s) stepR 58 k) ((k + 58 : Nat) : Int) (Go.bits .xor .u32 ((expandR s).getD (k + 58) 0) ((differenceR ty K B).getD (k + 58) 0))))).symm)) (s13_44.n2).ev (At.hit z44.put rfl).ev (nums_one _ _) kg13_45 (((nums_size _ _).trans (cl_len (stepsX (expandR s) (differenceR ty K B) (mR c s) stepR 58 k))).trans ((nums_size _ _).trans (cl_len (stepR (stepsX (expandR s) (differenceR ty K B) (mR c s) stepR 58 k) ((k + 58 : Nat) : Int) (Go.bits .xor .u32 ((expandR s).getD (k + 58) 0) ((differenceR ty K B).getD (k + 58) 0))))).symm) ?_
    intro w46 k46 u46
    have kg11_46 := u46.blk kg11_45 (by omega)
    have kg3_46 := u46.blk kg3_45 (by omega)
    have kg7_46 := u46.blk kg7_45 (by omega)
    have kg8_46 := u46.blk kg8_45 (by omega)
    refine l_end (e_fresh z44.p2 ?_)
    intro a47 z47 m47
    have s1_47 := m47 _ _ (s1_44.n2)
    have s3_47 := m47 _ _ (s3_44.n2)
    have s7_47 := m47 _ _ (s7_44.n2)
    have s8_47 := m47 _ _ (s8_44.n2)
    have s11_47 := m47 _ _ (s11_44.n2)
    have s13_47 := m47 _ _ (s13_44.n2)
    have s14_47 := m47 _ _ (s14_44.n2)
    have low47 := ((low42.trans h45).upd u46 geg13)
    clear m47
    refine e_in (e_then (c_region ?_))
    refine l_q rfl (q_move _ _ rfl s14_47.ev ?_)
    refine l_q rfl (q_add (((k + 59 : Nat) : Int)) rfl (At.hit z47 rfl).ev rfl (i64_is (by omega) (by omega) (by omega)) ?_)
    refine l_q rfl (q_assign _ _ rfl (At.hit z47.put rfl).ev ?_)
    refine l_end (e_fresh z47.p3 ?_)
    intro a48 z48 m48
    have s1_48 := m48 _ _ (s1_47.n3)
    have s3_48 := m48 _ _ (s3_47.n3)
    have s7_48 := m48 _ _ (s7_47.n3)
    have s8_48 := m48 _ _ (s8_47.n3)
    have s11_48 := m48 _ _ (s11_47.n3)
    have s13_48 := m48 _ _ (s13_47.n3)
    have s14_48 := m48 _ _ (At.hit z47.p2 rfl)
    clear m48
    exact ⟨z48, s1_48, s3_48, s7_48, s8_48, s11_48, s13_48, (s14_48.same (congrArg (Value.int .i64) (by omega))), kg11_46, k46, kg3_46, kg7_46, kg8_46, low47⟩
   ·
    intro a49 w49 h
    obtain ⟨z49, s1_49, s3_49, s7_49, s8_49, s11_49, s13_49, s14_49, kg11_49, kg13_49, kg3_49, kg7_49, kg8_49, low49⟩ := h
    clear k39 kg11_39 kg3_39 kg7_39 kg8_39 low40 s11_41 s13_41 s14_41 s1_41 s3_41 s7_41 s8_41 z41
    refine c_seq (c_seq (c_region ?_))
    refine l_q rfl (q_move _ _ rfl s14_49.ev ?_)
    refine l_q rfl (q_lss false rfl (At.hit z49 rfl).ev rfl (decide_eq_false (by omega)) ?_)
    refine l_end (e_fresh z49.p2 ?_)
    intro a50 z50 m50
    have s1_50 := m50 _ _ (s1_49.n2)
    have s3_50 := m50 _ _ (s3_49.n2)
    have s7_50 := m50 _ _ (s7_49.n2)
    have s8_50 := m50 _ _ (s8_49.n2)
    have s11_50 := m50 _ _ (s11_49.n2)
    have s13_50 := m50 _ _ (s13_49.n2)
    have s14_50 := m50 _ _ (s14_49.n2)
    have s52_50 := m50 _ _ (At.hit z49.put rfl)
    clear m50
    refine e_then (c_false s52_50 ?_)
    refine wp_exit (x_then (x_then (in_exit (e_then (c_seq (c_region ?_))))))
    refine l_q rfl (q_row rfl Tryz.underlying68 rfl (sz68.trans (congrArg some ((nums_size _ _).trans (cl_len c)).symm)) s3_50.ev (fun _ e => by rw [e]; exact kg3_49) ?_)
    refine l_q rfl (q_move _ _ rfl (s1_50.n1).ev ?_)
    refine l_call (fun v w' => v = .agg (nums .u32 (cl (prR c s))) ∧ Low w49 w') rfl rfl rfl Tryz.func55 rfl (args2 rfl ((At.hit z50 rfl).n1).ev (At.hit z50.put rfl).ev) ((PrR.calls c s (by first | omega | (simp only [ByteArray.size_extract]; omega)) _).mono fun _ _ ⟨e, k⟩ => ⟨_, e, rfl, k⟩) ?_
    rintro _ w51 ⟨rfl, h51⟩
    have kg11_51 := h51.blk kg11_49
    have kg13_51 := h51.blk kg13_49
    have kg3_51 := h51.blk kg3_49
    have kg7_51 := h51.blk kg7_49
    have kg8_51 := h51.blk kg8_49
    refine l_alloc rfl rfl zero68 ?_
    intro g15 w52 hg52 k52 h52
    have lt_g11_g15 := Nat.lt_of_lt_of_le (heap_lt kg11_51) hg52
    have lt_g13_g15 := Nat.lt_of_lt_of_le (heap_lt kg13_51) hg52
    have lt_g3_g15 := Nat.lt_of_lt_of_le (heap_lt kg3_51) hg52
    have lt_g7_g15 := Nat.lt_of_lt_of_le (heap_lt kg7_51) hg52
    have lt_g8_g15 := Nat.lt_of_lt_of_le (heap_lt kg8_51) hg52
    have geg15 := Nat.le_trans (low49.trans h51).ge hg52
    have kg11_52 := h52.blk kg11_51
    have kg13_52 := h52.blk kg13_51
    have kg3_52 := h52.blk kg3_51
    have kg7_52 := h52.blk kg7_51
    have kg8_52 := h52.blk kg8_51
    refine l_row rfl rfl rfl (sz68.trans (congrArg some ((nums_size _ _).trans (cl_len (prR c s))).symm)) (At.hit z50.p3 rfl).ev ((At.hit z50.p2 rfl).n1).ev (nums_one _ _) k52 (((nums_size _ _).trans (List.length_replicate)).trans ((nums_size _ _).trans (cl_len (prR c s))).symm) ?_
    intro w53 k53 u53
    have kg11_53 := u53.blk kg11_52 (by omega)
    have kg13_53 := u53.blk kg13_52 (by omega)
    have kg3_53 := u53.blk kg3_52 (by omega)
    have kg7_53 := u53.blk kg7_52 (by omega)
    have kg8_53 := u53.blk kg8_52 (by omega)
    refine l_end (e_fresh z50.p4 ?_)
    intro a54 z54 m54
    have s11_54 := m54 _ _ (s11_50.n4)
    have s13_54 := m54 _ _ (s13_50.n4)
    have s15_54 := m54 _ _ (At.hit z50.p3 rfl)
    have low54 := (((low49.trans h51).trans h52).upd u53 geg15)
    clear m54
    refine e_then (c_seq (c_seq (c_region ?_)))
    refine l_q rfl (q_assign _ _ rfl rfl ?_)
    refine l_end (e_fresh z54.put ?_)
    intro a55 z55 m55
    have s11_55 := m55 _ _ (s11_54.n1)
    have s13_55 := m55 _ _ (s13_54.n1)
    have s15_55 := m55 _ _ (s15_54.n1)
    have s16_55 := m55 _ _ (At.hit z54 rfl)
    clear m55
    refine e_then (wp_block (c_loop 5 (fun k a w => Fr 83 a ∧ At a 11 (.pointer (some ⟨g11, 0, none⟩)) ∧ At a 13 (.pointer (some ⟨g13, 0, none⟩)) ∧ At a 15 (.pointer (some ⟨g15, 0, none⟩)) ∧ At a 16 (.int .i64 ((k : Nat) : Int)) ∧ w.heap[g11]? = some (.cells (nums .u32 (cl (backX (expandR s) (differenceR ty K B) (mR c s) backR 58))) 68) ∧ w.heap[g13]? = some (.cells (nums .u32 (cl (stepsX (expandR s) (differenceR ty K B) (mR c s) stepR 58 22))) 68) ∧ w.heap[g15]? = some (.cells (nums .u32 (cl (prR c s))) 68) ∧ Low w0 w) ?_ ?_ ?_))
    ·
     exact ⟨z55, s11_55, s13_55, s15_55, s16_55, kg11_53, kg13_53, k53, low54⟩
    ·
     intro k a56 w56 hk56 h
     obtain ⟨z56, s11_56, s13_56, s15_56, s16_56, kg11_56, kg13_56, kg15_56, low56⟩ := h
     clear k53 kg11_53 kg13_53 low54 s11_55 s13_55 s15_55 s16_55 z55
     refine c_seq (c_seq (c_region ?_))
     refine l_q rfl (q_move _ _ rfl s16_56.ev ?_)
     refine l_q rfl (q_lss true rfl (At.hit z56 rfl).ev rfl (decide_eq_true (by omega)) ?_)
     refine l_end (e_fresh z56.p2 ?_)
     intro a57 z57 m57
     have s11_57 := m57 _ _ (s11_56.n2)
     have s13_57 := m57 _ _ (s13_56.n2)
     have s15_57 := m57 _ _ (s15_56.n2)
     have s16_57 := m57 _ _ (s16_56.n2)
     have s69_57 := m57 _ _ (At.hit z56.put rfl)
     clear m57
     refine e_then (c_true s69_57 ?_)
     refine wp_skip (e_then (c_seq (wp_block (c_seq (region_low hm (by kernel_rfl) ?_)))))
     refine qs (q_move _ _ rfl s16_57.ev ?_)
     refine qs (q_idx (j := k) rfl Tryz.underlying68 sz64 (s11_57.n1).ev (At.hit z57 rfl).ev (by omega) ?_)
     refine qs (q_cell (.int .u32 ((cl (backX (expandR s) (differenceR ty K B) (mR c s) backR 58)).getD k 0)) rfl Tryz.underlying64 (At.hit z57.put rfl).ev (fun _ h => nums_cell (h.blk kg11_56) k (by rw [(cl_len (backX (expandR s) (differenceR ty K B) (mR c s) backR 58))]; omega)) ?_)
     refine qs (q_move _ _ rfl (s16_57.n3).ev ?_)
     refine qs (q_idx (j := k) rfl Tryz.underlying68 sz64 (s13_57.n4).ev (At.hit z57.p3 rfl).ev (by omega) ?_)
     refine qs (q_cell (.int .u32 ((cl (stepsX (expandR s) (differenceR ty K B) (mR c s) stepR 58 22)).getD k 0)) rfl Tryz.underlying64 (At.hit z57.p4 rfl).ev (fun _ h => nums_cell (h.blk kg13_56) k (by rw [(cl_len (stepsX (expandR s) (differenceR ty K B) (mR c s) stepR 58 22))]; omega)) ?_)
     refine qs (q_add _ rfl ((At.hit z57.p2 rfl).n3).ev (At.hit z57.p5 rfl).ev rfl ?_)
     refine qs (q_move _ _ rfl (s16_57.n7).ev ?_)
     refine q_fresh z57.p8 ?_
     intro a58 z58 m58
     have s11_58 := m58 _ _ (s11_57.n8)
     have s13_58 := m58 _ _ (s13_57.n8)
     have s15_58 := m58 _ _ (s15_57.n8)
     have s16_58 := m58 _ _ (s16_57.n8)
     have s78_58 := m58 _ _ ((At.hit z57.p6 rfl).n1)
     have s79_58 := m58 _ _ (At.hit z57.p7 rfl)
     clear m58
     refine qs (q_idx (j := k) rfl Tryz.underlying68 sz64 s15_58.ev s79_58.ev (by omega) ?_)
     refine qs (q_cell (.int .u32 ((cl (prR c s)).getD k 0)) rfl Tryz.underlying64 (At.hit z58 rfl).ev (fun _ h => nums_cell (h.blk kg15_56) k (by rw [(cl_len (prR c s))]; omega)) ?_)
     refine qs (q_neq false rfl (s78_58.n2).ev (At.hit z58.put rfl).ev (decide_eq_false (not_not_intro (hall k (by omega)))) ?_)
     refine qz ?_
     intro w59 h59
     have kg11_59 := h59.blk kg11_56
     have kg13_59 := h59.blk kg13_56
     have kg15_59 := h59.blk kg15_56
     refine e_id (e_fresh z58.p3 ?_)
     intro a60 z60 m60
     have s11_60 := m60 _ _ (s11_58.n3)
     have s13_60 := m60 _ _ (s13_58.n3)
     have s15_60 := m60 _ _ (s15_58.n3)
     have s16_60 := m60 _ _ (s16_58.n3)
     have s82_60 := m60 _ _ (At.hit z58.p2 rfl)
     have low60 := (low56.trans h59)
     clear m60
     refine e_then (c_false s82_60 ?_)
     refine wp_skip (e_in (e_then (c_region ?_)))
     refine l_q rfl (q_move _ _ rfl s16_60.ev ?_)
     refine l_q rfl (q_add (((k + 1 : Nat) : Int)) rfl (At.hit z60 rfl).ev rfl (i64_is (by omega) (by omega) (by omega)) ?_)
     refine l_q rfl (q_assign _ _ rfl (At.hit z60.put rfl).ev ?_)
     refine l_end (e_fresh z60.p3 ?_)
     intro a61 z61 m61
     have s11_61 := m61 _ _ (s11_60.n3)
     have s13_61 := m61 _ _ (s13_60.n3)
     have s15_61 := m61 _ _ (s15_60.n3)
     have s16_61 := m61 _ _ (At.hit z60.p2 rfl)
     clear m61
     exact ⟨z61, s11_61, s13_61, s15_61, s16_61, kg11_59, kg13_59, kg15_59, low60⟩
    ·
     intro a62 w62 h
     obtain ⟨z62, s11_62, s13_62, s15_62, s16_62, kg11_62, kg13_62, kg15_62, low62⟩ := h
     clear k53 kg11_53 kg13_53 low54 s11_55 s13_55 s15_55 s16_55 z55
     refine c_seq (c_seq (c_region ?_))
     refine l_q rfl (q_move _ _ rfl s16_62.ev ?_)
     refine l_q rfl (q_lss false rfl (At.hit z62 rfl).ev rfl (decide_eq_false (by omega)) ?_)
     refine l_end (e_fresh z62.p2 ?_)
     intro a63 z63 m63
     have s11_63 := m63 _ _ (s11_62.n2)
     have s13_63 := m63 _ _ (s13_62.n2)
     have s15_63 := m63 _ _ (s15_62.n2)
     have s16_63 := m63 _ _ (s16_62.n2)
     have s69_63 := m63 _ _ (At.hit z62.put rfl)
     clear m63
     refine e_then (c_false s69_63 ?_)
     refine wp_exit (x_then (x_then (in_exit (e_then (c_seq (c_region ?_))))))
     refine l_q rfl (q_assign _ _ rfl rfl ?_)
     refine l_end (e_fresh z63.put ?_)
     intro a64 z64 m64
     have s6_64 := m64 _ _ (At.hit z63 rfl)
     clear m64
     refine e_then (wp_ret (r_tmp rfl z64.defers s6_64 ?_))
     exact ⟨by rw [markedR_all c s ty K B hd hall]; rfl, low62⟩
theorem MarkedR_fail.calls (c : Ch) (s : ByteArray) (hs : s.size ≤ 9223372036854775807) (ty K B : Int) (hok : okV ty K B = true) (hd : ¬ differenceR ty K B = List.replicate 80 0) (j : Nat) (hj : j < 5) (hbad : ¬ endsR c s (differenceR ty K B) j) (hall : ∀ i, i < j → endsR c s (differenceR ty K B) i) (w0 : World) : Calls Tryz.prog 54 #[.agg (nums .u32 (cl c)), .string s, .agg #[.int .i64 ty, .int .i64 K, .int .i64 B]] w0 fun e w' => e = .returned (.bool (markedR c s ty K B)) ∧ Low w0 w' := by
 refine c_fun (R := _) Tryz.func54 rfl 83 rfl (Nat.le_of_ble_eq_true rfl) ?_
 intro a z hA
 have s0 := hA 0 _ rfl
 have s1 := hA 1 _ rfl
 have s2 := hA 2 _ rfl
 clear hA
 refine c_seq (c_region (l_box rfl rfl s0.ev ?_))
 intro g3 w1 hg1 k1 h1
 have geg3 := Nat.le_trans (Low.refl _).ge hg1
 refine l_box rfl rfl (s2.n1).ev ?_
 intro g5 w2 hg2 k2 h2
 have lt_g3_g5 := Nat.lt_of_lt_of_le (heap_lt k1) hg2
 have geg5 := Nat.le_trans h1.ge hg2
 have kg3_2 := h2.blk k1
 refine l_q rfl (q_assign _ _ rfl rfl ?_)
 refine l_end (e_fresh z.p3 ?_)
 intro a3 z3 m3
 have s1_3 := m3 _ _ (s1.n3)
 have s3_3 := m3 _ _ ((At.hit z rfl).n2)
 have s5_3 := m3 _ _ ((At.hit z.put rfl).n1)
 have low3 := (h1.trans h2)
 clear m3
 refine e_then (c_seq (c_region ?_))
 refine l_q rfl (q_row rfl Tryz.underlying84 rfl (sz84.trans (congrArg some rfl.symm)) s5_3.ev (fun _ e => by rw [e]; exact k2) ?_)
 refine l_call (fun v w' => v = .agg (nums .u32 (differenceR ty K B)) ∧ Low w2 w') rfl rfl rfl Tryz.func69 rfl (args1 rfl (At.hit z3 rfl).ev) ((DifferenceR.calls ty K B hok _).mono fun _ _ ⟨e, k⟩ => ⟨_, e, rfl, k⟩) ?_
 rintro _ w4 ⟨rfl, h4⟩
 have kg3_4 := h4.blk kg3_2
 have kg5_4 := h4.blk k2
 refine l_alloc rfl rfl zero65 ?_
 intro g7 w5 hg5 k5 h5
 have lt_g3_g7 := Nat.lt_of_lt_of_le (heap_lt kg3_4) hg5
 have lt_g5_g7 := Nat.lt_of_lt_of_le (heap_lt kg5_4) hg5
 have geg7 := Nat.le_trans (low3.trans h4).ge hg5
 have kg3_5 := h5.blk kg3_4
 have kg5_5 := h5.blk kg5_4
 refine l_row rfl rfl rfl (sz65.trans (congrArg some ((nums_size _ _).trans (differenceR_len _ _ _)).symm)) (At.hit z3.p2 rfl).ev ((At.hit z3.put rfl).n1).ev (nums_one _ _) k5 (((nums_size _ _).trans (List.length_replicate)).trans ((nums_size _ _).trans (differenceR_len _ _ _)).symm) ?_
 intro w6 k6 u6
 have kg3_6 := u6.blk kg3_5 (by omega)
 have kg5_6 := u6.blk kg5_5 (by omega)
 refine l_end (e_fresh z3.p3 ?_)
 intro a7 z7 m7
 have s1_7 := m7 _ _ (s1_3.n3)
 have s3_7 := m7 _ _ (s3_3.n3)
 have s7_7 := m7 _ _ (At.hit z3.p2 rfl)
 have low7 := (((low3.trans h4).trans h5).upd u6 geg7)
 clear m7
 refine e_then (c_seq (c_seq (c_region ?_)))
 refine l_q rfl (q_row rfl Tryz.underlying65 rfl (sz65.trans (congrArg some ((nums_size _ _).trans (differenceR_len _ _ _)).symm)) s7_7.ev (fun _ e => by rw [e]; exact k6) ?_)
 refine l_q rfl (q_zero rfl Tryz.underlying65 sz64 zero65 ?_)
 refine l_q rfl (q_eqrow false rfl Tryz.eqGuardType65 Tryz.underlying65 Tryz.underlying64 info64 cells64 ((At.hit z7 rfl).n1).ev (At.hit z7.put rfl).ev (differenceR_len _ _ _) (List.length_replicate) (by rw [decide_eq_false hd]) ?_)
 refine l_end (e_fresh z7.p3 ?_)
 intro a8 z8 m8
 have s1_8 := m8 _ _ (s1_7.n3)
 have s3_8 := m8 _ _ (s3_7.n3)
 have s7_8 := m8 _ _ (s7_7.n3)
 have s21_8 := m8 _ _ (At.hit z7.p2 rfl)
 clear m8
 refine e_then (c_false s21_8 ?_)
 refine wp_skip (e_then (c_seq (c_region ?_)))
 refine l_q rfl (q_move _ _ rfl s1_8.ev ?_)
 refine l_call (fun v w' => v = .agg (nums .u32 (expandR s)) ∧ Low w6 w') rfl rfl rfl Tryz.func70 rfl (args1 rfl (At.hit z8 rfl).ev) ((ExpandR.calls s hs _).mono fun _ _ ⟨e, k⟩ => ⟨_, e, rfl, k⟩) ?_
 rintro _ w9 ⟨rfl, h9⟩
 have kg3_9 := h9.blk kg3_6
 have kg7_9 := h9.blk k6
 refine l_alloc rfl rfl zero65 ?_
 intro g8 w10 hg10 k10 h10
 have lt_g3_g8 := Nat.lt_of_lt_of_le (heap_lt kg3_9) hg10
 have lt_g7_g8 := Nat.lt_of_lt_of_le (heap_lt kg7_9) hg10
 have geg8 := Nat.le_trans (low7.trans h9).ge hg10
 have kg3_10 := h10.blk kg3_9
 have kg7_10 := h10.blk kg7_9
 refine l_row rfl rfl rfl (sz65.trans (congrArg some ((nums_size _ _).trans (expandR_len s)).symm)) (At.hit z8.p2 rfl).ev ((At.hit z8.put rfl).n1).ev (nums_one _ _) k10 (((nums_size _ _).trans (List.length_replicate)).trans ((nums_size _ _).trans (expandR_len s)).symm) ?_
 intro w11 k11 u11
 have kg3_11 := u11.blk kg3_10 (by omega)
 have kg7_11 := u11.blk kg7_10 (by omega)
 refine l_end (e_fresh z8.p3 ?_)
 intro a12 z12 m12
 have s1_12 := m12 _ _ (s1_8.n3)
 have s3_12 := m12 _ _ (s3_8.n3)
 have s7_12 := m12 _ _ (s7_8.n3)
 have s8_12 := m12 _ _ (At.hit z8.p2 rfl)
 have low12 := (((low7.trans h9).trans h10).upd u11 geg8)
 clear m12
 refine e_then (c_seq (c_region ?_))
 refine l_q rfl (q_row rfl Tryz.underlying68 rfl (sz68.trans (congrArg some ((nums_size _ _).trans (cl_len c)).symm)) s3_12.ev (fun _ e => by rw [e]; exact kg3_11) ?_)
 refine l_alloc rfl rfl zero68 ?_
 intro g9 w13 hg13 k13 h13
 have lt_g3_g9 := Nat.lt_of_lt_of_le (heap_lt kg3_11) hg13
 have lt_g7_g9 := Nat.lt_of_lt_of_le (heap_lt kg7_11) hg13
 have lt_g8_g9 := Nat.lt_of_lt_of_le (heap_lt k11) hg13
 have geg9 := Nat.le_trans low12.ge hg13
 have kg3_13 := h13.blk kg3_11
 have kg7_13 := h13.blk kg7_11
 have kg8_13 := h13.blk k11
 refine l_row rfl rfl rfl (sz68.trans (congrArg some ((nums_size _ _).trans (cl_len c)).symm)) (At.hit z12.put rfl).ev ((At.hit z12 rfl).n1).ev (nums_one _ _) k13 (((nums_size _ _).trans (List.length_replicate)).trans ((nums_size _ _).trans (cl_len c)).symm) ?_
 intro w14 k14 u14
 have kg3_14 := u14.blk kg3_13 (by omega)
 have kg7_14 := u14.blk kg7_13 (by omega)
 have kg8_14 := u14.blk kg8_13 (by omega)
 refine l_end (e_fresh z12.p2 ?_)
 intro a15 z15 m15
 have s1_15 := m15 _ _ (s1_12.n2)
 have s3_15 := m15 _ _ (s3_12.n2)
 have s7_15 := m15 _ _ (s7_12.n2)
 have s8_15 := m15 _ _ (s8_12.n2)
 have s9_15 := m15 _ _ (At.hit z12.put rfl)
 have low15 := ((low12.trans h13).upd u14 geg9)
 clear m15
 refine e_then (c_seq (c_seq (c_region ?_)))
 refine l_q rfl (q_assign _ _ rfl rfl ?_)
 refine l_end (e_fresh z15.put ?_)
 intro a16 z16 m16
 have s1_16 := m16 _ _ (s1_15.n1)
 have s3_16 := m16 _ _ (s3_15.n1)
 have s7_16 := m16 _ _ (s7_15.n1)
 have s8_16 := m16 _ _ (s8_15.n1)
 have s9_16 := m16 _ _ (s9_15.n1)
 have s10_16 := m16 _ _ (At.hit z15 rfl)
 clear m16
 refine e_then (wp_block (c_loop 58 (fun k a w => Fr 83 a ∧ At a 1 (.string s) ∧ At a 3 (.pointer (some ⟨g3, 0, none⟩)) ∧ At a 7 (.pointer (some ⟨g7, 0, none⟩)) ∧ At a 8 (.pointer (some ⟨g8, 0, none⟩)) ∧ At a 9 (.pointer (some ⟨g9, 0, none⟩)) ∧ At a 10 (.int .i64 ((k : Nat) : Int)) ∧ w.heap[g3]? = some (.cells (nums .u32 (cl c)) 68) ∧ w.heap[g7]? = some (.cells (nums .u32 (differenceR ty K B)) 65) ∧ w.heap[g8]? = some (.cells (nums .u32 (expandR s)) 65) ∧ w.heap[g9]? = some (.cells (nums .u32 (cl (stepsR (expandR s) c k))) 68) ∧ Low w0 w) ?_ ?_ ?_))
 ·
  exact ⟨z16, s1_16, s3_16, s7_16, s8_16, s9_16, s10_16, kg3_14, kg7_14, kg8_14, k14, low15⟩
 ·
  intro k a17 w17 hk17 h
  obtain ⟨z17, s1_17, s3_17, s7_17, s8_17, s9_17, s10_17, kg3_17, kg7_17, kg8_17, kg9_17, low17⟩ := h
  clear k14 kg3_14 kg7_14 kg8_14 low15 s10_16 s1_16 s3_16 s7_16 s8_16 s9_16 z16
  refine c_seq (c_seq (c_region ?_))
  refine l_q rfl (q_move _ _ rfl s10_17.ev ?_)
  refine l_q rfl (q_lss true rfl (At.hit z17 rfl).ev rfl (decide_eq_true (by omega)) ?_)
  refine l_end (e_fresh z17.p2 ?_)
  intro a18 z18 m18
  have s1_18 := m18 _ _ (s1_17.n2)
  have s3_18 := m18 _ _ (s3_17.n2)
  have s7_18 := m18 _ _ (s7_17.n2)
  have s8_18 := m18 _ _ (s8_17.n2)
  have s9_18 := m18 _ _ (s9_17.n2)
  have s10_18 := m18 _ _ (s10_17.n2)
  have s26_18 := m18 _ _ (At.hit z17.put rfl)
  clear m18
  refine e_then (c_true s26_18 ?_)
  refine wp_skip (e_then (c_seq (wp_block (region_low_tail 6 hm (by kernel_rfl) ?_))))
  simp only [List.take_succ_cons, List.take_zero, List.drop_succ_cons, List.drop_zero]
  refine qs (q_row rfl Tryz.underlying68 rfl (sz68.trans (congrArg some ((nums_size _ _).trans (cl_len (stepsR (expandR s) c k))).symm)) s9_18.ev (fun _ h => h.blk kg9_17) ?_)
  refine qs (q_move _ _ rfl (s10_18.n1).ev ?_)
  refine qs (q_move _ _ rfl (s10_18.n2).ev ?_)
  refine qs (q_idx (j := k) rfl Tryz.underlying65 sz64 (s8_18.n3).ev (At.hit z18.p2 rfl).ev (by omega) ?_)
  refine qs (q_cell (.int .u32 ((expandR s).getD k 0)) rfl Tryz.underlying64 (At.hit z18.p3 rfl).ev (fun _ h => nums_cell (h.blk kg8_17) k (by rw [(expandR_len s)]; omega)) ?_)
  refine qs (q_call (.agg (nums .u32 (cl (stepR (stepsR (expandR s) c k) ((k : Nat) : Int) ((expandR s).getD k 0))))) rfl rfl Tryz.func71 rfl (args3 rfl ((At.hit z18 rfl).n4).ev ((At.hit z18.put rfl).n3).ev (At.hit z18.p4 rfl).ev) (fun _ h => (StepR.calls (stepsR (expandR s) c k) ((k : Nat) : Int) ((expandR s).getD k 0) _).mono fun _ _ ⟨e, k⟩ => ⟨e, h.trans k⟩) ?_)
  refine qz ?_
  intro w19 h19
  have kg3_19 := h19.blk kg3_17
  have kg7_19 := h19.blk kg7_17
  have kg8_19 := h19.blk kg8_17
  have kg9_19 := h19.blk kg9_17
  refine l_row rfl rfl rfl (sz68.trans (congrArg some ((nums_size _ _).trans (cl_len (stepR (stepsR (expandR s) c k) ((k : Nat) : Int) ((expandR s).getD k 0)))).symm)) (s9_18.n6).ev (At.hit z18.p5 rfl).ev (nums_one _ _) kg9_19 (((nums_size _ _).trans (cl_len (stepsR (expandR s) c k))).trans ((nums_size _ _).trans (cl_len (stepR (stepsR (expandR s) c k) ((k : Nat) : Int) ((expandR s).getD k 0)))).symm) ?_
  intro w20 k20 u20
  have kg3_20 := u20.blk kg3_19 (by omega)
  have kg7_20 := u20.blk kg7_19 (by omega)
  have kg8_20 := u20.blk kg8_19 (by omega)
  refine l_end (e_fresh z18.p6 ?_)
  intro a21 z21 m21
  have s1_21 := m21 _ _ (s1_18.n6)
  have s3_21 := m21 _ _ (s3_18.n6)
  have s7_21 := m21 _ _ (s7_18.n6)
  have s8_21 := m21 _ _ (s8_18.n6)
  have s9_21 := m21 _ _ (s9_18.n6)
  have s10_21 := m21 _ _ (s10_18.n6)
  have low21 := ((low17.trans h19).upd u20 geg9)
  clear m21
  refine e_in (e_then (c_region ?_))
  refine l_q rfl (q_move _ _ rfl s10_21.ev ?_)
  refine l_q rfl (q_add (((k + 1 : Nat) : Int)) rfl (At.hit z21 rfl).ev rfl (i64_is (by omega) (by omega) (by omega)) ?_)
  refine l_q rfl (q_assign _ _ rfl (At.hit z21.put rfl).ev ?_)
  refine l_end (e_fresh z21.p3 ?_)
  intro a22 z22 m22
  have s1_22 := m22 _ _ (s1_21.n3)
  have s3_22 := m22 _ _ (s3_21.n3)
  have s7_22 := m22 _ _ (s7_21.n3)
  have s8_22 := m22 _ _ (s8_21.n3)
  have s9_22 := m22 _ _ (s9_21.n3)
  have s10_22 := m22 _ _ (At.hit z21.p2 rfl)
  clear m22
  exact ⟨z22, s1_22, s3_22, s7_22, s8_22, s9_22, s10_22, kg3_20, kg7_20, kg8_20, k20, low21⟩
 ·
  intro a23 w23 h
  obtain ⟨z23, s1_23, s3_23, s7_23, s8_23, s9_23, s10_23, kg3_23, kg7_23, kg8_23, kg9_23, low23⟩ := h
  clear k14 kg3_14 kg7_14 kg8_14 low15 s10_16 s1_16 s3_16 s7_16 s8_16 s9_16 z16
  refine c_seq (c_seq (c_region ?_))
  refine l_q rfl (q_move _ _ rfl s10_23.ev ?_)
  refine l_q rfl (q_lss false rfl (At.hit z23 rfl).ev rfl (decide_eq_false (by omega)) ?_)
  refine l_end (e_fresh z23.p2 ?_)
  intro a24 z24 m24
  have s1_24 := m24 _ _ (s1_23.n2)
  have s3_24 := m24 _ _ (s3_23.n2)
  have s7_24 := m24 _ _ (s7_23.n2)
  have s8_24 := m24 _ _ (s8_23.n2)
  have s9_24 := m24 _ _ (s9_23.n2)
  have s10_24 := m24 _ _ (s10_23.n2)
  have s26_24 := m24 _ _ (At.hit z23.put rfl)
  clear m24
  refine e_then (c_false s26_24 ?_)
  refine wp_exit (x_then (x_then (in_exit (e_then (c_seq (c_region ?_))))))
  refine l_q rfl (q_row rfl Tryz.underlying68 rfl (sz68.trans (congrArg some ((nums_size _ _).trans (cl_len (stepsR (expandR s) c 58))).symm)) s9_24.ev (fun _ e => by rw [e]; exact kg9_23) ?_)
  refine l_alloc rfl rfl zero68 ?_
  intro g11 w25 hg25 k25 h25
  have lt_g3_g11 := Nat.lt_of_lt_of_le (heap_lt kg3_23) hg25
  have lt_g7_g11 := Nat.lt_of_lt_of_le (heap_lt kg7_23) hg25
  have lt_g8_g11 := Nat.lt_of_lt_of_le (heap_lt kg8_23) hg25
  have lt_g9_g11 := Nat.lt_of_lt_of_le (heap_lt kg9_23) hg25
  have geg11 := Nat.le_trans low23.ge hg25
  have kg3_25 := h25.blk kg3_23
  have kg7_25 := h25.blk kg7_23
  have kg8_25 := h25.blk kg8_23
  have kg9_25 := h25.blk kg9_23
  refine l_row rfl rfl rfl (sz68.trans (congrArg some ((nums_size _ _).trans (cl_len (stepsR (expandR s) c 58))).symm)) (At.hit z24.put rfl).ev ((At.hit z24 rfl).n1).ev (nums_one _ _) k25 (((nums_size _ _).trans (List.length_replicate)).trans ((nums_size _ _).trans (cl_len (stepsR (expandR s) c 58))).symm) ?_
  intro w26 k26 u26
  have kg3_26 := u26.blk kg3_25 (by omega)
  have kg7_26 := u26.blk kg7_25 (by omega)
  have kg8_26 := u26.blk kg8_25 (by omega)
  have kg9_26 := u26.blk kg9_25 (by omega)
  refine l_end (e_fresh z24.p2 ?_)
  intro a27 z27 m27
  have s1_27 := m27 _ _ (s1_24.n2)
  have s3_27 := m27 _ _ (s3_24.n2)
  have s7_27 := m27 _ _ (s7_24.n2)
  have s8_27 := m27 _ _ (s8_24.n2)
  have s9_27 := m27 _ _ (s9_24.n2)
  have s11_27 := m27 _ _ (At.hit z24.put rfl)
  have low27 := ((low23.trans h25).upd u26 geg11)
  clear m27
  refine e_then (c_seq (c_seq (c_region ?_)))
  refine l_q rfl (q_assign _ _ rfl rfl ?_)
  refine l_end (e_fresh z27.put ?_)
  intro a28 z28 m28
  have s1_28 := m28 _ _ (s1_27.n1)
  have s3_28 := m28 _ _ (s3_27.n1)
  have s7_28 := m28 _ _ (s7_27.n1)
  have s8_28 := m28 _ _ (s8_27.n1)
  have s9_28 := m28 _ _ (s9_27.n1)
  have s11_28 := m28 _ _ (s11_27.n1)
  have s12_28 := m28 _ _ (At.hit z27 rfl)
  clear m28
  refine e_then (wp_block (c_loop 58 (fun k a w => Fr 83 a ∧ At a 1 (.string s) ∧ At a 3 (.pointer (some ⟨g3, 0, none⟩)) ∧ At a 7 (.pointer (some ⟨g7, 0, none⟩)) ∧ At a 8 (.pointer (some ⟨g8, 0, none⟩)) ∧ At a 9 (.pointer (some ⟨g9, 0, none⟩)) ∧ At a 11 (.pointer (some ⟨g11, 0, none⟩)) ∧ At a 12 (.int .i64 (57 - ((k : Nat) : Int))) ∧ w.heap[g11]? = some (.cells (nums .u32 (cl (backX (expandR s) (differenceR ty K B) (mR c s) backR k))) 68) ∧ w.heap[g3]? = some (.cells (nums .u32 (cl c)) 68) ∧ w.heap[g7]? = some (.cells (nums .u32 (differenceR ty K B)) 65) ∧ w.heap[g8]? = some (.cells (nums .u32 (expandR s)) 65) ∧ w.heap[g9]? = some (.cells (nums .u32 (cl (stepsR (expandR s) c 58))) 68) ∧ Low w0 w) ?_ ?_ ?_))
  ·
   exact ⟨z28, s1_28, s3_28, s7_28, s8_28, s9_28, s11_28, (s12_28.same (congrArg (Value.int .i64) (by omega))), k26, kg3_26, kg7_26, kg8_26, kg9_26, low27⟩
  ·
   intro k a29 w29 hk29 h
   obtain ⟨z29, s1_29, s3_29, s7_29, s8_29, s9_29, s11_29, s12_29, kg11_29, kg3_29, kg7_29, kg8_29, kg9_29, low29⟩ := h
   clear k26 kg3_26 kg7_26 kg8_26 kg9_26 low27 s11_28 s12_28 s1_28 s3_28 s7_28 s8_28 s9_28 z28
   refine c_seq (c_seq (c_region ?_))
   refine l_q rfl (q_move _ _ rfl s12_29.ev ?_)
   refine l_q rfl (q_geq true rfl (At.hit z29 rfl).ev rfl (decide_eq_true (by omega)) ?_)
   refine l_end (e_fresh z29.p2 ?_)
   intro a30 z30 m30
   have s1_30 := m30 _ _ (s1_29.n2)
   have s3_30 := m30 _ _ (s3_29.n2)
   have s7_30 := m30 _ _ (s7_29.n2)
   have s8_30 := m30 _ _ (s8_29.n2)
   have s9_30 := m30 _ _ (s9_29.n2)
   have s11_30 := m30 _ _ (s11_29.n2)
   have s12_30 := m30 _ _ (s12_29.n2)
   have s37_30 := m30 _ _ (At.hit z29.put rfl)
   clear m30
   refine e_then (c_true s37_30 ?_)
   refine wp_skip (e_then (c_seq (wp_block (region_low_tail 10 hm (by kernel_rfl) ?_))))
   simp only [List.take_succ_cons, List.take_zero, List.drop_succ_cons, List.drop_zero]
   refine qs (q_row rfl Tryz.underlying68 rfl (sz68.trans (congrArg some ((nums_size _ _).trans (cl_len (backX (expandR s) (differenceR ty K B) (mR c s) backR k))).symm)) s11_30.ev (fun _ h => h.blk kg11_29) ?_)
   refine qs (q_move _ _ rfl (s12_30.n1).ev ?_)
   refine qs (q_move _ _ rfl (s12_30.n2).ev ?_)
   refine qs (q_idx (j := 57 - k) rfl Tryz.underlying65 sz64 (s8_30.n3).ev ((At.hit z30.p2 rfl).same (congrArg (Value.int .i64) (show ((57 - ((k : Nat) : Int)) : Int) = ((57 - k : Nat) : Int) by omega))).ev (by omega) ?_)
   refine qs (q_cell (.int .u32 ((expandR s).getD (57 - k) 0)) rfl Tryz.underlying64 (At.hit z30.p3 rfl).ev (fun _ h => nums_cell (h.blk kg8_29) (57 - k) (by rw [(expandR_len s)]; omega)) ?_)
   refine qs (q_move _ _ rfl (s12_30.n5).ev ?_)
   refine qs (q_idx (j := 57 - k) rfl Tryz.underlying65 sz64 (s7_30.n6).ev ((At.hit z30.p5 rfl).same (congrArg (Value.int .i64) (show ((57 - ((k : Nat) : Int)) : Int) = ((57 - k : Nat) : Int) by omega))).ev (by omega) ?_)
   refine qs (q_cell (.int .u32 ((differenceR ty K B).getD (57 - k) 0)) rfl Tryz.underlying64 (At.hit z30.p6 rfl).ev (fun _ h => nums_cell (h.blk kg7_29) (57 - k) (by rw [(differenceR_len _ _ _)]; omega)) ?_)
   refine q_fresh z30.p8 ?_
   intro a31 z31 m31
   have s1_31 := m31 _ _ (s1_30.n8)
   have s3_31 := m31 _ _ (s3_30.n8)
   have s7_31 := m31 _ _ (s7_30.n8)
   have s8_31 := m31 _ _ (s8_30.n8)
   have s9_31 := m31 _ _ (s9_30.n8)
   have s11_31 := m31 _ _ (s11_30.n8)
   have s12_31 := m31 _ _ (s12_30.n8)
   have s40_31 := m31 _ _ ((At.hit z30 rfl).n7)
   have s41_31 := m31 _ _ ((At.hit z30.put rfl).n6)
   have s44_31 := m31 _ _ ((At.hit z30.p4 rfl).n3)
   have s47_31 := m31 _ _ (At.hit z30.p7 rfl)
   clear m31
   refine qs (q_xor rfl s44_31.ev s47_31.ev ?_)
   refine qs (q_call (.agg (nums .u32 (cl (backR (backX (expandR s) (differenceR ty K B) (mR c s) backR k) (57 - ((k : Nat) : Int)) (Go.bits .xor .u32 ((expandR s).getD (57 - k) 0) ((differenceR ty K B).getD (57 - k) 0)))))) rfl rfl Tryz.func72 rfl (args3 rfl (s40_31.n1).ev (s41_31.n1).ev (At.hit z31 rfl).ev) (fun _ h => (BackR.calls (backX (expandR s) (differenceR ty K B) (mR c s) backR k) (57 - ((k : Nat) : Int)) (Go.bits .xor .u32 ((expandR s).getD (57 - k) 0) ((differenceR ty K B).getD (57 - k) 0)) _).mono fun _ _ ⟨e, k⟩ => ⟨e, h.trans k⟩) ?_)
   refine qz ?_
   intro w32 h32
   have kg11_32 := h32.blk kg11_29
   have kg3_32 := h32.blk kg3_29
   have kg7_32 := h32.blk kg7_29
   have kg8_32 := h32.blk kg8_29
   have kg9_32 := h32.blk kg9_29
   refine l_row rfl rfl rfl (sz68.trans (congrArg some ((nums_size _ _).trans (cl_len (backR (backX (expandR s) (differenceR ty K B) (mR c s) backR k) (57 - ((k : Nat) : Int)) (Go.bits .xor .u32 ((expandR s).getD (57 - k) 0) ((differenceR ty K B).getD (57 - k) 0))))).symm)) (s11_31.n2).ev (At.hit z31.put rfl).ev (nums_one _ _) kg11_32 (((nums_size _ _).trans (cl_len (backX (expandR s) (differenceR ty K B) (mR c s) backR k))).trans ((nums_size _ _).trans (cl_len (backR (backX (expandR s) (differenceR ty K B) (mR c s) backR k) (57 - ((k : Nat) : Int)) (Go.bits .xor .u32 ((expandR s).getD (57 - k) 0) ((differenceR ty K B).getD (57 - k) 0))))).symm) ?_
   intro w33 k33 u33
   have kg3_33 := u33.blk kg3_32 (by omega)
   have kg7_33 := u33.blk kg7_32 (by omega)
   have kg8_33 := u33.blk kg8_32 (by omega)
   have kg9_33 := u33.blk kg9_32 (by omega)
   refine l_end (e_fresh z31.p2 ?_)
   intro a34 z34 m34
   have s1_34 := m34 _ _ (s1_31.n2)
   have s3_34 := m34 _ _ (s3_31.n2)
   have s7_34 := m34 _ _ (s7_31.n2)
   have s8_34 := m34 _ _ (s8_31.n2)
   have s9_34 := m34 _ _ (s9_31.n2)
   have s11_34 := m34 _ _ (s11_31.n2)
   have s12_34 := m34 _ _ (s12_31.n2)
   have low34 := ((low29.trans h32).upd u33 geg11)
   clear m34
   refine e_in (e_then (c_region ?_))
   refine l_q rfl (q_move _ _ rfl s12_34.ev ?_)
   refine l_q rfl (q_sub ((56 - ((k : Nat) : Int))) rfl (At.hit z34 rfl).ev rfl (i64_is (by omega) (by omega) (by omega)) ?_)
   refine l_q rfl (q_assign _ _ rfl (At.hit z34.put rfl).ev ?_)
   refine l_end (e_fresh z34.p3 ?_)
   intro a35 z35 m35
   have s1_35 := m35 _ _ (s1_34.n3)
   have s3_35 := m35 _ _ (s3_34.n3)
   have s7_35 := m35 _ _ (s7_34.n3)
   have s8_35 := m35 _ _ (s8_34.n3)
   have s9_35 := m35 _ _ (s9_34.n3)
   have s11_35 := m35 _ _ (s11_34.n3)
   have s12_35 := m35 _ _ (At.hit z34.p2 rfl)
   clear m35
   exact ⟨z35, s1_35, s3_35, s7_35, s8_35, s9_35, s11_35, (s12_35.same (congrArg (Value.int .i64) (by omega))), k33, kg3_33, kg7_33, kg8_33, kg9_33, low34⟩
  ·
   intro a36 w36 h
   obtain ⟨z36, s1_36, s3_36, s7_36, s8_36, s9_36, s11_36, s12_36, kg11_36, kg3_36, kg7_36, kg8_36, kg9_36, low36⟩ := h
   clear k26 kg3_26 kg7_26 kg8_26 kg9_26 low27 s11_28 s12_28 s1_28 s3_28 s7_28 s8_28 s9_28 z28
   refine c_seq (c_seq (c_region ?_))
   refine l_q rfl (q_move _ _ rfl s12_36.ev ?_)
   refine l_q rfl (q_geq false rfl (At.hit z36 rfl).ev rfl (decide_eq_false (by omega)) ?_)
   refine l_end (e_fresh z36.p2 ?_)
   intro a37 z37 m37
   have s1_37 := m37 _ _ (s1_36.n2)
   have s3_37 := m37 _ _ (s3_36.n2)
   have s7_37 := m37 _ _ (s7_36.n2)
   have s8_37 := m37 _ _ (s8_36.n2)
   have s9_37 := m37 _ _ (s9_36.n2)
   have s11_37 := m37 _ _ (s11_36.n2)
   have s12_37 := m37 _ _ (s12_36.n2)
   have s37_37 := m37 _ _ (At.hit z36.put rfl)
   clear m37
   refine e_then (c_false s37_37 ?_)
   refine wp_exit (x_then (x_then (in_exit (e_then (c_seq (c_region ?_))))))
   refine l_q rfl (q_row rfl Tryz.underlying68 rfl (sz68.trans (congrArg some ((nums_size _ _).trans (cl_len (stepsR (expandR s) c 58))).symm)) s9_37.ev (fun _ e => by rw [e]; exact kg9_36) ?_)
   refine l_alloc rfl rfl zero68 ?_
   intro g13 w38 hg38 k38 h38
   have lt_g11_g13 := Nat.lt_of_lt_of_le (heap_lt kg11_36) hg38
   have lt_g3_g13 := Nat.lt_of_lt_of_le (heap_lt kg3_36) hg38
   have lt_g7_g13 := Nat.lt_of_lt_of_le (heap_lt kg7_36) hg38
   have lt_g8_g13 := Nat.lt_of_lt_of_le (heap_lt kg8_36) hg38
   have lt_g9_g13 := Nat.lt_of_lt_of_le (heap_lt kg9_36) hg38
   have geg13 := Nat.le_trans low36.ge hg38
   have kg11_38 := h38.blk kg11_36
   have kg3_38 := h38.blk kg3_36
   have kg7_38 := h38.blk kg7_36
   have kg8_38 := h38.blk kg8_36
   have kg9_38 := h38.blk kg9_36
   refine l_row rfl rfl rfl (sz68.trans (congrArg some ((nums_size _ _).trans (cl_len (stepsR (expandR s) c 58))).symm)) (At.hit z37.put rfl).ev ((At.hit z37 rfl).n1).ev (nums_one _ _) k38 (((nums_size _ _).trans (List.length_replicate)).trans ((nums_size _ _).trans (cl_len (stepsR (expandR s) c 58))).symm) ?_
   intro w39 k39 u39
   have kg11_39 := u39.blk kg11_38 (by omega)
   have kg3_39 := u39.blk kg3_38 (by omega)
   have kg7_39 := u39.blk kg7_38 (by omega)
   have kg8_39 := u39.blk kg8_38 (by omega)
   have kg9_39 := u39.blk kg9_38 (by omega)
   refine l_end (e_fresh z37.p2 ?_)
   intro a40 z40 m40
   have s1_40 := m40 _ _ (s1_37.n2)
   have s3_40 := m40 _ _ (s3_37.n2)
   have s7_40 := m40 _ _ (s7_37.n2)
   have s8_40 := m40 _ _ (s8_37.n2)
   have s11_40 := m40 _ _ (s11_37.n2)
   have s13_40 := m40 _ _ (At.hit z37.put rfl)
   have low40 := ((low36.trans h38).upd u39 geg13)
   clear m40
   refine e_then (c_seq (c_seq (c_region ?_)))
   refine l_q rfl (q_assign _ _ rfl rfl ?_)
   refine l_end (e_fresh z40.put ?_)
   intro a41 z41 m41
   have s1_41 := m41 _ _ (s1_40.n1)
   have s3_41 := m41 _ _ (s3_40.n1)
   have s7_41 := m41 _ _ (s7_40.n1)
   have s8_41 := m41 _ _ (s8_40.n1)
   have s11_41 := m41 _ _ (s11_40.n1)
   have s13_41 := m41 _ _ (s13_40.n1)
   have s14_41 := m41 _ _ (At.hit z40 rfl)
   clear m41
   refine e_then (wp_block (c_loop 22 (fun k a w => Fr 83 a ∧ At a 1 (.string s) ∧ At a 3 (.pointer (some ⟨g3, 0, none⟩)) ∧ At a 7 (.pointer (some ⟨g7, 0, none⟩)) ∧ At a 8 (.pointer (some ⟨g8, 0, none⟩)) ∧ At a 11 (.pointer (some ⟨g11, 0, none⟩)) ∧ At a 13 (.pointer (some ⟨g13, 0, none⟩)) ∧ At a 14 (.int .i64 ((k + 58 : Nat) : Int)) ∧ w.heap[g11]? = some (.cells (nums .u32 (cl (backX (expandR s) (differenceR ty K B) (mR c s) backR 58))) 68) ∧ w.heap[g13]? = some (.cells (nums .u32 (cl (stepsX (expandR s) (differenceR ty K B) (mR c s) stepR 58 k))) 68) ∧ w.heap[g3]? = some (.cells (nums .u32 (cl c)) 68) ∧ w.heap[g7]? = some (.cells (nums .u32 (differenceR ty K B)) 65) ∧ w.heap[g8]? = some (.cells (nums .u32 (expandR s)) 65) ∧ Low w0 w) ?_ ?_ ?_))
   ·
    exact ⟨z41, s1_41, s3_41, s7_41, s8_41, s11_41, s13_41, (s14_41.same (congrArg (Value.int .i64) (by omega))), kg11_39, k39, kg3_39, kg7_39, kg8_39, low40⟩
   ·
    intro k a42 w42 hk42 h
    obtain ⟨z42, s1_42, s3_42, s7_42, s8_42, s11_42, s13_42, s14_42, kg11_42, kg13_42, kg3_42, kg7_42, kg8_42, low42⟩ := h
    clear k39 kg11_39 kg3_39 kg7_39 kg8_39 low40 s11_41 s13_41 s14_41 s1_41 s3_41 s7_41 s8_41 z41
    refine c_seq (c_seq (c_region ?_))
    refine l_q rfl (q_move _ _ rfl s14_42.ev ?_)
    refine l_q rfl (q_lss true rfl (At.hit z42 rfl).ev rfl (decide_eq_true (by omega)) ?_)
    refine l_end (e_fresh z42.p2 ?_)
    intro a43 z43 m43
    have s1_43 := m43 _ _ (s1_42.n2)
    have s3_43 := m43 _ _ (s3_42.n2)
    have s7_43 := m43 _ _ (s7_42.n2)
    have s8_43 := m43 _ _ (s8_42.n2)
    have s11_43 := m43 _ _ (s11_42.n2)
    have s13_43 := m43 _ _ (s13_42.n2)
    have s14_43 := m43 _ _ (s14_42.n2)
    have s52_43 := m43 _ _ (At.hit z42.put rfl)
    clear m43
    refine e_then (c_true s52_43 ?_)
    refine wp_skip (e_then (c_seq (wp_block (region_low_tail 10 hm (by kernel_rfl) ?_))))
    simp only [List.take_succ_cons, List.take_zero, List.drop_succ_cons, List.drop_zero]
    refine qs (q_row rfl Tryz.underlying68 rfl (sz68.trans (congrArg some ((nums_size _ _).trans (cl_len (stepsX (expandR s) (differenceR ty K B) (mR c s) stepR 58 k))).symm)) s13_43.ev (fun _ h => h.blk kg13_42) ?_)
    refine qs (q_move _ _ rfl (s14_43.n1).ev ?_)
    refine qs (q_move _ _ rfl (s14_43.n2).ev ?_)
    refine qs (q_idx (j := k + 58) rfl Tryz.underlying65 sz64 (s8_43.n3).ev (At.hit z43.p2 rfl).ev (by omega) ?_)
    refine qs (q_cell (.int .u32 ((expandR s).getD (k + 58) 0)) rfl Tryz.underlying64 (At.hit z43.p3 rfl).ev (fun _ h => nums_cell (h.blk kg8_42) (k + 58) (by rw [(expandR_len s)]; omega)) ?_)
    refine qs (q_move _ _ rfl (s14_43.n5).ev ?_)
    refine qs (q_idx (j := k + 58) rfl Tryz.underlying65 sz64 (s7_43.n6).ev (At.hit z43.p5 rfl).ev (by omega) ?_)
    refine qs (q_cell (.int .u32 ((differenceR ty K B).getD (k + 58) 0)) rfl Tryz.underlying64 (At.hit z43.p6 rfl).ev (fun _ h => nums_cell (h.blk kg7_42) (k + 58) (by rw [(differenceR_len _ _ _)]; omega)) ?_)
    refine q_fresh z43.p8 ?_
    intro a44 z44 m44
    have s1_44 := m44 _ _ (s1_43.n8)
    have s3_44 := m44 _ _ (s3_43.n8)
    have s7_44 := m44 _ _ (s7_43.n8)
    have s8_44 := m44 _ _ (s8_43.n8)
    have s11_44 := m44 _ _ (s11_43.n8)
    have s13_44 := m44 _ _ (s13_43.n8)
    have s14_44 := m44 _ _ (s14_43.n8)
    have s55_44 := m44 _ _ ((At.hit z43 rfl).n7)
    have s56_44 := m44 _ _ ((At.hit z43.put rfl).n6)
    have s59_44 := m44 _ _ ((At.hit z43.p4 rfl).n3)
    have s62_44 := m44 _ _ (At.hit z43.p7 rfl)
    clear m44
    refine qs (q_xor rfl s59_44.ev s62_44.ev ?_)
    refine qs (q_call (.agg (nums .u32 (cl (stepR (stepsX (expandR s) (differenceR ty K B) (mR c s) stepR 58 k) ((k + 58 : Nat) : Int) (Go.bits .xor .u32 ((expandR s).getD (k + 58) 0) ((differenceR ty K B).getD (k + 58) 0)))))) rfl rfl Tryz.func71 rfl (args3 rfl (s55_44.n1).ev (s56_44.n1).ev (At.hit z44 rfl).ev) (fun _ h => (StepR.calls (stepsX (expandR s) (differenceR ty K B) (mR c s) stepR 58 k) ((k + 58 : Nat) : Int) (Go.bits .xor .u32 ((expandR s).getD (k + 58) 0) ((differenceR ty K B).getD (k + 58) 0)) _).mono fun _ _ ⟨e, k⟩ => ⟨e, h.trans k⟩) ?_)
    refine qz ?_
    intro w45 h45
    have kg11_45 := h45.blk kg11_42
    have kg13_45 := h45.blk kg13_42
    have kg3_45 := h45.blk kg3_42
    have kg7_45 := h45.blk kg7_42
    have kg8_45 := h45.blk kg8_42
    refine l_row rfl rfl rfl (sz68.trans (congrArg some ((nums_size _ _).trans (cl_len (stepR (stepsX (expandR s) (differenceR ty K B) (mR c s) stepR 58 k) ((k + 58 : Nat) : Int) (Go.bits .xor .u32 ((expandR s).getD (k + 58) 0) ((differenceR ty K B).getD (k + 58) 0))))).symm)) (s13_44.n2).ev (At.hit z44.put rfl).ev (nums_one _ _) kg13_45 (((nums_size _ _).trans (cl_len (stepsX (expandR s) (differenceR ty K B) (mR c s) stepR 58 k))).trans ((nums_size _ _).trans (cl_len (stepR (stepsX (expandR s) (differenceR ty K B) (mR c s) stepR 58 k) ((k + 58 : Nat) : Int) (Go.bits .xor .u32 ((expandR s).getD (k + 58) 0) ((differenceR ty K B).getD (k + 58) 0))))).symm) ?_
    intro w46 k46 u46
    have kg11_46 := u46.blk kg11_45 (by omega)
    have kg3_46 := u46.blk kg3_45 (by omega)
    have kg7_46 := u46.blk kg7_45 (by omega)
    have kg8_46 := u46.blk kg8_45 (by omega)
    refine l_end (e_fresh z44.p2 ?_)
    intro a47 z47 m47
    have s1_47 := m47 _ _ (s1_44.n2)
    have s3_47 := m47 _ _ (s3_44.n2)
    have s7_47 := m47 _ _ (s7_44.n2)
    have s8_47 := m47 _ _ (s8_44.n2)
    have s11_47 := m47 _ _ (s11_44.n2)
    have s13_47 := m47 _ _ (s13_44.n2)
    have s14_47 := m47 _ _ (s14_44.n2)
    have low47 := ((low42.trans h45).upd u46 geg13)
    clear m47
    refine e_in (e_then (c_region ?_))
    refine l_q rfl (q_move _ _ rfl s14_47.ev ?_)
    refine l_q rfl (q_add (((k + 59 : Nat) : Int)) rfl (At.hit z47 rfl).ev rfl (i64_is (by omega) (by omega) (by omega)) ?_)
    refine l_q rfl (q_assign _ _ rfl (At.hit z47.put rfl).ev ?_)
    refine l_end (e_fresh z47.p3 ?_)
    intro a48 z48 m48
    have s1_48 := m48 _ _ (s1_47.n3)
    have s3_48 := m48 _ _ (s3_47.n3)
    have s7_48 := m48 _ _ (s7_47.n3)
    have s8_48 := m48 _ _ (s8_47.n3)
    have s11_48 := m48 _ _ (s11_47.n3)
    have s13_48 := m48 _ _ (s13_47.n3)
    have s14_48 := m48 _ _ (At.hit z47.p2 rfl)
    clear m48
    exact ⟨z48, s1_48, s3_48, s7_48, s8_48, s11_48, s13_48, (s14_48.same (congrArg (Value.int .i64) (by omega))), kg11_46, k46, kg3_46, kg7_46, kg8_46, low47⟩
   ·
    intro a49 w49 h
    obtain ⟨z49, s1_49, s3_49, s7_49, s8_49, s11_49, s13_49, s14_49, kg11_49, kg13_49, kg3_49, kg7_49, kg8_49, low49⟩ := h
    clear k39 kg11_39 kg3_39 kg7_39 kg8_39 low40 s11_41 s13_41 s14_41 s1_41 s3_41 s7_41 s8_41 z41
    refine c_seq (c_seq (c_region ?_))
    refine l_q rfl (q_move _ _ rfl s14_49.ev ?_)
    refine l_q rfl (q_lss false rfl (At.hit z49 rfl).ev rfl (decide_eq_false (by omega)) ?_)
    refine l_end (e_fresh z49.p2 ?_)
    intro a50 z50 m50
    have s1_50 := m50 _ _ (s1_49.n2)
    have s3_50 := m50 _ _ (s3_49.n2)
    have s7_50 := m50 _ _ (s7_49.n2)
    have s8_50 := m50 _ _ (s8_49.n2)
    have s11_50 := m50 _ _ (s11_49.n2)
    have s13_50 := m50 _ _ (s13_49.n2)
    have s14_50 := m50 _ _ (s14_49.n2)
    have s52_50 := m50 _ _ (At.hit z49.put rfl)
    clear m50
    refine e_then (c_false s52_50 ?_)
    refine wp_exit (x_then (x_then (in_exit (e_then (c_seq (c_region ?_))))))
    refine l_q rfl (q_row rfl Tryz.underlying68 rfl (sz68.trans (congrArg some ((nums_size _ _).trans (cl_len c)).symm)) s3_50.ev (fun _ e => by rw [e]; exact kg3_49) ?_)
    refine l_q rfl (q_move _ _ rfl (s1_50.n1).ev ?_)
    refine l_call (fun v w' => v = .agg (nums .u32 (cl (prR c s))) ∧ Low w49 w') rfl rfl rfl Tryz.func55 rfl (args2 rfl ((At.hit z50 rfl).n1).ev (At.hit z50.put rfl).ev) ((PrR.calls c s (by first | omega | (simp only [ByteArray.size_extract]; omega)) _).mono fun _ _ ⟨e, k⟩ => ⟨_, e, rfl, k⟩) ?_
    rintro _ w51 ⟨rfl, h51⟩
    have kg11_51 := h51.blk kg11_49
    have kg13_51 := h51.blk kg13_49
    have kg3_51 := h51.blk kg3_49
    have kg7_51 := h51.blk kg7_49
    have kg8_51 := h51.blk kg8_49
    refine l_alloc rfl rfl zero68 ?_
    intro g15 w52 hg52 k52 h52
    have lt_g11_g15 := Nat.lt_of_lt_of_le (heap_lt kg11_51) hg52
    have lt_g13_g15 := Nat.lt_of_lt_of_le (heap_lt kg13_51) hg52
    have lt_g3_g15 := Nat.lt_of_lt_of_le (heap_lt kg3_51) hg52
    have lt_g7_g15 := Nat.lt_of_lt_of_le (heap_lt kg7_51) hg52
    have lt_g8_g15 := Nat.lt_of_lt_of_le (heap_lt kg8_51) hg52
    have geg15 := Nat.le_trans (low49.trans h51).ge hg52
    have kg11_52 := h52.blk kg11_51
    have kg13_52 := h52.blk kg13_51
    have kg3_52 := h52.blk kg3_51
    have kg7_52 := h52.blk kg7_51
    have kg8_52 := h52.blk kg8_51
    refine l_row rfl rfl rfl (sz68.trans (congrArg some ((nums_size _ _).trans (cl_len (prR c s))).symm)) (At.hit z50.p3 rfl).ev ((At.hit z50.p2 rfl).n1).ev (nums_one _ _) k52 (((nums_size _ _).trans (List.length_replicate)).trans ((nums_size _ _).trans (cl_len (prR c s))).symm) ?_
    intro w53 k53 u53
    have kg11_53 := u53.blk kg11_52 (by omega)
    have kg13_53 := u53.blk kg13_52 (by omega)
    have kg3_53 := u53.blk kg3_52 (by omega)
    have kg7_53 := u53.blk kg7_52 (by omega)
    have kg8_53 := u53.blk kg8_52 (by omega)
    refine l_end (e_fresh z50.p4 ?_)
    intro a54 z54 m54
    have s11_54 := m54 _ _ (s11_50.n4)
    have s13_54 := m54 _ _ (s13_50.n4)
    have s15_54 := m54 _ _ (At.hit z50.p3 rfl)
    have low54 := (((low49.trans h51).trans h52).upd u53 geg15)
    clear m54
    refine e_then (c_seq (c_seq (c_region ?_)))
    refine l_q rfl (q_assign _ _ rfl rfl ?_)
    refine l_end (e_fresh z54.put ?_)
    intro a55 z55 m55
    have s11_55 := m55 _ _ (s11_54.n1)
    have s13_55 := m55 _ _ (s13_54.n1)
    have s15_55 := m55 _ _ (s15_54.n1)
    have s16_55 := m55 _ _ (At.hit z54 rfl)
    clear m55
    refine e_then (wp_block (c_loop j (fun k a w => Fr 83 a ∧ At a 11 (.pointer (some ⟨g11, 0, none⟩)) ∧ At a 13 (.pointer (some ⟨g13, 0, none⟩)) ∧ At a 15 (.pointer (some ⟨g15, 0, none⟩)) ∧ At a 16 (.int .i64 ((k : Nat) : Int)) ∧ w.heap[g11]? = some (.cells (nums .u32 (cl (backX (expandR s) (differenceR ty K B) (mR c s) backR 58))) 68) ∧ w.heap[g13]? = some (.cells (nums .u32 (cl (stepsX (expandR s) (differenceR ty K B) (mR c s) stepR 58 22))) 68) ∧ w.heap[g15]? = some (.cells (nums .u32 (cl (prR c s))) 68) ∧ Low w0 w) ?_ ?_ ?_))
    ·
     exact ⟨z55, s11_55, s13_55, s15_55, s16_55, kg11_53, kg13_53, k53, low54⟩
    ·
     intro k a56 w56 hk56 h
     obtain ⟨z56, s11_56, s13_56, s15_56, s16_56, kg11_56, kg13_56, kg15_56, low56⟩ := h
     clear k53 kg11_53 kg13_53 low54 s11_55 s13_55 s15_55 s16_55 z55
     refine c_seq (c_seq (c_region ?_))
     refine l_q rfl (q_move _ _ rfl s16_56.ev ?_)
     refine l_q rfl (q_lss true rfl (At.hit z56 rfl).ev rfl (decide_eq_true (by omega)) ?_)
     refine l_end (e_fresh z56.p2 ?_)
     intro a57 z57 m57
     have s11_57 := m57 _ _ (s11_56.n2)
     have s13_57 := m57 _ _ (s13_56.n2)
     have s15_57 := m57 _ _ (s15_56.n2)
     have s16_57 := m57 _ _ (s16_56.n2)
     have s69_57 := m57 _ _ (At.hit z56.put rfl)
     clear m57
     refine e_then (c_true s69_57 ?_)
     refine wp_skip (e_then (c_seq (wp_block (c_seq (region_low hm (by kernel_rfl) ?_)))))
     refine qs (q_move _ _ rfl s16_57.ev ?_)
     refine qs (q_idx (j := k) rfl Tryz.underlying68 sz64 (s11_57.n1).ev (At.hit z57 rfl).ev (by omega) ?_)
     refine qs (q_cell (.int .u32 ((cl (backX (expandR s) (differenceR ty K B) (mR c s) backR 58)).getD k 0)) rfl Tryz.underlying64 (At.hit z57.put rfl).ev (fun _ h => nums_cell (h.blk kg11_56) k (by rw [(cl_len (backX (expandR s) (differenceR ty K B) (mR c s) backR 58))]; omega)) ?_)
     refine qs (q_move _ _ rfl (s16_57.n3).ev ?_)
     refine qs (q_idx (j := k) rfl Tryz.underlying68 sz64 (s13_57.n4).ev (At.hit z57.p3 rfl).ev (by omega) ?_)
     refine qs (q_cell (.int .u32 ((cl (stepsX (expandR s) (differenceR ty K B) (mR c s) stepR 58 22)).getD k 0)) rfl Tryz.underlying64 (At.hit z57.p4 rfl).ev (fun _ h => nums_cell (h.blk kg13_56) k (by rw [(cl_len (stepsX (expandR s) (differenceR ty K B) (mR c s) stepR 58 22))]; omega)) ?_)
     refine qs (q_add _ rfl ((At.hit z57.p2 rfl).n3).ev (At.hit z57.p5 rfl).ev rfl ?_)
     refine qs (q_move _ _ rfl (s16_57.n7).ev ?_)
     refine q_fresh z57.p8 ?_
     intro a58 z58 m58
     have s11_58 := m58 _ _ (s11_57.n8)
     have s13_58 := m58 _ _ (s13_57.n8)
     have s15_58 := m58 _ _ (s15_57.n8)
     have s16_58 := m58 _ _ (s16_57.n8)
     have s78_58 := m58 _ _ ((At.hit z57.p6 rfl).n1)
     have s79_58 := m58 _ _ (At.hit z57.p7 rfl)
     clear m58
     refine qs (q_idx (j := k) rfl Tryz.underlying68 sz64 s15_58.ev s79_58.ev (by omega) ?_)
     refine qs (q_cell (.int .u32 ((cl (prR c s)).getD k 0)) rfl Tryz.underlying64 (At.hit z58 rfl).ev (fun _ h => nums_cell (h.blk kg15_56) k (by rw [(cl_len (prR c s))]; omega)) ?_)
     refine qs (q_neq false rfl (s78_58.n2).ev (At.hit z58.put rfl).ev (decide_eq_false (not_not_intro (hall k (by omega)))) ?_)
     refine qz ?_
     intro w59 h59
     have kg11_59 := h59.blk kg11_56
     have kg13_59 := h59.blk kg13_56
     have kg15_59 := h59.blk kg15_56
     refine e_id (e_fresh z58.p3 ?_)
     intro a60 z60 m60
     have s11_60 := m60 _ _ (s11_58.n3)
     have s13_60 := m60 _ _ (s13_58.n3)
     have s15_60 := m60 _ _ (s15_58.n3)
     have s16_60 := m60 _ _ (s16_58.n3)
     have s82_60 := m60 _ _ (At.hit z58.p2 rfl)
     have low60 := (low56.trans h59)
     clear m60
     refine e_then (c_false s82_60 ?_)
     refine wp_skip (e_in (e_then (c_region ?_)))
     refine l_q rfl (q_move _ _ rfl s16_60.ev ?_)
     refine l_q rfl (q_add (((k + 1 : Nat) : Int)) rfl (At.hit z60 rfl).ev rfl (i64_is (by omega) (by omega) (by omega)) ?_)
     refine l_q rfl (q_assign _ _ rfl (At.hit z60.put rfl).ev ?_)
     refine l_end (e_fresh z60.p3 ?_)
     intro a61 z61 m61
     have s11_61 := m61 _ _ (s11_60.n3)
     have s13_61 := m61 _ _ (s13_60.n3)
     have s15_61 := m61 _ _ (s15_60.n3)
     have s16_61 := m61 _ _ (At.hit z60.p2 rfl)
     clear m61
     exact ⟨z61, s11_61, s13_61, s15_61, s16_61, kg11_59, kg13_59, kg15_59, low60⟩
    ·
     intro a62 w62 h
     obtain ⟨z62, s11_62, s13_62, s15_62, s16_62, kg11_62, kg13_62, kg15_62, low62⟩ := h
     clear k53 kg11_53 kg13_53 low54 s11_55 s13_55 s15_55 s16_55 z55
     refine c_seq (c_seq (c_region ?_))
     refine l_q rfl (q_move _ _ rfl s16_62.ev ?_)
     refine l_q rfl (q_lss true rfl (At.hit z62 rfl).ev rfl (decide_eq_true (by omega)) ?_)
     refine l_end (e_fresh z62.p2 ?_)
     intro a63 z63 m63
     have s11_63 := m63 _ _ (s11_62.n2)
     have s13_63 := m63 _ _ (s13_62.n2)
     have s15_63 := m63 _ _ (s15_62.n2)
     have s16_63 := m63 _ _ (s16_62.n2)
     have s69_63 := m63 _ _ (At.hit z62.put rfl)
     clear m63
     refine e_then (c_true s69_63 ?_)
     refine wp_skip (e_then (c_seq (wp_block (c_seq (region_low hm (by kernel_rfl) ?_)))))
     refine qs (q_move _ _ rfl s16_63.ev ?_)
     refine qs (q_idx (j := j) rfl Tryz.underlying68 sz64 (s11_63.n1).ev (At.hit z63 rfl).ev (by omega) ?_)
     refine qs (q_cell (.int .u32 ((cl (backX (expandR s) (differenceR ty K B) (mR c s) backR 58)).getD j 0)) rfl Tryz.underlying64 (At.hit z63.put rfl).ev (fun _ h => nums_cell (h.blk kg11_62) j (by rw [(cl_len (backX (expandR s) (differenceR ty K B) (mR c s) backR 58))]; omega)) ?_)
     refine qs (q_move _ _ rfl (s16_63.n3).ev ?_)
     refine qs (q_idx (j := j) rfl Tryz.underlying68 sz64 (s13_63.n4).ev (At.hit z63.p3 rfl).ev (by omega) ?_)
     refine qs (q_cell (.int .u32 ((cl (stepsX (expandR s) (differenceR ty K B) (mR c s) stepR 58 22)).getD j 0)) rfl Tryz.underlying64 (At.hit z63.p4 rfl).ev (fun _ h => nums_cell (h.blk kg13_62) j (by rw [(cl_len (stepsX (expandR s) (differenceR ty K B) (mR c s) stepR 58 22))]; omega)) ?_)
     refine qs (q_add _ rfl ((At.hit z63.p2 rfl).n3).ev (At.hit z63.p5 rfl).ev rfl ?_)
     refine qs (q_move _ _ rfl (s16_63.n7).ev ?_)
     refine q_fresh z63.p8 ?_
     intro a64 z64 m64
     have s15_64 := m64 _ _ (s15_63.n8)
     have s16_64 := m64 _ _ (s16_63.n8)
     have s78_64 := m64 _ _ ((At.hit z63.p6 rfl).n1)
     have s79_64 := m64 _ _ (At.hit z63.p7 rfl)
     clear m64
     refine qs (q_idx (j := j) rfl Tryz.underlying68 sz64 s15_64.ev s79_64.ev (by omega) ?_)
     refine qs (q_cell (.int .u32 ((cl (prR c s)).getD j 0)) rfl Tryz.underlying64 (At.hit z64 rfl).ev (fun _ h => nums_cell (h.blk kg15_62) j (by rw [(cl_len (prR c s))]; omega)) ?_)
     refine qs (q_neq true rfl (s78_64.n2).ev (At.hit z64.put rfl).ev (decide_eq_true hbad) ?_)
     refine qz ?_
     intro w65 h65
     have kg11_65 := h65.blk kg11_62
     have kg13_65 := h65.blk kg13_62
     have kg15_65 := h65.blk kg15_62
     refine e_id (e_fresh z64.p3 ?_)
     intro a66 z66 m66
     have s16_66 := m66 _ _ (s16_64.n3)
     have s82_66 := m66 _ _ (At.hit z64.p2 rfl)
     have low66 := (low62.trans h65)
     clear m66
     refine e_then (c_true s82_66 ?_)
     refine c_seq (c_region ?_)
     refine l_q rfl (q_assign _ _ rfl rfl ?_)
     refine l_end (e_fresh z66.put ?_)
     intro a67 z67 m67
     have s6_67 := m67 _ _ (At.hit z66 rfl)
     clear m67
     refine e_then (wp_ret (ret_in (ret_then (ret_then (ret_in (ret_then (r_tmp rfl z67.defers s6_67 ?_)))))))
     exact ⟨by rw [markedR_fail c s ty K B j hj hbad]; rfl, low66⟩
theorem MarkedR.calls (c : Ch) (s : ByteArray) (hs : s.size ≤ 9223372036854775807) (ty K B : Int) (hok : okV ty K B = true) (w0 : World) : Calls Tryz.prog 54 #[.agg (nums .u32 (cl c)), .string s, .agg #[.int .i64 ty, .int .i64 K, .int .i64 B]] w0 fun e w' => e = .returned (.bool (markedR c s ty K B)) ∧ Low w0 w' := by
  by_cases hd : differenceR ty K B = List.replicate 80 0
  · exact MarkedR_no.calls c s hs ty K B hok hd w0
  · rcases least_not (endsR c s (differenceR ty K B)) 5 with h | ⟨j, h1, h2, h3⟩
    · exact MarkedR_all.calls c s hs ty K B hok hd h w0
    · exact MarkedR_fail.calls c s hs ty K B hok hd j h1 h2 h3 w0
end Go.Proofs.YtfjhnnpdaggnbaaGreatDoor.Q
end
/-! S0 -/
section
namespace Go.Proofs.YtfjhnnpdaggnbaaGreatDoor.Q
open Go.RowKit Go.Proofs.YtfjhnnpdaggnbaaGreatDoor.P
open Go.Proofs.YtfjhnnpdaggnbaaGreatDoorW.PrintWords (bytesOf bytesOf_length)
set_option maxRecDepth 100000
set_option maxHeartbeats 4000000
/-- a State's cells -/
def stC (c : Ch) (v : Value) (n : Int) : Array Value := #[.int .u32 c.1, .int .u32 c.2.1, .int .u32 c.2.2.1, .int .u32 c.2.2.2.1, .int .u32 c.2.2.2.2, v, .int .u64 n]
/-- a block of a list of bytes, and the chain behind the first k of them -/
def blk (L : List Int) (k : Nat) : ByteArray := strOfNums ((L.drop (64 * k)).take 64)
def chB (c : Ch) (L : List Int) : Nat → Ch
  | 0 => c
  | k + 1 => prL (chB c L k) (blk L k)
theorem drop_next (L : List Int) (k : Nat) : (L.drop (64 * k)).drop 64 = L.drop (64 * (k + 1)) := by
  rw [List.drop_drop]
  congr 1
theorem dropL_len {l : List Int} {x : ByteArray} {m : Nat} (hm : l.length = m) (k : Nat) : ((l ++ bytesOf x).drop (64 * k)).length = m + x.size - 64 * k := by
  rw [List.length_drop, List.length_append, bytesOf_length, hm]
theorem blk_size (L : List Int) (k : Nat) : (blk L k).size ≤ 64 := by
  rw [blk, strOfNums_size, List.length_take]
  omega
theorem made_128 : madeCells #[.int .u8 0] 128 = nums .u8 (List.replicate 128 0) := by kernel_rfl
theorem str9 : strE Tryz.prog 9 = true := by kernel_rfl
theorem built_new (c : Ch) : Tryz.prog.built 116 [(0, .agg (nums .u32 (cl c)))] = some (stC c (.slice none 0 0) 0) := by kernel_rfl
theorem built_copy (c : Ch) (A : Option Addr) (l cap : Nat) (n : Int) : Tryz.prog.built 116 [(0, .agg (nums .u32 (cl c))), (1, .slice A l cap), (2, .int .u64 n)] = some (stC c (.slice A l cap) n) := by kernel_rfl
end Go.Proofs.YtfjhnnpdaggnbaaGreatDoor.Q
end
/-! S1 -/
section
namespace Go.Proofs.YtfjhnnpdaggnbaaGreatDoor.Q
open Go.Proofs.YtfjhnnpdaggnbaaGreatDoorW.PrintWords (bytesOf bytesOf_length)
open Go.RowKit Go.Proofs.YtfjhnnpdaggnbaaGreatDoor.P
set_option linter.unusedVariables false
set_option linter.unusedSimpArgs false
set_option maxRecDepth 100000
set_option maxHeartbeats 4000000
attribute [local irreducible] wpList wpQuiet qch Code.wp Oper.quiet Act.put At Region.wanted yielded
theorem sz9 : (Tryz.prog.info? 9).map (·.size) = some 1 := by kernel_rfl
theorem sz54 : (Tryz.prog.info? 54).map (·.size) = some 1 := by kernel_rfl
theorem sz87 : (Tryz.prog.info? 87).map (·.size) = some 1 := by kernel_rfl
theorem sz5 : (Tryz.prog.info? 5).map (·.size) = some 1 := by kernel_rfl
theorem info5 : (Tryz.prog.info? 5).isSome = true := by kernel_rfl
theorem New.calls (w0 : World) : Calls Tryz.prog 66 #[] w0 fun e w' => ∃ v, e = .returned v ∧ ∃ g, v = .pointer (some ⟨g, 0, none⟩) ∧ w0.heap.size ≤ g ∧ w'.heap[g]? = some (.cells (stC first (.slice none 0 0) 0) 116) ∧ Low w0 w' := by
 refine c_fun (R := _) Tryz.func66 rfl 4 rfl (Nat.le_of_ble_eq_true rfl) ?_
 intro a z hA
 clear hA
 refine c_seq (c_region ?_)
 refine l_q rfl (q_assign _ _ rfl rfl ?_)
 refine l_end (e_fresh z.put ?_)
 intro a1 z1 m1
 clear m1
 refine e_then (c_seq (c_region (l_call (fun v w' => v = .agg (nums .u32 (cl first)) ∧ Low w0 w') rfl rfl rfl Tryz.func43 rfl (show Array.map _ _ = (#[] : Array Value) from by simp) ((FirstL.calls _).mono fun _ _ ⟨e, k⟩ => ⟨_, e, rfl, k⟩) ?_)))
 rintro _ w2 ⟨rfl, h2⟩
 refine l_q rfl (q_build rfl (parts1 (At.hit z1 rfl).ev) (built_new first) ?_)
 refine l_box rfl rfl (At.hit z1.put rfl).ev ?_
 intro g3 w3 hg3 k3 h3
 have geg3 := Nat.le_trans h2.ge hg3
 refine l_q rfl (q_assign _ _ rfl (At.hit z1.p2 rfl).ev ?_)
 refine l_end (e_fresh z1.p4 ?_)
 intro a4 z4 m4
 have s0_4 := m4 _ _ (At.hit z1.p3 rfl)
 have low4 := (h2.trans h3)
 clear m4
 refine e_then (wp_ret (r_tmp rfl z4.defers s0_4 ?_))
 exact ⟨_, rfl, _, rfl, geg3, k3, low4⟩
theorem Write.calls (c : Ch) (v : Value) (l : List Int) (m : Nat) (hlm : l.length = m) (hm6 : m < 64) (n : Int) (x : ByteArray) (hx : x.size ≤ 140737488350000) (gs gp : Nat) (hne : gp ≠ gs) (w0 wi : World) (low : Low w0 wi) (hge : w0.heap.size ≤ gs) (ks : wi.heap[gs]? = some (.cells (stC c v n) 116)) (kp : wi.heap[gp]? = some (.cells #[.string x] 9)) (own : OwnB wi w0.heap.size 5 v l) : Calls Tryz.prog 67 #[.pointer (some ⟨gs, 0, none⟩), .slice (some ⟨gp, 0, none⟩) 1 1] wi fun e w' => ∃ v', e = .returned v' ∧ ∃ u, w'.heap[gs]? = some (.cells (stC (chB c (l ++ bytesOf x) ((m + x.size) / 64)) u (IntKind.u64.wrap (n + IntKind.u64.wrap ((x.size : Nat) : Int)))) 116) ∧ RdE w' 5 u ((l ++ bytesOf x).drop (64 * ((m + x.size) / 64))) ∧ Low w0 w' := by
 refine c_fun (R := _) Tryz.func67 rfl 60 rfl (Nat.le_of_ble_eq_true rfl) ?_
 intro a z hA
 have s0 := hA 0 _ rfl
 have s1 := hA 1 _ rfl
 clear hA
 refine c_seq (c_region ?_)
 refine l_q rfl (q_move _ _ rfl s1.ev ?_)
 refine l_q rfl (q_lenL rfl rfl Tryz.underlying51 (At.hit z rfl).ev ?_)
 refine l_q rfl (q_move _ _ rfl rfl ?_)
 refine l_end (e_fresh z.p3 ?_)
 intro a1 z1 m1
 have s0_1 := m1 _ _ (s0.n3)
 have s6_1 := m1 _ _ ((At.hit z rfl).n2)
 have s7_1 := m1 _ _ ((At.hit z.put rfl).n1)
 have s8_1 := m1 _ _ (At.hit z.p2 rfl)
 have low1 := low
 clear m1
 refine e_then (wp_block (c_loop 1 (fun k a w => match k with | 0 => a = a1 ∧ w = wi | _ + 1 => ∃ vgs : Value, Fr 60 a ∧ At a 0 (.pointer (some ⟨gs, 0, none⟩)) ∧ At a 6 (.slice (some ⟨gp, 0, none⟩) 1 1) ∧ At a 7 (.int .i64 1) ∧ At a 8 (.int .i64 1) ∧ w.heap[gp]? = some (.cells (#[.string x]) 9) ∧ w.heap[gs]? = some (.cells (stC (chB c (l ++ bytesOf x) ((m + x.size) / 64)) vgs (IntKind.u64.wrap (n + IntKind.u64.wrap ((x.size : Nat) : Int)))) 116) ∧ RdE w 5 vgs ((l ++ bytesOf x).drop (64 * ((m + x.size) / 64))) ∧ Low w0 w) ?_ ?_ ?_))
 ·
  exact ⟨rfl, rfl⟩
 ·
  intro k a w hk h
  obtain rfl : k = 0 := by omega
  obtain ⟨ha, hw⟩ := h
  rw [ha, hw]
  clear ha hw a w hk
  refine c_seq (c_region ?_)
  refine l_q rfl (q_lss true rfl s8_1.ev s7_1.ev (decide_eq_true (by omega)) ?_)
  refine l_end (e_fresh z1.put ?_)
  intro a3 z3 m3
  have s0_3 := m3 _ _ (s0_1.n1)
  have s6_3 := m3 _ _ (s6_1.n1)
  have s7_3 := m3 _ _ (s7_1.n1)
  have s8_3 := m3 _ _ (s8_1.n1)
  have s9_3 := m3 _ _ (At.hit z1 rfl)
  clear m3
  refine e_then (c_seq (c_true s9_3 ?_))
  refine wp_skip (e_then (c_seq (wp_block (c_seq (c_region ?_)))))
  refine l_q rfl (q_idxS0 (j := 0) rfl Tryz.underlying51 sz9 s6_3.ev s8_3.ev (by omega) ?_)
  refine l_q rfl (q_cellT (.string x) rfl Tryz.underlying9 (At.hit z3 rfl).ev (fun _ e => by rw [e]; exact (cells_at kp 0).trans rfl) ?_)
  refine l_q rfl (q_assign _ _ rfl (At.hit z3.put rfl).ev ?_)
  refine l_end (e_fresh z3.p3 ?_)
  intro a4 z4 m4
  have s0_4 := m4 _ _ (s0_3.n3)
  have s5_4 := m4 _ _ (At.hit z3.p2 rfl)
  have s6_4 := m4 _ _ (s6_3.n3)
  have s7_4 := m4 _ _ (s7_3.n3)
  have s8_4 := m4 _ _ (s8_3.n3)
  clear m4
  refine e_then (c_seq (c_region ?_))
  refine l_q rfl (q_move _ _ rfl s0_4.ev ?_)
  refine l_q rfl (q_nil rfl (At.hit z4 rfl).ev ?_)
  refine l_q rfl (q_fld 6 rfl (by kernel_rfl) (At.hit z4.put rfl).ev ?_)
  refine l_q rfl (q_cell (.int .u64 n) rfl Tryz.underlying87 (At.hit z4.p2 rfl).ev (fun _ e => by rw [e]; exact (cells_at ks 6).trans rfl) ?_)
  refine l_q rfl (q_move _ _ rfl (s5_4.n4).ev ?_)
  refine l_q rfl (q_len rfl rfl Tryz.underlying9 (At.hit z4.p4 rfl).ev ?_)
  refine l_q rfl (q_conv _ rfl (At.hit z4.p5 rfl).ev Tryz.underlying3 Tryz.underlying87 rfl ?_)
  refine l_q rfl (q_add _ rfl ((At.hit z4.p3 rfl).n3).ev (At.hit z4.p6 rfl).ev rfl ?_)
  refine l_fresh z4.p8 ?_
  intro a5 z5 m5
  have s0_5 := m5 _ _ (s0_4.n8)
  have s5_5 := m5 _ _ (s5_4.n8)
  have s6_5 := m5 _ _ (s6_4.n8)
  have s7_5 := m5 _ _ (s7_4.n8)
  have s8_5 := m5 _ _ (s8_4.n8)
  have s12_5 := m5 _ _ ((At.hit z4 rfl).n7)
  have s19_5 := m5 _ _ (At.hit z4.p7 rfl)
  clear m5
  refine l_q rfl (q_nil rfl s12_5.ev ?_)
  refine l_q rfl (q_fld 6 rfl (by kernel_rfl) (At.hit z5 rfl).ev ?_)
  refine l_cell (j := 6) rfl rfl rfl sz87 (At.hit z5.put rfl).ev (s19_5.n2).ev rfl ks (Nat.le_of_ble_eq_true rfl) ?_
  intro w6 k6 u6
  replace k6 : w6.heap[gs]? = some (.cells (stC c v (IntKind.u64.wrap (n + (IntKind.u64.wrap ((x.size : Nat) : Int))))) 116) := k6
  have or_6 := own.upd u6 ks rfl
  have kgp_6 := u6.blk kp (by omega)
  refine l_end (e_fresh z5.p2 ?_)
  intro a7 z7 m7
  have s0_7 := m7 _ _ (s0_5.n2)
  have s5_7 := m7 _ _ (s5_5.n2)
  have s6_7 := m7 _ _ (s6_5.n2)
  have s7_7 := m7 _ _ (s7_5.n2)
  have s8_7 := m7 _ _ (s8_5.n2)
  have low7 := (low1.upd u6 hge)
  clear m7
  refine e_then (c_seq (c_region ?_))
  refine l_q rfl (q_move _ _ rfl s0_7.ev ?_)
  refine l_q rfl (q_move _ _ rfl (s0_7.n1).ev ?_)
  refine l_q rfl (q_nil rfl (At.hit z7.put rfl).ev ?_)
  refine l_q rfl (q_fld 5 rfl (by kernel_rfl) (At.hit z7.p2 rfl).ev ?_)
  refine l_q rfl (q_cellS (v) rfl Tryz.underlying54 (At.hit z7.p3 rfl).ev (fun _ e => by rw [e]; exact (cells_at k6 5).trans rfl) ?_)
  refine l_q rfl (q_move _ _ rfl (s5_7.n5).ev ?_)
  refine l_appS (B := w0.heap.size) rfl rfl Tryz.underlying54 Tryz.underlying9 byte5 ((At.hit z7.p4 rfl).n1).ev (At.hit z7.p5 rfl).ev or_6 low7.ge (by rw [hlm]; omega) ?_
  intro v8 w8 o8 gr8
  have kgs_8 := gr8.blk k6 rfl
  have kgp_8 := gr8.blk kgp_6 rfl
  have lw8 := low7.gr gr8
  refine l_q rfl (q_nil rfl ((At.hit z7 rfl).n6).ev ?_)
  refine l_fresh z7.p8 ?_
  intro a9 z9 m9
  have s0_9 := m9 _ _ (s0_7.n8)
  have s6_9 := m9 _ _ (s6_7.n8)
  have s7_9 := m9 _ _ (s7_7.n8)
  have s8_9 := m9 _ _ (s8_7.n8)
  have s28_9 := m9 _ _ ((At.hit z7.p6 rfl).n1)
  have s29_9 := m9 _ _ (At.hit z7.p7 rfl)
  clear m9
  refine l_q rfl (q_fld 5 rfl (by kernel_rfl) s29_9.ev ?_)
  refine l_cell (j := 5) rfl rfl rfl sz54 (At.hit z9 rfl).ev (s28_9.n1).ev (o8).one kgs_8 (Nat.le_of_ble_eq_true rfl) ?_
  intro w10 k10 u10
  replace k10 : w10.heap[gs]? = some (.cells (stC c v8 (IntKind.u64.wrap (n + (IntKind.u64.wrap ((x.size : Nat) : Int))))) 116) := k10
  have ob8_10 := o8.upd u10 kgs_8 rfl
  have kgp_10 := u10.blk kgp_8 (by omega)
  refine l_end (e_fresh z9.put ?_)
  intro a11 z11 m11
  have s0_11 := m11 _ _ (s0_9.n1)
  have s6_11 := m11 _ _ (s6_9.n1)
  have s7_11 := m11 _ _ (s7_9.n1)
  have s8_11 := m11 _ _ (s8_9.n1)
  have low11 := (lw8.upd u10 hge)
  clear m11
  refine e_then (wp_block (c_loop ((m + x.size) / 64) (fun k a w => ∃ vgs : Value, Fr 60 a ∧ At a 0 (.pointer (some ⟨gs, 0, none⟩)) ∧ At a 6 (.slice (some ⟨gp, 0, none⟩) 1 1) ∧ At a 7 (.int .i64 1) ∧ At a 8 (.int .i64 0) ∧ w.heap[gp]? = some (.cells (#[.string x]) 9) ∧ w.heap[gs]? = some (.cells (stC (chB c (l ++ bytesOf x) k) vgs (IntKind.u64.wrap (n + IntKind.u64.wrap ((x.size : Nat) : Int)))) 116) ∧ RdE w 5 vgs ((l ++ bytesOf x).drop (64 * k)) ∧ Low w0 w) ?_ ?_ ?_))
  ·
   exact ⟨v8, z11, s0_11, s6_11, s7_11, s8_11, kgp_10, k10, (ob8_10.rdE), low11⟩
  ·
   intro k a12 w12 hk12 h
   obtain ⟨vgs_12, z12, s0_12, s6_12, s7_12, s8_12, kgp_12, kgs_12, oxgs_12, low12⟩ := h
   clear k10 kgp_10 low11 s0_11 s6_11 s7_11 s8_11 z11
   refine c_seq (c_seq (c_region ?_))
   refine l_q rfl (q_move _ _ rfl s0_12.ev ?_)
   refine l_q rfl (q_nil rfl (At.hit z12 rfl).ev ?_)
   refine l_q rfl (q_fld 5 rfl (by kernel_rfl) (At.hit z12.put rfl).ev ?_)
   refine l_q rfl (q_cellS (vgs_12) rfl Tryz.underlying54 (At.hit z12.p2 rfl).ev (fun _ e => by rw [e]; exact (cells_at kgs_12 5).trans rfl) ?_)
   refine l_q rfl (q_lenR rfl rfl Tryz.underlying54 (At.hit z12.p3 rfl).ev (oxgs_12).1 ((m + x.size) - 64 * k) ((dropL_len hlm k).trans (by omega)) ?_)
   refine l_q rfl (q_geq true rfl (At.hit z12.p4 rfl).ev rfl (decide_eq_true (by omega)) ?_)
   refine l_end (e_fresh z12.p6 ?_)
   intro a13 z13 m13
   have s0_13 := m13 _ _ (s0_12.n6)
   have s6_13 := m13 _ _ (s6_12.n6)
   have s7_13 := m13 _ _ (s7_12.n6)
   have s8_13 := m13 _ _ (s8_12.n6)
   have s36_13 := m13 _ _ (At.hit z12.p5 rfl)
   clear m13
   refine e_then (c_true s36_13 ?_)
   refine wp_skip (e_then (wp_block (c_seq (region_low_tail 14 hm (by kernel_rfl) ?_))))
   simp only [List.take_succ_cons, List.take_zero, List.drop_succ_cons, List.drop_zero]
   refine qs (q_move _ _ rfl s0_13.ev ?_)
   refine qs (q_move _ _ rfl (s0_13.n1).ev ?_)
   refine qs (q_nil rfl (At.hit z13.put rfl).ev ?_)
   refine qs (q_fld 0 rfl (by kernel_rfl) (At.hit z13.p2 rfl).ev ?_)
   refine qs (q_mid (vs := nums .u32 (cl (chB c (l ++ bytesOf x) k))) rfl Tryz.underlying69 rfl sz69 (At.hit z13.p3 rfl).ev (fun _ h => h.blk kgs_12) rfl ?_)
   refine qs (q_move _ _ rfl (s0_13.n5).ev ?_)
   refine qs (q_nil rfl (At.hit z13.p5 rfl).ev ?_)
   refine qs (q_fld 5 rfl (by kernel_rfl) (At.hit z13.p6 rfl).ev ?_)
   refine q_fresh z13.p8 ?_
   intro a14 z14 m14
   have s0_14 := m14 _ _ (s0_13.n8)
   have s6_14 := m14 _ _ (s6_13.n8)
   have s7_14 := m14 _ _ (s7_13.n8)
   have s8_14 := m14 _ _ (s8_13.n8)
   have s37_14 := m14 _ _ ((At.hit z13 rfl).n7)
   have s41_14 := m14 _ _ ((At.hit z13.p4 rfl).n3)
   have s44_14 := m14 _ _ (At.hit z13.p7 rfl)
   clear m14
   refine qs (q_cellS (vgs_12) rfl Tryz.underlying54 s44_14.ev (fun _ h => (cells_at (h.blk kgs_12) 5).trans rfl) ?_)
   refine qs (q_to (i := 64) rfl Tryz.underlying54 sz5 (At.hit z14 rfl).ev rfl (oxgs_12.1) (by rw [(dropL_len hlm k)]; omega) ?_)
   refine qs (q_strR rfl Tryz.underlying54 Tryz.underlying5 Tryz.underlying9 (At.hit z14.put rfl).ev (fun _ h => (RdE.low (RdE.to oxgs_12 64 (by rw [(dropL_len hlm k)]; omega)) h).1) ?_)
   refine qs (q_call (.agg (nums .u32 (cl (prL (chB c (l ++ bytesOf x) k) (strOfNums (((l ++ bytesOf x).drop (64 * k)).take 64)))))) rfl rfl Tryz.func47 rfl (args2 rfl (s41_14.n3).ev (At.hit z14.p2 rfl).ev) (fun _ h => (PrL.calls (chB c (l ++ bytesOf x) k) (strOfNums (((l ++ bytesOf x).drop (64 * k)).take 64)) (Nat.le_trans (blk_size _ _) (by decide)) _).mono fun _ _ ⟨e, k⟩ => ⟨e, h.trans k⟩) ?_)
   refine qs (q_nil rfl (s37_14.n4).ev ?_)
   refine qs (q_fld 0 rfl (by kernel_rfl) (At.hit z14.p4 rfl).ev ?_)
   refine qz ?_
   intro w16 h16
   have kgp_16 := h16.blk kgp_12
   have kgs_16 := h16.blk kgs_12
   have oxgs_16 := oxgs_12.low h16
   have oy15_16 := (RdE.to oxgs_12 64 (by rw [(dropL_len hlm k)]; omega)).low h16
   refine l_mid (vs := nums .u32 (cl (prL (chB c (l ++ bytesOf x) k) (strOfNums (((l ++ bytesOf x).drop (64 * k)).take 64))))) (cs' := stC (prL (chB c (l ++ bytesOf x) k) (strOfNums (((l ++ bytesOf x).drop (64 * k)).take 64))) vgs_12 (IntKind.u64.wrap (n + IntKind.u64.wrap ((x.size : Nat) : Int)))) rfl rfl rfl sz69 (At.hit z14.p5 rfl).ev ((At.hit z14.p3 rfl).n2).ev (nums_one _ _) kgs_16 (Nat.le_of_ble_eq_true rfl) rfl ?_
   intro w17 k17 u17
   have oxgs_17 := oxgs_16.upd u17 kgs_16 rfl
   have oy15_17 := oy15_16.upd u17 kgs_16 rfl
   have kgp_17 := u17.blk kgp_16 (by omega)
   refine l_end (e_fresh z14.p6 ?_)
   intro a18 z18 m18
   have s0_18 := m18 _ _ (s0_14.n6)
   have s6_18 := m18 _ _ (s6_14.n6)
   have s7_18 := m18 _ _ (s7_14.n6)
   have s8_18 := m18 _ _ (s8_14.n6)
   have low18 := ((low12.trans h16).upd u17 hge)
   clear m18
   refine e_then (c_region ?_)
   refine l_q rfl (q_move _ _ rfl s0_18.ev ?_)
   refine l_q rfl (q_move _ _ rfl (s0_18.n1).ev ?_)
   refine l_q rfl (q_nil rfl (At.hit z18.put rfl).ev ?_)
   refine l_q rfl (q_fld 5 rfl (by kernel_rfl) (At.hit z18.p2 rfl).ev ?_)
   refine l_q rfl (q_cellS (vgs_12) rfl Tryz.underlying54 (At.hit z18.p3 rfl).ev (fun _ e => by rw [e]; exact (cells_at k17 5).trans rfl) ?_)
   refine l_q rfl (q_from (i := 64) rfl Tryz.underlying54 sz5 (At.hit z18.p4 rfl).ev rfl (oxgs_17.1) (by rw [(dropL_len hlm k)]; omega) ?_)
   refine l_q rfl (q_nil rfl ((At.hit z18 rfl).n5).ev ?_)
   refine l_q rfl (q_fld 5 rfl (by kernel_rfl) (At.hit z18.p6 rfl).ev ?_)
   refine l_fresh z18.p8 ?_
   intro a20 z20 m20
   have s0_20 := m20 _ _ (s0_18.n8)
   have s6_20 := m20 _ _ (s6_18.n8)
   have s7_20 := m20 _ _ (s7_18.n8)
   have s8_20 := m20 _ _ (s8_18.n8)
   have s56_20 := m20 _ _ ((At.hit z18.p5 rfl).n2)
   have s58_20 := m20 _ _ (At.hit z18.p7 rfl)
   clear m20
   refine l_cell (j := 5) rfl rfl rfl sz54 s58_20.ev s56_20.ev ((RdE.from oxgs_17 64 (by rw [(dropL_len hlm k)]; omega))).one k17 (Nat.le_of_ble_eq_true rfl) ?_
   intro w21 k21 u21
   replace k21 : w21.heap[gs]? = some (.cells (stC (prL (chB c (l ++ bytesOf x) k) (strOfNums (((l ++ bytesOf x).drop (64 * k)).take 64))) (sliceFrom vgs_12 64) (IntKind.u64.wrap (n + IntKind.u64.wrap ((x.size : Nat) : Int)))) 116) := k21
   have oxgs_21 := oxgs_17.upd u21 k17 rfl
   have oy19_21 := (RdE.from oxgs_17 64 (by rw [(dropL_len hlm k)]; omega)).upd u21 k17 rfl
   have kgp_21 := u21.blk kgp_17 (by omega)
   refine l_end (e_fresh z20 ?_)
   intro a22 z22 m22
   have s0_22 := m22 _ _ s0_20
   have s6_22 := m22 _ _ s6_20
   have s7_22 := m22 _ _ s7_20
   have s8_22 := m22 _ _ s8_20
   have low22 := (low18.upd u21 hge)
   clear m22
   refine e_in ?_
   exact ⟨(sliceFrom vgs_12 64), z22, s0_22, s6_22, s7_22, s8_22, kgp_21, k21, (oy19_21.cast (drop_next (l ++ bytesOf x) k)), low22⟩
  ·
   intro a23 w23 h
   obtain ⟨vgs_23, z23, s0_23, s6_23, s7_23, s8_23, kgp_23, kgs_23, oxgs_23, low23⟩ := h
   clear k10 kgp_10 low11 s0_11 s6_11 s7_11 s8_11 z11
   refine c_seq (c_seq (c_region ?_))
   refine l_q rfl (q_move _ _ rfl s0_23.ev ?_)
   refine l_q rfl (q_nil rfl (At.hit z23 rfl).ev ?_)
   refine l_q rfl (q_fld 5 rfl (by kernel_rfl) (At.hit z23.put rfl).ev ?_)
   refine l_q rfl (q_cellS (vgs_23) rfl Tryz.underlying54 (At.hit z23.p2 rfl).ev (fun _ e => by rw [e]; exact (cells_at kgs_23 5).trans rfl) ?_)
   refine l_q rfl (q_lenR rfl rfl Tryz.underlying54 (At.hit z23.p3 rfl).ev (oxgs_23).1 ((m + x.size) - 64 * ((m + x.size) / 64)) ((dropL_len hlm ((m + x.size) / 64)).trans (by omega)) ?_)
   refine l_q rfl (q_geq false rfl (At.hit z23.p4 rfl).ev rfl (decide_eq_false (by omega)) ?_)
   refine l_end (e_fresh z23.p6 ?_)
   intro a24 z24 m24
   have s0_24 := m24 _ _ (s0_23.n6)
   have s6_24 := m24 _ _ (s6_23.n6)
   have s7_24 := m24 _ _ (s7_23.n6)
   have s8_24 := m24 _ _ (s8_23.n6)
   have s36_24 := m24 _ _ (At.hit z23.p5 rfl)
   clear m24
   refine e_then (c_false s36_24 ?_)
   refine wp_exit (x_then (x_then (in_exit (e_in (e_then (c_region ?_))))))
   refine l_q rfl (q_add (1) rfl s8_24.ev rfl (i64_is (by omega) (by omega) (by omega)) ?_)
   refine l_q rfl (q_move _ _ rfl (At.hit z24 rfl).ev ?_)
   refine l_end (e_fresh z24.p2 ?_)
   intro a25 z25 m25
   have s0_25 := m25 _ _ (s0_24.n2)
   have s6_25 := m25 _ _ (s6_24.n2)
   have s7_25 := m25 _ _ (s7_24.n2)
   have s8_25 := m25 _ _ (At.hit z24.put rfl)
   clear m25
   exact ⟨vgs_23, z25, s0_25, s6_25, s7_25, s8_25, kgp_23, kgs_23, oxgs_23, low23⟩
 ·
  intro a26 w26 h
  obtain ⟨vgs_26, z26, s0_26, s6_26, s7_26, s8_26, kgp_26, kgs_26, oxgs_26, low26⟩ := h
  clear kp ks own s0_1 s6_1 s7_1 s8_1 z1
  refine c_seq (c_region ?_)
  refine l_q rfl (q_lss false rfl s8_26.ev s7_26.ev (decide_eq_false (by omega)) ?_)
  refine l_end (e_fresh z26.put ?_)
  intro a27 z27 m27
  have s0_27 := m27 _ _ (s0_26.n1)
  have s6_27 := m27 _ _ (s6_26.n1)
  have s8_27 := m27 _ _ (s8_26.n1)
  have s9_27 := m27 _ _ (At.hit z26 rfl)
  clear m27
  refine e_then (c_seq (c_false s9_27 ?_))
  refine wp_exit (x_then (x_then (in_exit (r_none rfl z27.defers ?_))))
  exact ⟨_, rfl, _, kgs_26, oxgs_26, low26⟩
theorem Copy.calls (c : Ch) (v : Value) (l : List Int) (hl : l.length ≤ 140737488350000) (n : Int) (gs : Nat) (w0 : World) (ks : w0.heap[gs]? = some (.cells (stC c v n) 116)) (rd : RdE w0 5 v l) : Calls Tryz.prog 83 #[.pointer (some ⟨gs, 0, none⟩)] w0 fun e w' => ∃ y, e = .returned y ∧ ∃ g u, y = .pointer (some ⟨g, 0, none⟩) ∧ w0.heap.size ≤ g ∧ w'.heap[g]? = some (.cells (stC c u n) 116) ∧ OwnB w' w0.heap.size 5 u l ∧ Low w0 w' := by
 refine c_fun (R := _) Tryz.func83 rfl 18 rfl (Nat.le_of_ble_eq_true rfl) ?_
 intro a z hA
 have s0 := hA 0 _ rfl
 clear hA
 refine c_seq (c_region ?_)
 refine l_q rfl (q_assign _ _ rfl rfl ?_)
 refine l_end (e_fresh z.put ?_)
 intro a1 z1 m1
 have s0_1 := m1 _ _ (s0.n1)
 clear m1
 refine e_then (c_seq (region_some (TL [Is (.pointer (some ⟨gs, 0, none⟩)), Is (.pointer (some ⟨gs, 0, none⟩)), Is (.pointer (some ⟨gs, 0, none⟩)), Is (.agg (nums .u32 (cl c))), Is (.pointer (some ⟨gs, 0, none⟩)), Is (.pointer (some ⟨gs, 0, none⟩)), Is (.pointer (some ⟨gs, 5, none⟩)), Is (v), (fun (u : Value) (w : World) => OwnB w w0.heap.size 5 u l), Is (.pointer (some ⟨gs, 0, none⟩)), Is (.pointer (some ⟨gs, 0, none⟩)), Is (.pointer (some ⟨gs, 6, none⟩)), Is (.int .u64 n), (fun (y : Value) (w : World) => ∃ u, y = Value.agg (stC c u n) ∧ OwnB w w0.heap.size 5 u l), (fun (y : Value) (w : World) => ∃ g u, y = Value.pointer (some ⟨g, 0, none⟩) ∧ w0.heap.size ≤ g ∧ w.heap[g]? = some (.cells (stC c u n) 116) ∧ OwnB w w0.heap.size 5 u l), (fun (y : Value) (w : World) => ∃ g u, y = Value.pointer (some ⟨g, 0, none⟩) ∧ w0.heap.size ≤ g ∧ w.heap[g]? = some (.cells (stC c u n) 116) ∧ OwnB w w0.heap.size 5 u l)]) Low hm (by kernel_rfl) z1 (low_drawn _) (fun _ _ _ h k => Low.trans h k) (TL_cons ?_ (TL_cons ?_ (TL_cons ?_ (TL_cons ?_ (TL_cons ?_ (TL_cons ?_ (TL_cons ?_ (TL_cons ?_ (TL_cons ?_ (TL_cons ?_ (TL_cons ?_ (TL_cons ?_ (TL_cons ?_ (TL_cons ?_ (TL_cons ?_ (TL_cons ?_ TL_nil)))))))))))))))) (allS_cons ?_ (allS_cons ?_ (allS_cons ?_ (allS_cons ?_ (allS_cons ?_ (allS_cons ?_ (allS_cons ?_ (allS_cons ?_ (allS_cons ?_ (allS_cons ?_ (allS_cons ?_ (allS_cons ?_ (allS_cons ?_ (allS_cons ?_ (allS_cons ?_ (allS_cons ?_ allS_nil)))))))))))))))) ?_))
 ·
  exact StL_is _
 ·
  exact StL_is _
 ·
  exact StL_is _
 ·
  exact StL_is _
 ·
  exact StL_is _
 ·
  exact StL_is _
 ·
  exact StL_is _
 ·
  exact StL_is _
 ·
  exact fun _ _ _ h k => OwnB.low h k
 ·
  exact StL_is _
 ·
  exact StL_is _
 ·
  exact StL_is _
 ·
  exact StL_is _
 ·
  exact fun _ _ _ ⟨u, e, o⟩ q => ⟨u, e, o.low q⟩
 ·
  exact fun _ _ _ ⟨g, u, e, h, k, o⟩ q => ⟨g, u, e, h, q.blk k, o.low q⟩
 ·
  exact fun _ _ _ ⟨g, u, e, h, k, o⟩ q => ⟨g, u, e, h, q.blk k, o.low q⟩
 ·
  exact (stepS_val (.pointer (some ⟨gs, 0, none⟩)) _ rfl rfl rfl Low.refl (fun _ => rfl) fun a w z lw kp kn => q_move _ _ rfl (kp _ _ rfl s0_1).ev rfl)
 ·
  exact (stepS_val (.pointer (some ⟨gs, 0, none⟩)) _ rfl rfl rfl Low.refl (fun _ => rfl) fun a w z lw kp kn => q_nil rfl (at_is (u := .pointer (some ⟨gs, 0, none⟩)) (w := w) (kn 0 _ rfl rfl)).ev rfl)
 ·
  exact (stepS_val (.pointer (some ⟨gs, 0, none⟩)) _ rfl rfl rfl Low.refl (fun _ => rfl) fun a w z lw kp kn => q_fld 0 rfl (by kernel_rfl) (at_is (u := .pointer (some ⟨gs, 0, none⟩)) (w := w) (kn 1 _ rfl rfl)).ev rfl)
 ·
  exact (stepS_val (.agg (nums .u32 (cl c))) _ rfl rfl rfl Low.refl (fun _ => rfl) fun a w z lw kp kn => q_mid (vs := nums .u32 (cl c)) rfl Tryz.underlying69 rfl sz69 (at_is (u := .pointer (some ⟨gs, 0, none⟩)) (w := w) (kn 2 _ rfl rfl)).ev (fun _ e => by rw [e]; exact (lw.blk ks)) rfl rfl)
 ·
  exact (stepS_val (.pointer (some ⟨gs, 0, none⟩)) _ rfl rfl rfl Low.refl (fun _ => rfl) fun a w z lw kp kn => q_move _ _ rfl (kp _ _ rfl s0_1).ev rfl)
 ·
  exact (stepS_val (.pointer (some ⟨gs, 0, none⟩)) _ rfl rfl rfl Low.refl (fun _ => rfl) fun a w z lw kp kn => q_nil rfl (at_is (u := .pointer (some ⟨gs, 0, none⟩)) (w := w) (kn 4 _ rfl rfl)).ev rfl)
 ·
  exact (stepS_val (.pointer (some ⟨gs, 5, none⟩)) _ rfl rfl rfl Low.refl (fun _ => rfl) fun a w z lw kp kn => q_fld 5 rfl (by kernel_rfl) (at_is (u := .pointer (some ⟨gs, 0, none⟩)) (w := w) (kn 5 _ rfl rfl)).ev rfl)
 ·
  exact (stepS_val (v) _ rfl rfl rfl Low.refl (fun _ => rfl) fun a w z lw kp kn => q_cellS (v) rfl Tryz.underlying54 (at_is (u := .pointer (some ⟨gs, 5, none⟩)) (w := w) (kn 6 _ rfl rfl)).ev (fun _ e => by rw [e]; exact (cells_at (lw.blk ks) 5).trans rfl) rfl)
 ·
  exact (stepS _ rfl rfl fun a w z lw kp kn => l_appV (B := w.heap.size) (ys := l) rfl rfl Tryz.underlying54 Tryz.underlying54 byte5 rfl (at_is (u := v) (w := w) (kn 7 _ rfl rfl)).ev (rd.low ((Low.refl _).trans lw)).1 (OwnB.nil _ _ _) (Nat.le_refl _) (by simp only [List.length_nil]; omega) (fun u w' o gr => l_end ⟨_, rfl, (Low.refl w).gr gr, o.base ((Low.refl _).trans lw).ge⟩))
 ·
  exact (stepS_val (.pointer (some ⟨gs, 0, none⟩)) _ rfl rfl rfl Low.refl (fun _ => rfl) fun a w z lw kp kn => q_move _ _ rfl (kp _ _ rfl s0_1).ev rfl)
 ·
  exact (stepS_val (.pointer (some ⟨gs, 0, none⟩)) _ rfl rfl rfl Low.refl (fun _ => rfl) fun a w z lw kp kn => q_nil rfl (at_is (u := .pointer (some ⟨gs, 0, none⟩)) (w := w) (kn 9 _ rfl rfl)).ev rfl)
 ·
  exact (stepS_val (.pointer (some ⟨gs, 6, none⟩)) _ rfl rfl rfl Low.refl (fun _ => rfl) fun a w z lw kp kn => q_fld 6 rfl (by kernel_rfl) (at_is (u := .pointer (some ⟨gs, 0, none⟩)) (w := w) (kn 10 _ rfl rfl)).ev rfl)
 ·
  exact (stepS_val (.int .u64 n) _ rfl rfl rfl Low.refl (fun _ => rfl) fun a w z lw kp kn => q_cell (.int .u64 n) rfl Tryz.underlying87 (at_is (u := .pointer (some ⟨gs, 6, none⟩)) (w := w) (kn 11 _ rfl rfl)).ev (fun _ e => by rw [e]; exact (cells_at (lw.blk ks) 6).trans rfl) rfl)
 ·
  exact (stepS _ rfl rfl fun a w z lw kp kn => by obtain ⟨u, hu, (ou : OwnB w w0.heap.size 5 u l)⟩ := kn 8 _ rfl rfl; have hu' := hu.ev; obtain ⟨A, cap, e, _⟩ := ou.form; subst e; exact l_q rfl (q_build rfl (parts3 (at_is (u := .agg (nums .u32 (cl c))) (w := w) (kn 3 _ rfl rfl)).ev hu' (at_is (u := .int .u64 n) (w := w) (kn 12 _ rfl rfl)).ev) (built_copy c _ _ _ n) (l_end ⟨_, rfl, Low.refl _, _, rfl, ou⟩)))
 ·
  exact (stepS _ rfl rfl fun a w z lw kp kn => by obtain ⟨y, hy, (hp : (fun (y : Value) (w : World) => ∃ u, y = Value.agg (stC c u n) ∧ OwnB w w0.heap.size 5 u l) y w)⟩ := kn 13 _ rfl rfl; obtain ⟨u, e, ou⟩ := hp; subst e; exact l_box rfl rfl hy.ev (fun g w' hg k h => l_end ⟨_, rfl, h, g, u, rfl, Nat.le_trans ((Low.refl _).trans lw).ge hg, k, ou.low h⟩))
 ·
  exact (stepS _ rfl rfl fun a w z lw kp kn => by obtain ⟨y, hy, (hp : (fun (y : Value) (w : World) => ∃ g u, y = Value.pointer (some ⟨g, 0, none⟩) ∧ w0.heap.size ≤ g ∧ w.heap[g]? = some (.cells (stC c u n) 116) ∧ OwnB w w0.heap.size 5 u l) y w)⟩ := kn 14 _ rfl rfl; exact l_q rfl (q_assign _ _ rfl hy.ev (l_end ⟨_, rfl, Low.refl _, hp⟩)))
 intro a2 w2 z2 h2 kp kn
 have s0_2 := kp _ _ rfl s0_1
 have s3_2 := at_is (u := .pointer (some ⟨gs, 0, none⟩)) (w := w2) (kn 0 _ rfl)
 have s4_2 := at_is (u := .pointer (some ⟨gs, 0, none⟩)) (w := w2) (kn 1 _ rfl)
 have s5_2 := at_is (u := .pointer (some ⟨gs, 0, none⟩)) (w := w2) (kn 2 _ rfl)
 have s6_2 := at_is (u := .agg (nums .u32 (cl c))) (w := w2) (kn 3 _ rfl)
 have s7_2 := at_is (u := .pointer (some ⟨gs, 0, none⟩)) (w := w2) (kn 4 _ rfl)
 have s8_2 := at_is (u := .pointer (some ⟨gs, 0, none⟩)) (w := w2) (kn 5 _ rfl)
 have s9_2 := at_is (u := .pointer (some ⟨gs, 5, none⟩)) (w := w2) (kn 6 _ rfl)
 have s10_2 := at_is (u := v) (w := w2) (kn 7 _ rfl)
 have s12_2 := at_is (u := .pointer (some ⟨gs, 0, none⟩)) (w := w2) (kn 9 _ rfl)
 have s13_2 := at_is (u := .pointer (some ⟨gs, 0, none⟩)) (w := w2) (kn 10 _ rfl)
 have s14_2 := at_is (u := .pointer (some ⟨gs, 6, none⟩)) (w := w2) (kn 11 _ rfl)
 have s15_2 := at_is (u := .int .u64 n) (w := w2) (kn 12 _ rfl)
 have kgs_2 := h2.blk ks
 have or_2 := rd.low h2
 obtain ⟨y, hy, (hp : (fun (y : Value) (w : World) => ∃ g u, y = Value.pointer (some ⟨g, 0, none⟩) ∧ w0.heap.size ≤ g ∧ w.heap[g]? = some (.cells (stC c u n) 116) ∧ OwnB w w0.heap.size 5 u l) y w2)⟩ := kn 15 _ rfl
 obtain ⟨g, u, rfl, hg, kg, ou⟩ := hp
 clear kp kn
 refine e_then (wp_ret (r_tmp rfl z2.defers hy ?_))
 exact ⟨_, rfl, g, u, rfl, hg, kg, ou, h2⟩
def lenB (n : Int) (k : Nat) : Int := IntKind.u8.wrap ((IntKind.u64.wrap (8 * n)).fdiv (2 ^ min (56 - 8 * ((k : Nat) : Int)).toNat 64))
def tailP : Nat → List Int
  | 0 => [128]
  | k + 1 => tailP k ++ [0]
theorem tailP_len : ∀ k, (tailP k).length = k + 1
  | 0 => rfl
  | k + 1 => by rw [tailP, List.length_append, tailP_len k]; rfl
def padM (m : Nat) : Nat := (119 - m) % 64
theorem padM_yes (m k : Nat) (hm : m < 64) (h : k < padM m) : ((m + k + 1) % 64 : Nat) ≠ 56 := by unfold padM at h; omega
theorem padM_no (m : Nat) (hm : m < 64) : ((m + padM m + 1) % 64 : Nat) = 56 := by unfold padM; omega
theorem padM_le (m : Nat) : padM m ≤ 63 := by unfold padM; omega
def tailQ (m : Nat) (n : Int) : Nat → List Int
  | 0 => tailP (padM m)
  | k + 1 => tailQ m n k ++ [lenB n k]
theorem tailQ_len (m : Nat) (n : Int) : ∀ k, (tailQ m n k).length = padM m + k + 1
  | 0 => tailP_len _
  | k + 1 => by rw [tailQ, List.length_append, tailQ_len m n k]; simp only [List.length_cons, List.length_nil]; omega
def tailS (m : Nat) (n : Int) : ByteArray := strOfNums (tailQ m n 8)
theorem tailS_size (m : Nat) (n : Int) : (tailS m n).size = padM m + 8 + 1 := by rw [tailS, strOfNums_size, tailQ_len]
theorem tailS_le (m : Nat) (n : Int) : (tailS m n).size ≤ 140737488350000 := by rw [tailS_size]; have := padM_le m; omega
def chF (c : Ch) (l : List Int) (m : Nat) (n : Int) : Ch := chB c (l ++ bytesOf (tailS m n)) ((m + (tailS m n).size) / 64)
theorem SumS.calls (c : Ch) (v : Value) (l : List Int) (m : Nat) (hlm : l.length = m) (hm6 : m < 64) (n : Int) (gs : Nat) (w0 : World) (ks : w0.heap[gs]? = some (.cells (stC c v n) 116)) (rd : RdE w0 5 v l) : Calls Tryz.prog 68 #[.pointer (some ⟨gs, 0, none⟩)] w0 fun e w' => e = .returned (.string (strOfNums (outR (chF c l m n) 5))) ∧ Low w0 w' := by
 refine c_fun (R := _) Tryz.func68 rfl 73 rfl (Nat.le_of_ble_eq_true rfl) ?_
 intro a z hA
 have s0 := hA 0 _ rfl
 clear hA
 refine c_seq (c_region ?_)
 refine l_q rfl (q_assign _ _ rfl rfl ?_)
 refine l_end (e_fresh z.put ?_)
 intro a1 z1 m1
 have s0_1 := m1 _ _ (s0.n1)
 clear m1
 refine e_then (c_seq (c_region ?_))
 refine l_q rfl (q_move _ _ rfl s0_1.ev ?_)
 refine l_call _ rfl rfl rfl Tryz.func83 rfl (args1 rfl (At.hit z1 rfl).ev) (Copy.calls c v l (by omega) n gs _ ks rd) ?_
 rintro _ w2 ⟨gx, ux, rfl, hgx, kgx, ox, h2⟩
 have gegx := Nat.le_trans (Low.refl _).ge hgx
 have oux := ox.base (Low.refl _).ge
 have kgs_2 := h2.blk ks
 have or_2 := rd.low h2
 refine l_q rfl (q_assign _ _ rfl (At.hit z1.put rfl).ev ?_)
 refine l_end (e_fresh z1.p3 ?_)
 intro a3 z3 m3
 have s0_3 := m3 _ _ (s0_1.n3)
 have s3_3 := m3 _ _ (At.hit z1.p2 rfl)
 have low3 := h2
 clear m3
 refine e_then (c_seq (c_region (l_make (n := 1) (c := 128) (cs := nums .u8 (List.replicate 128 0)) rfl rfl Tryz.underlying54 byte5 rfl rfl (by decide) (by decide) made_128 ?_)))
 intro g11_4 w4 hg4 k4 h4
 have ngs_g11_4 := Nat.ne_of_lt (Nat.lt_of_lt_of_le (heap_lt kgs_2) hg4)
 have ngx_g11_4 := Nat.ne_of_lt (Nat.lt_of_lt_of_le (heap_lt kgx) hg4)
 have geg11_4 := Nat.le_trans (Low.refl _).ge hg4
 have kgs_4 := h4.blk kgs_2
 have kgx_4 := h4.blk kgx
 have orx_4 := oux.low h4
 refine l_q rfl (q_assign _ _ rfl (At.hit z3 rfl).ev ?_)
 refine l_end (e_fresh z3.p2 ?_)
 intro a5 z5 m5
 have s0_5 := m5 _ _ (s0_3.n2)
 have s3_5 := m5 _ _ (s3_3.n2)
 have s4_5 := m5 _ _ (At.hit z3.put rfl)
 have low5 := h4
 clear m5
 refine e_then (c_seq (c_region ?_))
 refine l_q rfl (q_move _ _ rfl s4_5.ev ?_)
 refine l_q rfl (q_idxS0 (j := 0) rfl Tryz.underlying54 sz5 (At.hit z5 rfl).ev rfl (by omega) ?_)
 refine l_cell (j := 0) (v := .int .u8 128) rfl rfl rfl sz5 (At.hit z5.put rfl).ev rfl rfl k4 (by rw [(nums_size _ _).trans List.length_replicate]; omega) ?_
 intro w6 k6 u6
 rw [nums_put] at k6
 have kgs_6 := u6.blk kgs_4 (by omega)
 have kgx_6 := u6.blk kgx_4 (by omega)
 refine l_end (e_fresh z5.p2 ?_)
 intro a7 z7 m7
 have s0_7 := m7 _ _ (s0_5.n2)
 have s3_7 := m7 _ _ (s3_5.n2)
 have s4_7 := m7 _ _ (s4_5.n2)
 have low7 := (low5.upd u6 geg11_4)
 clear m7
 refine e_then (c_seq (wp_block ?_))
 have otail := ownB_made (l := [128]) (c := 128) geg11_4 k6 (by simp [nums]) (by decide) (by decide) (by simp [nums])
 refine c_loop (padM m) (fun k a w => ∃ v4 : Value, Fr 73 a ∧ At a 0 (.pointer (some ⟨gs, 0, none⟩)) ∧ At a 3 (.pointer (some ⟨gx, 0, none⟩)) ∧ At a 4 (v4) ∧ w.heap[gs]? = some (.cells (stC c v n) 116) ∧ w.heap[gx]? = some (.cells (stC c ux n) 116) ∧ OwnB w w2.heap.size 5 v4 (tailP k) ∧ Low w2 w) ?_ ?_ ?_
 ·
  exact ⟨(.slice (some ⟨g11_4, 0, none⟩) 1 128), z7, s0_7, s3_7, s4_7, kgs_6, kgx_6, otail, low7⟩
 ·
  intro k a8 w8 hk8 h
  obtain ⟨v4_8, z8, s0_8, s3_8, s4_8, kgs_8, kgx_8, ox4_8, low8⟩ := h
  clear kgs_6 kgx_6 low7 s0_7 s3_7 s4_7 z7
  have hpl := padM_le m
  refine c_seq (c_seq (c_region ?_))
  refine l_q rfl (q_move _ _ rfl s3_8.ev ?_)
  refine l_q rfl (q_nil rfl (At.hit z8 rfl).ev ?_)
  refine l_q rfl (q_fld 5 rfl (by kernel_rfl) (At.hit z8.put rfl).ev ?_)
  refine l_q rfl (q_cellS (ux) rfl Tryz.underlying54 (At.hit z8.p2 rfl).ev (fun _ e => by rw [e]; exact (cells_at kgx_8 5).trans rfl) ?_)
  refine l_q rfl (q_lenB rfl rfl Tryz.underlying54 (At.hit z8.p3 rfl).ev (oux.low low8) (m) (hlm.trans (by omega)) ?_)
  refine l_q rfl (q_move _ _ rfl (s4_8.n5).ev ?_)
  refine l_q rfl (q_lenB rfl rfl Tryz.underlying54 (At.hit z8.p5 rfl).ev ox4_8 (k + 1) ((tailP_len k).trans (by omega)) ?_)
  refine l_q rfl (q_add (((m + k + 1 : Nat) : Int)) rfl ((At.hit z8.p4 rfl).n2).ev (At.hit z8.p6 rfl).ev (i64_is (by omega) (by omega) (by omega)) ?_)
  refine l_fresh z8.p8 ?_
  intro a9 z9 m9
  have s0_9 := m9 _ _ (s0_8.n8)
  have s3_9 := m9 _ _ (s3_8.n8)
  have s4_9 := m9 _ _ (s4_8.n8)
  have s21_9 := m9 _ _ (At.hit z8.p7 rfl)
  clear m9
  refine l_q rfl (q_rem (m := m + k + 1) (n := 64) (by omega) rfl s21_9.ev rfl ?_)
  refine l_q rfl (q_neq true rfl (At.hit z9 rfl).ev rfl (decide_eq_true (by have := padM_yes m k hm6 (by assumption); omega)) ?_)
  refine l_end (e_fresh z9.p2 ?_)
  intro a10 z10 m10
  have s0_10 := m10 _ _ (s0_9.n2)
  have s3_10 := m10 _ _ (s3_9.n2)
  have s4_10 := m10 _ _ (s4_9.n2)
  have s23_10 := m10 _ _ (At.hit z9.put rfl)
  clear m10
  refine e_then (c_true s23_10 ?_)
  refine wp_skip (e_then (wp_block (c_region ?_)))
  refine l_q rfl (q_move _ _ rfl s4_10.ev ?_)
  refine l_build1 rfl rfl Tryz.underlying54 byte5 rfl ?_
  intro g25_11 w11 hg11 k11 h11
  have ngs_g25_11 := Nat.ne_of_lt (Nat.lt_of_lt_of_le (heap_lt kgs_8) hg11)
  have ngx_g25_11 := Nat.ne_of_lt (Nat.lt_of_lt_of_le (heap_lt kgx_8) hg11)
  have geg25_11 := Nat.le_trans low8.ge hg11
  have kgs_11 := h11.blk kgs_8
  have kgx_11 := h11.blk kgx_8
  have ox4_11 := ox4_8.low h11
  have orx_11 := (oux.low low8).low h11
  refine l_appR (B := w2.heap.size) (ys := [0]) rfl rfl Tryz.underlying54 Tryz.underlying54 byte5 ((At.hit z10 rfl).n1).ev (At.hit z10.put rfl).ev k11 ox4_11 (low8.trans h11).ge (by rw [(tailP_len k)]; simp only [List.length_cons, List.length_nil]; omega) ?_
  intro v12 w12 o12 gr12
  have kgs_12 := gr12.blk kgs_11 rfl
  have kgx_12 := gr12.blk kgx_11 rfl
  have lw12 := (low8.trans h11).gr gr12
  refine l_q rfl (q_assign _ _ rfl (At.hit z10.p2 rfl).ev ?_)
  refine l_end (e_fresh z10.p4 ?_)
  intro a13 z13 m13
  have s0_13 := m13 _ _ (s0_10.n4)
  have s3_13 := m13 _ _ (s3_10.n4)
  have s4_13 := m13 _ _ (At.hit z10.p3 rfl)
  have low13 := lw12
  clear m13
  refine e_in ?_
  exact ⟨v12, z13, s0_13, s3_13, s4_13, kgs_12, kgx_12, o12, low13⟩
 ·
  intro a14 w14 h
  obtain ⟨v4_14, z14, s0_14, s3_14, s4_14, kgs_14, kgx_14, ox4_14, low14⟩ := h
  clear kgs_6 kgx_6 low7 s0_7 s3_7 s4_7 z7
  have hpl := padM_le m
  refine c_seq (c_seq (c_region ?_))
  refine l_q rfl (q_move _ _ rfl s3_14.ev ?_)
  refine l_q rfl (q_nil rfl (At.hit z14 rfl).ev ?_)
  refine l_q rfl (q_fld 5 rfl (by kernel_rfl) (At.hit z14.put rfl).ev ?_)
  refine l_q rfl (q_cellS (ux) rfl Tryz.underlying54 (At.hit z14.p2 rfl).ev (fun _ e => by rw [e]; exact (cells_at kgx_14 5).trans rfl) ?_)
  refine l_q rfl (q_lenB rfl rfl Tryz.underlying54 (At.hit z14.p3 rfl).ev (oux.low low14) (m) (hlm.trans (by omega)) ?_)
  refine l_q rfl (q_move _ _ rfl (s4_14.n5).ev ?_)
  refine l_q rfl (q_lenB rfl rfl Tryz.underlying54 (At.hit z14.p5 rfl).ev ox4_14 ((padM m) + 1) ((tailP_len (padM m)).trans (by omega)) ?_)
  refine l_q rfl (q_add (((m + (padM m) + 1 : Nat) : Int)) rfl ((At.hit z14.p4 rfl).n2).ev (At.hit z14.p6 rfl).ev (i64_is (by omega) (by omega) (by omega)) ?_)
  refine l_fresh z14.p8 ?_
  intro a15 z15 m15
  have s0_15 := m15 _ _ (s0_14.n8)
  have s3_15 := m15 _ _ (s3_14.n8)
  have s4_15 := m15 _ _ (s4_14.n8)
  have s21_15 := m15 _ _ (At.hit z14.p7 rfl)
  clear m15
  refine l_q rfl (q_rem (m := m + (padM m) + 1) (n := 64) (by omega) rfl s21_15.ev rfl ?_)
  refine l_q rfl (q_neq false rfl (At.hit z15 rfl).ev rfl (decide_eq_false (by have := padM_no m hm6; omega)) ?_)
  refine l_end (e_fresh z15.p2 ?_)
  intro a16 z16 m16
  have s0_16 := m16 _ _ (s0_15.n2)
  have s3_16 := m16 _ _ (s3_15.n2)
  have s4_16 := m16 _ _ (s4_15.n2)
  have s23_16 := m16 _ _ (At.hit z15.put rfl)
  clear m16
  refine e_then (c_false s23_16 ?_)
  refine wp_exit (x_then (x_then (in_exit (e_then (c_seq (c_seq (c_region ?_)))))))
  refine l_q rfl (q_move _ _ rfl rfl ?_)
  refine l_end (e_fresh z16.put ?_)
  intro a17 z17 m17
  have s0_17 := m17 _ _ (s0_16.n1)
  have s3_17 := m17 _ _ (s3_16.n1)
  have s4_17 := m17 _ _ (s4_16.n1)
  have s27_17 := m17 _ _ (At.hit z16 rfl)
  clear m17
  refine e_then (wp_block (c_loop 8 (fun k a w => ∃ v4 : Value, Fr 73 a ∧ At a 0 (.pointer (some ⟨gs, 0, none⟩)) ∧ At a 3 (.pointer (some ⟨gx, 0, none⟩)) ∧ At a 4 (v4) ∧ At a 27 (.int .i64 ((k : Nat) : Int)) ∧ w.heap[gs]? = some (.cells (stC c v n) 116) ∧ w.heap[gx]? = some (.cells (stC c ux n) 116) ∧ OwnB w w2.heap.size 5 v4 (tailQ m n k) ∧ Low w2 w) ?_ ?_ ?_))
  ·
   exact ⟨v4_14, z17, s0_17, s3_17, s4_17, s27_17, kgs_14, kgx_14, ox4_14, low14⟩
  ·
   intro k a18 w18 hk18 h
   obtain ⟨v4_18, z18, s0_18, s3_18, s4_18, s27_18, kgs_18, kgx_18, ox4_18, low18⟩ := h
   clear kgs_14 kgx_14 low14 s0_17 s27_17 s3_17 s4_17 z17
   have hpl := padM_le m
   refine c_seq (c_region ?_)
   refine l_q rfl (q_lss true rfl s27_18.ev rfl (decide_eq_true (by omega)) ?_)
   refine l_end (e_fresh z18.put ?_)
   intro a19 z19 m19
   have s0_19 := m19 _ _ (s0_18.n1)
   have s3_19 := m19 _ _ (s3_18.n1)
   have s4_19 := m19 _ _ (s4_18.n1)
   have s27_19 := m19 _ _ (s27_18.n1)
   have s28_19 := m19 _ _ (At.hit z18 rfl)
   clear m19
   refine e_then (c_seq (c_true s28_19 ?_))
   refine wp_skip (e_then (c_seq (wp_block (c_seq (c_region ?_)))))
   refine l_q rfl (q_move _ _ rfl s27_19.ev ?_)
   refine l_q rfl (q_assign _ _ rfl (At.hit z19 rfl).ev ?_)
   refine l_end (e_fresh z19.p2 ?_)
   intro a20 z20 m20
   have s0_20 := m20 _ _ (s0_19.n2)
   have s3_20 := m20 _ _ (s3_19.n2)
   have s4_20 := m20 _ _ (s4_19.n2)
   have s5_20 := m20 _ _ (At.hit z19.put rfl)
   have s27_20 := m20 _ _ (s27_19.n2)
   clear m20
   refine e_then (c_region ?_)
   refine l_q rfl (q_move _ _ rfl s4_20.ev ?_)
   refine l_q rfl (q_move _ _ rfl (s0_20.n1).ev ?_)
   refine l_q rfl (q_nil rfl (At.hit z20.put rfl).ev ?_)
   refine l_q rfl (q_fld 6 rfl (by kernel_rfl) (At.hit z20.p2 rfl).ev ?_)
   refine l_q rfl (q_cell (.int .u64 n) rfl Tryz.underlying87 (At.hit z20.p3 rfl).ev (fun _ e => by rw [e]; exact (cells_at kgs_18 6).trans rfl) ?_)
   refine l_q rfl (q_mul _ rfl rfl (At.hit z20.p4 rfl).ev rfl ?_)
   refine l_q rfl (q_move _ _ rfl (s5_20.n6).ev ?_)
   refine l_q rfl (q_mul (((8 * k : Nat) : Int)) rfl rfl (At.hit z20.p6 rfl).ev (i64_is (by omega) (by omega) (by omega)) ?_)
   refine l_fresh z20.p8 ?_
   intro a21 z21 m21
   have s0_21 := m21 _ _ (s0_20.n8)
   have s3_21 := m21 _ _ (s3_20.n8)
   have s4_21 := m21 _ _ (s4_20.n8)
   have s27_21 := m21 _ _ (s27_20.n8)
   have s30_21 := m21 _ _ ((At.hit z20 rfl).n7)
   have s35_21 := m21 _ _ ((At.hit z20.p5 rfl).n2)
   have s37_21 := m21 _ _ (At.hit z20.p7 rfl)
   clear m21
   refine l_q rfl (q_sub ((56 - 8 * ((k : Nat) : Int))) rfl rfl s37_21.ev (i64_is (by omega) (by omega) (by omega)) ?_)
   refine l_q rfl (q_shr ((IntKind.u64.wrap (8 * n)).fdiv (2 ^ min ((56 - 8 * ((k : Nat) : Int)) : Int).toNat 64)) rfl (s35_21.n1).ev (At.hit z21 rfl).ev (by first | omega | exact u64_nonneg _) rfl ?_)
   refine l_q rfl (q_conv _ rfl (At.hit z21.put rfl).ev Tryz.underlying87 Tryz.underlying5 rfl ?_)
   refine l_build1 rfl rfl Tryz.underlying54 byte5 (At.hit z21.p2 rfl).ev ?_
   intro g41_22 w22 hg22 k22 h22
   have ngs_g41_22 := Nat.ne_of_lt (Nat.lt_of_lt_of_le (heap_lt kgs_18) hg22)
   have ngx_g41_22 := Nat.ne_of_lt (Nat.lt_of_lt_of_le (heap_lt kgx_18) hg22)
   have geg41_22 := Nat.le_trans low18.ge hg22
   have kgs_22 := h22.blk kgs_18
   have kgx_22 := h22.blk kgx_18
   have ox4_22 := ox4_18.low h22
   have orx_22 := (oux.low low18).low h22
   refine l_appR (B := w2.heap.size) (ys := [IntKind.u8.wrap ((IntKind.u64.wrap (8 * n)).fdiv (2 ^ min ((56 - 8 * ((k : Nat) : Int)) : Int).toNat 64))]) rfl rfl Tryz.underlying54 Tryz.underlying54 byte5 (s30_21.n4).ev (At.hit z21.p3 rfl).ev k22 ox4_22 (low18.trans h22).ge (by rw [(tailQ_len m n k)]; simp only [List.length_cons, List.length_nil]; omega) ?_
   intro v23 w23 o23 gr23
   have kgs_23 := gr23.blk kgs_22 rfl
   have kgx_23 := gr23.blk kgx_22 rfl
   have lw23 := (low18.trans h22).gr gr23
   refine l_q rfl (q_assign _ _ rfl (At.hit z21.p4 rfl).ev ?_)
   refine l_end (e_fresh z21.p6 ?_)
   intro a24 z24 m24
   have s0_24 := m24 _ _ (s0_21.n6)
   have s3_24 := m24 _ _ (s3_21.n6)
   have s4_24 := m24 _ _ (At.hit z21.p5 rfl)
   have s27_24 := m24 _ _ (s27_21.n6)
   have low24 := lw23
   clear m24
   refine e_in (e_then (c_region ?_))
   refine l_q rfl (q_add (((k + 1 : Nat) : Int)) rfl s27_24.ev rfl (i64_is (by omega) (by omega) (by omega)) ?_)
   refine l_q rfl (q_move _ _ rfl (At.hit z24 rfl).ev ?_)
   refine l_end (e_fresh z24.p2 ?_)
   intro a25 z25 m25
   have s0_25 := m25 _ _ (s0_24.n2)
   have s3_25 := m25 _ _ (s3_24.n2)
   have s4_25 := m25 _ _ (s4_24.n2)
   have s27_25 := m25 _ _ (At.hit z24.put rfl)
   clear m25
   exact ⟨v23, z25, s0_25, s3_25, s4_25, s27_25, kgs_23, kgx_23, o23, low24⟩
  ·
   intro a26 w26 h
   obtain ⟨v4_26, z26, s0_26, s3_26, s4_26, s27_26, kgs_26, kgx_26, ox4_26, low26⟩ := h
   clear kgs_14 kgx_14 low14 s0_17 s27_17 s3_17 s4_17 z17
   have hpl := padM_le m
   refine c_seq (c_region ?_)
   refine l_q rfl (q_lss false rfl s27_26.ev rfl (decide_eq_false (by omega)) ?_)
   refine l_end (e_fresh z26.put ?_)
   intro a27 z27 m27
   have s0_27 := m27 _ _ (s0_26.n1)
   have s3_27 := m27 _ _ (s3_26.n1)
   have s4_27 := m27 _ _ (s4_26.n1)
   have s27_27 := m27 _ _ (s27_26.n1)
   have s28_27 := m27 _ _ (At.hit z26 rfl)
   clear m27
   refine e_then (c_seq (c_false s28_27 ?_))
   refine wp_exit (x_then (x_then (in_exit (e_then (c_seq (c_region ?_))))))
   refine l_q rfl (q_move _ _ rfl s3_27.ev ?_)
   refine l_q rfl (q_move _ _ rfl (s4_27.n1).ev ?_)
   refine l_q rfl (q_str rfl Tryz.underlying54 Tryz.underlying5 Tryz.underlying9 (At.hit z27.put rfl).ev (fun _ e => by rw [e]; exact ox4_26) ?_)
   refine l_buildT1 rfl rfl Tryz.underlying51 str9 (At.hit z27.p2 rfl).ev ?_
   intro g47_28 w28 hg28 k28 h28
   have lt_gx_g47_28 := Nat.lt_of_lt_of_le (heap_lt kgx_26) hg28
   have ngs_g47_28 := Nat.ne_of_lt (Nat.lt_of_lt_of_le (heap_lt kgs_26) hg28)
   have geg47_28 := Nat.le_trans (low3.trans low26).ge hg28
   have kgs_28 := h28.blk kgs_26
   have kgx_28 := h28.blk kgx_26
   have ox4_28 := ox4_26.low h28
   have orx_28 := (oux.low low26).low h28
   refine l_call _ rfl rfl rfl Tryz.func67 rfl (args2 rfl ((At.hit z27 rfl).n3).ev (At.hit z27.p3 rfl).ev) (Write.calls c ux l m hlm hm6 n (tailS m n) (tailS_le m n) gx g47_28 (by omega) w0 _ ((low3.trans low26).trans h28) gegx kgx_28 k28 orx_28) ?_
   rintro _ w29 ⟨u29, k29, o29, low29⟩
   refine l_end (e_fresh z27.p5 ?_)
   intro a30 z30 m30
   have s3_30 := m30 _ _ (s3_27.n5)
   clear m30
   refine e_then (c_seq (c_region ?_))
   refine l_q rfl (q_assign _ _ rfl rfl ?_)
   refine l_end (e_fresh z30.put ?_)
   intro a31 z31 m31
   have s3_31 := m31 _ _ (s3_30.n1)
   have s6_31 := m31 _ _ (At.hit z30 rfl)
   clear m31
   refine e_then (c_seq (c_seq (c_region ?_)))
   refine l_q rfl (q_move _ _ rfl s3_31.ev ?_)
   refine l_q rfl (q_nil rfl (At.hit z31 rfl).ev ?_)
   refine l_q rfl (q_fld 0 rfl (by kernel_rfl) (At.hit z31.put rfl).ev ?_)
   refine l_q rfl (q_mid (vs := nums .u32 (cl (chF c l m n))) rfl Tryz.underlying69 rfl sz69 (At.hit z31.p2 rfl).ev (fun _ e => by rw [e]; exact k29) rfl ?_)
   refine l_q rfl (q_move _ _ rfl rfl ?_)
   refine l_end (e_fresh z31.p5 ?_)
   intro a32 z32 m32
   have s6_32 := m32 _ _ (s6_31.n5)
   have s52_32 := m32 _ _ ((At.hit z31.p3 rfl).n1)
   have s53_32 := m32 _ _ (At.hit z31.p4 rfl)
   clear m32
   refine e_then (wp_block (c_loop 5 (fun k a w => ∃ v6 : Value, Fr 73 a ∧ At a 6 (v6) ∧ At a 52 (.agg (nums .u32 (cl (chF c l m n)))) ∧ At a 53 (.int .i64 ((k : Nat) : Int)) ∧ OwnB w w0.heap.size 5 v6 (outR (chF c l m n) k) ∧ Low w0 w) ?_ ?_ ?_))
   ·
    exact ⟨.slice none 0 0, z32, s6_32, s52_32, s53_32, (OwnB.nil _ _ _), low29⟩
   ·
    intro k a33 w33 hk33 h
    obtain ⟨v6_33, z33, s6_33, s52_33, s53_33, ox6_33, low33⟩ := h
    clear low29 s52_32 s53_32 s6_32 z32
    refine c_seq (c_region ?_)
    refine l_q rfl (q_lss true rfl s53_33.ev rfl (decide_eq_true (by omega)) ?_)
    refine l_end (e_fresh z33.put ?_)
    intro a34 z34 m34
    have s6_34 := m34 _ _ (s6_33.n1)
    have s52_34 := m34 _ _ (s52_33.n1)
    have s53_34 := m34 _ _ (s53_33.n1)
    have s54_34 := m34 _ _ (At.hit z33 rfl)
    clear m34
    refine e_then (c_seq (c_true s54_34 ?_))
    refine wp_skip (e_then (c_seq (wp_block (c_seq (c_region ?_)))))
    refine l_q rfl (q_index (j := k) (.int .u32 ((cl (chF c l m n)).getD k 0)) rfl Tryz.underlying69 (run_sizeOf1 sz64) (part_nums Tryz.underlying64 k (by rw [(cl_len (chF c l m n))]; omega)) s52_34.ev s53_34.ev (by omega) ?_)
    refine l_q rfl (q_assign _ _ rfl (At.hit z34 rfl).ev ?_)
    refine l_end (e_fresh z34.p2 ?_)
    intro a35 z35 m35
    have s6_35 := m35 _ _ (s6_34.n2)
    have s8_35 := m35 _ _ (At.hit z34.put rfl)
    have s52_35 := m35 _ _ (s52_34.n2)
    have s53_35 := m35 _ _ (s53_34.n2)
    clear m35
    refine e_then (c_region ?_)
    refine l_q rfl (q_move _ _ rfl s6_35.ev ?_)
    refine l_q rfl (q_move _ _ rfl (s8_35.n1).ev ?_)
    refine l_q rfl (q_shr (((cl (chF c l m n)).getD k 0).fdiv (2 ^ min (24 : Int).toNat 32)) rfl (At.hit z35.put rfl).ev rfl (by first | omega | exact u64_nonneg _) rfl ?_)
    refine l_q rfl (q_conv _ rfl (At.hit z35.p2 rfl).ev Tryz.underlying64 Tryz.underlying5 rfl ?_)
    refine l_q rfl (q_move _ _ rfl (s8_35.n4).ev ?_)
    refine l_q rfl (q_shr (((cl (chF c l m n)).getD k 0).fdiv (2 ^ min (16 : Int).toNat 32)) rfl (At.hit z35.p4 rfl).ev rfl (by first | omega | exact u64_nonneg _) rfl ?_)
    refine l_q rfl (q_conv _ rfl (At.hit z35.p5 rfl).ev Tryz.underlying64 Tryz.underlying5 rfl ?_)
    refine l_q rfl (q_move _ _ rfl (s8_35.n7).ev ?_)
    refine l_fresh z35.p8 ?_
    intro a36 z36 m36
    have s6_36 := m36 _ _ (s6_35.n8)
    have s8_36 := m36 _ _ (s8_35.n8)
    have s52_36 := m36 _ _ (s52_35.n8)
    have s53_36 := m36 _ _ (s53_35.n8)
    have s56_36 := m36 _ _ ((At.hit z35 rfl).n7)
    have s59_36 := m36 _ _ ((At.hit z35.p3 rfl).n4)
    have s62_36 := m36 _ _ ((At.hit z35.p6 rfl).n1)
    have s63_36 := m36 _ _ (At.hit z35.p7 rfl)
    clear m36
    refine l_q rfl (q_shr (((cl (chF c l m n)).getD k 0).fdiv (2 ^ min (8 : Int).toNat 32)) rfl s63_36.ev rfl (by first | omega | exact u64_nonneg _) rfl ?_)
    refine l_q rfl (q_conv _ rfl (At.hit z36 rfl).ev Tryz.underlying64 Tryz.underlying5 rfl ?_)
    refine l_q rfl (q_move _ _ rfl (s8_36.n2).ev ?_)
    refine l_q rfl (q_conv _ rfl (At.hit z36.p2 rfl).ev Tryz.underlying64 Tryz.underlying5 rfl ?_)
    refine l_build4 rfl rfl Tryz.underlying54 byte5 (s59_36.n4).ev (s62_36.n4).ev ((At.hit z36.put rfl).n2).ev (At.hit z36.p3 rfl).ev ?_
    intro g68_37 w37 hg37 k37 h37
    have geg68_37 := Nat.le_trans low33.ge hg37
    have ox6_37 := ox6_33.low h37
    refine l_appR (B := w0.heap.size) (ys := [IntKind.u8.wrap (((cl (chF c l m n)).getD k 0).fdiv (2 ^ min (24 : Int).toNat 32)), IntKind.u8.wrap (((cl (chF c l m n)).getD k 0).fdiv (2 ^ min (16 : Int).toNat 32)), IntKind.u8.wrap (((cl (chF c l m n)).getD k 0).fdiv (2 ^ min (8 : Int).toNat 32)), IntKind.u8.wrap ((cl (chF c l m n)).getD k 0)]) rfl rfl Tryz.underlying54 Tryz.underlying54 byte5 (s56_36.n5).ev (At.hit z36.p4 rfl).ev k37 ox6_37 (low33.trans h37).ge (by rw [(outR_len _ k)]; simp only [List.length_cons, List.length_nil]; omega) ?_
    intro v38 w38 o38 gr38
    have lw38 := (low33.trans h37).gr gr38
    refine l_q rfl (q_assign _ _ rfl (At.hit z36.p5 rfl).ev ?_)
    refine l_end (e_fresh z36.p7 ?_)
    intro a39 z39 m39
    have s6_39 := m39 _ _ (At.hit z36.p6 rfl)
    have s52_39 := m39 _ _ (s52_36.n7)
    have s53_39 := m39 _ _ (s53_36.n7)
    have low39 := lw38
    clear m39
    refine e_in (e_then (c_region ?_))
    refine l_q rfl (q_add (((k + 1 : Nat) : Int)) rfl s53_39.ev rfl (i64_is (by omega) (by omega) (by omega)) ?_)
    refine l_q rfl (q_move _ _ rfl (At.hit z39 rfl).ev ?_)
    refine l_end (e_fresh z39.p2 ?_)
    intro a40 z40 m40
    have s6_40 := m40 _ _ (s6_39.n2)
    have s52_40 := m40 _ _ (s52_39.n2)
    have s53_40 := m40 _ _ (At.hit z39.put rfl)
    clear m40
    exact ⟨v38, z40, s6_40, s52_40, s53_40, o38, low39⟩
   ·
    intro a41 w41 h
    obtain ⟨v6_41, z41, s6_41, s52_41, s53_41, ox6_41, low41⟩ := h
    clear low29 s52_32 s53_32 s6_32 z32
    refine c_seq (c_region ?_)
    refine l_q rfl (q_lss false rfl s53_41.ev rfl (decide_eq_false (by omega)) ?_)
    refine l_end (e_fresh z41.put ?_)
    intro a42 z42 m42
    have s6_42 := m42 _ _ (s6_41.n1)
    have s52_42 := m42 _ _ (s52_41.n1)
    have s53_42 := m42 _ _ (s53_41.n1)
    have s54_42 := m42 _ _ (At.hit z41 rfl)
    clear m42
    refine e_then (c_seq (c_false s54_42 ?_))
    refine wp_exit (x_then (x_then (in_exit (e_then (c_seq (c_region ?_))))))
    refine l_q rfl (q_move _ _ rfl s6_42.ev ?_)
    refine l_q rfl (q_str rfl Tryz.underlying54 Tryz.underlying5 Tryz.underlying9 (At.hit z42 rfl).ev (fun _ e => by rw [e]; exact ox6_41) ?_)
    refine l_q rfl (q_assign _ _ rfl (At.hit z42.put rfl).ev ?_)
    refine l_end (e_fresh z42.p3 ?_)
    intro a43 z43 m43
    have s2_43 := m43 _ _ (At.hit z42.p2 rfl)
    clear m43
    refine e_then (wp_ret (r_tmp rfl z43.defers s2_43 ?_))
    exact ⟨rfl, low41⟩
def L1 (x : ByteArray) : List Int := [] ++ bytesOf x
theorem L1_len (x : ByteArray) : (L1 x).length = x.size := bytesOf_length x
def ch1 (x : ByteArray) : Ch := chB first (L1 x) ((0 + x.size) / 64)
def rest1 (x : ByteArray) : List Int := (L1 x).drop (64 * ((0 + x.size) / 64))
theorem rest1_len (x : ByteArray) : (rest1 x).length = x.size % 64 := by
  rw [rest1, List.length_drop, L1_len]
  omega
def n1 (x : ByteArray) : Int := IntKind.u64.wrap (0 + IntKind.u64.wrap ((x.size : Nat) : Int))
def sumL (x : ByteArray) : ByteArray := strOfNums (outR (chF (ch1 x) (rest1 x) (x.size % 64) (n1 x)) 5)
theorem SumL.calls (x : ByteArray) (hx : x.size ≤ 140737488350000) (gp : Nat) (w0 : World) (kp : w0.heap[gp]? = some (.cells #[.string x] 9)) : Calls Tryz.prog 48 #[.slice (some ⟨gp, 0, none⟩) 1 1] w0 fun e w' => e = .returned (.string (sumL x)) ∧ Low w0 w' := by
 refine c_fun (R := _) Tryz.func48 rfl 10 rfl (Nat.le_of_ble_eq_true rfl) ?_
 intro a z hA
 have s0 := hA 0 _ rfl
 clear hA
 refine c_seq (c_region ?_)
 refine l_q rfl (q_assign _ _ rfl rfl ?_)
 refine l_end (e_fresh z.put ?_)
 intro a1 z1 m1
 have s0_1 := m1 _ _ (s0.n1)
 clear m1
 refine e_then (c_seq (c_region (l_call _ rfl rfl rfl Tryz.func66 rfl (show Array.map _ _ = (#[] : Array Value) from by simp) (New.calls _) ?_)))
 rintro _ w2 ⟨gx, rfl, hgx, kgx, h2⟩
 have gegx := Nat.le_trans (Low.refl _).ge hgx
 have ngp := Nat.ne_of_lt (Nat.lt_of_lt_of_le (heap_lt kp) hgx)
 have kgp_2 := h2.blk kp
 refine l_q rfl (q_assign _ _ rfl (At.hit z1 rfl).ev ?_)
 refine l_end (e_fresh z1.p2 ?_)
 intro a3 z3 m3
 have s0_3 := m3 _ _ (s0_1.n2)
 have s3_3 := m3 _ _ (At.hit z1.put rfl)
 have low3 := h2
 clear m3
 refine e_then (c_seq (c_region ?_))
 refine l_q rfl (q_move _ _ rfl s3_3.ev ?_)
 refine l_q rfl (q_move _ _ rfl (s0_3.n1).ev ?_)
 refine l_call _ rfl rfl rfl Tryz.func67 rfl (args2 rfl ((At.hit z3 rfl).n1).ev (At.hit z3.put rfl).ev) (Write.calls first (.slice none 0 0) [] 0 rfl (by decide) 0 x hx gx gp ngp w0 _ low3 gegx kgx kgp_2 (OwnB.nil _ _ _)) ?_
 rintro _ w4 ⟨u4, k4, o4, low4⟩
 refine l_end (e_fresh z3.p3 ?_)
 intro a5 z5 m5
 have s3_5 := m5 _ _ (s3_3.n3)
 clear m5
 refine e_then (c_seq (c_region ?_))
 refine l_q rfl (q_move _ _ rfl s3_5.ev ?_)
 refine l_call (fun v w' => v = .string (sumL x) ∧ Low w4 w') rfl rfl rfl Tryz.func68 rfl (args1 rfl (At.hit z5 rfl).ev) ((SumS.calls (ch1 x) _ (rest1 x) (x.size % 64) (rest1_len x) (Nat.mod_lt _ (by decide)) (n1 x) gx _ k4 o4).mono fun _ _ ⟨e, k⟩ => ⟨_, e, rfl, k⟩) ?_
 rintro _ w6 ⟨rfl, h6⟩
 have kgx_6 := h6.blk k4
 have orw_6 := o4.low h6
 refine l_q rfl (q_assign _ _ rfl (At.hit z5.put rfl).ev ?_)
 refine l_end (e_fresh z5.p3 ?_)
 intro a7 z7 m7
 have s2_7 := m7 _ _ (At.hit z5.p2 rfl)
 have low7 := (low4.trans h6)
 clear m7
 refine e_then (wp_ret (r_tmp rfl z7.defers s2_7 ?_))
 exact ⟨rfl, low7⟩
end Go.Proofs.YtfjhnnpdaggnbaaGreatDoor.Q
end
/-! V0 -/
section
namespace Go.Proofs.YtfjhnnpdaggnbaaGreatDoor.Q
open Go.RowKit Go.Proofs.YtfjhnnpdaggnbaaGreatDoor.P Go.Proofs.YtfjhnnpdaggnbaaGreatDoorW.PrintWords
def vl : List (Int × Int × Int) := [(1, 43, 0), (1, 44, 0), (1, 45, 0), (1, 46, 0), (1, 47, 0), (1, 48, 0), (1, 49, 0), (1, 50, 0), (1, 51, 0), (2, 45, 0), (2, 46, 0), (2, 47, 0), (2, 48, 0), (2, 49, 0), (2, 50, 0), (2, 51, 0), (2, 52, 0), (2, 53, 0), (2, 54, 0), (2, 55, 0), (2, 56, 0)]
def vT (j : Nat) : Int := (vl.getD j (0, 0, 0)).1
def vK (j : Nat) : Int := (vl.getD j (0, 0, 0)).2.1
def vB (j : Nat) : Int := (vl.getD j (0, 0, 0)).2.2
def VecAt (cur : Array Value) : Prop := 63 ≤ cur.size ∧ ∀ j, j < 21 → (cur.toList.drop (j * 3)).take 3 = [.int .i64 (vT j), .int .i64 (vK j), .int .i64 (vB j)]
theorem vecAt_of {α : Type} {R : α → List Value → Prop} {E : TypeId} {w : World} {B : Nat} {v : Value} {xs : List α} (hl : xs.length = 21) (h : OwnRow R E 3 w B v xs) (f : α → Int × Int × Int) (hR : ∀ x cs, R x cs → cs = [.int .i64 (f x).1, .int .i64 (f x).2.1, .int .i64 (f x).2.2]) (hf : xs.map f = vl) :
    ∃ g cap cur, v = .slice (some ⟨g, 0, none⟩) 21 cap ∧ B ≤ g ∧ w.heap[g]? = some (.cells cur E) ∧ VecAt cur := by
  obtain ⟨inner, ho, h1, h2⟩ := h
  rw [hl] at ho
  rcases ho.2 with ⟨_, h0⟩ | ⟨g, cap, cur, rfl, hg, hh, hc, hm, hs, ht⟩
  · omega
  · refine ⟨g, cap, cur, rfl, hg, hh, by omega, fun j hj => ?_⟩
    have hx : xs[j]? = some xs[j] := List.getElem?_eq_getElem (by omega)
    have := hR _ _ (h2 j _ hx)
    rw [← ht] at this
    have e : ((cur.toList.take (21 * 3)).drop (j * 3)).take 3 = (cur.toList.drop (j * 3)).take 3 := by
      rw [List.drop_take, List.take_take]
      congr 1
      omega
    rw [e] at this
    rw [this]
    have hv : vl.getD j (0, 0, 0) = f xs[j] := by
      rw [← hf, List.getD_eq_getElem?_getD, List.getElem?_map, hx]
      rfl
    unfold vT vK vB
    rw [hv]
theorem VecsL.calls (w0 : World) : Calls Tryz.prog 41 #[] w0 fun e w' => ∃ v, e = .returned v ∧ ∃ g cap cur, v = .slice (some ⟨g, 0, none⟩) 21 cap ∧ w0.heap.size ≤ g ∧ w'.heap[g]? = some (.cells cur 63) ∧ VecAt cur ∧ Low w0 w' :=
  (detect_Vectors.calls 30 (vl.map fun x => ⟨x.1, x.2.1, x.2.2⟩) w0 (by kernel_rfl)).mono fun e w' ⟨v, he, hR, hb⟩ => by
    obtain ⟨g, cap, cur, h1, h2, h3, h4⟩ := vecAt_of (by simp [vl]) hR.2 (fun x : S63 => (x.f0, x.f1, x.f2)) (fun x cs h => k63_openM h) (by rfl)
    exact ⟨v, he, g, cap, cur, h1, h2, h3, h4, hb⟩
theorem VecsR.calls (w0 : World) : Calls Tryz.prog 52 #[] w0 fun e w' => ∃ v, e = .returned v ∧ ∃ g cap cur, v = .slice (some ⟨g, 0, none⟩) 21 cap ∧ w0.heap.size ≤ g ∧ w'.heap[g]? = some (.cells cur 84) ∧ VecAt cur ∧ Low w0 w' :=
  (diptychref05_Vectors.calls (vl.map fun x => ⟨x.1, x.2.1, x.2.2⟩) w0 rfl).mono fun e w' ⟨v, he, hR, hb⟩ => by
    obtain ⟨g, cap, cur, h1, h2, h3, h4⟩ := vecAt_of (by simp [vl]) hR.2 (fun x : S84 => (x.f0, x.f1, x.f2)) (fun x cs h => k84_openM h) (by rfl)
    exact ⟨v, he, g, cap, cur, h1, h2, h3, h4, hb⟩
/-- the first k differences, one behind the other -/
def AL (j : Nat) : List Int := differenceL (vT j) (vK j) (vB j)
theorem AL_len (j : Nat) : (AL j).length = 80 := differenceL_len _ _ _
def flatAL : Nat → List Int
  | 0 => []
  | k + 1 => flatAL k ++ AL k
theorem flatAL_len : ∀ k, (flatAL k).length = 80 * k
  | 0 => rfl
  | k + 1 => by rw [flatAL, List.length_append, flatAL_len k, AL_len]; omega
theorem flatAL_get : ∀ n i j, i < n → j < 80 → (flatAL n)[i * 80 + j]? = (AL i)[j]?
  | 0, i, j, h, _ => absurd h (Nat.not_lt_zero i)
  | n + 1, i, j, h, hj => by
    rw [flatAL]
    rcases Nat.lt_succ_iff_lt_or_eq.1 h with h' | h'
    · rw [List.getElem?_append_left (by rw [flatAL_len]; omega)]
      exact flatAL_get n i j h' hj
    · subst h'
      rw [List.getElem?_append_right (by rw [flatAL_len]; omega), flatAL_len]
      congr 1
      omega
def AllAt (cur : Array Value) : Prop := ∀ i j, i < 21 → j < 80 → cur[i * 80 + j]? = some (.int .u32 ((AL i).getD j 0))
theorem allAt_of {w : World} {B : Nat} {E : TypeId} {v : Value} (h : OwnW w B E v 21 (flatAL 21)) : ∃ g cap cur, v = .slice (some ⟨g, 0, none⟩) 21 cap ∧ B ≤ g ∧ w.heap[g]? = some (.cells cur E) ∧ AllAt cur := by
  rcases h.2 with ⟨_, h0⟩ | ⟨g, cap, cur, rfl, hg, hh, hc, hm, hs, ht⟩
  · omega
  · refine ⟨g, cap, cur, rfl, hg, hh, fun i j hi hj => ?_⟩
    have h1 : (cur.toList.take (21 * 80))[i * 80 + j]? = ((flatAL 21).map (Value.int .u32))[i * 80 + j]? := by rw [ht]
    rw [List.getElem?_take, if_pos (by omega), List.getElem?_map, flatAL_get 21 i j hi hj] at h1
    rw [← Array.getElem?_toList, h1]
    have hj' : j < (AL i).length := by rw [AL_len]; exact hj
    simp [List.getD_eq_getElem?_getD, hj']
theorem AllAt.rd {w : World} {g : Nat} {cur : Array Value} {T : TypeId} (k : w.heap[g]? = some (.cells cur T)) (h : AllAt cur) {i : Nat} (hi : i < 21) : RdW w g (i * 80) (AL i) :=
  ⟨heap_lt k, fun j hj => by rw [cells_at k]; exact h i j hi (by rw [AL_len] at hj; exact hj)⟩
end Go.Proofs.YtfjhnnpdaggnbaaGreatDoor.Q
end
/-! V1 -/
section
namespace Go.Proofs.YtfjhnnpdaggnbaaGreatDoor.Q
open Go.RowKit Go.Proofs.YtfjhnnpdaggnbaaGreatDoor.P
set_option linter.unusedVariables false
set_option linter.unusedSimpArgs false
set_option maxRecDepth 100000
set_option maxHeartbeats 4000000
attribute [local irreducible] wpList wpQuiet qch Code.wp Oper.quiet Act.put At Region.wanted yielded
theorem zero63 : ∀ w, (zeroValue 63).run Tryz.prog w = .ok (.agg #[.int .i64 0, .int .i64 0, .int .i64 0]) w := fun w => by kernel_rfl
theorem words66 : wordsB Tryz.prog 66 = true := by kernel_rfl
theorem okV_v : ∀ i, i < 21 → okV (vT i) (vK i) (vB i) = true := by decide
def fB (s : ByteArray) (b : Nat) : ByteArray := (fillL s).extract (64 * b) (fillL s).size
theorem fillL_size (s : ByteArray) : (fillL s).size = s.size + 1 + (120 - (s.size + 1) % 64) % 64 + 8 := fL_size s 8
theorem fillL_mod (s : ByteArray) : (fillL s).size % 64 = 0 := by rw [fillL_size]; omega
theorem fB_zero (s : ByteArray) : fillL s = fB s 0 := by unfold fB; simp
theorem fB_size (s : ByteArray) (b : Nat) : (fB s b).size = (fillL s).size - 64 * b := by rw [fB, ByteArray.size_extract]; omega
theorem fB_next (s : ByteArray) (b : Nat) (h : b < (fillL s).size / 64) : (fB s b).extract 64 (fB s b).size = fB s (b + 1) := by
  rw [fB_size]
  unfold fB
  rw [ByteArray.extract_extract]
  congr 1
  omega
theorem fB_ne (s : ByteArray) (b : Nat) (h : b < (fillL s).size / 64) : (!((fB s b).toList == (⟨#[]⟩ : ByteArray).toList)) = true := by
  have hne : (fB s b).toList ≠ (⟨#[]⟩ : ByteArray).toList := fun e => by
    have h1 := congrArg List.length e
    rw [Lib.toList_data, Lib.toList_data, Array.length_toList, Array.length_toList] at h1
    have h2 : (fB s b).size = 0 := h1
    rw [fB_size] at h2
    omega
  simpa using hne
theorem fB_no (s : ByteArray) : (!((fB s ((fillL s).size / 64)).toList == (⟨#[]⟩ : ByteArray).toList)) = false := by
  have h0 : (fB s ((fillL s).size / 64)) = ⟨#[]⟩ := by
    have h1 := fB_size s ((fillL s).size / 64)
    have h2 := fillL_mod s
    have h3 : (fB s ((fillL s).size / 64)).size = 0 := by omega
    generalize fB s ((fillL s).size / 64) = x at h3
    obtain ⟨⟨l⟩⟩ := x
    have h4 : l.length = 0 := h3
    rw [List.eq_nil_of_length_eq_zero h4]
  rw [h0]
  simp
def cS (s : ByteArray) : Nat → Ch
  | 0 => first
  | b + 1 => prL (cS s b) (fB s b)
def mrow (s : ByteArray) (b : Nat) (m0 : Bool) : Nat → Bool
  | 0 => m0
  | i + 1 => mrow s b m0 i || meetsL (cS s b) (expandL (fB s b)) (AL i)
def mblk (s : ByteArray) : Nat → Bool
  | 0 => false
  | b + 1 => mrow s b (mblk s b) 21
theorem mrow_yes {s : ByteArray} {b : Nat} {m0 : Bool} {i : Nat} (h : mrow s b m0 i = true) : true = mrow s b m0 (i + 1) := by rw [mrow, h]; rfl
theorem mrow_no {s : ByteArray} {b : Nat} {m0 : Bool} {i : Nat} (h : mrow s b m0 i = false) : meetsL (cS s b) (expandL (fB s b)) (AL i) = mrow s b m0 (i + 1) := by rw [mrow, h]; rfl
theorem ScanL.calls (s : ByteArray) (hs : s.size ≤ 140737488350000) (w0 : World) : Calls Tryz.prog 26 #[.string s] w0 fun e w' => e = .returned (.tuple #[.string (sumL s), .bool (mblk s ((fillL s).size / 64))]) ∧ Low w0 w' := by
 refine c_fun (R := _) Tryz.func26 rfl 54 rfl (Nat.le_of_ble_eq_true rfl) ?_
 intro a z hA
 have s0 := hA 0 _ rfl
 clear hA
 refine c_seq (c_region ?_)
 refine l_q rfl (q_assign _ _ rfl rfl ?_)
 refine l_q rfl (q_assign _ _ rfl rfl ?_)
 refine l_end (e_fresh z.p2 ?_)
 intro a1 z1 m1
 have s0_1 := m1 _ _ (s0.n2)
 clear m1
 refine e_then (c_seq (c_region ?_))
 refine l_q rfl (q_assign _ _ rfl rfl ?_)
 refine l_end (e_fresh z1.put ?_)
 intro a2 z2 m2
 have s0_2 := m2 _ _ (s0_1.n1)
 have s4_2 := m2 _ _ (At.hit z1 rfl)
 clear m2
 refine e_then (c_seq (c_seq (c_region (l_call _ rfl rfl rfl Tryz.func41 rfl (show Array.map _ _ = (#[] : Array Value) from by simp) (VecsL.calls _) ?_))))
 rintro _ w3 ⟨gv, capv, curv, rfl, hgv, kv, hcv, h3⟩
 have gegv := Nat.le_trans (Low.refl _).ge hgv
 refine l_q rfl (q_lenL rfl rfl Tryz.underlying60 (At.hit z2 rfl).ev ?_)
 refine l_q rfl (q_move _ _ rfl rfl ?_)
 refine l_end (e_fresh z2.p3 ?_)
 intro a4 z4 m4
 have s0_4 := m4 _ _ (s0_2.n3)
 have s4_4 := m4 _ _ (s4_2.n3)
 have s12_4 := m4 _ _ ((At.hit z2 rfl).n2)
 have s13_4 := m4 _ _ ((At.hit z2.put rfl).n1)
 have s14_4 := m4 _ _ (At.hit z2.p2 rfl)
 have low4 := h3
 clear m4
 refine e_then (wp_block (c_loop 21 (fun k a w => ∃ v4 : Value, Fr 54 a ∧ At a 0 (.string s) ∧ At a 4 (v4) ∧ At a 12 (.slice (some ⟨gv, 0, none⟩) 21 capv) ∧ At a 13 (.int .i64 21) ∧ At a 14 (.int .i64 ((k : Nat) : Int)) ∧ w.heap[gv]? = some (.cells (curv) 63) ∧ OwnW w w0.heap.size 66 v4 k (flatAL k) ∧ Low w0 w) ?_ ?_ ?_))
 ·
  exact ⟨.slice none 0 0, z4, s0_4, s4_4, s12_4, s13_4, s14_4, kv, (OwnW.nil _ _ _), low4⟩
 ·
  intro k a5 w5 hk5 h
  obtain ⟨v4_5, z5, s0_5, s4_5, s12_5, s13_5, s14_5, kgv_5, ox4_5, low5⟩ := h
  clear kv low4 s0_4 s12_4 s13_4 s14_4 s4_4 z4
  refine c_seq (c_region ?_)
  refine l_q rfl (q_lss true rfl s14_5.ev s13_5.ev (decide_eq_true (by omega)) ?_)
  refine l_end (e_fresh z5.put ?_)
  intro a6 z6 m6
  have s0_6 := m6 _ _ (s0_5.n1)
  have s4_6 := m6 _ _ (s4_5.n1)
  have s12_6 := m6 _ _ (s12_5.n1)
  have s13_6 := m6 _ _ (s13_5.n1)
  have s14_6 := m6 _ _ (s14_5.n1)
  have s15_6 := m6 _ _ (At.hit z5 rfl)
  clear m6
  refine e_then (c_seq (c_true s15_6 ?_))
  refine wp_skip (e_then (c_seq (wp_block (c_seq (c_region ?_)))))
  refine l_q rfl (q_idxSz (j := k) (sz := 3) rfl Tryz.underlying60 sz63 s12_6.ev s14_6.ev (by omega) ?_)
  refine l_q rfl (q_mid (vs := #[.int .i64 (vT k), .int .i64 (vK k), .int .i64 (vB k)]) rfl Tryz.underlying63 rfl sz63 (At.hit z6 rfl).ev (fun _ e => by rw [e]; exact kgv_5) (hcv.2 k (by omega)) ?_)
  refine l_alloc rfl rfl zero63 ?_
  intro g6 w7 hg7 k7 h7
  have lt_gv_g6 := Nat.lt_of_lt_of_le (heap_lt kgv_5) hg7
  have geg6 := Nat.le_trans low5.ge hg7
  have kgv_7 := h7.blk kgv_5
  have ox4_7 := ox4_5.low h7
  refine l_row rfl rfl rfl (sz63.trans (congrArg some rfl.symm)) (At.hit z6.p2 rfl).ev ((At.hit z6.put rfl).n1).ev (by simp [Value.oneCell']) k7 (rfl.trans rfl.symm) ?_
  intro w8 k8 u8
  have ox4_8 := ox4_7.upd u8 k7 rfl
  have kgv_8 := u8.blk kgv_7 (by omega)
  refine l_end (e_fresh z6.p3 ?_)
  intro a9 z9 m9
  have s0_9 := m9 _ _ (s0_6.n3)
  have s4_9 := m9 _ _ (s4_6.n3)
  have s6_9 := m9 _ _ (At.hit z6.p2 rfl)
  have s12_9 := m9 _ _ (s12_6.n3)
  have s13_9 := m9 _ _ (s13_6.n3)
  have s14_9 := m9 _ _ (s14_6.n3)
  have low9 := ((low5.trans h7).upd u8 geg6)
  clear m9
  refine e_then (c_region ?_)
  refine l_q rfl (q_move _ _ rfl s4_9.ev ?_)
  refine l_q rfl (q_row rfl Tryz.underlying63 rfl (sz63.trans (congrArg some rfl.symm)) (s6_9.n1).ev (fun _ e => by rw [e]; exact k8) ?_)
  refine l_call (fun v w' => v = .agg (nums .u32 (AL k)) ∧ Low w8 w') rfl rfl rfl Tryz.func42 rfl (args1 rfl (At.hit z9.put rfl).ev) ((DifferenceL.calls (vT k) (vK k) (vB k) (okV_v k (by omega)) _).mono fun _ _ ⟨e, k⟩ => ⟨_, e, rfl, k⟩) ?_
  rintro _ w10 ⟨rfl, h10⟩
  have kgv_10 := h10.blk kgv_8
  have kg6_10 := h10.blk k8
  have ox4_10 := ox4_8.low h10
  refine l_buildW rfl rfl Tryz.underlying59 words66 (At.hit z9.p2 rfl).ev (AL_len k) ?_
  intro g21_11 w11 hg11 k11 h11
  have lt_gv_g21_11 := Nat.lt_of_lt_of_le (heap_lt kgv_10) hg11
  have lt_g6_g21_11 := Nat.lt_of_lt_of_le (heap_lt kg6_10) hg11
  have geg21_11 := Nat.le_trans (low9.trans h10).ge hg11
  have kgv_11 := h11.blk kgv_10
  have kg6_11 := h11.blk kg6_10
  have ox4_11 := ox4_10.low h11
  refine l_appW (B := w0.heap.size) rfl rfl Tryz.underlying59 words66 ((At.hit z9 rfl).n3).ev (At.hit z9.p3 rfl).ev k11 (AL_len k) ox4_11 ((low9.trans h10).trans h11).ge (by omega) ?_
  intro v12 w12 o12 gr12
  have kgv_12 := gr12.blk kgv_11 rfl
  have kg6_12 := gr12.blk kg6_11 rfl
  have lw12 := ((low9.trans h10).trans h11).grw gr12
  refine l_q rfl (q_assign _ _ rfl (At.hit z9.p4 rfl).ev ?_)
  refine l_end (e_fresh z9.p6 ?_)
  intro a13 z13 m13
  have s0_13 := m13 _ _ (s0_9.n6)
  have s4_13 := m13 _ _ (At.hit z9.p5 rfl)
  have s12_13 := m13 _ _ (s12_9.n6)
  have s13_13 := m13 _ _ (s13_9.n6)
  have s14_13 := m13 _ _ (s14_9.n6)
  have low13 := lw12
  clear m13
  refine e_in (e_then (c_region ?_))
  refine l_q rfl (q_add (((k + 1 : Nat) : Int)) rfl s14_13.ev rfl (i64_is (by omega) (by omega) (by omega)) ?_)
  refine l_q rfl (q_move _ _ rfl (At.hit z13 rfl).ev ?_)
  refine l_end (e_fresh z13.p2 ?_)
  intro a14 z14 m14
  have s0_14 := m14 _ _ (s0_13.n2)
  have s4_14 := m14 _ _ (s4_13.n2)
  have s12_14 := m14 _ _ (s12_13.n2)
  have s13_14 := m14 _ _ (s13_13.n2)
  have s14_14 := m14 _ _ (At.hit z13.put rfl)
  clear m14
  exact ⟨v12, z14, s0_14, s4_14, s12_14, s13_14, s14_14, kgv_12, o12, low13⟩
 ·
  intro a15 w15 h
  obtain ⟨v4_15, z15, s0_15, s4_15, s12_15, s13_15, s14_15, kgv_15, ox4_15, low15⟩ := h
  clear kv low4 s0_4 s12_4 s13_4 s14_4 s4_4 z4
  refine c_seq (c_region ?_)
  refine l_q rfl (q_lss false rfl s14_15.ev s13_15.ev (decide_eq_false (by omega)) ?_)
  refine l_end (e_fresh z15.put ?_)
  intro a16 z16 m16
  have s0_16 := m16 _ _ (s0_15.n1)
  have s4_16 := m16 _ _ (s4_15.n1)
  have s12_16 := m16 _ _ (s12_15.n1)
  have s14_16 := m16 _ _ (s14_15.n1)
  have s15_16 := m16 _ _ (At.hit z15 rfl)
  clear m16
  refine e_then (c_seq (c_false s15_16 ?_))
  refine wp_exit (x_then (x_then (in_exit (e_then (c_seq ?_)))))
  obtain ⟨ga, capa, cura, ea, hga, ka, hca⟩ := allAt_of ox4_15
  subst ea
  refine c_region (l_call (fun v w' => v = .agg (nums .u32 (cl first)) ∧ Low w15 w') rfl rfl rfl Tryz.func43 rfl (show Array.map _ _ = (#[] : Array Value) from by simp) ((FirstL.calls _).mono fun _ _ ⟨e, k⟩ => ⟨_, e, rfl, k⟩) ?_)
  rintro _ w17 ⟨rfl, h17⟩
  have kgv_17 := h17.blk kgv_15
  have kga_17 := h17.blk ka
  refine l_alloc rfl rfl zero69 ?_
  intro g7 w18 hg18 k18 h18
  have lt_gv_g7 := Nat.lt_of_lt_of_le (heap_lt kgv_17) hg18
  have lt_ga_g7 := Nat.lt_of_lt_of_le (heap_lt kga_17) hg18
  have geg7 := Nat.le_trans (low15.trans h17).ge hg18
  have kgv_18 := h18.blk kgv_17
  have kga_18 := h18.blk kga_17
  refine l_row rfl rfl rfl (sz69.trans (congrArg some ((nums_size _ _).trans (cl_len first)).symm)) (At.hit z16.put rfl).ev ((At.hit z16 rfl).n1).ev (nums_one _ _) k18 (((nums_size _ _).trans (List.length_replicate)).trans ((nums_size _ _).trans (cl_len first)).symm) ?_
  intro w19 k19 u19
  have kgv_19 := u19.blk kgv_18 (by omega)
  have kga_19 := u19.blk kga_18 (by omega)
  refine l_end (e_fresh z16.p2 ?_)
  intro a20 z20 m20
  have s0_20 := m20 _ _ (s0_16.n2)
  have s4_20 := m20 _ _ (s4_16.n2)
  have s7_20 := m20 _ _ (At.hit z16.put rfl)
  have low20 := (((low15.trans h17).trans h18).upd u19 geg7)
  clear m20
  refine e_then (c_seq (c_region ?_))
  refine l_q rfl (q_assign _ _ rfl rfl ?_)
  refine l_end (e_fresh z20.put ?_)
  intro a21 z21 m21
  have s0_21 := m21 _ _ (s0_20.n1)
  have s4_21 := m21 _ _ (s4_20.n1)
  have s7_21 := m21 _ _ (s7_20.n1)
  have s8_21 := m21 _ _ (At.hit z20 rfl)
  clear m21
  refine e_then (c_seq (c_seq (c_region ?_)))
  refine l_q rfl (q_move _ _ rfl s0_21.ev ?_)
  refine l_call (fun v w' => v = .string (fillL s) ∧ Low w19 w') rfl rfl rfl Tryz.func44 rfl (args1 rfl (At.hit z21 rfl).ev) ((FillL.calls s hs _).mono fun _ _ ⟨e, k⟩ => ⟨_, e, rfl, k⟩) ?_
  rintro _ w22 ⟨rfl, h22⟩
  have kga_22 := h22.blk kga_19
  have kg7_22 := h22.blk k19
  refine l_q rfl (q_assign _ _ rfl (At.hit z21.put rfl).ev ?_)
  refine l_end (e_fresh z21.p3 ?_)
  intro a23 z23 m23
  have s0_23 := m23 _ _ (s0_21.n3)
  have s4_23 := m23 _ _ (s4_21.n3)
  have s7_23 := m23 _ _ (s7_21.n3)
  have s8_23 := m23 _ _ (s8_21.n3)
  have s9_23 := m23 _ _ (At.hit z21.p2 rfl)
  have low23 := (low20.trans h22)
  clear m23
  refine e_then (wp_block (c_loop ((fillL s).size / 64) (fun b a w => Fr 54 a ∧ At a 0 (.string s) ∧ At a 4 (.slice (some ⟨ga, 0, none⟩) 21 capa) ∧ At a 7 (.pointer (some ⟨g7, 0, none⟩)) ∧ At a 8 (.bool (mblk s b)) ∧ At a 9 (.string (fB s b)) ∧ w.heap[g7]? = some (.cells (nums .u32 (cl (cS s b))) 69) ∧ w.heap[ga]? = some (.cells (cura) 66) ∧ Low w0 w) ?_ ?_ ?_))
  ·
   exact ⟨z23, s0_23, s4_23, s7_23, s8_23, (s9_23.same (congrArg Value.string (fB_zero s))), kg7_22, kga_22, low23⟩
  ·
   intro b a24 w24 hk24 h
   obtain ⟨z24, s0_24, s4_24, s7_24, s8_24, s9_24, kg7_24, kga_24, low24⟩ := h
   clear kg7_22 kga_22 low23 s0_23 s4_23 s7_23 s8_23 z23
   have hfb := fB_size s b
   have hfs := fillL_size s
   refine c_seq (c_seq (c_region ?_))
   refine l_q rfl (q_move _ _ rfl s9_24.ev ?_)
   refine l_q rfl (q_strne true rfl (At.hit z24 rfl).ev rfl (fB_ne s b (by assumption)) ?_)
   refine l_end (e_fresh z24.p2 ?_)
   intro a25 z25 m25
   have s0_25 := m25 _ _ (s0_24.n2)
   have s4_25 := m25 _ _ (s4_24.n2)
   have s7_25 := m25 _ _ (s7_24.n2)
   have s8_25 := m25 _ _ (s8_24.n2)
   have s9_25 := m25 _ _ (s9_24.n2)
   have s28_25 := m25 _ _ (At.hit z24.put rfl)
   clear m25
   refine e_then (c_true s28_25 ?_)
   refine wp_skip (e_then (c_seq (wp_block (c_seq (c_region ?_)))))
   refine l_q rfl (q_move _ _ rfl s9_25.ev ?_)
   refine l_call (fun v w' => v = .agg (nums .u32 (expandL (fB s b))) ∧ Low w24 w') rfl rfl rfl Tryz.func45 rfl (args1 rfl (At.hit z25 rfl).ev) ((ExpandL.calls (fB s b) (by omega) _).mono fun _ _ ⟨e, k⟩ => ⟨_, e, rfl, k⟩) ?_
   rintro _ w26 ⟨rfl, h26⟩
   have kg7_26 := h26.blk kg7_24
   have kga_26 := h26.blk kga_24
   refine l_alloc rfl rfl zero66 ?_
   intro g10 w27 hg27 k27 h27
   have lt_g7_g10 := Nat.lt_of_lt_of_le (heap_lt kg7_26) hg27
   have lt_ga_g10 := Nat.lt_of_lt_of_le (heap_lt kga_26) hg27
   have geg10 := Nat.le_trans (low24.trans h26).ge hg27
   have kg7_27 := h27.blk kg7_26
   have kga_27 := h27.blk kga_26
   refine l_row rfl rfl rfl (sz66.trans (congrArg some ((nums_size _ _).trans (expandL_len _)).symm)) (At.hit z25.p2 rfl).ev ((At.hit z25.put rfl).n1).ev (nums_one _ _) k27 (((nums_size _ _).trans (List.length_replicate)).trans ((nums_size _ _).trans (expandL_len _)).symm) ?_
   intro w28 k28 u28
   have kg7_28 := u28.blk kg7_27 (by omega)
   have kga_28 := u28.blk kga_27 (by omega)
   refine l_end (e_fresh z25.p3 ?_)
   intro a29 z29 m29
   have s0_29 := m29 _ _ (s0_25.n3)
   have s4_29 := m29 _ _ (s4_25.n3)
   have s7_29 := m29 _ _ (s7_25.n3)
   have s8_29 := m29 _ _ (s8_25.n3)
   have s9_29 := m29 _ _ (s9_25.n3)
   have s10_29 := m29 _ _ (At.hit z25.p2 rfl)
   have low29 := (((low24.trans h26).trans h27).upd u28 geg10)
   clear m29
   refine e_then (c_seq (c_seq (c_region ?_)))
   refine l_q rfl (q_move _ _ rfl s4_29.ev ?_)
   refine l_q rfl (q_lenL rfl rfl Tryz.underlying59 (At.hit z29 rfl).ev ?_)
   refine l_q rfl (q_move _ _ rfl rfl ?_)
   refine l_end (e_fresh z29.p3 ?_)
   intro a30 z30 m30
   have s0_30 := m30 _ _ (s0_29.n3)
   have s4_30 := m30 _ _ (s4_29.n3)
   have s7_30 := m30 _ _ (s7_29.n3)
   have s8_30 := m30 _ _ (s8_29.n3)
   have s9_30 := m30 _ _ (s9_29.n3)
   have s10_30 := m30 _ _ (s10_29.n3)
   have s34_30 := m30 _ _ ((At.hit z29.put rfl).n1)
   have s35_30 := m30 _ _ (At.hit z29.p2 rfl)
   clear m30
   refine e_then (wp_block (c_loop 21 (fun i a w => Fr 54 a ∧ At a 0 (.string s) ∧ At a 4 (.slice (some ⟨ga, 0, none⟩) 21 capa) ∧ At a 7 (.pointer (some ⟨g7, 0, none⟩)) ∧ At a 8 (.bool (mrow s b (mblk s b) i)) ∧ At a 9 (.string (fB s b)) ∧ At a 10 (.pointer (some ⟨g10, 0, none⟩)) ∧ At a 34 (.int .i64 21) ∧ At a 35 (.int .i64 ((i : Nat) : Int)) ∧ w.heap[g10]? = some (.cells (nums .u32 (expandL (fB s b))) 66) ∧ w.heap[g7]? = some (.cells (nums .u32 (cl (cS s b))) 69) ∧ w.heap[ga]? = some (.cells (cura) 66) ∧ Low w0 w) ?_ ?_ ?_))
   ·
    exact ⟨z30, s0_30, s4_30, s7_30, s8_30, s9_30, s10_30, s34_30, s35_30, k28, kg7_28, kga_28, low29⟩
   ·
    intro i a31 w31 hk31 h
    obtain ⟨z31, s0_31, s4_31, s7_31, s8_31, s9_31, s10_31, s34_31, s35_31, kg10_31, kg7_31, kga_31, low31⟩ := h
    clear k28 kg7_28 kga_28 low29 s0_30 s10_30 s34_30 s35_30 s4_30 s7_30 s8_30 s9_30 z30
    refine c_seq (c_region ?_)
    refine l_q rfl (q_lss true rfl s35_31.ev s34_31.ev (decide_eq_true (by omega)) ?_)
    refine l_end (e_fresh z31.put ?_)
    intro a32 z32 m32
    have s0_32 := m32 _ _ (s0_31.n1)
    have s4_32 := m32 _ _ (s4_31.n1)
    have s7_32 := m32 _ _ (s7_31.n1)
    have s8_32 := m32 _ _ (s8_31.n1)
    have s9_32 := m32 _ _ (s9_31.n1)
    have s10_32 := m32 _ _ (s10_31.n1)
    have s34_32 := m32 _ _ (s34_31.n1)
    have s35_32 := m32 _ _ (s35_31.n1)
    have s36_32 := m32 _ _ (At.hit z31 rfl)
    clear m32
    refine e_then (c_seq (c_true s36_32 ?_))
    refine wp_skip (e_then (c_seq (wp_block (c_seq (c_region ?_)))))
    refine l_q rfl (q_move _ _ rfl s35_32.ev ?_)
    refine l_q rfl (q_assign _ _ rfl (At.hit z32 rfl).ev ?_)
    refine l_end (e_fresh z32.p2 ?_)
    intro a33 z33 m33
    have s0_33 := m33 _ _ (s0_32.n2)
    have s4_33 := m33 _ _ (s4_32.n2)
    have s7_33 := m33 _ _ (s7_32.n2)
    have s8_33 := m33 _ _ (s8_32.n2)
    have s9_33 := m33 _ _ (s9_32.n2)
    have s10_33 := m33 _ _ (s10_32.n2)
    have s11_33 := m33 _ _ (At.hit z32.put rfl)
    have s34_33 := m33 _ _ (s34_32.n2)
    have s35_33 := m33 _ _ (s35_32.n2)
    clear m33
    refine e_then ?_
    cases hc34 : mrow s b (mblk s b) i with
    | true =>
     have hs34 := s8_33.same (congrArg Value.bool hc34)
     refine region_lowg hm (by kernel_rfl) ?_
     refine gs rfl (q_move _ _ rfl hs34.ev ?_)
     refine gs rfl (q_move _ _ rfl (At.hit z33 rfl).ev ?_)
     refine gsk (wanted_is (j := 1) (d := 39) (b := true) rfl rfl (At.hit z33.put rfl) rfl) ?_
     refine gsk (wanted_is (j := 1) (d := 39) (b := true) rfl rfl ((At.hit z33.put rfl).n1) rfl) ?_
     refine gsk (wanted_is (j := 1) (d := 39) (b := true) rfl rfl ((At.hit z33.put rfl).n2) rfl) ?_
     refine gsk (wanted_is (j := 1) (d := 39) (b := true) rfl rfl ((At.hit z33.put rfl).n3) rfl) ?_
     refine gsk (wanted_is (j := 1) (d := 39) (b := true) rfl rfl ((At.hit z33.put rfl).n4) rfl) ?_
     refine gs rfl (q_pick (b := true) (.bool true) rfl ((At.hit z33.put rfl).n5).ev rfl ?_)
     refine g_fresh z33.p8 ?_
     intro a35 z35 m35
     have s0_35 := m35 _ _ (s0_33.n8)
     have s4_35 := m35 _ _ (s4_33.n8)
     have s7_35 := m35 _ _ (s7_33.n8)
     have s8_35 := m35 _ _ (hs34.n8)
     have s9_35 := m35 _ _ (s9_33.n8)
     have s10_35 := m35 _ _ (s10_33.n8)
     have s34_35 := m35 _ _ (s34_33.n8)
     have s35_35 := m35 _ _ (s35_33.n8)
     have s45_35 := m35 _ _ (At.hit z33.p7 rfl)
     clear m35
     refine gs rfl (q_assign _ _ rfl s45_35.ev ?_)
     refine gz ?_
     intro w36 h36
     have kg10_36 := h36.blk kg10_31
     have kg7_36 := h36.blk kg7_31
     have kga_36 := h36.blk kga_31
     refine e_id (e_fresh z35.put ?_)
     intro a37 z37 m37
     have s0_37 := m37 _ _ (s0_35.n1)
     have s4_37 := m37 _ _ (s4_35.n1)
     have s7_37 := m37 _ _ (s7_35.n1)
     have s8_37 := m37 _ _ (At.hit z35 rfl)
     have s9_37 := m37 _ _ (s9_35.n1)
     have s10_37 := m37 _ _ (s10_35.n1)
     have s34_37 := m37 _ _ (s34_35.n1)
     have s35_37 := m37 _ _ (s35_35.n1)
     have low37 := (low31.trans h36)
     clear m37
     refine e_in (e_then (c_region ?_))
     refine l_q rfl (q_add (((i + 1 : Nat) : Int)) rfl s35_37.ev rfl (i64_is (by omega) (by omega) (by omega)) ?_)
     refine l_q rfl (q_move _ _ rfl (At.hit z37 rfl).ev ?_)
     refine l_end (e_fresh z37.p2 ?_)
     intro a38 z38 m38
     have s0_38 := m38 _ _ (s0_37.n2)
     have s4_38 := m38 _ _ (s4_37.n2)
     have s7_38 := m38 _ _ (s7_37.n2)
     have s8_38 := m38 _ _ (s8_37.n2)
     have s9_38 := m38 _ _ (s9_37.n2)
     have s10_38 := m38 _ _ (s10_37.n2)
     have s34_38 := m38 _ _ (s34_37.n2)
     have s35_38 := m38 _ _ (At.hit z37.put rfl)
     clear m38
     exact ⟨z38, s0_38, s4_38, s7_38, (s8_38.same (congrArg Value.bool (mrow_yes hc34))), s9_38, s10_38, s34_38, s35_38, kg10_36, kg7_36, kga_36, low37⟩
    | false =>
     have hs34 := s8_33.same (congrArg Value.bool hc34)
     refine region_lowg hm (by kernel_rfl) ?_
     refine gs rfl (q_move _ _ rfl hs34.ev ?_)
     refine gs rfl (q_move _ _ rfl (At.hit z33 rfl).ev ?_)
     refine gsg (wanted_is (j := 1) (d := 39) (b := false) rfl rfl (At.hit z33.put rfl) rfl) (q_row rfl Tryz.underlying69 rfl (sz69.trans (congrArg some ((nums_size _ _).trans (cl_len (cS s b))).symm)) (s7_33.n2).ev (fun _ h => h.blk kg7_31) ?_)
     refine gsg (wanted_is (j := 1) (d := 39) (b := false) rfl rfl ((At.hit z33.put rfl).n1) rfl) (q_move _ _ rfl (s4_33.n3).ev ?_)
     refine gsg (wanted_is (j := 1) (d := 39) (b := false) rfl rfl ((At.hit z33.put rfl).n2) rfl) (q_move _ _ rfl (s11_33.n4).ev ?_)
     refine gsg (wanted_is (j := 1) (d := 39) (b := false) rfl rfl ((At.hit z33.put rfl).n3) rfl) (q_idxSz (j := i) (sz := 80) rfl Tryz.underlying59 sz66 ((At.hit z33.p3 rfl).n1).ev (At.hit z33.p4 rfl).ev (by omega) ?_)
     refine gsg (wanted_is (j := 1) (d := 39) (b := false) rfl rfl ((At.hit z33.put rfl).n4) rfl) (q_call (.bool (meetsL (cS s b) (expandL (fB s b)) (AL i))) rfl rfl Tryz.func46 rfl (args3 rfl ((At.hit z33.p2 rfl).n3).ev (s10_33.n6).ev (At.hit z33.p5 rfl).ev) (fun _ h => (MeetsL.calls (cS s b) (expandL (fB s b)) (AL i) (expandL_len _) (AL_len i) g10 ga (i * 80) _ (h.blk kg10_31) (AllAt.rd (h.blk kga_31) hca (by omega))).mono fun _ _ ⟨e, k⟩ => ⟨e, h.trans k⟩) ?_)
     refine gs rfl (q_pick (b := false) (.bool (meetsL (cS s b) (expandL (fB s b)) (AL i))) rfl ((At.hit z33.put rfl).n5).ev (At.hit z33.p6 rfl).ev ?_)
     refine g_fresh z33.p8 ?_
     intro a39 z39 m39
     have s0_39 := m39 _ _ (s0_33.n8)
     have s4_39 := m39 _ _ (s4_33.n8)
     have s7_39 := m39 _ _ (s7_33.n8)
     have s8_39 := m39 _ _ (hs34.n8)
     have s9_39 := m39 _ _ (s9_33.n8)
     have s10_39 := m39 _ _ (s10_33.n8)
     have s34_39 := m39 _ _ (s34_33.n8)
     have s35_39 := m39 _ _ (s35_33.n8)
     have s45_39 := m39 _ _ (At.hit z33.p7 rfl)
     clear m39
     refine gs rfl (q_assign _ _ rfl s45_39.ev ?_)
     refine gz ?_
     intro w40 h40
     have kg10_40 := h40.blk kg10_31
     have kg7_40 := h40.blk kg7_31
     have kga_40 := h40.blk kga_31
     refine e_id (e_fresh z39.put ?_)
     intro a41 z41 m41
     have s0_41 := m41 _ _ (s0_39.n1)
     have s4_41 := m41 _ _ (s4_39.n1)
     have s7_41 := m41 _ _ (s7_39.n1)
     have s8_41 := m41 _ _ (At.hit z39 rfl)
     have s9_41 := m41 _ _ (s9_39.n1)
     have s10_41 := m41 _ _ (s10_39.n1)
     have s34_41 := m41 _ _ (s34_39.n1)
     have s35_41 := m41 _ _ (s35_39.n1)
     have low41 := (low31.trans h40)
     clear m41
     refine e_in (e_then (c_region ?_))
     refine l_q rfl (q_add (((i + 1 : Nat) : Int)) rfl s35_41.ev rfl (i64_is (by omega) (by omega) (by omega)) ?_)
     refine l_q rfl (q_move _ _ rfl (At.hit z41 rfl).ev ?_)
     refine l_end (e_fresh z41.p2 ?_)
     intro a42 z42 m42
     have s0_42 := m42 _ _ (s0_41.n2)
     have s4_42 := m42 _ _ (s4_41.n2)
     have s7_42 := m42 _ _ (s7_41.n2)
     have s8_42 := m42 _ _ (s8_41.n2)
     have s9_42 := m42 _ _ (s9_41.n2)
     have s10_42 := m42 _ _ (s10_41.n2)
     have s34_42 := m42 _ _ (s34_41.n2)
     have s35_42 := m42 _ _ (At.hit z41.put rfl)
     clear m42
     exact ⟨z42, s0_42, s4_42, s7_42, (s8_42.same (congrArg Value.bool (mrow_no hc34))), s9_42, s10_42, s34_42, s35_42, kg10_40, kg7_40, kga_40, low41⟩
   ·
    intro a43 w43 h
    obtain ⟨z43, s0_43, s4_43, s7_43, s8_43, s9_43, s10_43, s34_43, s35_43, kg10_43, kg7_43, kga_43, low43⟩ := h
    clear k28 kg7_28 kga_28 low29 s0_30 s10_30 s34_30 s35_30 s4_30 s7_30 s8_30 s9_30 z30
    refine c_seq (c_region ?_)
    refine l_q rfl (q_lss false rfl s35_43.ev s34_43.ev (decide_eq_false (by omega)) ?_)
    refine l_end (e_fresh z43.put ?_)
    intro a44 z44 m44
    have s0_44 := m44 _ _ (s0_43.n1)
    have s4_44 := m44 _ _ (s4_43.n1)
    have s7_44 := m44 _ _ (s7_43.n1)
    have s8_44 := m44 _ _ (s8_43.n1)
    have s9_44 := m44 _ _ (s9_43.n1)
    have s10_44 := m44 _ _ (s10_43.n1)
    have s35_44 := m44 _ _ (s35_43.n1)
    have s36_44 := m44 _ _ (At.hit z43 rfl)
    clear m44
    refine e_then (c_seq (c_false s36_44 ?_))
    refine wp_exit (x_then (x_then (in_exit (e_then (c_region ?_)))))
    refine l_q rfl (q_row rfl Tryz.underlying69 rfl (sz69.trans (congrArg some ((nums_size _ _).trans (cl_len (cS s b))).symm)) s7_44.ev (fun _ e => by rw [e]; exact kg7_43) ?_)
    refine l_q rfl (q_move _ _ rfl (s9_44.n1).ev ?_)
    refine l_call (fun v w' => v = .agg (nums .u32 (cl (prL (cS s b) (fB s b)))) ∧ Low w43 w') rfl rfl rfl Tryz.func47 rfl (args2 rfl ((At.hit z44 rfl).n1).ev (At.hit z44.put rfl).ev) ((PrL.calls (cS s b) (fB s b) (by omega) _).mono fun _ _ ⟨e, k⟩ => ⟨_, e, rfl, k⟩) ?_
    rintro _ w45 ⟨rfl, h45⟩
    have kg10_45 := h45.blk kg10_43
    have kg7_45 := h45.blk kg7_43
    have kga_45 := h45.blk kga_43
    refine l_row rfl rfl rfl (sz69.trans (congrArg some ((nums_size _ _).trans (cl_len (prL (cS s b) (fB s b)))).symm)) (s7_44.n3).ev (At.hit z44.p2 rfl).ev (nums_one _ _) kg7_45 (((nums_size _ _).trans (cl_len (cS s b))).trans ((nums_size _ _).trans (cl_len (prL (cS s b) (fB s b)))).symm) ?_
    intro w46 k46 u46
    have kg10_46 := u46.blk kg10_45 (by omega)
    have kga_46 := u46.blk kga_45 (by omega)
    refine l_end (e_fresh z44.p3 ?_)
    intro a47 z47 m47
    have s0_47 := m47 _ _ (s0_44.n3)
    have s4_47 := m47 _ _ (s4_44.n3)
    have s7_47 := m47 _ _ (s7_44.n3)
    have s8_47 := m47 _ _ (s8_44.n3)
    have s9_47 := m47 _ _ (s9_44.n3)
    have low47 := ((low43.trans h45).upd u46 geg7)
    clear m47
    refine e_in (e_then (c_region ?_))
    refine l_q rfl (q_move _ _ rfl s9_47.ev ?_)
    refine l_q rfl (q_cutlo (j := 64) rfl Tryz.underlying9 (At.hit z47 rfl).ev rfl (by omega) ?_)
    refine l_q rfl (q_assign _ _ rfl (At.hit z47.put rfl).ev ?_)
    refine l_end (e_fresh z47.p3 ?_)
    intro a48 z48 m48
    have s0_48 := m48 _ _ (s0_47.n3)
    have s4_48 := m48 _ _ (s4_47.n3)
    have s7_48 := m48 _ _ (s7_47.n3)
    have s8_48 := m48 _ _ (s8_47.n3)
    have s9_48 := m48 _ _ (At.hit z47.p2 rfl)
    clear m48
    exact ⟨z48, s0_48, s4_48, s7_48, s8_48, (s9_48.same (congrArg Value.string (fB_next s b (by assumption)))), k46, kga_46, low47⟩
  ·
   intro a49 w49 h
   obtain ⟨z49, s0_49, s4_49, s7_49, s8_49, s9_49, kg7_49, kga_49, low49⟩ := h
   clear kg7_22 kga_22 low23 s0_23 s4_23 s7_23 s8_23 z23
   refine c_seq (c_seq (c_region ?_))
   refine l_q rfl (q_move _ _ rfl s9_49.ev ?_)
   refine l_q rfl (q_strne false rfl (At.hit z49 rfl).ev rfl (fB_no s) ?_)
   refine l_end (e_fresh z49.p2 ?_)
   intro a50 z50 m50
   have s0_50 := m50 _ _ (s0_49.n2)
   have s4_50 := m50 _ _ (s4_49.n2)
   have s7_50 := m50 _ _ (s7_49.n2)
   have s8_50 := m50 _ _ (s8_49.n2)
   have s9_50 := m50 _ _ (s9_49.n2)
   have s28_50 := m50 _ _ (At.hit z49.put rfl)
   clear m50
   refine e_then (c_false s28_50 ?_)
   refine wp_exit (x_then (x_then (in_exit (e_then (c_seq (c_region ?_))))))
   refine l_q rfl (q_move _ _ rfl s0_50.ev ?_)
   refine l_buildT1 rfl rfl Tryz.underlying51 str9 (At.hit z50 rfl).ev ?_
   intro g51_51 w51 hg51 k51 h51
   have lt_g7_g51_51 := Nat.lt_of_lt_of_le (heap_lt kg7_49) hg51
   have lt_ga_g51_51 := Nat.lt_of_lt_of_le (heap_lt kga_49) hg51
   have geg51_51 := Nat.le_trans low49.ge hg51
   have kg7_51 := h51.blk kg7_49
   have kga_51 := h51.blk kga_49
   refine l_call (fun v w' => v = .string (sumL s) ∧ Low w51 w') rfl rfl rfl Tryz.func48 rfl (args1 rfl (At.hit z50.put rfl).ev) ((SumL.calls s hs g51_51 _ k51).mono fun _ _ ⟨e, k⟩ => ⟨_, e, rfl, k⟩) ?_
   rintro _ w52 ⟨rfl, h52⟩
   have kg7_52 := h52.blk kg7_51
   have kga_52 := h52.blk kga_51
   have kg51_51_52 := h52.blk k51
   refine l_q rfl (q_move _ _ rfl (s8_50.n3).ev ?_)
   refine l_q rfl (q_assign _ _ rfl ((At.hit z50.p2 rfl).n1).ev ?_)
   refine l_q rfl (q_assign _ _ rfl ((At.hit z50.p3 rfl).n1).ev ?_)
   refine l_end (e_fresh z50.p6 ?_)
   intro a53 z53 m53
   have s2_53 := m53 _ _ ((At.hit z50.p4 rfl).n1)
   have s3_53 := m53 _ _ (At.hit z50.p5 rfl)
   have low53 := ((low49.trans h51).trans h52)
   clear m53
   refine e_then (wp_ret (r_two rfl z53.defers s2_53 s3_53 ?_))
   exact ⟨rfl, low53⟩
end Go.Proofs.YtfjhnnpdaggnbaaGreatDoor.Q
end
/-! B0 -/
section
namespace Go.Proofs.YtfjhnnpdaggnbaaGreatDoor.Q
open Go.RowKit
open Go.Proofs.YtfjhnnpdaggnbaaGreatDoorW.PrintWords (bytesOf bytesOf_length)
def bt (s : ByteArray) (i : Nat) : Nat := if h : i < s.size then s[i].toNat else 0
theorem bt_lt (s : ByteArray) (i : Nat) : bt s i < 256 := by
  unfold bt
  split
  · exact UInt8.toNat_lt _
  · omega
theorem bt_in {s : ByteArray} {i : Nat} (h : i < s.size) : s[i].toNat = bt s i := by unfold bt; rw [dif_pos h]
theorem bt_out {s : ByteArray} {i : Nat} (h : s.size ≤ i) : bt s i = 0 := by unfold bt; rw [dif_neg (by omega)]
theorem bt_extract (s : ByteArray) (a e i : Nat) (h : i < min e s.size - a) : bt (s.extract a e) i = bt s (a + i) := by
  have h1 : i < (s.extract a e).size := by rw [ByteArray.size_extract]; exact h
  rw [← bt_in h1, ← bt_in (s := s) (i := a + i) (by omega)]
  congr 1
  exact ByteArray.getElem_extract h1
theorem ext_getD {l l' : List Int} (hl : l.length = l'.length) (h : ∀ j, l.getD j 0 = l'.getD j 0) : l = l' := by
  refine List.ext_getElem hl fun j h1 h2 => ?_
  have := h j
  simp only [List.getD_eq_getElem?_getD, List.getElem?_eq_getElem h1, List.getElem?_eq_getElem h2, Option.getD_some] at this
  exact this
theorem getD_set (l : List Int) (t j : Nat) (v : Int) (ht : t < l.length) : (l.set t v).getD j 0 = if j = t then v else l.getD j 0 := by
  rw [List.getD_eq_getElem?_getD, List.getElem?_set]
  by_cases h : t = j
  · subst h; simp [ht]
  · rw [if_neg h, if_neg (fun e => h e.symm), ← List.getD_eq_getElem?_getD]
theorem str_bytes (s : ByteArray) : strOfNums (bytesOf s) = s := by
  obtain ⟨⟨l⟩⟩ := s
  unfold strOfNums bytesOf
  congr 2
  rw [List.map_map]
  conv => rhs; rw [← List.map_id l]
  apply List.map_congr_left
  intro b _
  simp
theorem str_append (a b : List Int) : strOfNums (a ++ b) = strOfNums a ++ strOfNums b := by
  unfold strOfNums
  rw [List.map_append]
  apply ByteArray.ext
  simp
theorem bytes_str (l : List Int) (h : ∀ x ∈ l, 0 ≤ x ∧ x < 256) : bytesOf (strOfNums l) = l := by
  unfold bytesOf strOfNums
  simp only [List.map_map]
  conv => rhs; rw [← List.map_id l]
  apply List.map_congr_left
  intro x hx
  obtain ⟨h0, h1⟩ := h x hx
  simp only [Function.comp, id]
  rw [UInt8.toNat_ofNat']
  omega
theorem str_extract (l : List Int) (a b : Nat) : (strOfNums l).extract a b = strOfNums ((l.drop a).take (b - a)) := by
  apply ByteArray.ext
  rw [ByteArray.data_extract]
  unfold strOfNums
  simp only [List.map_take, List.map_drop]
  simp
end Go.Proofs.YtfjhnnpdaggnbaaGreatDoor.Q
end
/-! Q12 -/
section
namespace Go.Proofs.YtfjhnnpdaggnbaaGreatDoor.Q
open Go.RowKit
open Go.Proofs.YtfjhnnpdaggnbaaGreatDoorW.PrintWords (bytesOf bytesOf_length)
section
variable {P : Program} {Q : Exit → Act → World → Prop} {a : Act} {w : World} {o : Oper} {ops : Array Oper} {rest : List Oper} {K : Act → Prop} {C : World → Prop}
theorem q_compl {x : Operand} {T : TypeId} {n : Int} (ho : o.op = .unOp .xor T x) (hx : a.eval x = .int .u32 n) (hn : K (a.put o.dst (.int .u32 (Go.bits .xor .u32 4294967295 n)))) : o.quiet P a C K :=
  q_val _ (fun w _ => by
    unfold execOp
    simp only [ho, hx, Sem.run_bind]
    rfl) hn
/-- p[j:], p the address of an array -/
theorem q_arrFrom {T E : TypeId} {x lo : Operand} {g i n j : Nat} (ho : o.op = .slice T x (some lo) none none) (hT : P.underlying T = some (.array n E)) (hE : (P.info? E).map (·.size) = some 1)
    (hx : a.eval x = .pointer (some ⟨g, i, none⟩)) (hl : a.eval lo = .int .i64 (j : Int)) (hj : j < n) (hn : K (a.put o.dst (.slice (some ⟨g, i + j, none⟩) (n - j) (n - j)))) : o.quiet P a C K :=
  q_val _ (fun w _ => by
    have h2 : ¬ n = j := by omega
    unfold execOp
    simp [ho, hx, hl, Instr.sliceAt, Instr.sureAddr, Instr.sliceBounds, Instr.sliceBound, asIntOf, Sem.run_bind, run_underlying hT w, run_sizeOf1 hE w, Nat.le_of_lt hj, h2, Addr.add]) hn
/-- p[:k], p the address of an array -/
theorem q_arrTo {T E : TypeId} {x hi : Operand} {g i n k : Nat} (ho : o.op = .slice T x none (some hi) none) (hT : P.underlying T = some (.array n E)) (hE : (P.info? E).map (·.size) = some 1)
    (hx : a.eval x = .pointer (some ⟨g, i, none⟩)) (hh : a.eval hi = .int .i64 (k : Int)) (hk : k ≤ n) (hn : K (a.put o.dst (.slice (some ⟨g, i, none⟩) k n))) : o.quiet P a C K :=
  q_val _ (fun w _ => by
    unfold execOp
    simp [ho, hx, hh, Instr.sliceAt, Instr.sureAddr, Instr.sliceBounds, Instr.sliceBound, asIntOf, Sem.run_bind, run_underlying hT w, run_sizeOf1 hE w, Addr.add]
    intro h0
    omega) hn
theorem run_copy_str {dT sT ty elem : TypeId} {g i dLen dCap : Nat} {s : ByteArray} {cur : Array Value} {t : TypeId} (w : World)
    (hu : P.underlying dT = some (.slice elem)) (hs : (P.info? elem).map (·.size) = some 1) (hg : w.heap[g]? = some (.cells cur t)) (n : Nat) (hn : n = Nat.min s.size dLen) (hfit : i + n ≤ cur.size) :
    (Builtin.copy_ #[dT, sT] ty #[.slice (some ⟨g, i, none⟩) dLen dCap, .string s]).run P w =
      .ok (.int .i64 (n : Int)) (w.setRow g (cur.toList.take i ++ ((bytesOf s).take n).map (Value.int .u8) ++ cur.toList.drop (i + n)).toArray) := by
  have hns : n ≤ s.size := by rw [hn]; exact Nat.min_le_left _ _
  have hlen : (((bytesOf s).take n).map (Value.int .u8)).length = n := by rw [List.length_map, List.length_take, bytesOf_length]; omega
  have hst := run_storeCells_at P g i t (((bytesOf s).take n).map (Value.int .u8)) 0 cur w hg (by rw [hlen]; simpa using hfit) (fun v hv => by
    rw [List.mem_map] at hv
    obtain ⟨z, _, rfl⟩ := hv
    rfl)
  rw [hlen] at hst
  simp only [Nat.add_zero] at hst
  have he : List.take n (List.map (fun b : UInt8 => Value.int IntKind.u8 (b.toNat : Int)) s.data.toList) = ((bytesOf s).take n).map (Value.int .u8) := by
    rw [bytesOf, List.map_take, List.map_map]
    rfl
  cases hq : P.info? elem with
  | none => simp [hq] at hs
  | some inf =>
    simp [Builtin.copy_, run_underlying hu, Builtin.lenOf, Builtin.firstCells, sizeOf, typeInfo, hq, ← hn]
    rw [he, hst]
    simp [Result.andThen, goInt]
theorem l_copyS {T U E t : TypeId} {x y : Operand} {g i dLen dCap n : Nat} {s : ByteArray} {cs cs' : Array Value} (hg : o.guard = none) (ho : o.op = .call { callee := .builtin .copy, args := #[x, y], argTypes := #[T, U] })
    (hT : P.underlying T = some (.slice E)) (hE : (P.info? E).map (·.size) = some 1) (hx : a.eval x = .slice (some ⟨g, i, none⟩) dLen dCap) (hy : a.eval y = .string s) (hb : w.heap[g]? = some (.cells cs t)) (hn : n = Nat.min s.size dLen) (hs : i + n ≤ cs.size)
    (hc : cs.toList.take i ++ ((bytesOf s).take n).map (Value.int .u8) ++ cs.toList.drop (i + n) = cs'.toList) (h : ∀ w', w'.heap[g]? = some (.cells cs' t) → Upd g w w' → wpList P ops Q rest (a.put o.dst (.int .i64 (n : Int))) w') : wpList P ops Q (o :: rest) a w := by
  have hr := run_copy_str (P := P) (sT := U) (ty := o.type) (dCap := dCap) w hT hE hb n hn hs
  rw [hc, Array.toArray_toList] at hr
  refine wpList_plain hg fun K hK => ?_
  unfold Oper.wp execOp
  simp only [ho, resolve, invoke, builtin, Sem.run_bind, Sem.run_pure, Result.andThen_ok, List.map_toArray, List.map_cons, List.map_nil, hx, hy, hr]
  exact hK _ _ (h _ (by simp [World.setRow, Array.getElem?_modify, hb]) (upd_row w))
/-- copy between two places of one row -/
theorem l_copyR {T U E t : TypeId} {x y : Operand} {g i j dLen dCap sLen sCap n : Nat} {cs cs' : Array Value} (hg : o.guard = none) (ho : o.op = .call { callee := .builtin .copy, args := #[x, y], argTypes := #[T, U] })
    (hT : P.underlying T = some (.slice E)) (hE : (P.info? E).map (·.size) = some 1) (hx : a.eval x = .slice (some ⟨g, i, none⟩) dLen dCap) (hy : a.eval y = .slice (some ⟨g, j, none⟩) sLen sCap) (hb : w.heap[g]? = some (.cells cs t)) (hn : n = Nat.min sLen dLen) (hs : i + n ≤ cs.size) (hs' : j + n ≤ cs.size)
    (h1 : cs.all (·.oneCell') = true) (hc : cs.toList.take i ++ (cs.toList.drop j).take n ++ cs.toList.drop (i + n) = cs'.toList) (h : ∀ w', w'.heap[g]? = some (.cells cs' t) → Upd g w w' → wpList P ops Q rest (a.put o.dst (.int .i64 (n : Int))) w') : wpList P ops Q (o :: rest) a w := by
  have hlen : ((cs.toList.drop j).take n).length = n := by rw [List.length_take, List.length_drop, Array.length_toList]; omega
  have hr := run_copy_row P w T U o.type E g i dLen dCap ⟨g, j, none⟩ sLen sCap cs t ((cs.toList.drop j).take n) hT hE hb (by rw [hlen]; exact hn) (fun k v hk => by
    have hlt : k < n := by have := (List.getElem?_eq_some_iff.1 hk).1; omega
    rw [Addr.add_mid, cells_at hb, ← hk, List.getElem?_take, if_pos hlt, List.getElem?_drop, Array.getElem?_toList]) (by rw [hlen]; exact hs) (fun v hv => by
    have hm : v ∈ cs := Array.mem_toList_iff.1 (List.mem_of_mem_drop (List.mem_of_mem_take hv))
    exact (Array.all_eq_true_iff_forall_mem.1 h1) v hm)
  rw [hlen, hc, Array.toArray_toList] at hr
  refine wpList_plain hg fun K hK => ?_
  unfold Oper.wp execOp
  simp only [ho, resolve, invoke, builtin, Sem.run_bind, Sem.run_pure, Result.andThen_ok, List.map_toArray, List.map_cons, List.map_nil, hx, hy, hr]
  exact hK _ _ (h _ (by simp [World.setRow, Array.getElem?_modify, hb]) (upd_row w))
def s2C (c b : List Int) (f n : Int) : Array Value := (c.map (Value.int .u32) ++ b.map (Value.int .u8) ++ [Value.int .i64 f, Value.int .u64 n]).toArray
theorem s2C_list (c b : List Int) (f n : Int) : (s2C c b f n).toList = c.map (Value.int .u32) ++ b.map (Value.int .u8) ++ [Value.int .i64 f, Value.int .u64 n] := by simp [s2C]
variable {c b : List Int} {f n : Int}
theorem s2C_size (hc : c.length = 8) (hb : b.length = 64) : (s2C c b f n).size = 74 := by simp [s2C, hc, hb]
theorem s2C_one : (s2C c b f n).all (·.oneCell') = true := by
  rw [Array.all_eq_true_iff_forall_mem]
  intro v hv
  rw [← Array.mem_toList_iff, s2C_list] at hv
  simp only [List.mem_append, List.mem_map, List.mem_cons, List.not_mem_nil, or_false] at hv
  rcases hv with (⟨z, _, rfl⟩ | ⟨z, _, rfl⟩) | rfl | rfl <;> rfl
theorem s2C_chain (hc : c.length = 8) : ((s2C c b f n).toList.drop 0).take 8 = (nums .u32 c).toList := by
  rw [s2C_list, List.drop_zero, List.append_assoc, List.take_append_of_le_length (by simp [hc]), List.take_of_length_le (by simp [hc])]
  simp [nums]
theorem s2C_block (hc : c.length = 8) (hb : b.length = 64) : ((s2C c b f n).toList.drop 8).take 64 = (nums .u8 b).toList := by
  rw [s2C_list, List.append_assoc, List.drop_append_of_le_length (by simp [hc]), List.drop_eq_nil_of_le (by simp [hc]), List.nil_append, List.take_append_of_le_length (by simp [hb]), List.take_of_length_le (by simp [hb])]
  simp [nums]
theorem s2C_c (hc : c.length = 8) (j : Nat) (hj : j < 8) : (s2C c b f n)[j]? = some (.int .u32 (c.getD j 0)) := by
  rw [← Array.getElem?_toList, s2C_list, List.append_assoc, List.getElem?_append_left (by simp [hc, hj]), List.getElem?_map, List.getElem?_eq_getElem (by omega)]
  simp [List.getD_eq_getElem?_getD, hc, hj]
theorem s2C_f (hc : c.length = 8) (hb : b.length = 64) : (s2C c b f n)[72]? = some (.int .i64 f) := by
  rw [← Array.getElem?_toList, s2C_list, List.getElem?_append_right (by simp [hc, hb])]
  simp [hc, hb]
theorem s2C_n (hc : c.length = 8) (hb : b.length = 64) : (s2C c b f n)[73]? = some (.int .u64 n) := by
  rw [← Array.getElem?_toList, s2C_list, List.getElem?_append_right (by simp [hc, hb])]
  simp [hc, hb]
theorem s2C_setc (hc : c.length = 8) (j : Nat) (hj : j < 8) (v : Int) : (s2C c b f n).setIfInBounds j (.int .u32 v) = s2C (c.set j v) b f n := by
  apply Array.toList_inj.1
  rw [Array.toList_setIfInBounds, s2C_list, s2C_list, List.append_assoc, List.append_assoc, List.set_append_left _ _ (by simp [hc, hj]), List.map_set]
theorem s2C_setf (hc : c.length = 8) (hb : b.length = 64) (v : Int) : (s2C c b f n).setIfInBounds 72 (.int .i64 v) = s2C c b v n := by
  apply Array.toList_inj.1
  rw [Array.toList_setIfInBounds, s2C_list, s2C_list, List.set_append_right _ _ (by simp [hc, hb])]
  simp [hc, hb]
theorem s2C_setn (hc : c.length = 8) (hb : b.length = 64) (v : Int) : (s2C c b f n).setIfInBounds 73 (.int .u64 v) = s2C c b f v := by
  apply Array.toList_inj.1
  rw [Array.toList_setIfInBounds, s2C_list, s2C_list, List.set_append_right _ _ (by simp [hc, hb])]
  simp [hc, hb]
theorem q_s2c {T t : TypeId} {x : Operand} {d : TypeDesc} {g : Nat} (hc : c.length = 8) (ho : o.op = .load T x) (hT : P.underlying T = some d) (hd : d.isRow = true) (hi : (P.info? T).map (·.size) = some 8) (hx : a.eval x = .pointer (some ⟨g, 0, none⟩))
    (hk : ∀ w, C w → w.heap[g]? = some (.cells (s2C c b f n) t)) (hn : K (a.put o.dst (.agg (nums .u32 c)))) : o.quiet P a C K :=
  q_mid ho hT hd (by rw [hi, nums_size, hc]) hx hk (by rw [nums_size, hc]; exact s2C_chain hc) hn
theorem q_s2b {T t : TypeId} {x : Operand} {d : TypeDesc} {g : Nat} (hc : c.length = 8) (hb : b.length = 64) (ho : o.op = .load T x) (hT : P.underlying T = some d) (hd : d.isRow = true) (hi : (P.info? T).map (·.size) = some 64) (hx : a.eval x = .pointer (some ⟨g, 8, none⟩))
    (hk : ∀ w, C w → w.heap[g]? = some (.cells (s2C c b f n) t)) (hn : K (a.put o.dst (.agg (nums .u8 b)))) : o.quiet P a C K :=
  q_mid ho hT hd (by rw [hi, nums_size, hb]) hx hk (by rw [nums_size, hb]; exact s2C_block hc hb) hn
/-- bytes written over a row's middle -/
def over (b y : List Int) (i : Nat) : List Int := b.take i ++ y ++ b.drop (i + y.length)
theorem over_len (b y : List Int) (i : Nat) (h : i + y.length ≤ b.length) : (over b y i).length = b.length := by
  rw [over, List.length_append, List.length_append, List.length_take, List.length_drop]
  omega
theorem s2C_copy (hc : c.length = 8) (hb : b.length = 64) (y : List Int) (i m : Nat) (hm : y.length = m) (hi : i + m ≤ 64) :
    (s2C c b f n).toList.take (8 + i) ++ y.map (Value.int .u8) ++ (s2C c b f n).toList.drop (8 + i + m) = (s2C c (over b y i) f n).toList := by
  subst hm
  rw [s2C_list, s2C_list, over, List.append_assoc, List.append_assoc, List.take_append, List.take_of_length_le (by simp [hc]), List.drop_append]
  simp only [List.length_map, hc]
  rw [show 8 + i - 8 = i from by omega, show 8 + i + y.length - 8 = i + y.length from by omega, List.drop_eq_nil_of_le (by simp [hc]; omega), List.nil_append, List.take_append_of_le_length (by simp [hb]; omega), List.drop_append_of_le_length (by simp [hb]; omega)]
  simp [List.map_take, List.map_drop]
end
end Go.Proofs.YtfjhnnpdaggnbaaGreatDoor.Q
end
/-! H0 -/
section
namespace Go.Proofs.YtfjhnnpdaggnbaaGreatDoor.Q
open Go.RowKit Go.Proofs.YtfjhnnpdaggnbaaGreatDoor.P
open Go.Proofs.YtfjhnnpdaggnbaaGreatDoorW.PrintWords (bytesOf bytesOf_length)
set_option maxRecDepth 100000
set_option maxHeartbeats 4000000
def k256 : List Int := [0x428a2f98, 0x71374491, 0xb5c0fbcf, 0xe9b5dba5, 0x3956c25b, 0x59f111f1, 0x923f82a4, 0xab1c5ed5,
  0xd807aa98, 0x12835b01, 0x243185be, 0x550c7dc3, 0x72be5d74, 0x80deb1fe, 0x9bdc06a7, 0xc19bf174,
  0xe49b69c1, 0xefbe4786, 0x0fc19dc6, 0x240ca1cc, 0x2de92c6f, 0x4a7484aa, 0x5cb0a9dc, 0x76f988da,
  0x983e5152, 0xa831c66d, 0xb00327c8, 0xbf597fc7, 0xc6e00bf3, 0xd5a79147, 0x06ca6351, 0x14292967,
  0x27b70a85, 0x2e1b2138, 0x4d2c6dfc, 0x53380d13, 0x650a7354, 0x766a0abb, 0x81c2c92e, 0x92722c85,
  0xa2bfe8a1, 0xa81a664b, 0xc24b8b70, 0xc76c51a3, 0xd192e819, 0xd6990624, 0xf40e3585, 0x106aa070,
  0x19a4c116, 0x1e376c08, 0x2748774c, 0x34b0bcb5, 0x391c0cb3, 0x4ed8aa4a, 0x5b9cca4f, 0x682e6ff3,
  0x748f82ee, 0x78a5636f, 0x84c87814, 0x8cc70208, 0x90befffa, 0xa4506ceb, 0xbef9a3f7, 0xc67178f2]
theorem k256_len : k256.length = 64 := rfl
def ch256 : List Int := [0x6a09e667, 0xbb67ae85, 0x3c6ef372, 0xa54ff53a, 0x510e527f, 0x9b05688c, 0x1f83d9ab, 0x5be0cd19]
theorem ch256_len : ch256.length = 8 := rfl
def turnL (x n : Int) : Int := rotl x (IntKind.i64.wrap (0 - n))
def wA (b : List Int) : Nat → List Int
  | 0 => List.replicate 64 0
  | i + 1 => (wA b i).set (i / 4) (Go.bits .or .u32 (IntKind.u32.wrap ((wA b i).getD (i / 4) 0 * 2 ^ min (8 : Int).toNat 32)) (IntKind.u32.wrap (b.getD i 0)))
theorem wA_len (b : List Int) : ∀ k, (wA b k).length = 64
  | 0 => List.length_replicate
  | k + 1 => by rw [wA, List.length_set, wA_len b k]
def wB (l : List Int) : Nat → List Int
  | 0 => l
  | d + 1 => (wB l d).set (d + 16) (IntKind.u32.wrap (IntKind.u32.wrap (IntKind.u32.wrap ((wB l d).getD d 0 + Go.bits .xor .u32 (Go.bits .xor .u32 (turnL ((wB l d).getD (d + 1) 0) 7) (turnL ((wB l d).getD (d + 1) 0) 18)) (((wB l d).getD (d + 1) 0).fdiv (2 ^ min (3 : Int).toNat 32))) + (wB l d).getD (d + 9) 0) + Go.bits .xor .u32 (Go.bits .xor .u32 (turnL ((wB l d).getD (d + 14) 0) 17) (turnL ((wB l d).getD (d + 14) 0) 19)) (((wB l d).getD (d + 14) 0).fdiv (2 ^ min (10 : Int).toNat 32))))
theorem wB_len (l : List Int) (h : l.length = 64) : ∀ d, (wB l d).length = 64
  | 0 => h
  | d + 1 => by rw [wB, List.length_set, wB_len l h d]
def oneL (w v : List Int) (t : Nat) : Int := IntKind.u32.wrap (IntKind.u32.wrap (IntKind.u32.wrap (IntKind.u32.wrap (v.getD 7 0 + Go.bits .xor .u32 (Go.bits .xor .u32 (turnL (v.getD 4 0) 6) (turnL (v.getD 4 0) 11)) (turnL (v.getD 4 0) 25)) + Go.bits .xor .u32 (v.getD 6 0) (Go.bits .and .u32 (v.getD 4 0) (Go.bits .xor .u32 (v.getD 5 0) (v.getD 6 0)))) + k256.getD t 0) + w.getD t 0)
def twoL (v : List Int) : Int := IntKind.u32.wrap (Go.bits .xor .u32 (Go.bits .xor .u32 (turnL (v.getD 0 0) 2) (turnL (v.getD 0 0) 13)) (turnL (v.getD 0 0) 22) + Go.bits .or .u32 (Go.bits .and .u32 (v.getD 0 0) (v.getD 1 0)) (Go.bits .and .u32 (v.getD 2 0) (Go.bits .or .u32 (v.getD 0 0) (v.getD 1 0))))
/-- a row's first seven numbers copied one place on -/
def on1 (v : List Int) : List Int := v.take 1 ++ (v.drop 0).take 7 ++ v.drop 8
theorem on1_len (v : List Int) (h : v.length = 8) : (on1 v).length = 8 := by simp [on1, h]
def roundL (w v : List Int) (t : Nat) : List Int := ((on1 v).set 4 (IntKind.u32.wrap ((on1 v).getD 4 0 + oneL w v t))).set 0 (IntKind.u32.wrap (oneL w v t + twoL v))
theorem roundL_len (w v : List Int) (t : Nat) (h : v.length = 8) : (roundL w v t).length = 8 := by rw [roundL, List.length_set, List.length_set, on1_len v h]
def roundsL (w v : List Int) : Nat → List Int
  | 0 => v
  | t + 1 => roundL w (roundsL w v t) t
theorem roundsL_len (w v : List Int) (h : v.length = 8) : ∀ k, (roundsL w v k).length = 8
  | 0 => h
  | k + 1 => roundL_len w _ k (roundsL_len w v h k)
def wordsL (b : List Int) : List Int := wB (wA b 64) 48
def press2 (c b : List Int) : List Int := addL c (roundsL (wordsL b) c 64) 8
theorem press2_len (c b : List Int) (h : c.length = 8) : (press2 c b).length = 8 := (addL_len c _ 8).trans h
def blkAt (T : ByteArray) (k : Nat) : List Int := (List.range 64).map fun j => ((bt T (64 * k + j) : Nat) : Int)
def chK (T : ByteArray) : Nat → List Int
  | 0 => ch256
  | k + 1 => press2 (chK T k) (blkAt T k)
theorem chK_len (T : ByteArray) : ∀ k, (chK T k).length = 8
  | 0 => rfl
  | k + 1 => press2_len _ _ (chK_len T k)
def chTx (T : ByteArray) : List Int := chK T (T.size / 64)
theorem chTx_len (T : ByteArray) : (chTx T).length = 8 := chK_len T _
def blkOf (T : ByteArray) : List Int := (List.range 64).map fun j => if j < T.size % 64 then ((bt T (64 * (T.size / 64) + j) : Nat) : Int) else if 64 ≤ T.size then ((bt T (64 * (T.size / 64) + j - 64) : Nat) : Int) else 0
theorem blkOf_len (T : ByteArray) : (blkOf T).length = 64 := by simp [blkOf]
theorem range_getD (f : Nat → Int) (j : Nat) : ((List.range 64).map f).getD j 0 = if j < 64 then f j else 0 := by
  rw [List.getD_eq_getElem?_getD, List.getElem?_map]
  by_cases h : j < 64
  · rw [List.getElem?_range h, if_pos h]; rfl
  · rw [if_neg h, List.getElem?_eq_none (by simpa using h)]; rfl
theorem bytes_getD (y : ByteArray) (j : Nat) : (bytesOf y).getD j 0 = ((bt y j : Nat) : Int) := by
  rw [List.getD_eq_getElem?_getD, bytesOf, List.getElem?_map]
  by_cases h : j < y.size
  · have h' : j < y.data.toList.length := by rw [Array.length_toList]; exact h
    rw [List.getElem?_eq_getElem h', ← bt_in h]
    rfl
  · rw [bt_out (by omega), List.getElem?_eq_none (by rw [Array.length_toList]; exact Nat.le_of_not_lt h)]
    rfl
theorem bt_append (T y : ByteArray) (i : Nat) : bt (T ++ y) i = if i < T.size then bt T i else bt y (i - T.size) := by
  by_cases h : i < T.size
  · rw [if_pos h, ← bt_in (s := T ++ y) (by rw [ByteArray.size_append]; omega), ← bt_in h]
    congr 1
    exact ByteArray.getElem_append_left h
  · rw [if_neg h]
    by_cases h2 : i < T.size + y.size
    · rw [← bt_in (s := T ++ y) (by rw [ByteArray.size_append]; omega), ← bt_in (s := y) (by omega)]
      congr 1
      exact ByteArray.getElem_append_right (by omega)
    · rw [bt_out (s := T ++ y) (by rw [ByteArray.size_append]; omega), bt_out (s := y) (by omega)]
theorem over_getD (b y : List Int) (i j : Nat) (h : i + y.length ≤ b.length) : (over b y i).getD j 0 = if j < i then b.getD j 0 else if j < i + y.length then y.getD (j - i) 0 else b.getD j 0 := by
  simp only [over, List.getD_eq_getElem?_getD]
  by_cases h1 : j < i
  · rw [if_pos h1, List.append_assoc, List.getElem?_append_left (by rw [List.length_take]; omega), List.getElem?_take, if_pos h1]
  · rw [if_neg h1]
    by_cases h2 : j < i + y.length
    · rw [if_pos h2, List.getElem?_append_left (by rw [List.length_append, List.length_take]; omega), List.getElem?_append_right (by rw [List.length_take]; omega), List.length_take, Nat.min_eq_left (by omega)]
    · rw [if_neg h2, List.getElem?_append_right (by rw [List.length_append, List.length_take]; omega), List.getElem?_drop, List.length_append, List.length_take, Nat.min_eq_left (by omega)]
      congr 2
      omega
/-- a few bytes more, within the block -/
theorem blk_more (T y : ByteArray) (h : T.size % 64 + y.size ≤ 64) : over (blkOf T) (bytesOf y) (T.size % 64) = blkOf (T ++ y) := by
  refine ext_getD (by rw [over_len _ _ _ (by rw [bytesOf_length, blkOf_len]; exact h), blkOf_len, blkOf_len]) fun j => ?_
  rw [over_getD _ _ _ _ (by rw [bytesOf_length, blkOf_len]; exact h), bytesOf_length, bytes_getD]
  unfold blkOf
  simp only [range_getD, bt_append, ByteArray.size_append]
  by_cases h0 : j < 64
  · simp only [if_pos h0]
    by_cases hf : T.size % 64 + y.size = 64
    · have e1 : (T.size + y.size) % 64 = 0 := by omega
      have e2 : (T.size + y.size) / 64 = T.size / 64 + 1 := by omega
      rw [e1, e2, if_neg (Nat.not_lt_zero j), if_pos (show 64 ≤ T.size + y.size by omega)]
      by_cases h1 : j < T.size % 64
      · rw [if_pos h1, if_pos h1, if_pos (by omega)]
        congr 2
        omega
      · rw [if_neg h1, if_pos (by omega), if_neg (by omega)]
        congr 2
        omega
    · have e1 : (T.size + y.size) % 64 = T.size % 64 + y.size := by omega
      have e2 : (T.size + y.size) / 64 = T.size / 64 := by omega
      rw [e1, e2]
      by_cases h1 : j < T.size % 64
      · rw [if_pos h1, if_pos h1, if_pos (by omega), if_pos (by omega)]
      · rw [if_neg h1]
        by_cases h2 : j < T.size % 64 + y.size
        · rw [if_pos h2, if_pos h2, if_neg (by omega)]
          congr 2
          omega
        · rw [if_neg h2, if_neg h1, if_neg h2]
          by_cases h3 : 64 ≤ T.size
          · rw [if_pos h3, if_pos (by omega), if_pos (by omega)]
          · rw [if_neg h3, if_neg (by omega)]
  · simp only [if_neg h0, bt_out (s := y) (i := j - T.size % 64) (by omega)]
    split
    · rfl
    · split
      · rfl
      · rfl
theorem chK_front (T y : ByteArray) : ∀ k, 64 * k ≤ T.size → chK (T ++ y) k = chK T k
  | 0, _ => rfl
  | k + 1, h => by
    rw [chK, chK, chK_front T y k (by omega)]
    congr 1
    unfold blkAt
    refine List.map_congr_left fun j hj => ?_
    have := List.mem_range.1 hj
    rw [bt_append, if_pos (by omega)]
/-- .. and the block is full -/
theorem ch_full (T y : ByteArray) (h : T.size % 64 + y.size = 64) : press2 (chTx T) (blkOf (T ++ y)) = chTx (T ++ y) := by
  have e : (T ++ y).size / 64 = T.size / 64 + 1 := by rw [ByteArray.size_append]; omega
  have e1 : (T ++ y).size % 64 = 0 := by rw [ByteArray.size_append]; omega
  have e2 : 64 ≤ (T ++ y).size := by rw [ByteArray.size_append]; omega
  rw [chTx, chTx, e, chK, chK_front T y _ (by omega)]
  congr 1
  unfold blkOf blkAt
  refine List.map_congr_left fun j _ => ?_
  rw [e, e1, if_neg (Nat.not_lt_zero j), if_pos e2]
  congr 2
  omega
theorem ch_same (T y : ByteArray) (h : T.size % 64 + y.size < 64) : chTx (T ++ y) = chTx T := by
  have e : (T ++ y).size / 64 = T.size / 64 := by rw [ByteArray.size_append]; omega
  rw [chTx, chTx, e, chK_front T y _ (by omega)]
def wpos (T x : ByteArray) (k : Nat) : Nat := min x.size (64 * k - T.size % 64)
def TX (T x : ByteArray) (k : Nat) : ByteArray := T ++ x.extract 0 (wpos T x k)
def XX (T x : ByteArray) (k : Nat) : ByteArray := x.extract (wpos T x k) x.size
def nX (T x : ByteArray) : Nat := if x.size = 0 then 0 else (x.size + T.size % 64 + 63) / 64
theorem TX_size (T x : ByteArray) (k : Nat) : (TX T x k).size = T.size + wpos T x k := by rw [TX, ByteArray.size_append, ByteArray.size_extract]; unfold wpos; omega
theorem XX_size (T x : ByteArray) (k : Nat) : (XX T x k).size = x.size - wpos T x k := by rw [XX, ByteArray.size_extract]; omega
theorem wpos_zero (T x : ByteArray) : wpos T x 0 = 0 := by unfold wpos; omega
theorem wpos_le (T x : ByteArray) (k : Nat) : wpos T x k ≤ x.size := Nat.min_le_left _ _
theorem TX_zero (T x : ByteArray) : TX T x 0 = T := by
  rw [TX, wpos_zero]
  apply ByteArray.ext
  simp
theorem XX_zero (T x : ByteArray) : XX T x 0 = x := by
  rw [XX, wpos_zero]
  simp
theorem wpos_end (T x : ByteArray) : wpos T x (nX T x) = x.size := by
  unfold wpos nX
  split
  · omega
  · omega
theorem TX_end (T x : ByteArray) : TX T x (nX T x) = T ++ x := by
  rw [TX, wpos_end]
  simp
theorem XX_end (T x : ByteArray) : (XX T x (nX T x)).size = 0 := by rw [XX_size, wpos_end]; omega
theorem XX_pos (T x : ByteArray) (k : Nat) (h : k < nX T x) : 0 < (XX T x k).size := by
  rw [XX_size]
  unfold nX at h
  unfold wpos
  split at h
  · omega
  · omega
/-- how many bytes round k takes -/
def mX (T x : ByteArray) (k : Nat) : Nat := min (XX T x k).size (64 - (TX T x k).size % 64)
theorem min_step (n f k r : Nat) (hf : f < 64) (h : 64 * k - f < n) (hr : r = if k = 0 then f else 0) : min n (64 * (k + 1) - f) = min n (64 * k - f) + min (n - min n (64 * k - f)) (64 - r) := by
  rw [Nat.min_eq_right (Nat.le_of_lt h)]
  by_cases hk : k = 0
  · subst hk
    rw [if_pos rfl] at hr
    omega
  · rw [if_neg hk] at hr
    omega
theorem wpos_next (T x : ByteArray) (k : Nat) (h : k < nX T x) : wpos T x (k + 1) = wpos T x k + mX T x k := by
  have hp := XX_pos T x k h
  rw [XX_size] at hp
  unfold mX
  rw [XX_size, TX_size]
  unfold wpos at *
  have hlt : 64 * k - T.size % 64 < x.size := by omega
  have hr : (T.size + min x.size (64 * k - T.size % 64)) % 64 = if k = 0 then T.size % 64 else 0 := by
    rw [Nat.min_eq_right (Nat.le_of_lt hlt)]
    clear hp h
    generalize T.size = m at *
    by_cases hk : k = 0
    · rw [if_pos hk, hk]
      simp
    · rw [if_neg hk]
      obtain ⟨q, r, hm, hr64⟩ : ∃ q r, m = 64 * q + r ∧ r < 64 := ⟨m / 64, m % 64, (Nat.div_add_mod m 64).symm, Nat.mod_lt _ (by decide)⟩
      have e : m % 64 = r := by omega
      rw [e, show m + (64 * k - r) = 64 * (q + k) by omega]
      exact Nat.mul_mod_right 64 _
  exact min_step x.size (T.size % 64) k _ (Nat.mod_lt _ (by decide)) hlt hr
def yX (T x : ByteArray) (k : Nat) : ByteArray := (XX T x k).extract 0 (mX T x k)
theorem yX_size (T x : ByteArray) (k : Nat) : (yX T x k).size = mX T x k := by rw [yX, ByteArray.size_extract]; unfold mX; omega
theorem TX_next (T x : ByteArray) (k : Nat) (h : k < nX T x) : TX T x (k + 1) = TX T x k ++ yX T x k := by
  have h1 : wpos T x k + mX T x k ≤ x.size := by rw [← wpos_next T x k h]; exact wpos_le T x _
  have e : x.extract 0 (wpos T x k + mX T x k) = x.extract 0 (wpos T x k) ++ x.extract (wpos T x k) (wpos T x k + mX T x k) := by
    rw [ByteArray.extract_append_extract, Nat.min_eq_left (Nat.zero_le _), Nat.max_eq_right (Nat.le_add_right _ _)]
  rw [TX, TX, yX, XX, wpos_next T x k h, ByteArray.append_assoc, ByteArray.extract_extract, Nat.add_zero, Nat.min_eq_left h1, e]
theorem XX_next (T x : ByteArray) (k : Nat) (h : k < nX T x) : (XX T x k).extract (mX T x k) (XX T x k).size = XX T x (k + 1) := by
  rw [XX_size]
  unfold XX
  rw [wpos_next T x k h, ByteArray.extract_extract]
  congr 1
  have := wpos_le T x k
  omega
theorem bytes_yX (T x : ByteArray) (k : Nat) : (bytesOf (XX T x k)).take (mX T x k) = bytesOf (yX T x k) := by
  refine ext_getD (by rw [List.length_take, bytesOf_length, bytesOf_length, yX_size]; unfold mX; omega) fun j => ?_
  rw [bytes_getD, List.getD_eq_getElem?_getD, List.getElem?_take]
  by_cases h : j < mX T x k
  · have hX : mX T x k ≤ (XX T x k).size := Nat.min_le_left _ _
    rw [if_pos h, ← List.getD_eq_getElem?_getD, bytes_getD, yX, bt_extract _ _ _ _ (by rw [Nat.min_eq_left hX]; omega), Nat.zero_add]
  · rw [if_neg h, bt_out (by rw [yX_size]; omega)]
    rfl
theorem mX_le (T x : ByteArray) (k : Nat) : (TX T x k).size % 64 + mX T x k ≤ 64 := by unfold mX; omega
theorem blk_next (T x : ByteArray) (k : Nat) (h : k < nX T x) : over (blkOf (TX T x k)) ((bytesOf (XX T x k)).take (mX T x k)) ((TX T x k).size % 64) = blkOf (TX T x (k + 1)) := by
  rw [bytes_yX, TX_next T x k h, blk_more _ _ (by rw [yX_size]; exact mX_le T x k)]
theorem full_next (T x : ByteArray) (k : Nat) (h : k < nX T x) (hf : (TX T x k).size % 64 + mX T x k = 64) (n : Int) : s2C (press2 (chTx (TX T x k)) (blkOf (TX T x (k + 1)))) (blkOf (TX T x (k + 1))) 0 n = s2C (chTx (TX T x (k + 1))) (blkOf (TX T x (k + 1))) (((TX T x (k + 1)).size % 64 : Nat) : Int) n := by
  have e : (TX T x (k + 1)).size % 64 = 0 := by rw [TX_next T x k h, ByteArray.size_append, yX_size]; omega
  rw [e, TX_next T x k h, ch_full _ _ (by rw [yX_size]; exact hf)]
  rfl
theorem part_next (T x : ByteArray) (k : Nat) (h : k < nX T x) (hf : ¬ (TX T x k).size % 64 + mX T x k = 64) (n : Int) : s2C (chTx (TX T x k)) (blkOf (TX T x (k + 1))) (((TX T x k).size % 64 + mX T x k : Nat) : Int) n = s2C (chTx (TX T x (k + 1))) (blkOf (TX T x (k + 1))) (((TX T x (k + 1)).size % 64 : Nat) : Int) n := by
  have hle := mX_le T x k
  have e : (TX T x (k + 1)).size % 64 = (TX T x k).size % 64 + mX T x k := by rw [TX_next T x k h, ByteArray.size_append, yX_size]; omega
  rw [e, TX_next T x k h, ch_same _ _ (by rw [yX_size]; omega)]
end Go.Proofs.YtfjhnnpdaggnbaaGreatDoor.Q
end
/-! G1 -/
section
namespace Go.Proofs.YtfjhnnpdaggnbaaGreatDoor.Q
open Go.Proofs.YtfjhnnpdaggnbaaGreatDoorW.PrintWords (bytesOf bytesOf_length)
open Go.RowKit Go.Proofs.YtfjhnnpdaggnbaaGreatDoor.P
set_option linter.unusedVariables false
set_option linter.unusedSimpArgs false
set_option maxRecDepth 100000
set_option maxHeartbeats 4000000
attribute [local irreducible] wpList wpQuiet qch Code.wp Oper.quiet Act.put At Region.wanted yielded
theorem sz89 : (Tryz.prog.info? 89).map (·.size) = some 74 := by kernel_rfl
theorem sz75 : (Tryz.prog.info? 75).map (·.size) = some 64 := by kernel_rfl
theorem zero75 : ∀ w, (zeroValue 75).run Tryz.prog w = .ok (.agg (nums .u32 (List.replicate 64 0))) w := (zero_of_info (P := Tryz.prog) (n := 64) (by kernel_rfl)).1
theorem sz86 : (Tryz.prog.info? 86).map (·.size) = some 64 := by kernel_rfl
theorem sz77 : (Tryz.prog.info? 77).map (·.size) = some 8 := by kernel_rfl
theorem zero77 : ∀ w, (zeroValue 77).run Tryz.prog w = .ok (.agg (nums .u32 (List.replicate 8 0))) w := (zero_of_info (P := Tryz.prog) (n := 8) (by kernel_rfl)).1
theorem sz3 : (Tryz.prog.info? 3).map (·.size) = some 1 := by kernel_rfl
theorem zero89 : ∀ w, (zeroValue 89).run Tryz.prog w = .ok (.agg (s2C (List.replicate 8 0) (List.replicate 64 0) 0 0)) w := fun w => by kernel_rfl
theorem on1_cells (l : List Int) : (nums .u32 l).toList.take (0 + 1) ++ ((nums .u32 l).toList.drop 0).take 7 ++ (nums .u32 l).toList.drop (0 + 1 + 7) = (nums .u32 (on1 l)).toList := by
  simp [nums, on1, List.map_take, List.map_drop]
theorem TurnL.calls (x n : Int) (w0 : World) : Calls Tryz.prog 75 #[.int .u32 x, .int .i64 n] w0 fun e w' => e = .returned (.int .u32 (turnL x n)) ∧ Low w0 w' :=
  (sha2_turn.calls x n _ w0 (by
    unfold sha2_turn.f
    rw [rotl_eq]
    show some (rotl x (wrap64 (-n))) = some (rotl x (IntKind.i64.wrap (0 - n)))
    rw [Int.zero_sub, IntKind.wrap_i64]
    unfold wrap64
    rfl)).mono fun _ _ ⟨e, h⟩ => ⟨e, h.below⟩
theorem Keys.calls (w0 : World) : Calls Tryz.prog 74 #[] w0 fun e w' => e = .returned (.agg (nums .u32 k256)) ∧ Low w0 w' := by
 refine c_fun (R := _) Tryz.func74 rfl 2 rfl (Nat.le_of_ble_eq_true rfl) ?_
 intro a z hA
 clear hA
 refine c_seq (c_region (l_alloc rfl rfl zero75 ?_))
 intro g0 w1 hg1 k1 h1
 have geg0 := Nat.le_trans (Low.refl _).ge hg1
 refine l_end (e_fresh z.put ?_)
 intro a2 z2 m2
 have s0_2 := m2 _ _ (At.hit z rfl)
 have low2 := h1
 clear m2
 refine e_then (c_seq (c_region ?_))
 refine l_q rfl (q_build (cs := nums .u32 k256) rfl rfl (by kernel_rfl) ?_)
 refine l_row rfl rfl rfl (sz75.trans (congrArg some ((nums_size _ _).trans k256_len).symm)) (s0_2.n1).ev (At.hit z2 rfl).ev (nums_one _ _) k1 (((nums_size _ _).trans (List.length_replicate)).trans ((nums_size _ _).trans k256_len).symm) ?_
 intro w3 k3 u3
 refine l_end (e_fresh z2.put ?_)
 intro a4 z4 m4
 have s0_4 := m4 _ _ (s0_2.n1)
 have low4 := (low2.upd u3 geg0)
 clear m4
 refine e_then (wp_ret (r_cell rfl z4.defers s0_4 k3 Tryz.underlying75 rfl (sz75.trans (congrArg some ((nums_size _ _).trans k256_len).symm)) ?_))
 exact ⟨rfl, low4⟩
theorem Press2.calls (c b : List Int) (hc : c.length = 8) (hb : b.length = 64) (f n : Int) (gs : Nat) (w0 wi : World) (low : Low w0 wi) (hge : w0.heap.size ≤ gs) (ks : wi.heap[gs]? = some (.cells (s2C c b f n) 89)) : Calls Tryz.prog 58 #[.pointer (some ⟨gs, 0, none⟩)] wi fun e w' => ∃ v', e = .returned v' ∧ w'.heap[gs]? = some (.cells (s2C (press2 c b) b 0 n) 89) ∧ Low w0 w' := by
 refine c_fun (R := _) Tryz.func58 rfl 176 rfl (Nat.le_of_ble_eq_true rfl) ?_
 intro a z hA
 have s0 := hA 0 _ rfl
 clear hA
 refine c_seq (c_region (l_call (fun v w' => v = .agg (nums .u32 k256) ∧ Low wi w') rfl rfl rfl Tryz.func74 rfl (show Array.map _ _ = (#[] : Array Value) from by simp) ((Keys.calls _).mono fun _ _ ⟨e, k⟩ => ⟨_, e, rfl, k⟩) ?_))
 rintro _ w1 ⟨rfl, h1⟩
 have kgs_1 := h1.blk ks
 refine l_alloc rfl rfl zero75 ?_
 intro g2 w2 hg2 k2 h2
 have lt_gs_g2 := Nat.lt_of_lt_of_le (heap_lt kgs_1) hg2
 have geg2 := Nat.le_trans (low.trans h1).ge hg2
 have kgs_2 := h2.blk kgs_1
 refine l_row rfl rfl rfl (sz75.trans (congrArg some ((nums_size _ _).trans k256_len).symm)) (At.hit z.put rfl).ev ((At.hit z rfl).n1).ev (nums_one _ _) k2 (((nums_size _ _).trans (List.length_replicate)).trans ((nums_size _ _).trans k256_len).symm) ?_
 intro w3 k3 u3
 have kgs_3 := u3.blk kgs_2 (by omega)
 refine l_end (e_fresh z.p2 ?_)
 intro a4 z4 m4
 have s0_4 := m4 _ _ (s0.n2)
 have s2_4 := m4 _ _ (At.hit z.put rfl)
 have low4 := (((low.trans h1).trans h2).upd u3 geg2)
 clear m4
 refine e_then (c_seq (c_region (l_alloc rfl rfl zero75 ?_)))
 intro g3 w5 hg5 k5 h5
 have lt_gs_g3 := Nat.lt_of_lt_of_le (heap_lt kgs_3) hg5
 have lt_g2_g3 := Nat.lt_of_lt_of_le (heap_lt k3) hg5
 have geg3 := Nat.le_trans low4.ge hg5
 have kgs_5 := h5.blk kgs_3
 have kg2_5 := h5.blk k3
 refine l_end (e_fresh z4.put ?_)
 intro a6 z6 m6
 have s0_6 := m6 _ _ (s0_4.n1)
 have s2_6 := m6 _ _ (s2_4.n1)
 have s3_6 := m6 _ _ (At.hit z4 rfl)
 have low6 := (low4.trans h5)
 clear m6
 refine e_then (c_seq (c_seq (c_region ?_)))
 refine l_q rfl (q_move _ _ rfl s0_6.ev ?_)
 refine l_q rfl (q_nil rfl (At.hit z6 rfl).ev ?_)
 refine l_q rfl (q_fld 8 rfl (by kernel_rfl) (At.hit z6.put rfl).ev ?_)
 refine l_q rfl (q_s2b hc hb rfl Tryz.underlying86 rfl sz86 (At.hit z6.p2 rfl).ev (fun _ e => by rw [e]; exact kgs_5) ?_)
 refine l_q rfl (q_move _ _ rfl rfl ?_)
 refine l_end (e_fresh z6.p5 ?_)
 intro a7 z7 m7
 have s0_7 := m7 _ _ (s0_6.n5)
 have s2_7 := m7 _ _ (s2_6.n5)
 have s3_7 := m7 _ _ (s3_6.n5)
 have s18_7 := m7 _ _ ((At.hit z6.p3 rfl).n1)
 have s19_7 := m7 _ _ (At.hit z6.p4 rfl)
 clear m7
 refine e_then (wp_block (c_loop 64 (fun k a w => Fr 176 a ∧ At a 0 (.pointer (some ⟨gs, 0, none⟩)) ∧ At a 2 (.pointer (some ⟨g2, 0, none⟩)) ∧ At a 3 (.pointer (some ⟨g3, 0, none⟩)) ∧ At a 18 (.agg (nums .u8 b)) ∧ At a 19 (.int .i64 ((k : Nat) : Int)) ∧ w.heap[g2]? = some (.cells (nums .u32 k256) 75) ∧ w.heap[g3]? = some (.cells (nums .u32 (wA b k)) 75) ∧ w.heap[gs]? = some (.cells (s2C c b f n) 89) ∧ Low w0 w) ?_ ?_ ?_))
 ·
  exact ⟨z7, s0_7, s2_7, s3_7, s18_7, s19_7, kg2_5, k5, kgs_5, low6⟩
 ·
  intro k a8 w8 hk8 h
  obtain ⟨z8, s0_8, s2_8, s3_8, s18_8, s19_8, kg2_8, kg3_8, kgs_8, low8⟩ := h
  clear k5 kg2_5 kgs_5 low6 s0_7 s18_7 s19_7 s2_7 s3_7 z7
  refine c_seq (c_region ?_)
  refine l_q rfl (q_lss true rfl s19_8.ev rfl (decide_eq_true (by omega)) ?_)
  refine l_end (e_fresh z8.put ?_)
  intro a9 z9 m9
  have s0_9 := m9 _ _ (s0_8.n1)
  have s2_9 := m9 _ _ (s2_8.n1)
  have s3_9 := m9 _ _ (s3_8.n1)
  have s18_9 := m9 _ _ (s18_8.n1)
  have s19_9 := m9 _ _ (s19_8.n1)
  have s20_9 := m9 _ _ (At.hit z8 rfl)
  clear m9
  refine e_then (c_seq (c_true s20_9 ?_))
  refine wp_skip (e_then (c_seq (wp_block (c_seq (c_region ?_)))))
  refine l_q rfl (q_move _ _ rfl s19_9.ev ?_)
  refine l_q rfl (q_index (j := k) (.int .u8 (b.getD k 0)) rfl Tryz.underlying86 (run_sizeOf1 sz5) (part_nums Tryz.underlying5 k (by rw [hb]; omega)) (s18_9.n1).ev (s19_9.n1).ev (by omega) ?_)
  refine l_q rfl (q_assign _ _ rfl ((At.hit z9 rfl).n1).ev ?_)
  refine l_q rfl (q_assign _ _ rfl ((At.hit z9.put rfl).n1).ev ?_)
  refine l_end (e_fresh z9.p4 ?_)
  intro a10 z10 m10
  have s0_10 := m10 _ _ (s0_9.n4)
  have s2_10 := m10 _ _ (s2_9.n4)
  have s3_10 := m10 _ _ (s3_9.n4)
  have s4_10 := m10 _ _ ((At.hit z9.p2 rfl).n1)
  have s5_10 := m10 _ _ (At.hit z9.p3 rfl)
  have s18_10 := m10 _ _ (s18_9.n4)
  have s19_10 := m10 _ _ (s19_9.n4)
  clear m10
  refine e_then (c_region ?_)
  refine l_q rfl (q_move _ _ rfl s4_10.ev ?_)
  refine l_q rfl (q_quo (m := k) (n := 4) (by omega) (by omega) rfl (At.hit z10 rfl).ev rfl ?_)
  refine l_q rfl (q_move _ _ rfl (s4_10.n2).ev ?_)
  refine l_q rfl (q_quo (m := k) (n := 4) (by omega) (by omega) rfl (At.hit z10.p2 rfl).ev rfl ?_)
  refine l_q rfl (q_idx (j := ((k) / 4)) rfl Tryz.underlying75 sz64 (s3_10.n4).ev (At.hit z10.p3 rfl).ev (by omega) ?_)
  refine l_q rfl (q_cell (.int .u32 ((wA b k).getD ((k) / 4) 0)) rfl Tryz.underlying64 (At.hit z10.p4 rfl).ev (fun _ e => by rw [e]; exact nums_cell kg3_8 ((k) / 4) (by rw [(wA_len b k)]; omega)) ?_)
  refine l_q rfl (q_shl (IntKind.u32.wrap (((wA b k).getD ((k) / 4) 0) * 2 ^ min (8 : Int).toNat 32)) rfl (At.hit z10.p5 rfl).ev rfl (by first | omega | exact u64_nonneg _) rfl ?_)
  refine l_q rfl (q_move _ _ rfl (s5_10.n7).ev ?_)
  refine l_fresh z10.p8 ?_
  intro a11 z11 m11
  have s0_11 := m11 _ _ (s0_10.n8)
  have s2_11 := m11 _ _ (s2_10.n8)
  have s3_11 := m11 _ _ (s3_10.n8)
  have s18_11 := m11 _ _ (s18_10.n8)
  have s19_11 := m11 _ _ (s19_10.n8)
  have s24_11 := m11 _ _ ((At.hit z10.put rfl).n6)
  have s29_11 := m11 _ _ ((At.hit z10.p6 rfl).n1)
  have s30_11 := m11 _ _ (At.hit z10.p7 rfl)
  clear m11
  refine l_q rfl (q_conv _ rfl s30_11.ev Tryz.underlying5 Tryz.underlying64 rfl ?_)
  refine l_q rfl (q_or rfl (s29_11.n1).ev (At.hit z11 rfl).ev ?_)
  refine l_q rfl (q_idx (j := ((k) / 4)) rfl Tryz.underlying75 sz64 (s3_11.n2).ev (s24_11.n2).ev (by omega) ?_)
  refine l_cell (j := ((k) / 4)) (v := .int .u32 (Go.bits .or .u32 (IntKind.u32.wrap (((wA b k).getD ((k) / 4) 0) * 2 ^ min (8 : Int).toNat 32)) (IntKind.u32.wrap (b.getD k 0)))) rfl rfl rfl sz64 (At.hit z11.p2 rfl).ev ((At.hit z11.put rfl).n1).ev rfl kg3_8 (by rw [(nums_size _ _).trans (wA_len b k)]; omega) ?_
  intro w12 k12 u12
  rw [nums_put] at k12
  have kg2_12 := u12.blk kg2_8 (by omega)
  have kgs_12 := u12.blk kgs_8 (by omega)
  refine l_end (e_fresh z11.p3 ?_)
  intro a13 z13 m13
  have s0_13 := m13 _ _ (s0_11.n3)
  have s2_13 := m13 _ _ (s2_11.n3)
  have s3_13 := m13 _ _ (s3_11.n3)
  have s18_13 := m13 _ _ (s18_11.n3)
  have s19_13 := m13 _ _ (s19_11.n3)
  have low13 := (low8.upd u12 geg3)
  clear m13
  refine e_in (e_then (c_region ?_))
  refine l_q rfl (q_add (((k + 1 : Nat) : Int)) rfl s19_13.ev rfl (i64_is (by omega) (by omega) (by omega)) ?_)
  refine l_q rfl (q_move _ _ rfl (At.hit z13 rfl).ev ?_)
  refine l_end (e_fresh z13.p2 ?_)
  intro a14 z14 m14
  have s0_14 := m14 _ _ (s0_13.n2)
  have s2_14 := m14 _ _ (s2_13.n2)
  have s3_14 := m14 _ _ (s3_13.n2)
  have s18_14 := m14 _ _ (s18_13.n2)
  have s19_14 := m14 _ _ (At.hit z13.put rfl)
  clear m14
  exact ⟨z14, s0_14, s2_14, s3_14, s18_14, s19_14, kg2_12, k12, kgs_12, low13⟩
 ·
  intro a15 w15 h
  obtain ⟨z15, s0_15, s2_15, s3_15, s18_15, s19_15, kg2_15, kg3_15, kgs_15, low15⟩ := h
  clear k5 kg2_5 kgs_5 low6 s0_7 s18_7 s19_7 s2_7 s3_7 z7
  refine c_seq (c_region ?_)
  refine l_q rfl (q_lss false rfl s19_15.ev rfl (decide_eq_false (by omega)) ?_)
  refine l_end (e_fresh z15.put ?_)
  intro a16 z16 m16
  have s0_16 := m16 _ _ (s0_15.n1)
  have s2_16 := m16 _ _ (s2_15.n1)
  have s3_16 := m16 _ _ (s3_15.n1)
  have s18_16 := m16 _ _ (s18_15.n1)
  have s19_16 := m16 _ _ (s19_15.n1)
  have s20_16 := m16 _ _ (At.hit z15 rfl)
  clear m16
  refine e_then (c_seq (c_false s20_16 ?_))
  refine wp_exit (x_then (x_then (in_exit (e_then (c_seq (c_seq (c_region ?_)))))))
  refine l_q rfl (q_assign _ _ rfl rfl ?_)
  refine l_end (e_fresh z16.put ?_)
  intro a17 z17 m17
  have s0_17 := m17 _ _ (s0_16.n1)
  have s2_17 := m17 _ _ (s2_16.n1)
  have s3_17 := m17 _ _ (s3_16.n1)
  have s6_17 := m17 _ _ (At.hit z16 rfl)
  clear m17
  refine e_then (wp_block (c_loop 48 (fun d a w => Fr 176 a ∧ At a 0 (.pointer (some ⟨gs, 0, none⟩)) ∧ At a 2 (.pointer (some ⟨g2, 0, none⟩)) ∧ At a 3 (.pointer (some ⟨g3, 0, none⟩)) ∧ At a 6 (.int .i64 ((d + 16 : Nat) : Int)) ∧ w.heap[g2]? = some (.cells (nums .u32 k256) 75) ∧ w.heap[g3]? = some (.cells (nums .u32 (wB (wA b 64) d)) 75) ∧ w.heap[gs]? = some (.cells (s2C c b f n) 89) ∧ Low w0 w) ?_ ?_ ?_))
  ·
   exact ⟨z17, s0_17, s2_17, s3_17, (s6_17.same (congrArg (Value.int .i64) (by omega))), kg2_15, kg3_15, kgs_15, low15⟩
  ·
   intro d a18 w18 hk18 h
   obtain ⟨z18, s0_18, s2_18, s3_18, s6_18, kg2_18, kg3_18, kgs_18, low18⟩ := h
   clear kg2_15 kg3_15 kgs_15 low15 s0_17 s2_17 s3_17 s6_17 z17
   refine c_seq (c_seq (c_region ?_))
   refine l_q rfl (q_move _ _ rfl s6_18.ev ?_)
   refine l_q rfl (q_lss true rfl (At.hit z18 rfl).ev rfl (decide_eq_true (by omega)) ?_)
   refine l_end (e_fresh z18.p2 ?_)
   intro a19 z19 m19
   have s0_19 := m19 _ _ (s0_18.n2)
   have s2_19 := m19 _ _ (s2_18.n2)
   have s3_19 := m19 _ _ (s3_18.n2)
   have s6_19 := m19 _ _ (s6_18.n2)
   have s36_19 := m19 _ _ (At.hit z18.put rfl)
   clear m19
   refine e_then (c_true s36_19 ?_)
   refine wp_skip (e_then (c_seq (wp_block (c_seq (region_low hm (by kernel_rfl) ?_)))))
   refine qs (q_move _ _ rfl s6_19.ev ?_)
   refine qs (q_sub (((d + 1 : Nat) : Int)) rfl (At.hit z19 rfl).ev rfl (i64_is (by omega) (by omega) (by omega)) ?_)
   refine qs (q_idx (j := d + 1) rfl Tryz.underlying75 sz64 (s3_19.n2).ev (At.hit z19.put rfl).ev (by omega) ?_)
   refine qs (q_cell (.int .u32 ((wB (wA b 64) d).getD (d + 1) 0)) rfl Tryz.underlying64 (At.hit z19.p2 rfl).ev (fun _ h => nums_cell (h.blk kg3_18) (d + 1) (by rw [(wB_len _ (wA_len b 64) d)]; omega)) ?_)
   refine qs (q_move _ _ rfl (s6_19.n4).ev ?_)
   refine qs (q_sub (((d + 14 : Nat) : Int)) rfl (At.hit z19.p4 rfl).ev rfl (i64_is (by omega) (by omega) (by omega)) ?_)
   refine qs (q_idx (j := d + 14) rfl Tryz.underlying75 sz64 (s3_19.n6).ev (At.hit z19.p5 rfl).ev (by omega) ?_)
   refine qs (q_cell (.int .u32 ((wB (wA b 64) d).getD (d + 14) 0)) rfl Tryz.underlying64 (At.hit z19.p6 rfl).ev (fun _ h => nums_cell (h.blk kg3_18) (d + 14) (by rw [(wB_len _ (wA_len b 64) d)]; omega)) ?_)
   refine q_fresh z19.p8 ?_
   intro a20 z20 m20
   have s0_20 := m20 _ _ (s0_19.n8)
   have s2_20 := m20 _ _ (s2_19.n8)
   have s3_20 := m20 _ _ (s3_19.n8)
   have s6_20 := m20 _ _ (s6_19.n8)
   have s42_20 := m20 _ _ ((At.hit z19.p3 rfl).n4)
   have s46_20 := m20 _ _ (At.hit z19.p7 rfl)
   clear m20
   refine qs (q_assign _ _ rfl s42_20.ev ?_)
   refine qs (q_assign _ _ rfl (s46_20.n1).ev ?_)
   refine qz ?_
   intro w21 h21
   have kg2_21 := h21.blk kg2_18
   have kg3_21 := h21.blk kg3_18
   have kgs_21 := h21.blk kgs_18
   refine e_id (e_fresh z20.p2 ?_)
   intro a22 z22 m22
   have s0_22 := m22 _ _ (s0_20.n2)
   have s2_22 := m22 _ _ (s2_20.n2)
   have s3_22 := m22 _ _ (s3_20.n2)
   have s6_22 := m22 _ _ (s6_20.n2)
   have s7_22 := m22 _ _ ((At.hit z20 rfl).n1)
   have s8_22 := m22 _ _ (At.hit z20.put rfl)
   have low22 := (low18.trans h21)
   clear m22
   refine e_then (region_low_tail 29 hm (by kernel_rfl) ?_)
   simp only [List.take_succ_cons, List.take_zero, List.drop_succ_cons, List.drop_zero]
   refine qs (q_move _ _ rfl s6_22.ev ?_)
   refine qs (q_move _ _ rfl (s6_22.n1).ev ?_)
   refine qs (q_sub (((d : Nat) : Int)) rfl (At.hit z22.put rfl).ev rfl (i64_is (by omega) (by omega) (by omega)) ?_)
   refine qs (q_idx (j := d) rfl Tryz.underlying75 sz64 (s3_22.n3).ev (At.hit z22.p2 rfl).ev (by omega) ?_)
   refine qs (q_cell (.int .u32 ((wB (wA b 64) d).getD d 0)) rfl Tryz.underlying64 (At.hit z22.p3 rfl).ev (fun _ h => nums_cell (h.blk kg3_21) d (by rw [(wB_len _ (wA_len b 64) d)]; omega)) ?_)
   refine qs (q_move _ _ rfl (s7_22.n5).ev ?_)
   refine qs (q_call (.int .u32 (turnL ((wB (wA b 64) d).getD (d + 1) 0) 7)) rfl rfl Tryz.func75 rfl (args2 rfl (At.hit z22.p5 rfl).ev rfl) (fun _ h => (TurnL.calls ((wB (wA b 64) d).getD (d + 1) 0) 7 _).mono fun _ _ ⟨e, k⟩ => ⟨e, h.trans k⟩) ?_)
   refine qs (q_move _ _ rfl (s7_22.n7).ev ?_)
   refine q_fresh z22.p8 ?_
   intro a23 z23 m23
   have s0_23 := m23 _ _ (s0_22.n8)
   have s2_23 := m23 _ _ (s2_22.n8)
   have s3_23 := m23 _ _ (s3_22.n8)
   have s6_23 := m23 _ _ (s6_22.n8)
   have s7_23 := m23 _ _ (s7_22.n8)
   have s8_23 := m23 _ _ (s8_22.n8)
   have s47_23 := m23 _ _ ((At.hit z22 rfl).n7)
   have s51_23 := m23 _ _ ((At.hit z22.p4 rfl).n3)
   have s53_23 := m23 _ _ ((At.hit z22.p6 rfl).n1)
   have s54_23 := m23 _ _ (At.hit z22.p7 rfl)
   clear m23
   refine qs (q_call (.int .u32 (turnL ((wB (wA b 64) d).getD (d + 1) 0) 18)) rfl rfl Tryz.func75 rfl (args2 rfl s54_23.ev rfl) (fun _ h => (TurnL.calls ((wB (wA b 64) d).getD (d + 1) 0) 18 _).mono fun _ _ ⟨e, k⟩ => ⟨e, h.trans k⟩) ?_)
   refine qs (q_xor rfl (s53_23.n1).ev (At.hit z23 rfl).ev ?_)
   refine qs (q_move _ _ rfl (s7_23.n2).ev ?_)
   refine qs (q_shr (((wB (wA b 64) d).getD (d + 1) 0).fdiv (2 ^ min (3 : Int).toNat 32)) rfl (At.hit z23.p2 rfl).ev rfl (by first | omega | exact u64_nonneg _) rfl ?_)
   refine qs (q_xor rfl ((At.hit z23.put rfl).n2).ev (At.hit z23.p3 rfl).ev ?_)
   refine qs (q_add _ rfl (s51_23.n5).ev (At.hit z23.p4 rfl).ev rfl ?_)
   refine qs (q_move _ _ rfl (s6_23.n6).ev ?_)
   refine qs (q_sub (((d + 9 : Nat) : Int)) rfl (At.hit z23.p6 rfl).ev rfl (i64_is (by omega) (by omega) (by omega)) ?_)
   refine q_fresh z23.p8 ?_
   intro a24 z24 m24
   have s0_24 := m24 _ _ (s0_23.n8)
   have s2_24 := m24 _ _ (s2_23.n8)
   have s3_24 := m24 _ _ (s3_23.n8)
   have s6_24 := m24 _ _ (s6_23.n8)
   have s8_24 := m24 _ _ (s8_23.n8)
   have s47_24 := m24 _ _ (s47_23.n8)
   have s60_24 := m24 _ _ ((At.hit z23.p5 rfl).n2)
   have s62_24 := m24 _ _ (At.hit z23.p7 rfl)
   clear m24
   refine qs (q_idx (j := d + 9) rfl Tryz.underlying75 sz64 s3_24.ev s62_24.ev (by omega) ?_)
   refine qs (q_cell (.int .u32 ((wB (wA b 64) d).getD (d + 9) 0)) rfl Tryz.underlying64 (At.hit z24 rfl).ev (fun _ h => nums_cell (h.blk kg3_21) (d + 9) (by rw [(wB_len _ (wA_len b 64) d)]; omega)) ?_)
   refine qs (q_add _ rfl (s60_24.n2).ev (At.hit z24.put rfl).ev rfl ?_)
   refine qs (q_move _ _ rfl (s8_24.n3).ev ?_)
   refine qs (q_call (.int .u32 (turnL ((wB (wA b 64) d).getD (d + 14) 0) 17)) rfl rfl Tryz.func75 rfl (args2 rfl (At.hit z24.p3 rfl).ev rfl) (fun _ h => (TurnL.calls ((wB (wA b 64) d).getD (d + 14) 0) 17 _).mono fun _ _ ⟨e, k⟩ => ⟨e, h.trans k⟩) ?_)
   refine qs (q_move _ _ rfl (s8_24.n5).ev ?_)
   refine qs (q_call (.int .u32 (turnL ((wB (wA b 64) d).getD (d + 14) 0) 19)) rfl rfl Tryz.func75 rfl (args2 rfl (At.hit z24.p5 rfl).ev rfl) (fun _ h => (TurnL.calls ((wB (wA b 64) d).getD (d + 14) 0) 19 _).mono fun _ _ ⟨e, k⟩ => ⟨e, h.trans k⟩) ?_)
   refine qs (q_xor rfl ((At.hit z24.p4 rfl).n2).ev (At.hit z24.p6 rfl).ev ?_)
   refine q_fresh z24.p8 ?_
   intro a25 z25 m25
   have s0_25 := m25 _ _ (s0_24.n8)
   have s2_25 := m25 _ _ (s2_24.n8)
   have s3_25 := m25 _ _ (s3_24.n8)
   have s6_25 := m25 _ _ (s6_24.n8)
   have s8_25 := m25 _ _ (s8_24.n8)
   have s47_25 := m25 _ _ (s47_24.n8)
   have s65_25 := m25 _ _ ((At.hit z24.p2 rfl).n5)
   have s70_25 := m25 _ _ (At.hit z24.p7 rfl)
   clear m25
   refine qs (q_move _ _ rfl s8_25.ev ?_)
   refine qs (q_shr (((wB (wA b 64) d).getD (d + 14) 0).fdiv (2 ^ min (10 : Int).toNat 32)) rfl (At.hit z25 rfl).ev rfl (by first | omega | exact u64_nonneg _) rfl ?_)
   refine qs (q_xor rfl (s70_25.n2).ev (At.hit z25.put rfl).ev ?_)
   refine qs (q_add _ rfl (s65_25.n3).ev (At.hit z25.p2 rfl).ev rfl ?_)
   refine qs (q_idx (j := d + 16) rfl Tryz.underlying75 sz64 (s3_25.n4).ev (s47_25.n4).ev (by omega) ?_)
   refine qz ?_
   intro w26 h26
   have kg2_26 := h26.blk kg2_21
   have kg3_26 := h26.blk kg3_21
   have kgs_26 := h26.blk kgs_21
   refine l_cell (j := (d + 16)) (v := .int .u32 (IntKind.u32.wrap ((IntKind.u32.wrap ((IntKind.u32.wrap (((wB (wA b 64) d).getD d 0) + (Go.bits .xor .u32 (Go.bits .xor .u32 (turnL ((wB (wA b 64) d).getD (d + 1) 0) 7) (turnL ((wB (wA b 64) d).getD (d + 1) 0) 18)) (((wB (wA b 64) d).getD (d + 1) 0).fdiv (2 ^ min (3 : Int).toNat 32))))) + ((wB (wA b 64) d).getD (d + 9) 0))) + (Go.bits .xor .u32 (Go.bits .xor .u32 (turnL ((wB (wA b 64) d).getD (d + 14) 0) 17) (turnL ((wB (wA b 64) d).getD (d + 14) 0) 19)) (((wB (wA b 64) d).getD (d + 14) 0).fdiv (2 ^ min (10 : Int).toNat 32)))))) rfl rfl rfl sz64 (At.hit z25.p4 rfl).ev ((At.hit z25.p3 rfl).n1).ev rfl kg3_26 (by rw [(nums_size _ _).trans (wB_len _ (wA_len b 64) d)]; omega) ?_
   intro w27 k27 u27
   rw [nums_put] at k27
   have kg2_27 := u27.blk kg2_26 (by omega)
   have kgs_27 := u27.blk kgs_26 (by omega)
   refine l_end (e_fresh z25.p5 ?_)
   intro a28 z28 m28
   have s0_28 := m28 _ _ (s0_25.n5)
   have s2_28 := m28 _ _ (s2_25.n5)
   have s3_28 := m28 _ _ (s3_25.n5)
   have s6_28 := m28 _ _ (s6_25.n5)
   have low28 := ((low22.trans h26).upd u27 geg3)
   clear m28
   refine e_in (e_then (c_region ?_))
   refine l_q rfl (q_move _ _ rfl s6_28.ev ?_)
   refine l_q rfl (q_add (((d + 17 : Nat) : Int)) rfl (At.hit z28 rfl).ev rfl (i64_is (by omega) (by omega) (by omega)) ?_)
   refine l_q rfl (q_assign _ _ rfl (At.hit z28.put rfl).ev ?_)
   refine l_end (e_fresh z28.p3 ?_)
   intro a29 z29 m29
   have s0_29 := m29 _ _ (s0_28.n3)
   have s2_29 := m29 _ _ (s2_28.n3)
   have s3_29 := m29 _ _ (s3_28.n3)
   have s6_29 := m29 _ _ (At.hit z28.p2 rfl)
   clear m29
   exact ⟨z29, s0_29, s2_29, s3_29, (s6_29.same (congrArg (Value.int .i64) (by omega))), kg2_27, k27, kgs_27, low28⟩
  ·
   intro a30 w30 h
   obtain ⟨z30, s0_30, s2_30, s3_30, s6_30, kg2_30, kg3_30, kgs_30, low30⟩ := h
   clear kg2_15 kg3_15 kgs_15 low15 s0_17 s2_17 s3_17 s6_17 z17
   refine c_seq (c_seq (c_region ?_))
   refine l_q rfl (q_move _ _ rfl s6_30.ev ?_)
   refine l_q rfl (q_lss false rfl (At.hit z30 rfl).ev rfl (decide_eq_false (by omega)) ?_)
   refine l_end (e_fresh z30.p2 ?_)
   intro a31 z31 m31
   have s0_31 := m31 _ _ (s0_30.n2)
   have s2_31 := m31 _ _ (s2_30.n2)
   have s3_31 := m31 _ _ (s3_30.n2)
   have s6_31 := m31 _ _ (s6_30.n2)
   have s36_31 := m31 _ _ (At.hit z30.put rfl)
   clear m31
   refine e_then (c_false s36_31 ?_)
   refine wp_exit (x_then (x_then (in_exit (e_then (c_seq (c_region ?_))))))
   refine l_q rfl (q_move _ _ rfl s0_31.ev ?_)
   refine l_q rfl (q_nil rfl (At.hit z31 rfl).ev ?_)
   refine l_q rfl (q_fld 0 rfl (by kernel_rfl) (At.hit z31.put rfl).ev ?_)
   refine l_q rfl (q_s2c hc rfl Tryz.underlying77 rfl sz77 (At.hit z31.p2 rfl).ev (fun _ e => by rw [e]; exact kgs_30) ?_)
   refine l_alloc rfl rfl zero77 ?_
   intro g9 w32 hg32 k32 h32
   have lt_g2_g9 := Nat.lt_of_lt_of_le (heap_lt kg2_30) hg32
   have lt_g3_g9 := Nat.lt_of_lt_of_le (heap_lt kg3_30) hg32
   have lt_gs_g9 := Nat.lt_of_lt_of_le (heap_lt kgs_30) hg32
   have geg9 := Nat.le_trans low30.ge hg32
   have kg2_32 := h32.blk kg2_30
   have kg3_32 := h32.blk kg3_30
   have kgs_32 := h32.blk kgs_30
   refine l_row rfl rfl rfl (sz77.trans (congrArg some ((nums_size _ _).trans hc).symm)) (At.hit z31.p4 rfl).ev ((At.hit z31.p3 rfl).n1).ev (nums_one _ _) k32 (((nums_size _ _).trans (List.length_replicate)).trans ((nums_size _ _).trans hc).symm) ?_
   intro w33 k33 u33
   have kg2_33 := u33.blk kg2_32 (by omega)
   have kg3_33 := u33.blk kg3_32 (by omega)
   have kgs_33 := u33.blk kgs_32 (by omega)
   refine l_end (e_fresh z31.p5 ?_)
   intro a34 z34 m34
   have s0_34 := m34 _ _ (s0_31.n5)
   have s2_34 := m34 _ _ (s2_31.n5)
   have s3_34 := m34 _ _ (s3_31.n5)
   have s9_34 := m34 _ _ (At.hit z31.p4 rfl)
   have low34 := ((low30.trans h32).upd u33 geg9)
   clear m34
   refine e_then (c_seq (c_seq (c_region ?_)))
   refine l_q rfl (q_move _ _ rfl rfl ?_)
   refine l_end (e_fresh z34.put ?_)
   intro a35 z35 m35
   have s0_35 := m35 _ _ (s0_34.n1)
   have s2_35 := m35 _ _ (s2_34.n1)
   have s3_35 := m35 _ _ (s3_34.n1)
   have s9_35 := m35 _ _ (s9_34.n1)
   have s80_35 := m35 _ _ (At.hit z34 rfl)
   clear m35
   refine e_then (wp_block (c_loop 64 (fun t a w => Fr 176 a ∧ At a 0 (.pointer (some ⟨gs, 0, none⟩)) ∧ At a 2 (.pointer (some ⟨g2, 0, none⟩)) ∧ At a 3 (.pointer (some ⟨g3, 0, none⟩)) ∧ At a 9 (.pointer (some ⟨g9, 0, none⟩)) ∧ At a 80 (.int .i64 ((t : Nat) : Int)) ∧ w.heap[g2]? = some (.cells (nums .u32 k256) 75) ∧ w.heap[g3]? = some (.cells (nums .u32 (wB (wA b 64) 48)) 75) ∧ w.heap[g9]? = some (.cells (nums .u32 (roundsL (wB (wA b 64) 48) c t)) 77) ∧ w.heap[gs]? = some (.cells (s2C c b f n) 89) ∧ Low w0 w) ?_ ?_ ?_))
   ·
    exact ⟨z35, s0_35, s2_35, s3_35, s9_35, s80_35, kg2_33, kg3_33, k33, kgs_33, low34⟩
   ·
    intro t a36 w36 hk36 h
    obtain ⟨z36, s0_36, s2_36, s3_36, s9_36, s80_36, kg2_36, kg3_36, kg9_36, kgs_36, low36⟩ := h
    clear k33 kg2_33 kg3_33 kgs_33 low34 s0_35 s2_35 s3_35 s80_35 s9_35 z35
    refine c_seq (c_region ?_)
    refine l_q rfl (q_lss true rfl s80_36.ev rfl (decide_eq_true (by omega)) ?_)
    refine l_end (e_fresh z36.put ?_)
    intro a37 z37 m37
    have s0_37 := m37 _ _ (s0_36.n1)
    have s2_37 := m37 _ _ (s2_36.n1)
    have s3_37 := m37 _ _ (s3_36.n1)
    have s9_37 := m37 _ _ (s9_36.n1)
    have s80_37 := m37 _ _ (s80_36.n1)
    have s81_37 := m37 _ _ (At.hit z36 rfl)
    clear m37
    refine e_then (c_seq (c_true s81_37 ?_))
    refine wp_skip (e_then (c_seq (wp_block (c_seq (c_region ?_)))))
    refine l_q rfl (q_move _ _ rfl s80_37.ev ?_)
    refine l_q rfl (q_assign _ _ rfl (At.hit z37 rfl).ev ?_)
    refine l_end (e_fresh z37.p2 ?_)
    intro a38 z38 m38
    have s0_38 := m38 _ _ (s0_37.n2)
    have s2_38 := m38 _ _ (s2_37.n2)
    have s3_38 := m38 _ _ (s3_37.n2)
    have s9_38 := m38 _ _ (s9_37.n2)
    have s10_38 := m38 _ _ (At.hit z37.put rfl)
    have s80_38 := m38 _ _ (s80_37.n2)
    clear m38
    refine e_then (c_seq (region_low hm (by kernel_rfl) ?_))
    refine qs (q_idx (j := 7) rfl Tryz.underlying77 sz64 s9_38.ev rfl (by omega) ?_)
    refine qs (q_cell (.int .u32 ((roundsL (wB (wA b 64) 48) c t).getD 7 0)) rfl Tryz.underlying64 (At.hit z38 rfl).ev (fun _ h => nums_cell (h.blk kg9_36) 7 (by rw [(roundsL_len _ c hc t)]; omega)) ?_)
    refine qs (q_idx (j := 4) rfl Tryz.underlying77 sz64 (s9_38.n2).ev rfl (by omega) ?_)
    refine qs (q_cell (.int .u32 ((roundsL (wB (wA b 64) 48) c t).getD 4 0)) rfl Tryz.underlying64 (At.hit z38.p2 rfl).ev (fun _ h => nums_cell (h.blk kg9_36) 4 (by rw [(roundsL_len _ c hc t)]; omega)) ?_)
    refine qs (q_call (.int .u32 (turnL ((roundsL (wB (wA b 64) 48) c t).getD 4 0) 6)) rfl rfl Tryz.func75 rfl (args2 rfl (At.hit z38.p3 rfl).ev rfl) (fun _ h => (TurnL.calls ((roundsL (wB (wA b 64) 48) c t).getD 4 0) 6 _).mono fun _ _ ⟨e, k⟩ => ⟨e, h.trans k⟩) ?_)
    refine qs (q_idx (j := 4) rfl Tryz.underlying77 sz64 (s9_38.n5).ev rfl (by omega) ?_)
    refine qs (q_cell (.int .u32 ((roundsL (wB (wA b 64) 48) c t).getD 4 0)) rfl Tryz.underlying64 (At.hit z38.p5 rfl).ev (fun _ h => nums_cell (h.blk kg9_36) 4 (by rw [(roundsL_len _ c hc t)]; omega)) ?_)
    refine qs (q_call (.int .u32 (turnL ((roundsL (wB (wA b 64) 48) c t).getD 4 0) 11)) rfl rfl Tryz.func75 rfl (args2 rfl (At.hit z38.p6 rfl).ev rfl) (fun _ h => (TurnL.calls ((roundsL (wB (wA b 64) 48) c t).getD 4 0) 11 _).mono fun _ _ ⟨e, k⟩ => ⟨e, h.trans k⟩) ?_)
    refine q_fresh z38.p8 ?_
    intro a39 z39 m39
    have s0_39 := m39 _ _ (s0_38.n8)
    have s2_39 := m39 _ _ (s2_38.n8)
    have s3_39 := m39 _ _ (s3_38.n8)
    have s9_39 := m39 _ _ (s9_38.n8)
    have s10_39 := m39 _ _ (s10_38.n8)
    have s80_39 := m39 _ _ (s80_38.n8)
    have s84_39 := m39 _ _ ((At.hit z38.put rfl).n6)
    have s87_39 := m39 _ _ ((At.hit z38.p4 rfl).n3)
    have s90_39 := m39 _ _ (At.hit z38.p7 rfl)
    clear m39
    refine qs (q_xor rfl s87_39.ev s90_39.ev ?_)
    refine qs (q_idx (j := 4) rfl Tryz.underlying77 sz64 (s9_39.n1).ev rfl (by omega) ?_)
    refine qs (q_cell (.int .u32 ((roundsL (wB (wA b 64) 48) c t).getD 4 0)) rfl Tryz.underlying64 (At.hit z39.put rfl).ev (fun _ h => nums_cell (h.blk kg9_36) 4 (by rw [(roundsL_len _ c hc t)]; omega)) ?_)
    refine qs (q_call (.int .u32 (turnL ((roundsL (wB (wA b 64) 48) c t).getD 4 0) 25)) rfl rfl Tryz.func75 rfl (args2 rfl (At.hit z39.p2 rfl).ev rfl) (fun _ h => (TurnL.calls ((roundsL (wB (wA b 64) 48) c t).getD 4 0) 25 _).mono fun _ _ ⟨e, k⟩ => ⟨e, h.trans k⟩) ?_)
    refine qs (q_xor rfl ((At.hit z39 rfl).n3).ev (At.hit z39.p3 rfl).ev ?_)
    refine qs (q_add _ rfl (s84_39.n5).ev (At.hit z39.p4 rfl).ev rfl ?_)
    refine qs (q_idx (j := 6) rfl Tryz.underlying77 sz64 (s9_39.n6).ev rfl (by omega) ?_)
    refine qs (q_cell (.int .u32 ((roundsL (wB (wA b 64) 48) c t).getD 6 0)) rfl Tryz.underlying64 (At.hit z39.p6 rfl).ev (fun _ h => nums_cell (h.blk kg9_36) 6 (by rw [(roundsL_len _ c hc t)]; omega)) ?_)
    refine q_fresh z39.p8 ?_
    intro a40 z40 m40
    have s0_40 := m40 _ _ (s0_39.n8)
    have s2_40 := m40 _ _ (s2_39.n8)
    have s3_40 := m40 _ _ (s3_39.n8)
    have s9_40 := m40 _ _ (s9_39.n8)
    have s10_40 := m40 _ _ (s10_39.n8)
    have s80_40 := m40 _ _ (s80_39.n8)
    have s96_40 := m40 _ _ ((At.hit z39.p5 rfl).n2)
    have s98_40 := m40 _ _ (At.hit z39.p7 rfl)
    clear m40
    refine qs (q_idx (j := 4) rfl Tryz.underlying77 sz64 s9_40.ev rfl (by omega) ?_)
    refine qs (q_cell (.int .u32 ((roundsL (wB (wA b 64) 48) c t).getD 4 0)) rfl Tryz.underlying64 (At.hit z40 rfl).ev (fun _ h => nums_cell (h.blk kg9_36) 4 (by rw [(roundsL_len _ c hc t)]; omega)) ?_)
    refine qs (q_idx (j := 5) rfl Tryz.underlying77 sz64 (s9_40.n2).ev rfl (by omega) ?_)
    refine qs (q_cell (.int .u32 ((roundsL (wB (wA b 64) 48) c t).getD 5 0)) rfl Tryz.underlying64 (At.hit z40.p2 rfl).ev (fun _ h => nums_cell (h.blk kg9_36) 5 (by rw [(roundsL_len _ c hc t)]; omega)) ?_)
    refine qs (q_idx (j := 6) rfl Tryz.underlying77 sz64 (s9_40.n4).ev rfl (by omega) ?_)
    refine qs (q_cell (.int .u32 ((roundsL (wB (wA b 64) 48) c t).getD 6 0)) rfl Tryz.underlying64 (At.hit z40.p4 rfl).ev (fun _ h => nums_cell (h.blk kg9_36) 6 (by rw [(roundsL_len _ c hc t)]; omega)) ?_)
    refine qs (q_xor rfl ((At.hit z40.p3 rfl).n2).ev (At.hit z40.p5 rfl).ev ?_)
    refine qs (q_and rfl ((At.hit z40.put rfl).n5).ev (At.hit z40.p6 rfl).ev ?_)
    refine q_fresh z40.p8 ?_
    intro a41 z41 m41
    have s0_41 := m41 _ _ (s0_40.n8)
    have s2_41 := m41 _ _ (s2_40.n8)
    have s3_41 := m41 _ _ (s3_40.n8)
    have s9_41 := m41 _ _ (s9_40.n8)
    have s10_41 := m41 _ _ (s10_40.n8)
    have s80_41 := m41 _ _ (s80_40.n8)
    have s96_41 := m41 _ _ (s96_40.n8)
    have s98_41 := m41 _ _ (s98_40.n8)
    have s106_41 := m41 _ _ (At.hit z40.p7 rfl)
    clear m41
    refine qs (q_xor rfl s98_41.ev s106_41.ev ?_)
    refine qs (q_add _ rfl (s96_41.n1).ev (At.hit z41 rfl).ev rfl ?_)
    refine qs (q_move _ _ rfl (s10_41.n2).ev ?_)
    refine qs (q_idx (j := t) rfl Tryz.underlying75 sz64 (s2_41.n3).ev (At.hit z41.p2 rfl).ev (by omega) ?_)
    refine qs (q_cell (.int .u32 (k256.getD t 0)) rfl Tryz.underlying64 (At.hit z41.p3 rfl).ev (fun _ h => nums_cell (h.blk kg2_36) t (by rw [k256_len]; omega)) ?_)
    refine qs (q_add _ rfl ((At.hit z41.put rfl).n3).ev (At.hit z41.p4 rfl).ev rfl ?_)
    refine qs (q_move _ _ rfl (s10_41.n6).ev ?_)
    refine qs (q_idx (j := t) rfl Tryz.underlying75 sz64 (s3_41.n7).ev (At.hit z41.p6 rfl).ev (by omega) ?_)
    refine q_fresh z41.p8 ?_
    intro a42 z42 m42
    have s0_42 := m42 _ _ (s0_41.n8)
    have s2_42 := m42 _ _ (s2_41.n8)
    have s3_42 := m42 _ _ (s3_41.n8)
    have s9_42 := m42 _ _ (s9_41.n8)
    have s80_42 := m42 _ _ (s80_41.n8)
    have s112_42 := m42 _ _ ((At.hit z41.p5 rfl).n2)
    have s114_42 := m42 _ _ (At.hit z41.p7 rfl)
    clear m42
    refine qs (q_cell (.int .u32 ((wB (wA b 64) 48).getD t 0)) rfl Tryz.underlying64 s114_42.ev (fun _ h => nums_cell (h.blk kg3_36) t (by rw [(wB_len _ (wA_len b 64) 48)]; omega)) ?_)
    refine qs (q_add _ rfl (s112_42.n1).ev (At.hit z42 rfl).ev rfl ?_)
    refine qs (q_assign _ _ rfl (At.hit z42.put rfl).ev ?_)
    refine qz ?_
    intro w43 h43
    have kg2_43 := h43.blk kg2_36
    have kg3_43 := h43.blk kg3_36
    have kg9_43 := h43.blk kg9_36
    have kgs_43 := h43.blk kgs_36
    refine e_id (e_fresh z42.p3 ?_)
    intro a44 z44 m44
    have s0_44 := m44 _ _ (s0_42.n3)
    have s2_44 := m44 _ _ (s2_42.n3)
    have s3_44 := m44 _ _ (s3_42.n3)
    have s9_44 := m44 _ _ (s9_42.n3)
    have s11_44 := m44 _ _ (At.hit z42.p2 rfl)
    have s80_44 := m44 _ _ (s80_42.n3)
    have low44 := (low36.trans h43)
    clear m44
    refine e_then (c_seq (region_low hm (by kernel_rfl) ?_))
    refine qs (q_idx (j := 0) rfl Tryz.underlying77 sz64 s9_44.ev rfl (by omega) ?_)
    refine qs (q_cell (.int .u32 ((roundsL (wB (wA b 64) 48) c t).getD 0 0)) rfl Tryz.underlying64 (At.hit z44 rfl).ev (fun _ h => nums_cell (h.blk kg9_43) 0 (by rw [(roundsL_len _ c hc t)]; omega)) ?_)
    refine qs (q_call (.int .u32 (turnL ((roundsL (wB (wA b 64) 48) c t).getD 0 0) 2)) rfl rfl Tryz.func75 rfl (args2 rfl (At.hit z44.put rfl).ev rfl) (fun _ h => (TurnL.calls ((roundsL (wB (wA b 64) 48) c t).getD 0 0) 2 _).mono fun _ _ ⟨e, k⟩ => ⟨e, h.trans k⟩) ?_)
    refine qs (q_idx (j := 0) rfl Tryz.underlying77 sz64 (s9_44.n3).ev rfl (by omega) ?_)
    refine qs (q_cell (.int .u32 ((roundsL (wB (wA b 64) 48) c t).getD 0 0)) rfl Tryz.underlying64 (At.hit z44.p3 rfl).ev (fun _ h => nums_cell (h.blk kg9_43) 0 (by rw [(roundsL_len _ c hc t)]; omega)) ?_)
    refine qs (q_call (.int .u32 (turnL ((roundsL (wB (wA b 64) 48) c t).getD 0 0) 13)) rfl rfl Tryz.func75 rfl (args2 rfl (At.hit z44.p4 rfl).ev rfl) (fun _ h => (TurnL.calls ((roundsL (wB (wA b 64) 48) c t).getD 0 0) 13 _).mono fun _ _ ⟨e, k⟩ => ⟨e, h.trans k⟩) ?_)
    refine qs (q_xor rfl ((At.hit z44.p2 rfl).n3).ev (At.hit z44.p5 rfl).ev ?_)
    refine qs (q_idx (j := 0) rfl Tryz.underlying77 sz64 (s9_44.n7).ev rfl (by omega) ?_)
    refine q_fresh z44.p8 ?_
    intro a45 z45 m45
    have s0_45 := m45 _ _ (s0_44.n8)
    have s2_45 := m45 _ _ (s2_44.n8)
    have s3_45 := m45 _ _ (s3_44.n8)
    have s9_45 := m45 _ _ (s9_44.n8)
    have s11_45 := m45 _ _ (s11_44.n8)
    have s80_45 := m45 _ _ (s80_44.n8)
    have s123_45 := m45 _ _ ((At.hit z44.p6 rfl).n1)
    have s124_45 := m45 _ _ (At.hit z44.p7 rfl)
    clear m45
    refine qs (q_cell (.int .u32 ((roundsL (wB (wA b 64) 48) c t).getD 0 0)) rfl Tryz.underlying64 s124_45.ev (fun _ h => nums_cell (h.blk kg9_43) 0 (by rw [(roundsL_len _ c hc t)]; omega)) ?_)
    refine qs (q_call (.int .u32 (turnL ((roundsL (wB (wA b 64) 48) c t).getD 0 0) 22)) rfl rfl Tryz.func75 rfl (args2 rfl (At.hit z45 rfl).ev rfl) (fun _ h => (TurnL.calls ((roundsL (wB (wA b 64) 48) c t).getD 0 0) 22 _).mono fun _ _ ⟨e, k⟩ => ⟨e, h.trans k⟩) ?_)
    refine qs (q_xor rfl (s123_45.n2).ev (At.hit z45.put rfl).ev ?_)
    refine qs (q_idx (j := 0) rfl Tryz.underlying77 sz64 (s9_45.n3).ev rfl (by omega) ?_)
    refine qs (q_cell (.int .u32 ((roundsL (wB (wA b 64) 48) c t).getD 0 0)) rfl Tryz.underlying64 (At.hit z45.p3 rfl).ev (fun _ h => nums_cell (h.blk kg9_43) 0 (by rw [(roundsL_len _ c hc t)]; omega)) ?_)
    refine qs (q_idx (j := 1) rfl Tryz.underlying77 sz64 (s9_45.n5).ev rfl (by omega) ?_)
    refine qs (q_cell (.int .u32 ((roundsL (wB (wA b 64) 48) c t).getD 1 0)) rfl Tryz.underlying64 (At.hit z45.p5 rfl).ev (fun _ h => nums_cell (h.blk kg9_43) 1 (by rw [(roundsL_len _ c hc t)]; omega)) ?_)
    refine qs (q_and rfl ((At.hit z45.p4 rfl).n2).ev (At.hit z45.p6 rfl).ev ?_)
    refine q_fresh z45.p8 ?_
    intro a46 z46 m46
    have s0_46 := m46 _ _ (s0_45.n8)
    have s2_46 := m46 _ _ (s2_45.n8)
    have s3_46 := m46 _ _ (s3_45.n8)
    have s9_46 := m46 _ _ (s9_45.n8)
    have s11_46 := m46 _ _ (s11_45.n8)
    have s80_46 := m46 _ _ (s80_45.n8)
    have s127_46 := m46 _ _ ((At.hit z45.p2 rfl).n5)
    have s132_46 := m46 _ _ (At.hit z45.p7 rfl)
    clear m46
    refine qs (q_idx (j := 2) rfl Tryz.underlying77 sz64 s9_46.ev rfl (by omega) ?_)
    refine qs (q_cell (.int .u32 ((roundsL (wB (wA b 64) 48) c t).getD 2 0)) rfl Tryz.underlying64 (At.hit z46 rfl).ev (fun _ h => nums_cell (h.blk kg9_43) 2 (by rw [(roundsL_len _ c hc t)]; omega)) ?_)
    refine qs (q_idx (j := 0) rfl Tryz.underlying77 sz64 (s9_46.n2).ev rfl (by omega) ?_)
    refine qs (q_cell (.int .u32 ((roundsL (wB (wA b 64) 48) c t).getD 0 0)) rfl Tryz.underlying64 (At.hit z46.p2 rfl).ev (fun _ h => nums_cell (h.blk kg9_43) 0 (by rw [(roundsL_len _ c hc t)]; omega)) ?_)
    refine qs (q_idx (j := 1) rfl Tryz.underlying77 sz64 (s9_46.n4).ev rfl (by omega) ?_)
    refine qs (q_cell (.int .u32 ((roundsL (wB (wA b 64) 48) c t).getD 1 0)) rfl Tryz.underlying64 (At.hit z46.p4 rfl).ev (fun _ h => nums_cell (h.blk kg9_43) 1 (by rw [(roundsL_len _ c hc t)]; omega)) ?_)
    refine qs (q_or rfl ((At.hit z46.p3 rfl).n2).ev (At.hit z46.p5 rfl).ev ?_)
    refine qs (q_and rfl ((At.hit z46.put rfl).n5).ev (At.hit z46.p6 rfl).ev ?_)
    refine q_fresh z46.p8 ?_
    intro a47 z47 m47
    have s0_47 := m47 _ _ (s0_46.n8)
    have s2_47 := m47 _ _ (s2_46.n8)
    have s3_47 := m47 _ _ (s3_46.n8)
    have s9_47 := m47 _ _ (s9_46.n8)
    have s11_47 := m47 _ _ (s11_46.n8)
    have s80_47 := m47 _ _ (s80_46.n8)
    have s127_47 := m47 _ _ (s127_46.n8)
    have s132_47 := m47 _ _ (s132_46.n8)
    have s140_47 := m47 _ _ (At.hit z46.p7 rfl)
    clear m47
    refine qs (q_or rfl s132_47.ev s140_47.ev ?_)
    refine qs (q_add _ rfl (s127_47.n1).ev (At.hit z47 rfl).ev rfl ?_)
    refine qs (q_assign _ _ rfl (At.hit z47.put rfl).ev ?_)
    refine qz ?_
    intro w48 h48
    have kg2_48 := h48.blk kg2_43
    have kg3_48 := h48.blk kg3_43
    have kg9_48 := h48.blk kg9_43
    have kgs_48 := h48.blk kgs_43
    refine e_id (e_fresh z47.p3 ?_)
    intro a49 z49 m49
    have s0_49 := m49 _ _ (s0_47.n3)
    have s2_49 := m49 _ _ (s2_47.n3)
    have s3_49 := m49 _ _ (s3_47.n3)
    have s9_49 := m49 _ _ (s9_47.n3)
    have s11_49 := m49 _ _ (s11_47.n3)
    have s12_49 := m49 _ _ (At.hit z47.p2 rfl)
    have s80_49 := m49 _ _ (s80_47.n3)
    have low49 := (low44.trans h48)
    clear m49
    refine e_then (c_seq (region_some_tail 2 (TL [Is (.slice (some ⟨g9, 0 + 1, none⟩) (8 - 1) (8 - 1)), Is (.slice (some ⟨g9, 0, none⟩) 7 8)]) Low hm (by kernel_rfl) z49 (low_drawn _) (fun _ _ _ h k => Low.trans h k) (TL_cons ?_ (TL_cons ?_ TL_nil)) (allS_cons ?_ (allS_cons ?_ allS_nil)) ?_))
    ·
     exact StL_is _
    ·
     exact StL_is _
    ·
     exact (stepS_val (.slice (some ⟨g9, 0 + 1, none⟩) (8 - 1) (8 - 1)) _ rfl rfl rfl Low.refl (fun _ => rfl) fun a w z lw kp kn => q_arrFrom (i := 0) (j := 1) rfl Tryz.underlying77 sz64 (kp _ _ rfl s9_49).ev rfl (by omega) rfl)
    ·
     exact (stepS_val (.slice (some ⟨g9, 0, none⟩) 7 8) _ rfl rfl rfl Low.refl (fun _ => rfl) fun a w z lw kp kn => q_arrTo (i := 0) (k := 7) rfl Tryz.underlying77 sz64 (kp _ _ rfl s9_49).ev rfl (by omega) rfl)
    intro a50 w50 z50 h50 kp kn
    have s0_50 := kp _ _ rfl s0_49
    have s2_50 := kp _ _ rfl s2_49
    have s3_50 := kp _ _ rfl s3_49
    have s9_50 := kp _ _ rfl s9_49
    have s11_50 := kp _ _ rfl s11_49
    have s12_50 := kp _ _ rfl s12_49
    have s80_50 := kp _ _ rfl s80_49
    have s143_50 := at_is (u := .slice (some ⟨g9, 0 + 1, none⟩) (8 - 1) (8 - 1)) (w := w50) (kn 0 _ rfl)
    have s144_50 := at_is (u := .slice (some ⟨g9, 0, none⟩) 7 8) (w := w50) (kn 1 _ rfl)
    have kg2_50 := h50.blk kg2_48
    have kg3_50 := h50.blk kg3_48
    have kg9_50 := h50.blk kg9_48
    have kgs_50 := h50.blk kgs_48
    clear kp kn
    simp only [List.drop_succ_cons, List.drop_zero]
    refine l_copyR (n := 7) (cs' := nums .u32 (on1 (roundsL (wB (wA b 64) 48) c t))) rfl rfl Tryz.underlying102 sz64 s143_50.ev s144_50.ev kg9_50 rfl (by rw [nums_size, (roundsL_len _ c hc t)]; decide) (by rw [nums_size, (roundsL_len _ c hc t)]; decide) (nums_one _ _) (on1_cells _) ?_
    intro w51 k51 u51
    have kg2_51 := u51.blk kg2_50 (by omega)
    have kg3_51 := u51.blk kg3_50 (by omega)
    have kgs_51 := u51.blk kgs_50 (by omega)
    refine l_end (e_fresh z50.put ?_)
    intro a52 z52 m52
    have s0_52 := m52 _ _ (s0_50.n1)
    have s2_52 := m52 _ _ (s2_50.n1)
    have s3_52 := m52 _ _ (s3_50.n1)
    have s9_52 := m52 _ _ (s9_50.n1)
    have s11_52 := m52 _ _ (s11_50.n1)
    have s12_52 := m52 _ _ (s12_50.n1)
    have s80_52 := m52 _ _ (s80_50.n1)
    have low52 := ((low49.trans h50).upd u51 geg9)
    clear m52
    refine e_then (c_seq (c_region ?_))
    refine l_q rfl (q_idx (j := 4) rfl Tryz.underlying77 sz64 s9_52.ev rfl (by omega) ?_)
    refine l_q rfl (q_cell (.int .u32 ((on1 (roundsL (wB (wA b 64) 48) c t)).getD 4 0)) rfl Tryz.underlying64 (At.hit z52 rfl).ev (fun _ e => by rw [e]; exact nums_cell k51 4 (by rw [(on1_len _ (roundsL_len _ c hc t))]; omega)) ?_)
    refine l_q rfl (q_move _ _ rfl (s11_52.n2).ev ?_)
    refine l_q rfl (q_add _ rfl ((At.hit z52.put rfl).n1).ev (At.hit z52.p2 rfl).ev rfl ?_)
    refine l_q rfl (q_idx (j := 4) rfl Tryz.underlying77 sz64 (s9_52.n4).ev rfl (by omega) ?_)
    refine l_cell (j := 4) (v := .int .u32 (IntKind.u32.wrap (((on1 (roundsL (wB (wA b 64) 48) c t)).getD 4 0) + (IntKind.u32.wrap ((IntKind.u32.wrap ((IntKind.u32.wrap ((IntKind.u32.wrap (((roundsL (wB (wA b 64) 48) c t).getD 7 0) + (Go.bits .xor .u32 (Go.bits .xor .u32 (turnL ((roundsL (wB (wA b 64) 48) c t).getD 4 0) 6) (turnL ((roundsL (wB (wA b 64) 48) c t).getD 4 0) 11)) (turnL ((roundsL (wB (wA b 64) 48) c t).getD 4 0) 25)))) + (Go.bits .xor .u32 ((roundsL (wB (wA b 64) 48) c t).getD 6 0) (Go.bits .and .u32 ((roundsL (wB (wA b 64) 48) c t).getD 4 0) (Go.bits .xor .u32 ((roundsL (wB (wA b 64) 48) c t).getD 5 0) ((roundsL (wB (wA b 64) 48) c t).getD 6 0)))))) + (k256.getD t 0))) + ((wB (wA b 64) 48).getD t 0)))))) rfl rfl rfl sz64 (At.hit z52.p4 rfl).ev ((At.hit z52.p3 rfl).n1).ev rfl k51 (by rw [(nums_size _ _).trans (on1_len _ (roundsL_len _ c hc t))]; omega) ?_
    intro w53 k53 u53
    rw [nums_put] at k53
    have kg2_53 := u53.blk kg2_51 (by omega)
    have kg3_53 := u53.blk kg3_51 (by omega)
    have kgs_53 := u53.blk kgs_51 (by omega)
    refine l_end (e_fresh z52.p5 ?_)
    intro a54 z54 m54
    have s0_54 := m54 _ _ (s0_52.n5)
    have s2_54 := m54 _ _ (s2_52.n5)
    have s3_54 := m54 _ _ (s3_52.n5)
    have s9_54 := m54 _ _ (s9_52.n5)
    have s11_54 := m54 _ _ (s11_52.n5)
    have s12_54 := m54 _ _ (s12_52.n5)
    have s80_54 := m54 _ _ (s80_52.n5)
    have low54 := (low52.upd u53 geg9)
    clear m54
    refine e_then (c_region ?_)
    refine l_q rfl (q_move _ _ rfl s11_54.ev ?_)
    refine l_q rfl (q_move _ _ rfl (s12_54.n1).ev ?_)
    refine l_q rfl (q_add _ rfl ((At.hit z54 rfl).n1).ev (At.hit z54.put rfl).ev rfl ?_)
    refine l_q rfl (q_idx (j := 0) rfl Tryz.underlying77 sz64 (s9_54.n3).ev rfl (by omega) ?_)
    refine l_cell (j := 0) (v := .int .u32 (IntKind.u32.wrap ((IntKind.u32.wrap ((IntKind.u32.wrap ((IntKind.u32.wrap ((IntKind.u32.wrap (((roundsL (wB (wA b 64) 48) c t).getD 7 0) + (Go.bits .xor .u32 (Go.bits .xor .u32 (turnL ((roundsL (wB (wA b 64) 48) c t).getD 4 0) 6) (turnL ((roundsL (wB (wA b 64) 48) c t).getD 4 0) 11)) (turnL ((roundsL (wB (wA b 64) 48) c t).getD 4 0) 25)))) + (Go.bits .xor .u32 ((roundsL (wB (wA b 64) 48) c t).getD 6 0) (Go.bits .and .u32 ((roundsL (wB (wA b 64) 48) c t).getD 4 0) (Go.bits .xor .u32 ((roundsL (wB (wA b 64) 48) c t).getD 5 0) ((roundsL (wB (wA b 64) 48) c t).getD 6 0)))))) + (k256.getD t 0))) + ((wB (wA b 64) 48).getD t 0))) + (IntKind.u32.wrap ((Go.bits .xor .u32 (Go.bits .xor .u32 (turnL ((roundsL (wB (wA b 64) 48) c t).getD 0 0) 2) (turnL ((roundsL (wB (wA b 64) 48) c t).getD 0 0) 13)) (turnL ((roundsL (wB (wA b 64) 48) c t).getD 0 0) 22)) + (Go.bits .or .u32 (Go.bits .and .u32 ((roundsL (wB (wA b 64) 48) c t).getD 0 0) ((roundsL (wB (wA b 64) 48) c t).getD 1 0)) (Go.bits .and .u32 ((roundsL (wB (wA b 64) 48) c t).getD 2 0) (Go.bits .or .u32 ((roundsL (wB (wA b 64) 48) c t).getD 0 0) ((roundsL (wB (wA b 64) 48) c t).getD 1 0))))))))) rfl rfl rfl sz64 (At.hit z54.p3 rfl).ev ((At.hit z54.p2 rfl).n1).ev rfl k53 (by rw [(nums_size _ _).trans ((List.length_set ..).trans (on1_len _ (roundsL_len _ c hc t)))]; omega) ?_
    intro w55 k55 u55
    rw [nums_put] at k55
    have kg2_55 := u55.blk kg2_53 (by omega)
    have kg3_55 := u55.blk kg3_53 (by omega)
    have kgs_55 := u55.blk kgs_53 (by omega)
    refine l_end (e_fresh z54.p4 ?_)
    intro a56 z56 m56
    have s0_56 := m56 _ _ (s0_54.n4)
    have s2_56 := m56 _ _ (s2_54.n4)
    have s3_56 := m56 _ _ (s3_54.n4)
    have s9_56 := m56 _ _ (s9_54.n4)
    have s80_56 := m56 _ _ (s80_54.n4)
    have low56 := (low54.upd u55 geg9)
    clear m56
    refine e_in (e_then (c_region ?_))
    refine l_q rfl (q_add (((t + 1 : Nat) : Int)) rfl s80_56.ev rfl (i64_is (by omega) (by omega) (by omega)) ?_)
    refine l_q rfl (q_move _ _ rfl (At.hit z56 rfl).ev ?_)
    refine l_end (e_fresh z56.p2 ?_)
    intro a57 z57 m57
    have s0_57 := m57 _ _ (s0_56.n2)
    have s2_57 := m57 _ _ (s2_56.n2)
    have s3_57 := m57 _ _ (s3_56.n2)
    have s9_57 := m57 _ _ (s9_56.n2)
    have s80_57 := m57 _ _ (At.hit z56.put rfl)
    clear m57
    exact ⟨z57, s0_57, s2_57, s3_57, s9_57, s80_57, kg2_55, kg3_55, k55, kgs_55, low56⟩
   ·
    intro a58 w58 h
    obtain ⟨z58, s0_58, s2_58, s3_58, s9_58, s80_58, kg2_58, kg3_58, kg9_58, kgs_58, low58⟩ := h
    clear k33 kg2_33 kg3_33 kgs_33 low34 s0_35 s2_35 s3_35 s80_35 s9_35 z35
    refine c_seq (c_region ?_)
    refine l_q rfl (q_lss false rfl s80_58.ev rfl (decide_eq_false (by omega)) ?_)
    refine l_end (e_fresh z58.put ?_)
    intro a59 z59 m59
    have s0_59 := m59 _ _ (s0_58.n1)
    have s2_59 := m59 _ _ (s2_58.n1)
    have s3_59 := m59 _ _ (s3_58.n1)
    have s9_59 := m59 _ _ (s9_58.n1)
    have s80_59 := m59 _ _ (s80_58.n1)
    have s81_59 := m59 _ _ (At.hit z58 rfl)
    clear m59
    refine e_then (c_seq (c_false s81_59 ?_))
    refine wp_exit (x_then (x_then (in_exit (e_then (c_seq (c_seq (c_region ?_)))))))
    refine l_q rfl (q_move _ _ rfl rfl ?_)
    refine l_end (e_fresh z59.put ?_)
    intro a60 z60 m60
    have s0_60 := m60 _ _ (s0_59.n1)
    have s9_60 := m60 _ _ (s9_59.n1)
    have s156_60 := m60 _ _ (At.hit z59 rfl)
    clear m60
    refine e_then (wp_block (c_loop 8 (fun k a w => Fr 176 a ∧ At a 0 (.pointer (some ⟨gs, 0, none⟩)) ∧ At a 9 (.pointer (some ⟨g9, 0, none⟩)) ∧ At a 156 (.int .i64 ((k : Nat) : Int)) ∧ w.heap[g9]? = some (.cells (nums .u32 (roundsL (wB (wA b 64) 48) c 64)) 77) ∧ w.heap[gs]? = some (.cells (s2C (addL c (roundsL (wB (wA b 64) 48) c 64) k) b f n) 89) ∧ Low w0 w) ?_ ?_ ?_))
    ·
     exact ⟨z60, s0_60, s9_60, s156_60, kg9_58, kgs_58, low58⟩
    ·
     intro k a61 w61 hk61 h
     obtain ⟨z61, s0_61, s9_61, s156_61, kg9_61, kgs_61, low61⟩ := h
     clear kg9_58 kgs_58 low58 s0_60 s156_60 s9_60 z60
     refine c_seq (c_region ?_)
     refine l_q rfl (q_lss true rfl s156_61.ev rfl (decide_eq_true (by omega)) ?_)
     refine l_end (e_fresh z61.put ?_)
     intro a62 z62 m62
     have s0_62 := m62 _ _ (s0_61.n1)
     have s9_62 := m62 _ _ (s9_61.n1)
     have s156_62 := m62 _ _ (s156_61.n1)
     have s157_62 := m62 _ _ (At.hit z61 rfl)
     clear m62
     refine e_then (c_seq (c_true s157_62 ?_))
     refine wp_skip (e_then (c_seq (wp_block (c_seq (c_region ?_)))))
     refine l_q rfl (q_move _ _ rfl s156_62.ev ?_)
     refine l_q rfl (q_assign _ _ rfl (At.hit z62 rfl).ev ?_)
     refine l_end (e_fresh z62.p2 ?_)
     intro a63 z63 m63
     have s0_63 := m63 _ _ (s0_62.n2)
     have s9_63 := m63 _ _ (s9_62.n2)
     have s13_63 := m63 _ _ (At.hit z62.put rfl)
     have s156_63 := m63 _ _ (s156_62.n2)
     clear m63
     refine e_then (region_low_tail 13 hm (by kernel_rfl) ?_)
     simp only [List.take_succ_cons, List.take_zero, List.drop_succ_cons, List.drop_zero]
     refine qs (q_move _ _ rfl s0_63.ev ?_)
     refine qs (q_move _ _ rfl (s13_63.n1).ev ?_)
     refine qs (q_nil rfl ((At.hit z63 rfl).n1).ev ?_)
     refine qs (q_fld 0 rfl (by kernel_rfl) (At.hit z63.p2 rfl).ev ?_)
     refine qs (q_idx (j := k) rfl Tryz.underlying77 sz64 (At.hit z63.p3 rfl).ev ((At.hit z63.put rfl).n2).ev (by omega) ?_)
     refine qs (q_cell (.int .u32 ((addL c (roundsL (wB (wA b 64) 48) c 64) k).getD k 0)) rfl Tryz.underlying64 (At.hit z63.p4 rfl).ev (fun _ h => (cells_at (h.blk kgs_61) k).trans (s2C_c ((addL_len c _ k).trans hc) k (by omega))) ?_)
     refine qs (q_move _ _ rfl (s13_63.n6).ev ?_)
     refine qs (q_idx (j := k) rfl Tryz.underlying77 sz64 (s9_63.n7).ev (At.hit z63.p6 rfl).ev (by omega) ?_)
     refine q_fresh z63.p8 ?_
     intro a64 z64 m64
     have s0_64 := m64 _ _ (s0_63.n8)
     have s9_64 := m64 _ _ (s9_63.n8)
     have s156_64 := m64 _ _ (s156_63.n8)
     have s159_64 := m64 _ _ ((At.hit z63 rfl).n7)
     have s160_64 := m64 _ _ ((At.hit z63.put rfl).n6)
     have s164_64 := m64 _ _ ((At.hit z63.p5 rfl).n2)
     have s166_64 := m64 _ _ (At.hit z63.p7 rfl)
     clear m64
     refine qs (q_cell (.int .u32 ((roundsL (wB (wA b 64) 48) c 64).getD k 0)) rfl Tryz.underlying64 s166_64.ev (fun _ h => nums_cell (h.blk kg9_61) k (by rw [(roundsL_len _ c hc 64)]; omega)) ?_)
     refine qs (q_add _ rfl (s164_64.n1).ev (At.hit z64 rfl).ev rfl ?_)
     refine qs (q_nil rfl (s159_64.n2).ev ?_)
     refine qs (q_fld 0 rfl (by kernel_rfl) (At.hit z64.p2 rfl).ev ?_)
     refine qs (q_idx (j := k) rfl Tryz.underlying77 sz64 (At.hit z64.p3 rfl).ev (s160_64.n4).ev (by omega) ?_)
     refine qz ?_
     intro w65 h65
     have kg9_65 := h65.blk kg9_61
     have kgs_65 := h65.blk kgs_61
     refine l_cell (j := k) (v := .int .u32 (IntKind.u32.wrap (((addL c (roundsL (wB (wA b 64) 48) c 64) k).getD k 0) + ((roundsL (wB (wA b 64) 48) c 64).getD k 0)))) rfl rfl rfl sz64 (At.hit z64.p4 rfl).ev ((At.hit z64.put rfl).n3).ev rfl kgs_65 (by rw [s2C_size ((addL_len c _ k).trans hc) hb]; omega) ?_
     intro w66 k66 u66
     rw [s2C_setc ((addL_len c _ k).trans hc) k (by omega)] at k66
     have kg9_66 := u66.blk kg9_65 (by omega)
     refine l_end (e_fresh z64.p5 ?_)
     intro a67 z67 m67
     have s0_67 := m67 _ _ (s0_64.n5)
     have s9_67 := m67 _ _ (s9_64.n5)
     have s156_67 := m67 _ _ (s156_64.n5)
     have low67 := ((low61.trans h65).upd u66 hge)
     clear m67
     refine e_in (e_then (c_region ?_))
     refine l_q rfl (q_add (((k + 1 : Nat) : Int)) rfl s156_67.ev rfl (i64_is (by omega) (by omega) (by omega)) ?_)
     refine l_q rfl (q_move _ _ rfl (At.hit z67 rfl).ev ?_)
     refine l_end (e_fresh z67.p2 ?_)
     intro a68 z68 m68
     have s0_68 := m68 _ _ (s0_67.n2)
     have s9_68 := m68 _ _ (s9_67.n2)
     have s156_68 := m68 _ _ (At.hit z67.put rfl)
     clear m68
     exact ⟨z68, s0_68, s9_68, s156_68, kg9_66, k66, low67⟩
    ·
     intro a69 w69 h
     obtain ⟨z69, s0_69, s9_69, s156_69, kg9_69, kgs_69, low69⟩ := h
     clear kg9_58 kgs_58 low58 s0_60 s156_60 s9_60 z60
     refine c_seq (c_region ?_)
     refine l_q rfl (q_lss false rfl s156_69.ev rfl (decide_eq_false (by omega)) ?_)
     refine l_end (e_fresh z69.put ?_)
     intro a70 z70 m70
     have s0_70 := m70 _ _ (s0_69.n1)
     have s9_70 := m70 _ _ (s9_69.n1)
     have s156_70 := m70 _ _ (s156_69.n1)
     have s157_70 := m70 _ _ (At.hit z69 rfl)
     clear m70
     refine e_then (c_seq (c_false s157_70 ?_))
     refine wp_exit (x_then (x_then (in_exit (e_then (c_region ?_)))))
     refine l_q rfl (q_move _ _ rfl s0_70.ev ?_)
     refine l_q rfl (q_nil rfl (At.hit z70 rfl).ev ?_)
     refine l_q rfl (q_fld 72 rfl (by kernel_rfl) (At.hit z70.put rfl).ev ?_)
     refine l_cell (j := 72) (v := .int .i64 0) rfl rfl rfl sz3 (At.hit z70.p2 rfl).ev rfl rfl kgs_69 (by rw [s2C_size ((addL_len c _ 8).trans hc) hb]; omega) ?_
     intro w71 k71 u71
     rw [s2C_setf ((addL_len c _ 8).trans hc) hb] at k71
     have kg9_71 := u71.blk kg9_69 (by omega)
     refine l_end (e_fresh z70.p3 ?_)
     intro a72 z72 m72
     have low72 := (low69.upd u71 hge)
     clear m72
     refine r_none rfl z72.defers ?_
     exact ⟨_, rfl, k71, low72⟩
end Go.Proofs.YtfjhnnpdaggnbaaGreatDoor.Q
end
