/- Merged out of this session's texts by a program (wip/gen/merge.py): declarations that this claim doesn't name are left out. -/
import Derived.Test.YtffhmlnklohbdaaMDetectTwins3
set_option linter.unusedVariables false
set_option linter.unusedSimpArgs false
/-! A6 -/
section
namespace Go.Proofs.Ytffhmlnklohbdaa.Q
open Go.Proofs.YtffhmlnklohbdaaW.PrintWords (bytesOf bytesOf_length)
open Go.RowKit Go.Proofs.Ytffhmlnklohbdaa.P
set_option linter.unusedVariables false
set_option linter.unusedSimpArgs false
set_option maxRecDepth 100000
set_option maxHeartbeats 4000000
attribute [local irreducible] wpList wpQuiet qch Code.wp Oper.quiet Act.put At Region.wanted yielded
def f80 (s : ByteArray) : ByteArray := s ++ (⟨#[128]⟩ : ByteArray)
theorem f80_size (s : ByteArray) : (f80 s).size = s.size + 1 := by rw [f80, ByteArray.size_append]; rfl
def padL (s : ByteArray) : ByteArray := ⟨(Lib.repeatL (⟨#[0]⟩ : ByteArray).data.toList ((120 - ((f80 s).size) % 64) % 64)).toArray⟩
theorem repeat_zero : ∀ n, Lib.repeatL [(0 : UInt8)] n = List.replicate n 0
  | 0 => rfl
  | n + 1 => by rw [Lib.repeatL, repeat_zero n]; rfl
theorem padL_size (s : ByteArray) : (padL s).size = (120 - (s.size + 1) % 64) % 64 := by
  unfold padL
  show (Lib.repeatL [(0 : UInt8)] _).toArray.size = _
  rw [repeat_zero, f80_size]
  simp
theorem Repeat0.calls (c : Nat) (hc : c ≤ 64) (w0 : World) : Calls Try.prog 34 #[.string ⟨#[0]⟩, .int .i64 (c : Int)] w0 fun e w' => e = .returned (.string ⟨(Lib.repeatL (⟨#[0]⟩ : ByteArray).data.toList c).toArray⟩) ∧ Low w0 w' :=
  Try.strings_Repeat ⟨#[0]⟩ c w0 (by omega) (by show 1 * c ≤ _; omega)
def lenByteL (s : ByteArray) (k : Nat) : Int := IntKind.u8.wrap ((IntKind.u64.wrap (8 * IntKind.u64.wrap (s.size : Int))).fdiv (2 ^ min (56 - 8 * ((k : Nat) : Int)).toNat 64))
def fL (s : ByteArray) : Nat → ByteArray
  | 0 => f80 s ++ padL s
  | k + 1 => fL s k ++ strOfNums [lenByteL s k]
theorem fL_size (s : ByteArray) : ∀ k, (fL s k).size = s.size + 1 + (120 - (s.size + 1) % 64) % 64 + k
  | 0 => by rw [fL, ByteArray.size_append, f80_size, padL_size]; rfl
  | k + 1 => by rw [fL, ByteArray.size_append, fL_size s k, strOfNums_size]; rfl
def fillL (s : ByteArray) : ByteArray := fL s 8
theorem lit_size : (⟨#[128]⟩ : ByteArray).size = 1 := rfl
theorem FillL.calls (s : ByteArray) (hs : s.size ≤ 140737488350000) (w0 : World) : Calls Try.prog 24 #[.string s] w0 fun e w' => e = .returned (.string (fillL s)) ∧ Low w0 w' := by
  refine c_fun (R := _) Try.func24 rfl 33 rfl (Nat.le_of_ble_eq_true rfl) ?_
  intro a z hA
  have s0 := hA 0 _ rfl
  clear hA
  refine c_seq ?_
  refine c_region ?_
  refine l_q rfl (q_assign _ _ rfl rfl ?_)
  refine l_end ?_
  refine e_fresh z.put ?_
  intro a1 z1 m1
  have s0_1 := m1 _ _ (s0.ne rfl)
  clear m1
  refine e_then ?_
  refine c_seq ?_
  refine c_region ?_
  refine l_q rfl (q_move _ _ rfl s0_1.ev ?_)
  refine l_q rfl (q_len rfl rfl Try.underlying9 (At.hit z1 rfl).ev ?_)
  refine l_q rfl (q_conv _ rfl (At.hit z1.put rfl).ev Try.underlying3 Try.underlying64 rfl ?_)
  refine l_q rfl (q_mul _ rfl rfl (At.hit z1.put.put rfl).ev rfl ?_)
  refine l_q rfl (q_assign _ _ rfl (At.hit z1.put.put.put rfl).ev ?_)
  refine l_end ?_
  refine e_fresh z1.put.put.put.put.put ?_
  intro a2 z2 m2
  have s0_2 := m2 _ _ (((((s0_1.ne rfl).ne rfl).ne rfl).ne rfl).ne rfl)
  have s3_2 := m2 _ _ (At.hit z1.put.put.put.put rfl)
  clear m2
  refine e_then ?_
  refine c_seq ?_
  refine c_region ?_
  refine l_q rfl (q_move _ _ rfl s0_2.ev ?_)
  refine l_q rfl (q_cat rfl (At.hit z2 rfl).ev rfl (by simp only [ByteArray.size_append, f80_size, padL_size, fL_size, strOfNums_size, lit_size, List.length_cons, List.length_nil]; omega) ?_)
  refine l_q rfl (q_assign _ _ rfl (At.hit z2.put rfl).ev ?_)
  refine l_end ?_
  refine e_fresh z2.put.put.put ?_
  intro a3 z3 m3
  have s3_3 := m3 _ _ (((s3_2.ne rfl).ne rfl).ne rfl)
  have s4_3 := m3 _ _ (At.hit z2.put.put rfl)
  clear m3
  refine e_then ?_
  refine c_seq ?_
  refine c_region ?_
  refine l_q rfl (q_move _ _ rfl s4_3.ev ?_)
  refine l_q rfl (q_move _ _ rfl (s4_3.ne rfl).ev ?_)
  refine l_q rfl (q_len rfl rfl Try.underlying9 (At.hit z3.put rfl).ev ?_)
  refine l_q rfl (q_rem (m := ((f80 s).size)) (n := 64) (by omega) rfl ((At.hit z3.put.put rfl).same (congrArg (Value.int .i64) (show ((((f80 s).size : Nat) : Int) : Int) = ((((f80 s).size) : Nat) : Int) by omega))).ev rfl ?_)
  refine l_q rfl (q_sub ((120 - (((((f80 s).size)) % 64 : Nat) : Int))) rfl rfl (At.hit z3.put.put.put rfl).ev (i64_is (by omega) (by omega) (by omega)) ?_)
  refine l_q rfl (q_rem (m := 120 - ((((f80 s).size)) % 64)) (n := 64) (by omega) rfl ((At.hit z3.put.put.put.put rfl).same (congrArg (Value.int .i64) (show ((120 - (((((f80 s).size)) % 64 : Nat) : Int)) : Int) = ((120 - ((((f80 s).size)) % 64) : Nat) : Int) by omega))).ev rfl ?_)
  refine l_call (fun v w' => v = .string (padL s) ∧ Low w0 w') rfl rfl rfl Try.func34 rfl (args2 rfl rfl (At.hit z3.put.put.put.put.put rfl).ev) ((Repeat0.calls (((120 - ((((f80 s).size)) % 64)) % 64)) (by omega) _).mono fun _ _ ⟨e, k⟩ => ⟨_, e, rfl, k⟩) ?_
  rintro _ w4 ⟨rfl, h4⟩
  refine l_q rfl (q_cat rfl (((((((At.hit z3 rfl).ne rfl).ne rfl).ne rfl).ne rfl).ne rfl).ne rfl).ev (At.hit z3.put.put.put.put.put.put rfl).ev (by simp only [ByteArray.size_append, f80_size, padL_size, fL_size, strOfNums_size, lit_size, List.length_cons, List.length_nil]; omega) ?_)
  refine l_fresh z3.put.put.put.put.put.put.put.put ?_
  intro a5 z5 m5
  have s3_5 := m5 _ _ ((((((((s3_3.ne rfl).ne rfl).ne rfl).ne rfl).ne rfl).ne rfl).ne rfl).ne rfl)
  have s4_5 := m5 _ _ ((((((((s4_3.ne rfl).ne rfl).ne rfl).ne rfl).ne rfl).ne rfl).ne rfl).ne rfl)
  have s19_5 := m5 _ _ (At.hit z3.put.put.put.put.put.put.put rfl)
  clear m5
  refine l_q rfl (q_assign _ _ rfl s19_5.ev ?_)
  refine l_end ?_
  refine e_fresh z5.put ?_
  intro a6 z6 m6
  have s3_6 := m6 _ _ (s3_5.ne rfl)
  have s4_6 := m6 _ _ (At.hit z5 rfl)
  have low6 := h4
  clear m6
  refine e_then ?_
  refine c_seq ?_
  refine c_seq ?_
  refine c_region ?_
  refine l_q rfl (q_assign _ _ rfl rfl ?_)
  refine l_end ?_
  refine e_fresh z6.put ?_
  intro a7 z7 m7
  have s3_7 := m7 _ _ (s3_6.ne rfl)
  have s4_7 := m7 _ _ (s4_6.ne rfl)
  have s5_7 := m7 _ _ (At.hit z6 rfl)
  clear m7
  refine e_then ?_
  refine wp_block ?_
  refine c_loop 8 (fun k a w => Fr 33 a ∧ At a 3 (.int .u64 (IntKind.u64.wrap (8 * (IntKind.u64.wrap ((s.size : Nat) : Int))))) ∧ At a 4 (.string (fL s k)) ∧ At a 5 (.int .i64 (56 - 8 * ((k : Nat) : Int))) ∧ Low w0 w) ?_ ?_ ?_
  · exact ⟨z7, s3_7, s4_7, (s5_7.same (congrArg (Value.int .i64) (by omega))), low6⟩
  · intro k a8 w8 hk8 h
    obtain ⟨z8, s3_8, s4_8, s5_8, low8⟩ := h
    clear low6 s3_7 s4_7 s5_7 z7
    refine c_seq ?_
    refine c_seq ?_
    refine c_region ?_
    refine l_q rfl (q_move _ _ rfl s5_8.ev ?_)
    refine l_q rfl (q_geq true rfl (At.hit z8 rfl).ev rfl (decide_eq_true (by omega)) ?_)
    refine l_end ?_
    refine e_fresh z8.put.put ?_
    intro a9 z9 m9
    have s3_9 := m9 _ _ ((s3_8.ne rfl).ne rfl)
    have s4_9 := m9 _ _ ((s4_8.ne rfl).ne rfl)
    have s5_9 := m9 _ _ ((s5_8.ne rfl).ne rfl)
    have s21_9 := m9 _ _ (At.hit z8.put rfl)
    clear m9
    refine e_then ?_
    refine c_true s21_9 ?_
    refine wp_skip ?_
    refine e_then ?_
    refine c_seq ?_
    refine wp_block ?_
    refine c_region ?_
    refine l_q rfl (q_move _ _ rfl s4_9.ev ?_)
    refine l_q rfl (q_move _ _ rfl (s3_9.ne rfl).ev ?_)
    refine l_q rfl (q_move _ _ rfl ((s5_9.ne rfl).ne rfl).ev ?_)
    refine l_q rfl (q_shr ((IntKind.u64.wrap (8 * (IntKind.u64.wrap ((s.size : Nat) : Int)))).fdiv (2 ^ min ((56 - 8 * ((k : Nat) : Int)) : Int).toNat 64)) rfl ((At.hit z9.put rfl).ne rfl).ev (At.hit z9.put.put rfl).ev (by first | omega | exact u64_nonneg _) rfl ?_)
    refine l_q rfl (q_conv _ rfl (At.hit z9.put.put.put rfl).ev Try.underlying64 Try.underlying5 rfl ?_)
    refine l_build1 rfl rfl Try.underlying63 byte5 (At.hit z9.put.put.put.put rfl).ev ?_
    intro g29_10 w10 hg10 k10 h10
    have geg29_10 := Nat.le_trans low8.ge hg10
    refine l_q rfl (q_str rfl Try.underlying63 Try.underlying5 Try.underlying9 (At.hit z9.put.put.put.put.put rfl).ev (fun _ e => by rw [e]; exact (ownB_new (B := w0.heap.size) geg29_10 k10 rfl)) ?_)
    refine l_q rfl (q_cat rfl (((((((At.hit z9 rfl).ne rfl).ne rfl).ne rfl).ne rfl).ne rfl).ne rfl).ev (At.hit z9.put.put.put.put.put.put rfl).ev (by simp only [ByteArray.size_append, f80_size, padL_size, fL_size, strOfNums_size, lit_size, List.length_cons, List.length_nil]; omega) ?_)
    refine l_fresh z9.put.put.put.put.put.put.put.put ?_
    intro a11 z11 m11
    have s3_11 := m11 _ _ ((((((((s3_9.ne rfl).ne rfl).ne rfl).ne rfl).ne rfl).ne rfl).ne rfl).ne rfl)
    have s4_11 := m11 _ _ ((((((((s4_9.ne rfl).ne rfl).ne rfl).ne rfl).ne rfl).ne rfl).ne rfl).ne rfl)
    have s5_11 := m11 _ _ ((((((((s5_9.ne rfl).ne rfl).ne rfl).ne rfl).ne rfl).ne rfl).ne rfl).ne rfl)
    have s31_11 := m11 _ _ (At.hit z9.put.put.put.put.put.put.put rfl)
    clear m11
    refine l_q rfl (q_assign _ _ rfl s31_11.ev ?_)
    refine l_end ?_
    refine e_fresh z11.put ?_
    intro a12 z12 m12
    have s3_12 := m12 _ _ (s3_11.ne rfl)
    have s4_12 := m12 _ _ (At.hit z11 rfl)
    have s5_12 := m12 _ _ (s5_11.ne rfl)
    have low12 := (low8.trans h10)
    clear m12
    refine e_in ?_
    refine e_then ?_
    refine c_region ?_
    refine l_q rfl (q_move _ _ rfl s5_12.ev ?_)
    refine l_q rfl (q_sub ((48 - 8 * ((k : Nat) : Int))) rfl (At.hit z12 rfl).ev rfl (i64_is (by omega) (by omega) (by omega)) ?_)
    refine l_q rfl (q_assign _ _ rfl (At.hit z12.put rfl).ev ?_)
    refine l_end ?_
    refine e_fresh z12.put.put.put ?_
    intro a13 z13 m13
    have s3_13 := m13 _ _ (((s3_12.ne rfl).ne rfl).ne rfl)
    have s4_13 := m13 _ _ (((s4_12.ne rfl).ne rfl).ne rfl)
    have s5_13 := m13 _ _ (At.hit z12.put.put rfl)
    clear m13
    exact ⟨z13, s3_13, s4_13, (s5_13.same (congrArg (Value.int .i64) (by omega))), low12⟩
  · intro a14 w14 h
    obtain ⟨z14, s3_14, s4_14, s5_14, low14⟩ := h
    clear low6 s3_7 s4_7 s5_7 z7
    refine c_seq ?_
    refine c_seq ?_
    refine c_region ?_
    refine l_q rfl (q_move _ _ rfl s5_14.ev ?_)
    refine l_q rfl (q_geq false rfl (At.hit z14 rfl).ev rfl (decide_eq_false (by omega)) ?_)
    refine l_end ?_
    refine e_fresh z14.put.put ?_
    intro a15 z15 m15
    have s3_15 := m15 _ _ ((s3_14.ne rfl).ne rfl)
    have s4_15 := m15 _ _ ((s4_14.ne rfl).ne rfl)
    have s5_15 := m15 _ _ ((s5_14.ne rfl).ne rfl)
    have s21_15 := m15 _ _ (At.hit z14.put rfl)
    clear m15
    refine e_then ?_
    refine c_false s21_15 ?_
    refine wp_exit ?_
    refine x_then ?_
    refine x_then ?_
    refine in_exit ?_
    refine e_then ?_
    refine c_seq ?_
    refine c_region ?_
    refine l_q rfl (q_move _ _ rfl s4_15.ev ?_)
    refine l_q rfl (q_assign _ _ rfl (At.hit z15 rfl).ev ?_)
    refine l_end ?_
    refine e_fresh z15.put.put ?_
    intro a16 z16 m16
    have s2_16 := m16 _ _ (At.hit z15.put rfl)
    clear m16
    refine e_then ?_
    refine wp_ret ?_
    refine r_tmp rfl z16.defers s2_16 ?_
    exact ⟨rfl, low14⟩
end Go.Proofs.Ytffhmlnklohbdaa.Q
end
/-! A7 -/
section
namespace Go.Proofs.Ytffhmlnklohbdaa.Q
open Go.RowKit Go.Proofs.Ytffhmlnklohbdaa.P
set_option linter.unusedVariables false
set_option linter.unusedSimpArgs false
set_option maxRecDepth 100000
set_option maxHeartbeats 4000000
attribute [local irreducible] wpList wpQuiet qch Code.wp Oper.quiet Act.put At Region.wanted yielded
def mR (c : Ch) (s : ByteArray) : Ch := stepsR (expandR s) c 58
def firstR' (c : Ch) (s : ByteArray) (m : List Int) : Ch := backX (expandR s) m (mR c s) backR 58
def lastR (c : Ch) (s : ByteArray) (m : List Int) : Ch := stepsX (expandR s) m (mR c s) stepR 58 22
def endsR (c : Ch) (s : ByteArray) (m : List Int) (i : Nat) : Prop := IntKind.u32.wrap ((cl (firstR' c s m)).getD i 0 + (cl (lastR c s m)).getD i 0) = (cl (prR c s)).getD i 0
noncomputable def markedR (c : Ch) (s : ByteArray) (ty K B : Int) : Bool := !decide (differenceR ty K B = List.replicate 80 0) && @decide (∀ i, i < 5 → endsR c s (differenceR ty K B) i) (Classical.propDecidable _)
theorem markedR_no (c : Ch) (s : ByteArray) (ty K B : Int) (hd : differenceR ty K B = List.replicate 80 0) : markedR c s ty K B = false := by
  unfold markedR
  rw [decide_eq_true hd]
  rfl
open Classical in
theorem markedR_all (c : Ch) (s : ByteArray) (ty K B : Int) (hd : ¬ differenceR ty K B = List.replicate 80 0) (h : ∀ i, i < 5 → endsR c s (differenceR ty K B) i) : markedR c s ty K B = true := by
  unfold markedR
  rw [decide_eq_false hd, Bool.not_false, Bool.true_and]
  exact @decide_eq_true _ (Classical.propDecidable _) h
open Classical in
theorem markedR_fail (c : Ch) (s : ByteArray) (ty K B : Int) (j : Nat) (hj : j < 5) (h : ¬ endsR c s (differenceR ty K B) j) : markedR c s ty K B = false := by
  unfold markedR
  rw [Bool.and_eq_false_iff]
  exact .inr (@decide_eq_false _ (Classical.propDecidable _) fun hh => h (hh j hj))
theorem least_not (p : Nat → Prop) : ∀ n, (∀ i, i < n → p i) ∨ ∃ j, j < n ∧ ¬ p j ∧ ∀ i, i < j → p i
  | 0 => .inl fun i h => absurd h (Nat.not_lt_zero i)
  | n + 1 => by
    rcases least_not p n with h | ⟨j, h1, h2, h3⟩
    · by_cases hn : p n
      · refine .inl fun i hi => ?_
        rcases Nat.lt_succ_iff_lt_or_eq.1 hi with h' | h'
        · exact h i h'
        · rw [h']; exact hn
      · exact .inr ⟨n, Nat.lt_succ_self n, hn, h⟩
    · exact .inr ⟨j, Nat.lt_succ_of_lt h1, h2, h3⟩
theorem MarkedR_no.calls (c : Ch) (s : ByteArray) (hs : s.size ≤ 9223372036854775807) (ty K B : Int) (hd : differenceR ty K B = List.replicate 80 0) (w0 : World) : Calls Try.prog 14 #[.agg (nums .u32 (cl c)), .string s, .agg #[.int .i64 ty, .int .i64 K, .int .i64 B]] w0 fun e w' => e = .returned (.bool (markedR c s ty K B)) ∧ Low w0 w' := by
  refine c_fun (R := _) Try.func14 rfl 83 rfl (Nat.le_of_ble_eq_true rfl) ?_
  intro a z hA
  have s0 := hA 0 _ rfl
  have s1 := hA 1 _ rfl
  have s2 := hA 2 _ rfl
  clear hA
  refine c_seq ?_
  refine c_region ?_
  refine l_box rfl rfl s0.ev ?_
  intro g3 w1 hg1 k1 h1
  have geg3 := Nat.le_trans (Low.refl _).ge hg1
  refine l_box rfl rfl (s2.ne rfl).ev ?_
  intro g5 w2 hg2 k2 h2
  have lt_g3_g5 := Nat.lt_of_lt_of_le (heap_lt k1) hg2
  have geg5 := Nat.le_trans h1.ge hg2
  have kg3_2 := h2.blk k1
  refine l_q rfl (q_assign _ _ rfl rfl ?_)
  refine l_end ?_
  refine e_fresh z.put.put.put ?_
  intro a3 z3 m3
  have s1_3 := m3 _ _ (((s1.ne rfl).ne rfl).ne rfl)
  have s3_3 := m3 _ _ (((At.hit z rfl).ne rfl).ne rfl)
  have s5_3 := m3 _ _ ((At.hit z.put rfl).ne rfl)
  have low3 := (h1.trans h2)
  clear m3
  refine e_then ?_
  refine c_seq ?_
  refine c_region ?_
  refine l_q rfl (q_row rfl Try.underlying29 rfl (sz29.trans (congrArg some rfl.symm)) s5_3.ev (fun _ e => by rw [e]; exact k2) ?_)
  refine l_call (fun v w' => v = .agg (nums .u32 (differenceR ty K B)) ∧ Low w2 w') rfl rfl rfl Try.func10 rfl (args1 rfl (At.hit z3 rfl).ev) ((DifferenceR.calls ty K B _).mono fun _ _ ⟨e, k⟩ => ⟨_, e, rfl, k⟩) ?_
  rintro _ w4 ⟨rfl, h4⟩
  have kg3_4 := h4.blk kg3_2
  have kg5_4 := h4.blk k2
  refine l_alloc rfl rfl zero31 ?_
  intro g7 w5 hg5 k5 h5
  have lt_g3_g7 := Nat.lt_of_lt_of_le (heap_lt kg3_4) hg5
  have lt_g5_g7 := Nat.lt_of_lt_of_le (heap_lt kg5_4) hg5
  have geg7 := Nat.le_trans (low3.trans h4).ge hg5
  have kg3_5 := h5.blk kg3_4
  have kg5_5 := h5.blk kg5_4
  refine l_row rfl rfl rfl (sz31.trans (congrArg some ((nums_size _ _).trans (differenceR_len _ _ _)).symm)) (At.hit z3.put.put rfl).ev ((At.hit z3.put rfl).ne rfl).ev (nums_one _ _) k5 (((nums_size _ _).trans (List.length_replicate)).trans ((nums_size _ _).trans (differenceR_len _ _ _)).symm) ?_
  intro w6 k6 u6
  have kg3_6 := u6.blk kg3_5 (by omega)
  have kg5_6 := u6.blk kg5_5 (by omega)
  refine l_end ?_
  refine e_fresh z3.put.put.put ?_
  intro a7 z7 m7
  have s1_7 := m7 _ _ (((s1_3.ne rfl).ne rfl).ne rfl)
  have s3_7 := m7 _ _ (((s3_3.ne rfl).ne rfl).ne rfl)
  have s7_7 := m7 _ _ (At.hit z3.put.put rfl)
  have low7 := (((low3.trans h4).trans h5).upd u6 geg7)
  clear m7
  refine e_then ?_
  refine c_seq ?_
  refine c_seq ?_
  refine c_region ?_
  refine l_q rfl (q_row rfl Try.underlying31 rfl (sz31.trans (congrArg some ((nums_size _ _).trans (differenceR_len _ _ _)).symm)) s7_7.ev (fun _ e => by rw [e]; exact k6) ?_)
  refine l_q rfl (q_zero rfl Try.underlying31 sz30 zero31 ?_)
  refine l_q rfl (q_eqrow true rfl Try.eqGuardType31 Try.underlying31 Try.underlying30 info30 cells30 ((At.hit z7 rfl).ne rfl).ev (At.hit z7.put rfl).ev (differenceR_len _ _ _) (List.length_replicate) (by rw [decide_eq_true hd]) ?_)
  refine l_end ?_
  refine e_fresh z7.put.put.put ?_
  intro a8 z8 m8
  have s1_8 := m8 _ _ (((s1_7.ne rfl).ne rfl).ne rfl)
  have s3_8 := m8 _ _ (((s3_7.ne rfl).ne rfl).ne rfl)
  have s7_8 := m8 _ _ (((s7_7.ne rfl).ne rfl).ne rfl)
  have s21_8 := m8 _ _ (At.hit z7.put.put rfl)
  clear m8
  refine e_then ?_
  refine c_true s21_8 ?_
  refine c_seq ?_
  refine c_region ?_
  refine l_q rfl (q_assign _ _ rfl rfl ?_)
  refine l_end ?_
  refine e_fresh z8.put ?_
  intro a9 z9 m9
  have s6_9 := m9 _ _ (At.hit z8 rfl)
  clear m9
  refine e_then ?_
  refine wp_ret ?_
  refine ret_then ?_
  refine r_tmp rfl z9.defers s6_9 ?_
  exact ⟨by rw [markedR_no c s ty K B hd]; rfl, low7⟩
theorem MarkedR_all.calls (c : Ch) (s : ByteArray) (hs : s.size ≤ 9223372036854775807) (ty K B : Int) (hd : ¬ differenceR ty K B = List.replicate 80 0) (hall : ∀ i, i < 5 → endsR c s (differenceR ty K B) i) (w0 : World) : Calls Try.prog 14 #[.agg (nums .u32 (cl c)), .string s, .agg #[.int .i64 ty, .int .i64 K, .int .i64 B]] w0 fun e w' => e = .returned (.bool (markedR c s ty K B)) ∧ Low w0 w' := by
  refine c_fun (R := _) Try.func14 rfl 83 rfl (Nat.le_of_ble_eq_true rfl) ?_
  intro a z hA
  have s0 := hA 0 _ rfl
  have s1 := hA 1 _ rfl
  have s2 := hA 2 _ rfl
  clear hA
  refine c_seq ?_
  refine c_region ?_
  refine l_box rfl rfl s0.ev ?_
  intro g3 w1 hg1 k1 h1
  have geg3 := Nat.le_trans (Low.refl _).ge hg1
  refine l_box rfl rfl (s2.ne rfl).ev ?_
  intro g5 w2 hg2 k2 h2
  have lt_g3_g5 := Nat.lt_of_lt_of_le (heap_lt k1) hg2
  have geg5 := Nat.le_trans h1.ge hg2
  have kg3_2 := h2.blk k1
  refine l_q rfl (q_assign _ _ rfl rfl ?_)
  refine l_end ?_
  refine e_fresh z.put.put.put ?_
  intro a3 z3 m3
  have s1_3 := m3 _ _ (((s1.ne rfl).ne rfl).ne rfl)
  have s3_3 := m3 _ _ (((At.hit z rfl).ne rfl).ne rfl)
  have s5_3 := m3 _ _ ((At.hit z.put rfl).ne rfl)
  have low3 := (h1.trans h2)
  clear m3
  refine e_then ?_
  refine c_seq ?_
  refine c_region ?_
  refine l_q rfl (q_row rfl Try.underlying29 rfl (sz29.trans (congrArg some rfl.symm)) s5_3.ev (fun _ e => by rw [e]; exact k2) ?_)
  refine l_call (fun v w' => v = .agg (nums .u32 (differenceR ty K B)) ∧ Low w2 w') rfl rfl rfl Try.func10 rfl (args1 rfl (At.hit z3 rfl).ev) ((DifferenceR.calls ty K B _).mono fun _ _ ⟨e, k⟩ => ⟨_, e, rfl, k⟩) ?_
  rintro _ w4 ⟨rfl, h4⟩
  have kg3_4 := h4.blk kg3_2
  have kg5_4 := h4.blk k2
  refine l_alloc rfl rfl zero31 ?_
  intro g7 w5 hg5 k5 h5
  have lt_g3_g7 := Nat.lt_of_lt_of_le (heap_lt kg3_4) hg5
  have lt_g5_g7 := Nat.lt_of_lt_of_le (heap_lt kg5_4) hg5
  have geg7 := Nat.le_trans (low3.trans h4).ge hg5
  have kg3_5 := h5.blk kg3_4
  have kg5_5 := h5.blk kg5_4
  refine l_row rfl rfl rfl (sz31.trans (congrArg some ((nums_size _ _).trans (differenceR_len _ _ _)).symm)) (At.hit z3.put.put rfl).ev ((At.hit z3.put rfl).ne rfl).ev (nums_one _ _) k5 (((nums_size _ _).trans (List.length_replicate)).trans ((nums_size _ _).trans (differenceR_len _ _ _)).symm) ?_
  intro w6 k6 u6
  have kg3_6 := u6.blk kg3_5 (by omega)
  have kg5_6 := u6.blk kg5_5 (by omega)
  refine l_end ?_
  refine e_fresh z3.put.put.put ?_
  intro a7 z7 m7
  have s1_7 := m7 _ _ (((s1_3.ne rfl).ne rfl).ne rfl)
  have s3_7 := m7 _ _ (((s3_3.ne rfl).ne rfl).ne rfl)
  have s7_7 := m7 _ _ (At.hit z3.put.put rfl)
  have low7 := (((low3.trans h4).trans h5).upd u6 geg7)
  clear m7
  refine e_then ?_
  refine c_seq ?_
  refine c_seq ?_
  refine c_region ?_
  refine l_q rfl (q_row rfl Try.underlying31 rfl (sz31.trans (congrArg some ((nums_size _ _).trans (differenceR_len _ _ _)).symm)) s7_7.ev (fun _ e => by rw [e]; exact k6) ?_)
  refine l_q rfl (q_zero rfl Try.underlying31 sz30 zero31 ?_)
  refine l_q rfl (q_eqrow false rfl Try.eqGuardType31 Try.underlying31 Try.underlying30 info30 cells30 ((At.hit z7 rfl).ne rfl).ev (At.hit z7.put rfl).ev (differenceR_len _ _ _) (List.length_replicate) (by rw [decide_eq_false hd]) ?_)
  refine l_end ?_
  refine e_fresh z7.put.put.put ?_
  intro a8 z8 m8
  have s1_8 := m8 _ _ (((s1_7.ne rfl).ne rfl).ne rfl)
  have s3_8 := m8 _ _ (((s3_7.ne rfl).ne rfl).ne rfl)
  have s7_8 := m8 _ _ (((s7_7.ne rfl).ne rfl).ne rfl)
  have s21_8 := m8 _ _ (At.hit z7.put.put rfl)
  clear m8
  refine e_then ?_
  refine c_false s21_8 ?_
  refine wp_skip ?_
  refine e_then ?_
  refine c_seq ?_
  refine c_region ?_
  refine l_q rfl (q_move _ _ rfl s1_8.ev ?_)
  refine l_call (fun v w' => v = .agg (nums .u32 (expandR s)) ∧ Low w6 w') rfl rfl rfl Try.func30 rfl (args1 rfl (At.hit z8 rfl).ev) ((ExpandR.calls s hs _).mono fun _ _ ⟨e, k⟩ => ⟨_, e, rfl, k⟩) ?_
  rintro _ w9 ⟨rfl, h9⟩
  have kg3_9 := h9.blk kg3_6
  have kg7_9 := h9.blk k6
  refine l_alloc rfl rfl zero31 ?_
  intro g8 w10 hg10 k10 h10
  have lt_g3_g8 := Nat.lt_of_lt_of_le (heap_lt kg3_9) hg10
  have lt_g7_g8 := Nat.lt_of_lt_of_le (heap_lt kg7_9) hg10
  have geg8 := Nat.le_trans (low7.trans h9).ge hg10
  have kg3_10 := h10.blk kg3_9
  have kg7_10 := h10.blk kg7_9
  refine l_row rfl rfl rfl (sz31.trans (congrArg some ((nums_size _ _).trans (expandR_len s)).symm)) (At.hit z8.put.put rfl).ev ((At.hit z8.put rfl).ne rfl).ev (nums_one _ _) k10 (((nums_size _ _).trans (List.length_replicate)).trans ((nums_size _ _).trans (expandR_len s)).symm) ?_
  intro w11 k11 u11
  have kg3_11 := u11.blk kg3_10 (by omega)
  have kg7_11 := u11.blk kg7_10 (by omega)
  refine l_end ?_
  refine e_fresh z8.put.put.put ?_
  intro a12 z12 m12
  have s1_12 := m12 _ _ (((s1_8.ne rfl).ne rfl).ne rfl)
  have s3_12 := m12 _ _ (((s3_8.ne rfl).ne rfl).ne rfl)
  have s7_12 := m12 _ _ (((s7_8.ne rfl).ne rfl).ne rfl)
  have s8_12 := m12 _ _ (At.hit z8.put.put rfl)
  have low12 := (((low7.trans h9).trans h10).upd u11 geg8)
  clear m12
  refine e_then ?_
  refine c_seq ?_
  refine c_region ?_
  refine l_q rfl (q_row rfl Try.underlying36 rfl (sz36.trans (congrArg some ((nums_size _ _).trans (cl_len c)).symm)) s3_12.ev (fun _ e => by rw [e]; exact kg3_11) ?_)
  refine l_alloc rfl rfl zero36 ?_
  intro g9 w13 hg13 k13 h13
  have lt_g3_g9 := Nat.lt_of_lt_of_le (heap_lt kg3_11) hg13
  have lt_g7_g9 := Nat.lt_of_lt_of_le (heap_lt kg7_11) hg13
  have lt_g8_g9 := Nat.lt_of_lt_of_le (heap_lt k11) hg13
  have geg9 := Nat.le_trans low12.ge hg13
  have kg3_13 := h13.blk kg3_11
  have kg7_13 := h13.blk kg7_11
  have kg8_13 := h13.blk k11
  refine l_row rfl rfl rfl (sz36.trans (congrArg some ((nums_size _ _).trans (cl_len c)).symm)) (At.hit z12.put rfl).ev ((At.hit z12 rfl).ne rfl).ev (nums_one _ _) k13 (((nums_size _ _).trans (List.length_replicate)).trans ((nums_size _ _).trans (cl_len c)).symm) ?_
  intro w14 k14 u14
  have kg3_14 := u14.blk kg3_13 (by omega)
  have kg7_14 := u14.blk kg7_13 (by omega)
  have kg8_14 := u14.blk kg8_13 (by omega)
  refine l_end ?_
  refine e_fresh z12.put.put ?_
  intro a15 z15 m15
  have s1_15 := m15 _ _ ((s1_12.ne rfl).ne rfl)
  have s3_15 := m15 _ _ ((s3_12.ne rfl).ne rfl)
  have s7_15 := m15 _ _ ((s7_12.ne rfl).ne rfl)
  have s8_15 := m15 _ _ ((s8_12.ne rfl).ne rfl)
  have s9_15 := m15 _ _ (At.hit z12.put rfl)
  have low15 := ((low12.trans h13).upd u14 geg9)
  clear m15
  refine e_then ?_
  refine c_seq ?_
  refine c_seq ?_
  refine c_region ?_
  refine l_q rfl (q_assign _ _ rfl rfl ?_)
  refine l_end ?_
  refine e_fresh z15.put ?_
  intro a16 z16 m16
  have s1_16 := m16 _ _ (s1_15.ne rfl)
  have s3_16 := m16 _ _ (s3_15.ne rfl)
  have s7_16 := m16 _ _ (s7_15.ne rfl)
  have s8_16 := m16 _ _ (s8_15.ne rfl)
  have s9_16 := m16 _ _ (s9_15.ne rfl)
  have s10_16 := m16 _ _ (At.hit z15 rfl)
  clear m16
  refine e_then ?_
  refine wp_block ?_
  refine c_loop 58 (fun k a w => Fr 83 a ∧ At a 1 (.string s) ∧ At a 3 (.pointer (some ⟨g3, 0, none⟩)) ∧ At a 7 (.pointer (some ⟨g7, 0, none⟩)) ∧ At a 8 (.pointer (some ⟨g8, 0, none⟩)) ∧ At a 9 (.pointer (some ⟨g9, 0, none⟩)) ∧ At a 10 (.int .i64 ((k : Nat) : Int)) ∧ w.heap[g3]? = some (.cells (nums .u32 (cl c)) 36) ∧ w.heap[g7]? = some (.cells (nums .u32 (differenceR ty K B)) 31) ∧ w.heap[g8]? = some (.cells (nums .u32 (expandR s)) 31) ∧ w.heap[g9]? = some (.cells (nums .u32 (cl (stepsR (expandR s) c k))) 36) ∧ Low w0 w) ?_ ?_ ?_
  · exact ⟨z16, s1_16, s3_16, s7_16, s8_16, s9_16, s10_16, kg3_14, kg7_14, kg8_14, k14, low15⟩
  · intro k a17 w17 hk17 h
    obtain ⟨z17, s1_17, s3_17, s7_17, s8_17, s9_17, s10_17, kg3_17, kg7_17, kg8_17, kg9_17, low17⟩ := h
    clear k14 kg3_14 kg7_14 kg8_14 low15 s10_16 s1_16 s3_16 s7_16 s8_16 s9_16 z16
    refine c_seq ?_
    refine c_seq ?_
    refine c_region ?_
    refine l_q rfl (q_move _ _ rfl s10_17.ev ?_)
    refine l_q rfl (q_lss true rfl (At.hit z17 rfl).ev rfl (decide_eq_true (by omega)) ?_)
    refine l_end ?_
    refine e_fresh z17.put.put ?_
    intro a18 z18 m18
    have s1_18 := m18 _ _ ((s1_17.ne rfl).ne rfl)
    have s3_18 := m18 _ _ ((s3_17.ne rfl).ne rfl)
    have s7_18 := m18 _ _ ((s7_17.ne rfl).ne rfl)
    have s8_18 := m18 _ _ ((s8_17.ne rfl).ne rfl)
    have s9_18 := m18 _ _ ((s9_17.ne rfl).ne rfl)
    have s10_18 := m18 _ _ ((s10_17.ne rfl).ne rfl)
    have s26_18 := m18 _ _ (At.hit z17.put rfl)
    clear m18
    refine e_then ?_
    refine c_true s26_18 ?_
    refine wp_skip ?_
    refine e_then ?_
    refine c_seq ?_
    refine wp_block ?_
    refine region_low_tail 6 hm (by kernel_rfl) ?_
    simp only [List.take_succ_cons, List.take_zero, List.drop_succ_cons, List.drop_zero]
    refine qs (q_row rfl Try.underlying36 rfl (sz36.trans (congrArg some ((nums_size _ _).trans (cl_len (stepsR (expandR s) c k))).symm)) s9_18.ev (fun _ h => h.blk kg9_17) ?_)
    refine qs (q_move _ _ rfl (s10_18.ne rfl).ev ?_)
    refine qs (q_move _ _ rfl ((s10_18.ne rfl).ne rfl).ev ?_)
    refine qs (q_idx (j := k) rfl Try.underlying31 sz30 (((s8_18.ne rfl).ne rfl).ne rfl).ev (At.hit z18.put.put rfl).ev (by omega) ?_)
    refine qs (q_cell (.int .u32 ((expandR s).getD k 0)) rfl Try.underlying30 (At.hit z18.put.put.put rfl).ev (fun _ h => nums_cell (h.blk kg8_17) k (by rw [(expandR_len s)]; omega)) ?_)
    refine qs (q_call (.agg (nums .u32 (cl (stepR (stepsR (expandR s) c k) ((k : Nat) : Int) ((expandR s).getD k 0))))) rfl rfl Try.func31 rfl (args3 rfl (((((At.hit z18 rfl).ne rfl).ne rfl).ne rfl).ne rfl).ev ((((At.hit z18.put rfl).ne rfl).ne rfl).ne rfl).ev (At.hit z18.put.put.put.put rfl).ev) (fun _ h => (StepR.calls (stepsR (expandR s) c k) ((k : Nat) : Int) ((expandR s).getD k 0) _).mono fun _ _ ⟨e, k⟩ => ⟨e, h.trans k⟩) ?_)
    refine qz ?_
    intro w19 h19
    have kg3_19 := h19.blk kg3_17
    have kg7_19 := h19.blk kg7_17
    have kg8_19 := h19.blk kg8_17
    have kg9_19 := h19.blk kg9_17
    refine l_row rfl rfl rfl (sz36.trans (congrArg some ((nums_size _ _).trans (cl_len (stepR (stepsR (expandR s) c k) ((k : Nat) : Int) ((expandR s).getD k 0)))).symm)) ((((((s9_18.ne rfl).ne rfl).ne rfl).ne rfl).ne rfl).ne rfl).ev (At.hit z18.put.put.put.put.put rfl).ev (nums_one _ _) kg9_19 (((nums_size _ _).trans (cl_len (stepsR (expandR s) c k))).trans ((nums_size _ _).trans (cl_len (stepR (stepsR (expandR s) c k) ((k : Nat) : Int) ((expandR s).getD k 0)))).symm) ?_
    intro w20 k20 u20
    have kg3_20 := u20.blk kg3_19 (by omega)
    have kg7_20 := u20.blk kg7_19 (by omega)
    have kg8_20 := u20.blk kg8_19 (by omega)
    refine l_end ?_
    refine e_fresh z18.put.put.put.put.put.put ?_
    intro a21 z21 m21
    have s1_21 := m21 _ _ ((((((s1_18.ne rfl).ne rfl).ne rfl).ne rfl).ne rfl).ne rfl)
    have s3_21 := m21 _ _ ((((((s3_18.ne rfl).ne rfl).ne rfl).ne rfl).ne rfl).ne rfl)
    have s7_21 := m21 _ _ ((((((s7_18.ne rfl).ne rfl).ne rfl).ne rfl).ne rfl).ne rfl)
    have s8_21 := m21 _ _ ((((((s8_18.ne rfl).ne rfl).ne rfl).ne rfl).ne rfl).ne rfl)
    have s9_21 := m21 _ _ ((((((s9_18.ne rfl).ne rfl).ne rfl).ne rfl).ne rfl).ne rfl)
    have s10_21 := m21 _ _ ((((((s10_18.ne rfl).ne rfl).ne rfl).ne rfl).ne rfl).ne rfl)
    have low21 := ((low17.trans h19).upd u20 geg9)
    clear m21
    refine e_in ?_
    refine e_then ?_
    refine c_region ?_
    refine l_q rfl (q_move _ _ rfl s10_21.ev ?_)
    refine l_q rfl (q_add (((k + 1 : Nat) : Int)) rfl (At.hit z21 rfl).ev rfl (i64_is (by omega) (by omega) (by omega)) ?_)
    refine l_q rfl (q_assign _ _ rfl (At.hit z21.put rfl).ev ?_)
    refine l_end ?_
    refine e_fresh z21.put.put.put ?_
    intro a22 z22 m22
    have s1_22 := m22 _ _ (((s1_21.ne rfl).ne rfl).ne rfl)
    have s3_22 := m22 _ _ (((s3_21.ne rfl).ne rfl).ne rfl)
    have s7_22 := m22 _ _ (((s7_21.ne rfl).ne rfl).ne rfl)
    have s8_22 := m22 _ _ (((s8_21.ne rfl).ne rfl).ne rfl)
    have s9_22 := m22 _ _ (((s9_21.ne rfl).ne rfl).ne rfl)
    have s10_22 := m22 _ _ (At.hit z21.put.put rfl)
    clear m22
    exact ⟨z22, s1_22, s3_22, s7_22, s8_22, s9_22, s10_22, kg3_20, kg7_20, kg8_20, k20, low21⟩
  · intro a23 w23 h
    obtain ⟨z23, s1_23, s3_23, s7_23, s8_23, s9_23, s10_23, kg3_23, kg7_23, kg8_23, kg9_23, low23⟩ := h
    clear k14 kg3_14 kg7_14 kg8_14 low15 s10_16 s1_16 s3_16 s7_16 s8_16 s9_16 z16
    refine c_seq ?_
    refine c_seq ?_
    refine c_region ?_
    refine l_q rfl (q_move _ _ rfl s10_23.ev ?_)
    refine l_q rfl (q_lss false rfl (At.hit z23 rfl).ev rfl (decide_eq_false (by omega)) ?_)
    refine l_end ?_
    refine e_fresh z23.put.put ?_
    intro a24 z24 m24
    have s1_24 := m24 _ _ ((s1_23.ne rfl).ne rfl)
    have s3_24 := m24 _ _ ((s3_23.ne rfl).ne rfl)
    have s7_24 := m24 _ _ ((s7_23.ne rfl).ne rfl)
    have s8_24 := m24 _ _ ((s8_23.ne rfl).ne rfl)
    have s9_24 := m24 _ _ ((s9_23.ne rfl).ne rfl)
    have s10_24 := m24 _ _ ((s10_23.ne rfl).ne rfl)
    have s26_24 := m24 _ _ (At.hit z23.put rfl)
    clear m24
    refine e_then ?_
    refine c_false s26_24 ?_
    refine wp_exit ?_
    refine x_then ?_
    refine x_then ?_
    refine in_exit ?_
    refine e_then ?_
    refine c_seq ?_
    refine c_region ?_
    refine l_q rfl (q_row rfl Try.underlying36 rfl (sz36.trans (congrArg some ((nums_size _ _).trans (cl_len (stepsR (expandR s) c 58))).symm)) s9_24.ev (fun _ e => by rw [e]; exact kg9_23) ?_)
    refine l_alloc rfl rfl zero36 ?_
    intro g11 w25 hg25 k25 h25
    have lt_g3_g11 := Nat.lt_of_lt_of_le (heap_lt kg3_23) hg25
    have lt_g7_g11 := Nat.lt_of_lt_of_le (heap_lt kg7_23) hg25
    have lt_g8_g11 := Nat.lt_of_lt_of_le (heap_lt kg8_23) hg25
    have lt_g9_g11 := Nat.lt_of_lt_of_le (heap_lt kg9_23) hg25
    have geg11 := Nat.le_trans low23.ge hg25
    have kg3_25 := h25.blk kg3_23
    have kg7_25 := h25.blk kg7_23
    have kg8_25 := h25.blk kg8_23
    have kg9_25 := h25.blk kg9_23
    refine l_row rfl rfl rfl (sz36.trans (congrArg some ((nums_size _ _).trans (cl_len (stepsR (expandR s) c 58))).symm)) (At.hit z24.put rfl).ev ((At.hit z24 rfl).ne rfl).ev (nums_one _ _) k25 (((nums_size _ _).trans (List.length_replicate)).trans ((nums_size _ _).trans (cl_len (stepsR (expandR s) c 58))).symm) ?_
    intro w26 k26 u26
    have kg3_26 := u26.blk kg3_25 (by omega)
    have kg7_26 := u26.blk kg7_25 (by omega)
    have kg8_26 := u26.blk kg8_25 (by omega)
    have kg9_26 := u26.blk kg9_25 (by omega)
    refine l_end ?_
    refine e_fresh z24.put.put ?_
    intro a27 z27 m27
    have s1_27 := m27 _ _ ((s1_24.ne rfl).ne rfl)
    have s3_27 := m27 _ _ ((s3_24.ne rfl).ne rfl)
    have s7_27 := m27 _ _ ((s7_24.ne rfl).ne rfl)
    have s8_27 := m27 _ _ ((s8_24.ne rfl).ne rfl)
    have s9_27 := m27 _ _ ((s9_24.ne rfl).ne rfl)
    have s11_27 := m27 _ _ (At.hit z24.put rfl)
    have low27 := ((low23.trans h25).upd u26 geg11)
    clear m27
    refine e_then ?_
    refine c_seq ?_
    refine c_seq ?_
    refine c_region ?_
    refine l_q rfl (q_assign _ _ rfl rfl ?_)
    refine l_end ?_
    refine e_fresh z27.put ?_
    intro a28 z28 m28
    have s1_28 := m28 _ _ (s1_27.ne rfl)
    have s3_28 := m28 _ _ (s3_27.ne rfl)
    have s7_28 := m28 _ _ (s7_27.ne rfl)
    have s8_28 := m28 _ _ (s8_27.ne rfl)
    have s9_28 := m28 _ _ (s9_27.ne rfl)
    have s11_28 := m28 _ _ (s11_27.ne rfl)
    have s12_28 := m28 _ _ (At.hit z27 rfl)
    clear m28
    refine e_then ?_
    refine wp_block ?_
    refine c_loop 58 (fun k a w => Fr 83 a ∧ At a 1 (.string s) ∧ At a 3 (.pointer (some ⟨g3, 0, none⟩)) ∧ At a 7 (.pointer (some ⟨g7, 0, none⟩)) ∧ At a 8 (.pointer (some ⟨g8, 0, none⟩)) ∧ At a 9 (.pointer (some ⟨g9, 0, none⟩)) ∧ At a 11 (.pointer (some ⟨g11, 0, none⟩)) ∧ At a 12 (.int .i64 (57 - ((k : Nat) : Int))) ∧ w.heap[g11]? = some (.cells (nums .u32 (cl (backX (expandR s) (differenceR ty K B) (mR c s) backR k))) 36) ∧ w.heap[g3]? = some (.cells (nums .u32 (cl c)) 36) ∧ w.heap[g7]? = some (.cells (nums .u32 (differenceR ty K B)) 31) ∧ w.heap[g8]? = some (.cells (nums .u32 (expandR s)) 31) ∧ w.heap[g9]? = some (.cells (nums .u32 (cl (stepsR (expandR s) c 58))) 36) ∧ Low w0 w) ?_ ?_ ?_
    · exact ⟨z28, s1_28, s3_28, s7_28, s8_28, s9_28, s11_28, (s12_28.same (congrArg (Value.int .i64) (by omega))), k26, kg3_26, kg7_26, kg8_26, kg9_26, low27⟩
    · intro k a29 w29 hk29 h
      obtain ⟨z29, s1_29, s3_29, s7_29, s8_29, s9_29, s11_29, s12_29, kg11_29, kg3_29, kg7_29, kg8_29, kg9_29, low29⟩ := h
      clear k26 kg3_26 kg7_26 kg8_26 kg9_26 low27 s11_28 s12_28 s1_28 s3_28 s7_28 s8_28 s9_28 z28
      refine c_seq ?_
      refine c_seq ?_
      refine c_region ?_
      refine l_q rfl (q_move _ _ rfl s12_29.ev ?_)
      refine l_q rfl (q_geq true rfl (At.hit z29 rfl).ev rfl (decide_eq_true (by omega)) ?_)
      refine l_end ?_
      refine e_fresh z29.put.put ?_
      intro a30 z30 m30
      have s1_30 := m30 _ _ ((s1_29.ne rfl).ne rfl)
      have s3_30 := m30 _ _ ((s3_29.ne rfl).ne rfl)
      have s7_30 := m30 _ _ ((s7_29.ne rfl).ne rfl)
      have s8_30 := m30 _ _ ((s8_29.ne rfl).ne rfl)
      have s9_30 := m30 _ _ ((s9_29.ne rfl).ne rfl)
      have s11_30 := m30 _ _ ((s11_29.ne rfl).ne rfl)
      have s12_30 := m30 _ _ ((s12_29.ne rfl).ne rfl)
      have s37_30 := m30 _ _ (At.hit z29.put rfl)
      clear m30
      refine e_then ?_
      refine c_true s37_30 ?_
      refine wp_skip ?_
      refine e_then ?_
      refine c_seq ?_
      refine wp_block ?_
      refine region_low_tail 10 hm (by kernel_rfl) ?_
      simp only [List.take_succ_cons, List.take_zero, List.drop_succ_cons, List.drop_zero]
      refine qs (q_row rfl Try.underlying36 rfl (sz36.trans (congrArg some ((nums_size _ _).trans (cl_len (backX (expandR s) (differenceR ty K B) (mR c s) backR k))).symm)) s11_30.ev (fun _ h => h.blk kg11_29) ?_)
      refine qs (q_move _ _ rfl (s12_30.ne rfl).ev ?_)
      refine qs (q_move _ _ rfl ((s12_30.ne rfl).ne rfl).ev ?_)
      refine qs (q_idx (j := 57 - k) rfl Try.underlying31 sz30 (((s8_30.ne rfl).ne rfl).ne rfl).ev ((At.hit z30.put.put rfl).same (congrArg (Value.int .i64) (show ((57 - ((k : Nat) : Int)) : Int) = ((57 - k : Nat) : Int) by omega))).ev (by omega) ?_)
      refine qs (q_cell (.int .u32 ((expandR s).getD (57 - k) 0)) rfl Try.underlying30 (At.hit z30.put.put.put rfl).ev (fun _ h => nums_cell (h.blk kg8_29) (57 - k) (by rw [(expandR_len s)]; omega)) ?_)
      refine qs (q_move _ _ rfl (((((s12_30.ne rfl).ne rfl).ne rfl).ne rfl).ne rfl).ev ?_)
      refine qs (q_idx (j := 57 - k) rfl Try.underlying31 sz30 ((((((s7_30.ne rfl).ne rfl).ne rfl).ne rfl).ne rfl).ne rfl).ev ((At.hit z30.put.put.put.put.put rfl).same (congrArg (Value.int .i64) (show ((57 - ((k : Nat) : Int)) : Int) = ((57 - k : Nat) : Int) by omega))).ev (by omega) ?_)
      refine qs (q_cell (.int .u32 ((differenceR ty K B).getD (57 - k) 0)) rfl Try.underlying30 (At.hit z30.put.put.put.put.put.put rfl).ev (fun _ h => nums_cell (h.blk kg7_29) (57 - k) (by rw [(differenceR_len _ _ _)]; omega)) ?_)
      refine q_fresh z30.put.put.put.put.put.put.put.put ?_
      intro a31 z31 m31
      have s1_31 := m31 _ _ ((((((((s1_30.ne rfl).ne rfl).ne rfl).ne rfl).ne rfl).ne rfl).ne rfl).ne rfl)
      have s3_31 := m31 _ _ ((((((((s3_30.ne rfl).ne rfl).ne rfl).ne rfl).ne rfl).ne rfl).ne rfl).ne rfl)
      have s7_31 := m31 _ _ ((((((((s7_30.ne rfl).ne rfl).ne rfl).ne rfl).ne rfl).ne rfl).ne rfl).ne rfl)
      have s8_31 := m31 _ _ ((((((((s8_30.ne rfl).ne rfl).ne rfl).ne rfl).ne rfl).ne rfl).ne rfl).ne rfl)
      have s9_31 := m31 _ _ ((((((((s9_30.ne rfl).ne rfl).ne rfl).ne rfl).ne rfl).ne rfl).ne rfl).ne rfl)
      have s11_31 := m31 _ _ ((((((((s11_30.ne rfl).ne rfl).ne rfl).ne rfl).ne rfl).ne rfl).ne rfl).ne rfl)
      have s12_31 := m31 _ _ ((((((((s12_30.ne rfl).ne rfl).ne rfl).ne rfl).ne rfl).ne rfl).ne rfl).ne rfl)
      have s40_31 := m31 _ _ ((((((((At.hit z30 rfl).ne rfl).ne rfl).ne rfl).ne rfl).ne rfl).ne rfl).ne rfl)
      have s41_31 := m31 _ _ (((((((At.hit z30.put rfl).ne rfl).ne rfl).ne rfl).ne rfl).ne rfl).ne rfl)
      have s44_31 := m31 _ _ ((((At.hit z30.put.put.put.put rfl).ne rfl).ne rfl).ne rfl)
      have s47_31 := m31 _ _ (At.hit z30.put.put.put.put.put.put.put rfl)
      clear m31
      refine qs (q_xor rfl s44_31.ev s47_31.ev ?_)
      refine qs (q_call (.agg (nums .u32 (cl (backR (backX (expandR s) (differenceR ty K B) (mR c s) backR k) (57 - ((k : Nat) : Int)) (Go.bits .xor .u32 ((expandR s).getD (57 - k) 0) ((differenceR ty K B).getD (57 - k) 0)))))) rfl rfl Try.func32 rfl (args3 rfl (s40_31.ne rfl).ev (s41_31.ne rfl).ev (At.hit z31 rfl).ev) (fun _ h => (BackR.calls (backX (expandR s) (differenceR ty K B) (mR c s) backR k) (57 - ((k : Nat) : Int)) (Go.bits .xor .u32 ((expandR s).getD (57 - k) 0) ((differenceR ty K B).getD (57 - k) 0)) _).mono fun _ _ ⟨e, k⟩ => ⟨e, h.trans k⟩) ?_)
      refine qz ?_
      intro w32 h32
      have kg11_32 := h32.blk kg11_29
      have kg3_32 := h32.blk kg3_29
      have kg7_32 := h32.blk kg7_29
      have kg8_32 := h32.blk kg8_29
      have kg9_32 := h32.blk kg9_29
      refine l_row rfl rfl rfl (sz36.trans (congrArg some ((nums_size _ _).trans (cl_len (backR (backX (expandR s) (differenceR ty K B) (mR c s) backR k) (57 - ((k : Nat) : Int)) (Go.bits .xor .u32 ((expandR s).getD (57 - k) 0) ((differenceR ty K B).getD (57 - k) 0))))).symm)) ((s11_31.ne rfl).ne rfl).ev (At.hit z31.put rfl).ev (nums_one _ _) kg11_32 (((nums_size _ _).trans (cl_len (backX (expandR s) (differenceR ty K B) (mR c s) backR k))).trans ((nums_size _ _).trans (cl_len (backR (backX (expandR s) (differenceR ty K B) (mR c s) backR k) (57 - ((k : Nat) : Int)) (Go.bits .xor .u32 ((expandR s).getD (57 - k) 0) ((differenceR ty K B).getD (57 - k) 0))))).symm) ?_
      intro w33 k33 u33
      have kg3_33 := u33.blk kg3_32 (by omega)
      have kg7_33 := u33.blk kg7_32 (by omega)
      have kg8_33 := u33.blk kg8_32 (by omega)
      have kg9_33 := u33.blk kg9_32 (by omega)
      refine l_end ?_
      refine e_fresh z31.put.put ?_
      intro a34 z34 m34
      have s1_34 := m34 _ _ ((s1_31.ne rfl).ne rfl)
      have s3_34 := m34 _ _ ((s3_31.ne rfl).ne rfl)
      have s7_34 := m34 _ _ ((s7_31.ne rfl).ne rfl)
      have s8_34 := m34 _ _ ((s8_31.ne rfl).ne rfl)
      have s9_34 := m34 _ _ ((s9_31.ne rfl).ne rfl)
      have s11_34 := m34 _ _ ((s11_31.ne rfl).ne rfl)
      have s12_34 := m34 _ _ ((s12_31.ne rfl).ne rfl)
      have low34 := ((low29.trans h32).upd u33 geg11)
      clear m34
      refine e_in ?_
      refine e_then ?_
      refine c_region ?_
      refine l_q rfl (q_move _ _ rfl s12_34.ev ?_)
      refine l_q rfl (q_sub ((56 - ((k : Nat) : Int))) rfl (At.hit z34 rfl).ev rfl (i64_is (by omega) (by omega) (by omega)) ?_)
      refine l_q rfl (q_assign _ _ rfl (At.hit z34.put rfl).ev ?_)
      refine l_end ?_
      refine e_fresh z34.put.put.put ?_
      intro a35 z35 m35
      have s1_35 := m35 _ _ (((s1_34.ne rfl).ne rfl).ne rfl)
      have s3_35 := m35 _ _ (((s3_34.ne rfl).ne rfl).ne rfl)
      have s7_35 := m35 _ _ (((s7_34.ne rfl).ne rfl).ne rfl)
      have s8_35 := m35 _ _ (((s8_34.ne rfl).ne rfl).ne rfl)
      have s9_35 := m35 _ _ (((s9_34.ne rfl).ne rfl).ne rfl)
      have s11_35 := m35 _ _ (((s11_34.ne rfl).ne rfl).ne rfl)
      have s12_35 := m35 _ _ (At.hit z34.put.put rfl)
      clear m35
      exact ⟨z35, s1_35, s3_35, s7_35, s8_35, s9_35, s11_35, (s12_35.same (congrArg (Value.int .i64) (by omega))), k33, kg3_33, kg7_33, kg8_33, kg9_33, low34⟩
    · intro a36 w36 h
      obtain ⟨z36, s1_36, s3_36, s7_36, s8_36, s9_36, s11_36, s12_36, kg11_36, kg3_36, kg7_36, kg8_36, kg9_36, low36⟩ := h
      clear k26 kg3_26 kg7_26 kg8_26 kg9_26 low27 s11_28 s12_28 s1_28 s3_28 s7_28 s8_28 s9_28 z28
      refine c_seq ?_
      refine c_seq ?_
      refine c_region ?_
      refine l_q rfl (q_move _ _ rfl s12_36.ev ?_)
      refine l_q rfl (q_geq false rfl (At.hit z36 rfl).ev rfl (decide_eq_false (by omega)) ?_)
      refine l_end ?_
      refine e_fresh z36.put.put ?_
      intro a37 z37 m37
      have s1_37 := m37 _ _ ((s1_36.ne rfl).ne rfl)
      have s3_37 := m37 _ _ ((s3_36.ne rfl).ne rfl)
      have s7_37 := m37 _ _ ((s7_36.ne rfl).ne rfl)
      have s8_37 := m37 _ _ ((s8_36.ne rfl).ne rfl)
      have s9_37 := m37 _ _ ((s9_36.ne rfl).ne rfl)
      have s11_37 := m37 _ _ ((s11_36.ne rfl).ne rfl)
      have s12_37 := m37 _ _ ((s12_36.ne rfl).ne rfl)
      have s37_37 := m37 _ _ (At.hit z36.put rfl)
      clear m37
      refine e_then ?_
      refine c_false s37_37 ?_
      refine wp_exit ?_
      refine x_then ?_
      refine x_then ?_
      refine in_exit ?_
      refine e_then ?_
      refine c_seq ?_
      refine c_region ?_
      refine l_q rfl (q_row rfl Try.underlying36 rfl (sz36.trans (congrArg some ((nums_size _ _).trans (cl_len (stepsR (expandR s) c 58))).symm)) s9_37.ev (fun _ e => by rw [e]; exact kg9_36) ?_)
      refine l_alloc rfl rfl zero36 ?_
      intro g13 w38 hg38 k38 h38
      have lt_g11_g13 := Nat.lt_of_lt_of_le (heap_lt kg11_36) hg38
      have lt_g3_g13 := Nat.lt_of_lt_of_le (heap_lt kg3_36) hg38
      have lt_g7_g13 := Nat.lt_of_lt_of_le (heap_lt kg7_36) hg38
      have lt_g8_g13 := Nat.lt_of_lt_of_le (heap_lt kg8_36) hg38
      have lt_g9_g13 := Nat.lt_of_lt_of_le (heap_lt kg9_36) hg38
      have geg13 := Nat.le_trans low36.ge hg38
      have kg11_38 := h38.blk kg11_36
      have kg3_38 := h38.blk kg3_36
      have kg7_38 := h38.blk kg7_36
      have kg8_38 := h38.blk kg8_36
      have kg9_38 := h38.blk kg9_36
      refine l_row rfl rfl rfl (sz36.trans (congrArg some ((nums_size _ _).trans (cl_len (stepsR (expandR s) c 58))).symm)) (At.hit z37.put rfl).ev ((At.hit z37 rfl).ne rfl).ev (nums_one _ _) k38 (((nums_size _ _).trans (List.length_replicate)).trans ((nums_size _ _).trans (cl_len (stepsR (expandR s) c 58))).symm) ?_
      intro w39 k39 u39
      have kg11_39 := u39.blk kg11_38 (by omega)
      have kg3_39 := u39.blk kg3_38 (by omega)
      have kg7_39 := u39.blk kg7_38 (by omega)
      have kg8_39 := u39.blk kg8_38 (by omega)
      have kg9_39 := u39.blk kg9_38 (by omega)
      refine l_end ?_
      refine e_fresh z37.put.put ?_
      intro a40 z40 m40
      have s1_40 := m40 _ _ ((s1_37.ne rfl).ne rfl)
      have s3_40 := m40 _ _ ((s3_37.ne rfl).ne rfl)
      have s7_40 := m40 _ _ ((s7_37.ne rfl).ne rfl)
      have s8_40 := m40 _ _ ((s8_37.ne rfl).ne rfl)
      have s11_40 := m40 _ _ ((s11_37.ne rfl).ne rfl)
      have s13_40 := m40 _ _ (At.hit z37.put rfl)
      have low40 := ((low36.trans h38).upd u39 geg13)
      clear m40
      refine e_then ?_
      refine c_seq ?_
      refine c_seq ?_
      refine c_region ?_
      refine l_q rfl (q_assign _ _ rfl rfl ?_)
      refine l_end ?_
      refine e_fresh z40.put ?_
      intro a41 z41 m41
      have s1_41 := m41 _ _ (s1_40.ne rfl)
      have s3_41 := m41 _ _ (s3_40.ne rfl)
      have s7_41 := m41 _ _ (s7_40.ne rfl)
      have s8_41 := m41 _ _ (s8_40.ne rfl)
      have s11_41 := m41 _ _ (s11_40.ne rfl)
      have s13_41 := m41 _ _ (s13_40.ne rfl)
      have s14_41 := m41 _ _ (At.hit z40 rfl)
      clear m41
      refine e_then ?_
      refine wp_block ?_
      refine c_loop 22 (fun k a w => Fr 83 a ∧ At a 1 (.string s) ∧ At a 3 (.pointer (some ⟨g3, 0, none⟩)) ∧ At a 7 (.pointer (some ⟨g7, 0, none⟩)) ∧ At a 8 (.pointer (some ⟨g8, 0, none⟩)) ∧ At a 11 (.pointer (some ⟨g11, 0, none⟩)) ∧ At a 13 (.pointer (some ⟨g13, 0, none⟩)) ∧ At a 14 (.int .i64 ((k + 58 : Nat) : Int)) ∧ w.heap[g11]? = some (.cells (nums .u32 (cl (backX (expandR s) (differenceR ty K B) (mR c s) backR 58))) 36) ∧ w.heap[g13]? = some (.cells (nums .u32 (cl (stepsX (expandR s) (differenceR ty K B) (mR c s) stepR 58 k))) 36) ∧ w.heap[g3]? = some (.cells (nums .u32 (cl c)) 36) ∧ w.heap[g7]? = some (.cells (nums .u32 (differenceR ty K B)) 31) ∧ w.heap[g8]? = some (.cells (nums .u32 (expandR s)) 31) ∧ Low w0 w) ?_ ?_ ?_
      · exact ⟨z41, s1_41, s3_41, s7_41, s8_41, s11_41, s13_41, (s14_41.same (congrArg (Value.int .i64) (by omega))), kg11_39, k39, kg3_39, kg7_39, kg8_39, low40⟩
      · intro k a42 w42 hk42 h
        obtain ⟨z42, s1_42, s3_42, s7_42, s8_42, s11_42, s13_42, s14_42, kg11_42, kg13_42, kg3_42, kg7_42, kg8_42, low42⟩ := h
        clear k39 kg11_39 kg3_39 kg7_39 kg8_39 low40 s11_41 s13_41 s14_41 s1_41 s3_41 s7_41 s8_41 z41
        refine c_seq ?_
        refine c_seq ?_
        refine c_region ?_
        refine l_q rfl (q_move _ _ rfl s14_42.ev ?_)
        refine l_q rfl (q_lss true rfl (At.hit z42 rfl).ev rfl (decide_eq_true (by omega)) ?_)
        refine l_end ?_
        refine e_fresh z42.put.put ?_
        intro a43 z43 m43
        have s1_43 := m43 _ _ ((s1_42.ne rfl).ne rfl)
        have s3_43 := m43 _ _ ((s3_42.ne rfl).ne rfl)
        have s7_43 := m43 _ _ ((s7_42.ne rfl).ne rfl)
        have s8_43 := m43 _ _ ((s8_42.ne rfl).ne rfl)
        have s11_43 := m43 _ _ ((s11_42.ne rfl).ne rfl)
        have s13_43 := m43 _ _ ((s13_42.ne rfl).ne rfl)
        have s14_43 := m43 _ _ ((s14_42.ne rfl).ne rfl)
        have s52_43 := m43 _ _ (At.hit z42.put rfl)
        clear m43
        refine e_then ?_
        refine c_true s52_43 ?_
        refine wp_skip ?_
        refine e_then ?_
        refine c_seq ?_
        refine wp_block ?_
        refine region_low_tail 10 hm (by kernel_rfl) ?_
        simp only [List.take_succ_cons, List.take_zero, List.drop_succ_cons, List.drop_zero]
        refine qs (q_row rfl Try.underlying36 rfl (sz36.trans (congrArg some ((nums_size _ _).trans (cl_len (stepsX (expandR s) (differenceR ty K B) (mR c s) stepR 58 k))).symm)) s13_43.ev (fun _ h => h.blk kg13_42) ?_)
        refine qs (q_move _ _ rfl (s14_43.ne rfl).ev ?_)
        refine qs (q_move _ _ rfl ((s14_43.ne rfl).ne rfl).ev ?_)
        refine qs (q_idx (j := k + 58) rfl Try.underlying31 sz30 (((s8_43.ne rfl).ne rfl).ne rfl).ev (At.hit z43.put.put rfl).ev (by omega) ?_)
        refine qs (q_cell (.int .u32 ((expandR s).getD (k + 58) 0)) rfl Try.underlying30 (At.hit z43.put.put.put rfl).ev (fun _ h => nums_cell (h.blk kg8_42) (k + 58) (by rw [(expandR_len s)]; omega)) ?_)
        refine qs (q_move _ _ rfl (((((s14_43.ne rfl).ne rfl).ne rfl).ne rfl).ne rfl).ev ?_)
        refine qs (q_idx (j := k + 58) rfl Try.underlying31 sz30 ((((((s7_43.ne rfl).ne rfl).ne rfl).ne rfl).ne rfl).ne rfl).ev (At.hit z43.put.put.put.put.put rfl).ev (by omega) ?_)
        refine qs (q_cell (.int .u32 ((differenceR ty K B).getD (k + 58) 0)) rfl Try.underlying30 (At.hit z43.put.put.put.put.put.put rfl).ev (fun _ h => nums_cell (h.blk kg7_42) (k + 58) (by rw [(differenceR_len _ _ _)]; omega)) ?_)
        refine q_fresh z43.put.put.put.put.put.put.put.put ?_
        intro a44 z44 m44
        have s1_44 := m44 _ _ ((((((((s1_43.ne rfl).ne rfl).ne rfl).ne rfl).ne rfl).ne rfl).ne rfl).ne rfl)
        have s3_44 := m44 _ _ ((((((((s3_43.ne rfl).ne rfl).ne rfl).ne rfl).ne rfl).ne rfl).ne rfl).ne rfl)
        have s7_44 := m44 _ _ ((((((((s7_43.ne rfl).ne rfl).ne rfl).ne rfl).ne rfl).ne rfl).ne rfl).ne rfl)
        have s8_44 := m44 _ _ ((((((((s8_43.ne rfl).ne rfl).ne rfl).ne rfl).ne rfl).ne rfl).ne rfl).ne rfl)
        have s11_44 := m44 _ _ ((((((((s11_43.ne rfl).ne rfl).ne rfl).ne rfl).ne rfl).ne rfl).ne rfl).ne rfl)
        have s13_44 := m44 _ _ ((((((((s13_43.ne rfl).ne rfl).ne rfl).ne rfl).ne rfl).ne rfl).ne rfl).ne rfl)
        have s14_44 := m44 _ _ ((((((((s14_43.ne rfl).ne rfl).ne rfl).ne rfl).ne rfl).ne rfl).ne rfl).ne rfl)
        have s55_44 := m44 _ _ ((((((((At.hit z43 rfl).ne rfl).ne rfl).ne rfl).ne rfl).ne rfl).ne rfl).ne rfl)
        have s56_44 := m44 _ _ (((((((At.hit z43.put rfl).ne rfl).ne rfl).ne rfl).ne rfl).ne rfl).ne rfl)
        have s59_44 := m44 _ _ ((((At.hit z43.put.put.put.put rfl).ne rfl).ne rfl).ne rfl)
        have s62_44 := m44 _ _ (At.hit z43.put.put.put.put.put.put.put rfl)
        clear m44
        refine qs (q_xor rfl s59_44.ev s62_44.ev ?_)
        refine qs (q_call (.agg (nums .u32 (cl (stepR (stepsX (expandR s) (differenceR ty K B) (mR c s) stepR 58 k) ((k + 58 : Nat) : Int) (Go.bits .xor .u32 ((expandR s).getD (k + 58) 0) ((differenceR ty K B).getD (k + 58) 0)))))) rfl rfl Try.func31 rfl (args3 rfl (s55_44.ne rfl).ev (s56_44.ne rfl).ev (At.hit z44 rfl).ev) (fun _ h => (StepR.calls (stepsX (expandR s) (differenceR ty K B) (mR c s) stepR 58 k) ((k + 58 : Nat) : Int) (Go.bits .xor .u32 ((expandR s).getD (k + 58) 0) ((differenceR ty K B).getD (k + 58) 0)) _).mono fun _ _ ⟨e, k⟩ => ⟨e, h.trans k⟩) ?_)
        refine qz ?_
        intro w45 h45
        have kg11_45 := h45.blk kg11_42
        have kg13_45 := h45.blk kg13_42
        have kg3_45 := h45.blk kg3_42
        have kg7_45 := h45.blk kg7_42
        have kg8_45 := h45.blk kg8_42
        refine l_row rfl rfl rfl (sz36.trans (congrArg some ((nums_size _ _).trans (cl_len (stepR (stepsX (expandR s) (differenceR ty K B) (mR c s) stepR 58 k) ((k + 58 : Nat) : Int) (Go.bits .xor .u32 ((expandR s).getD (k + 58) 0) ((differenceR ty K B).getD (k + 58) 0))))).symm)) ((s13_44.ne rfl).ne rfl).ev (At.hit z44.put rfl).ev (nums_one _ _) kg13_45 (((nums_size _ _).trans (cl_len (stepsX (expandR s) (differenceR ty K B) (mR c s) stepR 58 k))).trans ((nums_size _ _).trans (cl_len (stepR (stepsX (expandR s) (differenceR ty K B) (mR c s) stepR 58 k) ((k + 58 : Nat) : Int) (Go.bits .xor .u32 ((expandR s).getD (k + 58) 0) ((differenceR ty K B).getD (k + 58) 0))))).symm) ?_
        intro w46 k46 u46
        have kg11_46 := u46.blk kg11_45 (by omega)
        have kg3_46 := u46.blk kg3_45 (by omega)
        have kg7_46 := u46.blk kg7_45 (by omega)
        have kg8_46 := u46.blk kg8_45 (by omega)
        refine l_end ?_
        refine e_fresh z44.put.put ?_
        intro a47 z47 m47
        have s1_47 := m47 _ _ ((s1_44.ne rfl).ne rfl)
        have s3_47 := m47 _ _ ((s3_44.ne rfl).ne rfl)
        have s7_47 := m47 _ _ ((s7_44.ne rfl).ne rfl)
        have s8_47 := m47 _ _ ((s8_44.ne rfl).ne rfl)
        have s11_47 := m47 _ _ ((s11_44.ne rfl).ne rfl)
        have s13_47 := m47 _ _ ((s13_44.ne rfl).ne rfl)
        have s14_47 := m47 _ _ ((s14_44.ne rfl).ne rfl)
        have low47 := ((low42.trans h45).upd u46 geg13)
        clear m47
        refine e_in ?_
        refine e_then ?_
        refine c_region ?_
        refine l_q rfl (q_move _ _ rfl s14_47.ev ?_)
        refine l_q rfl (q_add (((k + 59 : Nat) : Int)) rfl (At.hit z47 rfl).ev rfl (i64_is (by omega) (by omega) (by omega)) ?_)
        refine l_q rfl (q_assign _ _ rfl (At.hit z47.put rfl).ev ?_)
        refine l_end ?_
        refine e_fresh z47.put.put.put ?_
        intro a48 z48 m48
        have s1_48 := m48 _ _ (((s1_47.ne rfl).ne rfl).ne rfl)
        have s3_48 := m48 _ _ (((s3_47.ne rfl).ne rfl).ne rfl)
        have s7_48 := m48 _ _ (((s7_47.ne rfl).ne rfl).ne rfl)
        have s8_48 := m48 _ _ (((s8_47.ne rfl).ne rfl).ne rfl)
        have s11_48 := m48 _ _ (((s11_47.ne rfl).ne rfl).ne rfl)
        have s13_48 := m48 _ _ (((s13_47.ne rfl).ne rfl).ne rfl)
        have s14_48 := m48 _ _ (At.hit z47.put.put rfl)
        clear m48
        exact ⟨z48, s1_48, s3_48, s7_48, s8_48, s11_48, s13_48, (s14_48.same (congrArg (Value.int .i64) (by omega))), kg11_46, k46, kg3_46, kg7_46, kg8_46, low47⟩
      · intro a49 w49 h
        obtain ⟨z49, s1_49, s3_49, s7_49, s8_49, s11_49, s13_49, s14_49, kg11_49, kg13_49, kg3_49, kg7_49, kg8_49, low49⟩ := h
        clear k39 kg11_39 kg3_39 kg7_39 kg8_39 low40 s11_41 s13_41 s14_41 s1_41 s3_41 s7_41 s8_41 z41
        refine c_seq ?_
        refine c_seq ?_
        refine c_region ?_
        refine l_q rfl (q_move _ _ rfl s14_49.ev ?_)
        refine l_q rfl (q_lss false rfl (At.hit z49 rfl).ev rfl (decide_eq_false (by omega)) ?_)
        refine l_end ?_
        refine e_fresh z49.put.put ?_
        intro a50 z50 m50
        have s1_50 := m50 _ _ ((s1_49.ne rfl).ne rfl)
        have s3_50 := m50 _ _ ((s3_49.ne rfl).ne rfl)
        have s7_50 := m50 _ _ ((s7_49.ne rfl).ne rfl)
        have s8_50 := m50 _ _ ((s8_49.ne rfl).ne rfl)
        have s11_50 := m50 _ _ ((s11_49.ne rfl).ne rfl)
        have s13_50 := m50 _ _ ((s13_49.ne rfl).ne rfl)
        have s14_50 := m50 _ _ ((s14_49.ne rfl).ne rfl)
        have s52_50 := m50 _ _ (At.hit z49.put rfl)
        clear m50
        refine e_then ?_
        refine c_false s52_50 ?_
        refine wp_exit ?_
        refine x_then ?_
        refine x_then ?_
        refine in_exit ?_
        refine e_then ?_
        refine c_seq ?_
        refine c_region ?_
        refine l_q rfl (q_row rfl Try.underlying36 rfl (sz36.trans (congrArg some ((nums_size _ _).trans (cl_len c)).symm)) s3_50.ev (fun _ e => by rw [e]; exact kg3_49) ?_)
        refine l_q rfl (q_move _ _ rfl (s1_50.ne rfl).ev ?_)
        refine l_call (fun v w' => v = .agg (nums .u32 (cl (prR c s))) ∧ Low w49 w') rfl rfl rfl Try.func29 rfl (args2 rfl ((At.hit z50 rfl).ne rfl).ev (At.hit z50.put rfl).ev) ((PrR.calls c s (by first | omega | (simp only [ByteArray.size_extract]; omega)) _).mono fun _ _ ⟨e, k⟩ => ⟨_, e, rfl, k⟩) ?_
        rintro _ w51 ⟨rfl, h51⟩
        have kg11_51 := h51.blk kg11_49
        have kg13_51 := h51.blk kg13_49
        have kg3_51 := h51.blk kg3_49
        have kg7_51 := h51.blk kg7_49
        have kg8_51 := h51.blk kg8_49
        refine l_alloc rfl rfl zero36 ?_
        intro g15 w52 hg52 k52 h52
        have lt_g11_g15 := Nat.lt_of_lt_of_le (heap_lt kg11_51) hg52
        have lt_g13_g15 := Nat.lt_of_lt_of_le (heap_lt kg13_51) hg52
        have lt_g3_g15 := Nat.lt_of_lt_of_le (heap_lt kg3_51) hg52
        have lt_g7_g15 := Nat.lt_of_lt_of_le (heap_lt kg7_51) hg52
        have lt_g8_g15 := Nat.lt_of_lt_of_le (heap_lt kg8_51) hg52
        have geg15 := Nat.le_trans (low49.trans h51).ge hg52
        have kg11_52 := h52.blk kg11_51
        have kg13_52 := h52.blk kg13_51
        have kg3_52 := h52.blk kg3_51
        have kg7_52 := h52.blk kg7_51
        have kg8_52 := h52.blk kg8_51
        refine l_row rfl rfl rfl (sz36.trans (congrArg some ((nums_size _ _).trans (cl_len (prR c s))).symm)) (At.hit z50.put.put.put rfl).ev ((At.hit z50.put.put rfl).ne rfl).ev (nums_one _ _) k52 (((nums_size _ _).trans (List.length_replicate)).trans ((nums_size _ _).trans (cl_len (prR c s))).symm) ?_
        intro w53 k53 u53
        have kg11_53 := u53.blk kg11_52 (by omega)
        have kg13_53 := u53.blk kg13_52 (by omega)
        have kg3_53 := u53.blk kg3_52 (by omega)
        have kg7_53 := u53.blk kg7_52 (by omega)
        have kg8_53 := u53.blk kg8_52 (by omega)
        refine l_end ?_
        refine e_fresh z50.put.put.put.put ?_
        intro a54 z54 m54
        have s11_54 := m54 _ _ ((((s11_50.ne rfl).ne rfl).ne rfl).ne rfl)
        have s13_54 := m54 _ _ ((((s13_50.ne rfl).ne rfl).ne rfl).ne rfl)
        have s15_54 := m54 _ _ (At.hit z50.put.put.put rfl)
        have low54 := (((low49.trans h51).trans h52).upd u53 geg15)
        clear m54
        refine e_then ?_
        refine c_seq ?_
        refine c_seq ?_
        refine c_region ?_
        refine l_q rfl (q_assign _ _ rfl rfl ?_)
        refine l_end ?_
        refine e_fresh z54.put ?_
        intro a55 z55 m55
        have s11_55 := m55 _ _ (s11_54.ne rfl)
        have s13_55 := m55 _ _ (s13_54.ne rfl)
        have s15_55 := m55 _ _ (s15_54.ne rfl)
        have s16_55 := m55 _ _ (At.hit z54 rfl)
        clear m55
        refine e_then ?_
        refine wp_block ?_
        refine c_loop 5 (fun k a w => Fr 83 a ∧ At a 11 (.pointer (some ⟨g11, 0, none⟩)) ∧ At a 13 (.pointer (some ⟨g13, 0, none⟩)) ∧ At a 15 (.pointer (some ⟨g15, 0, none⟩)) ∧ At a 16 (.int .i64 ((k : Nat) : Int)) ∧ w.heap[g11]? = some (.cells (nums .u32 (cl (backX (expandR s) (differenceR ty K B) (mR c s) backR 58))) 36) ∧ w.heap[g13]? = some (.cells (nums .u32 (cl (stepsX (expandR s) (differenceR ty K B) (mR c s) stepR 58 22))) 36) ∧ w.heap[g15]? = some (.cells (nums .u32 (cl (prR c s))) 36) ∧ Low w0 w) ?_ ?_ ?_
        · exact ⟨z55, s11_55, s13_55, s15_55, s16_55, kg11_53, kg13_53, k53, low54⟩
        · intro k a56 w56 hk56 h
          obtain ⟨z56, s11_56, s13_56, s15_56, s16_56, kg11_56, kg13_56, kg15_56, low56⟩ := h
          clear k53 kg11_53 kg13_53 low54 s11_55 s13_55 s15_55 s16_55 z55
          refine c_seq ?_
          refine c_seq ?_
          refine c_region ?_
          refine l_q rfl (q_move _ _ rfl s16_56.ev ?_)
          refine l_q rfl (q_lss true rfl (At.hit z56 rfl).ev rfl (decide_eq_true (by omega)) ?_)
          refine l_end ?_
          refine e_fresh z56.put.put ?_
          intro a57 z57 m57
          have s11_57 := m57 _ _ ((s11_56.ne rfl).ne rfl)
          have s13_57 := m57 _ _ ((s13_56.ne rfl).ne rfl)
          have s15_57 := m57 _ _ ((s15_56.ne rfl).ne rfl)
          have s16_57 := m57 _ _ ((s16_56.ne rfl).ne rfl)
          have s69_57 := m57 _ _ (At.hit z56.put rfl)
          clear m57
          refine e_then ?_
          refine c_true s69_57 ?_
          refine wp_skip ?_
          refine e_then ?_
          refine c_seq ?_
          refine wp_block ?_
          refine c_seq ?_
          refine region_low hm (by kernel_rfl) ?_
          refine qs (q_move _ _ rfl s16_57.ev ?_)
          refine qs (q_idx (j := k) rfl Try.underlying36 sz30 (s11_57.ne rfl).ev (At.hit z57 rfl).ev (by omega) ?_)
          refine qs (q_cell (.int .u32 ((cl (backX (expandR s) (differenceR ty K B) (mR c s) backR 58)).getD k 0)) rfl Try.underlying30 (At.hit z57.put rfl).ev (fun _ h => nums_cell (h.blk kg11_56) k (by rw [(cl_len (backX (expandR s) (differenceR ty K B) (mR c s) backR 58))]; omega)) ?_)
          refine qs (q_move _ _ rfl (((s16_57.ne rfl).ne rfl).ne rfl).ev ?_)
          refine qs (q_idx (j := k) rfl Try.underlying36 sz30 ((((s13_57.ne rfl).ne rfl).ne rfl).ne rfl).ev (At.hit z57.put.put.put rfl).ev (by omega) ?_)
          refine qs (q_cell (.int .u32 ((cl (stepsX (expandR s) (differenceR ty K B) (mR c s) stepR 58 22)).getD k 0)) rfl Try.underlying30 (At.hit z57.put.put.put.put rfl).ev (fun _ h => nums_cell (h.blk kg13_56) k (by rw [(cl_len (stepsX (expandR s) (differenceR ty K B) (mR c s) stepR 58 22))]; omega)) ?_)
          refine qs (q_add _ rfl ((((At.hit z57.put.put rfl).ne rfl).ne rfl).ne rfl).ev (At.hit z57.put.put.put.put.put rfl).ev rfl ?_)
          refine qs (q_move _ _ rfl (((((((s16_57.ne rfl).ne rfl).ne rfl).ne rfl).ne rfl).ne rfl).ne rfl).ev ?_)
          refine q_fresh z57.put.put.put.put.put.put.put.put ?_
          intro a58 z58 m58
          have s11_58 := m58 _ _ ((((((((s11_57.ne rfl).ne rfl).ne rfl).ne rfl).ne rfl).ne rfl).ne rfl).ne rfl)
          have s13_58 := m58 _ _ ((((((((s13_57.ne rfl).ne rfl).ne rfl).ne rfl).ne rfl).ne rfl).ne rfl).ne rfl)
          have s15_58 := m58 _ _ ((((((((s15_57.ne rfl).ne rfl).ne rfl).ne rfl).ne rfl).ne rfl).ne rfl).ne rfl)
          have s16_58 := m58 _ _ ((((((((s16_57.ne rfl).ne rfl).ne rfl).ne rfl).ne rfl).ne rfl).ne rfl).ne rfl)
          have s78_58 := m58 _ _ ((At.hit z57.put.put.put.put.put.put rfl).ne rfl)
          have s79_58 := m58 _ _ (At.hit z57.put.put.put.put.put.put.put rfl)
          clear m58
          refine qs (q_idx (j := k) rfl Try.underlying36 sz30 s15_58.ev s79_58.ev (by omega) ?_)
          refine qs (q_cell (.int .u32 ((cl (prR c s)).getD k 0)) rfl Try.underlying30 (At.hit z58 rfl).ev (fun _ h => nums_cell (h.blk kg15_56) k (by rw [(cl_len (prR c s))]; omega)) ?_)
          refine qs (q_neq false rfl ((s78_58.ne rfl).ne rfl).ev (At.hit z58.put rfl).ev (decide_eq_false (not_not_intro (hall k (by omega)))) ?_)
          refine qz ?_
          intro w59 h59
          have kg11_59 := h59.blk kg11_56
          have kg13_59 := h59.blk kg13_56
          have kg15_59 := h59.blk kg15_56
          refine e_id ?_
          refine e_fresh z58.put.put.put ?_
          intro a60 z60 m60
          have s11_60 := m60 _ _ (((s11_58.ne rfl).ne rfl).ne rfl)
          have s13_60 := m60 _ _ (((s13_58.ne rfl).ne rfl).ne rfl)
          have s15_60 := m60 _ _ (((s15_58.ne rfl).ne rfl).ne rfl)
          have s16_60 := m60 _ _ (((s16_58.ne rfl).ne rfl).ne rfl)
          have s82_60 := m60 _ _ (At.hit z58.put.put rfl)
          have low60 := (low56.trans h59)
          clear m60
          refine e_then ?_
          refine c_false s82_60 ?_
          refine wp_skip ?_
          refine e_in ?_
          refine e_then ?_
          refine c_region ?_
          refine l_q rfl (q_move _ _ rfl s16_60.ev ?_)
          refine l_q rfl (q_add (((k + 1 : Nat) : Int)) rfl (At.hit z60 rfl).ev rfl (i64_is (by omega) (by omega) (by omega)) ?_)
          refine l_q rfl (q_assign _ _ rfl (At.hit z60.put rfl).ev ?_)
          refine l_end ?_
          refine e_fresh z60.put.put.put ?_
          intro a61 z61 m61
          have s11_61 := m61 _ _ (((s11_60.ne rfl).ne rfl).ne rfl)
          have s13_61 := m61 _ _ (((s13_60.ne rfl).ne rfl).ne rfl)
          have s15_61 := m61 _ _ (((s15_60.ne rfl).ne rfl).ne rfl)
          have s16_61 := m61 _ _ (At.hit z60.put.put rfl)
          clear m61
          exact ⟨z61, s11_61, s13_61, s15_61, s16_61, kg11_59, kg13_59, kg15_59, low60⟩
        · intro a62 w62 h
          obtain ⟨z62, s11_62, s13_62, s15_62, s16_62, kg11_62, kg13_62, kg15_62, low62⟩ := h
          clear k53 kg11_53 kg13_53 low54 s11_55 s13_55 s15_55 s16_55 z55
          refine c_seq ?_
          refine c_seq ?_
          refine c_region ?_
          refine l_q rfl (q_move _ _ rfl s16_62.ev ?_)
          refine l_q rfl (q_lss false rfl (At.hit z62 rfl).ev rfl (decide_eq_false (by omega)) ?_)
          refine l_end ?_
          refine e_fresh z62.put.put ?_
          intro a63 z63 m63
          have s11_63 := m63 _ _ ((s11_62.ne rfl).ne rfl)
          have s13_63 := m63 _ _ ((s13_62.ne rfl).ne rfl)
          have s15_63 := m63 _ _ ((s15_62.ne rfl).ne rfl)
          have s16_63 := m63 _ _ ((s16_62.ne rfl).ne rfl)
          have s69_63 := m63 _ _ (At.hit z62.put rfl)
          clear m63
          refine e_then ?_
          refine c_false s69_63 ?_
          refine wp_exit ?_
          refine x_then ?_
          refine x_then ?_
          refine in_exit ?_
          refine e_then ?_
          refine c_seq ?_
          refine c_region ?_
          refine l_q rfl (q_assign _ _ rfl rfl ?_)
          refine l_end ?_
          refine e_fresh z63.put ?_
          intro a64 z64 m64
          have s6_64 := m64 _ _ (At.hit z63 rfl)
          clear m64
          refine e_then ?_
          refine wp_ret ?_
          refine r_tmp rfl z64.defers s6_64 ?_
          exact ⟨by rw [markedR_all c s ty K B hd hall]; rfl, low62⟩
theorem MarkedR_fail.calls (c : Ch) (s : ByteArray) (hs : s.size ≤ 9223372036854775807) (ty K B : Int) (hd : ¬ differenceR ty K B = List.replicate 80 0) (j : Nat) (hj : j < 5) (hbad : ¬ endsR c s (differenceR ty K B) j) (hall : ∀ i, i < j → endsR c s (differenceR ty K B) i) (w0 : World) : Calls Try.prog 14 #[.agg (nums .u32 (cl c)), .string s, .agg #[.int .i64 ty, .int .i64 K, .int .i64 B]] w0 fun e w' => e = .returned (.bool (markedR c s ty K B)) ∧ Low w0 w' := by
  refine c_fun (R := _) Try.func14 rfl 83 rfl (Nat.le_of_ble_eq_true rfl) ?_
  intro a z hA
  have s0 := hA 0 _ rfl
  have s1 := hA 1 _ rfl
  have s2 := hA 2 _ rfl
  clear hA
  refine c_seq ?_
  refine c_region ?_
  refine l_box rfl rfl s0.ev ?_
  intro g3 w1 hg1 k1 h1
  have geg3 := Nat.le_trans (Low.refl _).ge hg1
  refine l_box rfl rfl (s2.ne rfl).ev ?_
  intro g5 w2 hg2 k2 h2
  have lt_g3_g5 := Nat.lt_of_lt_of_le (heap_lt k1) hg2
  have geg5 := Nat.le_trans h1.ge hg2
  have kg3_2 := h2.blk k1
  refine l_q rfl (q_assign _ _ rfl rfl ?_)
  refine l_end ?_
  refine e_fresh z.put.put.put ?_
  intro a3 z3 m3
  have s1_3 := m3 _ _ (((s1.ne rfl).ne rfl).ne rfl)
  have s3_3 := m3 _ _ (((At.hit z rfl).ne rfl).ne rfl)
  have s5_3 := m3 _ _ ((At.hit z.put rfl).ne rfl)
  have low3 := (h1.trans h2)
  clear m3
  refine e_then ?_
  refine c_seq ?_
  refine c_region ?_
  refine l_q rfl (q_row rfl Try.underlying29 rfl (sz29.trans (congrArg some rfl.symm)) s5_3.ev (fun _ e => by rw [e]; exact k2) ?_)
  refine l_call (fun v w' => v = .agg (nums .u32 (differenceR ty K B)) ∧ Low w2 w') rfl rfl rfl Try.func10 rfl (args1 rfl (At.hit z3 rfl).ev) ((DifferenceR.calls ty K B _).mono fun _ _ ⟨e, k⟩ => ⟨_, e, rfl, k⟩) ?_
  rintro _ w4 ⟨rfl, h4⟩
  have kg3_4 := h4.blk kg3_2
  have kg5_4 := h4.blk k2
  refine l_alloc rfl rfl zero31 ?_
  intro g7 w5 hg5 k5 h5
  have lt_g3_g7 := Nat.lt_of_lt_of_le (heap_lt kg3_4) hg5
  have lt_g5_g7 := Nat.lt_of_lt_of_le (heap_lt kg5_4) hg5
  have geg7 := Nat.le_trans (low3.trans h4).ge hg5
  have kg3_5 := h5.blk kg3_4
  have kg5_5 := h5.blk kg5_4
  refine l_row rfl rfl rfl (sz31.trans (congrArg some ((nums_size _ _).trans (differenceR_len _ _ _)).symm)) (At.hit z3.put.put rfl).ev ((At.hit z3.put rfl).ne rfl).ev (nums_one _ _) k5 (((nums_size _ _).trans (List.length_replicate)).trans ((nums_size _ _).trans (differenceR_len _ _ _)).symm) ?_
  intro w6 k6 u6
  have kg3_6 := u6.blk kg3_5 (by omega)
  have kg5_6 := u6.blk kg5_5 (by omega)
  refine l_end ?_
  refine e_fresh z3.put.put.put ?_
  intro a7 z7 m7
  have s1_7 := m7 _ _ (((s1_3.ne rfl).ne rfl).ne rfl)
  have s3_7 := m7 _ _ (((s3_3.ne rfl).ne rfl).ne rfl)
  have s7_7 := m7 _ _ (At.hit z3.put.put rfl)
  have low7 := (((low3.trans h4).trans h5).upd u6 geg7)
  clear m7
  refine e_then ?_
  refine c_seq ?_
  refine c_seq ?_
  refine c_region ?_
  refine l_q rfl (q_row rfl Try.underlying31 rfl (sz31.trans (congrArg some ((nums_size _ _).trans (differenceR_len _ _ _)).symm)) s7_7.ev (fun _ e => by rw [e]; exact k6) ?_)
  refine l_q rfl (q_zero rfl Try.underlying31 sz30 zero31 ?_)
  refine l_q rfl (q_eqrow false rfl Try.eqGuardType31 Try.underlying31 Try.underlying30 info30 cells30 ((At.hit z7 rfl).ne rfl).ev (At.hit z7.put rfl).ev (differenceR_len _ _ _) (List.length_replicate) (by rw [decide_eq_false hd]) ?_)
  refine l_end ?_
  refine e_fresh z7.put.put.put ?_
  intro a8 z8 m8
  have s1_8 := m8 _ _ (((s1_7.ne rfl).ne rfl).ne rfl)
  have s3_8 := m8 _ _ (((s3_7.ne rfl).ne rfl).ne rfl)
  have s7_8 := m8 _ _ (((s7_7.ne rfl).ne rfl).ne rfl)
  have s21_8 := m8 _ _ (At.hit z7.put.put rfl)
  clear m8
  refine e_then ?_
  refine c_false s21_8 ?_
  refine wp_skip ?_
  refine e_then ?_
  refine c_seq ?_
  refine c_region ?_
  refine l_q rfl (q_move _ _ rfl s1_8.ev ?_)
  refine l_call (fun v w' => v = .agg (nums .u32 (expandR s)) ∧ Low w6 w') rfl rfl rfl Try.func30 rfl (args1 rfl (At.hit z8 rfl).ev) ((ExpandR.calls s hs _).mono fun _ _ ⟨e, k⟩ => ⟨_, e, rfl, k⟩) ?_
  rintro _ w9 ⟨rfl, h9⟩
  have kg3_9 := h9.blk kg3_6
  have kg7_9 := h9.blk k6
  refine l_alloc rfl rfl zero31 ?_
  intro g8 w10 hg10 k10 h10
  have lt_g3_g8 := Nat.lt_of_lt_of_le (heap_lt kg3_9) hg10
  have lt_g7_g8 := Nat.lt_of_lt_of_le (heap_lt kg7_9) hg10
  have geg8 := Nat.le_trans (low7.trans h9).ge hg10
  have kg3_10 := h10.blk kg3_9
  have kg7_10 := h10.blk kg7_9
  refine l_row rfl rfl rfl (sz31.trans (congrArg some ((nums_size _ _).trans (expandR_len s)).symm)) (At.hit z8.put.put rfl).ev ((At.hit z8.put rfl).ne rfl).ev (nums_one _ _) k10 (((nums_size _ _).trans (List.length_replicate)).trans ((nums_size _ _).trans (expandR_len s)).symm) ?_
  intro w11 k11 u11
  have kg3_11 := u11.blk kg3_10 (by omega)
  have kg7_11 := u11.blk kg7_10 (by omega)
  refine l_end ?_
  refine e_fresh z8.put.put.put ?_
  intro a12 z12 m12
  have s1_12 := m12 _ _ (((s1_8.ne rfl).ne rfl).ne rfl)
  have s3_12 := m12 _ _ (((s3_8.ne rfl).ne rfl).ne rfl)
  have s7_12 := m12 _ _ (((s7_8.ne rfl).ne rfl).ne rfl)
  have s8_12 := m12 _ _ (At.hit z8.put.put rfl)
  have low12 := (((low7.trans h9).trans h10).upd u11 geg8)
  clear m12
  refine e_then ?_
  refine c_seq ?_
  refine c_region ?_
  refine l_q rfl (q_row rfl Try.underlying36 rfl (sz36.trans (congrArg some ((nums_size _ _).trans (cl_len c)).symm)) s3_12.ev (fun _ e => by rw [e]; exact kg3_11) ?_)
  refine l_alloc rfl rfl zero36 ?_
  intro g9 w13 hg13 k13 h13
  have lt_g3_g9 := Nat.lt_of_lt_of_le (heap_lt kg3_11) hg13
  have lt_g7_g9 := Nat.lt_of_lt_of_le (heap_lt kg7_11) hg13
  have lt_g8_g9 := Nat.lt_of_lt_of_le (heap_lt k11) hg13
  have geg9 := Nat.le_trans low12.ge hg13
  have kg3_13 := h13.blk kg3_11
  have kg7_13 := h13.blk kg7_11
  have kg8_13 := h13.blk k11
  refine l_row rfl rfl rfl (sz36.trans (congrArg some ((nums_size _ _).trans (cl_len c)).symm)) (At.hit z12.put rfl).ev ((At.hit z12 rfl).ne rfl).ev (nums_one _ _) k13 (((nums_size _ _).trans (List.length_replicate)).trans ((nums_size _ _).trans (cl_len c)).symm) ?_
  intro w14 k14 u14
  have kg3_14 := u14.blk kg3_13 (by omega)
  have kg7_14 := u14.blk kg7_13 (by omega)
  have kg8_14 := u14.blk kg8_13 (by omega)
  refine l_end ?_
  refine e_fresh z12.put.put ?_
  intro a15 z15 m15
  have s1_15 := m15 _ _ ((s1_12.ne rfl).ne rfl)
  have s3_15 := m15 _ _ ((s3_12.ne rfl).ne rfl)
  have s7_15 := m15 _ _ ((s7_12.ne rfl).ne rfl)
  have s8_15 := m15 _ _ ((s8_12.ne rfl).ne rfl)
  have s9_15 := m15 _ _ (At.hit z12.put rfl)
  have low15 := ((low12.trans h13).upd u14 geg9)
  clear m15
  refine e_then ?_
  refine c_seq ?_
  refine c_seq ?_
  refine c_region ?_
  refine l_q rfl (q_assign _ _ rfl rfl ?_)
  refine l_end ?_
  refine e_fresh z15.put ?_
  intro a16 z16 m16
  have s1_16 := m16 _ _ (s1_15.ne rfl)
  have s3_16 := m16 _ _ (s3_15.ne rfl)
  have s7_16 := m16 _ _ (s7_15.ne rfl)
  have s8_16 := m16 _ _ (s8_15.ne rfl)
  have s9_16 := m16 _ _ (s9_15.ne rfl)
  have s10_16 := m16 _ _ (At.hit z15 rfl)
  clear m16
  refine e_then ?_
  refine wp_block ?_
  refine c_loop 58 (fun k a w => Fr 83 a ∧ At a 1 (.string s) ∧ At a 3 (.pointer (some ⟨g3, 0, none⟩)) ∧ At a 7 (.pointer (some ⟨g7, 0, none⟩)) ∧ At a 8 (.pointer (some ⟨g8, 0, none⟩)) ∧ At a 9 (.pointer (some ⟨g9, 0, none⟩)) ∧ At a 10 (.int .i64 ((k : Nat) : Int)) ∧ w.heap[g3]? = some (.cells (nums .u32 (cl c)) 36) ∧ w.heap[g7]? = some (.cells (nums .u32 (differenceR ty K B)) 31) ∧ w.heap[g8]? = some (.cells (nums .u32 (expandR s)) 31) ∧ w.heap[g9]? = some (.cells (nums .u32 (cl (stepsR (expandR s) c k))) 36) ∧ Low w0 w) ?_ ?_ ?_
  · exact ⟨z16, s1_16, s3_16, s7_16, s8_16, s9_16, s10_16, kg3_14, kg7_14, kg8_14, k14, low15⟩
  · intro k a17 w17 hk17 h
    obtain ⟨z17, s1_17, s3_17, s7_17, s8_17, s9_17, s10_17, kg3_17, kg7_17, kg8_17, kg9_17, low17⟩ := h
    clear k14 kg3_14 kg7_14 kg8_14 low15 s10_16 s1_16 s3_16 s7_16 s8_16 s9_16 z16
    refine c_seq ?_
    refine c_seq ?_
    refine c_region ?_
    refine l_q rfl (q_move _ _ rfl s10_17.ev ?_)
    refine l_q rfl (q_lss true rfl (At.hit z17 rfl).ev rfl (decide_eq_true (by omega)) ?_)
    refine l_end ?_
    refine e_fresh z17.put.put ?_
    intro a18 z18 m18
    have s1_18 := m18 _ _ ((s1_17.ne rfl).ne rfl)
    have s3_18 := m18 _ _ ((s3_17.ne rfl).ne rfl)
    have s7_18 := m18 _ _ ((s7_17.ne rfl).ne rfl)
    have s8_18 := m18 _ _ ((s8_17.ne rfl).ne rfl)
    have s9_18 := m18 _ _ ((s9_17.ne rfl).ne rfl)
    have s10_18 := m18 _ _ ((s10_17.ne rfl).ne rfl)
    have s26_18 := m18 _ _ (At.hit z17.put rfl)
    clear m18
    refine e_then ?_
    refine c_true s26_18 ?_
    refine wp_skip ?_
    refine e_then ?_
    refine c_seq ?_
    refine wp_block ?_
    refine region_low_tail 6 hm (by kernel_rfl) ?_
    simp only [List.take_succ_cons, List.take_zero, List.drop_succ_cons, List.drop_zero]
    refine qs (q_row rfl Try.underlying36 rfl (sz36.trans (congrArg some ((nums_size _ _).trans (cl_len (stepsR (expandR s) c k))).symm)) s9_18.ev (fun _ h => h.blk kg9_17) ?_)
    refine qs (q_move _ _ rfl (s10_18.ne rfl).ev ?_)
    refine qs (q_move _ _ rfl ((s10_18.ne rfl).ne rfl).ev ?_)
    refine qs (q_idx (j := k) rfl Try.underlying31 sz30 (((s8_18.ne rfl).ne rfl).ne rfl).ev (At.hit z18.put.put rfl).ev (by omega) ?_)
    refine qs (q_cell (.int .u32 ((expandR s).getD k 0)) rfl Try.underlying30 (At.hit z18.put.put.put rfl).ev (fun _ h => nums_cell (h.blk kg8_17) k (by rw [(expandR_len s)]; omega)) ?_)
    refine qs (q_call (.agg (nums .u32 (cl (stepR (stepsR (expandR s) c k) ((k : Nat) : Int) ((expandR s).getD k 0))))) rfl rfl Try.func31 rfl (args3 rfl (((((At.hit z18 rfl).ne rfl).ne rfl).ne rfl).ne rfl).ev ((((At.hit z18.put rfl).ne rfl).ne rfl).ne rfl).ev (At.hit z18.put.put.put.put rfl).ev) (fun _ h => (StepR.calls (stepsR (expandR s) c k) ((k : Nat) : Int) ((expandR s).getD k 0) _).mono fun _ _ ⟨e, k⟩ => ⟨e, h.trans k⟩) ?_)
    refine qz ?_
    intro w19 h19
    have kg3_19 := h19.blk kg3_17
    have kg7_19 := h19.blk kg7_17
    have kg8_19 := h19.blk kg8_17
    have kg9_19 := h19.blk kg9_17
    refine l_row rfl rfl rfl (sz36.trans (congrArg some ((nums_size _ _).trans (cl_len (stepR (stepsR (expandR s) c k) ((k : Nat) : Int) ((expandR s).getD k 0)))).symm)) ((((((s9_18.ne rfl).ne rfl).ne rfl).ne rfl).ne rfl).ne rfl).ev (At.hit z18.put.put.put.put.put rfl).ev (nums_one _ _) kg9_19 (((nums_size _ _).trans (cl_len (stepsR (expandR s) c k))).trans ((nums_size _ _).trans (cl_len (stepR (stepsR (expandR s) c k) ((k : Nat) : Int) ((expandR s).getD k 0)))).symm) ?_
    intro w20 k20 u20
    have kg3_20 := u20.blk kg3_19 (by omega)
    have kg7_20 := u20.blk kg7_19 (by omega)
    have kg8_20 := u20.blk kg8_19 (by omega)
    refine l_end ?_
    refine e_fresh z18.put.put.put.put.put.put ?_
    intro a21 z21 m21
    have s1_21 := m21 _ _ ((((((s1_18.ne rfl).ne rfl).ne rfl).ne rfl).ne rfl).ne rfl)
    have s3_21 := m21 _ _ ((((((s3_18.ne rfl).ne rfl).ne rfl).ne rfl).ne rfl).ne rfl)
    have s7_21 := m21 _ _ ((((((s7_18.ne rfl).ne rfl).ne rfl).ne rfl).ne rfl).ne rfl)
    have s8_21 := m21 _ _ ((((((s8_18.ne rfl).ne rfl).ne rfl).ne rfl).ne rfl).ne rfl)
    have s9_21 := m21 _ _ ((((((s9_18.ne rfl).ne rfl).ne rfl).ne rfl).ne rfl).ne rfl)
    have s10_21 := m21 _ _ ((((((s10_18.ne rfl).ne rfl).ne rfl).ne rfl).ne rfl).ne rfl)
    have low21 := ((low17.trans h19).upd u20 geg9)
    clear m21
    refine e_in ?_
    refine e_then ?_
    refine c_region ?_
    refine l_q rfl (q_move _ _ rfl s10_21.ev ?_)
    refine l_q rfl (q_add (((k + 1 : Nat) : Int)) rfl (At.hit z21 rfl).ev rfl (i64_is (by omega) (by omega) (by omega)) ?_)
    refine l_q rfl (q_assign _ _ rfl (At.hit z21.put rfl).ev ?_)
    refine l_end ?_
    refine e_fresh z21.put.put.put ?_
    intro a22 z22 m22
    have s1_22 := m22 _ _ (((s1_21.ne rfl).ne rfl).ne rfl)
    have s3_22 := m22 _ _ (((s3_21.ne rfl).ne rfl).ne rfl)
    have s7_22 := m22 _ _ (((s7_21.ne rfl).ne rfl).ne rfl)
    have s8_22 := m22 _ _ (((s8_21.ne rfl).ne rfl).ne rfl)
    have s9_22 := m22 _ _ (((s9_21.ne rfl).ne rfl).ne rfl)
    have s10_22 := m22 _ _ (At.hit z21.put.put rfl)
    clear m22
    exact ⟨z22, s1_22, s3_22, s7_22, s8_22, s9_22, s10_22, kg3_20, kg7_20, kg8_20, k20, low21⟩
  · intro a23 w23 h
    obtain ⟨z23, s1_23, s3_23, s7_23, s8_23, s9_23, s10_23, kg3_23, kg7_23, kg8_23, kg9_23, low23⟩ := h
    clear k14 kg3_14 kg7_14 kg8_14 low15 s10_16 s1_16 s3_16 s7_16 s8_16 s9_16 z16
    refine c_seq ?_
    refine c_seq ?_
    refine c_region ?_
    refine l_q rfl (q_move _ _ rfl s10_23.ev ?_)
    refine l_q rfl (q_lss false rfl (At.hit z23 rfl).ev rfl (decide_eq_false (by omega)) ?_)
    refine l_end ?_
    refine e_fresh z23.put.put ?_
    intro a24 z24 m24
    have s1_24 := m24 _ _ ((s1_23.ne rfl).ne rfl)
    have s3_24 := m24 _ _ ((s3_23.ne rfl).ne rfl)
    have s7_24 := m24 _ _ ((s7_23.ne rfl).ne rfl)
    have s8_24 := m24 _ _ ((s8_23.ne rfl).ne rfl)
    have s9_24 := m24 _ _ ((s9_23.ne rfl).ne rfl)
    have s10_24 := m24 _ _ ((s10_23.ne rfl).ne rfl)
    have s26_24 := m24 _ _ (At.hit z23.put rfl)
    clear m24
    refine e_then ?_
    refine c_false s26_24 ?_
    refine wp_exit ?_
    refine x_then ?_
    refine x_then ?_
    refine in_exit ?_
    refine e_then ?_
    refine c_seq ?_
    refine c_region ?_
    refine l_q rfl (q_row rfl Try.underlying36 rfl (sz36.trans (congrArg some ((nums_size _ _).trans (cl_len (stepsR (expandR s) c 58))).symm)) s9_24.ev (fun _ e => by rw [e]; exact kg9_23) ?_)
    refine l_alloc rfl rfl zero36 ?_
    intro g11 w25 hg25 k25 h25
    have lt_g3_g11 := Nat.lt_of_lt_of_le (heap_lt kg3_23) hg25
    have lt_g7_g11 := Nat.lt_of_lt_of_le (heap_lt kg7_23) hg25
    have lt_g8_g11 := Nat.lt_of_lt_of_le (heap_lt kg8_23) hg25
    have lt_g9_g11 := Nat.lt_of_lt_of_le (heap_lt kg9_23) hg25
    have geg11 := Nat.le_trans low23.ge hg25
    have kg3_25 := h25.blk kg3_23
    have kg7_25 := h25.blk kg7_23
    have kg8_25 := h25.blk kg8_23
    have kg9_25 := h25.blk kg9_23
    refine l_row rfl rfl rfl (sz36.trans (congrArg some ((nums_size _ _).trans (cl_len (stepsR (expandR s) c 58))).symm)) (At.hit z24.put rfl).ev ((At.hit z24 rfl).ne rfl).ev (nums_one _ _) k25 (((nums_size _ _).trans (List.length_replicate)).trans ((nums_size _ _).trans (cl_len (stepsR (expandR s) c 58))).symm) ?_
    intro w26 k26 u26
    have kg3_26 := u26.blk kg3_25 (by omega)
    have kg7_26 := u26.blk kg7_25 (by omega)
    have kg8_26 := u26.blk kg8_25 (by omega)
    have kg9_26 := u26.blk kg9_25 (by omega)
    refine l_end ?_
    refine e_fresh z24.put.put ?_
    intro a27 z27 m27
    have s1_27 := m27 _ _ ((s1_24.ne rfl).ne rfl)
    have s3_27 := m27 _ _ ((s3_24.ne rfl).ne rfl)
    have s7_27 := m27 _ _ ((s7_24.ne rfl).ne rfl)
    have s8_27 := m27 _ _ ((s8_24.ne rfl).ne rfl)
    have s9_27 := m27 _ _ ((s9_24.ne rfl).ne rfl)
    have s11_27 := m27 _ _ (At.hit z24.put rfl)
    have low27 := ((low23.trans h25).upd u26 geg11)
    clear m27
    refine e_then ?_
    refine c_seq ?_
    refine c_seq ?_
    refine c_region ?_
    refine l_q rfl (q_assign _ _ rfl rfl ?_)
    refine l_end ?_
    refine e_fresh z27.put ?_
    intro a28 z28 m28
    have s1_28 := m28 _ _ (s1_27.ne rfl)
    have s3_28 := m28 _ _ (s3_27.ne rfl)
    have s7_28 := m28 _ _ (s7_27.ne rfl)
    have s8_28 := m28 _ _ (s8_27.ne rfl)
    have s9_28 := m28 _ _ (s9_27.ne rfl)
    have s11_28 := m28 _ _ (s11_27.ne rfl)
    have s12_28 := m28 _ _ (At.hit z27 rfl)
    clear m28
    refine e_then ?_
    refine wp_block ?_
    refine c_loop 58 (fun k a w => Fr 83 a ∧ At a 1 (.string s) ∧ At a 3 (.pointer (some ⟨g3, 0, none⟩)) ∧ At a 7 (.pointer (some ⟨g7, 0, none⟩)) ∧ At a 8 (.pointer (some ⟨g8, 0, none⟩)) ∧ At a 9 (.pointer (some ⟨g9, 0, none⟩)) ∧ At a 11 (.pointer (some ⟨g11, 0, none⟩)) ∧ At a 12 (.int .i64 (57 - ((k : Nat) : Int))) ∧ w.heap[g11]? = some (.cells (nums .u32 (cl (backX (expandR s) (differenceR ty K B) (mR c s) backR k))) 36) ∧ w.heap[g3]? = some (.cells (nums .u32 (cl c)) 36) ∧ w.heap[g7]? = some (.cells (nums .u32 (differenceR ty K B)) 31) ∧ w.heap[g8]? = some (.cells (nums .u32 (expandR s)) 31) ∧ w.heap[g9]? = some (.cells (nums .u32 (cl (stepsR (expandR s) c 58))) 36) ∧ Low w0 w) ?_ ?_ ?_
    · exact ⟨z28, s1_28, s3_28, s7_28, s8_28, s9_28, s11_28, (s12_28.same (congrArg (Value.int .i64) (by omega))), k26, kg3_26, kg7_26, kg8_26, kg9_26, low27⟩
    · intro k a29 w29 hk29 h
      obtain ⟨z29, s1_29, s3_29, s7_29, s8_29, s9_29, s11_29, s12_29, kg11_29, kg3_29, kg7_29, kg8_29, kg9_29, low29⟩ := h
      clear k26 kg3_26 kg7_26 kg8_26 kg9_26 low27 s11_28 s12_28 s1_28 s3_28 s7_28 s8_28 s9_28 z28
      refine c_seq ?_
      refine c_seq ?_
      refine c_region ?_
      refine l_q rfl (q_move _ _ rfl s12_29.ev ?_)
      refine l_q rfl (q_geq true rfl (At.hit z29 rfl).ev rfl (decide_eq_true (by omega)) ?_)
      refine l_end ?_
      refine e_fresh z29.put.put ?_
      intro a30 z30 m30
      have s1_30 := m30 _ _ ((s1_29.ne rfl).ne rfl)
      have s3_30 := m30 _ _ ((s3_29.ne rfl).ne rfl)
      have s7_30 := m30 _ _ ((s7_29.ne rfl).ne rfl)
      have s8_30 := m30 _ _ ((s8_29.ne rfl).ne rfl)
      have s9_30 := m30 _ _ ((s9_29.ne rfl).ne rfl)
      have s11_30 := m30 _ _ ((s11_29.ne rfl).ne rfl)
      have s12_30 := m30 _ _ ((s12_29.ne rfl).ne rfl)
      have s37_30 := m30 _ _ (At.hit z29.put rfl)
      clear m30
      refine e_then ?_
      refine c_true s37_30 ?_
      refine wp_skip ?_
      refine e_then ?_
      refine c_seq ?_
      refine wp_block ?_
      refine region_low_tail 10 hm (by kernel_rfl) ?_
      simp only [List.take_succ_cons, List.take_zero, List.drop_succ_cons, List.drop_zero]
      refine qs (q_row rfl Try.underlying36 rfl (sz36.trans (congrArg some ((nums_size _ _).trans (cl_len (backX (expandR s) (differenceR ty K B) (mR c s) backR k))).symm)) s11_30.ev (fun _ h => h.blk kg11_29) ?_)
      refine qs (q_move _ _ rfl (s12_30.ne rfl).ev ?_)
      refine qs (q_move _ _ rfl ((s12_30.ne rfl).ne rfl).ev ?_)
      refine qs (q_idx (j := 57 - k) rfl Try.underlying31 sz30 (((s8_30.ne rfl).ne rfl).ne rfl).ev ((At.hit z30.put.put rfl).same (congrArg (Value.int .i64) (show ((57 - ((k : Nat) : Int)) : Int) = ((57 - k : Nat) : Int) by omega))).ev (by omega) ?_)
      refine qs (q_cell (.int .u32 ((expandR s).getD (57 - k) 0)) rfl Try.underlying30 (At.hit z30.put.put.put rfl).ev (fun _ h => nums_cell (h.blk kg8_29) (57 - k) (by rw [(expandR_len s)]; omega)) ?_)
      refine qs (q_move _ _ rfl (((((s12_30.ne rfl).ne rfl).ne rfl).ne rfl).ne rfl).ev ?_)
      refine qs (q_idx (j := 57 - k) rfl Try.underlying31 sz30 ((((((s7_30.ne rfl).ne rfl).ne rfl).ne rfl).ne rfl).ne rfl).ev ((At.hit z30.put.put.put.put.put rfl).same (congrArg (Value.int .i64) (show ((57 - ((k : Nat) : Int)) : Int) = ((57 - k : Nat) : Int) by omega))).ev (by omega) ?_)
      refine qs (q_cell (.int .u32 ((differenceR ty K B).getD (57 - k) 0)) rfl Try.underlying30 (At.hit z30.put.put.put.put.put.put rfl).ev (fun _ h => nums_cell (h.blk kg7_29) (57 - k) (by rw [(differenceR_len _ _ _)]; omega)) ?_)
      refine q_fresh z30.put.put.put.put.put.put.put.put ?_
      intro a31 z31 m31
      have s1_31 := m31 _ _ ((((((((s1_30.ne rfl).ne rfl).ne rfl).ne rfl).ne rfl).ne rfl).ne rfl).ne rfl)
      have s3_31 := m31 _ _ ((((((((s3_30.ne rfl).ne rfl).ne rfl).ne rfl).ne rfl).ne rfl).ne rfl).ne rfl)
      have s7_31 := m31 _ _ ((((((((s7_30.ne rfl).ne rfl).ne rfl).ne rfl).ne rfl).ne rfl).ne rfl).ne rfl)
      have s8_31 := m31 _ _ ((((((((s8_30.ne rfl).ne rfl).ne rfl).ne rfl).ne rfl).ne rfl).ne rfl).ne rfl)
      have s9_31 := m31 _ _ ((((((((s9_30.ne rfl).ne rfl).ne rfl).ne rfl).ne rfl).ne rfl).ne rfl).ne rfl)
      have s11_31 := m31 _ _ ((((((((s11_30.ne rfl).ne rfl).ne rfl).ne rfl).ne rfl).ne rfl).ne rfl).ne rfl)
      have s12_31 := m31 _ _ ((((((((s12_30.ne rfl).ne rfl).ne rfl).ne rfl).ne rfl).ne rfl).ne rfl).ne rfl)
      have s40_31 := m31 _ _ ((((((((At.hit z30 rfl).ne rfl).ne rfl).ne rfl).ne rfl).ne rfl).ne rfl).ne rfl)
      have s41_31 := m31 _ _ (((((((At.hit z30.put rfl).ne rfl).ne rfl).ne rfl).ne rfl).ne rfl).ne rfl)
      have s44_31 := m31 _ _ ((((At.hit z30.put.put.put.put rfl).ne rfl).ne rfl).ne rfl)
      have s47_31 := m31 _ _ (At.hit z30.put.put.put.put.put.put.put rfl)
      clear m31
      refine qs (q_xor rfl s44_31.ev s47_31.ev ?_)
      refine qs (q_call (.agg (nums .u32 (cl (backR (backX (expandR s) (differenceR ty K B) (mR c s) backR k) (57 - ((k : Nat) : Int)) (Go.bits .xor .u32 ((expandR s).getD (57 - k) 0) ((differenceR ty K B).getD (57 - k) 0)))))) rfl rfl Try.func32 rfl (args3 rfl (s40_31.ne rfl).ev (s41_31.ne rfl).ev (At.hit z31 rfl).ev) (fun _ h => (BackR.calls (backX (expandR s) (differenceR ty K B) (mR c s) backR k) (57 - ((k : Nat) : Int)) (Go.bits .xor .u32 ((expandR s).getD (57 - k) 0) ((differenceR ty K B).getD (57 - k) 0)) _).mono fun _ _ ⟨e, k⟩ => ⟨e, h.trans k⟩) ?_)
      refine qz ?_
      intro w32 h32
      have kg11_32 := h32.blk kg11_29
      have kg3_32 := h32.blk kg3_29
      have kg7_32 := h32.blk kg7_29
      have kg8_32 := h32.blk kg8_29
      have kg9_32 := h32.blk kg9_29
      refine l_row rfl rfl rfl (sz36.trans (congrArg some ((nums_size _ _).trans (cl_len (backR (backX (expandR s) (differenceR ty K B) (mR c s) backR k) (57 - ((k : Nat) : Int)) (Go.bits .xor .u32 ((expandR s).getD (57 - k) 0) ((differenceR ty K B).getD (57 - k) 0))))).symm)) ((s11_31.ne rfl).ne rfl).ev (At.hit z31.put rfl).ev (nums_one _ _) kg11_32 (((nums_size _ _).trans (cl_len (backX (expandR s) (differenceR ty K B) (mR c s) backR k))).trans ((nums_size _ _).trans (cl_len (backR (backX (expandR s) (differenceR ty K B) (mR c s) backR k) (57 - ((k : Nat) : Int)) (Go.bits .xor .u32 ((expandR s).getD (57 - k) 0) ((differenceR ty K B).getD (57 - k) 0))))).symm) ?_
      intro w33 k33 u33
      have kg3_33 := u33.blk kg3_32 (by omega)
      have kg7_33 := u33.blk kg7_32 (by omega)
      have kg8_33 := u33.blk kg8_32 (by omega)
      have kg9_33 := u33.blk kg9_32 (by omega)
      refine l_end ?_
      refine e_fresh z31.put.put ?_
      intro a34 z34 m34
      have s1_34 := m34 _ _ ((s1_31.ne rfl).ne rfl)
      have s3_34 := m34 _ _ ((s3_31.ne rfl).ne rfl)
      have s7_34 := m34 _ _ ((s7_31.ne rfl).ne rfl)
      have s8_34 := m34 _ _ ((s8_31.ne rfl).ne rfl)
      have s9_34 := m34 _ _ ((s9_31.ne rfl).ne rfl)
      have s11_34 := m34 _ _ ((s11_31.ne rfl).ne rfl)
      have s12_34 := m34 _ _ ((s12_31.ne rfl).ne rfl)
      have low34 := ((low29.trans h32).upd u33 geg11)
      clear m34
      refine e_in ?_
      refine e_then ?_
      refine c_region ?_
      refine l_q rfl (q_move _ _ rfl s12_34.ev ?_)
      refine l_q rfl (q_sub ((56 - ((k : Nat) : Int))) rfl (At.hit z34 rfl).ev rfl (i64_is (by omega) (by omega) (by omega)) ?_)
      refine l_q rfl (q_assign _ _ rfl (At.hit z34.put rfl).ev ?_)
      refine l_end ?_
      refine e_fresh z34.put.put.put ?_
      intro a35 z35 m35
      have s1_35 := m35 _ _ (((s1_34.ne rfl).ne rfl).ne rfl)
      have s3_35 := m35 _ _ (((s3_34.ne rfl).ne rfl).ne rfl)
      have s7_35 := m35 _ _ (((s7_34.ne rfl).ne rfl).ne rfl)
      have s8_35 := m35 _ _ (((s8_34.ne rfl).ne rfl).ne rfl)
      have s9_35 := m35 _ _ (((s9_34.ne rfl).ne rfl).ne rfl)
      have s11_35 := m35 _ _ (((s11_34.ne rfl).ne rfl).ne rfl)
      have s12_35 := m35 _ _ (At.hit z34.put.put rfl)
      clear m35
      exact ⟨z35, s1_35, s3_35, s7_35, s8_35, s9_35, s11_35, (s12_35.same (congrArg (Value.int .i64) (by omega))), k33, kg3_33, kg7_33, kg8_33, kg9_33, low34⟩
    · intro a36 w36 h
      obtain ⟨z36, s1_36, s3_36, s7_36, s8_36, s9_36, s11_36, s12_36, kg11_36, kg3_36, kg7_36, kg8_36, kg9_36, low36⟩ := h
      clear k26 kg3_26 kg7_26 kg8_26 kg9_26 low27 s11_28 s12_28 s1_28 s3_28 s7_28 s8_28 s9_28 z28
      refine c_seq ?_
      refine c_seq ?_
      refine c_region ?_
      refine l_q rfl (q_move _ _ rfl s12_36.ev ?_)
      refine l_q rfl (q_geq false rfl (At.hit z36 rfl).ev rfl (decide_eq_false (by omega)) ?_)
      refine l_end ?_
      refine e_fresh z36.put.put ?_
      intro a37 z37 m37
      have s1_37 := m37 _ _ ((s1_36.ne rfl).ne rfl)
      have s3_37 := m37 _ _ ((s3_36.ne rfl).ne rfl)
      have s7_37 := m37 _ _ ((s7_36.ne rfl).ne rfl)
      have s8_37 := m37 _ _ ((s8_36.ne rfl).ne rfl)
      have s9_37 := m37 _ _ ((s9_36.ne rfl).ne rfl)
      have s11_37 := m37 _ _ ((s11_36.ne rfl).ne rfl)
      have s12_37 := m37 _ _ ((s12_36.ne rfl).ne rfl)
      have s37_37 := m37 _ _ (At.hit z36.put rfl)
      clear m37
      refine e_then ?_
      refine c_false s37_37 ?_
      refine wp_exit ?_
      refine x_then ?_
      refine x_then ?_
      refine in_exit ?_
      refine e_then ?_
      refine c_seq ?_
      refine c_region ?_
      refine l_q rfl (q_row rfl Try.underlying36 rfl (sz36.trans (congrArg some ((nums_size _ _).trans (cl_len (stepsR (expandR s) c 58))).symm)) s9_37.ev (fun _ e => by rw [e]; exact kg9_36) ?_)
      refine l_alloc rfl rfl zero36 ?_
      intro g13 w38 hg38 k38 h38
      have lt_g11_g13 := Nat.lt_of_lt_of_le (heap_lt kg11_36) hg38
      have lt_g3_g13 := Nat.lt_of_lt_of_le (heap_lt kg3_36) hg38
      have lt_g7_g13 := Nat.lt_of_lt_of_le (heap_lt kg7_36) hg38
      have lt_g8_g13 := Nat.lt_of_lt_of_le (heap_lt kg8_36) hg38
      have lt_g9_g13 := Nat.lt_of_lt_of_le (heap_lt kg9_36) hg38
      have geg13 := Nat.le_trans low36.ge hg38
      have kg11_38 := h38.blk kg11_36
      have kg3_38 := h38.blk kg3_36
      have kg7_38 := h38.blk kg7_36
      have kg8_38 := h38.blk kg8_36
      have kg9_38 := h38.blk kg9_36
      refine l_row rfl rfl rfl (sz36.trans (congrArg some ((nums_size _ _).trans (cl_len (stepsR (expandR s) c 58))).symm)) (At.hit z37.put rfl).ev ((At.hit z37 rfl).ne rfl).ev (nums_one _ _) k38 (((nums_size _ _).trans (List.length_replicate)).trans ((nums_size _ _).trans (cl_len (stepsR (expandR s) c 58))).symm) ?_
      intro w39 k39 u39
      have kg11_39 := u39.blk kg11_38 (by omega)
      have kg3_39 := u39.blk kg3_38 (by omega)
      have kg7_39 := u39.blk kg7_38 (by omega)
      have kg8_39 := u39.blk kg8_38 (by omega)
      have kg9_39 := u39.blk kg9_38 (by omega)
      refine l_end ?_
      refine e_fresh z37.put.put ?_
      intro a40 z40 m40
      have s1_40 := m40 _ _ ((s1_37.ne rfl).ne rfl)
      have s3_40 := m40 _ _ ((s3_37.ne rfl).ne rfl)
      have s7_40 := m40 _ _ ((s7_37.ne rfl).ne rfl)
      have s8_40 := m40 _ _ ((s8_37.ne rfl).ne rfl)
      have s11_40 := m40 _ _ ((s11_37.ne rfl).ne rfl)
      have s13_40 := m40 _ _ (At.hit z37.put rfl)
      have low40 := ((low36.trans h38).upd u39 geg13)
      clear m40
      refine e_then ?_
      refine c_seq ?_
      refine c_seq ?_
      refine c_region ?_
      refine l_q rfl (q_assign _ _ rfl rfl ?_)
      refine l_end ?_
      refine e_fresh z40.put ?_
      intro a41 z41 m41
      have s1_41 := m41 _ _ (s1_40.ne rfl)
      have s3_41 := m41 _ _ (s3_40.ne rfl)
      have s7_41 := m41 _ _ (s7_40.ne rfl)
      have s8_41 := m41 _ _ (s8_40.ne rfl)
      have s11_41 := m41 _ _ (s11_40.ne rfl)
      have s13_41 := m41 _ _ (s13_40.ne rfl)
      have s14_41 := m41 _ _ (At.hit z40 rfl)
      clear m41
      refine e_then ?_
      refine wp_block ?_
      refine c_loop 22 (fun k a w => Fr 83 a ∧ At a 1 (.string s) ∧ At a 3 (.pointer (some ⟨g3, 0, none⟩)) ∧ At a 7 (.pointer (some ⟨g7, 0, none⟩)) ∧ At a 8 (.pointer (some ⟨g8, 0, none⟩)) ∧ At a 11 (.pointer (some ⟨g11, 0, none⟩)) ∧ At a 13 (.pointer (some ⟨g13, 0, none⟩)) ∧ At a 14 (.int .i64 ((k + 58 : Nat) : Int)) ∧ w.heap[g11]? = some (.cells (nums .u32 (cl (backX (expandR s) (differenceR ty K B) (mR c s) backR 58))) 36) ∧ w.heap[g13]? = some (.cells (nums .u32 (cl (stepsX (expandR s) (differenceR ty K B) (mR c s) stepR 58 k))) 36) ∧ w.heap[g3]? = some (.cells (nums .u32 (cl c)) 36) ∧ w.heap[g7]? = some (.cells (nums .u32 (differenceR ty K B)) 31) ∧ w.heap[g8]? = some (.cells (nums .u32 (expandR s)) 31) ∧ Low w0 w) ?_ ?_ ?_
      · exact ⟨z41, s1_41, s3_41, s7_41, s8_41, s11_41, s13_41, (s14_41.same (congrArg (Value.int .i64) (by omega))), kg11_39, k39, kg3_39, kg7_39, kg8_39, low40⟩
      · intro k a42 w42 hk42 h
        obtain ⟨z42, s1_42, s3_42, s7_42, s8_42, s11_42, s13_42, s14_42, kg11_42, kg13_42, kg3_42, kg7_42, kg8_42, low42⟩ := h
        clear k39 kg11_39 kg3_39 kg7_39 kg8_39 low40 s11_41 s13_41 s14_41 s1_41 s3_41 s7_41 s8_41 z41
        refine c_seq ?_
        refine c_seq ?_
        refine c_region ?_
        refine l_q rfl (q_move _ _ rfl s14_42.ev ?_)
        refine l_q rfl (q_lss true rfl (At.hit z42 rfl).ev rfl (decide_eq_true (by omega)) ?_)
        refine l_end ?_
        refine e_fresh z42.put.put ?_
        intro a43 z43 m43
        have s1_43 := m43 _ _ ((s1_42.ne rfl).ne rfl)
        have s3_43 := m43 _ _ ((s3_42.ne rfl).ne rfl)
        have s7_43 := m43 _ _ ((s7_42.ne rfl).ne rfl)
        have s8_43 := m43 _ _ ((s8_42.ne rfl).ne rfl)
        have s11_43 := m43 _ _ ((s11_42.ne rfl).ne rfl)
        have s13_43 := m43 _ _ ((s13_42.ne rfl).ne rfl)
        have s14_43 := m43 _ _ ((s14_42.ne rfl).ne rfl)
        have s52_43 := m43 _ _ (At.hit z42.put rfl)
        clear m43
        refine e_then ?_
        refine c_true s52_43 ?_
        refine wp_skip ?_
        refine e_then ?_
        refine c_seq ?_
        refine wp_block ?_
        refine region_low_tail 10 hm (by kernel_rfl) ?_
        simp only [List.take_succ_cons, List.take_zero, List.drop_succ_cons, List.drop_zero]
        refine qs (q_row rfl Try.underlying36 rfl (sz36.trans (congrArg some ((nums_size _ _).trans (cl_len (stepsX (expandR s) (differenceR ty K B) (mR c s) stepR 58 k))).symm)) s13_43.ev (fun _ h => h.blk kg13_42) ?_)
        refine qs (q_move _ _ rfl (s14_43.ne rfl).ev ?_)
        refine qs (q_move _ _ rfl ((s14_43.ne rfl).ne rfl).ev ?_)
        refine qs (q_idx (j := k + 58) rfl Try.underlying31 sz30 (((s8_43.ne rfl).ne rfl).ne rfl).ev (At.hit z43.put.put rfl).ev (by omega) ?_)
        refine qs (q_cell (.int .u32 ((expandR s).getD (k + 58) 0)) rfl Try.underlying30 (At.hit z43.put.put.put rfl).ev (fun _ h => nums_cell (h.blk kg8_42) (k + 58) (by rw [(expandR_len s)]; omega)) ?_)
        refine qs (q_move _ _ rfl (((((s14_43.ne rfl).ne rfl).ne rfl).ne rfl).ne rfl).ev ?_)
        refine qs (q_idx (j := k + 58) rfl Try.underlying31 sz30 ((((((s7_43.ne rfl).ne rfl).ne rfl).ne rfl).ne rfl).ne rfl).ev (At.hit z43.put.put.put.put.put rfl).ev (by omega) ?_)
        refine qs (q_cell (.int .u32 ((differenceR ty K B).getD (k + 58) 0)) rfl Try.underlying30 (At.hit z43.put.put.put.put.put.put rfl).ev (fun _ h => nums_cell (h.blk kg7_42) (k + 58) (by rw [(differenceR_len _ _ _)]; omega)) ?_)
        refine q_fresh z43.put.put.put.put.put.put.put.put ?_
        intro a44 z44 m44
        have s1_44 := m44 _ _ ((((((((s1_43.ne rfl).ne rfl).ne rfl).ne rfl).ne rfl).ne rfl).ne rfl).ne rfl)
        have s3_44 := m44 _ _ ((((((((s3_43.ne rfl).ne rfl).ne rfl).ne rfl).ne rfl).ne rfl).ne rfl).ne rfl)
        have s7_44 := m44 _ _ ((((((((s7_43.ne rfl).ne rfl).ne rfl).ne rfl).ne rfl).ne rfl).ne rfl).ne rfl)
        have s8_44 := m44 _ _ ((((((((s8_43.ne rfl).ne rfl).ne rfl).ne rfl).ne rfl).ne rfl).ne rfl).ne rfl)
        have s11_44 := m44 _ _ ((((((((s11_43.ne rfl).ne rfl).ne rfl).ne rfl).ne rfl).ne rfl).ne rfl).ne rfl)
        have s13_44 := m44 _ _ ((((((((s13_43.ne rfl).ne rfl).ne rfl).ne rfl).ne rfl).ne rfl).ne rfl).ne rfl)
        have s14_44 := m44 _ _ ((((((((s14_43.ne rfl).ne rfl).ne rfl).ne rfl).ne rfl).ne rfl).ne rfl).ne rfl)
        have s55_44 := m44 _ _ ((((((((At.hit z43 rfl).ne rfl).ne rfl).ne rfl).ne rfl).ne rfl).ne rfl).ne rfl)
        have s56_44 := m44 _ _ (((((((At.hit z43.put rfl).ne rfl).ne rfl).ne rfl).ne rfl).ne rfl).ne rfl)
        have s59_44 := m44 _ _ ((((At.hit z43.put.put.put.put rfl).ne rfl).ne rfl).ne rfl)
        have s62_44 := m44 _ _ (At.hit z43.put.put.put.put.put.put.put rfl)
        clear m44
        refine qs (q_xor rfl s59_44.ev s62_44.ev ?_)
        refine qs (q_call (.agg (nums .u32 (cl (stepR (stepsX (expandR s) (differenceR ty K B) (mR c s) stepR 58 k) ((k + 58 : Nat) : Int) (Go.bits .xor .u32 ((expandR s).getD (k + 58) 0) ((differenceR ty K B).getD (k + 58) 0)))))) rfl rfl Try.func31 rfl (args3 rfl (s55_44.ne rfl).ev (s56_44.ne rfl).ev (At.hit z44 rfl).ev) (fun _ h => (StepR.calls (stepsX (expandR s) (differenceR ty K B) (mR c s) stepR 58 k) ((k + 58 : Nat) : Int) (Go.bits .xor .u32 ((expandR s).getD (k + 58) 0) ((differenceR ty K B).getD (k + 58) 0)) _).mono fun _ _ ⟨e, k⟩ => ⟨e, h.trans k⟩) ?_)
        refine qz ?_
        intro w45 h45
        have kg11_45 := h45.blk kg11_42
        have kg13_45 := h45.blk kg13_42
        have kg3_45 := h45.blk kg3_42
        have kg7_45 := h45.blk kg7_42
        have kg8_45 := h45.blk kg8_42
        refine l_row rfl rfl rfl (sz36.trans (congrArg some ((nums_size _ _).trans (cl_len (stepR (stepsX (expandR s) (differenceR ty K B) (mR c s) stepR 58 k) ((k + 58 : Nat) : Int) (Go.bits .xor .u32 ((expandR s).getD (k + 58) 0) ((differenceR ty K B).getD (k + 58) 0))))).symm)) ((s13_44.ne rfl).ne rfl).ev (At.hit z44.put rfl).ev (nums_one _ _) kg13_45 (((nums_size _ _).trans (cl_len (stepsX (expandR s) (differenceR ty K B) (mR c s) stepR 58 k))).trans ((nums_size _ _).trans (cl_len (stepR (stepsX (expandR s) (differenceR ty K B) (mR c s) stepR 58 k) ((k + 58 : Nat) : Int) (Go.bits .xor .u32 ((expandR s).getD (k + 58) 0) ((differenceR ty K B).getD (k + 58) 0))))).symm) ?_
        intro w46 k46 u46
        have kg11_46 := u46.blk kg11_45 (by omega)
        have kg3_46 := u46.blk kg3_45 (by omega)
        have kg7_46 := u46.blk kg7_45 (by omega)
        have kg8_46 := u46.blk kg8_45 (by omega)
        refine l_end ?_
        refine e_fresh z44.put.put ?_
        intro a47 z47 m47
        have s1_47 := m47 _ _ ((s1_44.ne rfl).ne rfl)
        have s3_47 := m47 _ _ ((s3_44.ne rfl).ne rfl)
        have s7_47 := m47 _ _ ((s7_44.ne rfl).ne rfl)
        have s8_47 := m47 _ _ ((s8_44.ne rfl).ne rfl)
        have s11_47 := m47 _ _ ((s11_44.ne rfl).ne rfl)
        have s13_47 := m47 _ _ ((s13_44.ne rfl).ne rfl)
        have s14_47 := m47 _ _ ((s14_44.ne rfl).ne rfl)
        have low47 := ((low42.trans h45).upd u46 geg13)
        clear m47
        refine e_in ?_
        refine e_then ?_
        refine c_region ?_
        refine l_q rfl (q_move _ _ rfl s14_47.ev ?_)
        refine l_q rfl (q_add (((k + 59 : Nat) : Int)) rfl (At.hit z47 rfl).ev rfl (i64_is (by omega) (by omega) (by omega)) ?_)
        refine l_q rfl (q_assign _ _ rfl (At.hit z47.put rfl).ev ?_)
        refine l_end ?_
        refine e_fresh z47.put.put.put ?_
        intro a48 z48 m48
        have s1_48 := m48 _ _ (((s1_47.ne rfl).ne rfl).ne rfl)
        have s3_48 := m48 _ _ (((s3_47.ne rfl).ne rfl).ne rfl)
        have s7_48 := m48 _ _ (((s7_47.ne rfl).ne rfl).ne rfl)
        have s8_48 := m48 _ _ (((s8_47.ne rfl).ne rfl).ne rfl)
        have s11_48 := m48 _ _ (((s11_47.ne rfl).ne rfl).ne rfl)
        have s13_48 := m48 _ _ (((s13_47.ne rfl).ne rfl).ne rfl)
        have s14_48 := m48 _ _ (At.hit z47.put.put rfl)
        clear m48
        exact ⟨z48, s1_48, s3_48, s7_48, s8_48, s11_48, s13_48, (s14_48.same (congrArg (Value.int .i64) (by omega))), kg11_46, k46, kg3_46, kg7_46, kg8_46, low47⟩
      · intro a49 w49 h
        obtain ⟨z49, s1_49, s3_49, s7_49, s8_49, s11_49, s13_49, s14_49, kg11_49, kg13_49, kg3_49, kg7_49, kg8_49, low49⟩ := h
        clear k39 kg11_39 kg3_39 kg7_39 kg8_39 low40 s11_41 s13_41 s14_41 s1_41 s3_41 s7_41 s8_41 z41
        refine c_seq ?_
        refine c_seq ?_
        refine c_region ?_
        refine l_q rfl (q_move _ _ rfl s14_49.ev ?_)
        refine l_q rfl (q_lss false rfl (At.hit z49 rfl).ev rfl (decide_eq_false (by omega)) ?_)
        refine l_end ?_
        refine e_fresh z49.put.put ?_
        intro a50 z50 m50
        have s1_50 := m50 _ _ ((s1_49.ne rfl).ne rfl)
        have s3_50 := m50 _ _ ((s3_49.ne rfl).ne rfl)
        have s7_50 := m50 _ _ ((s7_49.ne rfl).ne rfl)
        have s8_50 := m50 _ _ ((s8_49.ne rfl).ne rfl)
        have s11_50 := m50 _ _ ((s11_49.ne rfl).ne rfl)
        have s13_50 := m50 _ _ ((s13_49.ne rfl).ne rfl)
        have s14_50 := m50 _ _ ((s14_49.ne rfl).ne rfl)
        have s52_50 := m50 _ _ (At.hit z49.put rfl)
        clear m50
        refine e_then ?_
        refine c_false s52_50 ?_
        refine wp_exit ?_
        refine x_then ?_
        refine x_then ?_
        refine in_exit ?_
        refine e_then ?_
        refine c_seq ?_
        refine c_region ?_
        refine l_q rfl (q_row rfl Try.underlying36 rfl (sz36.trans (congrArg some ((nums_size _ _).trans (cl_len c)).symm)) s3_50.ev (fun _ e => by rw [e]; exact kg3_49) ?_)
        refine l_q rfl (q_move _ _ rfl (s1_50.ne rfl).ev ?_)
        refine l_call (fun v w' => v = .agg (nums .u32 (cl (prR c s))) ∧ Low w49 w') rfl rfl rfl Try.func29 rfl (args2 rfl ((At.hit z50 rfl).ne rfl).ev (At.hit z50.put rfl).ev) ((PrR.calls c s (by first | omega | (simp only [ByteArray.size_extract]; omega)) _).mono fun _ _ ⟨e, k⟩ => ⟨_, e, rfl, k⟩) ?_
        rintro _ w51 ⟨rfl, h51⟩
        have kg11_51 := h51.blk kg11_49
        have kg13_51 := h51.blk kg13_49
        have kg3_51 := h51.blk kg3_49
        have kg7_51 := h51.blk kg7_49
        have kg8_51 := h51.blk kg8_49
        refine l_alloc rfl rfl zero36 ?_
        intro g15 w52 hg52 k52 h52
        have lt_g11_g15 := Nat.lt_of_lt_of_le (heap_lt kg11_51) hg52
        have lt_g13_g15 := Nat.lt_of_lt_of_le (heap_lt kg13_51) hg52
        have lt_g3_g15 := Nat.lt_of_lt_of_le (heap_lt kg3_51) hg52
        have lt_g7_g15 := Nat.lt_of_lt_of_le (heap_lt kg7_51) hg52
        have lt_g8_g15 := Nat.lt_of_lt_of_le (heap_lt kg8_51) hg52
        have geg15 := Nat.le_trans (low49.trans h51).ge hg52
        have kg11_52 := h52.blk kg11_51
        have kg13_52 := h52.blk kg13_51
        have kg3_52 := h52.blk kg3_51
        have kg7_52 := h52.blk kg7_51
        have kg8_52 := h52.blk kg8_51
        refine l_row rfl rfl rfl (sz36.trans (congrArg some ((nums_size _ _).trans (cl_len (prR c s))).symm)) (At.hit z50.put.put.put rfl).ev ((At.hit z50.put.put rfl).ne rfl).ev (nums_one _ _) k52 (((nums_size _ _).trans (List.length_replicate)).trans ((nums_size _ _).trans (cl_len (prR c s))).symm) ?_
        intro w53 k53 u53
        have kg11_53 := u53.blk kg11_52 (by omega)
        have kg13_53 := u53.blk kg13_52 (by omega)
        have kg3_53 := u53.blk kg3_52 (by omega)
        have kg7_53 := u53.blk kg7_52 (by omega)
        have kg8_53 := u53.blk kg8_52 (by omega)
        refine l_end ?_
        refine e_fresh z50.put.put.put.put ?_
        intro a54 z54 m54
        have s11_54 := m54 _ _ ((((s11_50.ne rfl).ne rfl).ne rfl).ne rfl)
        have s13_54 := m54 _ _ ((((s13_50.ne rfl).ne rfl).ne rfl).ne rfl)
        have s15_54 := m54 _ _ (At.hit z50.put.put.put rfl)
        have low54 := (((low49.trans h51).trans h52).upd u53 geg15)
        clear m54
        refine e_then ?_
        refine c_seq ?_
        refine c_seq ?_
        refine c_region ?_
        refine l_q rfl (q_assign _ _ rfl rfl ?_)
        refine l_end ?_
        refine e_fresh z54.put ?_
        intro a55 z55 m55
        have s11_55 := m55 _ _ (s11_54.ne rfl)
        have s13_55 := m55 _ _ (s13_54.ne rfl)
        have s15_55 := m55 _ _ (s15_54.ne rfl)
        have s16_55 := m55 _ _ (At.hit z54 rfl)
        clear m55
        refine e_then ?_
        refine wp_block ?_
        refine c_loop j (fun k a w => Fr 83 a ∧ At a 11 (.pointer (some ⟨g11, 0, none⟩)) ∧ At a 13 (.pointer (some ⟨g13, 0, none⟩)) ∧ At a 15 (.pointer (some ⟨g15, 0, none⟩)) ∧ At a 16 (.int .i64 ((k : Nat) : Int)) ∧ w.heap[g11]? = some (.cells (nums .u32 (cl (backX (expandR s) (differenceR ty K B) (mR c s) backR 58))) 36) ∧ w.heap[g13]? = some (.cells (nums .u32 (cl (stepsX (expandR s) (differenceR ty K B) (mR c s) stepR 58 22))) 36) ∧ w.heap[g15]? = some (.cells (nums .u32 (cl (prR c s))) 36) ∧ Low w0 w) ?_ ?_ ?_
        · exact ⟨z55, s11_55, s13_55, s15_55, s16_55, kg11_53, kg13_53, k53, low54⟩
        · intro k a56 w56 hk56 h
          obtain ⟨z56, s11_56, s13_56, s15_56, s16_56, kg11_56, kg13_56, kg15_56, low56⟩ := h
          clear k53 kg11_53 kg13_53 low54 s11_55 s13_55 s15_55 s16_55 z55
          refine c_seq ?_
          refine c_seq ?_
          refine c_region ?_
          refine l_q rfl (q_move _ _ rfl s16_56.ev ?_)
          refine l_q rfl (q_lss true rfl (At.hit z56 rfl).ev rfl (decide_eq_true (by omega)) ?_)
          refine l_end ?_
          refine e_fresh z56.put.put ?_
          intro a57 z57 m57
          have s11_57 := m57 _ _ ((s11_56.ne rfl).ne rfl)
          have s13_57 := m57 _ _ ((s13_56.ne rfl).ne rfl)
          have s15_57 := m57 _ _ ((s15_56.ne rfl).ne rfl)
          have s16_57 := m57 _ _ ((s16_56.ne rfl).ne rfl)
          have s69_57 := m57 _ _ (At.hit z56.put rfl)
          clear m57
          refine e_then ?_
          refine c_true s69_57 ?_
          refine wp_skip ?_
          refine e_then ?_
          refine c_seq ?_
          refine wp_block ?_
          refine c_seq ?_
          refine region_low hm (by kernel_rfl) ?_
          refine qs (q_move _ _ rfl s16_57.ev ?_)
          refine qs (q_idx (j := k) rfl Try.underlying36 sz30 (s11_57.ne rfl).ev (At.hit z57 rfl).ev (by omega) ?_)
          refine qs (q_cell (.int .u32 ((cl (backX (expandR s) (differenceR ty K B) (mR c s) backR 58)).getD k 0)) rfl Try.underlying30 (At.hit z57.put rfl).ev (fun _ h => nums_cell (h.blk kg11_56) k (by rw [(cl_len (backX (expandR s) (differenceR ty K B) (mR c s) backR 58))]; omega)) ?_)
          refine qs (q_move _ _ rfl (((s16_57.ne rfl).ne rfl).ne rfl).ev ?_)
          refine qs (q_idx (j := k) rfl Try.underlying36 sz30 ((((s13_57.ne rfl).ne rfl).ne rfl).ne rfl).ev (At.hit z57.put.put.put rfl).ev (by omega) ?_)
          refine qs (q_cell (.int .u32 ((cl (stepsX (expandR s) (differenceR ty K B) (mR c s) stepR 58 22)).getD k 0)) rfl Try.underlying30 (At.hit z57.put.put.put.put rfl).ev (fun _ h => nums_cell (h.blk kg13_56) k (by rw [(cl_len (stepsX (expandR s) (differenceR ty K B) (mR c s) stepR 58 22))]; omega)) ?_)
          refine qs (q_add _ rfl ((((At.hit z57.put.put rfl).ne rfl).ne rfl).ne rfl).ev (At.hit z57.put.put.put.put.put rfl).ev rfl ?_)
          refine qs (q_move _ _ rfl (((((((s16_57.ne rfl).ne rfl).ne rfl).ne rfl).ne rfl).ne rfl).ne rfl).ev ?_)
          refine q_fresh z57.put.put.put.put.put.put.put.put ?_
          intro a58 z58 m58
          have s11_58 := m58 _ _ ((((((((s11_57.ne rfl).ne rfl).ne rfl).ne rfl).ne rfl).ne rfl).ne rfl).ne rfl)
          have s13_58 := m58 _ _ ((((((((s13_57.ne rfl).ne rfl).ne rfl).ne rfl).ne rfl).ne rfl).ne rfl).ne rfl)
          have s15_58 := m58 _ _ ((((((((s15_57.ne rfl).ne rfl).ne rfl).ne rfl).ne rfl).ne rfl).ne rfl).ne rfl)
          have s16_58 := m58 _ _ ((((((((s16_57.ne rfl).ne rfl).ne rfl).ne rfl).ne rfl).ne rfl).ne rfl).ne rfl)
          have s78_58 := m58 _ _ ((At.hit z57.put.put.put.put.put.put rfl).ne rfl)
          have s79_58 := m58 _ _ (At.hit z57.put.put.put.put.put.put.put rfl)
          clear m58
          refine qs (q_idx (j := k) rfl Try.underlying36 sz30 s15_58.ev s79_58.ev (by omega) ?_)
          refine qs (q_cell (.int .u32 ((cl (prR c s)).getD k 0)) rfl Try.underlying30 (At.hit z58 rfl).ev (fun _ h => nums_cell (h.blk kg15_56) k (by rw [(cl_len (prR c s))]; omega)) ?_)
          refine qs (q_neq false rfl ((s78_58.ne rfl).ne rfl).ev (At.hit z58.put rfl).ev (decide_eq_false (not_not_intro (hall k (by omega)))) ?_)
          refine qz ?_
          intro w59 h59
          have kg11_59 := h59.blk kg11_56
          have kg13_59 := h59.blk kg13_56
          have kg15_59 := h59.blk kg15_56
          refine e_id ?_
          refine e_fresh z58.put.put.put ?_
          intro a60 z60 m60
          have s11_60 := m60 _ _ (((s11_58.ne rfl).ne rfl).ne rfl)
          have s13_60 := m60 _ _ (((s13_58.ne rfl).ne rfl).ne rfl)
          have s15_60 := m60 _ _ (((s15_58.ne rfl).ne rfl).ne rfl)
          have s16_60 := m60 _ _ (((s16_58.ne rfl).ne rfl).ne rfl)
          have s82_60 := m60 _ _ (At.hit z58.put.put rfl)
          have low60 := (low56.trans h59)
          clear m60
          refine e_then ?_
          refine c_false s82_60 ?_
          refine wp_skip ?_
          refine e_in ?_
          refine e_then ?_
          refine c_region ?_
          refine l_q rfl (q_move _ _ rfl s16_60.ev ?_)
          refine l_q rfl (q_add (((k + 1 : Nat) : Int)) rfl (At.hit z60 rfl).ev rfl (i64_is (by omega) (by omega) (by omega)) ?_)
          refine l_q rfl (q_assign _ _ rfl (At.hit z60.put rfl).ev ?_)
          refine l_end ?_
          refine e_fresh z60.put.put.put ?_
          intro a61 z61 m61
          have s11_61 := m61 _ _ (((s11_60.ne rfl).ne rfl).ne rfl)
          have s13_61 := m61 _ _ (((s13_60.ne rfl).ne rfl).ne rfl)
          have s15_61 := m61 _ _ (((s15_60.ne rfl).ne rfl).ne rfl)
          have s16_61 := m61 _ _ (At.hit z60.put.put rfl)
          clear m61
          exact ⟨z61, s11_61, s13_61, s15_61, s16_61, kg11_59, kg13_59, kg15_59, low60⟩
        · intro a62 w62 h
          obtain ⟨z62, s11_62, s13_62, s15_62, s16_62, kg11_62, kg13_62, kg15_62, low62⟩ := h
          clear k53 kg11_53 kg13_53 low54 s11_55 s13_55 s15_55 s16_55 z55
          refine c_seq ?_
          refine c_seq ?_
          refine c_region ?_
          refine l_q rfl (q_move _ _ rfl s16_62.ev ?_)
          refine l_q rfl (q_lss true rfl (At.hit z62 rfl).ev rfl (decide_eq_true (by omega)) ?_)
          refine l_end ?_
          refine e_fresh z62.put.put ?_
          intro a63 z63 m63
          have s11_63 := m63 _ _ ((s11_62.ne rfl).ne rfl)
          have s13_63 := m63 _ _ ((s13_62.ne rfl).ne rfl)
          have s15_63 := m63 _ _ ((s15_62.ne rfl).ne rfl)
          have s16_63 := m63 _ _ ((s16_62.ne rfl).ne rfl)
          have s69_63 := m63 _ _ (At.hit z62.put rfl)
          clear m63
          refine e_then ?_
          refine c_true s69_63 ?_
          refine wp_skip ?_
          refine e_then ?_
          refine c_seq ?_
          refine wp_block ?_
          refine c_seq ?_
          refine region_low hm (by kernel_rfl) ?_
          refine qs (q_move _ _ rfl s16_63.ev ?_)
          refine qs (q_idx (j := j) rfl Try.underlying36 sz30 (s11_63.ne rfl).ev (At.hit z63 rfl).ev (by omega) ?_)
          refine qs (q_cell (.int .u32 ((cl (backX (expandR s) (differenceR ty K B) (mR c s) backR 58)).getD j 0)) rfl Try.underlying30 (At.hit z63.put rfl).ev (fun _ h => nums_cell (h.blk kg11_62) j (by rw [(cl_len (backX (expandR s) (differenceR ty K B) (mR c s) backR 58))]; omega)) ?_)
          refine qs (q_move _ _ rfl (((s16_63.ne rfl).ne rfl).ne rfl).ev ?_)
          refine qs (q_idx (j := j) rfl Try.underlying36 sz30 ((((s13_63.ne rfl).ne rfl).ne rfl).ne rfl).ev (At.hit z63.put.put.put rfl).ev (by omega) ?_)
          refine qs (q_cell (.int .u32 ((cl (stepsX (expandR s) (differenceR ty K B) (mR c s) stepR 58 22)).getD j 0)) rfl Try.underlying30 (At.hit z63.put.put.put.put rfl).ev (fun _ h => nums_cell (h.blk kg13_62) j (by rw [(cl_len (stepsX (expandR s) (differenceR ty K B) (mR c s) stepR 58 22))]; omega)) ?_)
          refine qs (q_add _ rfl ((((At.hit z63.put.put rfl).ne rfl).ne rfl).ne rfl).ev (At.hit z63.put.put.put.put.put rfl).ev rfl ?_)
          refine qs (q_move _ _ rfl (((((((s16_63.ne rfl).ne rfl).ne rfl).ne rfl).ne rfl).ne rfl).ne rfl).ev ?_)
          refine q_fresh z63.put.put.put.put.put.put.put.put ?_
          intro a64 z64 m64
          have s15_64 := m64 _ _ ((((((((s15_63.ne rfl).ne rfl).ne rfl).ne rfl).ne rfl).ne rfl).ne rfl).ne rfl)
          have s16_64 := m64 _ _ ((((((((s16_63.ne rfl).ne rfl).ne rfl).ne rfl).ne rfl).ne rfl).ne rfl).ne rfl)
          have s78_64 := m64 _ _ ((At.hit z63.put.put.put.put.put.put rfl).ne rfl)
          have s79_64 := m64 _ _ (At.hit z63.put.put.put.put.put.put.put rfl)
          clear m64
          refine qs (q_idx (j := j) rfl Try.underlying36 sz30 s15_64.ev s79_64.ev (by omega) ?_)
          refine qs (q_cell (.int .u32 ((cl (prR c s)).getD j 0)) rfl Try.underlying30 (At.hit z64 rfl).ev (fun _ h => nums_cell (h.blk kg15_62) j (by rw [(cl_len (prR c s))]; omega)) ?_)
          refine qs (q_neq true rfl ((s78_64.ne rfl).ne rfl).ev (At.hit z64.put rfl).ev (decide_eq_true hbad) ?_)
          refine qz ?_
          intro w65 h65
          have kg11_65 := h65.blk kg11_62
          have kg13_65 := h65.blk kg13_62
          have kg15_65 := h65.blk kg15_62
          refine e_id ?_
          refine e_fresh z64.put.put.put ?_
          intro a66 z66 m66
          have s16_66 := m66 _ _ (((s16_64.ne rfl).ne rfl).ne rfl)
          have s82_66 := m66 _ _ (At.hit z64.put.put rfl)
          have low66 := (low62.trans h65)
          clear m66
          refine e_then ?_
          refine c_true s82_66 ?_
          refine c_seq ?_
          refine c_region ?_
          refine l_q rfl (q_assign _ _ rfl rfl ?_)
          refine l_end ?_
          refine e_fresh z66.put ?_
          intro a67 z67 m67
          have s6_67 := m67 _ _ (At.hit z66 rfl)
          clear m67
          refine e_then ?_
          refine wp_ret ?_
          refine ret_in ?_
          refine ret_then ?_
          refine ret_then ?_
          refine ret_in ?_
          refine ret_then ?_
          refine r_tmp rfl z67.defers s6_67 ?_
          exact ⟨by rw [markedR_fail c s ty K B j hj hbad]; rfl, low66⟩
theorem MarkedR.calls (c : Ch) (s : ByteArray) (hs : s.size ≤ 9223372036854775807) (ty K B : Int) (w0 : World) : Calls Try.prog 14 #[.agg (nums .u32 (cl c)), .string s, .agg #[.int .i64 ty, .int .i64 K, .int .i64 B]] w0 fun e w' => e = .returned (.bool (markedR c s ty K B)) ∧ Low w0 w' := by
  by_cases hd : differenceR ty K B = List.replicate 80 0
  · exact MarkedR_no.calls c s hs ty K B hd w0
  · rcases least_not (endsR c s (differenceR ty K B)) 5 with h | ⟨j, h1, h2, h3⟩
    · exact MarkedR_all.calls c s hs ty K B hd h w0
    · exact MarkedR_fail.calls c s hs ty K B hd j h1 h2 h3 w0
end Go.Proofs.Ytffhmlnklohbdaa.Q
end
/-! S0 -/
section
namespace Go.Proofs.Ytffhmlnklohbdaa.Q
open Go.RowKit Go.Proofs.Ytffhmlnklohbdaa.P
open Go.Proofs.YtffhmlnklohbdaaW.PrintWords (bytesOf bytesOf_length)
set_option maxRecDepth 100000
set_option maxHeartbeats 4000000
/-- a State's cells -/
def stC (c : Ch) (v : Value) (n : Int) : Array Value := #[.int .u32 c.1, .int .u32 c.2.1, .int .u32 c.2.2.1, .int .u32 c.2.2.2.1, .int .u32 c.2.2.2.2, v, .int .u64 n]
/-- a block of a list of bytes, and the chain behind the first k of them -/
def blk (L : List Int) (k : Nat) : ByteArray := strOfNums ((L.drop (64 * k)).take 64)
def chB (c : Ch) (L : List Int) : Nat → Ch
  | 0 => c
  | k + 1 => prL (chB c L k) (blk L k)
theorem drop_next (L : List Int) (k : Nat) : (L.drop (64 * k)).drop 64 = L.drop (64 * (k + 1)) := by
  rw [List.drop_drop]
  congr 1
theorem dropL_len {l : List Int} {x : ByteArray} {m : Nat} (hm : l.length = m) (k : Nat) : ((l ++ bytesOf x).drop (64 * k)).length = m + x.size - 64 * k := by
  rw [List.length_drop, List.length_append, bytesOf_length, hm]
theorem blk_size (L : List Int) (k : Nat) : (blk L k).size ≤ 64 := by
  rw [blk, strOfNums_size, List.length_take]
  omega
theorem made_128 : madeCells #[.int .u8 0] 128 = nums .u8 (List.replicate 128 0) := by kernel_rfl
theorem str9 : strE Try.prog 9 = true := by kernel_rfl
theorem built_new (c : Ch) : Try.prog.built 85 [(0, .agg (nums .u32 (cl c)))] = some (stC c (.slice none 0 0) 0) := by kernel_rfl
theorem built_copy (c : Ch) (A : Option Addr) (l cap : Nat) (n : Int) : Try.prog.built 85 [(0, .agg (nums .u32 (cl c))), (1, .slice A l cap), (2, .int .u64 n)] = some (stC c (.slice A l cap) n) := by kernel_rfl
end Go.Proofs.Ytffhmlnklohbdaa.Q
end
/-! S1 -/
section
namespace Go.Proofs.Ytffhmlnklohbdaa.Q
open Go.Proofs.YtffhmlnklohbdaaW.PrintWords (bytesOf bytesOf_length)
open Go.RowKit Go.Proofs.Ytffhmlnklohbdaa.P
set_option linter.unusedVariables false
set_option linter.unusedSimpArgs false
set_option maxRecDepth 100000
set_option maxHeartbeats 4000000
attribute [local irreducible] wpList wpQuiet qch Code.wp Oper.quiet Act.put At Region.wanted yielded
theorem sz9 : (Try.prog.info? 9).map (·.size) = some 1 := by kernel_rfl
theorem sz63 : (Try.prog.info? 63).map (·.size) = some 1 := by kernel_rfl
theorem sz64 : (Try.prog.info? 64).map (·.size) = some 1 := by kernel_rfl
theorem sz5 : (Try.prog.info? 5).map (·.size) = some 1 := by kernel_rfl
theorem New.calls (w0 : World) : Calls Try.prog 36 #[] w0 fun e w' => ∃ v, e = .returned v ∧ ∃ g, v = .pointer (some ⟨g, 0, none⟩) ∧ w0.heap.size ≤ g ∧ w'.heap[g]? = some (.cells (stC first (.slice none 0 0) 0) 85) ∧ Low w0 w' := by
  refine c_fun (R := _) Try.func36 rfl 4 rfl (Nat.le_of_ble_eq_true rfl) ?_
  intro a z hA
  clear hA
  refine c_seq ?_
  refine c_region ?_
  refine l_q rfl (q_assign _ _ rfl rfl ?_)
  refine l_end ?_
  refine e_fresh z.put ?_
  intro a1 z1 m1
  clear m1
  refine e_then ?_
  refine c_seq ?_
  refine c_region ?_
  refine l_call (fun v w' => v = .agg (nums .u32 (cl first)) ∧ Low w0 w') rfl rfl rfl Try.func23 rfl (show Array.map _ _ = (#[] : Array Value) from by simp) ((FirstL.calls _).mono fun _ _ ⟨e, k⟩ => ⟨_, e, rfl, k⟩) ?_
  rintro _ w2 ⟨rfl, h2⟩
  refine l_q rfl (q_build rfl (parts1 (At.hit z1 rfl).ev) (built_new first) ?_)
  refine l_box rfl rfl (At.hit z1.put rfl).ev ?_
  intro g3 w3 hg3 k3 h3
  have geg3 := Nat.le_trans h2.ge hg3
  refine l_q rfl (q_assign _ _ rfl (At.hit z1.put.put rfl).ev ?_)
  refine l_end ?_
  refine e_fresh z1.put.put.put.put ?_
  intro a4 z4 m4
  have s0_4 := m4 _ _ (At.hit z1.put.put.put rfl)
  have low4 := (h2.trans h3)
  clear m4
  refine e_then ?_
  refine wp_ret ?_
  refine r_tmp rfl z4.defers s0_4 ?_
  exact ⟨_, rfl, _, rfl, geg3, k3, low4⟩
theorem Write.calls (c : Ch) (v : Value) (l : List Int) (m : Nat) (hlm : l.length = m) (hm6 : m < 64) (n : Int) (x : ByteArray) (hx : x.size ≤ 140737488350000) (gs gp : Nat) (hne : gp ≠ gs) (w0 wi : World) (low : Low w0 wi) (hge : w0.heap.size ≤ gs) (ks : wi.heap[gs]? = some (.cells (stC c v n) 85)) (kp : wi.heap[gp]? = some (.cells #[.string x] 9)) (own : OwnB wi w0.heap.size 5 v l) : Calls Try.prog 37 #[.pointer (some ⟨gs, 0, none⟩), .slice (some ⟨gp, 0, none⟩) 1 1] wi fun e w' => ∃ v', e = .returned v' ∧ ∃ u, w'.heap[gs]? = some (.cells (stC (chB c (l ++ bytesOf x) ((m + x.size) / 64)) u (IntKind.u64.wrap (n + IntKind.u64.wrap ((x.size : Nat) : Int)))) 85) ∧ RdE w' 5 u ((l ++ bytesOf x).drop (64 * ((m + x.size) / 64))) ∧ Low w0 w' := by
  refine c_fun (R := _) Try.func37 rfl 60 rfl (Nat.le_of_ble_eq_true rfl) ?_
  intro a z hA
  have s0 := hA 0 _ rfl
  have s1 := hA 1 _ rfl
  clear hA
  refine c_seq ?_
  refine c_region ?_
  refine l_q rfl (q_move _ _ rfl s1.ev ?_)
  refine l_q rfl (q_lenL rfl rfl Try.underlying67 (At.hit z rfl).ev ?_)
  refine l_q rfl (q_move _ _ rfl rfl ?_)
  refine l_end ?_
  refine e_fresh z.put.put.put ?_
  intro a1 z1 m1
  have s0_1 := m1 _ _ (((s0.ne rfl).ne rfl).ne rfl)
  have s6_1 := m1 _ _ (((At.hit z rfl).ne rfl).ne rfl)
  have s7_1 := m1 _ _ ((At.hit z.put rfl).ne rfl)
  have s8_1 := m1 _ _ (At.hit z.put.put rfl)
  have low1 := low
  clear m1
  refine e_then ?_
  refine wp_block ?_
  refine c_loop 1 (fun k a w => match k with | 0 => a = a1 ∧ w = wi | _ + 1 => ∃ vgs : Value, Fr 60 a ∧ At a 0 (.pointer (some ⟨gs, 0, none⟩)) ∧ At a 6 (.slice (some ⟨gp, 0, none⟩) 1 1) ∧ At a 7 (.int .i64 1) ∧ At a 8 (.int .i64 1) ∧ w.heap[gp]? = some (.cells (#[.string x]) 9) ∧ w.heap[gs]? = some (.cells (stC (chB c (l ++ bytesOf x) ((m + x.size) / 64)) vgs (IntKind.u64.wrap (n + IntKind.u64.wrap ((x.size : Nat) : Int)))) 85) ∧ RdE w 5 vgs ((l ++ bytesOf x).drop (64 * ((m + x.size) / 64))) ∧ Low w0 w) ?_ ?_ ?_
  · exact ⟨rfl, rfl⟩
  · intro k a w hk h
    obtain rfl : k = 0 := by omega
    obtain ⟨ha, hw⟩ := h
    rw [ha, hw]
    clear ha hw a w hk
    refine c_seq ?_
    refine c_region ?_
    refine l_q rfl (q_lss true rfl s8_1.ev s7_1.ev (decide_eq_true (by omega)) ?_)
    refine l_end ?_
    refine e_fresh z1.put ?_
    intro a3 z3 m3
    have s0_3 := m3 _ _ (s0_1.ne rfl)
    have s6_3 := m3 _ _ (s6_1.ne rfl)
    have s7_3 := m3 _ _ (s7_1.ne rfl)
    have s8_3 := m3 _ _ (s8_1.ne rfl)
    have s9_3 := m3 _ _ (At.hit z1 rfl)
    clear m3
    refine e_then ?_
    refine c_seq ?_
    refine c_true s9_3 ?_
    refine wp_skip ?_
    refine e_then ?_
    refine c_seq ?_
    refine wp_block ?_
    refine c_seq ?_
    refine c_region ?_
    refine l_q rfl (q_idxS0 (j := 0) rfl Try.underlying67 sz9 s6_3.ev s8_3.ev (by omega) ?_)
    refine l_q rfl (q_cellT (.string x) rfl Try.underlying9 (At.hit z3 rfl).ev (fun _ e => by rw [e]; exact (cells_at kp 0).trans rfl) ?_)
    refine l_q rfl (q_assign _ _ rfl (At.hit z3.put rfl).ev ?_)
    refine l_end ?_
    refine e_fresh z3.put.put.put ?_
    intro a4 z4 m4
    have s0_4 := m4 _ _ (((s0_3.ne rfl).ne rfl).ne rfl)
    have s5_4 := m4 _ _ (At.hit z3.put.put rfl)
    have s6_4 := m4 _ _ (((s6_3.ne rfl).ne rfl).ne rfl)
    have s7_4 := m4 _ _ (((s7_3.ne rfl).ne rfl).ne rfl)
    have s8_4 := m4 _ _ (((s8_3.ne rfl).ne rfl).ne rfl)
    clear m4
    refine e_then ?_
    refine c_seq ?_
    refine c_region ?_
    refine l_q rfl (q_move _ _ rfl s0_4.ev ?_)
    refine l_q rfl (q_nil rfl (At.hit z4 rfl).ev ?_)
    refine l_q rfl (q_fld 6 rfl (by kernel_rfl) (At.hit z4.put rfl).ev ?_)
    refine l_q rfl (q_cell (.int .u64 n) rfl Try.underlying64 (At.hit z4.put.put rfl).ev (fun _ e => by rw [e]; exact (cells_at ks 6).trans rfl) ?_)
    refine l_q rfl (q_move _ _ rfl ((((s5_4.ne rfl).ne rfl).ne rfl).ne rfl).ev ?_)
    refine l_q rfl (q_len rfl rfl Try.underlying9 (At.hit z4.put.put.put.put rfl).ev ?_)
    refine l_q rfl (q_conv _ rfl (At.hit z4.put.put.put.put.put rfl).ev Try.underlying3 Try.underlying64 rfl ?_)
    refine l_q rfl (q_add _ rfl ((((At.hit z4.put.put.put rfl).ne rfl).ne rfl).ne rfl).ev (At.hit z4.put.put.put.put.put.put rfl).ev rfl ?_)
    refine l_fresh z4.put.put.put.put.put.put.put.put ?_
    intro a5 z5 m5
    have s0_5 := m5 _ _ ((((((((s0_4.ne rfl).ne rfl).ne rfl).ne rfl).ne rfl).ne rfl).ne rfl).ne rfl)
    have s5_5 := m5 _ _ ((((((((s5_4.ne rfl).ne rfl).ne rfl).ne rfl).ne rfl).ne rfl).ne rfl).ne rfl)
    have s6_5 := m5 _ _ ((((((((s6_4.ne rfl).ne rfl).ne rfl).ne rfl).ne rfl).ne rfl).ne rfl).ne rfl)
    have s7_5 := m5 _ _ ((((((((s7_4.ne rfl).ne rfl).ne rfl).ne rfl).ne rfl).ne rfl).ne rfl).ne rfl)
    have s8_5 := m5 _ _ ((((((((s8_4.ne rfl).ne rfl).ne rfl).ne rfl).ne rfl).ne rfl).ne rfl).ne rfl)
    have s12_5 := m5 _ _ ((((((((At.hit z4 rfl).ne rfl).ne rfl).ne rfl).ne rfl).ne rfl).ne rfl).ne rfl)
    have s19_5 := m5 _ _ (At.hit z4.put.put.put.put.put.put.put rfl)
    clear m5
    refine l_q rfl (q_nil rfl s12_5.ev ?_)
    refine l_q rfl (q_fld 6 rfl (by kernel_rfl) (At.hit z5 rfl).ev ?_)
    refine l_cell (j := 6) rfl rfl rfl sz64 (At.hit z5.put rfl).ev ((s19_5.ne rfl).ne rfl).ev rfl ks (Nat.le_of_ble_eq_true rfl) ?_
    intro w6 k6 u6
    replace k6 : w6.heap[gs]? = some (.cells (stC c v (IntKind.u64.wrap (n + (IntKind.u64.wrap ((x.size : Nat) : Int))))) 85) := k6
    have or_6 := own.upd u6 ks rfl
    have kgp_6 := u6.blk kp (by omega)
    refine l_end ?_
    refine e_fresh z5.put.put ?_
    intro a7 z7 m7
    have s0_7 := m7 _ _ ((s0_5.ne rfl).ne rfl)
    have s5_7 := m7 _ _ ((s5_5.ne rfl).ne rfl)
    have s6_7 := m7 _ _ ((s6_5.ne rfl).ne rfl)
    have s7_7 := m7 _ _ ((s7_5.ne rfl).ne rfl)
    have s8_7 := m7 _ _ ((s8_5.ne rfl).ne rfl)
    have low7 := (low1.upd u6 hge)
    clear m7
    refine e_then ?_
    refine c_seq ?_
    refine c_region ?_
    refine l_q rfl (q_move _ _ rfl s0_7.ev ?_)
    refine l_q rfl (q_move _ _ rfl (s0_7.ne rfl).ev ?_)
    refine l_q rfl (q_nil rfl (At.hit z7.put rfl).ev ?_)
    refine l_q rfl (q_fld 5 rfl (by kernel_rfl) (At.hit z7.put.put rfl).ev ?_)
    refine l_q rfl (q_cellS (v) rfl Try.underlying63 (At.hit z7.put.put.put rfl).ev (fun _ e => by rw [e]; exact (cells_at k6 5).trans rfl) ?_)
    refine l_q rfl (q_move _ _ rfl (((((s5_7.ne rfl).ne rfl).ne rfl).ne rfl).ne rfl).ev ?_)
    refine l_appS (B := w0.heap.size) rfl rfl Try.underlying63 Try.underlying9 byte5 ((At.hit z7.put.put.put.put rfl).ne rfl).ev (At.hit z7.put.put.put.put.put rfl).ev or_6 low7.ge (by rw [hlm]; omega) ?_
    intro v8 w8 o8 gr8
    have kgs_8 := gr8.blk k6 rfl
    have kgp_8 := gr8.blk kgp_6 rfl
    have lw8 := low7.gr gr8
    refine l_q rfl (q_nil rfl (((((((At.hit z7 rfl).ne rfl).ne rfl).ne rfl).ne rfl).ne rfl).ne rfl).ev ?_)
    refine l_fresh z7.put.put.put.put.put.put.put.put ?_
    intro a9 z9 m9
    have s0_9 := m9 _ _ ((((((((s0_7.ne rfl).ne rfl).ne rfl).ne rfl).ne rfl).ne rfl).ne rfl).ne rfl)
    have s6_9 := m9 _ _ ((((((((s6_7.ne rfl).ne rfl).ne rfl).ne rfl).ne rfl).ne rfl).ne rfl).ne rfl)
    have s7_9 := m9 _ _ ((((((((s7_7.ne rfl).ne rfl).ne rfl).ne rfl).ne rfl).ne rfl).ne rfl).ne rfl)
    have s8_9 := m9 _ _ ((((((((s8_7.ne rfl).ne rfl).ne rfl).ne rfl).ne rfl).ne rfl).ne rfl).ne rfl)
    have s28_9 := m9 _ _ ((At.hit z7.put.put.put.put.put.put rfl).ne rfl)
    have s29_9 := m9 _ _ (At.hit z7.put.put.put.put.put.put.put rfl)
    clear m9
    refine l_q rfl (q_fld 5 rfl (by kernel_rfl) s29_9.ev ?_)
    refine l_cell (j := 5) rfl rfl rfl sz63 (At.hit z9 rfl).ev (s28_9.ne rfl).ev (o8).one kgs_8 (Nat.le_of_ble_eq_true rfl) ?_
    intro w10 k10 u10
    replace k10 : w10.heap[gs]? = some (.cells (stC c v8 (IntKind.u64.wrap (n + (IntKind.u64.wrap ((x.size : Nat) : Int))))) 85) := k10
    have ob8_10 := o8.upd u10 kgs_8 rfl
    have kgp_10 := u10.blk kgp_8 (by omega)
    refine l_end ?_
    refine e_fresh z9.put ?_
    intro a11 z11 m11
    have s0_11 := m11 _ _ (s0_9.ne rfl)
    have s6_11 := m11 _ _ (s6_9.ne rfl)
    have s7_11 := m11 _ _ (s7_9.ne rfl)
    have s8_11 := m11 _ _ (s8_9.ne rfl)
    have low11 := (lw8.upd u10 hge)
    clear m11
    refine e_then ?_
    refine wp_block ?_
    refine c_loop ((m + x.size) / 64) (fun k a w => ∃ vgs : Value, Fr 60 a ∧ At a 0 (.pointer (some ⟨gs, 0, none⟩)) ∧ At a 6 (.slice (some ⟨gp, 0, none⟩) 1 1) ∧ At a 7 (.int .i64 1) ∧ At a 8 (.int .i64 0) ∧ w.heap[gp]? = some (.cells (#[.string x]) 9) ∧ w.heap[gs]? = some (.cells (stC (chB c (l ++ bytesOf x) k) vgs (IntKind.u64.wrap (n + IntKind.u64.wrap ((x.size : Nat) : Int)))) 85) ∧ RdE w 5 vgs ((l ++ bytesOf x).drop (64 * k)) ∧ Low w0 w) ?_ ?_ ?_
    · exact ⟨v8, z11, s0_11, s6_11, s7_11, s8_11, kgp_10, k10, (ob8_10.rdE), low11⟩
    · intro k a12 w12 hk12 h
      obtain ⟨vgs_12, z12, s0_12, s6_12, s7_12, s8_12, kgp_12, kgs_12, oxgs_12, low12⟩ := h
      clear k10 kgp_10 low11 s0_11 s6_11 s7_11 s8_11 z11
      refine c_seq ?_
      refine c_seq ?_
      refine c_region ?_
      refine l_q rfl (q_move _ _ rfl s0_12.ev ?_)
      refine l_q rfl (q_nil rfl (At.hit z12 rfl).ev ?_)
      refine l_q rfl (q_fld 5 rfl (by kernel_rfl) (At.hit z12.put rfl).ev ?_)
      refine l_q rfl (q_cellS (vgs_12) rfl Try.underlying63 (At.hit z12.put.put rfl).ev (fun _ e => by rw [e]; exact (cells_at kgs_12 5).trans rfl) ?_)
      refine l_q rfl (q_lenR rfl rfl Try.underlying63 (At.hit z12.put.put.put rfl).ev (oxgs_12).1 ((m + x.size) - 64 * k) ((dropL_len hlm k).trans (by omega)) ?_)
      refine l_q rfl (q_geq true rfl (At.hit z12.put.put.put.put rfl).ev rfl (decide_eq_true (by omega)) ?_)
      refine l_end ?_
      refine e_fresh z12.put.put.put.put.put.put ?_
      intro a13 z13 m13
      have s0_13 := m13 _ _ ((((((s0_12.ne rfl).ne rfl).ne rfl).ne rfl).ne rfl).ne rfl)
      have s6_13 := m13 _ _ ((((((s6_12.ne rfl).ne rfl).ne rfl).ne rfl).ne rfl).ne rfl)
      have s7_13 := m13 _ _ ((((((s7_12.ne rfl).ne rfl).ne rfl).ne rfl).ne rfl).ne rfl)
      have s8_13 := m13 _ _ ((((((s8_12.ne rfl).ne rfl).ne rfl).ne rfl).ne rfl).ne rfl)
      have s36_13 := m13 _ _ (At.hit z12.put.put.put.put.put rfl)
      clear m13
      refine e_then ?_
      refine c_true s36_13 ?_
      refine wp_skip ?_
      refine e_then ?_
      refine wp_block ?_
      refine c_seq ?_
      refine region_low_tail 14 hm (by kernel_rfl) ?_
      simp only [List.take_succ_cons, List.take_zero, List.drop_succ_cons, List.drop_zero]
      refine qs (q_move _ _ rfl s0_13.ev ?_)
      refine qs (q_move _ _ rfl (s0_13.ne rfl).ev ?_)
      refine qs (q_nil rfl (At.hit z13.put rfl).ev ?_)
      refine qs (q_fld 0 rfl (by kernel_rfl) (At.hit z13.put.put rfl).ev ?_)
      refine qs (q_mid (vs := nums .u32 (cl (chB c (l ++ bytesOf x) k))) rfl Try.underlying40 rfl sz40 (At.hit z13.put.put.put rfl).ev (fun _ h => h.blk kgs_12) rfl ?_)
      refine qs (q_move _ _ rfl (((((s0_13.ne rfl).ne rfl).ne rfl).ne rfl).ne rfl).ev ?_)
      refine qs (q_nil rfl (At.hit z13.put.put.put.put.put rfl).ev ?_)
      refine qs (q_fld 5 rfl (by kernel_rfl) (At.hit z13.put.put.put.put.put.put rfl).ev ?_)
      refine q_fresh z13.put.put.put.put.put.put.put.put ?_
      intro a14 z14 m14
      have s0_14 := m14 _ _ ((((((((s0_13.ne rfl).ne rfl).ne rfl).ne rfl).ne rfl).ne rfl).ne rfl).ne rfl)
      have s6_14 := m14 _ _ ((((((((s6_13.ne rfl).ne rfl).ne rfl).ne rfl).ne rfl).ne rfl).ne rfl).ne rfl)
      have s7_14 := m14 _ _ ((((((((s7_13.ne rfl).ne rfl).ne rfl).ne rfl).ne rfl).ne rfl).ne rfl).ne rfl)
      have s8_14 := m14 _ _ ((((((((s8_13.ne rfl).ne rfl).ne rfl).ne rfl).ne rfl).ne rfl).ne rfl).ne rfl)
      have s37_14 := m14 _ _ ((((((((At.hit z13 rfl).ne rfl).ne rfl).ne rfl).ne rfl).ne rfl).ne rfl).ne rfl)
      have s41_14 := m14 _ _ ((((At.hit z13.put.put.put.put rfl).ne rfl).ne rfl).ne rfl)
      have s44_14 := m14 _ _ (At.hit z13.put.put.put.put.put.put.put rfl)
      clear m14
      refine qs (q_cellS (vgs_12) rfl Try.underlying63 s44_14.ev (fun _ h => (cells_at (h.blk kgs_12) 5).trans rfl) ?_)
      refine qs (q_to (i := 64) rfl Try.underlying63 sz5 (At.hit z14 rfl).ev rfl (oxgs_12.1) (by rw [(dropL_len hlm k)]; omega) ?_)
      refine qs (q_strR rfl Try.underlying63 Try.underlying5 Try.underlying9 (At.hit z14.put rfl).ev (fun _ h => (RdE.low (RdE.to oxgs_12 64 (by rw [(dropL_len hlm k)]; omega)) h).1) ?_)
      refine qs (q_call (.agg (nums .u32 (cl (prL (chB c (l ++ bytesOf x) k) (strOfNums (((l ++ bytesOf x).drop (64 * k)).take 64)))))) rfl rfl Try.func18 rfl (args2 rfl (((s41_14.ne rfl).ne rfl).ne rfl).ev (At.hit z14.put.put rfl).ev) (fun _ h => (PrL.calls (chB c (l ++ bytesOf x) k) (strOfNums (((l ++ bytesOf x).drop (64 * k)).take 64)) (Nat.le_trans (blk_size _ _) (by decide)) _).mono fun _ _ ⟨e, k⟩ => ⟨e, h.trans k⟩) ?_)
      refine qs (q_nil rfl ((((s37_14.ne rfl).ne rfl).ne rfl).ne rfl).ev ?_)
      refine qs (q_fld 0 rfl (by kernel_rfl) (At.hit z14.put.put.put.put rfl).ev ?_)
      refine qz ?_
      intro w16 h16
      have kgp_16 := h16.blk kgp_12
      have kgs_16 := h16.blk kgs_12
      have oxgs_16 := oxgs_12.low h16
      have oy15_16 := (RdE.to oxgs_12 64 (by rw [(dropL_len hlm k)]; omega)).low h16
      refine l_mid (vs := nums .u32 (cl (prL (chB c (l ++ bytesOf x) k) (strOfNums (((l ++ bytesOf x).drop (64 * k)).take 64))))) (cs' := stC (prL (chB c (l ++ bytesOf x) k) (strOfNums (((l ++ bytesOf x).drop (64 * k)).take 64))) vgs_12 (IntKind.u64.wrap (n + IntKind.u64.wrap ((x.size : Nat) : Int)))) rfl rfl rfl sz40 (At.hit z14.put.put.put.put.put rfl).ev (((At.hit z14.put.put.put rfl).ne rfl).ne rfl).ev (nums_one _ _) kgs_16 (Nat.le_of_ble_eq_true rfl) rfl ?_
      intro w17 k17 u17
      have oxgs_17 := oxgs_16.upd u17 kgs_16 rfl
      have oy15_17 := oy15_16.upd u17 kgs_16 rfl
      have kgp_17 := u17.blk kgp_16 (by omega)
      refine l_end ?_
      refine e_fresh z14.put.put.put.put.put.put ?_
      intro a18 z18 m18
      have s0_18 := m18 _ _ ((((((s0_14.ne rfl).ne rfl).ne rfl).ne rfl).ne rfl).ne rfl)
      have s6_18 := m18 _ _ ((((((s6_14.ne rfl).ne rfl).ne rfl).ne rfl).ne rfl).ne rfl)
      have s7_18 := m18 _ _ ((((((s7_14.ne rfl).ne rfl).ne rfl).ne rfl).ne rfl).ne rfl)
      have s8_18 := m18 _ _ ((((((s8_14.ne rfl).ne rfl).ne rfl).ne rfl).ne rfl).ne rfl)
      have low18 := ((low12.trans h16).upd u17 hge)
      clear m18
      refine e_then ?_
      refine c_region ?_
      refine l_q rfl (q_move _ _ rfl s0_18.ev ?_)
      refine l_q rfl (q_move _ _ rfl (s0_18.ne rfl).ev ?_)
      refine l_q rfl (q_nil rfl (At.hit z18.put rfl).ev ?_)
      refine l_q rfl (q_fld 5 rfl (by kernel_rfl) (At.hit z18.put.put rfl).ev ?_)
      refine l_q rfl (q_cellS (vgs_12) rfl Try.underlying63 (At.hit z18.put.put.put rfl).ev (fun _ e => by rw [e]; exact (cells_at k17 5).trans rfl) ?_)
      refine l_q rfl (q_from (i := 64) rfl Try.underlying63 sz5 (At.hit z18.put.put.put.put rfl).ev rfl (oxgs_17.1) (by rw [(dropL_len hlm k)]; omega) ?_)
      refine l_q rfl (q_nil rfl ((((((At.hit z18 rfl).ne rfl).ne rfl).ne rfl).ne rfl).ne rfl).ev ?_)
      refine l_q rfl (q_fld 5 rfl (by kernel_rfl) (At.hit z18.put.put.put.put.put.put rfl).ev ?_)
      refine l_fresh z18.put.put.put.put.put.put.put.put ?_
      intro a20 z20 m20
      have s0_20 := m20 _ _ ((((((((s0_18.ne rfl).ne rfl).ne rfl).ne rfl).ne rfl).ne rfl).ne rfl).ne rfl)
      have s6_20 := m20 _ _ ((((((((s6_18.ne rfl).ne rfl).ne rfl).ne rfl).ne rfl).ne rfl).ne rfl).ne rfl)
      have s7_20 := m20 _ _ ((((((((s7_18.ne rfl).ne rfl).ne rfl).ne rfl).ne rfl).ne rfl).ne rfl).ne rfl)
      have s8_20 := m20 _ _ ((((((((s8_18.ne rfl).ne rfl).ne rfl).ne rfl).ne rfl).ne rfl).ne rfl).ne rfl)
      have s56_20 := m20 _ _ (((At.hit z18.put.put.put.put.put rfl).ne rfl).ne rfl)
      have s58_20 := m20 _ _ (At.hit z18.put.put.put.put.put.put.put rfl)
      clear m20
      refine l_cell (j := 5) rfl rfl rfl sz63 s58_20.ev s56_20.ev ((RdE.from oxgs_17 64 (by rw [(dropL_len hlm k)]; omega))).one k17 (Nat.le_of_ble_eq_true rfl) ?_
      intro w21 k21 u21
      replace k21 : w21.heap[gs]? = some (.cells (stC (prL (chB c (l ++ bytesOf x) k) (strOfNums (((l ++ bytesOf x).drop (64 * k)).take 64))) (sliceFrom vgs_12 64) (IntKind.u64.wrap (n + IntKind.u64.wrap ((x.size : Nat) : Int)))) 85) := k21
      have oxgs_21 := oxgs_17.upd u21 k17 rfl
      have oy19_21 := (RdE.from oxgs_17 64 (by rw [(dropL_len hlm k)]; omega)).upd u21 k17 rfl
      have kgp_21 := u21.blk kgp_17 (by omega)
      refine l_end ?_
      refine e_fresh z20 ?_
      intro a22 z22 m22
      have s0_22 := m22 _ _ s0_20
      have s6_22 := m22 _ _ s6_20
      have s7_22 := m22 _ _ s7_20
      have s8_22 := m22 _ _ s8_20
      have low22 := (low18.upd u21 hge)
      clear m22
      refine e_in ?_
      exact ⟨(sliceFrom vgs_12 64), z22, s0_22, s6_22, s7_22, s8_22, kgp_21, k21, (oy19_21.cast (drop_next (l ++ bytesOf x) k)), low22⟩
    · intro a23 w23 h
      obtain ⟨vgs_23, z23, s0_23, s6_23, s7_23, s8_23, kgp_23, kgs_23, oxgs_23, low23⟩ := h
      clear k10 kgp_10 low11 s0_11 s6_11 s7_11 s8_11 z11
      refine c_seq ?_
      refine c_seq ?_
      refine c_region ?_
      refine l_q rfl (q_move _ _ rfl s0_23.ev ?_)
      refine l_q rfl (q_nil rfl (At.hit z23 rfl).ev ?_)
      refine l_q rfl (q_fld 5 rfl (by kernel_rfl) (At.hit z23.put rfl).ev ?_)
      refine l_q rfl (q_cellS (vgs_23) rfl Try.underlying63 (At.hit z23.put.put rfl).ev (fun _ e => by rw [e]; exact (cells_at kgs_23 5).trans rfl) ?_)
      refine l_q rfl (q_lenR rfl rfl Try.underlying63 (At.hit z23.put.put.put rfl).ev (oxgs_23).1 ((m + x.size) - 64 * ((m + x.size) / 64)) ((dropL_len hlm ((m + x.size) / 64)).trans (by omega)) ?_)
      refine l_q rfl (q_geq false rfl (At.hit z23.put.put.put.put rfl).ev rfl (decide_eq_false (by omega)) ?_)
      refine l_end ?_
      refine e_fresh z23.put.put.put.put.put.put ?_
      intro a24 z24 m24
      have s0_24 := m24 _ _ ((((((s0_23.ne rfl).ne rfl).ne rfl).ne rfl).ne rfl).ne rfl)
      have s6_24 := m24 _ _ ((((((s6_23.ne rfl).ne rfl).ne rfl).ne rfl).ne rfl).ne rfl)
      have s7_24 := m24 _ _ ((((((s7_23.ne rfl).ne rfl).ne rfl).ne rfl).ne rfl).ne rfl)
      have s8_24 := m24 _ _ ((((((s8_23.ne rfl).ne rfl).ne rfl).ne rfl).ne rfl).ne rfl)
      have s36_24 := m24 _ _ (At.hit z23.put.put.put.put.put rfl)
      clear m24
      refine e_then ?_
      refine c_false s36_24 ?_
      refine wp_exit ?_
      refine x_then ?_
      refine x_then ?_
      refine in_exit ?_
      refine e_in ?_
      refine e_then ?_
      refine c_region ?_
      refine l_q rfl (q_add (1) rfl s8_24.ev rfl (i64_is (by omega) (by omega) (by omega)) ?_)
      refine l_q rfl (q_move _ _ rfl (At.hit z24 rfl).ev ?_)
      refine l_end ?_
      refine e_fresh z24.put.put ?_
      intro a25 z25 m25
      have s0_25 := m25 _ _ ((s0_24.ne rfl).ne rfl)
      have s6_25 := m25 _ _ ((s6_24.ne rfl).ne rfl)
      have s7_25 := m25 _ _ ((s7_24.ne rfl).ne rfl)
      have s8_25 := m25 _ _ (At.hit z24.put rfl)
      clear m25
      exact ⟨vgs_23, z25, s0_25, s6_25, s7_25, s8_25, kgp_23, kgs_23, oxgs_23, low23⟩
  · intro a26 w26 h
    obtain ⟨vgs_26, z26, s0_26, s6_26, s7_26, s8_26, kgp_26, kgs_26, oxgs_26, low26⟩ := h
    clear kp ks own s0_1 s6_1 s7_1 s8_1 z1
    refine c_seq ?_
    refine c_region ?_
    refine l_q rfl (q_lss false rfl s8_26.ev s7_26.ev (decide_eq_false (by omega)) ?_)
    refine l_end ?_
    refine e_fresh z26.put ?_
    intro a27 z27 m27
    have s0_27 := m27 _ _ (s0_26.ne rfl)
    have s6_27 := m27 _ _ (s6_26.ne rfl)
    have s8_27 := m27 _ _ (s8_26.ne rfl)
    have s9_27 := m27 _ _ (At.hit z26 rfl)
    clear m27
    refine e_then ?_
    refine c_seq ?_
    refine c_false s9_27 ?_
    refine wp_exit ?_
    refine x_then ?_
    refine x_then ?_
    refine in_exit ?_
    refine r_none rfl z27.defers ?_
    exact ⟨_, rfl, _, kgs_26, oxgs_26, low26⟩
theorem Copy.calls (c : Ch) (v : Value) (l : List Int) (hl : l.length ≤ 140737488350000) (n : Int) (gs : Nat) (w0 : World) (ks : w0.heap[gs]? = some (.cells (stC c v n) 85)) (rd : RdE w0 5 v l) : Calls Try.prog 46 #[.pointer (some ⟨gs, 0, none⟩)] w0 fun e w' => ∃ y, e = .returned y ∧ ∃ g u, y = .pointer (some ⟨g, 0, none⟩) ∧ w0.heap.size ≤ g ∧ w'.heap[g]? = some (.cells (stC c u n) 85) ∧ OwnB w' w0.heap.size 5 u l ∧ Low w0 w' := by
  refine c_fun (R := _) Try.func46 rfl 18 rfl (Nat.le_of_ble_eq_true rfl) ?_
  intro a z hA
  have s0 := hA 0 _ rfl
  clear hA
  refine c_seq ?_
  refine c_region ?_
  refine l_q rfl (q_assign _ _ rfl rfl ?_)
  refine l_end ?_
  refine e_fresh z.put ?_
  intro a1 z1 m1
  have s0_1 := m1 _ _ (s0.ne rfl)
  clear m1
  refine e_then ?_
  refine c_seq ?_
  refine region_some (TL [Is (.pointer (some ⟨gs, 0, none⟩)), Is (.pointer (some ⟨gs, 0, none⟩)), Is (.pointer (some ⟨gs, 0, none⟩)), Is (.agg (nums .u32 (cl c))), Is (.pointer (some ⟨gs, 0, none⟩)), Is (.pointer (some ⟨gs, 0, none⟩)), Is (.pointer (some ⟨gs, 5, none⟩)), Is (v), (fun (u : Value) (w : World) => OwnB w w0.heap.size 5 u l), Is (.pointer (some ⟨gs, 0, none⟩)), Is (.pointer (some ⟨gs, 0, none⟩)), Is (.pointer (some ⟨gs, 6, none⟩)), Is (.int .u64 n), (fun (y : Value) (w : World) => ∃ u, y = Value.agg (stC c u n) ∧ OwnB w w0.heap.size 5 u l), (fun (y : Value) (w : World) => ∃ g u, y = Value.pointer (some ⟨g, 0, none⟩) ∧ w0.heap.size ≤ g ∧ w.heap[g]? = some (.cells (stC c u n) 85) ∧ OwnB w w0.heap.size 5 u l), (fun (y : Value) (w : World) => ∃ g u, y = Value.pointer (some ⟨g, 0, none⟩) ∧ w0.heap.size ≤ g ∧ w.heap[g]? = some (.cells (stC c u n) 85) ∧ OwnB w w0.heap.size 5 u l)]) Low hm (by kernel_rfl) z1 (low_drawn _) (fun _ _ _ h k => Low.trans h k) (TL_cons ?_ (TL_cons ?_ (TL_cons ?_ (TL_cons ?_ (TL_cons ?_ (TL_cons ?_ (TL_cons ?_ (TL_cons ?_ (TL_cons ?_ (TL_cons ?_ (TL_cons ?_ (TL_cons ?_ (TL_cons ?_ (TL_cons ?_ (TL_cons ?_ (TL_cons ?_ TL_nil)))))))))))))))) (allS_cons ?_ (allS_cons ?_ (allS_cons ?_ (allS_cons ?_ (allS_cons ?_ (allS_cons ?_ (allS_cons ?_ (allS_cons ?_ (allS_cons ?_ (allS_cons ?_ (allS_cons ?_ (allS_cons ?_ (allS_cons ?_ (allS_cons ?_ (allS_cons ?_ (allS_cons ?_ allS_nil)))))))))))))))) ?_
  · exact StL_is _
  · exact StL_is _
  · exact StL_is _
  · exact StL_is _
  · exact StL_is _
  · exact StL_is _
  · exact StL_is _
  · exact StL_is _
  · exact fun _ _ _ h k => OwnB.low h k
  · exact StL_is _
  · exact StL_is _
  · exact StL_is _
  · exact StL_is _
  · exact fun _ _ _ ⟨u, e, o⟩ q => ⟨u, e, o.low q⟩
  · exact fun _ _ _ ⟨g, u, e, h, k, o⟩ q => ⟨g, u, e, h, q.blk k, o.low q⟩
  · exact fun _ _ _ ⟨g, u, e, h, k, o⟩ q => ⟨g, u, e, h, q.blk k, o.low q⟩
  · exact (stepS_val (.pointer (some ⟨gs, 0, none⟩)) _ rfl rfl rfl Low.refl (fun _ => rfl) fun a w z lw kp kn => q_move _ _ rfl (kp _ _ rfl s0_1).ev rfl)
  · exact (stepS_val (.pointer (some ⟨gs, 0, none⟩)) _ rfl rfl rfl Low.refl (fun _ => rfl) fun a w z lw kp kn => q_nil rfl (at_is (u := .pointer (some ⟨gs, 0, none⟩)) (w := w) (kn 0 _ rfl rfl)).ev rfl)
  · exact (stepS_val (.pointer (some ⟨gs, 0, none⟩)) _ rfl rfl rfl Low.refl (fun _ => rfl) fun a w z lw kp kn => q_fld 0 rfl (by kernel_rfl) (at_is (u := .pointer (some ⟨gs, 0, none⟩)) (w := w) (kn 1 _ rfl rfl)).ev rfl)
  · exact (stepS_val (.agg (nums .u32 (cl c))) _ rfl rfl rfl Low.refl (fun _ => rfl) fun a w z lw kp kn => q_mid (vs := nums .u32 (cl c)) rfl Try.underlying40 rfl sz40 (at_is (u := .pointer (some ⟨gs, 0, none⟩)) (w := w) (kn 2 _ rfl rfl)).ev (fun _ e => by rw [e]; exact (lw.blk ks)) rfl rfl)
  · exact (stepS_val (.pointer (some ⟨gs, 0, none⟩)) _ rfl rfl rfl Low.refl (fun _ => rfl) fun a w z lw kp kn => q_move _ _ rfl (kp _ _ rfl s0_1).ev rfl)
  · exact (stepS_val (.pointer (some ⟨gs, 0, none⟩)) _ rfl rfl rfl Low.refl (fun _ => rfl) fun a w z lw kp kn => q_nil rfl (at_is (u := .pointer (some ⟨gs, 0, none⟩)) (w := w) (kn 4 _ rfl rfl)).ev rfl)
  · exact (stepS_val (.pointer (some ⟨gs, 5, none⟩)) _ rfl rfl rfl Low.refl (fun _ => rfl) fun a w z lw kp kn => q_fld 5 rfl (by kernel_rfl) (at_is (u := .pointer (some ⟨gs, 0, none⟩)) (w := w) (kn 5 _ rfl rfl)).ev rfl)
  · exact (stepS_val (v) _ rfl rfl rfl Low.refl (fun _ => rfl) fun a w z lw kp kn => q_cellS (v) rfl Try.underlying63 (at_is (u := .pointer (some ⟨gs, 5, none⟩)) (w := w) (kn 6 _ rfl rfl)).ev (fun _ e => by rw [e]; exact (cells_at (lw.blk ks) 5).trans rfl) rfl)
  · exact (stepS _ rfl rfl fun a w z lw kp kn => l_appV (B := w.heap.size) (ys := l) rfl rfl Try.underlying63 Try.underlying63 byte5 rfl (at_is (u := v) (w := w) (kn 7 _ rfl rfl)).ev (rd.low ((Low.refl _).trans lw)).1 (OwnB.nil _ _ _) (Nat.le_refl _) (by simp only [List.length_nil]; omega) (fun u w' o gr => l_end ⟨_, rfl, (Low.refl w).gr gr, o.base ((Low.refl _).trans lw).ge⟩))
  · exact (stepS_val (.pointer (some ⟨gs, 0, none⟩)) _ rfl rfl rfl Low.refl (fun _ => rfl) fun a w z lw kp kn => q_move _ _ rfl (kp _ _ rfl s0_1).ev rfl)
  · exact (stepS_val (.pointer (some ⟨gs, 0, none⟩)) _ rfl rfl rfl Low.refl (fun _ => rfl) fun a w z lw kp kn => q_nil rfl (at_is (u := .pointer (some ⟨gs, 0, none⟩)) (w := w) (kn 9 _ rfl rfl)).ev rfl)
  · exact (stepS_val (.pointer (some ⟨gs, 6, none⟩)) _ rfl rfl rfl Low.refl (fun _ => rfl) fun a w z lw kp kn => q_fld 6 rfl (by kernel_rfl) (at_is (u := .pointer (some ⟨gs, 0, none⟩)) (w := w) (kn 10 _ rfl rfl)).ev rfl)
  · exact (stepS_val (.int .u64 n) _ rfl rfl rfl Low.refl (fun _ => rfl) fun a w z lw kp kn => q_cell (.int .u64 n) rfl Try.underlying64 (at_is (u := .pointer (some ⟨gs, 6, none⟩)) (w := w) (kn 11 _ rfl rfl)).ev (fun _ e => by rw [e]; exact (cells_at (lw.blk ks) 6).trans rfl) rfl)
  · exact (stepS _ rfl rfl fun a w z lw kp kn => by obtain ⟨u, hu, (ou : OwnB w w0.heap.size 5 u l)⟩ := kn 8 _ rfl rfl; have hu' := hu.ev; obtain ⟨A, cap, e, _⟩ := ou.form; subst e; exact l_q rfl (q_build rfl (parts3 (at_is (u := .agg (nums .u32 (cl c))) (w := w) (kn 3 _ rfl rfl)).ev hu' (at_is (u := .int .u64 n) (w := w) (kn 12 _ rfl rfl)).ev) (built_copy c _ _ _ n) (l_end ⟨_, rfl, Low.refl _, _, rfl, ou⟩)))
  · exact (stepS _ rfl rfl fun a w z lw kp kn => by obtain ⟨y, hy, (hp : (fun (y : Value) (w : World) => ∃ u, y = Value.agg (stC c u n) ∧ OwnB w w0.heap.size 5 u l) y w)⟩ := kn 13 _ rfl rfl; obtain ⟨u, e, ou⟩ := hp; subst e; exact l_box rfl rfl hy.ev (fun g w' hg k h => l_end ⟨_, rfl, h, g, u, rfl, Nat.le_trans ((Low.refl _).trans lw).ge hg, k, ou.low h⟩))
  · exact (stepS _ rfl rfl fun a w z lw kp kn => by obtain ⟨y, hy, (hp : (fun (y : Value) (w : World) => ∃ g u, y = Value.pointer (some ⟨g, 0, none⟩) ∧ w0.heap.size ≤ g ∧ w.heap[g]? = some (.cells (stC c u n) 85) ∧ OwnB w w0.heap.size 5 u l) y w)⟩ := kn 14 _ rfl rfl; exact l_q rfl (q_assign _ _ rfl hy.ev (l_end ⟨_, rfl, Low.refl _, hp⟩)))
  intro a2 w2 z2 h2 kp kn
  have s0_2 := kp _ _ rfl s0_1
  have s3_2 := at_is (u := .pointer (some ⟨gs, 0, none⟩)) (w := w2) (kn 0 _ rfl)
  have s4_2 := at_is (u := .pointer (some ⟨gs, 0, none⟩)) (w := w2) (kn 1 _ rfl)
  have s5_2 := at_is (u := .pointer (some ⟨gs, 0, none⟩)) (w := w2) (kn 2 _ rfl)
  have s6_2 := at_is (u := .agg (nums .u32 (cl c))) (w := w2) (kn 3 _ rfl)
  have s7_2 := at_is (u := .pointer (some ⟨gs, 0, none⟩)) (w := w2) (kn 4 _ rfl)
  have s8_2 := at_is (u := .pointer (some ⟨gs, 0, none⟩)) (w := w2) (kn 5 _ rfl)
  have s9_2 := at_is (u := .pointer (some ⟨gs, 5, none⟩)) (w := w2) (kn 6 _ rfl)
  have s10_2 := at_is (u := v) (w := w2) (kn 7 _ rfl)
  have s12_2 := at_is (u := .pointer (some ⟨gs, 0, none⟩)) (w := w2) (kn 9 _ rfl)
  have s13_2 := at_is (u := .pointer (some ⟨gs, 0, none⟩)) (w := w2) (kn 10 _ rfl)
  have s14_2 := at_is (u := .pointer (some ⟨gs, 6, none⟩)) (w := w2) (kn 11 _ rfl)
  have s15_2 := at_is (u := .int .u64 n) (w := w2) (kn 12 _ rfl)
  have kgs_2 := h2.blk ks
  have or_2 := rd.low h2
  obtain ⟨y, hy, (hp : (fun (y : Value) (w : World) => ∃ g u, y = Value.pointer (some ⟨g, 0, none⟩) ∧ w0.heap.size ≤ g ∧ w.heap[g]? = some (.cells (stC c u n) 85) ∧ OwnB w w0.heap.size 5 u l) y w2)⟩ := kn 15 _ rfl
  obtain ⟨g, u, rfl, hg, kg, ou⟩ := hp
  clear kp kn
  refine e_then ?_
  refine wp_ret ?_
  refine r_tmp rfl z2.defers hy ?_
  exact ⟨_, rfl, g, u, rfl, hg, kg, ou, h2⟩
def lenB (n : Int) (k : Nat) : Int := IntKind.u8.wrap ((IntKind.u64.wrap (8 * n)).fdiv (2 ^ min (56 - 8 * ((k : Nat) : Int)).toNat 64))
def tailP : Nat → List Int
  | 0 => [128]
  | k + 1 => tailP k ++ [0]
theorem tailP_len : ∀ k, (tailP k).length = k + 1
  | 0 => rfl
  | k + 1 => by rw [tailP, List.length_append, tailP_len k]; rfl
def padM (m : Nat) : Nat := (119 - m) % 64
theorem padM_yes (m k : Nat) (hm : m < 64) (h : k < padM m) : ((m + k + 1) % 64 : Nat) ≠ 56 := by unfold padM at h; omega
theorem padM_no (m : Nat) (hm : m < 64) : ((m + padM m + 1) % 64 : Nat) = 56 := by unfold padM; omega
theorem padM_le (m : Nat) : padM m ≤ 63 := by unfold padM; omega
def tailQ (m : Nat) (n : Int) : Nat → List Int
  | 0 => tailP (padM m)
  | k + 1 => tailQ m n k ++ [lenB n k]
theorem tailQ_len (m : Nat) (n : Int) : ∀ k, (tailQ m n k).length = padM m + k + 1
  | 0 => tailP_len _
  | k + 1 => by rw [tailQ, List.length_append, tailQ_len m n k]; simp only [List.length_cons, List.length_nil]; omega
def tailS (m : Nat) (n : Int) : ByteArray := strOfNums (tailQ m n 8)
theorem tailS_size (m : Nat) (n : Int) : (tailS m n).size = padM m + 8 + 1 := by rw [tailS, strOfNums_size, tailQ_len]
theorem tailS_le (m : Nat) (n : Int) : (tailS m n).size ≤ 140737488350000 := by rw [tailS_size]; have := padM_le m; omega
def chF (c : Ch) (l : List Int) (m : Nat) (n : Int) : Ch := chB c (l ++ bytesOf (tailS m n)) ((m + (tailS m n).size) / 64)
theorem SumS.calls (c : Ch) (v : Value) (l : List Int) (m : Nat) (hlm : l.length = m) (hm6 : m < 64) (n : Int) (gs : Nat) (w0 : World) (ks : w0.heap[gs]? = some (.cells (stC c v n) 85)) (rd : RdE w0 5 v l) : Calls Try.prog 38 #[.pointer (some ⟨gs, 0, none⟩)] w0 fun e w' => e = .returned (.string (strOfNums (outR (chF c l m n) 5))) ∧ Low w0 w' := by
  refine c_fun (R := _) Try.func38 rfl 73 rfl (Nat.le_of_ble_eq_true rfl) ?_
  intro a z hA
  have s0 := hA 0 _ rfl
  clear hA
  refine c_seq ?_
  refine c_region ?_
  refine l_q rfl (q_assign _ _ rfl rfl ?_)
  refine l_end ?_
  refine e_fresh z.put ?_
  intro a1 z1 m1
  have s0_1 := m1 _ _ (s0.ne rfl)
  clear m1
  refine e_then ?_
  refine c_seq ?_
  refine c_region ?_
  refine l_q rfl (q_move _ _ rfl s0_1.ev ?_)
  refine l_call _ rfl rfl rfl Try.func46 rfl (args1 rfl (At.hit z1 rfl).ev) (Copy.calls c v l (by omega) n gs _ ks rd) ?_
  rintro _ w2 ⟨gx, ux, rfl, hgx, kgx, ox, h2⟩
  have gegx := Nat.le_trans (Low.refl _).ge hgx
  have oux := ox.base (Low.refl _).ge
  have kgs_2 := h2.blk ks
  have or_2 := rd.low h2
  refine l_q rfl (q_assign _ _ rfl (At.hit z1.put rfl).ev ?_)
  refine l_end ?_
  refine e_fresh z1.put.put.put ?_
  intro a3 z3 m3
  have s0_3 := m3 _ _ (((s0_1.ne rfl).ne rfl).ne rfl)
  have s3_3 := m3 _ _ (At.hit z1.put.put rfl)
  have low3 := h2
  clear m3
  refine e_then ?_
  refine c_seq ?_
  refine c_region ?_
  refine l_make (n := 1) (c := 128) (cs := nums .u8 (List.replicate 128 0)) rfl rfl Try.underlying63 byte5 rfl rfl (by decide) (by decide) made_128 ?_
  intro g11_4 w4 hg4 k4 h4
  have ngs_g11_4 := Nat.ne_of_lt (Nat.lt_of_lt_of_le (heap_lt kgs_2) hg4)
  have ngx_g11_4 := Nat.ne_of_lt (Nat.lt_of_lt_of_le (heap_lt kgx) hg4)
  have geg11_4 := Nat.le_trans (Low.refl _).ge hg4
  have kgs_4 := h4.blk kgs_2
  have kgx_4 := h4.blk kgx
  have orx_4 := oux.low h4
  refine l_q rfl (q_assign _ _ rfl (At.hit z3 rfl).ev ?_)
  refine l_end ?_
  refine e_fresh z3.put.put ?_
  intro a5 z5 m5
  have s0_5 := m5 _ _ ((s0_3.ne rfl).ne rfl)
  have s3_5 := m5 _ _ ((s3_3.ne rfl).ne rfl)
  have s4_5 := m5 _ _ (At.hit z3.put rfl)
  have low5 := h4
  clear m5
  refine e_then ?_
  refine c_seq ?_
  refine c_region ?_
  refine l_q rfl (q_move _ _ rfl s4_5.ev ?_)
  refine l_q rfl (q_idxS0 (j := 0) rfl Try.underlying63 sz5 (At.hit z5 rfl).ev rfl (by omega) ?_)
  refine l_cell (j := 0) (v := .int .u8 128) rfl rfl rfl sz5 (At.hit z5.put rfl).ev rfl rfl k4 (by rw [(nums_size _ _).trans List.length_replicate]; omega) ?_
  intro w6 k6 u6
  rw [nums_put] at k6
  have kgs_6 := u6.blk kgs_4 (by omega)
  have kgx_6 := u6.blk kgx_4 (by omega)
  refine l_end ?_
  refine e_fresh z5.put.put ?_
  intro a7 z7 m7
  have s0_7 := m7 _ _ ((s0_5.ne rfl).ne rfl)
  have s3_7 := m7 _ _ ((s3_5.ne rfl).ne rfl)
  have s4_7 := m7 _ _ ((s4_5.ne rfl).ne rfl)
  have low7 := (low5.upd u6 geg11_4)
  clear m7
  refine e_then ?_
  refine c_seq ?_
  refine wp_block ?_
  have otail := ownB_made (l := [128]) (c := 128) geg11_4 k6 (by simp [nums]) (by decide) (by decide) (by simp [nums])
  refine c_loop (padM m) (fun k a w => ∃ v4 : Value, Fr 73 a ∧ At a 0 (.pointer (some ⟨gs, 0, none⟩)) ∧ At a 3 (.pointer (some ⟨gx, 0, none⟩)) ∧ At a 4 (v4) ∧ w.heap[gs]? = some (.cells (stC c v n) 85) ∧ w.heap[gx]? = some (.cells (stC c ux n) 85) ∧ OwnB w w2.heap.size 5 v4 (tailP k) ∧ Low w2 w) ?_ ?_ ?_
  · exact ⟨(.slice (some ⟨g11_4, 0, none⟩) 1 128), z7, s0_7, s3_7, s4_7, kgs_6, kgx_6, otail, low7⟩
  · intro k a8 w8 hk8 h
    obtain ⟨v4_8, z8, s0_8, s3_8, s4_8, kgs_8, kgx_8, ox4_8, low8⟩ := h
    clear kgs_6 kgx_6 low7 s0_7 s3_7 s4_7 z7
    have hpl := padM_le m
    refine c_seq ?_
    refine c_seq ?_
    refine c_region ?_
    refine l_q rfl (q_move _ _ rfl s3_8.ev ?_)
    refine l_q rfl (q_nil rfl (At.hit z8 rfl).ev ?_)
    refine l_q rfl (q_fld 5 rfl (by kernel_rfl) (At.hit z8.put rfl).ev ?_)
    refine l_q rfl (q_cellS (ux) rfl Try.underlying63 (At.hit z8.put.put rfl).ev (fun _ e => by rw [e]; exact (cells_at kgx_8 5).trans rfl) ?_)
    refine l_q rfl (q_lenB rfl rfl Try.underlying63 (At.hit z8.put.put.put rfl).ev (oux.low low8) (m) (hlm.trans (by omega)) ?_)
    refine l_q rfl (q_move _ _ rfl (((((s4_8.ne rfl).ne rfl).ne rfl).ne rfl).ne rfl).ev ?_)
    refine l_q rfl (q_lenB rfl rfl Try.underlying63 (At.hit z8.put.put.put.put.put rfl).ev ox4_8 (k + 1) ((tailP_len k).trans (by omega)) ?_)
    refine l_q rfl (q_add (((m + k + 1 : Nat) : Int)) rfl (((At.hit z8.put.put.put.put rfl).ne rfl).ne rfl).ev (At.hit z8.put.put.put.put.put.put rfl).ev (i64_is (by omega) (by omega) (by omega)) ?_)
    refine l_fresh z8.put.put.put.put.put.put.put.put ?_
    intro a9 z9 m9
    have s0_9 := m9 _ _ ((((((((s0_8.ne rfl).ne rfl).ne rfl).ne rfl).ne rfl).ne rfl).ne rfl).ne rfl)
    have s3_9 := m9 _ _ ((((((((s3_8.ne rfl).ne rfl).ne rfl).ne rfl).ne rfl).ne rfl).ne rfl).ne rfl)
    have s4_9 := m9 _ _ ((((((((s4_8.ne rfl).ne rfl).ne rfl).ne rfl).ne rfl).ne rfl).ne rfl).ne rfl)
    have s21_9 := m9 _ _ (At.hit z8.put.put.put.put.put.put.put rfl)
    clear m9
    refine l_q rfl (q_rem (m := m + k + 1) (n := 64) (by omega) rfl s21_9.ev rfl ?_)
    refine l_q rfl (q_neq true rfl (At.hit z9 rfl).ev rfl (decide_eq_true (by have := padM_yes m k hm6 (by assumption); omega)) ?_)
    refine l_end ?_
    refine e_fresh z9.put.put ?_
    intro a10 z10 m10
    have s0_10 := m10 _ _ ((s0_9.ne rfl).ne rfl)
    have s3_10 := m10 _ _ ((s3_9.ne rfl).ne rfl)
    have s4_10 := m10 _ _ ((s4_9.ne rfl).ne rfl)
    have s23_10 := m10 _ _ (At.hit z9.put rfl)
    clear m10
    refine e_then ?_
    refine c_true s23_10 ?_
    refine wp_skip ?_
    refine e_then ?_
    refine wp_block ?_
    refine c_region ?_
    refine l_q rfl (q_move _ _ rfl s4_10.ev ?_)
    refine l_build1 rfl rfl Try.underlying63 byte5 rfl ?_
    intro g25_11 w11 hg11 k11 h11
    have ngs_g25_11 := Nat.ne_of_lt (Nat.lt_of_lt_of_le (heap_lt kgs_8) hg11)
    have ngx_g25_11 := Nat.ne_of_lt (Nat.lt_of_lt_of_le (heap_lt kgx_8) hg11)
    have geg25_11 := Nat.le_trans low8.ge hg11
    have kgs_11 := h11.blk kgs_8
    have kgx_11 := h11.blk kgx_8
    have ox4_11 := ox4_8.low h11
    have orx_11 := (oux.low low8).low h11
    refine l_appR (B := w2.heap.size) (ys := [0]) rfl rfl Try.underlying63 Try.underlying63 byte5 ((At.hit z10 rfl).ne rfl).ev (At.hit z10.put rfl).ev k11 ox4_11 (low8.trans h11).ge (by rw [(tailP_len k)]; simp only [List.length_cons, List.length_nil]; omega) ?_
    intro v12 w12 o12 gr12
    have kgs_12 := gr12.blk kgs_11 rfl
    have kgx_12 := gr12.blk kgx_11 rfl
    have lw12 := (low8.trans h11).gr gr12
    refine l_q rfl (q_assign _ _ rfl (At.hit z10.put.put rfl).ev ?_)
    refine l_end ?_
    refine e_fresh z10.put.put.put.put ?_
    intro a13 z13 m13
    have s0_13 := m13 _ _ ((((s0_10.ne rfl).ne rfl).ne rfl).ne rfl)
    have s3_13 := m13 _ _ ((((s3_10.ne rfl).ne rfl).ne rfl).ne rfl)
    have s4_13 := m13 _ _ (At.hit z10.put.put.put rfl)
    have low13 := lw12
    clear m13
    refine e_in ?_
    exact ⟨v12, z13, s0_13, s3_13, s4_13, kgs_12, kgx_12, o12, low13⟩
  · intro a14 w14 h
    obtain ⟨v4_14, z14, s0_14, s3_14, s4_14, kgs_14, kgx_14, ox4_14, low14⟩ := h
    clear kgs_6 kgx_6 low7 s0_7 s3_7 s4_7 z7
    have hpl := padM_le m
    refine c_seq ?_
    refine c_seq ?_
    refine c_region ?_
    refine l_q rfl (q_move _ _ rfl s3_14.ev ?_)
    refine l_q rfl (q_nil rfl (At.hit z14 rfl).ev ?_)
    refine l_q rfl (q_fld 5 rfl (by kernel_rfl) (At.hit z14.put rfl).ev ?_)
    refine l_q rfl (q_cellS (ux) rfl Try.underlying63 (At.hit z14.put.put rfl).ev (fun _ e => by rw [e]; exact (cells_at kgx_14 5).trans rfl) ?_)
    refine l_q rfl (q_lenB rfl rfl Try.underlying63 (At.hit z14.put.put.put rfl).ev (oux.low low14) (m) (hlm.trans (by omega)) ?_)
    refine l_q rfl (q_move _ _ rfl (((((s4_14.ne rfl).ne rfl).ne rfl).ne rfl).ne rfl).ev ?_)
    refine l_q rfl (q_lenB rfl rfl Try.underlying63 (At.hit z14.put.put.put.put.put rfl).ev ox4_14 ((padM m) + 1) ((tailP_len (padM m)).trans (by omega)) ?_)
    refine l_q rfl (q_add (((m + (padM m) + 1 : Nat) : Int)) rfl (((At.hit z14.put.put.put.put rfl).ne rfl).ne rfl).ev (At.hit z14.put.put.put.put.put.put rfl).ev (i64_is (by omega) (by omega) (by omega)) ?_)
    refine l_fresh z14.put.put.put.put.put.put.put.put ?_
    intro a15 z15 m15
    have s0_15 := m15 _ _ ((((((((s0_14.ne rfl).ne rfl).ne rfl).ne rfl).ne rfl).ne rfl).ne rfl).ne rfl)
    have s3_15 := m15 _ _ ((((((((s3_14.ne rfl).ne rfl).ne rfl).ne rfl).ne rfl).ne rfl).ne rfl).ne rfl)
    have s4_15 := m15 _ _ ((((((((s4_14.ne rfl).ne rfl).ne rfl).ne rfl).ne rfl).ne rfl).ne rfl).ne rfl)
    have s21_15 := m15 _ _ (At.hit z14.put.put.put.put.put.put.put rfl)
    clear m15
    refine l_q rfl (q_rem (m := m + (padM m) + 1) (n := 64) (by omega) rfl s21_15.ev rfl ?_)
    refine l_q rfl (q_neq false rfl (At.hit z15 rfl).ev rfl (decide_eq_false (by have := padM_no m hm6; omega)) ?_)
    refine l_end ?_
    refine e_fresh z15.put.put ?_
    intro a16 z16 m16
    have s0_16 := m16 _ _ ((s0_15.ne rfl).ne rfl)
    have s3_16 := m16 _ _ ((s3_15.ne rfl).ne rfl)
    have s4_16 := m16 _ _ ((s4_15.ne rfl).ne rfl)
    have s23_16 := m16 _ _ (At.hit z15.put rfl)
    clear m16
    refine e_then ?_
    refine c_false s23_16 ?_
    refine wp_exit ?_
    refine x_then ?_
    refine x_then ?_
    refine in_exit ?_
    refine e_then ?_
    refine c_seq ?_
    refine c_seq ?_
    refine c_region ?_
    refine l_q rfl (q_move _ _ rfl rfl ?_)
    refine l_end ?_
    refine e_fresh z16.put ?_
    intro a17 z17 m17
    have s0_17 := m17 _ _ (s0_16.ne rfl)
    have s3_17 := m17 _ _ (s3_16.ne rfl)
    have s4_17 := m17 _ _ (s4_16.ne rfl)
    have s27_17 := m17 _ _ (At.hit z16 rfl)
    clear m17
    refine e_then ?_
    refine wp_block ?_
    refine c_loop 8 (fun k a w => ∃ v4 : Value, Fr 73 a ∧ At a 0 (.pointer (some ⟨gs, 0, none⟩)) ∧ At a 3 (.pointer (some ⟨gx, 0, none⟩)) ∧ At a 4 (v4) ∧ At a 27 (.int .i64 ((k : Nat) : Int)) ∧ w.heap[gs]? = some (.cells (stC c v n) 85) ∧ w.heap[gx]? = some (.cells (stC c ux n) 85) ∧ OwnB w w2.heap.size 5 v4 (tailQ m n k) ∧ Low w2 w) ?_ ?_ ?_
    · exact ⟨v4_14, z17, s0_17, s3_17, s4_17, s27_17, kgs_14, kgx_14, ox4_14, low14⟩
    · intro k a18 w18 hk18 h
      obtain ⟨v4_18, z18, s0_18, s3_18, s4_18, s27_18, kgs_18, kgx_18, ox4_18, low18⟩ := h
      clear kgs_14 kgx_14 low14 s0_17 s27_17 s3_17 s4_17 z17
      have hpl := padM_le m
      refine c_seq ?_
      refine c_region ?_
      refine l_q rfl (q_lss true rfl s27_18.ev rfl (decide_eq_true (by omega)) ?_)
      refine l_end ?_
      refine e_fresh z18.put ?_
      intro a19 z19 m19
      have s0_19 := m19 _ _ (s0_18.ne rfl)
      have s3_19 := m19 _ _ (s3_18.ne rfl)
      have s4_19 := m19 _ _ (s4_18.ne rfl)
      have s27_19 := m19 _ _ (s27_18.ne rfl)
      have s28_19 := m19 _ _ (At.hit z18 rfl)
      clear m19
      refine e_then ?_
      refine c_seq ?_
      refine c_true s28_19 ?_
      refine wp_skip ?_
      refine e_then ?_
      refine c_seq ?_
      refine wp_block ?_
      refine c_seq ?_
      refine c_region ?_
      refine l_q rfl (q_move _ _ rfl s27_19.ev ?_)
      refine l_q rfl (q_assign _ _ rfl (At.hit z19 rfl).ev ?_)
      refine l_end ?_
      refine e_fresh z19.put.put ?_
      intro a20 z20 m20
      have s0_20 := m20 _ _ ((s0_19.ne rfl).ne rfl)
      have s3_20 := m20 _ _ ((s3_19.ne rfl).ne rfl)
      have s4_20 := m20 _ _ ((s4_19.ne rfl).ne rfl)
      have s5_20 := m20 _ _ (At.hit z19.put rfl)
      have s27_20 := m20 _ _ ((s27_19.ne rfl).ne rfl)
      clear m20
      refine e_then ?_
      refine c_region ?_
      refine l_q rfl (q_move _ _ rfl s4_20.ev ?_)
      refine l_q rfl (q_move _ _ rfl (s0_20.ne rfl).ev ?_)
      refine l_q rfl (q_nil rfl (At.hit z20.put rfl).ev ?_)
      refine l_q rfl (q_fld 6 rfl (by kernel_rfl) (At.hit z20.put.put rfl).ev ?_)
      refine l_q rfl (q_cell (.int .u64 n) rfl Try.underlying64 (At.hit z20.put.put.put rfl).ev (fun _ e => by rw [e]; exact (cells_at kgs_18 6).trans rfl) ?_)
      refine l_q rfl (q_mul _ rfl rfl (At.hit z20.put.put.put.put rfl).ev rfl ?_)
      refine l_q rfl (q_move _ _ rfl ((((((s5_20.ne rfl).ne rfl).ne rfl).ne rfl).ne rfl).ne rfl).ev ?_)
      refine l_q rfl (q_mul (((8 * k : Nat) : Int)) rfl rfl (At.hit z20.put.put.put.put.put.put rfl).ev (i64_is (by omega) (by omega) (by omega)) ?_)
      refine l_fresh z20.put.put.put.put.put.put.put.put ?_
      intro a21 z21 m21
      have s0_21 := m21 _ _ ((((((((s0_20.ne rfl).ne rfl).ne rfl).ne rfl).ne rfl).ne rfl).ne rfl).ne rfl)
      have s3_21 := m21 _ _ ((((((((s3_20.ne rfl).ne rfl).ne rfl).ne rfl).ne rfl).ne rfl).ne rfl).ne rfl)
      have s4_21 := m21 _ _ ((((((((s4_20.ne rfl).ne rfl).ne rfl).ne rfl).ne rfl).ne rfl).ne rfl).ne rfl)
      have s27_21 := m21 _ _ ((((((((s27_20.ne rfl).ne rfl).ne rfl).ne rfl).ne rfl).ne rfl).ne rfl).ne rfl)
      have s30_21 := m21 _ _ ((((((((At.hit z20 rfl).ne rfl).ne rfl).ne rfl).ne rfl).ne rfl).ne rfl).ne rfl)
      have s35_21 := m21 _ _ (((At.hit z20.put.put.put.put.put rfl).ne rfl).ne rfl)
      have s37_21 := m21 _ _ (At.hit z20.put.put.put.put.put.put.put rfl)
      clear m21
      refine l_q rfl (q_sub ((56 - 8 * ((k : Nat) : Int))) rfl rfl s37_21.ev (i64_is (by omega) (by omega) (by omega)) ?_)
      refine l_q rfl (q_shr ((IntKind.u64.wrap (8 * n)).fdiv (2 ^ min ((56 - 8 * ((k : Nat) : Int)) : Int).toNat 64)) rfl (s35_21.ne rfl).ev (At.hit z21 rfl).ev (by first | omega | exact u64_nonneg _) rfl ?_)
      refine l_q rfl (q_conv _ rfl (At.hit z21.put rfl).ev Try.underlying64 Try.underlying5 rfl ?_)
      refine l_build1 rfl rfl Try.underlying63 byte5 (At.hit z21.put.put rfl).ev ?_
      intro g41_22 w22 hg22 k22 h22
      have ngs_g41_22 := Nat.ne_of_lt (Nat.lt_of_lt_of_le (heap_lt kgs_18) hg22)
      have ngx_g41_22 := Nat.ne_of_lt (Nat.lt_of_lt_of_le (heap_lt kgx_18) hg22)
      have geg41_22 := Nat.le_trans low18.ge hg22
      have kgs_22 := h22.blk kgs_18
      have kgx_22 := h22.blk kgx_18
      have ox4_22 := ox4_18.low h22
      have orx_22 := (oux.low low18).low h22
      refine l_appR (B := w2.heap.size) (ys := [IntKind.u8.wrap ((IntKind.u64.wrap (8 * n)).fdiv (2 ^ min ((56 - 8 * ((k : Nat) : Int)) : Int).toNat 64))]) rfl rfl Try.underlying63 Try.underlying63 byte5 ((((s30_21.ne rfl).ne rfl).ne rfl).ne rfl).ev (At.hit z21.put.put.put rfl).ev k22 ox4_22 (low18.trans h22).ge (by rw [(tailQ_len m n k)]; simp only [List.length_cons, List.length_nil]; omega) ?_
      intro v23 w23 o23 gr23
      have kgs_23 := gr23.blk kgs_22 rfl
      have kgx_23 := gr23.blk kgx_22 rfl
      have lw23 := (low18.trans h22).gr gr23
      refine l_q rfl (q_assign _ _ rfl (At.hit z21.put.put.put.put rfl).ev ?_)
      refine l_end ?_
      refine e_fresh z21.put.put.put.put.put.put ?_
      intro a24 z24 m24
      have s0_24 := m24 _ _ ((((((s0_21.ne rfl).ne rfl).ne rfl).ne rfl).ne rfl).ne rfl)
      have s3_24 := m24 _ _ ((((((s3_21.ne rfl).ne rfl).ne rfl).ne rfl).ne rfl).ne rfl)
      have s4_24 := m24 _ _ (At.hit z21.put.put.put.put.put rfl)
      have s27_24 := m24 _ _ ((((((s27_21.ne rfl).ne rfl).ne rfl).ne rfl).ne rfl).ne rfl)
      have low24 := lw23
      clear m24
      refine e_in ?_
      refine e_then ?_
      refine c_region ?_
      refine l_q rfl (q_add (((k + 1 : Nat) : Int)) rfl s27_24.ev rfl (i64_is (by omega) (by omega) (by omega)) ?_)
      refine l_q rfl (q_move _ _ rfl (At.hit z24 rfl).ev ?_)
      refine l_end ?_
      refine e_fresh z24.put.put ?_
      intro a25 z25 m25
      have s0_25 := m25 _ _ ((s0_24.ne rfl).ne rfl)
      have s3_25 := m25 _ _ ((s3_24.ne rfl).ne rfl)
      have s4_25 := m25 _ _ ((s4_24.ne rfl).ne rfl)
      have s27_25 := m25 _ _ (At.hit z24.put rfl)
      clear m25
      exact ⟨v23, z25, s0_25, s3_25, s4_25, s27_25, kgs_23, kgx_23, o23, low24⟩
    · intro a26 w26 h
      obtain ⟨v4_26, z26, s0_26, s3_26, s4_26, s27_26, kgs_26, kgx_26, ox4_26, low26⟩ := h
      clear kgs_14 kgx_14 low14 s0_17 s27_17 s3_17 s4_17 z17
      have hpl := padM_le m
      refine c_seq ?_
      refine c_region ?_
      refine l_q rfl (q_lss false rfl s27_26.ev rfl (decide_eq_false (by omega)) ?_)
      refine l_end ?_
      refine e_fresh z26.put ?_
      intro a27 z27 m27
      have s0_27 := m27 _ _ (s0_26.ne rfl)
      have s3_27 := m27 _ _ (s3_26.ne rfl)
      have s4_27 := m27 _ _ (s4_26.ne rfl)
      have s27_27 := m27 _ _ (s27_26.ne rfl)
      have s28_27 := m27 _ _ (At.hit z26 rfl)
      clear m27
      refine e_then ?_
      refine c_seq ?_
      refine c_false s28_27 ?_
      refine wp_exit ?_
      refine x_then ?_
      refine x_then ?_
      refine in_exit ?_
      refine e_then ?_
      refine c_seq ?_
      refine c_region ?_
      refine l_q rfl (q_move _ _ rfl s3_27.ev ?_)
      refine l_q rfl (q_move _ _ rfl (s4_27.ne rfl).ev ?_)
      refine l_q rfl (q_str rfl Try.underlying63 Try.underlying5 Try.underlying9 (At.hit z27.put rfl).ev (fun _ e => by rw [e]; exact ox4_26) ?_)
      refine l_buildT1 rfl rfl Try.underlying67 str9 (At.hit z27.put.put rfl).ev ?_
      intro g47_28 w28 hg28 k28 h28
      have lt_gx_g47_28 := Nat.lt_of_lt_of_le (heap_lt kgx_26) hg28
      have ngs_g47_28 := Nat.ne_of_lt (Nat.lt_of_lt_of_le (heap_lt kgs_26) hg28)
      have geg47_28 := Nat.le_trans (low3.trans low26).ge hg28
      have kgs_28 := h28.blk kgs_26
      have kgx_28 := h28.blk kgx_26
      have ox4_28 := ox4_26.low h28
      have orx_28 := (oux.low low26).low h28
      refine l_call _ rfl rfl rfl Try.func37 rfl (args2 rfl ((((At.hit z27 rfl).ne rfl).ne rfl).ne rfl).ev (At.hit z27.put.put.put rfl).ev) (Write.calls c ux l m hlm hm6 n (tailS m n) (tailS_le m n) gx g47_28 (by omega) w0 _ ((low3.trans low26).trans h28) gegx kgx_28 k28 orx_28) ?_
      rintro _ w29 ⟨u29, k29, o29, low29⟩
      refine l_end ?_
      refine e_fresh z27.put.put.put.put.put ?_
      intro a30 z30 m30
      have s3_30 := m30 _ _ (((((s3_27.ne rfl).ne rfl).ne rfl).ne rfl).ne rfl)
      clear m30
      refine e_then ?_
      refine c_seq ?_
      refine c_region ?_
      refine l_q rfl (q_assign _ _ rfl rfl ?_)
      refine l_end ?_
      refine e_fresh z30.put ?_
      intro a31 z31 m31
      have s3_31 := m31 _ _ (s3_30.ne rfl)
      have s6_31 := m31 _ _ (At.hit z30 rfl)
      clear m31
      refine e_then ?_
      refine c_seq ?_
      refine c_seq ?_
      refine c_region ?_
      refine l_q rfl (q_move _ _ rfl s3_31.ev ?_)
      refine l_q rfl (q_nil rfl (At.hit z31 rfl).ev ?_)
      refine l_q rfl (q_fld 0 rfl (by kernel_rfl) (At.hit z31.put rfl).ev ?_)
      refine l_q rfl (q_mid (vs := nums .u32 (cl (chF c l m n))) rfl Try.underlying40 rfl sz40 (At.hit z31.put.put rfl).ev (fun _ e => by rw [e]; exact k29) rfl ?_)
      refine l_q rfl (q_move _ _ rfl rfl ?_)
      refine l_end ?_
      refine e_fresh z31.put.put.put.put.put ?_
      intro a32 z32 m32
      have s6_32 := m32 _ _ (((((s6_31.ne rfl).ne rfl).ne rfl).ne rfl).ne rfl)
      have s52_32 := m32 _ _ ((At.hit z31.put.put.put rfl).ne rfl)
      have s53_32 := m32 _ _ (At.hit z31.put.put.put.put rfl)
      clear m32
      refine e_then ?_
      refine wp_block ?_
      refine c_loop 5 (fun k a w => ∃ v6 : Value, Fr 73 a ∧ At a 6 (v6) ∧ At a 52 (.agg (nums .u32 (cl (chF c l m n)))) ∧ At a 53 (.int .i64 ((k : Nat) : Int)) ∧ OwnB w w0.heap.size 5 v6 (outR (chF c l m n) k) ∧ Low w0 w) ?_ ?_ ?_
      · exact ⟨.slice none 0 0, z32, s6_32, s52_32, s53_32, (OwnB.nil _ _ _), low29⟩
      · intro k a33 w33 hk33 h
        obtain ⟨v6_33, z33, s6_33, s52_33, s53_33, ox6_33, low33⟩ := h
        clear low29 s52_32 s53_32 s6_32 z32
        refine c_seq ?_
        refine c_region ?_
        refine l_q rfl (q_lss true rfl s53_33.ev rfl (decide_eq_true (by omega)) ?_)
        refine l_end ?_
        refine e_fresh z33.put ?_
        intro a34 z34 m34
        have s6_34 := m34 _ _ (s6_33.ne rfl)
        have s52_34 := m34 _ _ (s52_33.ne rfl)
        have s53_34 := m34 _ _ (s53_33.ne rfl)
        have s54_34 := m34 _ _ (At.hit z33 rfl)
        clear m34
        refine e_then ?_
        refine c_seq ?_
        refine c_true s54_34 ?_
        refine wp_skip ?_
        refine e_then ?_
        refine c_seq ?_
        refine wp_block ?_
        refine c_seq ?_
        refine c_region ?_
        refine l_q rfl (q_index (j := k) (.int .u32 ((cl (chF c l m n)).getD k 0)) rfl Try.underlying40 (run_sizeOf1 sz30) (part_nums Try.underlying30 k (by rw [(cl_len (chF c l m n))]; omega)) s52_34.ev s53_34.ev (by omega) ?_)
        refine l_q rfl (q_assign _ _ rfl (At.hit z34 rfl).ev ?_)
        refine l_end ?_
        refine e_fresh z34.put.put ?_
        intro a35 z35 m35
        have s6_35 := m35 _ _ ((s6_34.ne rfl).ne rfl)
        have s8_35 := m35 _ _ (At.hit z34.put rfl)
        have s52_35 := m35 _ _ ((s52_34.ne rfl).ne rfl)
        have s53_35 := m35 _ _ ((s53_34.ne rfl).ne rfl)
        clear m35
        refine e_then ?_
        refine c_region ?_
        refine l_q rfl (q_move _ _ rfl s6_35.ev ?_)
        refine l_q rfl (q_move _ _ rfl (s8_35.ne rfl).ev ?_)
        refine l_q rfl (q_shr (((cl (chF c l m n)).getD k 0).fdiv (2 ^ min (24 : Int).toNat 32)) rfl (At.hit z35.put rfl).ev rfl (by first | omega | exact u64_nonneg _) rfl ?_)
        refine l_q rfl (q_conv _ rfl (At.hit z35.put.put rfl).ev Try.underlying30 Try.underlying5 rfl ?_)
        refine l_q rfl (q_move _ _ rfl ((((s8_35.ne rfl).ne rfl).ne rfl).ne rfl).ev ?_)
        refine l_q rfl (q_shr (((cl (chF c l m n)).getD k 0).fdiv (2 ^ min (16 : Int).toNat 32)) rfl (At.hit z35.put.put.put.put rfl).ev rfl (by first | omega | exact u64_nonneg _) rfl ?_)
        refine l_q rfl (q_conv _ rfl (At.hit z35.put.put.put.put.put rfl).ev Try.underlying30 Try.underlying5 rfl ?_)
        refine l_q rfl (q_move _ _ rfl (((((((s8_35.ne rfl).ne rfl).ne rfl).ne rfl).ne rfl).ne rfl).ne rfl).ev ?_)
        refine l_fresh z35.put.put.put.put.put.put.put.put ?_
        intro a36 z36 m36
        have s6_36 := m36 _ _ ((((((((s6_35.ne rfl).ne rfl).ne rfl).ne rfl).ne rfl).ne rfl).ne rfl).ne rfl)
        have s8_36 := m36 _ _ ((((((((s8_35.ne rfl).ne rfl).ne rfl).ne rfl).ne rfl).ne rfl).ne rfl).ne rfl)
        have s52_36 := m36 _ _ ((((((((s52_35.ne rfl).ne rfl).ne rfl).ne rfl).ne rfl).ne rfl).ne rfl).ne rfl)
        have s53_36 := m36 _ _ ((((((((s53_35.ne rfl).ne rfl).ne rfl).ne rfl).ne rfl).ne rfl).ne rfl).ne rfl)
        have s56_36 := m36 _ _ ((((((((At.hit z35 rfl).ne rfl).ne rfl).ne rfl).ne rfl).ne rfl).ne rfl).ne rfl)
        have s59_36 := m36 _ _ (((((At.hit z35.put.put.put rfl).ne rfl).ne rfl).ne rfl).ne rfl)
        have s62_36 := m36 _ _ ((At.hit z35.put.put.put.put.put.put rfl).ne rfl)
        have s63_36 := m36 _ _ (At.hit z35.put.put.put.put.put.put.put rfl)
        clear m36
        refine l_q rfl (q_shr (((cl (chF c l m n)).getD k 0).fdiv (2 ^ min (8 : Int).toNat 32)) rfl s63_36.ev rfl (by first | omega | exact u64_nonneg _) rfl ?_)
        refine l_q rfl (q_conv _ rfl (At.hit z36 rfl).ev Try.underlying30 Try.underlying5 rfl ?_)
        refine l_q rfl (q_move _ _ rfl ((s8_36.ne rfl).ne rfl).ev ?_)
        refine l_q rfl (q_conv _ rfl (At.hit z36.put.put rfl).ev Try.underlying30 Try.underlying5 rfl ?_)
        refine l_build4 rfl rfl Try.underlying63 byte5 ((((s59_36.ne rfl).ne rfl).ne rfl).ne rfl).ev ((((s62_36.ne rfl).ne rfl).ne rfl).ne rfl).ev (((At.hit z36.put rfl).ne rfl).ne rfl).ev (At.hit z36.put.put.put rfl).ev ?_
        intro g68_37 w37 hg37 k37 h37
        have geg68_37 := Nat.le_trans low33.ge hg37
        have ox6_37 := ox6_33.low h37
        refine l_appR (B := w0.heap.size) (ys := [IntKind.u8.wrap (((cl (chF c l m n)).getD k 0).fdiv (2 ^ min (24 : Int).toNat 32)), IntKind.u8.wrap (((cl (chF c l m n)).getD k 0).fdiv (2 ^ min (16 : Int).toNat 32)), IntKind.u8.wrap (((cl (chF c l m n)).getD k 0).fdiv (2 ^ min (8 : Int).toNat 32)), IntKind.u8.wrap ((cl (chF c l m n)).getD k 0)]) rfl rfl Try.underlying63 Try.underlying63 byte5 (((((s56_36.ne rfl).ne rfl).ne rfl).ne rfl).ne rfl).ev (At.hit z36.put.put.put.put rfl).ev k37 ox6_37 (low33.trans h37).ge (by rw [(outR_len _ k)]; simp only [List.length_cons, List.length_nil]; omega) ?_
        intro v38 w38 o38 gr38
        have lw38 := (low33.trans h37).gr gr38
        refine l_q rfl (q_assign _ _ rfl (At.hit z36.put.put.put.put.put rfl).ev ?_)
        refine l_end ?_
        refine e_fresh z36.put.put.put.put.put.put.put ?_
        intro a39 z39 m39
        have s6_39 := m39 _ _ (At.hit z36.put.put.put.put.put.put rfl)
        have s52_39 := m39 _ _ (((((((s52_36.ne rfl).ne rfl).ne rfl).ne rfl).ne rfl).ne rfl).ne rfl)
        have s53_39 := m39 _ _ (((((((s53_36.ne rfl).ne rfl).ne rfl).ne rfl).ne rfl).ne rfl).ne rfl)
        have low39 := lw38
        clear m39
        refine e_in ?_
        refine e_then ?_
        refine c_region ?_
        refine l_q rfl (q_add (((k + 1 : Nat) : Int)) rfl s53_39.ev rfl (i64_is (by omega) (by omega) (by omega)) ?_)
        refine l_q rfl (q_move _ _ rfl (At.hit z39 rfl).ev ?_)
        refine l_end ?_
        refine e_fresh z39.put.put ?_
        intro a40 z40 m40
        have s6_40 := m40 _ _ ((s6_39.ne rfl).ne rfl)
        have s52_40 := m40 _ _ ((s52_39.ne rfl).ne rfl)
        have s53_40 := m40 _ _ (At.hit z39.put rfl)
        clear m40
        exact ⟨v38, z40, s6_40, s52_40, s53_40, o38, low39⟩
      · intro a41 w41 h
        obtain ⟨v6_41, z41, s6_41, s52_41, s53_41, ox6_41, low41⟩ := h
        clear low29 s52_32 s53_32 s6_32 z32
        refine c_seq ?_
        refine c_region ?_
        refine l_q rfl (q_lss false rfl s53_41.ev rfl (decide_eq_false (by omega)) ?_)
        refine l_end ?_
        refine e_fresh z41.put ?_
        intro a42 z42 m42
        have s6_42 := m42 _ _ (s6_41.ne rfl)
        have s52_42 := m42 _ _ (s52_41.ne rfl)
        have s53_42 := m42 _ _ (s53_41.ne rfl)
        have s54_42 := m42 _ _ (At.hit z41 rfl)
        clear m42
        refine e_then ?_
        refine c_seq ?_
        refine c_false s54_42 ?_
        refine wp_exit ?_
        refine x_then ?_
        refine x_then ?_
        refine in_exit ?_
        refine e_then ?_
        refine c_seq ?_
        refine c_region ?_
        refine l_q rfl (q_move _ _ rfl s6_42.ev ?_)
        refine l_q rfl (q_str rfl Try.underlying63 Try.underlying5 Try.underlying9 (At.hit z42 rfl).ev (fun _ e => by rw [e]; exact ox6_41) ?_)
        refine l_q rfl (q_assign _ _ rfl (At.hit z42.put rfl).ev ?_)
        refine l_end ?_
        refine e_fresh z42.put.put.put ?_
        intro a43 z43 m43
        have s2_43 := m43 _ _ (At.hit z42.put.put rfl)
        clear m43
        refine e_then ?_
        refine wp_ret ?_
        refine r_tmp rfl z43.defers s2_43 ?_
        exact ⟨rfl, low41⟩
def L1 (x : ByteArray) : List Int := [] ++ bytesOf x
theorem L1_len (x : ByteArray) : (L1 x).length = x.size := bytesOf_length x
def ch1 (x : ByteArray) : Ch := chB first (L1 x) ((0 + x.size) / 64)
def rest1 (x : ByteArray) : List Int := (L1 x).drop (64 * ((0 + x.size) / 64))
theorem rest1_len (x : ByteArray) : (rest1 x).length = x.size % 64 := by
  rw [rest1, List.length_drop, L1_len]
  omega
def n1 (x : ByteArray) : Int := IntKind.u64.wrap (0 + IntKind.u64.wrap ((x.size : Nat) : Int))
def sumL (x : ByteArray) : ByteArray := strOfNums (outR (chF (ch1 x) (rest1 x) (x.size % 64) (n1 x)) 5)
theorem SumL.calls (x : ByteArray) (hx : x.size ≤ 140737488350000) (gp : Nat) (w0 : World) (kp : w0.heap[gp]? = some (.cells #[.string x] 9)) : Calls Try.prog 26 #[.slice (some ⟨gp, 0, none⟩) 1 1] w0 fun e w' => e = .returned (.string (sumL x)) ∧ Low w0 w' := by
  refine c_fun (R := _) Try.func26 rfl 10 rfl (Nat.le_of_ble_eq_true rfl) ?_
  intro a z hA
  have s0 := hA 0 _ rfl
  clear hA
  refine c_seq ?_
  refine c_region ?_
  refine l_q rfl (q_assign _ _ rfl rfl ?_)
  refine l_end ?_
  refine e_fresh z.put ?_
  intro a1 z1 m1
  have s0_1 := m1 _ _ (s0.ne rfl)
  clear m1
  refine e_then ?_
  refine c_seq ?_
  refine c_region ?_
  refine l_call _ rfl rfl rfl Try.func36 rfl (show Array.map _ _ = (#[] : Array Value) from by simp) (New.calls _) ?_
  rintro _ w2 ⟨gx, rfl, hgx, kgx, h2⟩
  have gegx := Nat.le_trans (Low.refl _).ge hgx
  have ngp := Nat.ne_of_lt (Nat.lt_of_lt_of_le (heap_lt kp) hgx)
  have kgp_2 := h2.blk kp
  refine l_q rfl (q_assign _ _ rfl (At.hit z1 rfl).ev ?_)
  refine l_end ?_
  refine e_fresh z1.put.put ?_
  intro a3 z3 m3
  have s0_3 := m3 _ _ ((s0_1.ne rfl).ne rfl)
  have s3_3 := m3 _ _ (At.hit z1.put rfl)
  have low3 := h2
  clear m3
  refine e_then ?_
  refine c_seq ?_
  refine c_region ?_
  refine l_q rfl (q_move _ _ rfl s3_3.ev ?_)
  refine l_q rfl (q_move _ _ rfl (s0_3.ne rfl).ev ?_)
  refine l_call _ rfl rfl rfl Try.func37 rfl (args2 rfl ((At.hit z3 rfl).ne rfl).ev (At.hit z3.put rfl).ev) (Write.calls first (.slice none 0 0) [] 0 rfl (by decide) 0 x hx gx gp ngp w0 _ low3 gegx kgx kgp_2 (OwnB.nil _ _ _)) ?_
  rintro _ w4 ⟨u4, k4, o4, low4⟩
  refine l_end ?_
  refine e_fresh z3.put.put.put ?_
  intro a5 z5 m5
  have s3_5 := m5 _ _ (((s3_3.ne rfl).ne rfl).ne rfl)
  clear m5
  refine e_then ?_
  refine c_seq ?_
  refine c_region ?_
  refine l_q rfl (q_move _ _ rfl s3_5.ev ?_)
  refine l_call (fun v w' => v = .string (sumL x) ∧ Low w4 w') rfl rfl rfl Try.func38 rfl (args1 rfl (At.hit z5 rfl).ev) ((SumS.calls (ch1 x) _ (rest1 x) (x.size % 64) (rest1_len x) (Nat.mod_lt _ (by decide)) (n1 x) gx _ k4 o4).mono fun _ _ ⟨e, k⟩ => ⟨_, e, rfl, k⟩) ?_
  rintro _ w6 ⟨rfl, h6⟩
  have kgx_6 := h6.blk k4
  have orw_6 := o4.low h6
  refine l_q rfl (q_assign _ _ rfl (At.hit z5.put rfl).ev ?_)
  refine l_end ?_
  refine e_fresh z5.put.put.put ?_
  intro a7 z7 m7
  have s2_7 := m7 _ _ (At.hit z5.put.put rfl)
  have low7 := (low4.trans h6)
  clear m7
  refine e_then ?_
  refine wp_ret ?_
  refine r_tmp rfl z7.defers s2_7 ?_
  exact ⟨rfl, low7⟩
end Go.Proofs.Ytffhmlnklohbdaa.Q
end
/-! V0 -/
section
namespace Go.Proofs.Ytffhmlnklohbdaa.Q
open Go.RowKit Go.Proofs.Ytffhmlnklohbdaa.P Go.Proofs.YtffhmlnklohbdaaW.PrintWords
def vl : List (Int × Int × Int) := [(1, 43, 0), (1, 44, 0), (1, 45, 0), (1, 46, 0), (1, 47, 0), (1, 48, 0), (1, 49, 0), (1, 50, 0), (1, 51, 0), (2, 45, 0), (2, 46, 0), (2, 47, 0), (2, 48, 0), (2, 49, 0), (2, 50, 0), (2, 51, 0), (2, 52, 0), (2, 53, 0), (2, 54, 0), (2, 55, 0), (2, 56, 0)]
def vT (j : Nat) : Int := (vl.getD j (0, 0, 0)).1
def vK (j : Nat) : Int := (vl.getD j (0, 0, 0)).2.1
def vB (j : Nat) : Int := (vl.getD j (0, 0, 0)).2.2
def VecAt (cur : Array Value) : Prop := 63 ≤ cur.size ∧ ∀ j, j < 21 → (cur.toList.drop (j * 3)).take 3 = [.int .i64 (vT j), .int .i64 (vK j), .int .i64 (vB j)]
theorem vecAt_of {α : Type} {R : α → List Value → Prop} {E : TypeId} {w : World} {B : Nat} {v : Value} {xs : List α} (hl : xs.length = 21) (h : OwnRow R E 3 w B v xs) (f : α → Int × Int × Int) (hR : ∀ x cs, R x cs → cs = [.int .i64 (f x).1, .int .i64 (f x).2.1, .int .i64 (f x).2.2]) (hf : xs.map f = vl) :
    ∃ g cap cur, v = .slice (some ⟨g, 0, none⟩) 21 cap ∧ B ≤ g ∧ w.heap[g]? = some (.cells cur E) ∧ VecAt cur := by
  obtain ⟨inner, ho, h1, h2⟩ := h
  rw [hl] at ho
  rcases ho.2 with ⟨_, h0⟩ | ⟨g, cap, cur, rfl, hg, hh, hc, hm, hs, ht⟩
  · omega
  · refine ⟨g, cap, cur, rfl, hg, hh, by omega, fun j hj => ?_⟩
    have hx : xs[j]? = some xs[j] := List.getElem?_eq_getElem (by omega)
    have := hR _ _ (h2 j _ hx)
    rw [← ht] at this
    have e : ((cur.toList.take (21 * 3)).drop (j * 3)).take 3 = (cur.toList.drop (j * 3)).take 3 := by
      rw [List.drop_take, List.take_take]
      congr 1
      omega
    rw [e] at this
    rw [this]
    have hv : vl.getD j (0, 0, 0) = f xs[j] := by
      rw [← hf, List.getD_eq_getElem?_getD, List.getElem?_map, hx]
      rfl
    unfold vT vK vB
    rw [hv]
theorem VecsL.calls (w0 : World) : Calls Try.prog 7 #[] w0 fun e w' => ∃ v, e = .returned v ∧ ∃ g cap cur, v = .slice (some ⟨g, 0, none⟩) 21 cap ∧ w0.heap.size ≤ g ∧ w'.heap[g]? = some (.cells cur 23) ∧ VecAt cur ∧ Low w0 w' :=
  (detect_Vectors.calls 30 (vl.map fun x => ⟨x.1, x.2.1, x.2.2⟩) w0 (by kernel_rfl)).mono fun e w' ⟨v, he, hR, hb⟩ => by
    obtain ⟨g, cap, cur, h1, h2, h3, h4⟩ := vecAt_of (by simp [vl]) hR.2 (fun x : S23 => (x.f0, x.f1, x.f2)) (fun x cs h => k23_openM h) (by rfl)
    exact ⟨v, he, g, cap, cur, h1, h2, h3, h4, hb⟩
theorem VecsR.calls (w0 : World) : Calls Try.prog 8 #[] w0 fun e w' => ∃ v, e = .returned v ∧ ∃ g cap cur, v = .slice (some ⟨g, 0, none⟩) 21 cap ∧ w0.heap.size ≤ g ∧ w'.heap[g]? = some (.cells cur 29) ∧ VecAt cur ∧ Low w0 w' :=
  (diptychref05_Vectors.calls (vl.map fun x => ⟨x.1, x.2.1, x.2.2⟩) w0 rfl).mono fun e w' ⟨v, he, hR, hb⟩ => by
    obtain ⟨g, cap, cur, h1, h2, h3, h4⟩ := vecAt_of (by simp [vl]) hR.2 (fun x : S29 => (x.f0, x.f1, x.f2)) (fun x cs h => k29_openM h) (by rfl)
    exact ⟨v, he, g, cap, cur, h1, h2, h3, h4, hb⟩
/-- the first k differences, one behind the other -/
def AL (j : Nat) : List Int := differenceL (vT j) (vK j) (vB j)
theorem AL_len (j : Nat) : (AL j).length = 80 := differenceL_len _ _ _
def flatAL : Nat → List Int
  | 0 => []
  | k + 1 => flatAL k ++ AL k
theorem flatAL_len : ∀ k, (flatAL k).length = 80 * k
  | 0 => rfl
  | k + 1 => by rw [flatAL, List.length_append, flatAL_len k, AL_len]; omega
theorem flatAL_get : ∀ n i j, i < n → j < 80 → (flatAL n)[i * 80 + j]? = (AL i)[j]?
  | 0, i, j, h, _ => absurd h (Nat.not_lt_zero i)
  | n + 1, i, j, h, hj => by
    rw [flatAL]
    rcases Nat.lt_succ_iff_lt_or_eq.1 h with h' | h'
    · rw [List.getElem?_append_left (by rw [flatAL_len]; omega)]
      exact flatAL_get n i j h' hj
    · subst h'
      rw [List.getElem?_append_right (by rw [flatAL_len]; omega), flatAL_len]
      congr 1
      omega
def AllAt (cur : Array Value) : Prop := ∀ i j, i < 21 → j < 80 → cur[i * 80 + j]? = some (.int .u32 ((AL i).getD j 0))
theorem allAt_of {w : World} {B : Nat} {E : TypeId} {v : Value} (h : OwnW w B E v 21 (flatAL 21)) : ∃ g cap cur, v = .slice (some ⟨g, 0, none⟩) 21 cap ∧ B ≤ g ∧ w.heap[g]? = some (.cells cur E) ∧ AllAt cur := by
  rcases h.2 with ⟨_, h0⟩ | ⟨g, cap, cur, rfl, hg, hh, hc, hm, hs, ht⟩
  · omega
  · refine ⟨g, cap, cur, rfl, hg, hh, fun i j hi hj => ?_⟩
    have h1 : (cur.toList.take (21 * 80))[i * 80 + j]? = ((flatAL 21).map (Value.int .u32))[i * 80 + j]? := by rw [ht]
    rw [List.getElem?_take, if_pos (by omega), List.getElem?_map, flatAL_get 21 i j hi hj] at h1
    rw [← Array.getElem?_toList, h1]
    have hj' : j < (AL i).length := by rw [AL_len]; exact hj
    simp [List.getD_eq_getElem?_getD, hj']
theorem AllAt.rd {w : World} {g : Nat} {cur : Array Value} {T : TypeId} (k : w.heap[g]? = some (.cells cur T)) (h : AllAt cur) {i : Nat} (hi : i < 21) : RdW w g (i * 80) (AL i) :=
  ⟨heap_lt k, fun j hj => by rw [cells_at k]; exact h i j hi (by rw [AL_len] at hj; exact hj)⟩
end Go.Proofs.Ytffhmlnklohbdaa.Q
end
/-! V1 -/
section
namespace Go.Proofs.Ytffhmlnklohbdaa.Q
open Go.RowKit Go.Proofs.Ytffhmlnklohbdaa.P
set_option linter.unusedVariables false
set_option linter.unusedSimpArgs false
set_option maxRecDepth 100000
set_option maxHeartbeats 4000000
attribute [local irreducible] wpList wpQuiet qch Code.wp Oper.quiet Act.put At Region.wanted yielded
theorem zero23 : ∀ w, (zeroValue 23).run Try.prog w = .ok (.agg #[.int .i64 0, .int .i64 0, .int .i64 0]) w := fun w => by kernel_rfl
theorem words32 : wordsB Try.prog 32 = true := by kernel_rfl
def fB (s : ByteArray) (b : Nat) : ByteArray := (fillL s).extract (64 * b) (fillL s).size
theorem fillL_size (s : ByteArray) : (fillL s).size = s.size + 1 + (120 - (s.size + 1) % 64) % 64 + 8 := fL_size s 8
theorem fillL_mod (s : ByteArray) : (fillL s).size % 64 = 0 := by rw [fillL_size]; omega
theorem fB_zero (s : ByteArray) : fillL s = fB s 0 := by unfold fB; simp
theorem fB_size (s : ByteArray) (b : Nat) : (fB s b).size = (fillL s).size - 64 * b := by rw [fB, ByteArray.size_extract]; omega
theorem fB_next (s : ByteArray) (b : Nat) (h : b < (fillL s).size / 64) : (fB s b).extract 64 (fB s b).size = fB s (b + 1) := by
  rw [fB_size]
  unfold fB
  rw [ByteArray.extract_extract]
  congr 1
  omega
theorem fB_ne (s : ByteArray) (b : Nat) (h : b < (fillL s).size / 64) : (!((fB s b).toList == (⟨#[]⟩ : ByteArray).toList)) = true := by
  have hne : (fB s b).toList ≠ (⟨#[]⟩ : ByteArray).toList := fun e => by
    have h1 := congrArg List.length e
    rw [Lib.toList_data, Lib.toList_data, Array.length_toList, Array.length_toList] at h1
    have h2 : (fB s b).size = 0 := h1
    rw [fB_size] at h2
    omega
  simpa using hne
theorem fB_no (s : ByteArray) : (!((fB s ((fillL s).size / 64)).toList == (⟨#[]⟩ : ByteArray).toList)) = false := by
  have h0 : (fB s ((fillL s).size / 64)) = ⟨#[]⟩ := by
    have h1 := fB_size s ((fillL s).size / 64)
    have h2 := fillL_mod s
    have h3 : (fB s ((fillL s).size / 64)).size = 0 := by omega
    generalize fB s ((fillL s).size / 64) = x at h3
    obtain ⟨⟨l⟩⟩ := x
    have h4 : l.length = 0 := h3
    rw [List.eq_nil_of_length_eq_zero h4]
  rw [h0]
  simp
def cS (s : ByteArray) : Nat → Ch
  | 0 => first
  | b + 1 => prL (cS s b) (fB s b)
def mrow (s : ByteArray) (b : Nat) (m0 : Bool) : Nat → Bool
  | 0 => m0
  | i + 1 => mrow s b m0 i || meetsL (cS s b) (expandL (fB s b)) (AL i)
def mblk (s : ByteArray) : Nat → Bool
  | 0 => false
  | b + 1 => mrow s b (mblk s b) 21
theorem mrow_yes {s : ByteArray} {b : Nat} {m0 : Bool} {i : Nat} (h : mrow s b m0 i = true) : true = mrow s b m0 (i + 1) := by rw [mrow, h]; rfl
theorem mrow_no {s : ByteArray} {b : Nat} {m0 : Bool} {i : Nat} (h : mrow s b m0 i = false) : meetsL (cS s b) (expandL (fB s b)) (AL i) = mrow s b m0 (i + 1) := by rw [mrow, h]; rfl
theorem ScanL.calls (s : ByteArray) (hs : s.size ≤ 140737488350000) (w0 : World) : Calls Try.prog 11 #[.string s] w0 fun e w' => e = .returned (.tuple #[.string (sumL s), .bool (mblk s ((fillL s).size / 64))]) ∧ Low w0 w' := by
  refine c_fun (R := _) Try.func11 rfl 54 rfl (Nat.le_of_ble_eq_true rfl) ?_
  intro a z hA
  have s0 := hA 0 _ rfl
  clear hA
  refine c_seq ?_
  refine c_region ?_
  refine l_q rfl (q_assign _ _ rfl rfl ?_)
  refine l_q rfl (q_assign _ _ rfl rfl ?_)
  refine l_end ?_
  refine e_fresh z.put.put ?_
  intro a1 z1 m1
  have s0_1 := m1 _ _ ((s0.ne rfl).ne rfl)
  clear m1
  refine e_then ?_
  refine c_seq ?_
  refine c_region ?_
  refine l_q rfl (q_assign _ _ rfl rfl ?_)
  refine l_end ?_
  refine e_fresh z1.put ?_
  intro a2 z2 m2
  have s0_2 := m2 _ _ (s0_1.ne rfl)
  have s4_2 := m2 _ _ (At.hit z1 rfl)
  clear m2
  refine e_then ?_
  refine c_seq ?_
  refine c_seq ?_
  refine c_region ?_
  refine l_call _ rfl rfl rfl Try.func7 rfl (show Array.map _ _ = (#[] : Array Value) from by simp) (VecsL.calls _) ?_
  rintro _ w3 ⟨gv, capv, curv, rfl, hgv, kv, hcv, h3⟩
  have gegv := Nat.le_trans (Low.refl _).ge hgv
  refine l_q rfl (q_lenL rfl rfl Try.underlying25 (At.hit z2 rfl).ev ?_)
  refine l_q rfl (q_move _ _ rfl rfl ?_)
  refine l_end ?_
  refine e_fresh z2.put.put.put ?_
  intro a4 z4 m4
  have s0_4 := m4 _ _ (((s0_2.ne rfl).ne rfl).ne rfl)
  have s4_4 := m4 _ _ (((s4_2.ne rfl).ne rfl).ne rfl)
  have s12_4 := m4 _ _ (((At.hit z2 rfl).ne rfl).ne rfl)
  have s13_4 := m4 _ _ ((At.hit z2.put rfl).ne rfl)
  have s14_4 := m4 _ _ (At.hit z2.put.put rfl)
  have low4 := h3
  clear m4
  refine e_then ?_
  refine wp_block ?_
  refine c_loop 21 (fun k a w => ∃ v4 : Value, Fr 54 a ∧ At a 0 (.string s) ∧ At a 4 (v4) ∧ At a 12 (.slice (some ⟨gv, 0, none⟩) 21 capv) ∧ At a 13 (.int .i64 21) ∧ At a 14 (.int .i64 ((k : Nat) : Int)) ∧ w.heap[gv]? = some (.cells (curv) 23) ∧ OwnW w w0.heap.size 32 v4 k (flatAL k) ∧ Low w0 w) ?_ ?_ ?_
  · exact ⟨.slice none 0 0, z4, s0_4, s4_4, s12_4, s13_4, s14_4, kv, (OwnW.nil _ _ _), low4⟩
  · intro k a5 w5 hk5 h
    obtain ⟨v4_5, z5, s0_5, s4_5, s12_5, s13_5, s14_5, kgv_5, ox4_5, low5⟩ := h
    clear kv low4 s0_4 s12_4 s13_4 s14_4 s4_4 z4
    refine c_seq ?_
    refine c_region ?_
    refine l_q rfl (q_lss true rfl s14_5.ev s13_5.ev (decide_eq_true (by omega)) ?_)
    refine l_end ?_
    refine e_fresh z5.put ?_
    intro a6 z6 m6
    have s0_6 := m6 _ _ (s0_5.ne rfl)
    have s4_6 := m6 _ _ (s4_5.ne rfl)
    have s12_6 := m6 _ _ (s12_5.ne rfl)
    have s13_6 := m6 _ _ (s13_5.ne rfl)
    have s14_6 := m6 _ _ (s14_5.ne rfl)
    have s15_6 := m6 _ _ (At.hit z5 rfl)
    clear m6
    refine e_then ?_
    refine c_seq ?_
    refine c_true s15_6 ?_
    refine wp_skip ?_
    refine e_then ?_
    refine c_seq ?_
    refine wp_block ?_
    refine c_seq ?_
    refine c_region ?_
    refine l_q rfl (q_idxSz (j := k) (sz := 3) rfl Try.underlying25 sz23 s12_6.ev s14_6.ev (by omega) ?_)
    refine l_q rfl (q_mid (vs := #[.int .i64 (vT k), .int .i64 (vK k), .int .i64 (vB k)]) rfl Try.underlying23 rfl sz23 (At.hit z6 rfl).ev (fun _ e => by rw [e]; exact kgv_5) (hcv.2 k (by omega)) ?_)
    refine l_alloc rfl rfl zero23 ?_
    intro g6 w7 hg7 k7 h7
    have lt_gv_g6 := Nat.lt_of_lt_of_le (heap_lt kgv_5) hg7
    have geg6 := Nat.le_trans low5.ge hg7
    have kgv_7 := h7.blk kgv_5
    have ox4_7 := ox4_5.low h7
    refine l_row rfl rfl rfl (sz23.trans (congrArg some rfl.symm)) (At.hit z6.put.put rfl).ev ((At.hit z6.put rfl).ne rfl).ev (by simp [Value.oneCell']) k7 (rfl.trans rfl.symm) ?_
    intro w8 k8 u8
    have ox4_8 := ox4_7.upd u8 k7 rfl
    have kgv_8 := u8.blk kgv_7 (by omega)
    refine l_end ?_
    refine e_fresh z6.put.put.put ?_
    intro a9 z9 m9
    have s0_9 := m9 _ _ (((s0_6.ne rfl).ne rfl).ne rfl)
    have s4_9 := m9 _ _ (((s4_6.ne rfl).ne rfl).ne rfl)
    have s6_9 := m9 _ _ (At.hit z6.put.put rfl)
    have s12_9 := m9 _ _ (((s12_6.ne rfl).ne rfl).ne rfl)
    have s13_9 := m9 _ _ (((s13_6.ne rfl).ne rfl).ne rfl)
    have s14_9 := m9 _ _ (((s14_6.ne rfl).ne rfl).ne rfl)
    have low9 := ((low5.trans h7).upd u8 geg6)
    clear m9
    refine e_then ?_
    refine c_region ?_
    refine l_q rfl (q_move _ _ rfl s4_9.ev ?_)
    refine l_q rfl (q_row rfl Try.underlying23 rfl (sz23.trans (congrArg some rfl.symm)) (s6_9.ne rfl).ev (fun _ e => by rw [e]; exact k8) ?_)
    refine l_call (fun v w' => v = .agg (nums .u32 (AL k)) ∧ Low w8 w') rfl rfl rfl Try.func9 rfl (args1 rfl (At.hit z9.put rfl).ev) ((DifferenceL.calls (vT k) (vK k) (vB k) _).mono fun _ _ ⟨e, k⟩ => ⟨_, e, rfl, k⟩) ?_
    rintro _ w10 ⟨rfl, h10⟩
    have kgv_10 := h10.blk kgv_8
    have kg6_10 := h10.blk k8
    have ox4_10 := ox4_8.low h10
    refine l_buildW rfl rfl Try.underlying53 words32 (At.hit z9.put.put rfl).ev (AL_len k) ?_
    intro g21_11 w11 hg11 k11 h11
    have lt_gv_g21_11 := Nat.lt_of_lt_of_le (heap_lt kgv_10) hg11
    have lt_g6_g21_11 := Nat.lt_of_lt_of_le (heap_lt kg6_10) hg11
    have geg21_11 := Nat.le_trans (low9.trans h10).ge hg11
    have kgv_11 := h11.blk kgv_10
    have kg6_11 := h11.blk kg6_10
    have ox4_11 := ox4_10.low h11
    refine l_appW (B := w0.heap.size) rfl rfl Try.underlying53 words32 ((((At.hit z9 rfl).ne rfl).ne rfl).ne rfl).ev (At.hit z9.put.put.put rfl).ev k11 (AL_len k) ox4_11 ((low9.trans h10).trans h11).ge (by omega) ?_
    intro v12 w12 o12 gr12
    have kgv_12 := gr12.blk kgv_11 rfl
    have kg6_12 := gr12.blk kg6_11 rfl
    have lw12 := ((low9.trans h10).trans h11).grw gr12
    refine l_q rfl (q_assign _ _ rfl (At.hit z9.put.put.put.put rfl).ev ?_)
    refine l_end ?_
    refine e_fresh z9.put.put.put.put.put.put ?_
    intro a13 z13 m13
    have s0_13 := m13 _ _ ((((((s0_9.ne rfl).ne rfl).ne rfl).ne rfl).ne rfl).ne rfl)
    have s4_13 := m13 _ _ (At.hit z9.put.put.put.put.put rfl)
    have s12_13 := m13 _ _ ((((((s12_9.ne rfl).ne rfl).ne rfl).ne rfl).ne rfl).ne rfl)
    have s13_13 := m13 _ _ ((((((s13_9.ne rfl).ne rfl).ne rfl).ne rfl).ne rfl).ne rfl)
    have s14_13 := m13 _ _ ((((((s14_9.ne rfl).ne rfl).ne rfl).ne rfl).ne rfl).ne rfl)
    have low13 := lw12
    clear m13
    refine e_in ?_
    refine e_then ?_
    refine c_region ?_
    refine l_q rfl (q_add (((k + 1 : Nat) : Int)) rfl s14_13.ev rfl (i64_is (by omega) (by omega) (by omega)) ?_)
    refine l_q rfl (q_move _ _ rfl (At.hit z13 rfl).ev ?_)
    refine l_end ?_
    refine e_fresh z13.put.put ?_
    intro a14 z14 m14
    have s0_14 := m14 _ _ ((s0_13.ne rfl).ne rfl)
    have s4_14 := m14 _ _ ((s4_13.ne rfl).ne rfl)
    have s12_14 := m14 _ _ ((s12_13.ne rfl).ne rfl)
    have s13_14 := m14 _ _ ((s13_13.ne rfl).ne rfl)
    have s14_14 := m14 _ _ (At.hit z13.put rfl)
    clear m14
    exact ⟨v12, z14, s0_14, s4_14, s12_14, s13_14, s14_14, kgv_12, o12, low13⟩
  · intro a15 w15 h
    obtain ⟨v4_15, z15, s0_15, s4_15, s12_15, s13_15, s14_15, kgv_15, ox4_15, low15⟩ := h
    clear kv low4 s0_4 s12_4 s13_4 s14_4 s4_4 z4
    refine c_seq ?_
    refine c_region ?_
    refine l_q rfl (q_lss false rfl s14_15.ev s13_15.ev (decide_eq_false (by omega)) ?_)
    refine l_end ?_
    refine e_fresh z15.put ?_
    intro a16 z16 m16
    have s0_16 := m16 _ _ (s0_15.ne rfl)
    have s4_16 := m16 _ _ (s4_15.ne rfl)
    have s12_16 := m16 _ _ (s12_15.ne rfl)
    have s14_16 := m16 _ _ (s14_15.ne rfl)
    have s15_16 := m16 _ _ (At.hit z15 rfl)
    clear m16
    refine e_then ?_
    refine c_seq ?_
    refine c_false s15_16 ?_
    refine wp_exit ?_
    refine x_then ?_
    refine x_then ?_
    refine in_exit ?_
    refine e_then ?_
    refine c_seq ?_
    obtain ⟨ga, capa, cura, ea, hga, ka, hca⟩ := allAt_of ox4_15
    subst ea
    refine c_region ?_
    refine l_call (fun v w' => v = .agg (nums .u32 (cl first)) ∧ Low w15 w') rfl rfl rfl Try.func23 rfl (show Array.map _ _ = (#[] : Array Value) from by simp) ((FirstL.calls _).mono fun _ _ ⟨e, k⟩ => ⟨_, e, rfl, k⟩) ?_
    rintro _ w17 ⟨rfl, h17⟩
    have kgv_17 := h17.blk kgv_15
    have kga_17 := h17.blk ka
    refine l_alloc rfl rfl zero40 ?_
    intro g7 w18 hg18 k18 h18
    have lt_gv_g7 := Nat.lt_of_lt_of_le (heap_lt kgv_17) hg18
    have lt_ga_g7 := Nat.lt_of_lt_of_le (heap_lt kga_17) hg18
    have geg7 := Nat.le_trans (low15.trans h17).ge hg18
    have kgv_18 := h18.blk kgv_17
    have kga_18 := h18.blk kga_17
    refine l_row rfl rfl rfl (sz40.trans (congrArg some ((nums_size _ _).trans (cl_len first)).symm)) (At.hit z16.put rfl).ev ((At.hit z16 rfl).ne rfl).ev (nums_one _ _) k18 (((nums_size _ _).trans (List.length_replicate)).trans ((nums_size _ _).trans (cl_len first)).symm) ?_
    intro w19 k19 u19
    have kgv_19 := u19.blk kgv_18 (by omega)
    have kga_19 := u19.blk kga_18 (by omega)
    refine l_end ?_
    refine e_fresh z16.put.put ?_
    intro a20 z20 m20
    have s0_20 := m20 _ _ ((s0_16.ne rfl).ne rfl)
    have s4_20 := m20 _ _ ((s4_16.ne rfl).ne rfl)
    have s7_20 := m20 _ _ (At.hit z16.put rfl)
    have low20 := (((low15.trans h17).trans h18).upd u19 geg7)
    clear m20
    refine e_then ?_
    refine c_seq ?_
    refine c_region ?_
    refine l_q rfl (q_assign _ _ rfl rfl ?_)
    refine l_end ?_
    refine e_fresh z20.put ?_
    intro a21 z21 m21
    have s0_21 := m21 _ _ (s0_20.ne rfl)
    have s4_21 := m21 _ _ (s4_20.ne rfl)
    have s7_21 := m21 _ _ (s7_20.ne rfl)
    have s8_21 := m21 _ _ (At.hit z20 rfl)
    clear m21
    refine e_then ?_
    refine c_seq ?_
    refine c_seq ?_
    refine c_region ?_
    refine l_q rfl (q_move _ _ rfl s0_21.ev ?_)
    refine l_call (fun v w' => v = .string (fillL s) ∧ Low w19 w') rfl rfl rfl Try.func24 rfl (args1 rfl (At.hit z21 rfl).ev) ((FillL.calls s hs _).mono fun _ _ ⟨e, k⟩ => ⟨_, e, rfl, k⟩) ?_
    rintro _ w22 ⟨rfl, h22⟩
    have kga_22 := h22.blk kga_19
    have kg7_22 := h22.blk k19
    refine l_q rfl (q_assign _ _ rfl (At.hit z21.put rfl).ev ?_)
    refine l_end ?_
    refine e_fresh z21.put.put.put ?_
    intro a23 z23 m23
    have s0_23 := m23 _ _ (((s0_21.ne rfl).ne rfl).ne rfl)
    have s4_23 := m23 _ _ (((s4_21.ne rfl).ne rfl).ne rfl)
    have s7_23 := m23 _ _ (((s7_21.ne rfl).ne rfl).ne rfl)
    have s8_23 := m23 _ _ (((s8_21.ne rfl).ne rfl).ne rfl)
    have s9_23 := m23 _ _ (At.hit z21.put.put rfl)
    have low23 := (low20.trans h22)
    clear m23
    refine e_then ?_
    refine wp_block ?_
    refine c_loop ((fillL s).size / 64) (fun b a w => Fr 54 a ∧ At a 0 (.string s) ∧ At a 4 (.slice (some ⟨ga, 0, none⟩) 21 capa) ∧ At a 7 (.pointer (some ⟨g7, 0, none⟩)) ∧ At a 8 (.bool (mblk s b)) ∧ At a 9 (.string (fB s b)) ∧ w.heap[g7]? = some (.cells (nums .u32 (cl (cS s b))) 40) ∧ w.heap[ga]? = some (.cells (cura) 32) ∧ Low w0 w) ?_ ?_ ?_
    · exact ⟨z23, s0_23, s4_23, s7_23, s8_23, (s9_23.same (congrArg Value.string (fB_zero s))), kg7_22, kga_22, low23⟩
    · intro b a24 w24 hk24 h
      obtain ⟨z24, s0_24, s4_24, s7_24, s8_24, s9_24, kg7_24, kga_24, low24⟩ := h
      clear kg7_22 kga_22 low23 s0_23 s4_23 s7_23 s8_23 z23
      have hfb := fB_size s b
      have hfs := fillL_size s
      refine c_seq ?_
      refine c_seq ?_
      refine c_region ?_
      refine l_q rfl (q_move _ _ rfl s9_24.ev ?_)
      refine l_q rfl (q_strne true rfl (At.hit z24 rfl).ev rfl (fB_ne s b (by assumption)) ?_)
      refine l_end ?_
      refine e_fresh z24.put.put ?_
      intro a25 z25 m25
      have s0_25 := m25 _ _ ((s0_24.ne rfl).ne rfl)
      have s4_25 := m25 _ _ ((s4_24.ne rfl).ne rfl)
      have s7_25 := m25 _ _ ((s7_24.ne rfl).ne rfl)
      have s8_25 := m25 _ _ ((s8_24.ne rfl).ne rfl)
      have s9_25 := m25 _ _ ((s9_24.ne rfl).ne rfl)
      have s28_25 := m25 _ _ (At.hit z24.put rfl)
      clear m25
      refine e_then ?_
      refine c_true s28_25 ?_
      refine wp_skip ?_
      refine e_then ?_
      refine c_seq ?_
      refine wp_block ?_
      refine c_seq ?_
      refine c_region ?_
      refine l_q rfl (q_move _ _ rfl s9_25.ev ?_)
      refine l_call (fun v w' => v = .agg (nums .u32 (expandL (fB s b))) ∧ Low w24 w') rfl rfl rfl Try.func15 rfl (args1 rfl (At.hit z25 rfl).ev) ((ExpandL.calls (fB s b) (by omega) _).mono fun _ _ ⟨e, k⟩ => ⟨_, e, rfl, k⟩) ?_
      rintro _ w26 ⟨rfl, h26⟩
      have kg7_26 := h26.blk kg7_24
      have kga_26 := h26.blk kga_24
      refine l_alloc rfl rfl zero32 ?_
      intro g10 w27 hg27 k27 h27
      have lt_g7_g10 := Nat.lt_of_lt_of_le (heap_lt kg7_26) hg27
      have lt_ga_g10 := Nat.lt_of_lt_of_le (heap_lt kga_26) hg27
      have geg10 := Nat.le_trans (low24.trans h26).ge hg27
      have kg7_27 := h27.blk kg7_26
      have kga_27 := h27.blk kga_26
      refine l_row rfl rfl rfl (sz32.trans (congrArg some ((nums_size _ _).trans (expandL_len _)).symm)) (At.hit z25.put.put rfl).ev ((At.hit z25.put rfl).ne rfl).ev (nums_one _ _) k27 (((nums_size _ _).trans (List.length_replicate)).trans ((nums_size _ _).trans (expandL_len _)).symm) ?_
      intro w28 k28 u28
      have kg7_28 := u28.blk kg7_27 (by omega)
      have kga_28 := u28.blk kga_27 (by omega)
      refine l_end ?_
      refine e_fresh z25.put.put.put ?_
      intro a29 z29 m29
      have s0_29 := m29 _ _ (((s0_25.ne rfl).ne rfl).ne rfl)
      have s4_29 := m29 _ _ (((s4_25.ne rfl).ne rfl).ne rfl)
      have s7_29 := m29 _ _ (((s7_25.ne rfl).ne rfl).ne rfl)
      have s8_29 := m29 _ _ (((s8_25.ne rfl).ne rfl).ne rfl)
      have s9_29 := m29 _ _ (((s9_25.ne rfl).ne rfl).ne rfl)
      have s10_29 := m29 _ _ (At.hit z25.put.put rfl)
      have low29 := (((low24.trans h26).trans h27).upd u28 geg10)
      clear m29
      refine e_then ?_
      refine c_seq ?_
      refine c_seq ?_
      refine c_region ?_
      refine l_q rfl (q_move _ _ rfl s4_29.ev ?_)
      refine l_q rfl (q_lenL rfl rfl Try.underlying53 (At.hit z29 rfl).ev ?_)
      refine l_q rfl (q_move _ _ rfl rfl ?_)
      refine l_end ?_
      refine e_fresh z29.put.put.put ?_
      intro a30 z30 m30
      have s0_30 := m30 _ _ (((s0_29.ne rfl).ne rfl).ne rfl)
      have s4_30 := m30 _ _ (((s4_29.ne rfl).ne rfl).ne rfl)
      have s7_30 := m30 _ _ (((s7_29.ne rfl).ne rfl).ne rfl)
      have s8_30 := m30 _ _ (((s8_29.ne rfl).ne rfl).ne rfl)
      have s9_30 := m30 _ _ (((s9_29.ne rfl).ne rfl).ne rfl)
      have s10_30 := m30 _ _ (((s10_29.ne rfl).ne rfl).ne rfl)
      have s34_30 := m30 _ _ ((At.hit z29.put rfl).ne rfl)
      have s35_30 := m30 _ _ (At.hit z29.put.put rfl)
      clear m30
      refine e_then ?_
      refine wp_block ?_
      refine c_loop 21 (fun i a w => Fr 54 a ∧ At a 0 (.string s) ∧ At a 4 (.slice (some ⟨ga, 0, none⟩) 21 capa) ∧ At a 7 (.pointer (some ⟨g7, 0, none⟩)) ∧ At a 8 (.bool (mrow s b (mblk s b) i)) ∧ At a 9 (.string (fB s b)) ∧ At a 10 (.pointer (some ⟨g10, 0, none⟩)) ∧ At a 34 (.int .i64 21) ∧ At a 35 (.int .i64 ((i : Nat) : Int)) ∧ w.heap[g10]? = some (.cells (nums .u32 (expandL (fB s b))) 32) ∧ w.heap[g7]? = some (.cells (nums .u32 (cl (cS s b))) 40) ∧ w.heap[ga]? = some (.cells (cura) 32) ∧ Low w0 w) ?_ ?_ ?_
      · exact ⟨z30, s0_30, s4_30, s7_30, s8_30, s9_30, s10_30, s34_30, s35_30, k28, kg7_28, kga_28, low29⟩
      · intro i a31 w31 hk31 h
        obtain ⟨z31, s0_31, s4_31, s7_31, s8_31, s9_31, s10_31, s34_31, s35_31, kg10_31, kg7_31, kga_31, low31⟩ := h
        clear k28 kg7_28 kga_28 low29 s0_30 s10_30 s34_30 s35_30 s4_30 s7_30 s8_30 s9_30 z30
        refine c_seq ?_
        refine c_region ?_
        refine l_q rfl (q_lss true rfl s35_31.ev s34_31.ev (decide_eq_true (by omega)) ?_)
        refine l_end ?_
        refine e_fresh z31.put ?_
        intro a32 z32 m32
        have s0_32 := m32 _ _ (s0_31.ne rfl)
        have s4_32 := m32 _ _ (s4_31.ne rfl)
        have s7_32 := m32 _ _ (s7_31.ne rfl)
        have s8_32 := m32 _ _ (s8_31.ne rfl)
        have s9_32 := m32 _ _ (s9_31.ne rfl)
        have s10_32 := m32 _ _ (s10_31.ne rfl)
        have s34_32 := m32 _ _ (s34_31.ne rfl)
        have s35_32 := m32 _ _ (s35_31.ne rfl)
        have s36_32 := m32 _ _ (At.hit z31 rfl)
        clear m32
        refine e_then ?_
        refine c_seq ?_
        refine c_true s36_32 ?_
        refine wp_skip ?_
        refine e_then ?_
        refine c_seq ?_
        refine wp_block ?_
        refine c_seq ?_
        refine c_region ?_
        refine l_q rfl (q_move _ _ rfl s35_32.ev ?_)
        refine l_q rfl (q_assign _ _ rfl (At.hit z32 rfl).ev ?_)
        refine l_end ?_
        refine e_fresh z32.put.put ?_
        intro a33 z33 m33
        have s0_33 := m33 _ _ ((s0_32.ne rfl).ne rfl)
        have s4_33 := m33 _ _ ((s4_32.ne rfl).ne rfl)
        have s7_33 := m33 _ _ ((s7_32.ne rfl).ne rfl)
        have s8_33 := m33 _ _ ((s8_32.ne rfl).ne rfl)
        have s9_33 := m33 _ _ ((s9_32.ne rfl).ne rfl)
        have s10_33 := m33 _ _ ((s10_32.ne rfl).ne rfl)
        have s11_33 := m33 _ _ (At.hit z32.put rfl)
        have s34_33 := m33 _ _ ((s34_32.ne rfl).ne rfl)
        have s35_33 := m33 _ _ ((s35_32.ne rfl).ne rfl)
        clear m33
        refine e_then ?_
        cases hc34 : mrow s b (mblk s b) i with
        | true =>
          have hs34 := s8_33.same (congrArg Value.bool hc34)
          refine region_lowg hm (by kernel_rfl) ?_
          refine gs rfl (q_move _ _ rfl hs34.ev ?_)
          refine gs rfl (q_move _ _ rfl (At.hit z33 rfl).ev ?_)
          refine gsk (wanted_is (j := 1) (d := 39) (b := true) rfl rfl (At.hit z33.put rfl) rfl) ?_
          refine gsk (wanted_is (j := 1) (d := 39) (b := true) rfl rfl ((At.hit z33.put rfl).ne rfl) rfl) ?_
          refine gsk (wanted_is (j := 1) (d := 39) (b := true) rfl rfl (((At.hit z33.put rfl).ne rfl).ne rfl) rfl) ?_
          refine gsk (wanted_is (j := 1) (d := 39) (b := true) rfl rfl ((((At.hit z33.put rfl).ne rfl).ne rfl).ne rfl) rfl) ?_
          refine gsk (wanted_is (j := 1) (d := 39) (b := true) rfl rfl (((((At.hit z33.put rfl).ne rfl).ne rfl).ne rfl).ne rfl) rfl) ?_
          refine gs rfl (q_pick (b := true) (.bool true) rfl ((((((At.hit z33.put rfl).ne rfl).ne rfl).ne rfl).ne rfl).ne rfl).ev rfl ?_)
          refine g_fresh z33.put.put.put.put.put.put.put.put ?_
          intro a35 z35 m35
          have s0_35 := m35 _ _ ((((((((s0_33.ne rfl).ne rfl).ne rfl).ne rfl).ne rfl).ne rfl).ne rfl).ne rfl)
          have s4_35 := m35 _ _ ((((((((s4_33.ne rfl).ne rfl).ne rfl).ne rfl).ne rfl).ne rfl).ne rfl).ne rfl)
          have s7_35 := m35 _ _ ((((((((s7_33.ne rfl).ne rfl).ne rfl).ne rfl).ne rfl).ne rfl).ne rfl).ne rfl)
          have s8_35 := m35 _ _ ((((((((hs34.ne rfl).ne rfl).ne rfl).ne rfl).ne rfl).ne rfl).ne rfl).ne rfl)
          have s9_35 := m35 _ _ ((((((((s9_33.ne rfl).ne rfl).ne rfl).ne rfl).ne rfl).ne rfl).ne rfl).ne rfl)
          have s10_35 := m35 _ _ ((((((((s10_33.ne rfl).ne rfl).ne rfl).ne rfl).ne rfl).ne rfl).ne rfl).ne rfl)
          have s34_35 := m35 _ _ ((((((((s34_33.ne rfl).ne rfl).ne rfl).ne rfl).ne rfl).ne rfl).ne rfl).ne rfl)
          have s35_35 := m35 _ _ ((((((((s35_33.ne rfl).ne rfl).ne rfl).ne rfl).ne rfl).ne rfl).ne rfl).ne rfl)
          have s45_35 := m35 _ _ (At.hit z33.put.put.put.put.put.put.put rfl)
          clear m35
          refine gs rfl (q_assign _ _ rfl s45_35.ev ?_)
          refine gz ?_
          intro w36 h36
          have kg10_36 := h36.blk kg10_31
          have kg7_36 := h36.blk kg7_31
          have kga_36 := h36.blk kga_31
          refine e_id ?_
          refine e_fresh z35.put ?_
          intro a37 z37 m37
          have s0_37 := m37 _ _ (s0_35.ne rfl)
          have s4_37 := m37 _ _ (s4_35.ne rfl)
          have s7_37 := m37 _ _ (s7_35.ne rfl)
          have s8_37 := m37 _ _ (At.hit z35 rfl)
          have s9_37 := m37 _ _ (s9_35.ne rfl)
          have s10_37 := m37 _ _ (s10_35.ne rfl)
          have s34_37 := m37 _ _ (s34_35.ne rfl)
          have s35_37 := m37 _ _ (s35_35.ne rfl)
          have low37 := (low31.trans h36)
          clear m37
          refine e_in ?_
          refine e_then ?_
          refine c_region ?_
          refine l_q rfl (q_add (((i + 1 : Nat) : Int)) rfl s35_37.ev rfl (i64_is (by omega) (by omega) (by omega)) ?_)
          refine l_q rfl (q_move _ _ rfl (At.hit z37 rfl).ev ?_)
          refine l_end ?_
          refine e_fresh z37.put.put ?_
          intro a38 z38 m38
          have s0_38 := m38 _ _ ((s0_37.ne rfl).ne rfl)
          have s4_38 := m38 _ _ ((s4_37.ne rfl).ne rfl)
          have s7_38 := m38 _ _ ((s7_37.ne rfl).ne rfl)
          have s8_38 := m38 _ _ ((s8_37.ne rfl).ne rfl)
          have s9_38 := m38 _ _ ((s9_37.ne rfl).ne rfl)
          have s10_38 := m38 _ _ ((s10_37.ne rfl).ne rfl)
          have s34_38 := m38 _ _ ((s34_37.ne rfl).ne rfl)
          have s35_38 := m38 _ _ (At.hit z37.put rfl)
          clear m38
          exact ⟨z38, s0_38, s4_38, s7_38, (s8_38.same (congrArg Value.bool (mrow_yes hc34))), s9_38, s10_38, s34_38, s35_38, kg10_36, kg7_36, kga_36, low37⟩
        | false =>
          have hs34 := s8_33.same (congrArg Value.bool hc34)
          refine region_lowg hm (by kernel_rfl) ?_
          refine gs rfl (q_move _ _ rfl hs34.ev ?_)
          refine gs rfl (q_move _ _ rfl (At.hit z33 rfl).ev ?_)
          refine gsg (wanted_is (j := 1) (d := 39) (b := false) rfl rfl (At.hit z33.put rfl) rfl) (q_row rfl Try.underlying40 rfl (sz40.trans (congrArg some ((nums_size _ _).trans (cl_len (cS s b))).symm)) ((s7_33.ne rfl).ne rfl).ev (fun _ h => h.blk kg7_31) ?_)
          refine gsg (wanted_is (j := 1) (d := 39) (b := false) rfl rfl ((At.hit z33.put rfl).ne rfl) rfl) (q_move _ _ rfl (((s4_33.ne rfl).ne rfl).ne rfl).ev ?_)
          refine gsg (wanted_is (j := 1) (d := 39) (b := false) rfl rfl (((At.hit z33.put rfl).ne rfl).ne rfl) rfl) (q_move _ _ rfl ((((s11_33.ne rfl).ne rfl).ne rfl).ne rfl).ev ?_)
          refine gsg (wanted_is (j := 1) (d := 39) (b := false) rfl rfl ((((At.hit z33.put rfl).ne rfl).ne rfl).ne rfl) rfl) (q_idxSz (j := i) (sz := 80) rfl Try.underlying53 sz32 ((At.hit z33.put.put.put rfl).ne rfl).ev (At.hit z33.put.put.put.put rfl).ev (by omega) ?_)
          refine gsg (wanted_is (j := 1) (d := 39) (b := false) rfl rfl (((((At.hit z33.put rfl).ne rfl).ne rfl).ne rfl).ne rfl) rfl) (q_call (.bool (meetsL (cS s b) (expandL (fB s b)) (AL i))) rfl rfl Try.func25 rfl (args3 rfl ((((At.hit z33.put.put rfl).ne rfl).ne rfl).ne rfl).ev ((((((s10_33.ne rfl).ne rfl).ne rfl).ne rfl).ne rfl).ne rfl).ev (At.hit z33.put.put.put.put.put rfl).ev) (fun _ h => (MeetsL.calls (cS s b) (expandL (fB s b)) (AL i) (expandL_len _) (AL_len i) g10 ga (i * 80) _ (h.blk kg10_31) (AllAt.rd (h.blk kga_31) hca (by omega))).mono fun _ _ ⟨e, k⟩ => ⟨e, h.trans k⟩) ?_)
          refine gs rfl (q_pick (b := false) (.bool (meetsL (cS s b) (expandL (fB s b)) (AL i))) rfl ((((((At.hit z33.put rfl).ne rfl).ne rfl).ne rfl).ne rfl).ne rfl).ev (At.hit z33.put.put.put.put.put.put rfl).ev ?_)
          refine g_fresh z33.put.put.put.put.put.put.put.put ?_
          intro a39 z39 m39
          have s0_39 := m39 _ _ ((((((((s0_33.ne rfl).ne rfl).ne rfl).ne rfl).ne rfl).ne rfl).ne rfl).ne rfl)
          have s4_39 := m39 _ _ ((((((((s4_33.ne rfl).ne rfl).ne rfl).ne rfl).ne rfl).ne rfl).ne rfl).ne rfl)
          have s7_39 := m39 _ _ ((((((((s7_33.ne rfl).ne rfl).ne rfl).ne rfl).ne rfl).ne rfl).ne rfl).ne rfl)
          have s8_39 := m39 _ _ ((((((((hs34.ne rfl).ne rfl).ne rfl).ne rfl).ne rfl).ne rfl).ne rfl).ne rfl)
          have s9_39 := m39 _ _ ((((((((s9_33.ne rfl).ne rfl).ne rfl).ne rfl).ne rfl).ne rfl).ne rfl).ne rfl)
          have s10_39 := m39 _ _ ((((((((s10_33.ne rfl).ne rfl).ne rfl).ne rfl).ne rfl).ne rfl).ne rfl).ne rfl)
          have s34_39 := m39 _ _ ((((((((s34_33.ne rfl).ne rfl).ne rfl).ne rfl).ne rfl).ne rfl).ne rfl).ne rfl)
          have s35_39 := m39 _ _ ((((((((s35_33.ne rfl).ne rfl).ne rfl).ne rfl).ne rfl).ne rfl).ne rfl).ne rfl)
          have s45_39 := m39 _ _ (At.hit z33.put.put.put.put.put.put.put rfl)
          clear m39
          refine gs rfl (q_assign _ _ rfl s45_39.ev ?_)
          refine gz ?_
          intro w40 h40
          have kg10_40 := h40.blk kg10_31
          have kg7_40 := h40.blk kg7_31
          have kga_40 := h40.blk kga_31
          refine e_id ?_
          refine e_fresh z39.put ?_
          intro a41 z41 m41
          have s0_41 := m41 _ _ (s0_39.ne rfl)
          have s4_41 := m41 _ _ (s4_39.ne rfl)
          have s7_41 := m41 _ _ (s7_39.ne rfl)
          have s8_41 := m41 _ _ (At.hit z39 rfl)
          have s9_41 := m41 _ _ (s9_39.ne rfl)
          have s10_41 := m41 _ _ (s10_39.ne rfl)
          have s34_41 := m41 _ _ (s34_39.ne rfl)
          have s35_41 := m41 _ _ (s35_39.ne rfl)
          have low41 := (low31.trans h40)
          clear m41
          refine e_in ?_
          refine e_then ?_
          refine c_region ?_
          refine l_q rfl (q_add (((i + 1 : Nat) : Int)) rfl s35_41.ev rfl (i64_is (by omega) (by omega) (by omega)) ?_)
          refine l_q rfl (q_move _ _ rfl (At.hit z41 rfl).ev ?_)
          refine l_end ?_
          refine e_fresh z41.put.put ?_
          intro a42 z42 m42
          have s0_42 := m42 _ _ ((s0_41.ne rfl).ne rfl)
          have s4_42 := m42 _ _ ((s4_41.ne rfl).ne rfl)
          have s7_42 := m42 _ _ ((s7_41.ne rfl).ne rfl)
          have s8_42 := m42 _ _ ((s8_41.ne rfl).ne rfl)
          have s9_42 := m42 _ _ ((s9_41.ne rfl).ne rfl)
          have s10_42 := m42 _ _ ((s10_41.ne rfl).ne rfl)
          have s34_42 := m42 _ _ ((s34_41.ne rfl).ne rfl)
          have s35_42 := m42 _ _ (At.hit z41.put rfl)
          clear m42
          exact ⟨z42, s0_42, s4_42, s7_42, (s8_42.same (congrArg Value.bool (mrow_no hc34))), s9_42, s10_42, s34_42, s35_42, kg10_40, kg7_40, kga_40, low41⟩
      · intro a43 w43 h
        obtain ⟨z43, s0_43, s4_43, s7_43, s8_43, s9_43, s10_43, s34_43, s35_43, kg10_43, kg7_43, kga_43, low43⟩ := h
        clear k28 kg7_28 kga_28 low29 s0_30 s10_30 s34_30 s35_30 s4_30 s7_30 s8_30 s9_30 z30
        refine c_seq ?_
        refine c_region ?_
        refine l_q rfl (q_lss false rfl s35_43.ev s34_43.ev (decide_eq_false (by omega)) ?_)
        refine l_end ?_
        refine e_fresh z43.put ?_
        intro a44 z44 m44
        have s0_44 := m44 _ _ (s0_43.ne rfl)
        have s4_44 := m44 _ _ (s4_43.ne rfl)
        have s7_44 := m44 _ _ (s7_43.ne rfl)
        have s8_44 := m44 _ _ (s8_43.ne rfl)
        have s9_44 := m44 _ _ (s9_43.ne rfl)
        have s10_44 := m44 _ _ (s10_43.ne rfl)
        have s35_44 := m44 _ _ (s35_43.ne rfl)
        have s36_44 := m44 _ _ (At.hit z43 rfl)
        clear m44
        refine e_then ?_
        refine c_seq ?_
        refine c_false s36_44 ?_
        refine wp_exit ?_
        refine x_then ?_
        refine x_then ?_
        refine in_exit ?_
        refine e_then ?_
        refine c_region ?_
        refine l_q rfl (q_row rfl Try.underlying40 rfl (sz40.trans (congrArg some ((nums_size _ _).trans (cl_len (cS s b))).symm)) s7_44.ev (fun _ e => by rw [e]; exact kg7_43) ?_)
        refine l_q rfl (q_move _ _ rfl (s9_44.ne rfl).ev ?_)
        refine l_call (fun v w' => v = .agg (nums .u32 (cl (prL (cS s b) (fB s b)))) ∧ Low w43 w') rfl rfl rfl Try.func18 rfl (args2 rfl ((At.hit z44 rfl).ne rfl).ev (At.hit z44.put rfl).ev) ((PrL.calls (cS s b) (fB s b) (by omega) _).mono fun _ _ ⟨e, k⟩ => ⟨_, e, rfl, k⟩) ?_
        rintro _ w45 ⟨rfl, h45⟩
        have kg10_45 := h45.blk kg10_43
        have kg7_45 := h45.blk kg7_43
        have kga_45 := h45.blk kga_43
        refine l_row rfl rfl rfl (sz40.trans (congrArg some ((nums_size _ _).trans (cl_len (prL (cS s b) (fB s b)))).symm)) (((s7_44.ne rfl).ne rfl).ne rfl).ev (At.hit z44.put.put rfl).ev (nums_one _ _) kg7_45 (((nums_size _ _).trans (cl_len (cS s b))).trans ((nums_size _ _).trans (cl_len (prL (cS s b) (fB s b)))).symm) ?_
        intro w46 k46 u46
        have kg10_46 := u46.blk kg10_45 (by omega)
        have kga_46 := u46.blk kga_45 (by omega)
        refine l_end ?_
        refine e_fresh z44.put.put.put ?_
        intro a47 z47 m47
        have s0_47 := m47 _ _ (((s0_44.ne rfl).ne rfl).ne rfl)
        have s4_47 := m47 _ _ (((s4_44.ne rfl).ne rfl).ne rfl)
        have s7_47 := m47 _ _ (((s7_44.ne rfl).ne rfl).ne rfl)
        have s8_47 := m47 _ _ (((s8_44.ne rfl).ne rfl).ne rfl)
        have s9_47 := m47 _ _ (((s9_44.ne rfl).ne rfl).ne rfl)
        have low47 := ((low43.trans h45).upd u46 geg7)
        clear m47
        refine e_in ?_
        refine e_then ?_
        refine c_region ?_
        refine l_q rfl (q_move _ _ rfl s9_47.ev ?_)
        refine l_q rfl (q_cutlo (j := 64) rfl Try.underlying9 (At.hit z47 rfl).ev rfl (by omega) ?_)
        refine l_q rfl (q_assign _ _ rfl (At.hit z47.put rfl).ev ?_)
        refine l_end ?_
        refine e_fresh z47.put.put.put ?_
        intro a48 z48 m48
        have s0_48 := m48 _ _ (((s0_47.ne rfl).ne rfl).ne rfl)
        have s4_48 := m48 _ _ (((s4_47.ne rfl).ne rfl).ne rfl)
        have s7_48 := m48 _ _ (((s7_47.ne rfl).ne rfl).ne rfl)
        have s8_48 := m48 _ _ (((s8_47.ne rfl).ne rfl).ne rfl)
        have s9_48 := m48 _ _ (At.hit z47.put.put rfl)
        clear m48
        exact ⟨z48, s0_48, s4_48, s7_48, s8_48, (s9_48.same (congrArg Value.string (fB_next s b (by assumption)))), k46, kga_46, low47⟩
    · intro a49 w49 h
      obtain ⟨z49, s0_49, s4_49, s7_49, s8_49, s9_49, kg7_49, kga_49, low49⟩ := h
      clear kg7_22 kga_22 low23 s0_23 s4_23 s7_23 s8_23 z23
      refine c_seq ?_
      refine c_seq ?_
      refine c_region ?_
      refine l_q rfl (q_move _ _ rfl s9_49.ev ?_)
      refine l_q rfl (q_strne false rfl (At.hit z49 rfl).ev rfl (fB_no s) ?_)
      refine l_end ?_
      refine e_fresh z49.put.put ?_
      intro a50 z50 m50
      have s0_50 := m50 _ _ ((s0_49.ne rfl).ne rfl)
      have s4_50 := m50 _ _ ((s4_49.ne rfl).ne rfl)
      have s7_50 := m50 _ _ ((s7_49.ne rfl).ne rfl)
      have s8_50 := m50 _ _ ((s8_49.ne rfl).ne rfl)
      have s9_50 := m50 _ _ ((s9_49.ne rfl).ne rfl)
      have s28_50 := m50 _ _ (At.hit z49.put rfl)
      clear m50
      refine e_then ?_
      refine c_false s28_50 ?_
      refine wp_exit ?_
      refine x_then ?_
      refine x_then ?_
      refine in_exit ?_
      refine e_then ?_
      refine c_seq ?_
      refine c_region ?_
      refine l_q rfl (q_move _ _ rfl s0_50.ev ?_)
      refine l_buildT1 rfl rfl Try.underlying67 str9 (At.hit z50 rfl).ev ?_
      intro g51_51 w51 hg51 k51 h51
      have lt_g7_g51_51 := Nat.lt_of_lt_of_le (heap_lt kg7_49) hg51
      have lt_ga_g51_51 := Nat.lt_of_lt_of_le (heap_lt kga_49) hg51
      have geg51_51 := Nat.le_trans low49.ge hg51
      have kg7_51 := h51.blk kg7_49
      have kga_51 := h51.blk kga_49
      refine l_call (fun v w' => v = .string (sumL s) ∧ Low w51 w') rfl rfl rfl Try.func26 rfl (args1 rfl (At.hit z50.put rfl).ev) ((SumL.calls s hs g51_51 _ k51).mono fun _ _ ⟨e, k⟩ => ⟨_, e, rfl, k⟩) ?_
      rintro _ w52 ⟨rfl, h52⟩
      have kg7_52 := h52.blk kg7_51
      have kga_52 := h52.blk kga_51
      have kg51_51_52 := h52.blk k51
      refine l_q rfl (q_move _ _ rfl (((s8_50.ne rfl).ne rfl).ne rfl).ev ?_)
      refine l_q rfl (q_assign _ _ rfl ((At.hit z50.put.put rfl).ne rfl).ev ?_)
      refine l_q rfl (q_assign _ _ rfl ((At.hit z50.put.put.put rfl).ne rfl).ev ?_)
      refine l_end ?_
      refine e_fresh z50.put.put.put.put.put.put ?_
      intro a53 z53 m53
      have s2_53 := m53 _ _ ((At.hit z50.put.put.put.put rfl).ne rfl)
      have s3_53 := m53 _ _ (At.hit z50.put.put.put.put.put rfl)
      have low53 := ((low49.trans h51).trans h52)
      clear m53
      refine e_then ?_
      refine wp_ret ?_
      refine r_two rfl z53.defers s2_53 s3_53 ?_
      exact ⟨rfl, low53⟩
end Go.Proofs.Ytffhmlnklohbdaa.Q
end
/-! V2 -/
section
namespace Go.Proofs.Ytffhmlnklohbdaa.Q
open Go.RowKit Go.Proofs.Ytffhmlnklohbdaa.P
set_option linter.unusedVariables false
set_option linter.unusedSimpArgs false
set_option maxRecDepth 100000
set_option maxHeartbeats 4000000
attribute [local irreducible] wpList wpQuiet qch Code.wp Oper.quiet Act.put At Region.wanted yielded
def bR (s : ByteArray) (b : Nat) : ByteArray := (fillR s).extract (64 * b) (64 * b + 64)
theorem bR_size (s : ByteArray) (b : Nat) : (bR s b).size ≤ 64 := by rw [bR, ByteArray.size_extract]; omega
noncomputable def mrowR (s : ByteArray) (b : Nat) (m0 : Bool) : Nat → Bool
  | 0 => m0
  | i + 1 => mrowR s b m0 i || markedR (chR s b) (bR s b) (vT i) (vK i) (vB i)
noncomputable def mblkR (s : ByteArray) : Nat → Bool
  | 0 => false
  | b + 1 => mrowR s b (mblkR s b) 21
theorem mrowR_yes {s : ByteArray} {b : Nat} {m0 : Bool} {i : Nat} (h : mrowR s b m0 i = true) : true = mrowR s b m0 (i + 1) := by rw [mrowR, h]; rfl
theorem mrowR_no {s : ByteArray} {b : Nat} {m0 : Bool} {i : Nat} (h : mrowR s b m0 i = false) : markedR (chR s b) (bR s b) (vT i) (vK i) (vB i) = mrowR s b m0 (i + 1) := by rw [mrowR, h]; rfl
theorem ScanR.calls (s : ByteArray) (hs : s.size ≤ 140737488350000) (w0 : World) : Calls Try.prog 12 #[.string s] w0 fun e w' => e = .returned (.tuple #[.string (sumR s), .bool (mblkR s ((fillR s).size / 64))]) ∧ Low w0 w' := by
  refine c_fun (R := _) Try.func12 rfl 50 rfl (Nat.le_of_ble_eq_true rfl) ?_
  intro a z hA
  have s0 := hA 0 _ rfl
  clear hA
  refine c_seq ?_
  refine c_region ?_
  refine l_q rfl (q_assign _ _ rfl rfl ?_)
  refine l_q rfl (q_assign _ _ rfl rfl ?_)
  refine l_end ?_
  refine e_fresh z.put.put ?_
  intro a1 z1 m1
  have s0_1 := m1 _ _ ((s0.ne rfl).ne rfl)
  clear m1
  refine e_then ?_
  refine c_seq ?_
  refine c_region ?_
  refine l_q rfl (q_move _ _ rfl s0_1.ev ?_)
  refine l_call (fun v w' => v = .string (fillR s) ∧ Low w0 w') rfl rfl rfl Try.func27 rfl (args1 rfl (At.hit z1 rfl).ev) ((FillR.calls s hs _).mono fun _ _ ⟨e, k⟩ => ⟨_, e, rfl, k⟩) ?_
  rintro _ w2 ⟨rfl, h2⟩
  refine l_q rfl (q_assign _ _ rfl (At.hit z1.put rfl).ev ?_)
  refine l_end ?_
  refine e_fresh z1.put.put.put ?_
  intro a3 z3 m3
  have s0_3 := m3 _ _ (((s0_1.ne rfl).ne rfl).ne rfl)
  have s4_3 := m3 _ _ (At.hit z1.put.put rfl)
  have low3 := h2
  clear m3
  refine e_then ?_
  refine c_seq ?_
  refine c_region ?_
  refine l_call _ rfl rfl rfl Try.func8 rfl (show Array.map _ _ = (#[] : Array Value) from by simp) (VecsR.calls _) ?_
  rintro _ w4 ⟨gv, capv, curv, rfl, hgv, kv, hcv, h4⟩
  have gegv := Nat.le_trans low3.ge hgv
  refine l_q rfl (q_assign _ _ rfl (At.hit z3 rfl).ev ?_)
  refine l_end ?_
  refine e_fresh z3.put.put ?_
  intro a5 z5 m5
  have s0_5 := m5 _ _ ((s0_3.ne rfl).ne rfl)
  have s4_5 := m5 _ _ ((s4_3.ne rfl).ne rfl)
  have s5_5 := m5 _ _ (At.hit z3.put rfl)
  have low5 := (low3.trans h4)
  clear m5
  refine e_then ?_
  refine c_seq ?_
  refine c_region ?_
  refine l_call (fun v w' => v = .agg (nums .u32 (cl first)) ∧ Low w4 w') rfl rfl rfl Try.func28 rfl (show Array.map _ _ = (#[] : Array Value) from by simp) ((FirstR.calls _).mono fun _ _ ⟨e, k⟩ => ⟨_, e, rfl, k⟩) ?_
  rintro _ w6 ⟨rfl, h6⟩
  have kgv_6 := h6.blk kv
  refine l_alloc rfl rfl zero36 ?_
  intro g6 w7 hg7 k7 h7
  have lt_gv_g6 := Nat.lt_of_lt_of_le (heap_lt kgv_6) hg7
  have geg6 := Nat.le_trans (low5.trans h6).ge hg7
  have kgv_7 := h7.blk kgv_6
  refine l_row rfl rfl rfl (sz36.trans (congrArg some ((nums_size _ _).trans (cl_len first)).symm)) (At.hit z5.put rfl).ev ((At.hit z5 rfl).ne rfl).ev (nums_one _ _) k7 (((nums_size _ _).trans (List.length_replicate)).trans ((nums_size _ _).trans (cl_len first)).symm) ?_
  intro w8 k8 u8
  have kgv_8 := u8.blk kgv_7 (by omega)
  refine l_end ?_
  refine e_fresh z5.put.put ?_
  intro a9 z9 m9
  have s0_9 := m9 _ _ ((s0_5.ne rfl).ne rfl)
  have s4_9 := m9 _ _ ((s4_5.ne rfl).ne rfl)
  have s5_9 := m9 _ _ ((s5_5.ne rfl).ne rfl)
  have s6_9 := m9 _ _ (At.hit z5.put rfl)
  have low9 := (((low5.trans h6).trans h7).upd u8 geg6)
  clear m9
  refine e_then ?_
  refine c_seq ?_
  refine c_region ?_
  refine l_q rfl (q_assign _ _ rfl rfl ?_)
  refine l_end ?_
  refine e_fresh z9.put ?_
  intro a10 z10 m10
  have s0_10 := m10 _ _ (s0_9.ne rfl)
  have s4_10 := m10 _ _ (s4_9.ne rfl)
  have s5_10 := m10 _ _ (s5_9.ne rfl)
  have s6_10 := m10 _ _ (s6_9.ne rfl)
  have s7_10 := m10 _ _ (At.hit z9 rfl)
  clear m10
  refine e_then ?_
  refine c_seq ?_
  refine c_seq ?_
  refine c_region ?_
  refine l_q rfl (q_assign _ _ rfl rfl ?_)
  refine l_end ?_
  refine e_fresh z10.put ?_
  intro a11 z11 m11
  have s0_11 := m11 _ _ (s0_10.ne rfl)
  have s4_11 := m11 _ _ (s4_10.ne rfl)
  have s5_11 := m11 _ _ (s5_10.ne rfl)
  have s6_11 := m11 _ _ (s6_10.ne rfl)
  have s7_11 := m11 _ _ (s7_10.ne rfl)
  have s8_11 := m11 _ _ (At.hit z10 rfl)
  clear m11
  refine e_then ?_
  refine wp_block ?_
  refine c_loop ((fillR s).size / 64) (fun b a w => Fr 50 a ∧ At a 0 (.string s) ∧ At a 4 (.string (fillR s)) ∧ At a 5 (.slice (some ⟨gv, 0, none⟩) 21 capv) ∧ At a 6 (.pointer (some ⟨g6, 0, none⟩)) ∧ At a 7 (.bool (mblkR s b)) ∧ At a 8 (.int .i64 ((64 * b : Nat) : Int)) ∧ w.heap[g6]? = some (.cells (nums .u32 (cl (chR s b))) 36) ∧ w.heap[gv]? = some (.cells (curv) 29) ∧ Low w0 w) ?_ ?_ ?_
  · exact ⟨z11, s0_11, s4_11, s5_11, s6_11, s7_11, (s8_11.same (congrArg (Value.int .i64) (by omega))), k8, kgv_8, low9⟩
  · intro b a12 w12 hk12 h
    obtain ⟨z12, s0_12, s4_12, s5_12, s6_12, s7_12, s8_12, kg6_12, kgv_12, low12⟩ := h
    clear k8 kgv_8 low9 s0_11 s4_11 s5_11 s6_11 s7_11 s8_11 z11
    have hfm := fillR_mod s
    have hfs := fillR_size s
    have hpl := padN_le s
    refine c_seq ?_
    refine c_seq ?_
    refine c_region ?_
    refine l_q rfl (q_move _ _ rfl s8_12.ev ?_)
    refine l_q rfl (q_move _ _ rfl (s4_12.ne rfl).ev ?_)
    refine l_q rfl (q_len rfl rfl Try.underlying9 (At.hit z12.put rfl).ev ?_)
    refine l_q rfl (q_lss true rfl (((At.hit z12 rfl).ne rfl).ne rfl).ev (At.hit z12.put.put rfl).ev (decide_eq_true (by omega)) ?_)
    refine l_end ?_
    refine e_fresh z12.put.put.put.put ?_
    intro a13 z13 m13
    have s0_13 := m13 _ _ ((((s0_12.ne rfl).ne rfl).ne rfl).ne rfl)
    have s4_13 := m13 _ _ ((((s4_12.ne rfl).ne rfl).ne rfl).ne rfl)
    have s5_13 := m13 _ _ ((((s5_12.ne rfl).ne rfl).ne rfl).ne rfl)
    have s6_13 := m13 _ _ ((((s6_12.ne rfl).ne rfl).ne rfl).ne rfl)
    have s7_13 := m13 _ _ ((((s7_12.ne rfl).ne rfl).ne rfl).ne rfl)
    have s8_13 := m13 _ _ ((((s8_12.ne rfl).ne rfl).ne rfl).ne rfl)
    have s17_13 := m13 _ _ (At.hit z12.put.put.put rfl)
    clear m13
    refine e_then ?_
    refine c_true s17_13 ?_
    refine wp_skip ?_
    refine e_then ?_
    refine c_seq ?_
    refine wp_block ?_
    refine c_seq ?_
    refine c_seq ?_
    refine c_region ?_
    refine l_q rfl (q_assign _ _ rfl rfl ?_)
    refine l_end ?_
    refine e_fresh z13.put ?_
    intro a14 z14 m14
    have s0_14 := m14 _ _ (s0_13.ne rfl)
    have s4_14 := m14 _ _ (s4_13.ne rfl)
    have s5_14 := m14 _ _ (s5_13.ne rfl)
    have s6_14 := m14 _ _ (s6_13.ne rfl)
    have s7_14 := m14 _ _ (s7_13.ne rfl)
    have s8_14 := m14 _ _ (s8_13.ne rfl)
    have s9_14 := m14 _ _ (At.hit z13 rfl)
    clear m14
    refine e_then ?_
    refine wp_block ?_
    refine c_loop 21 (fun i a w => Fr 50 a ∧ At a 0 (.string s) ∧ At a 4 (.string (fillR s)) ∧ At a 5 (.slice (some ⟨gv, 0, none⟩) 21 capv) ∧ At a 6 (.pointer (some ⟨g6, 0, none⟩)) ∧ At a 7 (.bool (mrowR s b (mblkR s b) i)) ∧ At a 8 (.int .i64 ((64 * b : Nat) : Int)) ∧ At a 9 (.int .i64 ((i : Nat) : Int)) ∧ w.heap[g6]? = some (.cells (nums .u32 (cl (chR s b))) 36) ∧ w.heap[gv]? = some (.cells (curv) 29) ∧ Low w0 w) ?_ ?_ ?_
    · exact ⟨z14, s0_14, s4_14, s5_14, s6_14, s7_14, s8_14, s9_14, kg6_12, kgv_12, low12⟩
    · intro i a15 w15 hk15 h
      obtain ⟨z15, s0_15, s4_15, s5_15, s6_15, s7_15, s8_15, s9_15, kg6_15, kgv_15, low15⟩ := h
      clear kg6_12 kgv_12 low12 s0_14 s4_14 s5_14 s6_14 s7_14 s8_14 s9_14 z14
      refine c_seq ?_
      refine c_seq ?_
      refine c_region ?_
      refine l_q rfl (q_move _ _ rfl s9_15.ev ?_)
      refine l_q rfl (q_move _ _ rfl (s5_15.ne rfl).ev ?_)
      refine l_q rfl (q_lenL rfl rfl Try.underlying27 (At.hit z15.put rfl).ev ?_)
      refine l_q rfl (q_lss true rfl (((At.hit z15 rfl).ne rfl).ne rfl).ev (At.hit z15.put.put rfl).ev (decide_eq_true (by omega)) ?_)
      refine l_end ?_
      refine e_fresh z15.put.put.put.put ?_
      intro a16 z16 m16
      have s0_16 := m16 _ _ ((((s0_15.ne rfl).ne rfl).ne rfl).ne rfl)
      have s4_16 := m16 _ _ ((((s4_15.ne rfl).ne rfl).ne rfl).ne rfl)
      have s5_16 := m16 _ _ ((((s5_15.ne rfl).ne rfl).ne rfl).ne rfl)
      have s6_16 := m16 _ _ ((((s6_15.ne rfl).ne rfl).ne rfl).ne rfl)
      have s7_16 := m16 _ _ ((((s7_15.ne rfl).ne rfl).ne rfl).ne rfl)
      have s8_16 := m16 _ _ ((((s8_15.ne rfl).ne rfl).ne rfl).ne rfl)
      have s9_16 := m16 _ _ ((((s9_15.ne rfl).ne rfl).ne rfl).ne rfl)
      have s23_16 := m16 _ _ (At.hit z15.put.put.put rfl)
      clear m16
      refine e_then ?_
      refine c_true s23_16 ?_
      refine wp_skip ?_
      refine e_then ?_
      refine c_seq ?_
      refine wp_block ?_
      cases hc17 : mrowR s b (mblkR s b) i with
      | true =>
        have hs17 := s7_16.same (congrArg Value.bool hc17)
        refine region_lowg hm (by kernel_rfl) ?_
        refine gs rfl (q_move _ _ rfl hs17.ev ?_)
        refine gs rfl (q_move _ _ rfl (At.hit z16 rfl).ev ?_)
        refine gsk (wanted_is (j := 1) (d := 27) (b := true) rfl rfl (At.hit z16.put rfl) rfl) ?_
        refine gsk (wanted_is (j := 1) (d := 27) (b := true) rfl rfl ((At.hit z16.put rfl).ne rfl) rfl) ?_
        refine gsk (wanted_is (j := 1) (d := 27) (b := true) rfl rfl (((At.hit z16.put rfl).ne rfl).ne rfl) rfl) ?_
        refine gsk (wanted_is (j := 1) (d := 27) (b := true) rfl rfl ((((At.hit z16.put rfl).ne rfl).ne rfl).ne rfl) rfl) ?_
        refine gsk (wanted_is (j := 1) (d := 27) (b := true) rfl rfl (((((At.hit z16.put rfl).ne rfl).ne rfl).ne rfl).ne rfl) rfl) ?_
        refine gsk (wanted_is (j := 1) (d := 27) (b := true) rfl rfl ((((((At.hit z16.put rfl).ne rfl).ne rfl).ne rfl).ne rfl).ne rfl) rfl) ?_
        refine g_fresh z16.put.put.put.put.put.put.put.put ?_
        intro a18 z18 m18
        have s0_18 := m18 _ _ ((((((((s0_16.ne rfl).ne rfl).ne rfl).ne rfl).ne rfl).ne rfl).ne rfl).ne rfl)
        have s4_18 := m18 _ _ ((((((((s4_16.ne rfl).ne rfl).ne rfl).ne rfl).ne rfl).ne rfl).ne rfl).ne rfl)
        have s5_18 := m18 _ _ ((((((((s5_16.ne rfl).ne rfl).ne rfl).ne rfl).ne rfl).ne rfl).ne rfl).ne rfl)
        have s6_18 := m18 _ _ ((((((((s6_16.ne rfl).ne rfl).ne rfl).ne rfl).ne rfl).ne rfl).ne rfl).ne rfl)
        have s7_18 := m18 _ _ ((((((((hs17.ne rfl).ne rfl).ne rfl).ne rfl).ne rfl).ne rfl).ne rfl).ne rfl)
        have s8_18 := m18 _ _ ((((((((s8_16.ne rfl).ne rfl).ne rfl).ne rfl).ne rfl).ne rfl).ne rfl).ne rfl)
        have s9_18 := m18 _ _ ((((((((s9_16.ne rfl).ne rfl).ne rfl).ne rfl).ne rfl).ne rfl).ne rfl).ne rfl)
        have s27_18 := m18 _ _ (((((((At.hit z16.put rfl).ne rfl).ne rfl).ne rfl).ne rfl).ne rfl).ne rfl)
        have s28_18 := m18 _ _ ((((((At.hit z16.put.put rfl).ne rfl).ne rfl).ne rfl).ne rfl).ne rfl)
        have s33_18 := m18 _ _ (At.hit z16.put.put.put.put.put.put.put rfl)
        clear m18
        refine gsk (wanted_is (j := 1) (d := 27) (b := true) rfl rfl s27_18 rfl) ?_
        refine gsk (wanted_is (j := 1) (d := 27) (b := true) rfl rfl (s27_18.ne rfl) rfl) ?_
        refine gsk (wanted_is (j := 1) (d := 27) (b := true) rfl rfl ((s27_18.ne rfl).ne rfl) rfl) ?_
        refine gsk (wanted_is (j := 1) (d := 27) (b := true) rfl rfl (((s27_18.ne rfl).ne rfl).ne rfl) rfl) ?_
        refine gsk (wanted_is (j := 1) (d := 27) (b := true) rfl rfl ((((s27_18.ne rfl).ne rfl).ne rfl).ne rfl) rfl) ?_
        refine gs rfl (q_pick (b := true) (.bool true) rfl (((((s27_18.ne rfl).ne rfl).ne rfl).ne rfl).ne rfl).ev rfl ?_)
        refine gs rfl (q_assign _ _ rfl (At.hit z18.put.put.put.put.put rfl).ev ?_)
        refine gz ?_
        intro w19 h19
        have kg6_19 := h19.blk kg6_15
        have kgv_19 := h19.blk kgv_15
        refine e_id ?_
        refine e_fresh z18.put.put.put.put.put.put.put ?_
        intro a20 z20 m20
        have s0_20 := m20 _ _ (((((((s0_18.ne rfl).ne rfl).ne rfl).ne rfl).ne rfl).ne rfl).ne rfl)
        have s4_20 := m20 _ _ (((((((s4_18.ne rfl).ne rfl).ne rfl).ne rfl).ne rfl).ne rfl).ne rfl)
        have s5_20 := m20 _ _ (((((((s5_18.ne rfl).ne rfl).ne rfl).ne rfl).ne rfl).ne rfl).ne rfl)
        have s6_20 := m20 _ _ (((((((s6_18.ne rfl).ne rfl).ne rfl).ne rfl).ne rfl).ne rfl).ne rfl)
        have s7_20 := m20 _ _ (At.hit z18.put.put.put.put.put.put rfl)
        have s8_20 := m20 _ _ (((((((s8_18.ne rfl).ne rfl).ne rfl).ne rfl).ne rfl).ne rfl).ne rfl)
        have s9_20 := m20 _ _ (((((((s9_18.ne rfl).ne rfl).ne rfl).ne rfl).ne rfl).ne rfl).ne rfl)
        have low20 := (low15.trans h19)
        clear m20
        refine e_in ?_
        refine e_then ?_
        refine c_region ?_
        refine l_q rfl (q_move _ _ rfl s9_20.ev ?_)
        refine l_q rfl (q_add (((i + 1 : Nat) : Int)) rfl (At.hit z20 rfl).ev rfl (i64_is (by omega) (by omega) (by omega)) ?_)
        refine l_q rfl (q_assign _ _ rfl (At.hit z20.put rfl).ev ?_)
        refine l_end ?_
        refine e_fresh z20.put.put.put ?_
        intro a21 z21 m21
        have s0_21 := m21 _ _ (((s0_20.ne rfl).ne rfl).ne rfl)
        have s4_21 := m21 _ _ (((s4_20.ne rfl).ne rfl).ne rfl)
        have s5_21 := m21 _ _ (((s5_20.ne rfl).ne rfl).ne rfl)
        have s6_21 := m21 _ _ (((s6_20.ne rfl).ne rfl).ne rfl)
        have s7_21 := m21 _ _ (((s7_20.ne rfl).ne rfl).ne rfl)
        have s8_21 := m21 _ _ (((s8_20.ne rfl).ne rfl).ne rfl)
        have s9_21 := m21 _ _ (At.hit z20.put.put rfl)
        clear m21
        exact ⟨z21, s0_21, s4_21, s5_21, s6_21, (s7_21.same (congrArg Value.bool (mrowR_yes hc17))), s8_21, s9_21, kg6_19, kgv_19, low20⟩
      | false =>
        have hs17 := s7_16.same (congrArg Value.bool hc17)
        refine region_lowg hm (by kernel_rfl) ?_
        refine gs rfl (q_move _ _ rfl hs17.ev ?_)
        refine gs rfl (q_move _ _ rfl (At.hit z16 rfl).ev ?_)
        refine gsg (wanted_is (j := 1) (d := 27) (b := false) rfl rfl (At.hit z16.put rfl) rfl) (q_row rfl Try.underlying36 rfl (sz36.trans (congrArg some ((nums_size _ _).trans (cl_len (chR s b))).symm)) ((s6_16.ne rfl).ne rfl).ev (fun _ h => h.blk kg6_15) ?_)
        refine gsg (wanted_is (j := 1) (d := 27) (b := false) rfl rfl ((At.hit z16.put rfl).ne rfl) rfl) (q_move _ _ rfl (((s4_16.ne rfl).ne rfl).ne rfl).ev ?_)
        refine gsg (wanted_is (j := 1) (d := 27) (b := false) rfl rfl (((At.hit z16.put rfl).ne rfl).ne rfl) rfl) (q_move _ _ rfl ((((s8_16.ne rfl).ne rfl).ne rfl).ne rfl).ev ?_)
        refine gsg (wanted_is (j := 1) (d := 27) (b := false) rfl rfl ((((At.hit z16.put rfl).ne rfl).ne rfl).ne rfl) rfl) (q_move _ _ rfl (((((s8_16.ne rfl).ne rfl).ne rfl).ne rfl).ne rfl).ev ?_)
        refine gsg (wanted_is (j := 1) (d := 27) (b := false) rfl rfl (((((At.hit z16.put rfl).ne rfl).ne rfl).ne rfl).ne rfl) rfl) (q_add (((64 * b + 64 : Nat) : Int)) rfl (At.hit z16.put.put.put.put.put rfl).ev rfl (i64_is (by omega) (by omega) (by omega)) ?_)
        refine gsg (wanted_is (j := 1) (d := 27) (b := false) rfl rfl ((((((At.hit z16.put rfl).ne rfl).ne rfl).ne rfl).ne rfl).ne rfl) rfl) (q_cut (j := 64 * b) (k := 64 * b + 64) rfl Try.underlying9 ((((At.hit z16.put.put.put rfl).ne rfl).ne rfl).ne rfl).ev (((At.hit z16.put.put.put.put rfl).ne rfl).ne rfl).ev (At.hit z16.put.put.put.put.put.put rfl).ev (by omega) (by omega) ?_)
        refine g_fresh z16.put.put.put.put.put.put.put.put ?_
        intro a22 z22 m22
        have s0_22 := m22 _ _ ((((((((s0_16.ne rfl).ne rfl).ne rfl).ne rfl).ne rfl).ne rfl).ne rfl).ne rfl)
        have s4_22 := m22 _ _ ((((((((s4_16.ne rfl).ne rfl).ne rfl).ne rfl).ne rfl).ne rfl).ne rfl).ne rfl)
        have s5_22 := m22 _ _ ((((((((s5_16.ne rfl).ne rfl).ne rfl).ne rfl).ne rfl).ne rfl).ne rfl).ne rfl)
        have s6_22 := m22 _ _ ((((((((s6_16.ne rfl).ne rfl).ne rfl).ne rfl).ne rfl).ne rfl).ne rfl).ne rfl)
        have s7_22 := m22 _ _ ((((((((hs17.ne rfl).ne rfl).ne rfl).ne rfl).ne rfl).ne rfl).ne rfl).ne rfl)
        have s8_22 := m22 _ _ ((((((((s8_16.ne rfl).ne rfl).ne rfl).ne rfl).ne rfl).ne rfl).ne rfl).ne rfl)
        have s9_22 := m22 _ _ ((((((((s9_16.ne rfl).ne rfl).ne rfl).ne rfl).ne rfl).ne rfl).ne rfl).ne rfl)
        have s27_22 := m22 _ _ (((((((At.hit z16.put rfl).ne rfl).ne rfl).ne rfl).ne rfl).ne rfl).ne rfl)
        have s28_22 := m22 _ _ ((((((At.hit z16.put.put rfl).ne rfl).ne rfl).ne rfl).ne rfl).ne rfl)
        have s33_22 := m22 _ _ (At.hit z16.put.put.put.put.put.put.put rfl)
        clear m22
        refine gsg (wanted_is (j := 1) (d := 27) (b := false) rfl rfl s27_22 rfl) (q_move _ _ rfl s5_22.ev ?_)
        refine gsg (wanted_is (j := 1) (d := 27) (b := false) rfl rfl (s27_22.ne rfl) rfl) (q_move _ _ rfl (s9_22.ne rfl).ev ?_)
        refine gsg (wanted_is (j := 1) (d := 27) (b := false) rfl rfl ((s27_22.ne rfl).ne rfl) rfl) (q_idxSz (j := i) (sz := 3) rfl Try.underlying27 sz29 ((At.hit z22 rfl).ne rfl).ev (At.hit z22.put rfl).ev (by omega) ?_)
        refine gsg (wanted_is (j := 1) (d := 27) (b := false) rfl rfl (((s27_22.ne rfl).ne rfl).ne rfl) rfl) (q_mid (vs := #[.int .i64 (vT i), .int .i64 (vK i), .int .i64 (vB i)]) rfl Try.underlying29 rfl sz29 (At.hit z22.put.put rfl).ev (fun _ h => h.blk kgv_15) (hcv.2 i (by omega)) ?_)
        refine gsg (wanted_is (j := 1) (d := 27) (b := false) rfl rfl ((((s27_22.ne rfl).ne rfl).ne rfl).ne rfl) rfl) (q_call (.bool (markedR (chR s b) (bR s b) (vT i) (vK i) (vB i))) rfl rfl Try.func14 rfl (args3 rfl ((((s28_22.ne rfl).ne rfl).ne rfl).ne rfl).ev ((((s33_22.ne rfl).ne rfl).ne rfl).ne rfl).ev (At.hit z22.put.put.put rfl).ev) (fun _ h => (MarkedR.calls (chR s b) (bR s b) (Nat.le_trans (bR_size s b) (by decide)) (vT i) (vK i) (vB i) _).mono fun _ _ ⟨e, k⟩ => ⟨e, h.trans k⟩) ?_)
        refine gs rfl (q_pick (b := false) (.bool (markedR (chR s b) (bR s b) (vT i) (vK i) (vB i))) rfl (((((s27_22.ne rfl).ne rfl).ne rfl).ne rfl).ne rfl).ev (At.hit z22.put.put.put.put rfl).ev ?_)
        refine gs rfl (q_assign _ _ rfl (At.hit z22.put.put.put.put.put rfl).ev ?_)
        refine gz ?_
        intro w23 h23
        have kg6_23 := h23.blk kg6_15
        have kgv_23 := h23.blk kgv_15
        refine e_id ?_
        refine e_fresh z22.put.put.put.put.put.put.put ?_
        intro a24 z24 m24
        have s0_24 := m24 _ _ (((((((s0_22.ne rfl).ne rfl).ne rfl).ne rfl).ne rfl).ne rfl).ne rfl)
        have s4_24 := m24 _ _ (((((((s4_22.ne rfl).ne rfl).ne rfl).ne rfl).ne rfl).ne rfl).ne rfl)
        have s5_24 := m24 _ _ (((((((s5_22.ne rfl).ne rfl).ne rfl).ne rfl).ne rfl).ne rfl).ne rfl)
        have s6_24 := m24 _ _ (((((((s6_22.ne rfl).ne rfl).ne rfl).ne rfl).ne rfl).ne rfl).ne rfl)
        have s7_24 := m24 _ _ (At.hit z22.put.put.put.put.put.put rfl)
        have s8_24 := m24 _ _ (((((((s8_22.ne rfl).ne rfl).ne rfl).ne rfl).ne rfl).ne rfl).ne rfl)
        have s9_24 := m24 _ _ (((((((s9_22.ne rfl).ne rfl).ne rfl).ne rfl).ne rfl).ne rfl).ne rfl)
        have low24 := (low15.trans h23)
        clear m24
        refine e_in ?_
        refine e_then ?_
        refine c_region ?_
        refine l_q rfl (q_move _ _ rfl s9_24.ev ?_)
        refine l_q rfl (q_add (((i + 1 : Nat) : Int)) rfl (At.hit z24 rfl).ev rfl (i64_is (by omega) (by omega) (by omega)) ?_)
        refine l_q rfl (q_assign _ _ rfl (At.hit z24.put rfl).ev ?_)
        refine l_end ?_
        refine e_fresh z24.put.put.put ?_
        intro a25 z25 m25
        have s0_25 := m25 _ _ (((s0_24.ne rfl).ne rfl).ne rfl)
        have s4_25 := m25 _ _ (((s4_24.ne rfl).ne rfl).ne rfl)
        have s5_25 := m25 _ _ (((s5_24.ne rfl).ne rfl).ne rfl)
        have s6_25 := m25 _ _ (((s6_24.ne rfl).ne rfl).ne rfl)
        have s7_25 := m25 _ _ (((s7_24.ne rfl).ne rfl).ne rfl)
        have s8_25 := m25 _ _ (((s8_24.ne rfl).ne rfl).ne rfl)
        have s9_25 := m25 _ _ (At.hit z24.put.put rfl)
        clear m25
        exact ⟨z25, s0_25, s4_25, s5_25, s6_25, (s7_25.same (congrArg Value.bool (mrowR_no hc17))), s8_25, s9_25, kg6_23, kgv_23, low24⟩
    · intro a26 w26 h
      obtain ⟨z26, s0_26, s4_26, s5_26, s6_26, s7_26, s8_26, s9_26, kg6_26, kgv_26, low26⟩ := h
      clear kg6_12 kgv_12 low12 s0_14 s4_14 s5_14 s6_14 s7_14 s8_14 s9_14 z14
      refine c_seq ?_
      refine c_seq ?_
      refine c_region ?_
      refine l_q rfl (q_move _ _ rfl s9_26.ev ?_)
      refine l_q rfl (q_move _ _ rfl (s5_26.ne rfl).ev ?_)
      refine l_q rfl (q_lenL rfl rfl Try.underlying27 (At.hit z26.put rfl).ev ?_)
      refine l_q rfl (q_lss false rfl (((At.hit z26 rfl).ne rfl).ne rfl).ev (At.hit z26.put.put rfl).ev (decide_eq_false (by omega)) ?_)
      refine l_end ?_
      refine e_fresh z26.put.put.put.put ?_
      intro a27 z27 m27
      have s0_27 := m27 _ _ ((((s0_26.ne rfl).ne rfl).ne rfl).ne rfl)
      have s4_27 := m27 _ _ ((((s4_26.ne rfl).ne rfl).ne rfl).ne rfl)
      have s5_27 := m27 _ _ ((((s5_26.ne rfl).ne rfl).ne rfl).ne rfl)
      have s6_27 := m27 _ _ ((((s6_26.ne rfl).ne rfl).ne rfl).ne rfl)
      have s7_27 := m27 _ _ ((((s7_26.ne rfl).ne rfl).ne rfl).ne rfl)
      have s8_27 := m27 _ _ ((((s8_26.ne rfl).ne rfl).ne rfl).ne rfl)
      have s9_27 := m27 _ _ ((((s9_26.ne rfl).ne rfl).ne rfl).ne rfl)
      have s23_27 := m27 _ _ (At.hit z26.put.put.put rfl)
      clear m27
      refine e_then ?_
      refine c_false s23_27 ?_
      refine wp_exit ?_
      refine x_then ?_
      refine x_then ?_
      refine in_exit ?_
      refine e_then ?_
      refine region_low_tail 7 hm (by kernel_rfl) ?_
      simp only [List.take_succ_cons, List.take_zero, List.drop_succ_cons, List.drop_zero]
      refine qs (q_row rfl Try.underlying36 rfl (sz36.trans (congrArg some ((nums_size _ _).trans (cl_len (chR s b))).symm)) s6_27.ev (fun _ h => h.blk kg6_26) ?_)
      refine qs (q_move _ _ rfl (s4_27.ne rfl).ev ?_)
      refine qs (q_move _ _ rfl ((s8_27.ne rfl).ne rfl).ev ?_)
      refine qs (q_move _ _ rfl (((s8_27.ne rfl).ne rfl).ne rfl).ev ?_)
      refine qs (q_add (((64 * b + 64 : Nat) : Int)) rfl (At.hit z27.put.put.put rfl).ev rfl (i64_is (by omega) (by omega) (by omega)) ?_)
      refine qs (q_cut (j := 64 * b) (k := 64 * b + 64) rfl Try.underlying9 ((((At.hit z27.put rfl).ne rfl).ne rfl).ne rfl).ev (((At.hit z27.put.put rfl).ne rfl).ne rfl).ev (At.hit z27.put.put.put.put rfl).ev (by omega) (by omega) ?_)
      refine qs (q_call (.agg (nums .u32 (cl (prR (chR s b) (bR s b))))) rfl rfl Try.func29 rfl (args2 rfl ((((((At.hit z27 rfl).ne rfl).ne rfl).ne rfl).ne rfl).ne rfl).ev (At.hit z27.put.put.put.put.put rfl).ev) (fun _ h => (PrR.calls (chR s b) (bR s b) (Nat.le_trans (bR_size s b) (by decide)) _).mono fun _ _ ⟨e, k⟩ => ⟨e, h.trans k⟩) ?_)
      refine qz ?_
      intro w28 h28
      have kg6_28 := h28.blk kg6_26
      have kgv_28 := h28.blk kgv_26
      refine l_row rfl rfl rfl (sz36.trans (congrArg some ((nums_size _ _).trans (cl_len (prR (chR s b) (bR s b)))).symm)) (((((((s6_27.ne rfl).ne rfl).ne rfl).ne rfl).ne rfl).ne rfl).ne rfl).ev (At.hit z27.put.put.put.put.put.put rfl).ev (nums_one _ _) kg6_28 (((nums_size _ _).trans (cl_len (chR s b))).trans ((nums_size _ _).trans (cl_len (prR (chR s b) (bR s b)))).symm) ?_
      intro w29 k29 u29
      have kgv_29 := u29.blk kgv_28 (by omega)
      refine l_end ?_
      refine e_fresh z27.put.put.put.put.put.put.put ?_
      intro a30 z30 m30
      have s0_30 := m30 _ _ (((((((s0_27.ne rfl).ne rfl).ne rfl).ne rfl).ne rfl).ne rfl).ne rfl)
      have s4_30 := m30 _ _ (((((((s4_27.ne rfl).ne rfl).ne rfl).ne rfl).ne rfl).ne rfl).ne rfl)
      have s5_30 := m30 _ _ (((((((s5_27.ne rfl).ne rfl).ne rfl).ne rfl).ne rfl).ne rfl).ne rfl)
      have s6_30 := m30 _ _ (((((((s6_27.ne rfl).ne rfl).ne rfl).ne rfl).ne rfl).ne rfl).ne rfl)
      have s7_30 := m30 _ _ (((((((s7_27.ne rfl).ne rfl).ne rfl).ne rfl).ne rfl).ne rfl).ne rfl)
      have s8_30 := m30 _ _ (((((((s8_27.ne rfl).ne rfl).ne rfl).ne rfl).ne rfl).ne rfl).ne rfl)
      have low30 := ((low26.trans h28).upd u29 geg6)
      clear m30
      refine e_in ?_
      refine e_then ?_
      refine c_region ?_
      refine l_q rfl (q_move _ _ rfl s8_30.ev ?_)
      refine l_q rfl (q_add (((64 * b + 64 : Nat) : Int)) rfl (At.hit z30 rfl).ev rfl (i64_is (by omega) (by omega) (by omega)) ?_)
      refine l_q rfl (q_assign _ _ rfl (At.hit z30.put rfl).ev ?_)
      refine l_end ?_
      refine e_fresh z30.put.put.put ?_
      intro a31 z31 m31
      have s0_31 := m31 _ _ (((s0_30.ne rfl).ne rfl).ne rfl)
      have s4_31 := m31 _ _ (((s4_30.ne rfl).ne rfl).ne rfl)
      have s5_31 := m31 _ _ (((s5_30.ne rfl).ne rfl).ne rfl)
      have s6_31 := m31 _ _ (((s6_30.ne rfl).ne rfl).ne rfl)
      have s7_31 := m31 _ _ (((s7_30.ne rfl).ne rfl).ne rfl)
      have s8_31 := m31 _ _ (At.hit z30.put.put rfl)
      clear m31
      exact ⟨z31, s0_31, s4_31, s5_31, s6_31, s7_31, (s8_31.same (congrArg (Value.int .i64) (by omega))), k29, kgv_29, low30⟩
  · intro a32 w32 h
    obtain ⟨z32, s0_32, s4_32, s5_32, s6_32, s7_32, s8_32, kg6_32, kgv_32, low32⟩ := h
    clear k8 kgv_8 low9 s0_11 s4_11 s5_11 s6_11 s7_11 s8_11 z11
    have hfm := fillR_mod s
    have hfs := fillR_size s
    have hpl := padN_le s
    refine c_seq ?_
    refine c_seq ?_
    refine c_region ?_
    refine l_q rfl (q_move _ _ rfl s8_32.ev ?_)
    refine l_q rfl (q_move _ _ rfl (s4_32.ne rfl).ev ?_)
    refine l_q rfl (q_len rfl rfl Try.underlying9 (At.hit z32.put rfl).ev ?_)
    refine l_q rfl (q_lss false rfl (((At.hit z32 rfl).ne rfl).ne rfl).ev (At.hit z32.put.put rfl).ev (decide_eq_false (by omega)) ?_)
    refine l_end ?_
    refine e_fresh z32.put.put.put.put ?_
    intro a33 z33 m33
    have s0_33 := m33 _ _ ((((s0_32.ne rfl).ne rfl).ne rfl).ne rfl)
    have s4_33 := m33 _ _ ((((s4_32.ne rfl).ne rfl).ne rfl).ne rfl)
    have s5_33 := m33 _ _ ((((s5_32.ne rfl).ne rfl).ne rfl).ne rfl)
    have s6_33 := m33 _ _ ((((s6_32.ne rfl).ne rfl).ne rfl).ne rfl)
    have s7_33 := m33 _ _ ((((s7_32.ne rfl).ne rfl).ne rfl).ne rfl)
    have s8_33 := m33 _ _ ((((s8_32.ne rfl).ne rfl).ne rfl).ne rfl)
    have s17_33 := m33 _ _ (At.hit z32.put.put.put rfl)
    clear m33
    refine e_then ?_
    refine c_false s17_33 ?_
    refine wp_exit ?_
    refine x_then ?_
    refine x_then ?_
    refine in_exit ?_
    refine e_then ?_
    refine c_seq ?_
    refine c_region ?_
    refine l_q rfl (q_move _ _ rfl s0_33.ev ?_)
    refine l_call (fun v w' => v = .string (sumR s) ∧ Low w32 w') rfl rfl rfl Try.func19 rfl (args1 rfl (At.hit z33 rfl).ev) ((SumR.calls s hs _).mono fun _ _ ⟨e, k⟩ => ⟨_, e, rfl, k⟩) ?_
    rintro _ w34 ⟨rfl, h34⟩
    have kg6_34 := h34.blk kg6_32
    have kgv_34 := h34.blk kgv_32
    refine l_q rfl (q_move _ _ rfl ((s7_33.ne rfl).ne rfl).ev ?_)
    refine l_q rfl (q_assign _ _ rfl ((At.hit z33.put rfl).ne rfl).ev ?_)
    refine l_q rfl (q_assign _ _ rfl ((At.hit z33.put.put rfl).ne rfl).ev ?_)
    refine l_end ?_
    refine e_fresh z33.put.put.put.put.put ?_
    intro a35 z35 m35
    have s2_35 := m35 _ _ ((At.hit z33.put.put.put rfl).ne rfl)
    have s3_35 := m35 _ _ (At.hit z33.put.put.put.put rfl)
    have low35 := (low32.trans h34)
    clear m35
    refine e_then ?_
    refine wp_ret ?_
    refine r_two rfl z35.defers s2_35 s3_35 ?_
    exact ⟨rfl, low35⟩
end Go.Proofs.Ytffhmlnklohbdaa.Q
end
/-! W0 -/
section
namespace Go.Proofs.Ytffhmlnklohbdaa.Q
open Go.RowKit Go.Proofs.Ytffhmlnklohbdaa.P Go.Proofs.YtffhmlnklohbdaaW.PrintWords
set_option maxRecDepth 100000
def v3 (a b c : Int) : Array Value := #[.int .i64 a, .int .i64 b, .int .i64 c]
theorem eq23 (d : Nat) (a b c a' b' c' : Int) (w : World) : (Op.equalIn (d + 2) 23 (.agg (v3 a b c)) (.agg (v3 a' b' c'))).run Try.prog w = .ok (a == a' && (b == b' && c == c')) w :=
  eqA_of Try.underlying23 (by kernel_rfl) (eqf_cons rfl (by kernel_rfl) (by kernel_rfl) (run_equalIn_int w d _ .i64 .i64 a a' Try.underlying3) (eqf_cons rfl (by kernel_rfl) (by kernel_rfl) (run_equalIn_int w d _ .i64 .i64 b b' Try.underlying3) (eqf_last rfl (by kernel_rfl) (by kernel_rfl) (run_equalIn_int w d _ .i64 .i64 c c' Try.underlying3))))
theorem eq29 (d : Nat) (a b c a' b' c' : Int) (w : World) : (Op.equalIn (d + 2) 29 (.agg (v3 a b c)) (.agg (v3 a' b' c'))).run Try.prog w = .ok (a == a' && (b == b' && c == c')) w :=
  eqA_of Try.underlying29 (by kernel_rfl) (eqf_cons rfl (by kernel_rfl) (by kernel_rfl) (run_equalIn_int w d _ .i64 .i64 a a' Try.underlying3) (eqf_cons rfl (by kernel_rfl) (by kernel_rfl) (run_equalIn_int w d _ .i64 .i64 b b' Try.underlying3) (eqf_last rfl (by kernel_rfl) (by kernel_rfl) (run_equalIn_int w d _ .i64 .i64 c c' Try.underlying3))))
theorem built23 (a b : Int) : Try.prog.built 23 [(0, .int .i64 a), (1, .int .i64 b)] = some (v3 a b 0) := by kernel_rfl
section
variable {P : Program} {Q : Exit → Act → World → Prop} {a : Act} {w : World} {o : Oper} {ops : Array Oper} {rest : List Oper} {K : Act → Prop} {C : World → Prop}
theorem q_eq3 {T T' : TypeId} {x y : Operand} {xs ys : Array Value} {r : Bool} (b : Bool) (ho : o.op = .binOp .eql T x y T') (hm : P.eqGuardType P.depth T = false) (hx : a.eval x = .agg xs) (hy : a.eval y = .agg ys) (h : ∀ w, (Op.equalIn 10000 T (.agg xs) (.agg ys)).run P w = .ok r w) (hb : r = b) (hn : K (a.put o.dst (.bool b))) : o.quiet P a C K :=
  q_val _ (fun w _ => by
    have h1 := run_eqGuard_agg (P := P) w .eql T x y xs ys hm
    have h2 := run_eql_struct (P := P) w T xs ys
    unfold execOp
    simp only [ho, hx, hy, Sem.run_bind, h1, Result.andThen_ok, h2, h w, Sem.run_pure, hb]) hn
theorem q_ne3 {T T' : TypeId} {x y : Operand} {xs ys : Array Value} {r : Bool} (b : Bool) (ho : o.op = .binOp .neq T x y T') (hm : P.eqGuardType P.depth T = false) (hx : a.eval x = .agg xs) (hy : a.eval y = .agg ys) (h : ∀ w, (Op.equalIn 10000 T (.agg xs) (.agg ys)).run P w = .ok r w) (hb : (!r) = b) (hn : K (a.put o.dst (.bool b))) : o.quiet P a C K :=
  q_val _ (fun w _ => by
    have h1 := run_eqGuard_agg (P := P) w .neq T x y xs ys hm
    have h2 := run_neq_struct (P := P) w T xs ys
    unfold execOp
    simp only [ho, hx, hy, Sem.run_bind, h1, Result.andThen_ok, h2, h w, Sem.run_pure, hb]) hn
theorem q_boolq {T T' : TypeId} {x y : Operand} {s t : Bool} (b : Bool) (ho : o.op = .binOp .eql T x y T') (hT : P.underlying T = some .bool) (hx : a.eval x = .bool s) (hy : a.eval y = .bool t) (hb : (s == t) = b) (hn : K (a.put o.dst (.bool b))) : o.quiet P a C K :=
  q_val _ (fun w _ => by
    have h1 := run_equalIn_bool' (P := P) w 9999 T s t hT
    unfold execOp
    simp [ho, hx, hy, eqGuard, binOp, Op.equal, Op.maxDepth, Sem.run_bind, h1, hb]) hn
theorem parts2 {i j : Nat} {x y : Operand} {u v : Value} (hx : a.eval x = u) (hy : a.eval y = v) : (#[(i, x), (j, y)] : Array (Nat × Operand)).map (fun (i, x) => (i, a.eval x)) = #[(i, u), (j, v)] := by simp [hx, hy]
end
theorem guard23 : Try.prog.eqGuardType Try.prog.depth 23 = false := by kernel_rfl
theorem guard29 : Try.prog.eqGuardType Try.prog.depth 29 = false := by kernel_rfl
end Go.Proofs.Ytffhmlnklohbdaa.Q
end
