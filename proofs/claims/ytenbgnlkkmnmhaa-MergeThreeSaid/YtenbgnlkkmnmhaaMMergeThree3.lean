/- Merged out of this session's texts by a program (wip/gen/merge.py): declarations that this claim doesn't name are left out. -/
import Derived.Test.YtenbgnlkkmnmhaaMMergeThree2
set_option linter.unusedVariables false
set_option linter.unusedSimpArgs false
/-! E5 -/
section
namespace Go.Proofs.Ytenbgnlkkmnmhaa.Q
open Go.RowKit Go.Proofs.Ytenbgnlkkmnmhaa.P
open Go.Proofs.YtenbgnlkkmnmhaaW.PrintWords (bytesOf bytesOf_length)
set_option linter.unusedVariables false
set_option linter.unusedSimpArgs false
set_option maxRecDepth 100000
set_option maxHeartbeats 4000000
attribute [local irreducible] wpList wpQuiet qch Code.wp Oper.quiet Act.put At Region.wanted yielded
theorem len_zero {α : Type} (l : List α) : decide (((l.length : Nat) : Int) = 0) = l.isEmpty := by cases l <;> simp <;> omega
theorem Clean.calls (vb vo vt : Value) (lb lo lt : List LfL) (hlb : lb.length ≤ 100000) (hlo : lo.length ≤ 100000) (hlt : lt.length ≤ 100000) (ho : shortL lo) (ht : shortL lt) (w0 : World) (hvb : RdF w0 3 vb lb.length (lb.map encL).flatten) (hvo : RdF w0 3 vo lo.length (lo.map encL).flatten) (hvt : RdF w0 3 vt lt.length (lt.map encL).flatten) : Calls Try.prog 12 #[vb, vo, vt] w0 fun e w' => e = .returned (.bool (badA lb lo lt).isEmpty) ∧ Low w0 w' := by
  refine c_fun (R := _) Try.func12 rfl 19 rfl (Nat.le_of_ble_eq_true rfl) ?_
  intro a z hA
  have s0 := hA 0 _ rfl
  have s1 := hA 1 _ rfl
  have s2 := hA 2 _ rfl
  clear hA
  refine c_seq ?_
  refine c_region ?_
  refine l_q rfl (q_assign _ _ rfl rfl ?_)
  refine l_end ?_
  refine e_fresh z.put ?_
  intro a1 z1 m1
  have s0_1 := m1 _ _ (s0.ne rfl)
  have s1_1 := m1 _ _ (s1.ne rfl)
  have s2_1 := m1 _ _ (s2.ne rfl)
  clear m1
  refine e_then ?_
  refine c_seq ?_
  refine c_region ?_
  refine l_q rfl (q_move _ _ rfl s0_1.ev ?_)
  refine l_q rfl (q_move _ _ rfl (s1_1.ne rfl).ev ?_)
  refine l_q rfl (q_move _ _ rfl ((s2_1.ne rfl).ne rfl).ev ?_)
  refine l_call _ rfl rfl rfl Try.func7 rfl (args3 rfl (((At.hit z1 rfl).ne rfl).ne rfl).ev ((At.hit z1.put rfl).ne rfl).ev (At.hit z1.put.put rfl).ev) (Three.calls _ _ _ lb lo lt hlb hlo hlt ho ht _ hvb hvo hvt) ?_
  rintro _ w2 ⟨p2, q2, rfl, o2, oo2, h2⟩
  replace o2 := o2.base (Low.refl _).ge
  replace oo2 := oo2.base (Low.refl _).ge
  have ovb_2 := hvb.low h2
  have ovo_2 := hvo.low h2
  have ovt_2 := hvt.low h2
  refine l_q rfl (q_move _ _ rfl (At.hit z1.put.put.put rfl).ev ?_)
  refine l_q rfl (q_extract rfl (At.hit z1.put.put.put.put rfl).ev rfl ?_)
  refine l_q rfl (q_extract rfl ((At.hit z1.put.put.put.put rfl).ne rfl).ev rfl ?_)
  refine l_q rfl (q_assign _ _ rfl ((At.hit z1.put.put.put.put.put rfl).ne rfl).ev ?_)
  refine l_fresh z1.put.put.put.put.put.put.put.put ?_
  intro a3 z3 m3
  have s15_3 := m3 _ _ ((At.hit z1.put.put.put.put.put.put rfl).ne rfl)
  clear m3
  refine l_q rfl (q_assign _ _ rfl s15_3.ev ?_)
  refine l_end ?_
  refine e_fresh z3.put ?_
  intro a4 z4 m4
  have s8_4 := m4 _ _ (At.hit z3 rfl)
  have low4 := h2
  clear m4
  refine e_then ?_
  refine c_seq ?_
  refine c_region ?_
  refine l_q rfl (q_move _ _ rfl s8_4.ev ?_)
  refine l_q rfl (q_lenF rfl rfl Try.underlying25 (At.hit z4 rfl).ev oo2.rd ?_)
  refine l_q rfl (q_eql _ rfl (At.hit z4.put rfl).ev rfl rfl ?_)
  refine l_q rfl (q_assign _ _ rfl (At.hit z4.put.put rfl).ev ?_)
  refine l_end ?_
  refine e_fresh z4.put.put.put.put ?_
  intro a5 z5 m5
  have s6_5 := m5 _ _ (At.hit z4.put.put.put rfl)
  clear m5
  refine e_then ?_
  refine wp_ret ?_
  refine r_tmp rfl z5.defers s6_5 ?_
  exact ⟨by rw [len_zero], low4⟩
theorem ThreeR.calls (vb vo vt : Value) (lb lo lt : List LfR) (hlb : lb.length ≤ 100000) (hlo : lo.length ≤ 100000) (hlt : lt.length ≤ 100000) (w0 : World) (hvb : RdF w0 3 vb lb.length (lb.map encR).flatten) (hvo : RdF w0 3 vo lo.length (lo.map encR).flatten) (hvt : RdF w0 3 vt lt.length (lt.map encR).flatten) : Calls Try.prog 8 #[vb, vo, vt] w0 fun e w' => ∃ z, e = .returned z ∧ ∃ x y, z = .tuple #[x, y] ∧ OwnF w' w0.heap.size 52 3 x (outS lb lo lt).length ((outS lb lo lt).map encR).flatten ∧ OwnF w' w0.heap.size 9 1 y (wantS lb lo lt).length ((wantS lb lo lt).map encS).flatten ∧ Low w0 w' := by
  refine c_fun (R := _) Try.func8 rfl 137 rfl (Nat.le_of_ble_eq_true rfl) ?_
  intro a z hA
  have s0 := hA 0 _ rfl
  have s1 := hA 1 _ rfl
  have s2 := hA 2 _ rfl
  clear hA
  refine c_seq ?_
  refine c_region ?_
  refine l_q rfl (q_assign _ _ rfl rfl ?_)
  refine l_q rfl (q_assign _ _ rfl rfl ?_)
  refine l_end ?_
  refine e_fresh z.put.put ?_
  intro a1 z1 m1
  have s0_1 := m1 _ _ ((s0.ne rfl).ne rfl)
  have s1_1 := m1 _ _ ((s1.ne rfl).ne rfl)
  have s2_1 := m1 _ _ ((s2.ne rfl).ne rfl)
  clear m1
  refine e_then ?_
  refine c_seq ?_
  refine c_region ?_
  refine l_q rfl (q_move _ _ rfl s0_1.ev ?_)
  refine l_q rfl (q_move _ _ rfl (s1_1.ne rfl).ev ?_)
  refine l_q rfl (q_move _ _ rfl ((s2_1.ne rfl).ne rfl).ev ?_)
  refine l_lit3 rfl rfl Try.underlying58 rec28 (((At.hit z1 rfl).ne rfl).ne rfl).ev ((At.hit z1.put rfl).ne rfl).ev (At.hit z1.put.put rfl).ev (RdF.one hvb) (RdF.one hvo) (RdF.one hvt) ?_
  intro g24_2 w2 hg2 k2 h2
  have geg24_2 := Nat.le_trans (Low.refl _).ge hg2
  have ovb_2 := hvb.low h2
  have ovo_2 := hvo.low h2
  have ovt_2 := hvt.low h2
  have og24_2_2 := rdFF3 k2 ovb_2 ovo_2 ovt_2
  obtain ⟨L, hL⟩ : ∃ L : List (List LfR), L = [lb, lo, lt] := ⟨_, rfl⟩
  rw [← hL] at og24_2_2
  have hLn : L.length = 3 := by rw [hL]; rfl
  have hLf : L.flatten.length ≤ 900000 := by rw [hL]; simp; omega
  refine l_call _ rfl rfl rfl Try.func22 rfl (args1 rfl (At.hit z1.put.put.put rfl).ev) (Paths.calls _ _ L hLf (by omega) _ og24_2_2) ?_
  rintro v3 w3 ⟨o3, h3⟩
  replace o3 := o3.base h2.ge
  have kg24_2_3 := h3.blk k2
  have ovb_3 := ovb_2.low h3
  have ovo_3 := ovo_2.low h3
  have ovt_3 := ovt_2.low h3
  have oL2_3 := og24_2_2.low h3
  replace o3 := OwnF.castL o3 (show pathsR L = pathsD lb lo lt from (by rw [hL]; rfl))
  refine l_q rfl (q_assign _ _ rfl (At.hit z1.put.put.put.put rfl).ev ?_)
  refine l_end ?_
  refine e_fresh z1.put.put.put.put.put.put ?_
  intro a4 z4 m4
  have s0_4 := m4 _ _ ((((((s0_1.ne rfl).ne rfl).ne rfl).ne rfl).ne rfl).ne rfl)
  have s1_4 := m4 _ _ ((((((s1_1.ne rfl).ne rfl).ne rfl).ne rfl).ne rfl).ne rfl)
  have s2_4 := m4 _ _ ((((((s2_1.ne rfl).ne rfl).ne rfl).ne rfl).ne rfl).ne rfl)
  have s8_4 := m4 _ _ (At.hit z1.put.put.put.put.put rfl)
  have low4 := (h2.trans h3)
  clear m4
  refine e_then ?_
  refine c_seq ?_
  refine c_region ?_
  refine l_q rfl (q_assign _ _ rfl rfl ?_)
  refine l_end ?_
  refine e_fresh z4.put ?_
  intro a5 z5 m5
  have s0_5 := m5 _ _ (s0_4.ne rfl)
  have s1_5 := m5 _ _ (s1_4.ne rfl)
  have s2_5 := m5 _ _ (s2_4.ne rfl)
  have s8_5 := m5 _ _ (s8_4.ne rfl)
  have s9_5 := m5 _ _ (At.hit z4 rfl)
  clear m5
  refine e_then ?_
  refine c_seq ?_
  refine c_region ?_
  refine l_makeMap rfl rfl ?_
  intro g26_6 w6 hg6 k6 h6
  have geg26_6 := Nat.le_trans (Low.refl _).ge hg6
  have ovb_6 := ovb_3.low h6
  have ovo_6 := ovo_3.low h6
  have ovt_6 := ovt_3.low h6
  have ob3_6 := o3.low h6
  refine l_q rfl (q_assign _ _ rfl (At.hit z5 rfl).ev ?_)
  refine l_end ?_
  refine e_fresh z5.put.put ?_
  intro a7 z7 m7
  have s0_7 := m7 _ _ ((s0_5.ne rfl).ne rfl)
  have s1_7 := m7 _ _ ((s1_5.ne rfl).ne rfl)
  have s2_7 := m7 _ _ ((s2_5.ne rfl).ne rfl)
  have s8_7 := m7 _ _ ((s8_5.ne rfl).ne rfl)
  have s9_7 := m7 _ _ ((s9_5.ne rfl).ne rfl)
  have s10_7 := m7 _ _ (At.hit z5.put rfl)
  have low7 := h6
  clear m7
  refine e_then ?_
  refine c_seq ?_
  refine c_region ?_
  refine l_q rfl (q_build (cs := #[.string zR.f0, .int .i64 zR.f1, .string zR.f2]) rfl rfl (by kernel_rfl) ?_)
  refine l_alloc rfl rfl zero52 ?_
  intro g11 w8 hg8 k8 h8
  have lt_g26_6_g11 := Nat.lt_of_lt_of_le k6.lt hg8
  have geg11 := Nat.le_trans low7.ge hg8
  have kg26_6_8 := k6.low h8
  have ovb_8 := ovb_6.low h8
  have ovo_8 := ovo_6.low h8
  have ovt_8 := ovt_6.low h8
  have ob3_8 := ob3_6.low h8
  refine l_row rfl rfl rfl (sz52.trans (congrArg some rfl.symm)) (At.hit z7.put rfl).ev ((At.hit z7 rfl).ne rfl).ev (by simp [Value.oneCell']) k8 (rfl.trans rfl.symm) ?_
  intro w9 k9 u9
  have kg26_6_9 := kg26_6_8.upd u9 (by omega)
  refine l_end ?_
  refine e_fresh z7.put.put ?_
  intro a10 z10 m10
  have s0_10 := m10 _ _ ((s0_7.ne rfl).ne rfl)
  have s1_10 := m10 _ _ ((s1_7.ne rfl).ne rfl)
  have s2_10 := m10 _ _ ((s2_7.ne rfl).ne rfl)
  have s8_10 := m10 _ _ ((s8_7.ne rfl).ne rfl)
  have s9_10 := m10 _ _ ((s9_7.ne rfl).ne rfl)
  have s10_10 := m10 _ _ ((s10_7.ne rfl).ne rfl)
  have s11_10 := m10 _ _ (At.hit z7.put rfl)
  have low10 := ((low7.trans h8).upd u9 geg11)
  clear m10
  refine e_then ?_
  refine c_seq ?_
  refine c_seq ?_
  refine c_region ?_
  refine l_q rfl (q_assign _ _ rfl rfl ?_)
  refine l_end ?_
  refine e_fresh z10.put ?_
  intro a11 z11 m11
  have s0_11 := m11 _ _ (s0_10.ne rfl)
  have s1_11 := m11 _ _ (s1_10.ne rfl)
  have s2_11 := m11 _ _ (s2_10.ne rfl)
  have s8_11 := m11 _ _ (s8_10.ne rfl)
  have s9_11 := m11 _ _ (s9_10.ne rfl)
  have s10_11 := m11 _ _ (s10_10.ne rfl)
  have s11_11 := m11 _ _ (s11_10.ne rfl)
  have s12_11 := m11 _ _ (At.hit z10 rfl)
  clear m11
  refine e_then ?_
  refine wp_block ?_
  refine c_loop ((pathsD lb lo lt).length) (fun k a w => ∃ v9 : Value, Fr 137 a ∧ At a 0 (vb) ∧ At a 1 (vo) ∧ At a 2 (vt) ∧ At a 8 (v3) ∧ At a 9 (v9) ∧ At a 10 (.map (some g26_6)) ∧ At a 11 (.pointer (some ⟨g11, 0, none⟩)) ∧ At a 12 (.int .i64 ((k : Nat) : Int)) ∧ w.heap[g11]? = some (.cells (#[.string zR.f0, .int .i64 zR.f1, .string zR.f2]) 52) ∧ MapIs w g26_6 (mapB (badR lb lo lt ((pathsD lb lo lt).take k))) ∧ (OwnF w w3.heap.size 52 3 v9 (outR lb lo lt ((pathsD lb lo lt).take k)).length (((outR lb lo lt ((pathsD lb lo lt).take k)).map encR).flatten) ∧ ∀ k, Value.ownBlock v9 = some k → k ≠ g11) ∧ Low w3 w) ?_ ?_ ?_
  · exact ⟨.slice none 0 0, z11, s0_11, s1_11, s2_11, s8_11, s9_11, s10_11, s11_11, s12_11, k9, kg26_6_9, ⟨OwnF.nil _ _ _ _, apart_nil _⟩, low10⟩
  · intro k a12 w12 hk12 h
    obtain ⟨v9_12, z12, s0_12, s1_12, s2_12, s8_12, s9_12, s10_12, s11_12, s12_12, kg11_12, kg26_6_12, ox9_12, low12⟩ := h
    clear k9 kg26_6_9 low10 s0_11 s10_11 s11_11 s12_11 s1_11 s2_11 s8_11 s9_11 z11
    have hpl := pathsD_len lb lo lt
    have hol := outR_len lb lo lt (pathsD lb lo lt) k 300000 (by omega)
    refine c_seq ?_
    refine c_seq ?_
    refine c_region ?_
    refine l_q rfl (q_move _ _ rfl s12_12.ev ?_)
    refine l_q rfl (q_move _ _ rfl (s8_12.ne rfl).ev ?_)
    refine l_q rfl (q_lenF rfl rfl Try.underlying25 (At.hit z12.put rfl).ev (o3.low low12).rd ?_)
    refine l_q rfl (q_lss true rfl (((At.hit z12 rfl).ne rfl).ne rfl).ev (At.hit z12.put.put rfl).ev (decide_eq_true (by omega)) ?_)
    refine l_end ?_
    refine e_fresh z12.put.put.put.put ?_
    intro a13 z13 m13
    have s0_13 := m13 _ _ ((((s0_12.ne rfl).ne rfl).ne rfl).ne rfl)
    have s1_13 := m13 _ _ ((((s1_12.ne rfl).ne rfl).ne rfl).ne rfl)
    have s2_13 := m13 _ _ ((((s2_12.ne rfl).ne rfl).ne rfl).ne rfl)
    have s8_13 := m13 _ _ ((((s8_12.ne rfl).ne rfl).ne rfl).ne rfl)
    have s9_13 := m13 _ _ ((((s9_12.ne rfl).ne rfl).ne rfl).ne rfl)
    have s10_13 := m13 _ _ ((((s10_12.ne rfl).ne rfl).ne rfl).ne rfl)
    have s11_13 := m13 _ _ ((((s11_12.ne rfl).ne rfl).ne rfl).ne rfl)
    have s12_13 := m13 _ _ ((((s12_12.ne rfl).ne rfl).ne rfl).ne rfl)
    have s31_13 := m13 _ _ (At.hit z12.put.put.put rfl)
    clear m13
    refine e_then ?_
    refine c_true s31_13 ?_
    refine wp_skip ?_
    refine e_then ?_
    refine c_seq ?_
    refine wp_block ?_
    refine c_seq ?_
    refine region_told [.val (vb), .val (v3), .val (.int .i64 ((k : Nat) : Int)), .val (pAt v3 (k * 1)), .val (.string ((pathsD lb lo lt).getD k ByteArray.empty)), .val (.agg (#[.string ((findR lb ((pathsD lb lo lt).getD k ByteArray.empty)).f0), .int .i64 ((findR lb ((pathsD lb lo lt).getD k ByteArray.empty)).f1), .string ((findR lb ((pathsD lb lo lt).getD k ByteArray.empty)).f2)])), .val (vo), .val (v3), .val (.int .i64 ((k : Nat) : Int)), .val (pAt v3 (k * 1)), .val (.string ((pathsD lb lo lt).getD k ByteArray.empty)), .val (.agg (#[.string ((findR lo ((pathsD lb lo lt).getD k ByteArray.empty)).f0), .int .i64 ((findR lo ((pathsD lb lo lt).getD k ByteArray.empty)).f1), .string ((findR lo ((pathsD lb lo lt).getD k ByteArray.empty)).f2)])), .val (vt), .val (v3), .val (.int .i64 ((k : Nat) : Int)), .val (pAt v3 (k * 1)), .val (.string ((pathsD lb lo lt).getD k ByteArray.empty)), .val (.agg (#[.string ((findR lt ((pathsD lb lo lt).getD k ByteArray.empty)).f0), .int .i64 ((findR lt ((pathsD lb lo lt).getD k ByteArray.empty)).f1), .string ((findR lt ((pathsD lb lo lt).getD k ByteArray.empty)).f2)])), .new (#[.string zR.f0, .int .i64 zR.f1, .string zR.f2]) 52 21 (#[.string ((findR lb ((pathsD lb lo lt).getD k ByteArray.empty)).f0), .int .i64 ((findR lb ((pathsD lb lo lt).getD k ByteArray.empty)).f1), .string ((findR lb ((pathsD lb lo lt).getD k ByteArray.empty)).f2)]), .new (#[.string zR.f0, .int .i64 zR.f1, .string zR.f2]) 52 22 (#[.string ((findR lo ((pathsD lb lo lt).getD k ByteArray.empty)).f0), .int .i64 ((findR lo ((pathsD lb lo lt).getD k ByteArray.empty)).f1), .string ((findR lo ((pathsD lb lo lt).getD k ByteArray.empty)).f2)]), .new (#[.string zR.f0, .int .i64 zR.f1, .string zR.f2]) 52 23 (#[.string ((findR lt ((pathsD lb lo lt).getD k ByteArray.empty)).f0), .int .i64 ((findR lt ((pathsD lb lo lt).getD k ByteArray.empty)).f1), .string ((findR lt ((pathsD lb lo lt).getD k ByteArray.empty)).f2)]), .put 18 5, .put 19 11, .put 20 17] hm (by kernel_rfl) rfl z13 (allO_cons ?_ (allO_cons ?_ (allO_cons ?_ (allO_cons ?_ (allO_cons ?_ (allO_cons ?_ (allO_cons ?_ (allO_cons ?_ (allO_cons ?_ (allO_cons ?_ (allO_cons ?_ (allO_cons ?_ (allO_cons ?_ (allO_cons ?_ (allO_cons ?_ (allO_cons ?_ (allO_cons ?_ (allO_cons ?_ (allO_cons (stepO_new _ rfl rfl rfl zero52) (allO_cons (stepO_new _ rfl rfl rfl zero52) (allO_cons (stepO_new _ rfl rfl rfl zero52) (allO_cons (stepO_put rfl rfl rfl rfl rfl rfl rfl rfl (rfl.trans rfl.symm) (by simp [Value.oneCell']) (sz52.trans (congrArg some rfl.symm))) (allO_cons (stepO_put rfl rfl rfl rfl rfl rfl rfl rfl (rfl.trans rfl.symm) (by simp [Value.oneCell']) (sz52.trans (congrArg some rfl.symm))) (allO_cons (stepO_put rfl rfl rfl rfl rfl rfl rfl rfl (rfl.trans rfl.symm) (by simp [Value.oneCell']) (sz52.trans (congrArg some rfl.symm))) allO_nil)))))))))))))))))))))))) ?_
    · exact stepO_val _ rfl rfl fun _ _ _ lw kp kn => q_move _ _ rfl (kp _ _ rfl s0_13).ev rfl
    · exact stepO_val _ rfl rfl fun _ _ _ lw kp kn => q_move _ _ rfl (kp _ _ rfl s8_13).ev rfl
    · exact stepO_val _ rfl rfl fun _ _ _ lw kp kn => q_move _ _ rfl (kp _ _ rfl s12_13).ev rfl
    · exact stepO_val _ rfl rfl fun _ _ _ lw kp kn => q_idxF (j := k) rfl Try.underlying25 sz9 (kn 1 _ _ rfl rfl rfl).ev ((o3.low low12).low lw).rd (kn 2 _ _ rfl rfl rfl).ev (by omega) rfl
    · exact stepO_val _ rfl rfl fun _ _ _ lw kp kn => q_ld1 (u := .string ((pathsD lb lo lt).getD k ByteArray.empty)) rfl Try.underlying9 rfl (kn 3 _ _ rfl rfl rfl).ev (fun _ h => (((o3.low low12).low lw).low h).rd) (by omega) ((flat_at encS_len ByteArray.empty _ k 0 (by omega) (by decide)).trans rfl) rfl
    · exact stepO_val _ rfl rfl fun _ _ _ lw kp kn => q_call (.agg (#[.string ((findR lb ((pathsD lb lo lt).getD k ByteArray.empty)).f0), .int .i64 ((findR lb ((pathsD lb lo lt).getD k ByteArray.empty)).f1), .string ((findR lb ((pathsD lb lo lt).getD k ByteArray.empty)).f2)])) rfl rfl Try.func23 rfl (args2 rfl (kn 0 _ _ rfl rfl rfl).ev (kn 4 _ _ rfl rfl rfl).ev) (fun _ h => (Find.calls _ lb (by omega) ((pathsD lb lo lt).getD k ByteArray.empty) _ (((ovb_3.low low12).low lw).low h)).mono fun _ _ ⟨e, k⟩ => ⟨e, h.trans k⟩) rfl
    · exact stepO_val _ rfl rfl fun _ _ _ lw kp kn => q_move _ _ rfl (kp _ _ rfl s1_13).ev rfl
    · exact stepO_val _ rfl rfl fun _ _ _ lw kp kn => q_move _ _ rfl (kp _ _ rfl s8_13).ev rfl
    · exact stepO_val _ rfl rfl fun _ _ _ lw kp kn => q_move _ _ rfl (kp _ _ rfl s12_13).ev rfl
    · exact stepO_val _ rfl rfl fun _ _ _ lw kp kn => q_idxF (j := k) rfl Try.underlying25 sz9 (kn 7 _ _ rfl rfl rfl).ev ((o3.low low12).low lw).rd (kn 8 _ _ rfl rfl rfl).ev (by omega) rfl
    · exact stepO_val _ rfl rfl fun _ _ _ lw kp kn => q_ld1 (u := .string ((pathsD lb lo lt).getD k ByteArray.empty)) rfl Try.underlying9 rfl (kn 9 _ _ rfl rfl rfl).ev (fun _ h => (((o3.low low12).low lw).low h).rd) (by omega) ((flat_at encS_len ByteArray.empty _ k 0 (by omega) (by decide)).trans rfl) rfl
    · exact stepO_val _ rfl rfl fun _ _ _ lw kp kn => q_call (.agg (#[.string ((findR lo ((pathsD lb lo lt).getD k ByteArray.empty)).f0), .int .i64 ((findR lo ((pathsD lb lo lt).getD k ByteArray.empty)).f1), .string ((findR lo ((pathsD lb lo lt).getD k ByteArray.empty)).f2)])) rfl rfl Try.func23 rfl (args2 rfl (kn 6 _ _ rfl rfl rfl).ev (kn 10 _ _ rfl rfl rfl).ev) (fun _ h => (Find.calls _ lo (by omega) ((pathsD lb lo lt).getD k ByteArray.empty) _ (((ovo_3.low low12).low lw).low h)).mono fun _ _ ⟨e, k⟩ => ⟨e, h.trans k⟩) rfl
    · exact stepO_val _ rfl rfl fun _ _ _ lw kp kn => q_move _ _ rfl (kp _ _ rfl s2_13).ev rfl
    · exact stepO_val _ rfl rfl fun _ _ _ lw kp kn => q_move _ _ rfl (kp _ _ rfl s8_13).ev rfl
    · exact stepO_val _ rfl rfl fun _ _ _ lw kp kn => q_move _ _ rfl (kp _ _ rfl s12_13).ev rfl
    · exact stepO_val _ rfl rfl fun _ _ _ lw kp kn => q_idxF (j := k) rfl Try.underlying25 sz9 (kn 13 _ _ rfl rfl rfl).ev ((o3.low low12).low lw).rd (kn 14 _ _ rfl rfl rfl).ev (by omega) rfl
    · exact stepO_val _ rfl rfl fun _ _ _ lw kp kn => q_ld1 (u := .string ((pathsD lb lo lt).getD k ByteArray.empty)) rfl Try.underlying9 rfl (kn 15 _ _ rfl rfl rfl).ev (fun _ h => (((o3.low low12).low lw).low h).rd) (by omega) ((flat_at encS_len ByteArray.empty _ k 0 (by omega) (by decide)).trans rfl) rfl
    · exact stepO_val _ rfl rfl fun _ _ _ lw kp kn => q_call (.agg (#[.string ((findR lt ((pathsD lb lo lt).getD k ByteArray.empty)).f0), .int .i64 ((findR lt ((pathsD lb lo lt).getD k ByteArray.empty)).f1), .string ((findR lt ((pathsD lb lo lt).getD k ByteArray.empty)).f2)])) rfl rfl Try.func23 rfl (args2 rfl (kn 12 _ _ rfl rfl rfl).ev (kn 16 _ _ rfl rfl rfl).ev) (fun _ h => (Find.calls _ lt (by omega) ((pathsD lb lo lt).getD k ByteArray.empty) _ (((ovt_3.low low12).low lw).low h)).mono fun _ _ ⟨e, k⟩ => ⟨e, h.trans k⟩) rfl
    intro a14 w14 G D
    have bg11_14 := (heap_lt kg11_12)
    have bg26_6_14 := kg26_6_12.lt
    have sg13 := D.ptr 18 _ _ _ _ _ rfl rfl
    have hgg13 := D.ge 18 _ _ _ _ _ rfl rfl
    have kg13 := D.blk 18 _ _ _ _ _ rfl rfl
    have geg13 := Nat.le_trans low12.ge hgg13
    have sg14 := D.ptr 19 _ _ _ _ _ rfl rfl
    have hgg14 := D.ge 19 _ _ _ _ _ rfl rfl
    have kg14 := D.blk 19 _ _ _ _ _ rfl rfl
    have geg14 := Nat.le_trans low12.ge hgg14
    have sg15 := D.ptr 20 _ _ _ _ _ rfl rfl
    have hgg15 := D.ge 20 _ _ _ _ _ rfl rfl
    have kg15 := D.blk 20 _ _ _ _ _ rfl rfl
    have geg15 := Nat.le_trans low12.ge hgg15
    have d14_18_19 := D.ne 18 19 _ _ _ _ _ _ _ _ rfl rfl rfl
    have d14_18_20 := D.ne 18 20 _ _ _ _ _ _ _ _ rfl rfl rfl
    have d14_19_20 := D.ne 19 20 _ _ _ _ _ _ _ _ rfl rfl rfl
    have h14 := D.low
    have kg11_14 := h14.blk kg11_12
    have kg26_6_14 := kg26_6_12.low h14
    have ox9_14 := ox9_12.1.low h14
    have ovb_14 := (ovb_3.low low12).low h14
    have ovo_14 := (ovo_3.low low12).low h14
    have ovt_14 := (ovt_3.low low12).low h14
    have ob3_14 := (o3.low low12).low h14
    have z14 := D.fr
    have s0_14 := (D.keep _ _ rfl s0_13)
    have s1_14 := (D.keep _ _ rfl s1_13)
    have s2_14 := (D.keep _ _ rfl s2_13)
    have s8_14 := (D.keep _ _ rfl s8_13)
    have s9_14 := (D.keep _ _ rfl s9_13)
    have s10_14 := (D.keep _ _ rfl s10_13)
    have s11_14 := (D.keep _ _ rfl s11_13)
    have s12_14 := (D.keep _ _ rfl s12_13)
    have s31_14 := (D.keep _ _ rfl s31_13)
    have s34_14 := (D.val 0 _ _ rfl rfl)
    have s35_14 := (D.val 1 _ _ rfl rfl)
    have s36_14 := (D.val 2 _ _ rfl rfl)
    have s37_14 := (D.val 3 _ _ rfl rfl)
    have s38_14 := (D.val 4 _ _ rfl rfl)
    have s39_14 := (D.val 5 _ _ rfl rfl)
    have s40_14 := (D.val 6 _ _ rfl rfl)
    have s41_14 := (D.val 7 _ _ rfl rfl)
    have s42_14 := (D.val 8 _ _ rfl rfl)
    have s43_14 := (D.val 9 _ _ rfl rfl)
    have s44_14 := (D.val 10 _ _ rfl rfl)
    have s45_14 := (D.val 11 _ _ rfl rfl)
    have s46_14 := (D.val 12 _ _ rfl rfl)
    have s47_14 := (D.val 13 _ _ rfl rfl)
    have s48_14 := (D.val 14 _ _ rfl rfl)
    have s49_14 := (D.val 15 _ _ rfl rfl)
    have s50_14 := (D.val 16 _ _ rfl rfl)
    have s51_14 := (D.val 17 _ _ rfl rfl)
    clear D
    generalize G 18 = g13 at *
    generalize G 19 = g14 at *
    generalize G 20 = g15 at *
    refine e_fresh z14 ?_
    intro a15 z15 m15
    have s0_15 := m15 _ _ s0_14
    have s1_15 := m15 _ _ s1_14
    have s2_15 := m15 _ _ s2_14
    have s8_15 := m15 _ _ s8_14
    have s9_15 := m15 _ _ s9_14
    have s10_15 := m15 _ _ s10_14
    have s11_15 := m15 _ _ s11_14
    have s12_15 := m15 _ _ s12_14
    have s13_15 := m15 _ _ sg13
    have s14_15 := m15 _ _ sg14
    have s15_15 := m15 _ _ sg15
    have low15 := (low12.trans h14)
    clear m15
    refine e_then ?_
    refine c_seq ?_
    refine c_region ?_
    refine l_q rfl (q_row rfl Try.underlying52 rfl (sz52.trans (congrArg some rfl.symm)) s14_15.ev (fun _ e => by rw [e]; exact kg14) ?_)
    refine l_alloc rfl rfl zero52 ?_
    intro g16 w16 hg16 k16 h16
    have onx9_g16 : ∀ k, Value.ownBlock v9_12 = some k → k < g16 := fun k hk => Nat.lt_of_lt_of_le (OwnF.own_lt ox9_14 hk) hg16
    have lt_g11_g16 := Nat.lt_of_lt_of_le (heap_lt kg11_14) hg16
    have lt_g26_6_g16 := Nat.lt_of_lt_of_le kg26_6_14.lt hg16
    have lt_g13_g16 := Nat.lt_of_lt_of_le (heap_lt kg13) hg16
    have lt_g14_g16 := Nat.lt_of_lt_of_le (heap_lt kg14) hg16
    have lt_g15_g16 := Nat.lt_of_lt_of_le (heap_lt kg15) hg16
    have geg16 := Nat.le_trans low15.ge hg16
    have kg11_16 := h16.blk kg11_14
    have kg26_6_16 := kg26_6_14.low h16
    have kg13_16 := h16.blk kg13
    have kg14_16 := h16.blk kg14
    have kg15_16 := h16.blk kg15
    have ox9_16 := ox9_14.low h16
    have ovb_16 := ovb_14.low h16
    have ovo_16 := ovo_14.low h16
    have ovt_16 := ovt_14.low h16
    have ob3_16 := ob3_14.low h16
    refine l_row rfl rfl rfl (sz52.trans (congrArg some rfl.symm)) (At.hit z15.put rfl).ev ((At.hit z15 rfl).ne rfl).ev (by simp [Value.oneCell']) k16 (rfl.trans rfl.symm) ?_
    intro w17 k17 u17
    have ox9_17 := ox9_16.updn u17 onx9_g16
    have kg11_17 := u17.blk kg11_16 (by omega)
    have kg26_6_17 := kg26_6_16.upd u17 (by omega)
    have kg13_17 := u17.blk kg13_16 (by omega)
    have kg14_17 := u17.blk kg14_16 (by omega)
    have kg15_17 := u17.blk kg15_16 (by omega)
    refine l_end ?_
    refine e_fresh z15.put.put ?_
    intro a18 z18 m18
    have s0_18 := m18 _ _ ((s0_15.ne rfl).ne rfl)
    have s1_18 := m18 _ _ ((s1_15.ne rfl).ne rfl)
    have s2_18 := m18 _ _ ((s2_15.ne rfl).ne rfl)
    have s8_18 := m18 _ _ ((s8_15.ne rfl).ne rfl)
    have s9_18 := m18 _ _ ((s9_15.ne rfl).ne rfl)
    have s10_18 := m18 _ _ ((s10_15.ne rfl).ne rfl)
    have s11_18 := m18 _ _ ((s11_15.ne rfl).ne rfl)
    have s12_18 := m18 _ _ ((s12_15.ne rfl).ne rfl)
    have s13_18 := m18 _ _ ((s13_15.ne rfl).ne rfl)
    have s14_18 := m18 _ _ ((s14_15.ne rfl).ne rfl)
    have s15_18 := m18 _ _ ((s15_15.ne rfl).ne rfl)
    have s16_18 := m18 _ _ (At.hit z15.put rfl)
    have low18 := ((low15.trans h16).upd u17 geg16)
    clear m18
    refine e_then ?_
    refine c_seq ?_
    refine c_seq ?_
    by_cases hb19 : ¬ findR lo ((pathsD lb lo lt).getD k ByteArray.empty) = findR lt ((pathsD lb lo lt).getD k ByteArray.empty)
    · skip
      by_cases hb20 : findR lo ((pathsD lb lo lt).getD k ByteArray.empty) = findR lb ((pathsD lb lo lt).getD k ByteArray.empty)
      · skip
        refine c_region ?_
        refine l_q rfl (q_row rfl Try.underlying52 rfl (sz52.trans (congrArg some rfl.symm)) s14_18.ev (fun _ e => by rw [e]; exact kg14_17) ?_)
        refine l_q rfl (q_row rfl Try.underlying52 rfl (sz52.trans (congrArg some rfl.symm)) (s15_18.ne rfl).ev (fun _ e => by rw [e]; exact kg15_17) ?_)
        refine l_q rfl (q_ne3 true rfl guard52 ((At.hit z18 rfl).ne rfl).ev (At.hit z18.put rfl).ev (eq52 9998 ((findR lo ((pathsD lb lo lt).getD k ByteArray.empty)).f0) ((findR lo ((pathsD lb lo lt).getD k ByteArray.empty)).f1) ((findR lo ((pathsD lb lo lt).getD k ByteArray.empty)).f2) ((findR lt ((pathsD lb lo lt).getD k ByteArray.empty)).f0) ((findR lt ((pathsD lb lo lt).getD k ByteArray.empty)).f1) ((findR lt ((pathsD lb lo lt).getD k ByteArray.empty)).f2)) (neR_true hb19) ?_)
        refine l_q rfl (q_move _ _ rfl (At.hit z18.put.put rfl).ev ?_)
        refine l_qg (wanted_is (j := 3) (d := 56) (b := true) rfl rfl (At.hit z18.put.put.put rfl) rfl) (q_row rfl Try.underlying52 rfl (sz52.trans (congrArg some rfl.symm)) ((((s14_18.ne rfl).ne rfl).ne rfl).ne rfl).ev (fun _ e => by rw [e]; exact kg14_17) ?_)
        refine l_qg (wanted_is (j := 3) (d := 56) (b := true) rfl rfl ((At.hit z18.put.put.put rfl).ne rfl) rfl) (q_row rfl Try.underlying52 rfl (sz52.trans (congrArg some rfl.symm)) (((((s13_18.ne rfl).ne rfl).ne rfl).ne rfl).ne rfl).ev (fun _ e => by rw [e]; exact kg13_17) ?_)
        refine l_qg (wanted_is (j := 3) (d := 56) (b := true) rfl rfl (((At.hit z18.put.put.put rfl).ne rfl).ne rfl) rfl) (q_eq3 true rfl guard52 ((At.hit z18.put.put.put.put rfl).ne rfl).ev (At.hit z18.put.put.put.put.put rfl).ev (eq52 9998 ((findR lo ((pathsD lb lo lt).getD k ByteArray.empty)).f0) ((findR lo ((pathsD lb lo lt).getD k ByteArray.empty)).f1) ((findR lo ((pathsD lb lo lt).getD k ByteArray.empty)).f2) ((findR lb ((pathsD lb lo lt).getD k ByteArray.empty)).f0) ((findR lb ((pathsD lb lo lt).getD k ByteArray.empty)).f1) ((findR lb ((pathsD lb lo lt).getD k ByteArray.empty)).f2)) (eqR_true hb20) ?_)
        refine l_q rfl (q_pick (b := true) (.bool true) rfl ((((At.hit z18.put.put.put rfl).ne rfl).ne rfl).ne rfl).ev (At.hit z18.put.put.put.put.put.put rfl).ev ?_)
        refine l_end ?_
        refine e_fresh z18.put.put.put.put.put.put.put.put ?_
        intro a21 z21 m21
        have s0_21 := m21 _ _ ((((((((s0_18.ne rfl).ne rfl).ne rfl).ne rfl).ne rfl).ne rfl).ne rfl).ne rfl)
        have s1_21 := m21 _ _ ((((((((s1_18.ne rfl).ne rfl).ne rfl).ne rfl).ne rfl).ne rfl).ne rfl).ne rfl)
        have s2_21 := m21 _ _ ((((((((s2_18.ne rfl).ne rfl).ne rfl).ne rfl).ne rfl).ne rfl).ne rfl).ne rfl)
        have s8_21 := m21 _ _ ((((((((s8_18.ne rfl).ne rfl).ne rfl).ne rfl).ne rfl).ne rfl).ne rfl).ne rfl)
        have s9_21 := m21 _ _ ((((((((s9_18.ne rfl).ne rfl).ne rfl).ne rfl).ne rfl).ne rfl).ne rfl).ne rfl)
        have s10_21 := m21 _ _ ((((((((s10_18.ne rfl).ne rfl).ne rfl).ne rfl).ne rfl).ne rfl).ne rfl).ne rfl)
        have s11_21 := m21 _ _ ((((((((s11_18.ne rfl).ne rfl).ne rfl).ne rfl).ne rfl).ne rfl).ne rfl).ne rfl)
        have s12_21 := m21 _ _ ((((((((s12_18.ne rfl).ne rfl).ne rfl).ne rfl).ne rfl).ne rfl).ne rfl).ne rfl)
        have s13_21 := m21 _ _ ((((((((s13_18.ne rfl).ne rfl).ne rfl).ne rfl).ne rfl).ne rfl).ne rfl).ne rfl)
        have s14_21 := m21 _ _ ((((((((s14_18.ne rfl).ne rfl).ne rfl).ne rfl).ne rfl).ne rfl).ne rfl).ne rfl)
        have s15_21 := m21 _ _ ((((((((s15_18.ne rfl).ne rfl).ne rfl).ne rfl).ne rfl).ne rfl).ne rfl).ne rfl)
        have s16_21 := m21 _ _ ((((((((s16_18.ne rfl).ne rfl).ne rfl).ne rfl).ne rfl).ne rfl).ne rfl).ne rfl)
        have s60_21 := m21 _ _ (At.hit z18.put.put.put.put.put.put.put rfl)
        clear m21
        refine e_then ?_
        refine c_true s60_21 ?_
        refine c_region ?_
        refine l_q rfl (q_row rfl Try.underlying52 rfl (sz52.trans (congrArg some rfl.symm)) s15_21.ev (fun _ e => by rw [e]; exact kg15_17) ?_)
        refine l_row rfl rfl rfl (sz52.trans (congrArg some rfl.symm)) (s16_21.ne rfl).ev (At.hit z21 rfl).ev (by simp [Value.oneCell']) k17 (rfl.trans rfl.symm) ?_
        intro w22 k22 u22
        have ox9_22 := ox9_17.updn u22 onx9_g16
        have kg11_22 := u22.blk kg11_17 (by omega)
        have kg26_6_22 := kg26_6_17.upd u22 (by omega)
        have kg13_22 := u22.blk kg13_17 (by omega)
        have kg14_22 := u22.blk kg14_17 (by omega)
        have kg15_22 := u22.blk kg15_17 (by omega)
        refine l_end ?_
        refine e_fresh z21.put ?_
        intro a23 z23 m23
        have s0_23 := m23 _ _ (s0_21.ne rfl)
        have s1_23 := m23 _ _ (s1_21.ne rfl)
        have s2_23 := m23 _ _ (s2_21.ne rfl)
        have s8_23 := m23 _ _ (s8_21.ne rfl)
        have s9_23 := m23 _ _ (s9_21.ne rfl)
        have s10_23 := m23 _ _ (s10_21.ne rfl)
        have s11_23 := m23 _ _ (s11_21.ne rfl)
        have s12_23 := m23 _ _ (s12_21.ne rfl)
        have s13_23 := m23 _ _ (s13_21.ne rfl)
        have s14_23 := m23 _ _ (s14_21.ne rfl)
        have s15_23 := m23 _ _ (s15_21.ne rfl)
        have s16_23 := m23 _ _ (s16_21.ne rfl)
        have low23 := (low18.upd u22 geg16)
        clear m23
        refine e_then ?_
        refine c_seq ?_
        refine c_seq ?_
        refine c_region ?_
        refine l_q rfl (q_row rfl Try.underlying52 rfl (sz52.trans (congrArg some rfl.symm)) s14_23.ev (fun _ e => by rw [e]; exact kg14_22) ?_)
        refine l_q rfl (q_row rfl Try.underlying52 rfl (sz52.trans (congrArg some rfl.symm)) (s15_23.ne rfl).ev (fun _ e => by rw [e]; exact kg15_22) ?_)
        refine l_q rfl (q_ne3 true rfl guard52 ((At.hit z23 rfl).ne rfl).ev (At.hit z23.put rfl).ev (eq52 9998 ((findR lo ((pathsD lb lo lt).getD k ByteArray.empty)).f0) ((findR lo ((pathsD lb lo lt).getD k ByteArray.empty)).f1) ((findR lo ((pathsD lb lo lt).getD k ByteArray.empty)).f2) ((findR lt ((pathsD lb lo lt).getD k ByteArray.empty)).f0) ((findR lt ((pathsD lb lo lt).getD k ByteArray.empty)).f1) ((findR lt ((pathsD lb lo lt).getD k ByteArray.empty)).f2)) (neR_true hb19) ?_)
        refine l_q rfl (q_move _ _ rfl (At.hit z23.put.put rfl).ev ?_)
        refine l_qg (wanted_is (j := 3) (d := 65) (b := true) rfl rfl (At.hit z23.put.put.put rfl) rfl) (q_row rfl Try.underlying52 rfl (sz52.trans (congrArg some rfl.symm)) ((((s14_23.ne rfl).ne rfl).ne rfl).ne rfl).ev (fun _ e => by rw [e]; exact kg14_22) ?_)
        refine l_qg (wanted_is (j := 3) (d := 65) (b := true) rfl rfl ((At.hit z23.put.put.put rfl).ne rfl) rfl) (q_row rfl Try.underlying52 rfl (sz52.trans (congrArg some rfl.symm)) (((((s13_23.ne rfl).ne rfl).ne rfl).ne rfl).ne rfl).ev (fun _ e => by rw [e]; exact kg13_22) ?_)
        refine l_qg (wanted_is (j := 3) (d := 65) (b := true) rfl rfl (((At.hit z23.put.put.put rfl).ne rfl).ne rfl) rfl) (q_ne3 false rfl guard52 ((At.hit z23.put.put.put.put rfl).ne rfl).ev (At.hit z23.put.put.put.put.put rfl).ev (eq52 9998 ((findR lo ((pathsD lb lo lt).getD k ByteArray.empty)).f0) ((findR lo ((pathsD lb lo lt).getD k ByteArray.empty)).f1) ((findR lo ((pathsD lb lo lt).getD k ByteArray.empty)).f2) ((findR lb ((pathsD lb lo lt).getD k ByteArray.empty)).f0) ((findR lb ((pathsD lb lo lt).getD k ByteArray.empty)).f1) ((findR lb ((pathsD lb lo lt).getD k ByteArray.empty)).f2)) (neR_false hb20) ?_)
        refine l_q rfl (q_pick (b := true) (.bool false) rfl ((((At.hit z23.put.put.put rfl).ne rfl).ne rfl).ne rfl).ev (At.hit z23.put.put.put.put.put.put rfl).ev ?_)
        refine l_fresh z23.put.put.put.put.put.put.put.put ?_
        intro a24 z24 m24
        have s0_24 := m24 _ _ ((((((((s0_23.ne rfl).ne rfl).ne rfl).ne rfl).ne rfl).ne rfl).ne rfl).ne rfl)
        have s1_24 := m24 _ _ ((((((((s1_23.ne rfl).ne rfl).ne rfl).ne rfl).ne rfl).ne rfl).ne rfl).ne rfl)
        have s2_24 := m24 _ _ ((((((((s2_23.ne rfl).ne rfl).ne rfl).ne rfl).ne rfl).ne rfl).ne rfl).ne rfl)
        have s8_24 := m24 _ _ ((((((((s8_23.ne rfl).ne rfl).ne rfl).ne rfl).ne rfl).ne rfl).ne rfl).ne rfl)
        have s9_24 := m24 _ _ ((((((((s9_23.ne rfl).ne rfl).ne rfl).ne rfl).ne rfl).ne rfl).ne rfl).ne rfl)
        have s10_24 := m24 _ _ ((((((((s10_23.ne rfl).ne rfl).ne rfl).ne rfl).ne rfl).ne rfl).ne rfl).ne rfl)
        have s11_24 := m24 _ _ ((((((((s11_23.ne rfl).ne rfl).ne rfl).ne rfl).ne rfl).ne rfl).ne rfl).ne rfl)
        have s12_24 := m24 _ _ ((((((((s12_23.ne rfl).ne rfl).ne rfl).ne rfl).ne rfl).ne rfl).ne rfl).ne rfl)
        have s13_24 := m24 _ _ ((((((((s13_23.ne rfl).ne rfl).ne rfl).ne rfl).ne rfl).ne rfl).ne rfl).ne rfl)
        have s15_24 := m24 _ _ ((((((((s15_23.ne rfl).ne rfl).ne rfl).ne rfl).ne rfl).ne rfl).ne rfl).ne rfl)
        have s16_24 := m24 _ _ ((((((((s16_23.ne rfl).ne rfl).ne rfl).ne rfl).ne rfl).ne rfl).ne rfl).ne rfl)
        have s69_24 := m24 _ _ (At.hit z23.put.put.put.put.put.put.put rfl)
        clear m24
        refine l_q rfl (q_move _ _ rfl s69_24.ev ?_)
        refine l_skip (wanted_is (j := 8) (d := 70) (b := false) rfl rfl (At.hit z24 rfl) rfl) ?_
        refine l_skip (wanted_is (j := 8) (d := 70) (b := false) rfl rfl ((At.hit z24 rfl).ne rfl) rfl) ?_
        refine l_skip (wanted_is (j := 8) (d := 70) (b := false) rfl rfl (((At.hit z24 rfl).ne rfl).ne rfl) rfl) ?_
        refine l_q rfl (q_pick (b := false) (.bool false) rfl ((((At.hit z24 rfl).ne rfl).ne rfl).ne rfl).ev rfl ?_)
        refine l_end ?_
        refine e_fresh z24.put.put.put.put.put ?_
        intro a25 z25 m25
        have s0_25 := m25 _ _ (((((s0_24.ne rfl).ne rfl).ne rfl).ne rfl).ne rfl)
        have s1_25 := m25 _ _ (((((s1_24.ne rfl).ne rfl).ne rfl).ne rfl).ne rfl)
        have s2_25 := m25 _ _ (((((s2_24.ne rfl).ne rfl).ne rfl).ne rfl).ne rfl)
        have s8_25 := m25 _ _ (((((s8_24.ne rfl).ne rfl).ne rfl).ne rfl).ne rfl)
        have s9_25 := m25 _ _ (((((s9_24.ne rfl).ne rfl).ne rfl).ne rfl).ne rfl)
        have s10_25 := m25 _ _ (((((s10_24.ne rfl).ne rfl).ne rfl).ne rfl).ne rfl)
        have s11_25 := m25 _ _ (((((s11_24.ne rfl).ne rfl).ne rfl).ne rfl).ne rfl)
        have s12_25 := m25 _ _ (((((s12_24.ne rfl).ne rfl).ne rfl).ne rfl).ne rfl)
        have s16_25 := m25 _ _ (((((s16_24.ne rfl).ne rfl).ne rfl).ne rfl).ne rfl)
        have s74_25 := m25 _ _ (At.hit z24.put.put.put.put rfl)
        clear m25
        refine e_then ?_
        refine c_false s74_25 ?_
        refine wp_skip ?_
        refine e_then ?_
        refine c_seq ?_
        by_cases hb26 : ¬ findR lt ((pathsD lb lo lt).getD k ByteArray.empty) = zR
        · skip
          refine c_region ?_
          refine l_q rfl (q_row rfl Try.underlying52 rfl (sz52.trans (congrArg some rfl.symm)) s16_25.ev (fun _ e => by rw [e]; exact k22) ?_)
          refine l_q rfl (q_row rfl Try.underlying52 rfl (sz52.trans (congrArg some rfl.symm)) (s11_25.ne rfl).ev (fun _ e => by rw [e]; exact kg11_22) ?_)
          refine l_q rfl (q_ne3 true rfl guard52 ((At.hit z25 rfl).ne rfl).ev (At.hit z25.put rfl).ev (eq52 9998 ((findR lt ((pathsD lb lo lt).getD k ByteArray.empty)).f0) ((findR lt ((pathsD lb lo lt).getD k ByteArray.empty)).f1) ((findR lt ((pathsD lb lo lt).getD k ByteArray.empty)).f2) zR.f0 zR.f1 zR.f2) (neR_true hb26) ?_)
          refine l_end ?_
          refine e_fresh z25.put.put.put ?_
          intro a27 z27 m27
          have s0_27 := m27 _ _ (((s0_25.ne rfl).ne rfl).ne rfl)
          have s1_27 := m27 _ _ (((s1_25.ne rfl).ne rfl).ne rfl)
          have s2_27 := m27 _ _ (((s2_25.ne rfl).ne rfl).ne rfl)
          have s8_27 := m27 _ _ (((s8_25.ne rfl).ne rfl).ne rfl)
          have s9_27 := m27 _ _ (((s9_25.ne rfl).ne rfl).ne rfl)
          have s10_27 := m27 _ _ (((s10_25.ne rfl).ne rfl).ne rfl)
          have s11_27 := m27 _ _ (((s11_25.ne rfl).ne rfl).ne rfl)
          have s12_27 := m27 _ _ (((s12_25.ne rfl).ne rfl).ne rfl)
          have s16_27 := m27 _ _ (((s16_25.ne rfl).ne rfl).ne rfl)
          have s82_27 := m27 _ _ (At.hit z25.put.put rfl)
          clear m27
          refine e_then ?_
          refine c_true s82_27 ?_
          refine c_region ?_
          refine l_q rfl (q_move _ _ rfl s9_27.ev ?_)
          refine l_q rfl (q_row rfl Try.underlying52 rfl (sz52.trans (congrArg some rfl.symm)) (s16_27.ne rfl).ev (fun _ e => by rw [e]; exact k22) ?_)
          refine l_buildF (vs := [.string ((findR lt ((pathsD lb lo lt).getD k ByteArray.empty)).f0), .int .i64 ((findR lt ((pathsD lb lo lt).getD k ByteArray.empty)).f1), .string ((findR lt ((pathsD lb lo lt).getD k ByteArray.empty)).f2)]) rfl rfl Try.underlying28 rec52 (At.hit z27.put rfl).ev rfl rfl (by decide) (by decide) ?_
          intro g85_28 w28 hg28 k28 h28
          have onx9_g85_28 : ∀ k, Value.ownBlock v9_12 = some k → k < g85_28 := fun k hk => Nat.lt_of_lt_of_le (OwnF.own_lt ox9_22 hk) hg28
          have lt_g11_g85_28 := Nat.lt_of_lt_of_le (heap_lt kg11_22) hg28
          have lt_g26_6_g85_28 := Nat.lt_of_lt_of_le kg26_6_22.lt hg28
          have lt_g16_g85_28 := Nat.lt_of_lt_of_le (heap_lt k22) hg28
          have geg85_28 := Nat.le_trans low23.ge hg28
          have kg11_28 := h28.blk kg11_22
          have kg26_6_28 := kg26_6_22.low h28
          have kg16_28 := h28.blk k22
          have ox9_28 := ox9_22.low h28
          have ovb_28 := (ovb_3.low (low18.upd u22 geg16)).low h28
          have ovo_28 := (ovo_3.low (low18.upd u22 geg16)).low h28
          have ovt_28 := (ovt_3.low (low18.upd u22 geg16)).low h28
          have ob3_28 := (o3.low (low18.upd u22 geg16)).low h28
          refine l_appFo (B := w3.heap.size) rfl rfl Try.underlying28 rec52 (((At.hit z27 rfl).ne rfl).ne rfl).ev (At.hit z27.put.put rfl).ev k28 rfl (by decide) rfl ox9_28 (low23.trans h28).ge (by omega) ?_
          intro v29 w29 o29 gr29 ap29
          have kg11_29 := gr29.blka kg11_28 ox9_12.2
          have kg26_6_29 := kg26_6_28.grw gr29
          have kg16_29 := gr29.blkn kg16_28 onx9_g16
          have lw29 := (low23.trans h28).grw gr29
          have apf29 := apart_app ap29 ox9_12.2 (heap_lt kg11_28)
          replace o29 := o29.cast (show _ = ((outR lb lo lt ((pathsD lb lo lt).take k)) ++ [(findR lt ((pathsD lb lo lt).getD k ByteArray.empty))]).length by rw [List.length_append]; rfl) (flat_snoc (enc := encR) (outR lb lo lt ((pathsD lb lo lt).take k)) (findR lt ((pathsD lb lo lt).getD k ByteArray.empty)))
          refine l_q rfl (q_assign _ _ rfl (At.hit z27.put.put.put rfl).ev ?_)
          refine l_end ?_
          refine e_fresh z27.put.put.put.put.put ?_
          intro a30 z30 m30
          have s0_30 := m30 _ _ (((((s0_27.ne rfl).ne rfl).ne rfl).ne rfl).ne rfl)
          have s1_30 := m30 _ _ (((((s1_27.ne rfl).ne rfl).ne rfl).ne rfl).ne rfl)
          have s2_30 := m30 _ _ (((((s2_27.ne rfl).ne rfl).ne rfl).ne rfl).ne rfl)
          have s8_30 := m30 _ _ (((((s8_27.ne rfl).ne rfl).ne rfl).ne rfl).ne rfl)
          have s9_30 := m30 _ _ (At.hit z27.put.put.put.put rfl)
          have s10_30 := m30 _ _ (((((s10_27.ne rfl).ne rfl).ne rfl).ne rfl).ne rfl)
          have s11_30 := m30 _ _ (((((s11_27.ne rfl).ne rfl).ne rfl).ne rfl).ne rfl)
          have s12_30 := m30 _ _ (((((s12_27.ne rfl).ne rfl).ne rfl).ne rfl).ne rfl)
          have low30 := lw29
          clear m30
          refine e_in ?_
          refine e_then ?_
          refine c_region ?_
          refine l_q rfl (q_move _ _ rfl s12_30.ev ?_)
          refine l_q rfl (q_add (((k + 1 : Nat) : Int)) rfl (At.hit z30 rfl).ev rfl (i64_is (by omega) (by omega) (by omega)) ?_)
          refine l_q rfl (q_assign _ _ rfl (At.hit z30.put rfl).ev ?_)
          refine l_end ?_
          refine e_fresh z30.put.put.put ?_
          intro a31 z31 m31
          have s0_31 := m31 _ _ (((s0_30.ne rfl).ne rfl).ne rfl)
          have s1_31 := m31 _ _ (((s1_30.ne rfl).ne rfl).ne rfl)
          have s2_31 := m31 _ _ (((s2_30.ne rfl).ne rfl).ne rfl)
          have s8_31 := m31 _ _ (((s8_30.ne rfl).ne rfl).ne rfl)
          have s9_31 := m31 _ _ (((s9_30.ne rfl).ne rfl).ne rfl)
          have s10_31 := m31 _ _ (((s10_30.ne rfl).ne rfl).ne rfl)
          have s11_31 := m31 _ _ (((s11_30.ne rfl).ne rfl).ne rfl)
          have s12_31 := m31 _ _ (At.hit z30.put.put rfl)
          clear m31
          have c32 := OwnF.castL o29 (show (outR lb lo lt ((pathsD lb lo lt).take k)) ++ [(findR lt ((pathsD lb lo lt).getD k ByteArray.empty))] = outR lb lo lt ((pathsD lb lo lt).take (k + 1)) from outR_next (by omega) (cellR_2 hb19 hb20) hb26)
          rw [badR_skip (by omega) (clashR_2 hb20)] at kg26_6_29
          exact ⟨v29, z31, s0_31, s1_31, s2_31, s8_31, s9_31, s10_31, s11_31, s12_31, kg11_29, kg26_6_29, ⟨c32, apf29⟩, low30⟩
        · skip
          refine c_region ?_
          refine l_q rfl (q_row rfl Try.underlying52 rfl (sz52.trans (congrArg some rfl.symm)) s16_25.ev (fun _ e => by rw [e]; exact k22) ?_)
          refine l_q rfl (q_row rfl Try.underlying52 rfl (sz52.trans (congrArg some rfl.symm)) (s11_25.ne rfl).ev (fun _ e => by rw [e]; exact kg11_22) ?_)
          refine l_q rfl (q_ne3 false rfl guard52 ((At.hit z25 rfl).ne rfl).ev (At.hit z25.put rfl).ev (eq52 9998 ((findR lt ((pathsD lb lo lt).getD k ByteArray.empty)).f0) ((findR lt ((pathsD lb lo lt).getD k ByteArray.empty)).f1) ((findR lt ((pathsD lb lo lt).getD k ByteArray.empty)).f2) zR.f0 zR.f1 zR.f2) (neR_false (Decidable.not_not.1 hb26)) ?_)
          refine l_end ?_
          refine e_fresh z25.put.put.put ?_
          intro a33 z33 m33
          have s0_33 := m33 _ _ (((s0_25.ne rfl).ne rfl).ne rfl)
          have s1_33 := m33 _ _ (((s1_25.ne rfl).ne rfl).ne rfl)
          have s2_33 := m33 _ _ (((s2_25.ne rfl).ne rfl).ne rfl)
          have s8_33 := m33 _ _ (((s8_25.ne rfl).ne rfl).ne rfl)
          have s9_33 := m33 _ _ (((s9_25.ne rfl).ne rfl).ne rfl)
          have s10_33 := m33 _ _ (((s10_25.ne rfl).ne rfl).ne rfl)
          have s11_33 := m33 _ _ (((s11_25.ne rfl).ne rfl).ne rfl)
          have s12_33 := m33 _ _ (((s12_25.ne rfl).ne rfl).ne rfl)
          have s16_33 := m33 _ _ (((s16_25.ne rfl).ne rfl).ne rfl)
          have s82_33 := m33 _ _ (At.hit z25.put.put rfl)
          clear m33
          refine e_then ?_
          refine c_false s82_33 ?_
          refine wp_skip ?_
          refine e_in ?_
          refine e_then ?_
          refine c_region ?_
          refine l_q rfl (q_move _ _ rfl s12_33.ev ?_)
          refine l_q rfl (q_add (((k + 1 : Nat) : Int)) rfl (At.hit z33 rfl).ev rfl (i64_is (by omega) (by omega) (by omega)) ?_)
          refine l_q rfl (q_assign _ _ rfl (At.hit z33.put rfl).ev ?_)
          refine l_end ?_
          refine e_fresh z33.put.put.put ?_
          intro a34 z34 m34
          have s0_34 := m34 _ _ (((s0_33.ne rfl).ne rfl).ne rfl)
          have s1_34 := m34 _ _ (((s1_33.ne rfl).ne rfl).ne rfl)
          have s2_34 := m34 _ _ (((s2_33.ne rfl).ne rfl).ne rfl)
          have s8_34 := m34 _ _ (((s8_33.ne rfl).ne rfl).ne rfl)
          have s9_34 := m34 _ _ (((s9_33.ne rfl).ne rfl).ne rfl)
          have s10_34 := m34 _ _ (((s10_33.ne rfl).ne rfl).ne rfl)
          have s11_34 := m34 _ _ (((s11_33.ne rfl).ne rfl).ne rfl)
          have s12_34 := m34 _ _ (At.hit z33.put.put rfl)
          clear m34
          have c35 := OwnF.castL ox9_22 (show outR lb lo lt ((pathsD lb lo lt).take k) = outR lb lo lt ((pathsD lb lo lt).take (k + 1)) from outR_skip (by omega) (cellR_2 hb19 hb20) hb26)
          rw [badR_skip (by omega) (clashR_2 hb20)] at kg26_6_22
          exact ⟨v9_12, z34, s0_34, s1_34, s2_34, s8_34, s9_34, s10_34, s11_34, s12_34, kg11_22, kg26_6_22, ⟨c35, ox9_12.2⟩, low23⟩
      · skip
        refine c_region ?_
        refine l_q rfl (q_row rfl Try.underlying52 rfl (sz52.trans (congrArg some rfl.symm)) s14_18.ev (fun _ e => by rw [e]; exact kg14_17) ?_)
        refine l_q rfl (q_row rfl Try.underlying52 rfl (sz52.trans (congrArg some rfl.symm)) (s15_18.ne rfl).ev (fun _ e => by rw [e]; exact kg15_17) ?_)
        refine l_q rfl (q_ne3 true rfl guard52 ((At.hit z18 rfl).ne rfl).ev (At.hit z18.put rfl).ev (eq52 9998 ((findR lo ((pathsD lb lo lt).getD k ByteArray.empty)).f0) ((findR lo ((pathsD lb lo lt).getD k ByteArray.empty)).f1) ((findR lo ((pathsD lb lo lt).getD k ByteArray.empty)).f2) ((findR lt ((pathsD lb lo lt).getD k ByteArray.empty)).f0) ((findR lt ((pathsD lb lo lt).getD k ByteArray.empty)).f1) ((findR lt ((pathsD lb lo lt).getD k ByteArray.empty)).f2)) (neR_true hb19) ?_)
        refine l_q rfl (q_move _ _ rfl (At.hit z18.put.put rfl).ev ?_)
        refine l_qg (wanted_is (j := 3) (d := 56) (b := true) rfl rfl (At.hit z18.put.put.put rfl) rfl) (q_row rfl Try.underlying52 rfl (sz52.trans (congrArg some rfl.symm)) ((((s14_18.ne rfl).ne rfl).ne rfl).ne rfl).ev (fun _ e => by rw [e]; exact kg14_17) ?_)
        refine l_qg (wanted_is (j := 3) (d := 56) (b := true) rfl rfl ((At.hit z18.put.put.put rfl).ne rfl) rfl) (q_row rfl Try.underlying52 rfl (sz52.trans (congrArg some rfl.symm)) (((((s13_18.ne rfl).ne rfl).ne rfl).ne rfl).ne rfl).ev (fun _ e => by rw [e]; exact kg13_17) ?_)
        refine l_qg (wanted_is (j := 3) (d := 56) (b := true) rfl rfl (((At.hit z18.put.put.put rfl).ne rfl).ne rfl) rfl) (q_eq3 false rfl guard52 ((At.hit z18.put.put.put.put rfl).ne rfl).ev (At.hit z18.put.put.put.put.put rfl).ev (eq52 9998 ((findR lo ((pathsD lb lo lt).getD k ByteArray.empty)).f0) ((findR lo ((pathsD lb lo lt).getD k ByteArray.empty)).f1) ((findR lo ((pathsD lb lo lt).getD k ByteArray.empty)).f2) ((findR lb ((pathsD lb lo lt).getD k ByteArray.empty)).f0) ((findR lb ((pathsD lb lo lt).getD k ByteArray.empty)).f1) ((findR lb ((pathsD lb lo lt).getD k ByteArray.empty)).f2)) (eqR_false hb20) ?_)
        refine l_q rfl (q_pick (b := true) (.bool false) rfl ((((At.hit z18.put.put.put rfl).ne rfl).ne rfl).ne rfl).ev (At.hit z18.put.put.put.put.put.put rfl).ev ?_)
        refine l_end ?_
        refine e_fresh z18.put.put.put.put.put.put.put.put ?_
        intro a36 z36 m36
        have s0_36 := m36 _ _ ((((((((s0_18.ne rfl).ne rfl).ne rfl).ne rfl).ne rfl).ne rfl).ne rfl).ne rfl)
        have s1_36 := m36 _ _ ((((((((s1_18.ne rfl).ne rfl).ne rfl).ne rfl).ne rfl).ne rfl).ne rfl).ne rfl)
        have s2_36 := m36 _ _ ((((((((s2_18.ne rfl).ne rfl).ne rfl).ne rfl).ne rfl).ne rfl).ne rfl).ne rfl)
        have s8_36 := m36 _ _ ((((((((s8_18.ne rfl).ne rfl).ne rfl).ne rfl).ne rfl).ne rfl).ne rfl).ne rfl)
        have s9_36 := m36 _ _ ((((((((s9_18.ne rfl).ne rfl).ne rfl).ne rfl).ne rfl).ne rfl).ne rfl).ne rfl)
        have s10_36 := m36 _ _ ((((((((s10_18.ne rfl).ne rfl).ne rfl).ne rfl).ne rfl).ne rfl).ne rfl).ne rfl)
        have s11_36 := m36 _ _ ((((((((s11_18.ne rfl).ne rfl).ne rfl).ne rfl).ne rfl).ne rfl).ne rfl).ne rfl)
        have s12_36 := m36 _ _ ((((((((s12_18.ne rfl).ne rfl).ne rfl).ne rfl).ne rfl).ne rfl).ne rfl).ne rfl)
        have s13_36 := m36 _ _ ((((((((s13_18.ne rfl).ne rfl).ne rfl).ne rfl).ne rfl).ne rfl).ne rfl).ne rfl)
        have s14_36 := m36 _ _ ((((((((s14_18.ne rfl).ne rfl).ne rfl).ne rfl).ne rfl).ne rfl).ne rfl).ne rfl)
        have s15_36 := m36 _ _ ((((((((s15_18.ne rfl).ne rfl).ne rfl).ne rfl).ne rfl).ne rfl).ne rfl).ne rfl)
        have s16_36 := m36 _ _ ((((((((s16_18.ne rfl).ne rfl).ne rfl).ne rfl).ne rfl).ne rfl).ne rfl).ne rfl)
        have s60_36 := m36 _ _ (At.hit z18.put.put.put.put.put.put.put rfl)
        clear m36
        refine e_then ?_
        refine c_false s60_36 ?_
        refine wp_skip ?_
        refine e_then ?_
        refine c_seq ?_
        refine c_seq ?_
        by_cases hb37 : ¬ findR lt ((pathsD lb lo lt).getD k ByteArray.empty) = findR lb ((pathsD lb lo lt).getD k ByteArray.empty)
        · skip
          refine c_region ?_
          refine l_q rfl (q_row rfl Try.underlying52 rfl (sz52.trans (congrArg some rfl.symm)) s14_36.ev (fun _ e => by rw [e]; exact kg14_17) ?_)
          refine l_q rfl (q_row rfl Try.underlying52 rfl (sz52.trans (congrArg some rfl.symm)) (s15_36.ne rfl).ev (fun _ e => by rw [e]; exact kg15_17) ?_)
          refine l_q rfl (q_ne3 true rfl guard52 ((At.hit z36 rfl).ne rfl).ev (At.hit z36.put rfl).ev (eq52 9998 ((findR lo ((pathsD lb lo lt).getD k ByteArray.empty)).f0) ((findR lo ((pathsD lb lo lt).getD k ByteArray.empty)).f1) ((findR lo ((pathsD lb lo lt).getD k ByteArray.empty)).f2) ((findR lt ((pathsD lb lo lt).getD k ByteArray.empty)).f0) ((findR lt ((pathsD lb lo lt).getD k ByteArray.empty)).f1) ((findR lt ((pathsD lb lo lt).getD k ByteArray.empty)).f2)) (neR_true hb19) ?_)
          refine l_q rfl (q_move _ _ rfl (At.hit z36.put.put rfl).ev ?_)
          refine l_qg (wanted_is (j := 3) (d := 65) (b := true) rfl rfl (At.hit z36.put.put.put rfl) rfl) (q_row rfl Try.underlying52 rfl (sz52.trans (congrArg some rfl.symm)) ((((s14_36.ne rfl).ne rfl).ne rfl).ne rfl).ev (fun _ e => by rw [e]; exact kg14_17) ?_)
          refine l_qg (wanted_is (j := 3) (d := 65) (b := true) rfl rfl ((At.hit z36.put.put.put rfl).ne rfl) rfl) (q_row rfl Try.underlying52 rfl (sz52.trans (congrArg some rfl.symm)) (((((s13_36.ne rfl).ne rfl).ne rfl).ne rfl).ne rfl).ev (fun _ e => by rw [e]; exact kg13_17) ?_)
          refine l_qg (wanted_is (j := 3) (d := 65) (b := true) rfl rfl (((At.hit z36.put.put.put rfl).ne rfl).ne rfl) rfl) (q_ne3 true rfl guard52 ((At.hit z36.put.put.put.put rfl).ne rfl).ev (At.hit z36.put.put.put.put.put rfl).ev (eq52 9998 ((findR lo ((pathsD lb lo lt).getD k ByteArray.empty)).f0) ((findR lo ((pathsD lb lo lt).getD k ByteArray.empty)).f1) ((findR lo ((pathsD lb lo lt).getD k ByteArray.empty)).f2) ((findR lb ((pathsD lb lo lt).getD k ByteArray.empty)).f0) ((findR lb ((pathsD lb lo lt).getD k ByteArray.empty)).f1) ((findR lb ((pathsD lb lo lt).getD k ByteArray.empty)).f2)) (neR_true hb20) ?_)
          refine l_q rfl (q_pick (b := true) (.bool true) rfl ((((At.hit z36.put.put.put rfl).ne rfl).ne rfl).ne rfl).ev (At.hit z36.put.put.put.put.put.put rfl).ev ?_)
          refine l_fresh z36.put.put.put.put.put.put.put.put ?_
          intro a38 z38 m38
          have s0_38 := m38 _ _ ((((((((s0_36.ne rfl).ne rfl).ne rfl).ne rfl).ne rfl).ne rfl).ne rfl).ne rfl)
          have s1_38 := m38 _ _ ((((((((s1_36.ne rfl).ne rfl).ne rfl).ne rfl).ne rfl).ne rfl).ne rfl).ne rfl)
          have s2_38 := m38 _ _ ((((((((s2_36.ne rfl).ne rfl).ne rfl).ne rfl).ne rfl).ne rfl).ne rfl).ne rfl)
          have s8_38 := m38 _ _ ((((((((s8_36.ne rfl).ne rfl).ne rfl).ne rfl).ne rfl).ne rfl).ne rfl).ne rfl)
          have s9_38 := m38 _ _ ((((((((s9_36.ne rfl).ne rfl).ne rfl).ne rfl).ne rfl).ne rfl).ne rfl).ne rfl)
          have s10_38 := m38 _ _ ((((((((s10_36.ne rfl).ne rfl).ne rfl).ne rfl).ne rfl).ne rfl).ne rfl).ne rfl)
          have s11_38 := m38 _ _ ((((((((s11_36.ne rfl).ne rfl).ne rfl).ne rfl).ne rfl).ne rfl).ne rfl).ne rfl)
          have s12_38 := m38 _ _ ((((((((s12_36.ne rfl).ne rfl).ne rfl).ne rfl).ne rfl).ne rfl).ne rfl).ne rfl)
          have s13_38 := m38 _ _ ((((((((s13_36.ne rfl).ne rfl).ne rfl).ne rfl).ne rfl).ne rfl).ne rfl).ne rfl)
          have s15_38 := m38 _ _ ((((((((s15_36.ne rfl).ne rfl).ne rfl).ne rfl).ne rfl).ne rfl).ne rfl).ne rfl)
          have s16_38 := m38 _ _ ((((((((s16_36.ne rfl).ne rfl).ne rfl).ne rfl).ne rfl).ne rfl).ne rfl).ne rfl)
          have s69_38 := m38 _ _ (At.hit z36.put.put.put.put.put.put.put rfl)
          clear m38
          refine l_q rfl (q_move _ _ rfl s69_38.ev ?_)
          refine l_qg (wanted_is (j := 8) (d := 70) (b := true) rfl rfl (At.hit z38 rfl) rfl) (q_row rfl Try.underlying52 rfl (sz52.trans (congrArg some rfl.symm)) (s15_38.ne rfl).ev (fun _ e => by rw [e]; exact kg15_17) ?_)
          refine l_qg (wanted_is (j := 8) (d := 70) (b := true) rfl rfl ((At.hit z38 rfl).ne rfl) rfl) (q_row rfl Try.underlying52 rfl (sz52.trans (congrArg some rfl.symm)) ((s13_38.ne rfl).ne rfl).ev (fun _ e => by rw [e]; exact kg13_17) ?_)
          refine l_qg (wanted_is (j := 8) (d := 70) (b := true) rfl rfl (((At.hit z38 rfl).ne rfl).ne rfl) rfl) (q_ne3 true rfl guard52 ((At.hit z38.put rfl).ne rfl).ev (At.hit z38.put.put rfl).ev (eq52 9998 ((findR lt ((pathsD lb lo lt).getD k ByteArray.empty)).f0) ((findR lt ((pathsD lb lo lt).getD k ByteArray.empty)).f1) ((findR lt ((pathsD lb lo lt).getD k ByteArray.empty)).f2) ((findR lb ((pathsD lb lo lt).getD k ByteArray.empty)).f0) ((findR lb ((pathsD lb lo lt).getD k ByteArray.empty)).f1) ((findR lb ((pathsD lb lo lt).getD k ByteArray.empty)).f2)) (neR_true hb37) ?_)
          refine l_q rfl (q_pick (b := true) (.bool true) rfl ((((At.hit z38 rfl).ne rfl).ne rfl).ne rfl).ev (At.hit z38.put.put.put rfl).ev ?_)
          refine l_end ?_
          refine e_fresh z38.put.put.put.put.put ?_
          intro a39 z39 m39
          have s0_39 := m39 _ _ (((((s0_38.ne rfl).ne rfl).ne rfl).ne rfl).ne rfl)
          have s1_39 := m39 _ _ (((((s1_38.ne rfl).ne rfl).ne rfl).ne rfl).ne rfl)
          have s2_39 := m39 _ _ (((((s2_38.ne rfl).ne rfl).ne rfl).ne rfl).ne rfl)
          have s8_39 := m39 _ _ (((((s8_38.ne rfl).ne rfl).ne rfl).ne rfl).ne rfl)
          have s9_39 := m39 _ _ (((((s9_38.ne rfl).ne rfl).ne rfl).ne rfl).ne rfl)
          have s10_39 := m39 _ _ (((((s10_38.ne rfl).ne rfl).ne rfl).ne rfl).ne rfl)
          have s11_39 := m39 _ _ (((((s11_38.ne rfl).ne rfl).ne rfl).ne rfl).ne rfl)
          have s12_39 := m39 _ _ (((((s12_38.ne rfl).ne rfl).ne rfl).ne rfl).ne rfl)
          have s16_39 := m39 _ _ (((((s16_38.ne rfl).ne rfl).ne rfl).ne rfl).ne rfl)
          have s74_39 := m39 _ _ (At.hit z38.put.put.put.put rfl)
          clear m39
          refine e_then ?_
          refine c_true s74_39 ?_
          refine c_region ?_
          refine l_q rfl (q_move _ _ rfl s10_39.ev ?_)
          refine l_q rfl (q_move _ _ rfl (s8_39.ne rfl).ev ?_)
          refine l_q rfl (q_move _ _ rfl ((s12_39.ne rfl).ne rfl).ev ?_)
          refine l_q rfl (q_idxF (j := k) rfl Try.underlying25 sz9 ((At.hit z39.put rfl).ne rfl).ev (o3.low ((low15.trans h16).upd u17 geg16)).rd (At.hit z39.put.put rfl).ev (by omega) ?_)
          refine l_q rfl (q_ld1 (u := .string ((pathsD lb lo lt).getD k ByteArray.empty)) rfl Try.underlying9 rfl (At.hit z39.put.put.put rfl).ev (fun _ e => by rw [e]; exact (o3.low ((low15.trans h16).upd u17 geg16)).rd) (by omega) ((flat_at encS_len ByteArray.empty _ k 0 (by omega) (by decide)).trans rfl) ?_)
          refine l_mapPut rfl rfl rfl Try.underlying38 Try.underlying9 (((((At.hit z39 rfl).ne rfl).ne rfl).ne rfl).ne rfl).ev (At.hit z39.put.put.put.put rfl).ev rfl kg26_6_17 ?_
          intro w40 k40 u40
          replace k40 : MapIs w40 g26_6 (mput (mapB (badR lb lo lt ((pathsD lb lo lt).take k))) ((pathsD lb lo lt).getD k ByteArray.empty) (.bool true)) := k40
          have ox9_40 := ox9_17.updm u40 kg26_6_17
          have kg11_40 := u40.blk kg11_17 (by omega)
          have kg16_40 := u40.blk k17 (by omega)
          refine l_end ?_
          refine e_fresh z39.put.put.put.put.put ?_
          intro a41 z41 m41
          have s0_41 := m41 _ _ (((((s0_39.ne rfl).ne rfl).ne rfl).ne rfl).ne rfl)
          have s1_41 := m41 _ _ (((((s1_39.ne rfl).ne rfl).ne rfl).ne rfl).ne rfl)
          have s2_41 := m41 _ _ (((((s2_39.ne rfl).ne rfl).ne rfl).ne rfl).ne rfl)
          have s8_41 := m41 _ _ (((((s8_39.ne rfl).ne rfl).ne rfl).ne rfl).ne rfl)
          have s9_41 := m41 _ _ (((((s9_39.ne rfl).ne rfl).ne rfl).ne rfl).ne rfl)
          have s10_41 := m41 _ _ (((((s10_39.ne rfl).ne rfl).ne rfl).ne rfl).ne rfl)
          have s11_41 := m41 _ _ (((((s11_39.ne rfl).ne rfl).ne rfl).ne rfl).ne rfl)
          have s12_41 := m41 _ _ (((((s12_39.ne rfl).ne rfl).ne rfl).ne rfl).ne rfl)
          have s16_41 := m41 _ _ (((((s16_39.ne rfl).ne rfl).ne rfl).ne rfl).ne rfl)
          have low41 := (low18.upd u40 geg26_6)
          clear m41
          refine e_then ?_
          refine c_seq ?_
          by_cases hb42 : ¬ findR lo ((pathsD lb lo lt).getD k ByteArray.empty) = zR
          · skip
            refine c_region ?_
            refine l_q rfl (q_row rfl Try.underlying52 rfl (sz52.trans (congrArg some rfl.symm)) s16_41.ev (fun _ e => by rw [e]; exact kg16_40) ?_)
            refine l_q rfl (q_row rfl Try.underlying52 rfl (sz52.trans (congrArg some rfl.symm)) (s11_41.ne rfl).ev (fun _ e => by rw [e]; exact kg11_40) ?_)
            refine l_q rfl (q_ne3 true rfl guard52 ((At.hit z41 rfl).ne rfl).ev (At.hit z41.put rfl).ev (eq52 9998 ((findR lo ((pathsD lb lo lt).getD k ByteArray.empty)).f0) ((findR lo ((pathsD lb lo lt).getD k ByteArray.empty)).f1) ((findR lo ((pathsD lb lo lt).getD k ByteArray.empty)).f2) zR.f0 zR.f1 zR.f2) (neR_true hb42) ?_)
            refine l_end ?_
            refine e_fresh z41.put.put.put ?_
            intro a43 z43 m43
            have s0_43 := m43 _ _ (((s0_41.ne rfl).ne rfl).ne rfl)
            have s1_43 := m43 _ _ (((s1_41.ne rfl).ne rfl).ne rfl)
            have s2_43 := m43 _ _ (((s2_41.ne rfl).ne rfl).ne rfl)
            have s8_43 := m43 _ _ (((s8_41.ne rfl).ne rfl).ne rfl)
            have s9_43 := m43 _ _ (((s9_41.ne rfl).ne rfl).ne rfl)
            have s10_43 := m43 _ _ (((s10_41.ne rfl).ne rfl).ne rfl)
            have s11_43 := m43 _ _ (((s11_41.ne rfl).ne rfl).ne rfl)
            have s12_43 := m43 _ _ (((s12_41.ne rfl).ne rfl).ne rfl)
            have s16_43 := m43 _ _ (((s16_41.ne rfl).ne rfl).ne rfl)
            have s82_43 := m43 _ _ (At.hit z41.put.put rfl)
            clear m43
            refine e_then ?_
            refine c_true s82_43 ?_
            refine c_region ?_
            refine l_q rfl (q_move _ _ rfl s9_43.ev ?_)
            refine l_q rfl (q_row rfl Try.underlying52 rfl (sz52.trans (congrArg some rfl.symm)) (s16_43.ne rfl).ev (fun _ e => by rw [e]; exact kg16_40) ?_)
            refine l_buildF (vs := [.string ((findR lo ((pathsD lb lo lt).getD k ByteArray.empty)).f0), .int .i64 ((findR lo ((pathsD lb lo lt).getD k ByteArray.empty)).f1), .string ((findR lo ((pathsD lb lo lt).getD k ByteArray.empty)).f2)]) rfl rfl Try.underlying28 rec52 (At.hit z43.put rfl).ev rfl rfl (by decide) (by decide) ?_
            intro g85_44 w44 hg44 k44 h44
            have onx9_g85_44 : ∀ k, Value.ownBlock v9_12 = some k → k < g85_44 := fun k hk => Nat.lt_of_lt_of_le (OwnF.own_lt ox9_40 hk) hg44
            have lt_g11_g85_44 := Nat.lt_of_lt_of_le (heap_lt kg11_40) hg44
            have lt_g26_6_g85_44 := Nat.lt_of_lt_of_le k40.lt hg44
            have lt_g16_g85_44 := Nat.lt_of_lt_of_le (heap_lt kg16_40) hg44
            have geg85_44 := Nat.le_trans low41.ge hg44
            have kg11_44 := h44.blk kg11_40
            have kg26_6_44 := k40.low h44
            have kg16_44 := h44.blk kg16_40
            have ox9_44 := ox9_40.low h44
            have ovb_44 := (ovb_3.low (low18.upd u40 geg26_6)).low h44
            have ovo_44 := (ovo_3.low (low18.upd u40 geg26_6)).low h44
            have ovt_44 := (ovt_3.low (low18.upd u40 geg26_6)).low h44
            have ob3_44 := (o3.low (low18.upd u40 geg26_6)).low h44
            refine l_appFo (B := w3.heap.size) rfl rfl Try.underlying28 rec52 (((At.hit z43 rfl).ne rfl).ne rfl).ev (At.hit z43.put.put rfl).ev k44 rfl (by decide) rfl ox9_44 (low41.trans h44).ge (by omega) ?_
            intro v45 w45 o45 gr45 ap45
            have kg11_45 := gr45.blka kg11_44 ox9_12.2
            have kg26_6_45 := kg26_6_44.grw gr45
            have kg16_45 := gr45.blkn kg16_44 onx9_g16
            have lw45 := (low41.trans h44).grw gr45
            have apf45 := apart_app ap45 ox9_12.2 (heap_lt kg11_44)
            replace o45 := o45.cast (show _ = ((outR lb lo lt ((pathsD lb lo lt).take k)) ++ [(findR lo ((pathsD lb lo lt).getD k ByteArray.empty))]).length by rw [List.length_append]; rfl) (flat_snoc (enc := encR) (outR lb lo lt ((pathsD lb lo lt).take k)) (findR lo ((pathsD lb lo lt).getD k ByteArray.empty)))
            refine l_q rfl (q_assign _ _ rfl (At.hit z43.put.put.put rfl).ev ?_)
            refine l_end ?_
            refine e_fresh z43.put.put.put.put.put ?_
            intro a46 z46 m46
            have s0_46 := m46 _ _ (((((s0_43.ne rfl).ne rfl).ne rfl).ne rfl).ne rfl)
            have s1_46 := m46 _ _ (((((s1_43.ne rfl).ne rfl).ne rfl).ne rfl).ne rfl)
            have s2_46 := m46 _ _ (((((s2_43.ne rfl).ne rfl).ne rfl).ne rfl).ne rfl)
            have s8_46 := m46 _ _ (((((s8_43.ne rfl).ne rfl).ne rfl).ne rfl).ne rfl)
            have s9_46 := m46 _ _ (At.hit z43.put.put.put.put rfl)
            have s10_46 := m46 _ _ (((((s10_43.ne rfl).ne rfl).ne rfl).ne rfl).ne rfl)
            have s11_46 := m46 _ _ (((((s11_43.ne rfl).ne rfl).ne rfl).ne rfl).ne rfl)
            have s12_46 := m46 _ _ (((((s12_43.ne rfl).ne rfl).ne rfl).ne rfl).ne rfl)
            have low46 := lw45
            clear m46
            refine e_in ?_
            refine e_then ?_
            refine c_region ?_
            refine l_q rfl (q_move _ _ rfl s12_46.ev ?_)
            refine l_q rfl (q_add (((k + 1 : Nat) : Int)) rfl (At.hit z46 rfl).ev rfl (i64_is (by omega) (by omega) (by omega)) ?_)
            refine l_q rfl (q_assign _ _ rfl (At.hit z46.put rfl).ev ?_)
            refine l_end ?_
            refine e_fresh z46.put.put.put ?_
            intro a47 z47 m47
            have s0_47 := m47 _ _ (((s0_46.ne rfl).ne rfl).ne rfl)
            have s1_47 := m47 _ _ (((s1_46.ne rfl).ne rfl).ne rfl)
            have s2_47 := m47 _ _ (((s2_46.ne rfl).ne rfl).ne rfl)
            have s8_47 := m47 _ _ (((s8_46.ne rfl).ne rfl).ne rfl)
            have s9_47 := m47 _ _ (((s9_46.ne rfl).ne rfl).ne rfl)
            have s10_47 := m47 _ _ (((s10_46.ne rfl).ne rfl).ne rfl)
            have s11_47 := m47 _ _ (((s11_46.ne rfl).ne rfl).ne rfl)
            have s12_47 := m47 _ _ (At.hit z46.put.put rfl)
            clear m47
            have c48 := OwnF.castL o45 (show (outR lb lo lt ((pathsD lb lo lt).take k)) ++ [(findR lo ((pathsD lb lo lt).getD k ByteArray.empty))] = outR lb lo lt ((pathsD lb lo lt).take (k + 1)) from outR_next (by omega) (cellR_3 hb20) hb42)
            rw [mapB_snoc] at kg26_6_45
            rw [badR_next (by omega) (clashR_4 hb19 hb20 hb37)] at kg26_6_45
            exact ⟨v45, z47, s0_47, s1_47, s2_47, s8_47, s9_47, s10_47, s11_47, s12_47, kg11_45, kg26_6_45, ⟨c48, apf45⟩, low46⟩
          · skip
            refine c_region ?_
            refine l_q rfl (q_row rfl Try.underlying52 rfl (sz52.trans (congrArg some rfl.symm)) s16_41.ev (fun _ e => by rw [e]; exact kg16_40) ?_)
            refine l_q rfl (q_row rfl Try.underlying52 rfl (sz52.trans (congrArg some rfl.symm)) (s11_41.ne rfl).ev (fun _ e => by rw [e]; exact kg11_40) ?_)
            refine l_q rfl (q_ne3 false rfl guard52 ((At.hit z41 rfl).ne rfl).ev (At.hit z41.put rfl).ev (eq52 9998 ((findR lo ((pathsD lb lo lt).getD k ByteArray.empty)).f0) ((findR lo ((pathsD lb lo lt).getD k ByteArray.empty)).f1) ((findR lo ((pathsD lb lo lt).getD k ByteArray.empty)).f2) zR.f0 zR.f1 zR.f2) (neR_false (Decidable.not_not.1 hb42)) ?_)
            refine l_end ?_
            refine e_fresh z41.put.put.put ?_
            intro a49 z49 m49
            have s0_49 := m49 _ _ (((s0_41.ne rfl).ne rfl).ne rfl)
            have s1_49 := m49 _ _ (((s1_41.ne rfl).ne rfl).ne rfl)
            have s2_49 := m49 _ _ (((s2_41.ne rfl).ne rfl).ne rfl)
            have s8_49 := m49 _ _ (((s8_41.ne rfl).ne rfl).ne rfl)
            have s9_49 := m49 _ _ (((s9_41.ne rfl).ne rfl).ne rfl)
            have s10_49 := m49 _ _ (((s10_41.ne rfl).ne rfl).ne rfl)
            have s11_49 := m49 _ _ (((s11_41.ne rfl).ne rfl).ne rfl)
            have s12_49 := m49 _ _ (((s12_41.ne rfl).ne rfl).ne rfl)
            have s16_49 := m49 _ _ (((s16_41.ne rfl).ne rfl).ne rfl)
            have s82_49 := m49 _ _ (At.hit z41.put.put rfl)
            clear m49
            refine e_then ?_
            refine c_false s82_49 ?_
            refine wp_skip ?_
            refine e_in ?_
            refine e_then ?_
            refine c_region ?_
            refine l_q rfl (q_move _ _ rfl s12_49.ev ?_)
            refine l_q rfl (q_add (((k + 1 : Nat) : Int)) rfl (At.hit z49 rfl).ev rfl (i64_is (by omega) (by omega) (by omega)) ?_)
            refine l_q rfl (q_assign _ _ rfl (At.hit z49.put rfl).ev ?_)
            refine l_end ?_
            refine e_fresh z49.put.put.put ?_
            intro a50 z50 m50
            have s0_50 := m50 _ _ (((s0_49.ne rfl).ne rfl).ne rfl)
            have s1_50 := m50 _ _ (((s1_49.ne rfl).ne rfl).ne rfl)
            have s2_50 := m50 _ _ (((s2_49.ne rfl).ne rfl).ne rfl)
            have s8_50 := m50 _ _ (((s8_49.ne rfl).ne rfl).ne rfl)
            have s9_50 := m50 _ _ (((s9_49.ne rfl).ne rfl).ne rfl)
            have s10_50 := m50 _ _ (((s10_49.ne rfl).ne rfl).ne rfl)
            have s11_50 := m50 _ _ (((s11_49.ne rfl).ne rfl).ne rfl)
            have s12_50 := m50 _ _ (At.hit z49.put.put rfl)
            clear m50
            have c51 := OwnF.castL ox9_40 (show outR lb lo lt ((pathsD lb lo lt).take k) = outR lb lo lt ((pathsD lb lo lt).take (k + 1)) from outR_skip (by omega) (cellR_3 hb20) hb42)
            rw [mapB_snoc] at k40
            rw [badR_next (by omega) (clashR_4 hb19 hb20 hb37)] at k40
            exact ⟨v9_12, z50, s0_50, s1_50, s2_50, s8_50, s9_50, s10_50, s11_50, s12_50, kg11_40, k40, ⟨c51, ox9_12.2⟩, low41⟩
        · skip
          refine c_region ?_
          refine l_q rfl (q_row rfl Try.underlying52 rfl (sz52.trans (congrArg some rfl.symm)) s14_36.ev (fun _ e => by rw [e]; exact kg14_17) ?_)
          refine l_q rfl (q_row rfl Try.underlying52 rfl (sz52.trans (congrArg some rfl.symm)) (s15_36.ne rfl).ev (fun _ e => by rw [e]; exact kg15_17) ?_)
          refine l_q rfl (q_ne3 true rfl guard52 ((At.hit z36 rfl).ne rfl).ev (At.hit z36.put rfl).ev (eq52 9998 ((findR lo ((pathsD lb lo lt).getD k ByteArray.empty)).f0) ((findR lo ((pathsD lb lo lt).getD k ByteArray.empty)).f1) ((findR lo ((pathsD lb lo lt).getD k ByteArray.empty)).f2) ((findR lt ((pathsD lb lo lt).getD k ByteArray.empty)).f0) ((findR lt ((pathsD lb lo lt).getD k ByteArray.empty)).f1) ((findR lt ((pathsD lb lo lt).getD k ByteArray.empty)).f2)) (neR_true hb19) ?_)
          refine l_q rfl (q_move _ _ rfl (At.hit z36.put.put rfl).ev ?_)
          refine l_qg (wanted_is (j := 3) (d := 65) (b := true) rfl rfl (At.hit z36.put.put.put rfl) rfl) (q_row rfl Try.underlying52 rfl (sz52.trans (congrArg some rfl.symm)) ((((s14_36.ne rfl).ne rfl).ne rfl).ne rfl).ev (fun _ e => by rw [e]; exact kg14_17) ?_)
          refine l_qg (wanted_is (j := 3) (d := 65) (b := true) rfl rfl ((At.hit z36.put.put.put rfl).ne rfl) rfl) (q_row rfl Try.underlying52 rfl (sz52.trans (congrArg some rfl.symm)) (((((s13_36.ne rfl).ne rfl).ne rfl).ne rfl).ne rfl).ev (fun _ e => by rw [e]; exact kg13_17) ?_)
          refine l_qg (wanted_is (j := 3) (d := 65) (b := true) rfl rfl (((At.hit z36.put.put.put rfl).ne rfl).ne rfl) rfl) (q_ne3 true rfl guard52 ((At.hit z36.put.put.put.put rfl).ne rfl).ev (At.hit z36.put.put.put.put.put rfl).ev (eq52 9998 ((findR lo ((pathsD lb lo lt).getD k ByteArray.empty)).f0) ((findR lo ((pathsD lb lo lt).getD k ByteArray.empty)).f1) ((findR lo ((pathsD lb lo lt).getD k ByteArray.empty)).f2) ((findR lb ((pathsD lb lo lt).getD k ByteArray.empty)).f0) ((findR lb ((pathsD lb lo lt).getD k ByteArray.empty)).f1) ((findR lb ((pathsD lb lo lt).getD k ByteArray.empty)).f2)) (neR_true hb20) ?_)
          refine l_q rfl (q_pick (b := true) (.bool true) rfl ((((At.hit z36.put.put.put rfl).ne rfl).ne rfl).ne rfl).ev (At.hit z36.put.put.put.put.put.put rfl).ev ?_)
          refine l_fresh z36.put.put.put.put.put.put.put.put ?_
          intro a52 z52 m52
          have s0_52 := m52 _ _ ((((((((s0_36.ne rfl).ne rfl).ne rfl).ne rfl).ne rfl).ne rfl).ne rfl).ne rfl)
          have s1_52 := m52 _ _ ((((((((s1_36.ne rfl).ne rfl).ne rfl).ne rfl).ne rfl).ne rfl).ne rfl).ne rfl)
          have s2_52 := m52 _ _ ((((((((s2_36.ne rfl).ne rfl).ne rfl).ne rfl).ne rfl).ne rfl).ne rfl).ne rfl)
          have s8_52 := m52 _ _ ((((((((s8_36.ne rfl).ne rfl).ne rfl).ne rfl).ne rfl).ne rfl).ne rfl).ne rfl)
          have s9_52 := m52 _ _ ((((((((s9_36.ne rfl).ne rfl).ne rfl).ne rfl).ne rfl).ne rfl).ne rfl).ne rfl)
          have s10_52 := m52 _ _ ((((((((s10_36.ne rfl).ne rfl).ne rfl).ne rfl).ne rfl).ne rfl).ne rfl).ne rfl)
          have s11_52 := m52 _ _ ((((((((s11_36.ne rfl).ne rfl).ne rfl).ne rfl).ne rfl).ne rfl).ne rfl).ne rfl)
          have s12_52 := m52 _ _ ((((((((s12_36.ne rfl).ne rfl).ne rfl).ne rfl).ne rfl).ne rfl).ne rfl).ne rfl)
          have s13_52 := m52 _ _ ((((((((s13_36.ne rfl).ne rfl).ne rfl).ne rfl).ne rfl).ne rfl).ne rfl).ne rfl)
          have s15_52 := m52 _ _ ((((((((s15_36.ne rfl).ne rfl).ne rfl).ne rfl).ne rfl).ne rfl).ne rfl).ne rfl)
          have s16_52 := m52 _ _ ((((((((s16_36.ne rfl).ne rfl).ne rfl).ne rfl).ne rfl).ne rfl).ne rfl).ne rfl)
          have s69_52 := m52 _ _ (At.hit z36.put.put.put.put.put.put.put rfl)
          clear m52
          refine l_q rfl (q_move _ _ rfl s69_52.ev ?_)
          refine l_qg (wanted_is (j := 8) (d := 70) (b := true) rfl rfl (At.hit z52 rfl) rfl) (q_row rfl Try.underlying52 rfl (sz52.trans (congrArg some rfl.symm)) (s15_52.ne rfl).ev (fun _ e => by rw [e]; exact kg15_17) ?_)
          refine l_qg (wanted_is (j := 8) (d := 70) (b := true) rfl rfl ((At.hit z52 rfl).ne rfl) rfl) (q_row rfl Try.underlying52 rfl (sz52.trans (congrArg some rfl.symm)) ((s13_52.ne rfl).ne rfl).ev (fun _ e => by rw [e]; exact kg13_17) ?_)
          refine l_qg (wanted_is (j := 8) (d := 70) (b := true) rfl rfl (((At.hit z52 rfl).ne rfl).ne rfl) rfl) (q_ne3 false rfl guard52 ((At.hit z52.put rfl).ne rfl).ev (At.hit z52.put.put rfl).ev (eq52 9998 ((findR lt ((pathsD lb lo lt).getD k ByteArray.empty)).f0) ((findR lt ((pathsD lb lo lt).getD k ByteArray.empty)).f1) ((findR lt ((pathsD lb lo lt).getD k ByteArray.empty)).f2) ((findR lb ((pathsD lb lo lt).getD k ByteArray.empty)).f0) ((findR lb ((pathsD lb lo lt).getD k ByteArray.empty)).f1) ((findR lb ((pathsD lb lo lt).getD k ByteArray.empty)).f2)) (neR_false (Decidable.not_not.1 hb37)) ?_)
          refine l_q rfl (q_pick (b := true) (.bool false) rfl ((((At.hit z52 rfl).ne rfl).ne rfl).ne rfl).ev (At.hit z52.put.put.put rfl).ev ?_)
          refine l_end ?_
          refine e_fresh z52.put.put.put.put.put ?_
          intro a53 z53 m53
          have s0_53 := m53 _ _ (((((s0_52.ne rfl).ne rfl).ne rfl).ne rfl).ne rfl)
          have s1_53 := m53 _ _ (((((s1_52.ne rfl).ne rfl).ne rfl).ne rfl).ne rfl)
          have s2_53 := m53 _ _ (((((s2_52.ne rfl).ne rfl).ne rfl).ne rfl).ne rfl)
          have s8_53 := m53 _ _ (((((s8_52.ne rfl).ne rfl).ne rfl).ne rfl).ne rfl)
          have s9_53 := m53 _ _ (((((s9_52.ne rfl).ne rfl).ne rfl).ne rfl).ne rfl)
          have s10_53 := m53 _ _ (((((s10_52.ne rfl).ne rfl).ne rfl).ne rfl).ne rfl)
          have s11_53 := m53 _ _ (((((s11_52.ne rfl).ne rfl).ne rfl).ne rfl).ne rfl)
          have s12_53 := m53 _ _ (((((s12_52.ne rfl).ne rfl).ne rfl).ne rfl).ne rfl)
          have s16_53 := m53 _ _ (((((s16_52.ne rfl).ne rfl).ne rfl).ne rfl).ne rfl)
          have s74_53 := m53 _ _ (At.hit z52.put.put.put.put rfl)
          clear m53
          refine e_then ?_
          refine c_false s74_53 ?_
          refine wp_skip ?_
          refine e_then ?_
          refine c_seq ?_
          by_cases hb54 : ¬ findR lo ((pathsD lb lo lt).getD k ByteArray.empty) = zR
          · skip
            refine c_region ?_
            refine l_q rfl (q_row rfl Try.underlying52 rfl (sz52.trans (congrArg some rfl.symm)) s16_53.ev (fun _ e => by rw [e]; exact k17) ?_)
            refine l_q rfl (q_row rfl Try.underlying52 rfl (sz52.trans (congrArg some rfl.symm)) (s11_53.ne rfl).ev (fun _ e => by rw [e]; exact kg11_17) ?_)
            refine l_q rfl (q_ne3 true rfl guard52 ((At.hit z53 rfl).ne rfl).ev (At.hit z53.put rfl).ev (eq52 9998 ((findR lo ((pathsD lb lo lt).getD k ByteArray.empty)).f0) ((findR lo ((pathsD lb lo lt).getD k ByteArray.empty)).f1) ((findR lo ((pathsD lb lo lt).getD k ByteArray.empty)).f2) zR.f0 zR.f1 zR.f2) (neR_true hb54) ?_)
            refine l_end ?_
            refine e_fresh z53.put.put.put ?_
            intro a55 z55 m55
            have s0_55 := m55 _ _ (((s0_53.ne rfl).ne rfl).ne rfl)
            have s1_55 := m55 _ _ (((s1_53.ne rfl).ne rfl).ne rfl)
            have s2_55 := m55 _ _ (((s2_53.ne rfl).ne rfl).ne rfl)
            have s8_55 := m55 _ _ (((s8_53.ne rfl).ne rfl).ne rfl)
            have s9_55 := m55 _ _ (((s9_53.ne rfl).ne rfl).ne rfl)
            have s10_55 := m55 _ _ (((s10_53.ne rfl).ne rfl).ne rfl)
            have s11_55 := m55 _ _ (((s11_53.ne rfl).ne rfl).ne rfl)
            have s12_55 := m55 _ _ (((s12_53.ne rfl).ne rfl).ne rfl)
            have s16_55 := m55 _ _ (((s16_53.ne rfl).ne rfl).ne rfl)
            have s82_55 := m55 _ _ (At.hit z53.put.put rfl)
            clear m55
            refine e_then ?_
            refine c_true s82_55 ?_
            refine c_region ?_
            refine l_q rfl (q_move _ _ rfl s9_55.ev ?_)
            refine l_q rfl (q_row rfl Try.underlying52 rfl (sz52.trans (congrArg some rfl.symm)) (s16_55.ne rfl).ev (fun _ e => by rw [e]; exact k17) ?_)
            refine l_buildF (vs := [.string ((findR lo ((pathsD lb lo lt).getD k ByteArray.empty)).f0), .int .i64 ((findR lo ((pathsD lb lo lt).getD k ByteArray.empty)).f1), .string ((findR lo ((pathsD lb lo lt).getD k ByteArray.empty)).f2)]) rfl rfl Try.underlying28 rec52 (At.hit z55.put rfl).ev rfl rfl (by decide) (by decide) ?_
            intro g85_56 w56 hg56 k56 h56
            have onx9_g85_56 : ∀ k, Value.ownBlock v9_12 = some k → k < g85_56 := fun k hk => Nat.lt_of_lt_of_le (OwnF.own_lt ox9_17 hk) hg56
            have lt_g11_g85_56 := Nat.lt_of_lt_of_le (heap_lt kg11_17) hg56
            have lt_g26_6_g85_56 := Nat.lt_of_lt_of_le kg26_6_17.lt hg56
            have lt_g16_g85_56 := Nat.lt_of_lt_of_le (heap_lt k17) hg56
            have geg85_56 := Nat.le_trans low18.ge hg56
            have kg11_56 := h56.blk kg11_17
            have kg26_6_56 := kg26_6_17.low h56
            have kg16_56 := h56.blk k17
            have ox9_56 := ox9_17.low h56
            have ovb_56 := (ovb_3.low ((low15.trans h16).upd u17 geg16)).low h56
            have ovo_56 := (ovo_3.low ((low15.trans h16).upd u17 geg16)).low h56
            have ovt_56 := (ovt_3.low ((low15.trans h16).upd u17 geg16)).low h56
            have ob3_56 := (o3.low ((low15.trans h16).upd u17 geg16)).low h56
            refine l_appFo (B := w3.heap.size) rfl rfl Try.underlying28 rec52 (((At.hit z55 rfl).ne rfl).ne rfl).ev (At.hit z55.put.put rfl).ev k56 rfl (by decide) rfl ox9_56 (low18.trans h56).ge (by omega) ?_
            intro v57 w57 o57 gr57 ap57
            have kg11_57 := gr57.blka kg11_56 ox9_12.2
            have kg26_6_57 := kg26_6_56.grw gr57
            have kg16_57 := gr57.blkn kg16_56 onx9_g16
            have lw57 := (low18.trans h56).grw gr57
            have apf57 := apart_app ap57 ox9_12.2 (heap_lt kg11_56)
            replace o57 := o57.cast (show _ = ((outR lb lo lt ((pathsD lb lo lt).take k)) ++ [(findR lo ((pathsD lb lo lt).getD k ByteArray.empty))]).length by rw [List.length_append]; rfl) (flat_snoc (enc := encR) (outR lb lo lt ((pathsD lb lo lt).take k)) (findR lo ((pathsD lb lo lt).getD k ByteArray.empty)))
            refine l_q rfl (q_assign _ _ rfl (At.hit z55.put.put.put rfl).ev ?_)
            refine l_end ?_
            refine e_fresh z55.put.put.put.put.put ?_
            intro a58 z58 m58
            have s0_58 := m58 _ _ (((((s0_55.ne rfl).ne rfl).ne rfl).ne rfl).ne rfl)
            have s1_58 := m58 _ _ (((((s1_55.ne rfl).ne rfl).ne rfl).ne rfl).ne rfl)
            have s2_58 := m58 _ _ (((((s2_55.ne rfl).ne rfl).ne rfl).ne rfl).ne rfl)
            have s8_58 := m58 _ _ (((((s8_55.ne rfl).ne rfl).ne rfl).ne rfl).ne rfl)
            have s9_58 := m58 _ _ (At.hit z55.put.put.put.put rfl)
            have s10_58 := m58 _ _ (((((s10_55.ne rfl).ne rfl).ne rfl).ne rfl).ne rfl)
            have s11_58 := m58 _ _ (((((s11_55.ne rfl).ne rfl).ne rfl).ne rfl).ne rfl)
            have s12_58 := m58 _ _ (((((s12_55.ne rfl).ne rfl).ne rfl).ne rfl).ne rfl)
            have low58 := lw57
            clear m58
            refine e_in ?_
            refine e_then ?_
            refine c_region ?_
            refine l_q rfl (q_move _ _ rfl s12_58.ev ?_)
            refine l_q rfl (q_add (((k + 1 : Nat) : Int)) rfl (At.hit z58 rfl).ev rfl (i64_is (by omega) (by omega) (by omega)) ?_)
            refine l_q rfl (q_assign _ _ rfl (At.hit z58.put rfl).ev ?_)
            refine l_end ?_
            refine e_fresh z58.put.put.put ?_
            intro a59 z59 m59
            have s0_59 := m59 _ _ (((s0_58.ne rfl).ne rfl).ne rfl)
            have s1_59 := m59 _ _ (((s1_58.ne rfl).ne rfl).ne rfl)
            have s2_59 := m59 _ _ (((s2_58.ne rfl).ne rfl).ne rfl)
            have s8_59 := m59 _ _ (((s8_58.ne rfl).ne rfl).ne rfl)
            have s9_59 := m59 _ _ (((s9_58.ne rfl).ne rfl).ne rfl)
            have s10_59 := m59 _ _ (((s10_58.ne rfl).ne rfl).ne rfl)
            have s11_59 := m59 _ _ (((s11_58.ne rfl).ne rfl).ne rfl)
            have s12_59 := m59 _ _ (At.hit z58.put.put rfl)
            clear m59
            have c60 := OwnF.castL o57 (show (outR lb lo lt ((pathsD lb lo lt).take k)) ++ [(findR lo ((pathsD lb lo lt).getD k ByteArray.empty))] = outR lb lo lt ((pathsD lb lo lt).take (k + 1)) from outR_next (by omega) (cellR_3 hb20) hb54)
            rw [badR_skip (by omega) (clashR_3 hb37)] at kg26_6_57
            exact ⟨v57, z59, s0_59, s1_59, s2_59, s8_59, s9_59, s10_59, s11_59, s12_59, kg11_57, kg26_6_57, ⟨c60, apf57⟩, low58⟩
          · skip
            refine c_region ?_
            refine l_q rfl (q_row rfl Try.underlying52 rfl (sz52.trans (congrArg some rfl.symm)) s16_53.ev (fun _ e => by rw [e]; exact k17) ?_)
            refine l_q rfl (q_row rfl Try.underlying52 rfl (sz52.trans (congrArg some rfl.symm)) (s11_53.ne rfl).ev (fun _ e => by rw [e]; exact kg11_17) ?_)
            refine l_q rfl (q_ne3 false rfl guard52 ((At.hit z53 rfl).ne rfl).ev (At.hit z53.put rfl).ev (eq52 9998 ((findR lo ((pathsD lb lo lt).getD k ByteArray.empty)).f0) ((findR lo ((pathsD lb lo lt).getD k ByteArray.empty)).f1) ((findR lo ((pathsD lb lo lt).getD k ByteArray.empty)).f2) zR.f0 zR.f1 zR.f2) (neR_false (Decidable.not_not.1 hb54)) ?_)
            refine l_end ?_
            refine e_fresh z53.put.put.put ?_
            intro a61 z61 m61
            have s0_61 := m61 _ _ (((s0_53.ne rfl).ne rfl).ne rfl)
            have s1_61 := m61 _ _ (((s1_53.ne rfl).ne rfl).ne rfl)
            have s2_61 := m61 _ _ (((s2_53.ne rfl).ne rfl).ne rfl)
            have s8_61 := m61 _ _ (((s8_53.ne rfl).ne rfl).ne rfl)
            have s9_61 := m61 _ _ (((s9_53.ne rfl).ne rfl).ne rfl)
            have s10_61 := m61 _ _ (((s10_53.ne rfl).ne rfl).ne rfl)
            have s11_61 := m61 _ _ (((s11_53.ne rfl).ne rfl).ne rfl)
            have s12_61 := m61 _ _ (((s12_53.ne rfl).ne rfl).ne rfl)
            have s16_61 := m61 _ _ (((s16_53.ne rfl).ne rfl).ne rfl)
            have s82_61 := m61 _ _ (At.hit z53.put.put rfl)
            clear m61
            refine e_then ?_
            refine c_false s82_61 ?_
            refine wp_skip ?_
            refine e_in ?_
            refine e_then ?_
            refine c_region ?_
            refine l_q rfl (q_move _ _ rfl s12_61.ev ?_)
            refine l_q rfl (q_add (((k + 1 : Nat) : Int)) rfl (At.hit z61 rfl).ev rfl (i64_is (by omega) (by omega) (by omega)) ?_)
            refine l_q rfl (q_assign _ _ rfl (At.hit z61.put rfl).ev ?_)
            refine l_end ?_
            refine e_fresh z61.put.put.put ?_
            intro a62 z62 m62
            have s0_62 := m62 _ _ (((s0_61.ne rfl).ne rfl).ne rfl)
            have s1_62 := m62 _ _ (((s1_61.ne rfl).ne rfl).ne rfl)
            have s2_62 := m62 _ _ (((s2_61.ne rfl).ne rfl).ne rfl)
            have s8_62 := m62 _ _ (((s8_61.ne rfl).ne rfl).ne rfl)
            have s9_62 := m62 _ _ (((s9_61.ne rfl).ne rfl).ne rfl)
            have s10_62 := m62 _ _ (((s10_61.ne rfl).ne rfl).ne rfl)
            have s11_62 := m62 _ _ (((s11_61.ne rfl).ne rfl).ne rfl)
            have s12_62 := m62 _ _ (At.hit z61.put.put rfl)
            clear m62
            have c63 := OwnF.castL ox9_17 (show outR lb lo lt ((pathsD lb lo lt).take k) = outR lb lo lt ((pathsD lb lo lt).take (k + 1)) from outR_skip (by omega) (cellR_3 hb20) hb54)
            rw [badR_skip (by omega) (clashR_3 hb37)] at kg26_6_17
            exact ⟨v9_12, z62, s0_62, s1_62, s2_62, s8_62, s9_62, s10_62, s11_62, s12_62, kg11_17, kg26_6_17, ⟨c63, ox9_12.2⟩, low18⟩
    · skip
      refine c_region ?_
      refine l_q rfl (q_row rfl Try.underlying52 rfl (sz52.trans (congrArg some rfl.symm)) s14_18.ev (fun _ e => by rw [e]; exact kg14_17) ?_)
      refine l_q rfl (q_row rfl Try.underlying52 rfl (sz52.trans (congrArg some rfl.symm)) (s15_18.ne rfl).ev (fun _ e => by rw [e]; exact kg15_17) ?_)
      refine l_q rfl (q_ne3 false rfl guard52 ((At.hit z18 rfl).ne rfl).ev (At.hit z18.put rfl).ev (eq52 9998 ((findR lo ((pathsD lb lo lt).getD k ByteArray.empty)).f0) ((findR lo ((pathsD lb lo lt).getD k ByteArray.empty)).f1) ((findR lo ((pathsD lb lo lt).getD k ByteArray.empty)).f2) ((findR lt ((pathsD lb lo lt).getD k ByteArray.empty)).f0) ((findR lt ((pathsD lb lo lt).getD k ByteArray.empty)).f1) ((findR lt ((pathsD lb lo lt).getD k ByteArray.empty)).f2)) (neR_false (Decidable.not_not.1 hb19)) ?_)
      refine l_q rfl (q_move _ _ rfl (At.hit z18.put.put rfl).ev ?_)
      refine l_skip (wanted_is (j := 3) (d := 56) (b := false) rfl rfl (At.hit z18.put.put.put rfl) rfl) ?_
      refine l_skip (wanted_is (j := 3) (d := 56) (b := false) rfl rfl ((At.hit z18.put.put.put rfl).ne rfl) rfl) ?_
      refine l_skip (wanted_is (j := 3) (d := 56) (b := false) rfl rfl (((At.hit z18.put.put.put rfl).ne rfl).ne rfl) rfl) ?_
      refine l_q rfl (q_pick (b := false) (.bool false) rfl ((((At.hit z18.put.put.put rfl).ne rfl).ne rfl).ne rfl).ev rfl ?_)
      refine l_end ?_
      refine e_fresh z18.put.put.put.put.put.put.put.put ?_
      intro a64 z64 m64
      have s0_64 := m64 _ _ ((((((((s0_18.ne rfl).ne rfl).ne rfl).ne rfl).ne rfl).ne rfl).ne rfl).ne rfl)
      have s1_64 := m64 _ _ ((((((((s1_18.ne rfl).ne rfl).ne rfl).ne rfl).ne rfl).ne rfl).ne rfl).ne rfl)
      have s2_64 := m64 _ _ ((((((((s2_18.ne rfl).ne rfl).ne rfl).ne rfl).ne rfl).ne rfl).ne rfl).ne rfl)
      have s8_64 := m64 _ _ ((((((((s8_18.ne rfl).ne rfl).ne rfl).ne rfl).ne rfl).ne rfl).ne rfl).ne rfl)
      have s9_64 := m64 _ _ ((((((((s9_18.ne rfl).ne rfl).ne rfl).ne rfl).ne rfl).ne rfl).ne rfl).ne rfl)
      have s10_64 := m64 _ _ ((((((((s10_18.ne rfl).ne rfl).ne rfl).ne rfl).ne rfl).ne rfl).ne rfl).ne rfl)
      have s11_64 := m64 _ _ ((((((((s11_18.ne rfl).ne rfl).ne rfl).ne rfl).ne rfl).ne rfl).ne rfl).ne rfl)
      have s12_64 := m64 _ _ ((((((((s12_18.ne rfl).ne rfl).ne rfl).ne rfl).ne rfl).ne rfl).ne rfl).ne rfl)
      have s13_64 := m64 _ _ ((((((((s13_18.ne rfl).ne rfl).ne rfl).ne rfl).ne rfl).ne rfl).ne rfl).ne rfl)
      have s14_64 := m64 _ _ ((((((((s14_18.ne rfl).ne rfl).ne rfl).ne rfl).ne rfl).ne rfl).ne rfl).ne rfl)
      have s15_64 := m64 _ _ ((((((((s15_18.ne rfl).ne rfl).ne rfl).ne rfl).ne rfl).ne rfl).ne rfl).ne rfl)
      have s16_64 := m64 _ _ ((((((((s16_18.ne rfl).ne rfl).ne rfl).ne rfl).ne rfl).ne rfl).ne rfl).ne rfl)
      have s60_64 := m64 _ _ (At.hit z18.put.put.put.put.put.put.put rfl)
      clear m64
      refine e_then ?_
      refine c_false s60_64 ?_
      refine wp_skip ?_
      refine e_then ?_
      refine c_seq ?_
      refine c_seq ?_
      refine c_region ?_
      refine l_q rfl (q_row rfl Try.underlying52 rfl (sz52.trans (congrArg some rfl.symm)) s14_64.ev (fun _ e => by rw [e]; exact kg14_17) ?_)
      refine l_q rfl (q_row rfl Try.underlying52 rfl (sz52.trans (congrArg some rfl.symm)) (s15_64.ne rfl).ev (fun _ e => by rw [e]; exact kg15_17) ?_)
      refine l_q rfl (q_ne3 false rfl guard52 ((At.hit z64 rfl).ne rfl).ev (At.hit z64.put rfl).ev (eq52 9998 ((findR lo ((pathsD lb lo lt).getD k ByteArray.empty)).f0) ((findR lo ((pathsD lb lo lt).getD k ByteArray.empty)).f1) ((findR lo ((pathsD lb lo lt).getD k ByteArray.empty)).f2) ((findR lt ((pathsD lb lo lt).getD k ByteArray.empty)).f0) ((findR lt ((pathsD lb lo lt).getD k ByteArray.empty)).f1) ((findR lt ((pathsD lb lo lt).getD k ByteArray.empty)).f2)) (neR_false (Decidable.not_not.1 hb19)) ?_)
      refine l_q rfl (q_move _ _ rfl (At.hit z64.put.put rfl).ev ?_)
      refine l_skip (wanted_is (j := 3) (d := 65) (b := false) rfl rfl (At.hit z64.put.put.put rfl) rfl) ?_
      refine l_skip (wanted_is (j := 3) (d := 65) (b := false) rfl rfl ((At.hit z64.put.put.put rfl).ne rfl) rfl) ?_
      refine l_skip (wanted_is (j := 3) (d := 65) (b := false) rfl rfl (((At.hit z64.put.put.put rfl).ne rfl).ne rfl) rfl) ?_
      refine l_q rfl (q_pick (b := false) (.bool false) rfl ((((At.hit z64.put.put.put rfl).ne rfl).ne rfl).ne rfl).ev rfl ?_)
      refine l_fresh z64.put.put.put.put.put.put.put.put ?_
      intro a65 z65 m65
      have s0_65 := m65 _ _ ((((((((s0_64.ne rfl).ne rfl).ne rfl).ne rfl).ne rfl).ne rfl).ne rfl).ne rfl)
      have s1_65 := m65 _ _ ((((((((s1_64.ne rfl).ne rfl).ne rfl).ne rfl).ne rfl).ne rfl).ne rfl).ne rfl)
      have s2_65 := m65 _ _ ((((((((s2_64.ne rfl).ne rfl).ne rfl).ne rfl).ne rfl).ne rfl).ne rfl).ne rfl)
      have s8_65 := m65 _ _ ((((((((s8_64.ne rfl).ne rfl).ne rfl).ne rfl).ne rfl).ne rfl).ne rfl).ne rfl)
      have s9_65 := m65 _ _ ((((((((s9_64.ne rfl).ne rfl).ne rfl).ne rfl).ne rfl).ne rfl).ne rfl).ne rfl)
      have s10_65 := m65 _ _ ((((((((s10_64.ne rfl).ne rfl).ne rfl).ne rfl).ne rfl).ne rfl).ne rfl).ne rfl)
      have s11_65 := m65 _ _ ((((((((s11_64.ne rfl).ne rfl).ne rfl).ne rfl).ne rfl).ne rfl).ne rfl).ne rfl)
      have s12_65 := m65 _ _ ((((((((s12_64.ne rfl).ne rfl).ne rfl).ne rfl).ne rfl).ne rfl).ne rfl).ne rfl)
      have s13_65 := m65 _ _ ((((((((s13_64.ne rfl).ne rfl).ne rfl).ne rfl).ne rfl).ne rfl).ne rfl).ne rfl)
      have s15_65 := m65 _ _ ((((((((s15_64.ne rfl).ne rfl).ne rfl).ne rfl).ne rfl).ne rfl).ne rfl).ne rfl)
      have s16_65 := m65 _ _ ((((((((s16_64.ne rfl).ne rfl).ne rfl).ne rfl).ne rfl).ne rfl).ne rfl).ne rfl)
      have s69_65 := m65 _ _ (At.hit z64.put.put.put.put.put.put.put rfl)
      clear m65
      refine l_q rfl (q_move _ _ rfl s69_65.ev ?_)
      refine l_skip (wanted_is (j := 8) (d := 70) (b := false) rfl rfl (At.hit z65 rfl) rfl) ?_
      refine l_skip (wanted_is (j := 8) (d := 70) (b := false) rfl rfl ((At.hit z65 rfl).ne rfl) rfl) ?_
      refine l_skip (wanted_is (j := 8) (d := 70) (b := false) rfl rfl (((At.hit z65 rfl).ne rfl).ne rfl) rfl) ?_
      refine l_q rfl (q_pick (b := false) (.bool false) rfl ((((At.hit z65 rfl).ne rfl).ne rfl).ne rfl).ev rfl ?_)
      refine l_end ?_
      refine e_fresh z65.put.put.put.put.put ?_
      intro a66 z66 m66
      have s0_66 := m66 _ _ (((((s0_65.ne rfl).ne rfl).ne rfl).ne rfl).ne rfl)
      have s1_66 := m66 _ _ (((((s1_65.ne rfl).ne rfl).ne rfl).ne rfl).ne rfl)
      have s2_66 := m66 _ _ (((((s2_65.ne rfl).ne rfl).ne rfl).ne rfl).ne rfl)
      have s8_66 := m66 _ _ (((((s8_65.ne rfl).ne rfl).ne rfl).ne rfl).ne rfl)
      have s9_66 := m66 _ _ (((((s9_65.ne rfl).ne rfl).ne rfl).ne rfl).ne rfl)
      have s10_66 := m66 _ _ (((((s10_65.ne rfl).ne rfl).ne rfl).ne rfl).ne rfl)
      have s11_66 := m66 _ _ (((((s11_65.ne rfl).ne rfl).ne rfl).ne rfl).ne rfl)
      have s12_66 := m66 _ _ (((((s12_65.ne rfl).ne rfl).ne rfl).ne rfl).ne rfl)
      have s16_66 := m66 _ _ (((((s16_65.ne rfl).ne rfl).ne rfl).ne rfl).ne rfl)
      have s74_66 := m66 _ _ (At.hit z65.put.put.put.put rfl)
      clear m66
      refine e_then ?_
      refine c_false s74_66 ?_
      refine wp_skip ?_
      refine e_then ?_
      refine c_seq ?_
      by_cases hb67 : ¬ findR lo ((pathsD lb lo lt).getD k ByteArray.empty) = zR
      · skip
        refine c_region ?_
        refine l_q rfl (q_row rfl Try.underlying52 rfl (sz52.trans (congrArg some rfl.symm)) s16_66.ev (fun _ e => by rw [e]; exact k17) ?_)
        refine l_q rfl (q_row rfl Try.underlying52 rfl (sz52.trans (congrArg some rfl.symm)) (s11_66.ne rfl).ev (fun _ e => by rw [e]; exact kg11_17) ?_)
        refine l_q rfl (q_ne3 true rfl guard52 ((At.hit z66 rfl).ne rfl).ev (At.hit z66.put rfl).ev (eq52 9998 ((findR lo ((pathsD lb lo lt).getD k ByteArray.empty)).f0) ((findR lo ((pathsD lb lo lt).getD k ByteArray.empty)).f1) ((findR lo ((pathsD lb lo lt).getD k ByteArray.empty)).f2) zR.f0 zR.f1 zR.f2) (neR_true hb67) ?_)
        refine l_end ?_
        refine e_fresh z66.put.put.put ?_
        intro a68 z68 m68
        have s0_68 := m68 _ _ (((s0_66.ne rfl).ne rfl).ne rfl)
        have s1_68 := m68 _ _ (((s1_66.ne rfl).ne rfl).ne rfl)
        have s2_68 := m68 _ _ (((s2_66.ne rfl).ne rfl).ne rfl)
        have s8_68 := m68 _ _ (((s8_66.ne rfl).ne rfl).ne rfl)
        have s9_68 := m68 _ _ (((s9_66.ne rfl).ne rfl).ne rfl)
        have s10_68 := m68 _ _ (((s10_66.ne rfl).ne rfl).ne rfl)
        have s11_68 := m68 _ _ (((s11_66.ne rfl).ne rfl).ne rfl)
        have s12_68 := m68 _ _ (((s12_66.ne rfl).ne rfl).ne rfl)
        have s16_68 := m68 _ _ (((s16_66.ne rfl).ne rfl).ne rfl)
        have s82_68 := m68 _ _ (At.hit z66.put.put rfl)
        clear m68
        refine e_then ?_
        refine c_true s82_68 ?_
        refine c_region ?_
        refine l_q rfl (q_move _ _ rfl s9_68.ev ?_)
        refine l_q rfl (q_row rfl Try.underlying52 rfl (sz52.trans (congrArg some rfl.symm)) (s16_68.ne rfl).ev (fun _ e => by rw [e]; exact k17) ?_)
        refine l_buildF (vs := [.string ((findR lo ((pathsD lb lo lt).getD k ByteArray.empty)).f0), .int .i64 ((findR lo ((pathsD lb lo lt).getD k ByteArray.empty)).f1), .string ((findR lo ((pathsD lb lo lt).getD k ByteArray.empty)).f2)]) rfl rfl Try.underlying28 rec52 (At.hit z68.put rfl).ev rfl rfl (by decide) (by decide) ?_
        intro g85_69 w69 hg69 k69 h69
        have onx9_g85_69 : ∀ k, Value.ownBlock v9_12 = some k → k < g85_69 := fun k hk => Nat.lt_of_lt_of_le (OwnF.own_lt ox9_17 hk) hg69
        have lt_g11_g85_69 := Nat.lt_of_lt_of_le (heap_lt kg11_17) hg69
        have lt_g26_6_g85_69 := Nat.lt_of_lt_of_le kg26_6_17.lt hg69
        have lt_g16_g85_69 := Nat.lt_of_lt_of_le (heap_lt k17) hg69
        have geg85_69 := Nat.le_trans low18.ge hg69
        have kg11_69 := h69.blk kg11_17
        have kg26_6_69 := kg26_6_17.low h69
        have kg16_69 := h69.blk k17
        have ox9_69 := ox9_17.low h69
        have ovb_69 := (ovb_3.low ((low15.trans h16).upd u17 geg16)).low h69
        have ovo_69 := (ovo_3.low ((low15.trans h16).upd u17 geg16)).low h69
        have ovt_69 := (ovt_3.low ((low15.trans h16).upd u17 geg16)).low h69
        have ob3_69 := (o3.low ((low15.trans h16).upd u17 geg16)).low h69
        refine l_appFo (B := w3.heap.size) rfl rfl Try.underlying28 rec52 (((At.hit z68 rfl).ne rfl).ne rfl).ev (At.hit z68.put.put rfl).ev k69 rfl (by decide) rfl ox9_69 (low18.trans h69).ge (by omega) ?_
        intro v70 w70 o70 gr70 ap70
        have kg11_70 := gr70.blka kg11_69 ox9_12.2
        have kg26_6_70 := kg26_6_69.grw gr70
        have kg16_70 := gr70.blkn kg16_69 onx9_g16
        have lw70 := (low18.trans h69).grw gr70
        have apf70 := apart_app ap70 ox9_12.2 (heap_lt kg11_69)
        replace o70 := o70.cast (show _ = ((outR lb lo lt ((pathsD lb lo lt).take k)) ++ [(findR lo ((pathsD lb lo lt).getD k ByteArray.empty))]).length by rw [List.length_append]; rfl) (flat_snoc (enc := encR) (outR lb lo lt ((pathsD lb lo lt).take k)) (findR lo ((pathsD lb lo lt).getD k ByteArray.empty)))
        refine l_q rfl (q_assign _ _ rfl (At.hit z68.put.put.put rfl).ev ?_)
        refine l_end ?_
        refine e_fresh z68.put.put.put.put.put ?_
        intro a71 z71 m71
        have s0_71 := m71 _ _ (((((s0_68.ne rfl).ne rfl).ne rfl).ne rfl).ne rfl)
        have s1_71 := m71 _ _ (((((s1_68.ne rfl).ne rfl).ne rfl).ne rfl).ne rfl)
        have s2_71 := m71 _ _ (((((s2_68.ne rfl).ne rfl).ne rfl).ne rfl).ne rfl)
        have s8_71 := m71 _ _ (((((s8_68.ne rfl).ne rfl).ne rfl).ne rfl).ne rfl)
        have s9_71 := m71 _ _ (At.hit z68.put.put.put.put rfl)
        have s10_71 := m71 _ _ (((((s10_68.ne rfl).ne rfl).ne rfl).ne rfl).ne rfl)
        have s11_71 := m71 _ _ (((((s11_68.ne rfl).ne rfl).ne rfl).ne rfl).ne rfl)
        have s12_71 := m71 _ _ (((((s12_68.ne rfl).ne rfl).ne rfl).ne rfl).ne rfl)
        have low71 := lw70
        clear m71
        refine e_in ?_
        refine e_then ?_
        refine c_region ?_
        refine l_q rfl (q_move _ _ rfl s12_71.ev ?_)
        refine l_q rfl (q_add (((k + 1 : Nat) : Int)) rfl (At.hit z71 rfl).ev rfl (i64_is (by omega) (by omega) (by omega)) ?_)
        refine l_q rfl (q_assign _ _ rfl (At.hit z71.put rfl).ev ?_)
        refine l_end ?_
        refine e_fresh z71.put.put.put ?_
        intro a72 z72 m72
        have s0_72 := m72 _ _ (((s0_71.ne rfl).ne rfl).ne rfl)
        have s1_72 := m72 _ _ (((s1_71.ne rfl).ne rfl).ne rfl)
        have s2_72 := m72 _ _ (((s2_71.ne rfl).ne rfl).ne rfl)
        have s8_72 := m72 _ _ (((s8_71.ne rfl).ne rfl).ne rfl)
        have s9_72 := m72 _ _ (((s9_71.ne rfl).ne rfl).ne rfl)
        have s10_72 := m72 _ _ (((s10_71.ne rfl).ne rfl).ne rfl)
        have s11_72 := m72 _ _ (((s11_71.ne rfl).ne rfl).ne rfl)
        have s12_72 := m72 _ _ (At.hit z71.put.put rfl)
        clear m72
        have c73 := OwnF.castL o70 (show (outR lb lo lt ((pathsD lb lo lt).take k)) ++ [(findR lo ((pathsD lb lo lt).getD k ByteArray.empty))] = outR lb lo lt ((pathsD lb lo lt).take (k + 1)) from outR_next (by omega) (cellR_1 hb19) hb67)
        rw [badR_skip (by omega) (clashR_1 hb19)] at kg26_6_70
        exact ⟨v70, z72, s0_72, s1_72, s2_72, s8_72, s9_72, s10_72, s11_72, s12_72, kg11_70, kg26_6_70, ⟨c73, apf70⟩, low71⟩
      · skip
        refine c_region ?_
        refine l_q rfl (q_row rfl Try.underlying52 rfl (sz52.trans (congrArg some rfl.symm)) s16_66.ev (fun _ e => by rw [e]; exact k17) ?_)
        refine l_q rfl (q_row rfl Try.underlying52 rfl (sz52.trans (congrArg some rfl.symm)) (s11_66.ne rfl).ev (fun _ e => by rw [e]; exact kg11_17) ?_)
        refine l_q rfl (q_ne3 false rfl guard52 ((At.hit z66 rfl).ne rfl).ev (At.hit z66.put rfl).ev (eq52 9998 ((findR lo ((pathsD lb lo lt).getD k ByteArray.empty)).f0) ((findR lo ((pathsD lb lo lt).getD k ByteArray.empty)).f1) ((findR lo ((pathsD lb lo lt).getD k ByteArray.empty)).f2) zR.f0 zR.f1 zR.f2) (neR_false (Decidable.not_not.1 hb67)) ?_)
        refine l_end ?_
        refine e_fresh z66.put.put.put ?_
        intro a74 z74 m74
        have s0_74 := m74 _ _ (((s0_66.ne rfl).ne rfl).ne rfl)
        have s1_74 := m74 _ _ (((s1_66.ne rfl).ne rfl).ne rfl)
        have s2_74 := m74 _ _ (((s2_66.ne rfl).ne rfl).ne rfl)
        have s8_74 := m74 _ _ (((s8_66.ne rfl).ne rfl).ne rfl)
        have s9_74 := m74 _ _ (((s9_66.ne rfl).ne rfl).ne rfl)
        have s10_74 := m74 _ _ (((s10_66.ne rfl).ne rfl).ne rfl)
        have s11_74 := m74 _ _ (((s11_66.ne rfl).ne rfl).ne rfl)
        have s12_74 := m74 _ _ (((s12_66.ne rfl).ne rfl).ne rfl)
        have s16_74 := m74 _ _ (((s16_66.ne rfl).ne rfl).ne rfl)
        have s82_74 := m74 _ _ (At.hit z66.put.put rfl)
        clear m74
        refine e_then ?_
        refine c_false s82_74 ?_
        refine wp_skip ?_
        refine e_in ?_
        refine e_then ?_
        refine c_region ?_
        refine l_q rfl (q_move _ _ rfl s12_74.ev ?_)
        refine l_q rfl (q_add (((k + 1 : Nat) : Int)) rfl (At.hit z74 rfl).ev rfl (i64_is (by omega) (by omega) (by omega)) ?_)
        refine l_q rfl (q_assign _ _ rfl (At.hit z74.put rfl).ev ?_)
        refine l_end ?_
        refine e_fresh z74.put.put.put ?_
        intro a75 z75 m75
        have s0_75 := m75 _ _ (((s0_74.ne rfl).ne rfl).ne rfl)
        have s1_75 := m75 _ _ (((s1_74.ne rfl).ne rfl).ne rfl)
        have s2_75 := m75 _ _ (((s2_74.ne rfl).ne rfl).ne rfl)
        have s8_75 := m75 _ _ (((s8_74.ne rfl).ne rfl).ne rfl)
        have s9_75 := m75 _ _ (((s9_74.ne rfl).ne rfl).ne rfl)
        have s10_75 := m75 _ _ (((s10_74.ne rfl).ne rfl).ne rfl)
        have s11_75 := m75 _ _ (((s11_74.ne rfl).ne rfl).ne rfl)
        have s12_75 := m75 _ _ (At.hit z74.put.put rfl)
        clear m75
        have c76 := OwnF.castL ox9_17 (show outR lb lo lt ((pathsD lb lo lt).take k) = outR lb lo lt ((pathsD lb lo lt).take (k + 1)) from outR_skip (by omega) (cellR_1 hb19) hb67)
        rw [badR_skip (by omega) (clashR_1 hb19)] at kg26_6_17
        exact ⟨v9_12, z75, s0_75, s1_75, s2_75, s8_75, s9_75, s10_75, s11_75, s12_75, kg11_17, kg26_6_17, ⟨c76, ox9_12.2⟩, low18⟩
  · intro a77 w77 h
    obtain ⟨v9_77, z77, s0_77, s1_77, s2_77, s8_77, s9_77, s10_77, s11_77, s12_77, kg11_77, kg26_6_77, ox9_77, low77⟩ := h
    clear k9 kg26_6_9 low10 s0_11 s10_11 s11_11 s12_11 s1_11 s2_11 s8_11 s9_11 z11
    have hpl := pathsD_len lb lo lt
    have hol := outR_len lb lo lt (pathsD lb lo lt) (pathsD lb lo lt).length 300000 (by omega)
    rw [outS_end] at hol
    refine c_seq ?_
    refine c_seq ?_
    refine c_region ?_
    refine l_q rfl (q_move _ _ rfl s12_77.ev ?_)
    refine l_q rfl (q_move _ _ rfl (s8_77.ne rfl).ev ?_)
    refine l_q rfl (q_lenF rfl rfl Try.underlying25 (At.hit z77.put rfl).ev (o3.low low77).rd ?_)
    refine l_q rfl (q_lss false rfl (((At.hit z77 rfl).ne rfl).ne rfl).ev (At.hit z77.put.put rfl).ev (decide_eq_false (by omega)) ?_)
    refine l_end ?_
    refine e_fresh z77.put.put.put.put ?_
    intro a78 z78 m78
    have s0_78 := m78 _ _ ((((s0_77.ne rfl).ne rfl).ne rfl).ne rfl)
    have s1_78 := m78 _ _ ((((s1_77.ne rfl).ne rfl).ne rfl).ne rfl)
    have s2_78 := m78 _ _ ((((s2_77.ne rfl).ne rfl).ne rfl).ne rfl)
    have s8_78 := m78 _ _ ((((s8_77.ne rfl).ne rfl).ne rfl).ne rfl)
    have s9_78 := m78 _ _ ((((s9_77.ne rfl).ne rfl).ne rfl).ne rfl)
    have s10_78 := m78 _ _ ((((s10_77.ne rfl).ne rfl).ne rfl).ne rfl)
    have s11_78 := m78 _ _ ((((s11_77.ne rfl).ne rfl).ne rfl).ne rfl)
    have s12_78 := m78 _ _ ((((s12_77.ne rfl).ne rfl).ne rfl).ne rfl)
    have s31_78 := m78 _ _ (At.hit z77.put.put.put rfl)
    clear m78
    refine e_then ?_
    refine c_false s31_78 ?_
    refine wp_exit ?_
    refine x_then ?_
    refine x_then ?_
    refine in_exit ?_
    refine e_then ?_
    refine c_seq ?_
    refine c_seq ?_
    have c79 := OwnF.castL ox9_77.1 (show outR lb lo lt ((pathsD lb lo lt).take ((pathsD lb lo lt).length)) = outS lb lo lt from outS_end lb lo lt)
    rw [badS_end] at kg26_6_77
    refine c_region ?_
    refine l_q rfl (q_assign _ _ rfl rfl ?_)
    refine l_end ?_
    refine e_fresh z78.put ?_
    intro a80 z80 m80
    have s8_80 := m80 _ _ (s8_78.ne rfl)
    have s9_80 := m80 _ _ (s9_78.ne rfl)
    have s10_80 := m80 _ _ (s10_78.ne rfl)
    have s17_80 := m80 _ _ (At.hit z78 rfl)
    clear m80
    refine e_then ?_
    refine wp_block ?_
    refine c_loop ((outS lb lo lt).length) (fun k a w => Fr 137 a ∧ At a 8 (v3) ∧ At a 9 (v9_77) ∧ At a 10 (.map (some g26_6)) ∧ At a 17 (.int .i64 ((k : Nat) : Int)) ∧ MapIs w g26_6 (mapB (dirR (badS lb lo lt) (outS lb lo lt) k)) ∧ OwnF w w3.heap.size 52 3 v9_77 (outS lb lo lt).length (((outS lb lo lt).map encR).flatten) ∧ Low w3 w) ?_ ?_ ?_
    · exact ⟨z80, s8_80, s9_80, s10_80, s17_80, kg26_6_77, c79, low77⟩
    · intro k a81 w81 hk81 h
      obtain ⟨z81, s8_81, s9_81, s10_81, s17_81, kg26_6_81, ox9_81, low81⟩ := h
      clear kg26_6_77 low77 s10_80 s17_80 s8_80 s9_80 z80
      refine c_seq ?_
      refine c_seq ?_
      refine c_region ?_
      refine l_q rfl (q_move _ _ rfl s17_81.ev ?_)
      refine l_q rfl (q_move _ _ rfl (s9_81.ne rfl).ev ?_)
      refine l_q rfl (q_lenF rfl rfl Try.underlying28 (At.hit z81.put rfl).ev ox9_81.rd ?_)
      refine l_q rfl (q_lss true rfl (((At.hit z81 rfl).ne rfl).ne rfl).ev (At.hit z81.put.put rfl).ev (decide_eq_true (by omega)) ?_)
      refine l_end ?_
      refine e_fresh z81.put.put.put.put ?_
      intro a82 z82 m82
      have s8_82 := m82 _ _ ((((s8_81.ne rfl).ne rfl).ne rfl).ne rfl)
      have s9_82 := m82 _ _ ((((s9_81.ne rfl).ne rfl).ne rfl).ne rfl)
      have s10_82 := m82 _ _ ((((s10_81.ne rfl).ne rfl).ne rfl).ne rfl)
      have s17_82 := m82 _ _ ((((s17_81.ne rfl).ne rfl).ne rfl).ne rfl)
      have s90_82 := m82 _ _ (At.hit z81.put.put.put rfl)
      clear m82
      refine e_then ?_
      refine c_true s90_82 ?_
      refine wp_skip ?_
      refine e_then ?_
      refine c_seq ?_
      refine wp_block ?_
      refine c_seq ?_
      refine c_region ?_
      refine l_q rfl (q_assign _ _ rfl rfl ?_)
      refine l_end ?_
      refine e_fresh z82.put ?_
      intro a83 z83 m83
      have s8_83 := m83 _ _ (s8_82.ne rfl)
      have s9_83 := m83 _ _ (s9_82.ne rfl)
      have s10_83 := m83 _ _ (s10_82.ne rfl)
      have s17_83 := m83 _ _ (s17_82.ne rfl)
      have s18_83 := m83 _ _ (At.hit z82 rfl)
      clear m83
      refine e_then ?_
      refine wp_block ?_
      refine c_loop ((outS lb lo lt).length) (fun m a w => Fr 137 a ∧ At a 8 (v3) ∧ At a 9 (v9_77) ∧ At a 10 (.map (some g26_6)) ∧ At a 17 (.int .i64 ((k : Nat) : Int)) ∧ At a 18 (.int .i64 ((m : Nat) : Int)) ∧ MapIs w g26_6 (mapB (inR (dirR (badS lb lo lt) (outS lb lo lt) k) (outS lb lo lt) k m)) ∧ OwnF w w3.heap.size 52 3 v9_77 (outS lb lo lt).length (((outS lb lo lt).map encR).flatten) ∧ Low w3 w) ?_ ?_ ?_
      · exact ⟨z83, s8_83, s9_83, s10_83, s17_83, s18_83, kg26_6_81, ox9_81, low81⟩
      · intro m a84 w84 hk84 h
        obtain ⟨z84, s8_84, s9_84, s10_84, s17_84, s18_84, kg26_6_84, ox9_84, low84⟩ := h
        clear kg26_6_81 low81 s10_83 s17_83 s18_83 s8_83 s9_83 z83
        refine c_seq ?_
        refine c_seq ?_
        refine c_region ?_
        refine l_q rfl (q_move _ _ rfl s18_84.ev ?_)
        refine l_q rfl (q_move _ _ rfl (s9_84.ne rfl).ev ?_)
        refine l_q rfl (q_lenF rfl rfl Try.underlying28 (At.hit z84.put rfl).ev ox9_84.rd ?_)
        refine l_q rfl (q_lss true rfl (((At.hit z84 rfl).ne rfl).ne rfl).ev (At.hit z84.put.put rfl).ev (decide_eq_true (by omega)) ?_)
        refine l_end ?_
        refine e_fresh z84.put.put.put.put ?_
        intro a85 z85 m85
        have s8_85 := m85 _ _ ((((s8_84.ne rfl).ne rfl).ne rfl).ne rfl)
        have s9_85 := m85 _ _ ((((s9_84.ne rfl).ne rfl).ne rfl).ne rfl)
        have s10_85 := m85 _ _ ((((s10_84.ne rfl).ne rfl).ne rfl).ne rfl)
        have s17_85 := m85 _ _ ((((s17_84.ne rfl).ne rfl).ne rfl).ne rfl)
        have s18_85 := m85 _ _ ((((s18_84.ne rfl).ne rfl).ne rfl).ne rfl)
        have s96_85 := m85 _ _ (At.hit z84.put.put.put rfl)
        clear m85
        refine e_then ?_
        refine c_true s96_85 ?_
        refine wp_skip ?_
        refine e_then ?_
        refine c_seq ?_
        refine wp_block ?_
        refine c_seq ?_
        refine region_low hm (by kernel_rfl) ?_
        refine qs (q_move _ _ rfl s9_85.ev ?_)
        refine qs (q_move _ _ rfl (s18_85.ne rfl).ev ?_)
        refine qs (q_idxF (j := m) rfl Try.underlying28 sz52 ((At.hit z85 rfl).ne rfl).ev ox9_84.rd (At.hit z85.put rfl).ev (by omega) ?_)
        refine qs (q_fldF 0 rfl fld52_0 (At.hit z85.put.put rfl).ev (ox9_84.rd.form (by omega)) ?_)
        refine qs (q_ld1 (u := .string (((outS lb lo lt).getD m zR).f0)) rfl Try.underlying9 rfl (At.hit z85.put.put.put rfl).ev (fun _ h => (ox9_84.low h).rd) (by omega) ((flat_at encR_len zR _ m 0 (by omega) (by decide)).trans rfl) ?_)
        refine qs (q_move _ _ rfl (((((s9_85.ne rfl).ne rfl).ne rfl).ne rfl).ne rfl).ev ?_)
        refine qs (q_move _ _ rfl ((((((s17_85.ne rfl).ne rfl).ne rfl).ne rfl).ne rfl).ne rfl).ev ?_)
        refine qs (q_idxF (j := k) rfl Try.underlying28 sz52 ((At.hit z85.put.put.put.put.put rfl).ne rfl).ev ox9_84.rd (At.hit z85.put.put.put.put.put.put rfl).ev (by omega) ?_)
        refine q_fresh z85.put.put.put.put.put.put.put.put ?_
        intro a86 z86 m86
        have s8_86 := m86 _ _ ((((((((s8_85.ne rfl).ne rfl).ne rfl).ne rfl).ne rfl).ne rfl).ne rfl).ne rfl)
        have s9_86 := m86 _ _ ((((((((s9_85.ne rfl).ne rfl).ne rfl).ne rfl).ne rfl).ne rfl).ne rfl).ne rfl)
        have s10_86 := m86 _ _ ((((((((s10_85.ne rfl).ne rfl).ne rfl).ne rfl).ne rfl).ne rfl).ne rfl).ne rfl)
        have s17_86 := m86 _ _ ((((((((s17_85.ne rfl).ne rfl).ne rfl).ne rfl).ne rfl).ne rfl).ne rfl).ne rfl)
        have s18_86 := m86 _ _ ((((((((s18_85.ne rfl).ne rfl).ne rfl).ne rfl).ne rfl).ne rfl).ne rfl).ne rfl)
        have s103_86 := m86 _ _ ((((At.hit z85.put.put.put.put rfl).ne rfl).ne rfl).ne rfl)
        have s106_86 := m86 _ _ (At.hit z85.put.put.put.put.put.put.put rfl)
        clear m86
        refine qs (q_fldF 0 rfl fld52_0 s106_86.ev (ox9_84.rd.form (by omega)) ?_)
        refine qs (q_ld1 (u := .string (((outS lb lo lt).getD k zR).f0)) rfl Try.underlying9 rfl (At.hit z86 rfl).ev (fun _ h => (ox9_84.low h).rd) (by omega) ((flat_at encR_len zR _ k 0 (by omega) (by decide)).trans rfl) ?_)
        refine qs (q_call (.bool (within (((outS lb lo lt).getD m zR).f0) (((outS lb lo lt).getD k zR).f0))) rfl rfl Try.func14 rfl (args2 rfl ((s103_86.ne rfl).ne rfl).ev (At.hit z86.put rfl).ev) (fun _ h => (Within.calls (((outS lb lo lt).getD m zR).f0) (((outS lb lo lt).getD k zR).f0) _).mono fun _ _ ⟨e, k⟩ => ⟨e, h.trans k⟩) ?_)
        refine qz ?_
        intro w87 h87
        have kg26_6_87 := kg26_6_84.low h87
        have ox9_87 := ox9_84.low h87
        have ob3_87 := (o3.low low84).low h87
        refine e_id ?_
        refine e_fresh z86.put.put.put ?_
        intro a88 z88 m88
        have s8_88 := m88 _ _ (((s8_86.ne rfl).ne rfl).ne rfl)
        have s9_88 := m88 _ _ (((s9_86.ne rfl).ne rfl).ne rfl)
        have s10_88 := m88 _ _ (((s10_86.ne rfl).ne rfl).ne rfl)
        have s17_88 := m88 _ _ (((s17_86.ne rfl).ne rfl).ne rfl)
        have s18_88 := m88 _ _ (((s18_86.ne rfl).ne rfl).ne rfl)
        have s109_88 := m88 _ _ (At.hit z86.put.put rfl)
        have low88 := (low84.trans h87)
        clear m88
        refine e_then ?_
        cases hc89 : within (((outS lb lo lt).getD m zR).f0) (((outS lb lo lt).getD k zR).f0) with
        | true =>
          have hs89 := s109_88.same (congrArg Value.bool hc89)
          refine c_true hs89 ?_
          refine c_region ?_
          refine l_q rfl (q_move _ _ rfl s10_88.ev ?_)
          refine l_q rfl (q_move _ _ rfl (s9_88.ne rfl).ev ?_)
          refine l_q rfl (q_move _ _ rfl ((s17_88.ne rfl).ne rfl).ev ?_)
          refine l_q rfl (q_idxF (j := k) rfl Try.underlying28 sz52 ((At.hit z88.put rfl).ne rfl).ev ox9_87.rd (At.hit z88.put.put rfl).ev (by omega) ?_)
          refine l_q rfl (q_fldF 0 rfl fld52_0 (At.hit z88.put.put.put rfl).ev (ox9_87.rd.form (by omega)) ?_)
          refine l_q rfl (q_ld1 (u := .string (((outS lb lo lt).getD k zR).f0)) rfl Try.underlying9 rfl (At.hit z88.put.put.put.put rfl).ev (fun _ e => by rw [e]; exact ox9_87.rd) (by omega) ((flat_at encR_len zR _ k 0 (by omega) (by decide)).trans rfl) ?_)
          refine l_mapPut rfl rfl rfl Try.underlying38 Try.underlying9 ((((((At.hit z88 rfl).ne rfl).ne rfl).ne rfl).ne rfl).ne rfl).ev (At.hit z88.put.put.put.put.put rfl).ev rfl kg26_6_87 ?_
          intro w90 k90 u90
          replace k90 : MapIs w90 g26_6 (mput (mapB (inR (dirR (badS lb lo lt) (outS lb lo lt) k) (outS lb lo lt) k m)) (((outS lb lo lt).getD k zR).f0) (.bool true)) := k90
          have ox9_90 := ox9_87.updm u90 kg26_6_87
          refine l_end ?_
          refine e_fresh z88.put.put.put.put.put.put ?_
          intro a91 z91 m91
          have s8_91 := m91 _ _ ((((((s8_88.ne rfl).ne rfl).ne rfl).ne rfl).ne rfl).ne rfl)
          have s9_91 := m91 _ _ ((((((s9_88.ne rfl).ne rfl).ne rfl).ne rfl).ne rfl).ne rfl)
          have s10_91 := m91 _ _ ((((((s10_88.ne rfl).ne rfl).ne rfl).ne rfl).ne rfl).ne rfl)
          have s17_91 := m91 _ _ ((((((s17_88.ne rfl).ne rfl).ne rfl).ne rfl).ne rfl).ne rfl)
          have s18_91 := m91 _ _ ((((((s18_88.ne rfl).ne rfl).ne rfl).ne rfl).ne rfl).ne rfl)
          have low91 := (low88.upd u90 geg26_6)
          clear m91
          refine e_in ?_
          refine e_then ?_
          refine c_region ?_
          refine l_q rfl (q_move _ _ rfl s18_91.ev ?_)
          refine l_q rfl (q_add (((m + 1 : Nat) : Int)) rfl (At.hit z91 rfl).ev rfl (i64_is (by omega) (by omega) (by omega)) ?_)
          refine l_q rfl (q_assign _ _ rfl (At.hit z91.put rfl).ev ?_)
          refine l_end ?_
          refine e_fresh z91.put.put.put ?_
          intro a92 z92 m92
          have s8_92 := m92 _ _ (((s8_91.ne rfl).ne rfl).ne rfl)
          have s9_92 := m92 _ _ (((s9_91.ne rfl).ne rfl).ne rfl)
          have s10_92 := m92 _ _ (((s10_91.ne rfl).ne rfl).ne rfl)
          have s17_92 := m92 _ _ (((s17_91.ne rfl).ne rfl).ne rfl)
          have s18_92 := m92 _ _ (At.hit z91.put.put rfl)
          clear m92
          rw [inR_next hc89] at k90
          exact ⟨z92, s8_92, s9_92, s10_92, s17_92, s18_92, k90, ox9_90, low91⟩
        | false =>
          have hs89 := s109_88.same (congrArg Value.bool hc89)
          refine c_false hs89 ?_
          refine wp_skip ?_
          refine e_in ?_
          refine e_then ?_
          refine c_region ?_
          refine l_q rfl (q_move _ _ rfl s18_88.ev ?_)
          refine l_q rfl (q_add (((m + 1 : Nat) : Int)) rfl (At.hit z88 rfl).ev rfl (i64_is (by omega) (by omega) (by omega)) ?_)
          refine l_q rfl (q_assign _ _ rfl (At.hit z88.put rfl).ev ?_)
          refine l_end ?_
          refine e_fresh z88.put.put.put ?_
          intro a93 z93 m93
          have s8_93 := m93 _ _ (((s8_88.ne rfl).ne rfl).ne rfl)
          have s9_93 := m93 _ _ (((s9_88.ne rfl).ne rfl).ne rfl)
          have s10_93 := m93 _ _ (((s10_88.ne rfl).ne rfl).ne rfl)
          have s17_93 := m93 _ _ (((s17_88.ne rfl).ne rfl).ne rfl)
          have s18_93 := m93 _ _ (At.hit z88.put.put rfl)
          clear m93
          rw [inR_skip hc89] at kg26_6_87
          exact ⟨z93, s8_93, s9_93, s10_93, s17_93, s18_93, kg26_6_87, ox9_87, low88⟩
      · intro a94 w94 h
        obtain ⟨z94, s8_94, s9_94, s10_94, s17_94, s18_94, kg26_6_94, ox9_94, low94⟩ := h
        clear kg26_6_81 low81 s10_83 s17_83 s18_83 s8_83 s9_83 z83
        refine c_seq ?_
        refine c_seq ?_
        refine c_region ?_
        refine l_q rfl (q_move _ _ rfl s18_94.ev ?_)
        refine l_q rfl (q_move _ _ rfl (s9_94.ne rfl).ev ?_)
        refine l_q rfl (q_lenF rfl rfl Try.underlying28 (At.hit z94.put rfl).ev ox9_94.rd ?_)
        refine l_q rfl (q_lss false rfl (((At.hit z94 rfl).ne rfl).ne rfl).ev (At.hit z94.put.put rfl).ev (decide_eq_false (by omega)) ?_)
        refine l_end ?_
        refine e_fresh z94.put.put.put.put ?_
        intro a95 z95 m95
        have s8_95 := m95 _ _ ((((s8_94.ne rfl).ne rfl).ne rfl).ne rfl)
        have s9_95 := m95 _ _ ((((s9_94.ne rfl).ne rfl).ne rfl).ne rfl)
        have s10_95 := m95 _ _ ((((s10_94.ne rfl).ne rfl).ne rfl).ne rfl)
        have s17_95 := m95 _ _ ((((s17_94.ne rfl).ne rfl).ne rfl).ne rfl)
        have s18_95 := m95 _ _ ((((s18_94.ne rfl).ne rfl).ne rfl).ne rfl)
        have s96_95 := m95 _ _ (At.hit z94.put.put.put rfl)
        clear m95
        refine e_then ?_
        refine c_false s96_95 ?_
        refine wp_exit ?_
        refine x_then ?_
        refine x_then ?_
        refine in_exit ?_
        refine e_in ?_
        refine e_then ?_
        refine c_region ?_
        refine l_q rfl (q_move _ _ rfl s17_95.ev ?_)
        refine l_q rfl (q_add (((k + 1 : Nat) : Int)) rfl (At.hit z95 rfl).ev rfl (i64_is (by omega) (by omega) (by omega)) ?_)
        refine l_q rfl (q_assign _ _ rfl (At.hit z95.put rfl).ev ?_)
        refine l_end ?_
        refine e_fresh z95.put.put.put ?_
        intro a96 z96 m96
        have s8_96 := m96 _ _ (((s8_95.ne rfl).ne rfl).ne rfl)
        have s9_96 := m96 _ _ (((s9_95.ne rfl).ne rfl).ne rfl)
        have s10_96 := m96 _ _ (((s10_95.ne rfl).ne rfl).ne rfl)
        have s17_96 := m96 _ _ (At.hit z95.put.put rfl)
        clear m96
        exact ⟨z96, s8_96, s9_96, s10_96, s17_96, kg26_6_94, ox9_94, low94⟩
    · intro a97 w97 h
      obtain ⟨z97, s8_97, s9_97, s10_97, s17_97, kg26_6_97, ox9_97, low97⟩ := h
      clear kg26_6_77 low77 s10_80 s17_80 s8_80 s9_80 z80
      refine c_seq ?_
      refine c_seq ?_
      refine c_region ?_
      refine l_q rfl (q_move _ _ rfl s17_97.ev ?_)
      refine l_q rfl (q_move _ _ rfl (s9_97.ne rfl).ev ?_)
      refine l_q rfl (q_lenF rfl rfl Try.underlying28 (At.hit z97.put rfl).ev ox9_97.rd ?_)
      refine l_q rfl (q_lss false rfl (((At.hit z97 rfl).ne rfl).ne rfl).ev (At.hit z97.put.put rfl).ev (decide_eq_false (by omega)) ?_)
      refine l_end ?_
      refine e_fresh z97.put.put.put.put ?_
      intro a98 z98 m98
      have s8_98 := m98 _ _ ((((s8_97.ne rfl).ne rfl).ne rfl).ne rfl)
      have s9_98 := m98 _ _ ((((s9_97.ne rfl).ne rfl).ne rfl).ne rfl)
      have s10_98 := m98 _ _ ((((s10_97.ne rfl).ne rfl).ne rfl).ne rfl)
      have s17_98 := m98 _ _ ((((s17_97.ne rfl).ne rfl).ne rfl).ne rfl)
      have s90_98 := m98 _ _ (At.hit z97.put.put.put rfl)
      clear m98
      refine e_then ?_
      refine c_false s90_98 ?_
      refine wp_exit ?_
      refine x_then ?_
      refine x_then ?_
      refine in_exit ?_
      refine e_then ?_
      refine c_seq ?_
      replace kg26_6_97 : MapIs w97 g26_6 (mapB (keysS lb lo lt)) := kg26_6_97
      refine c_region ?_
      refine l_q rfl (q_assign _ _ rfl rfl ?_)
      refine l_end ?_
      refine e_fresh z98.put ?_
      intro a99 z99 m99
      have s8_99 := m99 _ _ (s8_98.ne rfl)
      have s9_99 := m99 _ _ (s9_98.ne rfl)
      have s10_99 := m99 _ _ (s10_98.ne rfl)
      have s19_99 := m99 _ _ (At.hit z98 rfl)
      clear m99
      refine e_then ?_
      refine c_seq ?_
      refine c_seq ?_
      refine c_region ?_
      refine l_q rfl (q_assign _ _ rfl rfl ?_)
      refine l_end ?_
      refine e_fresh z99.put ?_
      intro a100 z100 m100
      have s8_100 := m100 _ _ (s8_99.ne rfl)
      have s9_100 := m100 _ _ (s9_99.ne rfl)
      have s10_100 := m100 _ _ (s10_99.ne rfl)
      have s19_100 := m100 _ _ (s19_99.ne rfl)
      have s20_100 := m100 _ _ (At.hit z99 rfl)
      clear m100
      refine e_then ?_
      refine wp_block ?_
      refine c_loop ((pathsD lb lo lt).length) (fun k a w => ∃ v19 : Value, Fr 137 a ∧ At a 8 (v3) ∧ At a 9 (v9_77) ∧ At a 10 (.map (some g26_6)) ∧ At a 19 (v19) ∧ At a 20 (.int .i64 ((k : Nat) : Int)) ∧ MapIs w g26_6 (mapB (keysS lb lo lt)) ∧ OwnF w w3.heap.size 9 1 v19 (wantR (keysS lb lo lt) ((pathsD lb lo lt).take k)).length (((wantR (keysS lb lo lt) ((pathsD lb lo lt).take k)).map encS).flatten) ∧ OwnF w w3.heap.size 52 3 v9_77 (outS lb lo lt).length (((outS lb lo lt).map encR).flatten) ∧ Low w3 w) ?_ ?_ ?_
      · exact ⟨.slice none 0 0, z100, s8_100, s9_100, s10_100, s19_100, s20_100, kg26_6_97, (OwnF.nil _ _ _ _), ox9_97, low97⟩
      · intro k a101 w101 hk101 h
        obtain ⟨v19_101, z101, s8_101, s9_101, s10_101, s19_101, s20_101, kg26_6_101, ox19_101, ox9_101, low101⟩ := h
        clear kg26_6_97 low97 s10_100 s19_100 s20_100 s8_100 s9_100 z100
        have hwl := want_len (keysS lb lo lt) (pathsD lb lo lt) k 300000 (by omega)
        refine c_seq ?_
        refine c_seq ?_
        refine c_region ?_
        refine l_q rfl (q_move _ _ rfl s20_101.ev ?_)
        refine l_q rfl (q_move _ _ rfl (s8_101.ne rfl).ev ?_)
        refine l_q rfl (q_lenF rfl rfl Try.underlying25 (At.hit z101.put rfl).ev (o3.low low101).rd ?_)
        refine l_q rfl (q_lss true rfl (((At.hit z101 rfl).ne rfl).ne rfl).ev (At.hit z101.put.put rfl).ev (decide_eq_true (by omega)) ?_)
        refine l_end ?_
        refine e_fresh z101.put.put.put.put ?_
        intro a102 z102 m102
        have s8_102 := m102 _ _ ((((s8_101.ne rfl).ne rfl).ne rfl).ne rfl)
        have s9_102 := m102 _ _ ((((s9_101.ne rfl).ne rfl).ne rfl).ne rfl)
        have s10_102 := m102 _ _ ((((s10_101.ne rfl).ne rfl).ne rfl).ne rfl)
        have s19_102 := m102 _ _ ((((s19_101.ne rfl).ne rfl).ne rfl).ne rfl)
        have s20_102 := m102 _ _ ((((s20_101.ne rfl).ne rfl).ne rfl).ne rfl)
        have s119_102 := m102 _ _ (At.hit z101.put.put.put rfl)
        clear m102
        refine e_then ?_
        refine c_true s119_102 ?_
        refine wp_skip ?_
        refine e_then ?_
        refine c_seq ?_
        refine wp_block ?_
        refine c_seq ?_
        refine c_region ?_
        refine l_q rfl (q_move _ _ rfl s10_102.ev ?_)
        refine l_q rfl (q_move _ _ rfl (s8_102.ne rfl).ev ?_)
        refine l_q rfl (q_move _ _ rfl ((s20_102.ne rfl).ne rfl).ev ?_)
        refine l_q rfl (q_idxF (j := k) rfl Try.underlying25 sz9 ((At.hit z102.put rfl).ne rfl).ev (o3.low low101).rd (At.hit z102.put.put rfl).ev (by omega) ?_)
        refine l_q rfl (q_ld1 (u := .string ((pathsD lb lo lt).getD k ByteArray.empty)) rfl Try.underlying9 rfl (At.hit z102.put.put.put rfl).ev (fun _ e => by rw [e]; exact (o3.low low101).rd) (by omega) ((flat_at encS_len ByteArray.empty _ k 0 (by omega) (by decide)).trans rfl) ?_)
        refine l_q rfl (q_look (.bool (memB ((pathsD lb lo lt).getD k ByteArray.empty) (keysS lb lo lt))) rfl Try.underlying38 Try.underlying9 zero4 (((((At.hit z102 rfl).ne rfl).ne rfl).ne rfl).ne rfl).ev (At.hit z102.put.put.put.put rfl).ev (fun _ e => by rw [e]; exact kg26_6_101) (look_mapB (keysS lb lo lt) ((pathsD lb lo lt).getD k ByteArray.empty)) ?_)
        refine l_end ?_
        refine e_fresh z102.put.put.put.put.put.put ?_
        intro a103 z103 m103
        have s8_103 := m103 _ _ ((((((s8_102.ne rfl).ne rfl).ne rfl).ne rfl).ne rfl).ne rfl)
        have s9_103 := m103 _ _ ((((((s9_102.ne rfl).ne rfl).ne rfl).ne rfl).ne rfl).ne rfl)
        have s10_103 := m103 _ _ ((((((s10_102.ne rfl).ne rfl).ne rfl).ne rfl).ne rfl).ne rfl)
        have s19_103 := m103 _ _ ((((((s19_102.ne rfl).ne rfl).ne rfl).ne rfl).ne rfl).ne rfl)
        have s20_103 := m103 _ _ ((((((s20_102.ne rfl).ne rfl).ne rfl).ne rfl).ne rfl).ne rfl)
        have s127_103 := m103 _ _ (At.hit z102.put.put.put.put.put rfl)
        clear m103
        refine e_then ?_
        cases hc104 : memB ((pathsD lb lo lt).getD k ByteArray.empty) (keysS lb lo lt) with
        | true =>
          have hs104 := s127_103.same (congrArg Value.bool hc104)
          refine c_true hs104 ?_
          refine c_region ?_
          refine l_q rfl (q_move _ _ rfl s19_103.ev ?_)
          refine l_q rfl (q_move _ _ rfl (s8_103.ne rfl).ev ?_)
          refine l_q rfl (q_move _ _ rfl ((s20_103.ne rfl).ne rfl).ev ?_)
          refine l_q rfl (q_idxF (j := k) rfl Try.underlying25 sz9 ((At.hit z103.put rfl).ne rfl).ev (o3.low low101).rd (At.hit z103.put.put rfl).ev (by omega) ?_)
          refine l_q rfl (q_ld1 (u := .string ((pathsD lb lo lt).getD k ByteArray.empty)) rfl Try.underlying9 rfl (At.hit z103.put.put.put rfl).ev (fun _ e => by rw [e]; exact (o3.low low101).rd) (by omega) ((flat_at encS_len ByteArray.empty _ k 0 (by omega) (by decide)).trans rfl) ?_)
          refine l_buildF (vs := [.string ((pathsD lb lo lt).getD k ByteArray.empty)]) rfl rfl Try.underlying25 rec9 (At.hit z103.put.put.put.put rfl).ev rfl rfl (by decide) (by decide) ?_
          intro g133_105 w105 hg105 k105 h105
          have onx19_g133_105 : ∀ k, Value.ownBlock v19_101 = some k → k < g133_105 := fun k hk => Nat.lt_of_lt_of_le (OwnF.own_lt ox19_101 hk) hg105
          have onb3_g133_105 : ∀ k, Value.ownBlock v3 = some k → k < g133_105 := fun k hk => Nat.lt_of_lt_of_le (OwnF.own_lt (o3.low low101) hk) hg105
          have lt_g26_6_g133_105 := Nat.lt_of_lt_of_le kg26_6_101.lt hg105
          have geg133_105 := Nat.le_trans low101.ge hg105
          have kg26_6_105 := kg26_6_101.low h105
          have ox19_105 := ox19_101.low h105
          have ox9_105 := ox9_101.low h105
          have ob3_105 := (o3.low low101).low h105
          refine l_appF (B := w3.heap.size) rfl rfl Try.underlying25 rec9 ((((((At.hit z103 rfl).ne rfl).ne rfl).ne rfl).ne rfl).ne rfl).ev (At.hit z103.put.put.put.put.put rfl).ev k105 rfl (by decide) rfl ox19_105 (low101.trans h105).ge (by omega) ?_
          intro v106 w106 o106 gr106
          have kg26_6_106 := kg26_6_105.grw gr106
          have lw106 := (low101.trans h105).grw gr106
          have ox9_106 := ox9_105.grw gr106 rfl
          replace o106 := o106.cast (show _ = ((wantR (keysS lb lo lt) ((pathsD lb lo lt).take k)) ++ [((pathsD lb lo lt).getD k ByteArray.empty)]).length by rw [List.length_append]; rfl) (flat_snoc (enc := encS) (wantR (keysS lb lo lt) ((pathsD lb lo lt).take k)) ((pathsD lb lo lt).getD k ByteArray.empty))
          refine l_q rfl (q_assign _ _ rfl (At.hit z103.put.put.put.put.put.put rfl).ev ?_)
          refine l_end ?_
          refine e_fresh z103.put.put.put.put.put.put.put.put ?_
          intro a107 z107 m107
          have s8_107 := m107 _ _ ((((((((s8_103.ne rfl).ne rfl).ne rfl).ne rfl).ne rfl).ne rfl).ne rfl).ne rfl)
          have s9_107 := m107 _ _ ((((((((s9_103.ne rfl).ne rfl).ne rfl).ne rfl).ne rfl).ne rfl).ne rfl).ne rfl)
          have s10_107 := m107 _ _ ((((((((s10_103.ne rfl).ne rfl).ne rfl).ne rfl).ne rfl).ne rfl).ne rfl).ne rfl)
          have s19_107 := m107 _ _ (At.hit z103.put.put.put.put.put.put.put rfl)
          have s20_107 := m107 _ _ ((((((((s20_103.ne rfl).ne rfl).ne rfl).ne rfl).ne rfl).ne rfl).ne rfl).ne rfl)
          have low107 := lw106
          clear m107
          refine e_in ?_
          refine e_then ?_
          refine c_region ?_
          refine l_q rfl (q_move _ _ rfl s20_107.ev ?_)
          refine l_q rfl (q_add (((k + 1 : Nat) : Int)) rfl (At.hit z107 rfl).ev rfl (i64_is (by omega) (by omega) (by omega)) ?_)
          refine l_q rfl (q_assign _ _ rfl (At.hit z107.put rfl).ev ?_)
          refine l_end ?_
          refine e_fresh z107.put.put.put ?_
          intro a108 z108 m108
          have s8_108 := m108 _ _ (((s8_107.ne rfl).ne rfl).ne rfl)
          have s9_108 := m108 _ _ (((s9_107.ne rfl).ne rfl).ne rfl)
          have s10_108 := m108 _ _ (((s10_107.ne rfl).ne rfl).ne rfl)
          have s19_108 := m108 _ _ (((s19_107.ne rfl).ne rfl).ne rfl)
          have s20_108 := m108 _ _ (At.hit z107.put.put rfl)
          clear m108
          have c109 := OwnF.castL o106 (show (wantR (keysS lb lo lt) ((pathsD lb lo lt).take k)) ++ [((pathsD lb lo lt).getD k ByteArray.empty)] = wantR (keysS lb lo lt) ((pathsD lb lo lt).take (k + 1)) from want_next (by omega) hc104)
          exact ⟨v106, z108, s8_108, s9_108, s10_108, s19_108, s20_108, kg26_6_106, c109, ox9_106, low107⟩
        | false =>
          have hs104 := s127_103.same (congrArg Value.bool hc104)
          refine c_false hs104 ?_
          refine wp_skip ?_
          refine e_in ?_
          refine e_then ?_
          refine c_region ?_
          refine l_q rfl (q_move _ _ rfl s20_103.ev ?_)
          refine l_q rfl (q_add (((k + 1 : Nat) : Int)) rfl (At.hit z103 rfl).ev rfl (i64_is (by omega) (by omega) (by omega)) ?_)
          refine l_q rfl (q_assign _ _ rfl (At.hit z103.put rfl).ev ?_)
          refine l_end ?_
          refine e_fresh z103.put.put.put ?_
          intro a110 z110 m110
          have s8_110 := m110 _ _ (((s8_103.ne rfl).ne rfl).ne rfl)
          have s9_110 := m110 _ _ (((s9_103.ne rfl).ne rfl).ne rfl)
          have s10_110 := m110 _ _ (((s10_103.ne rfl).ne rfl).ne rfl)
          have s19_110 := m110 _ _ (((s19_103.ne rfl).ne rfl).ne rfl)
          have s20_110 := m110 _ _ (At.hit z103.put.put rfl)
          clear m110
          have c111 := OwnF.castL ox19_101 (show wantR (keysS lb lo lt) ((pathsD lb lo lt).take k) = wantR (keysS lb lo lt) ((pathsD lb lo lt).take (k + 1)) from want_skip (by omega) hc104)
          exact ⟨v19_101, z110, s8_110, s9_110, s10_110, s19_110, s20_110, kg26_6_101, c111, ox9_101, low101⟩
      · intro a112 w112 h
        obtain ⟨v19_112, z112, s8_112, s9_112, s10_112, s19_112, s20_112, kg26_6_112, ox19_112, ox9_112, low112⟩ := h
        clear kg26_6_97 low97 s10_100 s19_100 s20_100 s8_100 s9_100 z100
        have hwl := want_len (keysS lb lo lt) (pathsD lb lo lt) (pathsD lb lo lt).length 300000 (by omega)
        refine c_seq ?_
        refine c_seq ?_
        refine c_region ?_
        refine l_q rfl (q_move _ _ rfl s20_112.ev ?_)
        refine l_q rfl (q_move _ _ rfl (s8_112.ne rfl).ev ?_)
        refine l_q rfl (q_lenF rfl rfl Try.underlying25 (At.hit z112.put rfl).ev (o3.low low112).rd ?_)
        refine l_q rfl (q_lss false rfl (((At.hit z112 rfl).ne rfl).ne rfl).ev (At.hit z112.put.put rfl).ev (decide_eq_false (by omega)) ?_)
        refine l_end ?_
        refine e_fresh z112.put.put.put.put ?_
        intro a113 z113 m113
        have s8_113 := m113 _ _ ((((s8_112.ne rfl).ne rfl).ne rfl).ne rfl)
        have s9_113 := m113 _ _ ((((s9_112.ne rfl).ne rfl).ne rfl).ne rfl)
        have s10_113 := m113 _ _ ((((s10_112.ne rfl).ne rfl).ne rfl).ne rfl)
        have s19_113 := m113 _ _ ((((s19_112.ne rfl).ne rfl).ne rfl).ne rfl)
        have s20_113 := m113 _ _ ((((s20_112.ne rfl).ne rfl).ne rfl).ne rfl)
        have s119_113 := m113 _ _ (At.hit z112.put.put.put rfl)
        clear m113
        refine e_then ?_
        refine c_false s119_113 ?_
        refine wp_exit ?_
        refine x_then ?_
        refine x_then ?_
        refine in_exit ?_
        refine e_then ?_
        refine c_seq ?_
        refine c_region ?_
        refine l_q rfl (q_move _ _ rfl s9_113.ev ?_)
        refine l_q rfl (q_move _ _ rfl (s19_113.ne rfl).ev ?_)
        refine l_q rfl (q_assign _ _ rfl ((At.hit z113 rfl).ne rfl).ev ?_)
        refine l_q rfl (q_assign _ _ rfl ((At.hit z113.put rfl).ne rfl).ev ?_)
        refine l_end ?_
        refine e_fresh z113.put.put.put.put ?_
        intro a114 z114 m114
        have s6_114 := m114 _ _ ((At.hit z113.put.put rfl).ne rfl)
        have s7_114 := m114 _ _ (At.hit z113.put.put.put rfl)
        clear m114
        refine e_then ?_
        refine wp_ret ?_
        refine r_two rfl z114.defers s6_114 s7_114 ?_
        rw [wantS_end] at ox19_112
        exact ⟨_, rfl, _, _, rfl, ox9_112.base low4.ge, ox19_112.base low4.ge, (low4.trans low112)⟩
end Go.Proofs.Ytenbgnlkkmnmhaa.Q
end
/-! M6 -/
section
namespace Go.Proofs.Ytenbgnlkkmnmhaa.Q
open Go.RowKit
set_option linter.unusedSimpArgs false
theorem toR_inj {x y : LfL} (h : toR x = toR y) : x = y := by
  cases x; cases y
  unfold toR at h
  injection h with h0 h1 h2
  subst h0; subst h1; subst h2
  rfl
theorem toR_iff (x y : LfL) : toR x = toR y ↔ x = y := ⟨toR_inj, fun h => h ▸ rfl⟩
theorem toR_zero (x : LfL) : toR x = zR ↔ x = zL := toR_iff x zL
def RiseL (l : List LfL) : Prop := l.Pairwise fun x y => lessB x.f0 y.f0 = true
theorem fold_none (l : List LfL) (p : ByteArray) (r : LfL) (h : ∀ x ∈ l, ¬ x.f0 = p) : l.foldl (fun r x => if x.f0 = p then x else r) r = r := by
  induction l with
  | nil => rfl
  | cons x l ih =>
    rw [List.foldl_cons, if_neg (h x List.mem_cons_self)]
    exact ih fun y hy => h y (List.mem_cons_of_mem _ hy)
theorem find_same : ∀ (l : List LfL) (p : ByteArray), RiseL l → toR (findL l p) = findR (l.map toR) p
  | [], p, _ => rfl
  | x :: l, p, h => by
    have h' := List.pairwise_cons.1 h
    have ih := find_same l p h'.2
    unfold findL findR idxR at *
    rw [List.foldl_cons, List.map_cons, List.findIdx_cons]
    by_cases hx : x.f0 = p
    · rw [if_pos hx, fold_none l p x (fun y hy e => lessB_ne (h'.1 y hy) (hx.trans e.symm)), decide_eq_true (show (toR x).f0 = p from hx)]
      rfl
    · rw [if_neg hx, decide_eq_false (show ¬ (toR x).f0 = p from hx)]
      exact ih
section
variable {b o t : List LfL}
theorem paths_same : pathsT b o t = pathsD (b.map toR) (o.map toR) (t.map toR) := by
  unfold pathsT pathsD pathsR
  rw [comp_sort]
  congr 1
  simp only [List.flatten_cons, List.flatten_nil, List.append_nil, List.map_append, List.map_map]
  rfl
theorem cell_same (hb : RiseL b) (ho : RiseL o) (ht : RiseL t) (p : ByteArray) : toR (cellT b o t p) = cellR (b.map toR) (o.map toR) (t.map toR) p := by
  unfold cellT cellR
  rw [← find_same b p hb, ← find_same o p ho, ← find_same t p ht]
  simp only [toR_iff]
  by_cases h1 : findL o p = findL t p
  · rw [if_pos (.inl h1), if_neg (fun k => k.1 h1)]
  · by_cases h2 : findL t p = findL b p
    · rw [if_pos (.inr h2), if_neg (fun k => h1 (k.2.trans h2.symm))]
    · rw [if_neg (fun k => k.elim h1 h2)]
      by_cases h3 : findL o p = findL b p
      · rw [if_pos h3, if_pos ⟨h1, h3⟩]
      · rw [if_neg h3, if_neg (fun k => h3 k.2)]
theorem clash_same (hb : RiseL b) (ho : RiseL o) (ht : RiseL t) (p : ByteArray) : clashT b o t p = clashR (b.map toR) (o.map toR) (t.map toR) p := by
  unfold clashT clashR
  rw [← find_same b p hb, ← find_same o p ho, ← find_same t p ht]
  simp only [toR_iff]
  exact decide_eq_decide.2 ⟨fun k => ⟨k.1, k.2.2, k.2.1⟩, fun k => ⟨k.1, k.2.2, k.2.1⟩⟩
theorem outT_same (hb : RiseL b) (ho : RiseL o) (ht : RiseL t) (ps : List ByteArray) : (outT b o t ps).map toR = outR (b.map toR) (o.map toR) (t.map toR) ps := by
  unfold outT outR
  induction ps with
  | nil => rfl
  | cons p ps ih =>
    rw [List.map_cons, List.map_cons, List.filter_cons, List.filter_cons, ← cell_same hb ho ht]
    simp only [toR_zero]
    split
    · rw [List.map_cons, ih]
    · exact ih
theorem out_same (hb : RiseL b) (ho : RiseL o) (ht : RiseL t) : (outF b o t).map toR = outS (b.map toR) (o.map toR) (t.map toR) := by
  unfold outF outS
  rw [outT_same hb ho ht, paths_same]
theorem bad_same (hb : RiseL b) (ho : RiseL o) (ht : RiseL t) : badF b o t = badS (b.map toR) (o.map toR) (t.map toR) := by
  unfold badF badS badT badR
  rw [paths_same, show clashT b o t = clashR (b.map toR) (o.map toR) (t.map toR) from funext fun p => clash_same hb ho ht p]
end
theorem bytes_take (s : ByteArray) (n : Nat) : (s.extract 0 n).data.toList = s.data.toList.take n := by
  simp [ByteArray.data_extract]
theorem bytes_len (s : ByteArray) : s.data.toList.length = s.size := by simp
theorem prefB_iff (s p : ByteArray) : prefB s p = true ↔ p.data.toList <+: s.data.toList := by
  unfold prefB
  rw [List.prefix_iff_eq_take, bytes_len, ← bytes_take]
  split
  · rw [beqS, decide_eq_true_iff]
    exact ⟨fun h => by rw [h], fun h => (ba_ext h).symm⟩
  · rename_i h
    constructor
    · intro h'; cases h'
    · intro h'
      have := congrArg List.length h'
      rw [bytes_take, List.length_take, bytes_len, bytes_len] at this
      omega
theorem within_iff (s d : ByteArray) : within s d = true ↔ (d.data.toList ++ [47]) <+: s.data.toList := by
  unfold within
  rw [List.prefix_iff_eq_take, List.length_append, bytes_len]
  split
  · rename_i h
    have hd : d.size < s.data.toList.length := by rw [bytes_len]; exact h
    have e : s.data.toList.take (d.size + [(47 : UInt8)].length) = s.data.toList.take d.size ++ [s.data.toList[d.size]] := by
      rw [List.length_singleton, List.take_succ_eq_append_getElem hd]
    have e2 : s.data.toList[d.size] = s[d.size] := by simp; rfl
    rw [e, e2, Bool.and_eq_true, decide_eq_true_iff, decide_eq_true_iff, ← bytes_take]
    constructor
    · rintro ⟨h1, h2⟩
      rw [h1]
      congr 2
      have : (s[d.size]).toNat = 47 := by omega
      exact UInt8.toNat_inj.1 this.symm
    · intro h1
      obtain ⟨h2, h3⟩ := List.append_inj' h1 rfl
      refine ⟨(ba_ext h2).symm, ?_⟩
      injection h3 with h3 _
      rw [← h3]
      rfl
  · rename_i h
    constructor
    · intro h'; cases h'
    · intro h'
      have := congrArg List.length h'
      rw [List.length_append, List.length_take, bytes_len, bytes_len, List.length_singleton] at this
      omega
theorem pref_slash (y x : ByteArray) : prefB y (x ++ slash) = within y x := by
  rw [Bool.eq_iff_iff, prefB_iff, within_iff]
  have : (x ++ slash).data.toList = x.data.toList ++ [47] := by
    rw [ByteArray.data_append, Array.toList_append]
    rfl
  rw [this]
theorem list_lt_more : ∀ (l : List UInt8) (c : UInt8) (r : List UInt8), l < l ++ c :: r
  | [], c, r => List.nil_lt_cons c r
  | x :: l, c, r => by
    rw [List.cons_append, List.cons_lt_cons_iff]
    exact .inr ⟨rfl, list_lt_more l c r⟩
theorem within_less {y x : ByteArray} (h : within y x = true) : lessB x y = true := by
  obtain ⟨r, hr⟩ := (within_iff y x).1 h
  rw [lessB_iff, ← hr, List.append_assoc]
  exact list_lt_more _ _ _
theorem out_sub (b o t : List LfL) : ∀ ps : List ByteArray, ((outT b o t ps).map (·.f0)).Sublist ps
  | [] => .slnil
  | p :: ps => by
    have ih := out_sub b o t ps
    unfold outT at *
    rw [List.map_cons, List.filter_cons]
    split
    · rename_i h
      rcases cellT_mem b o t p with h' | h'
      · exact absurd h' (of_decide_eq_true h)
      · rw [List.map_cons, h'.2]
        exact ih.cons_cons p
    · exact ih.cons p
theorem pathsT_rise (b o t : List LfL) : Rise (pathsT b o t) := compB_rise _ (sortB_sorted _)
theorem outF_rise (b o t : List LfL) : RiseL (outF b o t) := by
  have h := List.Pairwise.sublist (out_sub b o t (pathsT b o t)) (pathsT_rise b o t)
  exact List.pairwise_map.1 h
theorem getD_toR (l : List LfL) (i : Nat) : ((l.map toR).getD i zR).f0 = (l.getD i zL).f0 := by
  rw [List.getD_eq_getElem?_getD, List.getD_eq_getElem?_getD, List.getElem?_map]
  cases l[i]? <;> rfl
theorem under_iff {l : List LfL} (h : RiseL l) {k : Nat} (hk : k < l.length) : underB l k = true ↔ ∃ m, m < l.length ∧ within (l.getD m zL).f0 (l.getD k zL).f0 = true := by
  unfold underB
  rw [List.any_eq_true]
  constructor
  · rintro ⟨y, hy, hp⟩
    obtain ⟨i, hi, rfl⟩ := List.mem_iff_getElem.1 hy
    rw [List.length_drop] at hi
    refine ⟨k + i, by omega, ?_⟩
    rw [List.getElem_drop, pref_slash] at hp
    rw [List.getD_eq_getElem?_getD, List.getElem?_eq_getElem (show k + i < l.length by omega)]
    exact hp
  · rintro ⟨m, hm, hw⟩
    have hlt := within_less hw
    have g : ∀ i, (hi : i < l.length) → l.getD i zL = l[i] := fun i hi => by rw [List.getD_eq_getElem?_getD, List.getElem?_eq_getElem hi]; rfl
    rw [g m hm, g k hk] at hlt hw
    have hkm : k ≤ m := by
      rcases Nat.lt_or_ge m k with h' | h'
      · have := lessB_asymm (List.pairwise_iff_getElem.1 h m k hm hk h')
        rw [hlt] at this
        cases this
      · exact h'
    refine ⟨l[m], ?_, by rw [pref_slash, g k hk]; exact hw⟩
    rw [List.mem_iff_getElem]
    exact ⟨m - k, by rw [List.length_drop]; omega, by rw [List.getElem_drop]; congr 1; omega⟩
theorem dirs_mem (a : List ByteArray) (l : List LfL) (x : ByteArray) : ∀ n, x ∈ dirsF a l n ↔ x ∈ a ∨ ∃ k, k < n ∧ underB l k = true ∧ x = (l.getD k zL).f0
  | 0 => by simp [dirsF]
  | n + 1 => by
    have ih := dirs_mem a l x n
    unfold dirsF
    split
    · rename_i h
      rw [List.mem_append, List.mem_singleton, ih]
      constructor
      · rintro ((h1 | ⟨k, hk, h1, h2⟩) | h1)
        · exact .inl h1
        · exact .inr ⟨k, by omega, h1, h2⟩
        · exact .inr ⟨n, by omega, h, h1⟩
      · rintro (h1 | ⟨k, hk, h1, h2⟩)
        · exact .inl (.inl h1)
        · rcases Nat.lt_or_ge k n with h3 | h3
          · exact .inl (.inr ⟨k, h3, h1, h2⟩)
          · obtain rfl : k = n := by omega
            exact .inr h2
    · rename_i h
      rw [ih]
      constructor
      · rintro (h1 | ⟨k, hk, h1, h2⟩)
        · exact .inl h1
        · exact .inr ⟨k, by omega, h1, h2⟩
      · rintro (h1 | ⟨k, hk, h1, h2⟩)
        · exact .inl h1
        · rcases Nat.lt_or_ge k n with h3 | h3
          · exact .inr ⟨k, h3, h1, h2⟩
          · obtain rfl : k = n := by omega
            exact absurd h1 h
theorem inR_mem (a : List ByteArray) (l : List LfR) (i : Nat) (x : ByteArray) : ∀ n, x ∈ inR a l i n ↔ x ∈ a ∨ ∃ m, m < n ∧ within (l.getD m zR).f0 (l.getD i zR).f0 = true ∧ x = (l.getD i zR).f0
  | 0 => by simp [inR]
  | n + 1 => by
    have ih := inR_mem a l i x n
    unfold inR
    split
    · rename_i h
      rw [List.mem_append, List.mem_singleton, ih]
      constructor
      · rintro ((h1 | ⟨k, hk, h1, h2⟩) | h1)
        · exact .inl h1
        · exact .inr ⟨k, by omega, h1, h2⟩
        · exact .inr ⟨n, by omega, h, h1⟩
      · rintro (h1 | ⟨k, hk, h1, h2⟩)
        · exact .inl (.inl h1)
        · exact .inr h2
    · rename_i h
      rw [ih]
      constructor
      · rintro (h1 | ⟨k, hk, h1, h2⟩)
        · exact .inl h1
        · exact .inr ⟨k, by omega, h1, h2⟩
      · rintro (h1 | ⟨k, hk, h1, h2⟩)
        · exact .inl h1
        · rcases Nat.lt_or_ge k n with h3 | h3
          · exact .inr ⟨k, h3, h1, h2⟩
          · obtain rfl : k = n := by omega
            exact absurd h1 h
theorem dirR_mem (a : List ByteArray) (l : List LfR) (x : ByteArray) : ∀ n, x ∈ dirR a l n ↔ x ∈ a ∨ ∃ k, k < n ∧ ∃ m, m < l.length ∧ within (l.getD m zR).f0 (l.getD k zR).f0 = true ∧ x = (l.getD k zR).f0
  | 0 => by simp [dirR]
  | n + 1 => by
    have ih := dirR_mem a l x n
    unfold dirR
    rw [inR_mem, ih]
    constructor
    · rintro ((h1 | ⟨k, hk, m, hm, h1, h2⟩) | ⟨m, hm, h1, h2⟩)
      · exact .inl h1
      · exact .inr ⟨k, by omega, m, hm, h1, h2⟩
      · exact .inr ⟨n, by omega, m, hm, h1, h2⟩
    · rintro (h1 | ⟨k, hk, m, hm, h1, h2⟩)
      · exact .inl (.inl h1)
      · rcases Nat.lt_or_ge k n with h3 | h3
        · exact .inl (.inr ⟨k, h3, m, hm, h1, h2⟩)
        · obtain rfl : k = n := by omega
          exact .inr ⟨m, hm, h1, h2⟩
theorem badA_rise (b o t : List LfL) : Rise (badA b o t) := compB_rise _ (sortB_sorted _)
theorem badA_mem (b o t : List LfL) (x : ByteArray) : x ∈ badA b o t ↔ x ∈ badF b o t ∨ ∃ k, k < (outF b o t).length ∧ underB (outF b o t) k = true ∧ x = ((outF b o t).getD k zL).f0 := by
  unfold badA
  rw [compB_mem, sortB_mem]
  exact dirs_mem _ _ _ _
/-- the conflicts are the document's -/
theorem want_same {b o t : List LfL} (hb : RiseL b) (ho : RiseL o) (ht : RiseL t) : badA b o t = wantS (b.map toR) (o.map toR) (t.map toR) := by
  have hps : pathsD (b.map toR) (o.map toR) (t.map toR) = pathsT b o t := paths_same.symm
  refine rise_ext (badA_rise b o t) ?_ fun x => ?_
  · unfold wantS wantR
    rw [hps]
    exact (pathsT_rise b o t).filter _
  · unfold wantS wantR keysS
    rw [badA_mem, List.mem_filter, memB_iff, dirR_mem, hps, ← bad_same hb ho ht, ← out_same hb ho ht]
    simp only [getD_toR, List.length_map]
    constructor
    · rintro (h | ⟨k, hk, hu, rfl⟩)
      · exact ⟨(List.mem_filter.1 h).1, .inl h⟩
      · obtain ⟨m, hm, hw⟩ := (under_iff (outF_rise b o t) hk).1 hu
        refine ⟨?_, .inr ⟨k, hk, m, hm, hw, rfl⟩⟩
        have := out_mem (x := (outF b o t)[k]) (List.getElem_mem hk)
        rw [List.getD_eq_getElem?_getD, List.getElem?_eq_getElem hk]
        exact this.2.1
    · rintro ⟨_, h | ⟨k, hk, m, hm, hw, rfl⟩⟩
      · exact .inl h
      · exact .inr ⟨k, hk, (under_iff (outF_rise b o t) hk).2 ⟨m, hm, hw⟩, rfl⟩
theorem badA_len (b o t : List LfL) : (badA b o t).length ≤ (badF b o t).length + (outF b o t).length := by
  unfold badA compB
  rw [List.length_map]
  refine Nat.le_trans (compact_len _ _) ?_
  rw [sortB_len]
  exact dirs_len _ _ _
theorem okRow {l : List LfL} (h : rowOk l = true) : RiseL l ∧ shortL l ∧ l.length ≤ 60 ∧ ∀ x ∈ l, ¬ x.f0 = ⟨#[]⟩ := by
  obtain ⟨h60, hf⟩ := few_all (rowOk_few h)
  have ho := rowOk_ord h
  have hat : ∀ i, i < l.length → ordAt l i := fun i hi => ordN_round (by omega)
  have g : ∀ i, (hi : i < l.length) → l.getD i zL = l[i] := fun i hi => by rw [List.getD_eq_getElem?_getD, List.getElem?_eq_getElem hi]; rfl
  refine ⟨?_, ?_, h60, ?_⟩
  · have key : ∀ j i, (hij : i < j) → (hj : j < l.length) → lessB (l[i]'(by omega)).f0 l[j].f0 = true := by
      intro j
      induction j with
      | zero => intro i hij; omega
      | succ j ih =>
        intro i hij hj
        have h1 := (hat (j + 1) hj).2 (by omega)
        rw [Nat.add_sub_cancel, g j (by omega), g (j + 1) hj] at h1
        by_cases hi : i = j
        · subst hi; exact h1
        · exact lessB_trans (ih i (by omega) (by omega)) h1
    exact List.pairwise_iff_getElem.2 fun i j hi hj hij => key j i hij hj
  · intro x hx
    obtain ⟨i, hi, rfl⟩ := List.mem_iff_getElem.1 hx
    have := (hf i hi).2.1
    rw [g i hi] at this
    omega
  · intro x hx
    obtain ⟨i, hi, rfl⟩ := List.mem_iff_getElem.1 hx
    have := (hat i hi).1
    rw [g i hi] at this
    exact this
theorem may3 {b o t : List LfL} (h : mayB [b, o, t] = true) : rowOk b = true ∧ rowOk o = true ∧ rowOk t = true := by
  have h := of_decide_eq_true h
  have h3 : okN [b, o, t] = 3 := h
  exact ⟨okN_round (L := [b, o, t]) (i := 0) (by omega), okN_round (L := [b, o, t]) (i := 1) (by omega), okN_round (L := [b, o, t]) (i := 2) (by omega)⟩
end Go.Proofs.Ytenbgnlkkmnmhaa.Q
end
/-! M7 -/
section
namespace Go.Proofs.Ytenbgnlkkmnmhaa.Q
open Go.RowKit
set_option linter.unusedSimpArgs false
def leafA : LfL := ⟨⟨#[97]⟩, 1, ⟨#[49]⟩⟩
def leafB : LfL := ⟨⟨#[98]⟩, 1, ⟨#[49]⟩⟩
def leafC : LfL := ⟨⟨#[97]⟩, 1, ⟨#[50]⟩⟩
theorem aw1 : outF [leafA] [leafA, leafB] [] = [leafB] := by
  unfold outF pathsT
  rw [comp_sort]
  kernel_rfl
theorem aw2 : badA [leafA] [leafA, leafB] [] = [] := by
  unfold badA badD badF outF pathsT
  simp only [comp_sort]
  kernel_rfl
theorem aw3 : badA [leafA] [] [leafC] = [⟨#[97]⟩] := by
  unfold badA badD badF outF pathsT
  simp only [comp_sort]
  kernel_rfl
theorem aw4 : (badA [] [] [leafA]).isEmpty = true := by
  unfold badA badD badF outF pathsT
  simp only [comp_sort]
  kernel_rfl
theorem aw5 : (badA [] [leafC] [leafA]).isEmpty = false := by
  unfold badA badD badF outF pathsT
  simp only [comp_sort]
  kernel_rfl
theorem shortA : shortL [leafA] := fun x hx => by rw [List.mem_singleton.1 hx]; decide
theorem shortC : shortL [leafC] := fun x hx => by rw [List.mem_singleton.1 hx]; decide
theorem shortN : shortL [] := fun x hx => by cases hx
theorem shortAB : shortL [leafA, leafB] := fun x hx => by
  rcases List.mem_cons.1 hx with h | h
  · rw [h]; decide
  · rw [List.mem_singleton.1 h]; decide
/-- a row that was laid as_ a literal -/
theorem rdF_rec {w : World} {g n sz : Nat} {vs : List Value} {E : TypeId} (h : w.heap[g]? = some (.cells vs.toArray E)) (hn : vs.length = n * sz) : RdF w sz (.slice (some ⟨g, 0, none⟩) n n) n vs :=
  ⟨hn, _, n, rfl, Nat.le_refl _, fun _ => ⟨g, 0, rfl, heap_lt h, fun j u hu => by
    rw [Nat.zero_add]
    rw [cells_at h j]
    simpa using hu⟩⟩
def RowT (l : List LfL) : Value → World → Prop := fun v w => RdF w 3 v l.length (l.map encL).flatten
theorem StL_row (l : List LfL) : StL (RowT l) := fun _ _ _ h k => h.low k
end Go.Proofs.Ytenbgnlkkmnmhaa.Q
end
