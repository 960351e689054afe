/- Merged out of this session's texts by a program (wip/gen/merge.py): declarations that this claim doesn't name are left out. -/
import Derived.Test.YtenbgnlkkmnmhaaMMergeKeeps2
set_option linter.unusedVariables false
set_option linter.unusedSimpArgs false
/-! E4 -/
section
namespace Go.Proofs.Ytenbgnlkkmnmhaa.Q
open Go.RowKit Go.Proofs.Ytenbgnlkkmnmhaa.P
open Go.Proofs.YtenbgnlkkmnmhaaW.PrintWords (bytesOf bytesOf_length)
set_option linter.unusedVariables false
set_option linter.unusedSimpArgs false
set_option maxRecDepth 100000
set_option maxHeartbeats 4000000
attribute [local irreducible] wpList wpQuiet qch Code.wp Oper.quiet Act.put At Region.wanted yielded
theorem sort_c {B : Nat} (v : Value) (l : List ByteArray) (w : World) (hln : l.length ≤ 1000000) (hv : OwnF w B 9 1 v l.length (l.map encS).flatten) : Calls Try.prog 17 #[v] w fun e w' => ∃ x, e = .returned x ∧ x = .tuple #[] ∧ OwnF w' B 9 1 v (sortB l).length ((sortB l).map encS).flatten ∧ GrW B 9 v w w' := (sort_calls v l w hln hv).mono fun _ _ ⟨e, o, g⟩ => ⟨_, e, rfl, o, g⟩
theorem rec22 : recB Try.prog 22 1 = true := by kernel_rfl
theorem rec28 : recB Try.prog 28 1 = true := by kernel_rfl
theorem Three.calls (vb vo vt : Value) (lb lo lt : List LfL) (hlb : lb.length ≤ 100000) (hlo : lo.length ≤ 100000) (hlt : lt.length ≤ 100000) (ho : shortL lo) (ht : shortL lt) (w0 : World) (hvb : RdF w0 3 vb lb.length (lb.map encL).flatten) (hvo : RdF w0 3 vo lo.length (lo.map encL).flatten) (hvt : RdF w0 3 vt lt.length (lt.map encL).flatten) : Calls Try.prog 7 #[vb, vo, vt] w0 fun e w' => ∃ z, e = .returned z ∧ ∃ x y, z = .tuple #[x, y] ∧ OwnF w' w0.heap.size 37 3 x (outF lb lo lt).length ((outF lb lo lt).map encL).flatten ∧ OwnF w' w0.heap.size 9 1 y (badA lb lo lt).length ((badA lb lo lt).map encS).flatten ∧ Low w0 w' := by
  refine c_fun (R := _) Try.func7 rfl 126 rfl (Nat.le_of_ble_eq_true rfl) ?_
  intro a z hA
  have s0 := hA 0 _ rfl
  have s1 := hA 1 _ rfl
  have s2 := hA 2 _ rfl
  clear hA
  refine c_seq ?_
  refine c_region ?_
  refine l_q rfl (q_assign _ _ rfl rfl ?_)
  refine l_q rfl (q_assign _ _ rfl rfl ?_)
  refine l_end ?_
  refine e_fresh z.put.put ?_
  intro a1 z1 m1
  have s0_1 := m1 _ _ ((s0.ne rfl).ne rfl)
  have s1_1 := m1 _ _ ((s1.ne rfl).ne rfl)
  have s2_1 := m1 _ _ ((s2.ne rfl).ne rfl)
  clear m1
  refine e_then ?_
  refine c_seq ?_
  refine c_region ?_
  refine l_q rfl (q_move _ _ rfl s0_1.ev ?_)
  refine l_call _ rfl rfl rfl Try.func16 rfl (args1 rfl (At.hit z1 rfl).ev) (Rows.calls _ lb (by omega) _ hvb) ?_
  rintro _ w2 ⟨mlb, rfl, hg2, k2, h2⟩
  have gemlb := Nat.le_trans (Low.refl _).ge hg2
  have ovb_2 := hvb.low h2
  have ovo_2 := hvo.low h2
  have ovt_2 := hvt.low h2
  refine l_q rfl (q_move _ _ rfl ((s1_1.ne rfl).ne rfl).ev ?_)
  refine l_call _ rfl rfl rfl Try.func16 rfl (args1 rfl (At.hit z1.put.put rfl).ev) (Rows.calls _ lo (by omega) _ ovo_2) ?_
  rintro _ w3 ⟨mlo, rfl, hg3, k3, h3⟩
  have lt_mlb_mlo := Nat.lt_of_lt_of_le k2.lt hg3
  have gemlo := Nat.le_trans h2.ge hg3
  have kmlb_3 := k2.low h3
  have ovb_3 := ovb_2.low h3
  have ovo_3 := ovo_2.low h3
  have ovt_3 := ovt_2.low h3
  refine l_q rfl (q_move _ _ rfl ((((s2_1.ne rfl).ne rfl).ne rfl).ne rfl).ev ?_)
  refine l_call _ rfl rfl rfl Try.func16 rfl (args1 rfl (At.hit z1.put.put.put.put rfl).ev) (Rows.calls _ lt (by omega) _ ovt_3) ?_
  rintro _ w4 ⟨mlt, rfl, hg4, k4, h4⟩
  have lt_mlb_mlt := Nat.lt_of_lt_of_le kmlb_3.lt hg4
  have lt_mlo_mlt := Nat.lt_of_lt_of_le k3.lt hg4
  have gemlt := Nat.le_trans (h2.trans h3).ge hg4
  have kmlb_4 := kmlb_3.low h4
  have kmlo_4 := k3.low h4
  have ovb_4 := ovb_3.low h4
  have ovo_4 := ovo_3.low h4
  have ovt_4 := ovt_3.low h4
  refine l_q rfl (q_assign _ _ rfl (((((At.hit z1.put rfl).ne rfl).ne rfl).ne rfl).ne rfl).ev ?_)
  refine l_q rfl (q_assign _ _ rfl ((((At.hit z1.put.put.put rfl).ne rfl).ne rfl).ne rfl).ev ?_)
  refine l_fresh z1.put.put.put.put.put.put.put.put ?_
  intro a5 z5 m5
  have s0_5 := m5 _ _ ((((((((s0_1.ne rfl).ne rfl).ne rfl).ne rfl).ne rfl).ne rfl).ne rfl).ne rfl)
  have s1_5 := m5 _ _ ((((((((s1_1.ne rfl).ne rfl).ne rfl).ne rfl).ne rfl).ne rfl).ne rfl).ne rfl)
  have s2_5 := m5 _ _ ((((((((s2_1.ne rfl).ne rfl).ne rfl).ne rfl).ne rfl).ne rfl).ne rfl).ne rfl)
  have s8_5 := m5 _ _ ((At.hit z1.put.put.put.put.put.put rfl).ne rfl)
  have s9_5 := m5 _ _ (At.hit z1.put.put.put.put.put.put.put rfl)
  have s28_5 := m5 _ _ (((At.hit z1.put.put.put.put.put rfl).ne rfl).ne rfl)
  clear m5
  refine l_q rfl (q_assign _ _ rfl s28_5.ev ?_)
  refine l_end ?_
  refine e_fresh z5.put ?_
  intro a6 z6 m6
  have s0_6 := m6 _ _ (s0_5.ne rfl)
  have s1_6 := m6 _ _ (s1_5.ne rfl)
  have s2_6 := m6 _ _ (s2_5.ne rfl)
  have s8_6 := m6 _ _ (s8_5.ne rfl)
  have s9_6 := m6 _ _ (s9_5.ne rfl)
  have s10_6 := m6 _ _ (At.hit z5 rfl)
  have low6 := ((h2.trans h3).trans h4)
  clear m6
  refine e_then ?_
  refine c_seq ?_
  refine c_region ?_
  refine l_q rfl (q_assign _ _ rfl rfl ?_)
  refine l_end ?_
  refine e_fresh z6.put ?_
  intro a7 z7 m7
  have s0_7 := m7 _ _ (s0_6.ne rfl)
  have s1_7 := m7 _ _ (s1_6.ne rfl)
  have s2_7 := m7 _ _ (s2_6.ne rfl)
  have s8_7 := m7 _ _ (s8_6.ne rfl)
  have s9_7 := m7 _ _ (s9_6.ne rfl)
  have s10_7 := m7 _ _ (s10_6.ne rfl)
  have s11_7 := m7 _ _ (At.hit z6 rfl)
  clear m7
  refine e_then ?_
  refine c_seq ?_
  refine c_seq ?_
  refine c_region ?_
  refine l_q rfl (q_move _ _ rfl s0_7.ev ?_)
  refine l_q rfl (q_move _ _ rfl (s1_7.ne rfl).ev ?_)
  refine l_q rfl (q_move _ _ rfl ((s2_7.ne rfl).ne rfl).ev ?_)
  refine l_lit3 rfl rfl Try.underlying44 rec22 (((At.hit z7 rfl).ne rfl).ne rfl).ev ((At.hit z7.put rfl).ne rfl).ev (At.hit z7.put.put rfl).ev (RdF.one ovb_4) (RdF.one ovo_4) (RdF.one ovt_4) ?_
  intro g32_8 w8 hg8 k8 h8
  have lt_mlb_g32_8 := Nat.lt_of_lt_of_le kmlb_4.lt hg8
  have lt_mlo_g32_8 := Nat.lt_of_lt_of_le kmlo_4.lt hg8
  have lt_mlt_g32_8 := Nat.lt_of_lt_of_le k4.lt hg8
  have geg32_8 := Nat.le_trans low6.ge hg8
  have kmlb_8 := kmlb_4.low h8
  have kmlo_8 := kmlo_4.low h8
  have kmlt_8 := k4.low h8
  have ovb_8 := ovb_4.low h8
  have ovo_8 := ovo_4.low h8
  have ovt_8 := ovt_4.low h8
  have og32_8_8 := rdFF3 k8 ovb_8 ovo_8 ovt_8
  obtain ⟨L, hL⟩ : ∃ L : List (List LfL), L = [lb, lo, lt] := ⟨_, rfl⟩
  rw [← hL] at og32_8_8
  have hLn : L.length = 3 := by rw [hL]; rfl
  have hLf : L.flatten.length ≤ 900000 := by rw [hL]; simp; omega
  refine l_q rfl (q_lenF rfl rfl Try.underlying44 (At.hit z7.put.put.put rfl).ev og32_8_8.1 ?_)
  refine l_q rfl (q_move _ _ rfl rfl ?_)
  refine l_end ?_
  refine e_fresh z7.put.put.put.put.put.put ?_
  intro a9 z9 m9
  have s8_9 := m9 _ _ ((((((s8_7.ne rfl).ne rfl).ne rfl).ne rfl).ne rfl).ne rfl)
  have s9_9 := m9 _ _ ((((((s9_7.ne rfl).ne rfl).ne rfl).ne rfl).ne rfl).ne rfl)
  have s10_9 := m9 _ _ ((((((s10_7.ne rfl).ne rfl).ne rfl).ne rfl).ne rfl).ne rfl)
  have s11_9 := m9 _ _ ((((((s11_7.ne rfl).ne rfl).ne rfl).ne rfl).ne rfl).ne rfl)
  have s32_9 := m9 _ _ (((At.hit z7.put.put.put rfl).ne rfl).ne rfl)
  have s33_9 := m9 _ _ ((At.hit z7.put.put.put.put rfl).ne rfl)
  have s34_9 := m9 _ _ (At.hit z7.put.put.put.put.put rfl)
  have low9 := (low6.trans h8)
  clear m9
  refine e_then ?_
  refine wp_block ?_
  refine c_loop L.length (fun k a w => ∃ v11 : Value, Fr 126 a ∧ At a 8 (.map (some mlb)) ∧ At a 9 (.map (some mlo)) ∧ At a 10 (.map (some mlt)) ∧ At a 11 (v11) ∧ At a 32 (.slice (some ⟨g32_8, 0, none⟩) 3 3) ∧ At a 33 (.int .i64 ((L.length : Nat) : Int)) ∧ At a 34 (.int .i64 ((k : Nat) : Int)) ∧ MapIs w mlb (mapL lb) ∧ MapIs w mlo (mapL lo) ∧ MapIs w mlt (mapL lt) ∧ OwnF w w8.heap.size 9 1 v11 (gatN L k 0).length (((gatN L k 0).map encS).flatten) ∧ Low w8 w) ?_ ?_ ?_
  · exact ⟨.slice none 0 0, z9, s8_9, s9_9, s10_9, s11_9, s32_9, s33_9, s34_9, kmlb_8, kmlo_8, kmlt_8, (OwnF.nil _ _ _ _), (Low.refl _)⟩
  · intro k a10 w10 hk10 h
    obtain ⟨v11_10, z10, s8_10, s9_10, s10_10, s11_10, s32_10, s33_10, s34_10, kmlb_10, kmlo_10, kmlt_10, ox11_10, low10⟩ := h
    clear kmlb_8 kmlo_8 kmlt_8 s10_9 s11_9 s32_9 s33_9 s34_9 s8_9 s9_9 z9
    refine c_seq ?_
    refine c_region ?_
    refine l_q rfl (q_lss true rfl s34_10.ev s33_10.ev (decide_eq_true (by omega)) ?_)
    refine l_end ?_
    refine e_fresh z10.put ?_
    intro a11 z11 m11
    have s8_11 := m11 _ _ (s8_10.ne rfl)
    have s9_11 := m11 _ _ (s9_10.ne rfl)
    have s10_11 := m11 _ _ (s10_10.ne rfl)
    have s11_11 := m11 _ _ (s11_10.ne rfl)
    have s32_11 := m11 _ _ (s32_10.ne rfl)
    have s33_11 := m11 _ _ (s33_10.ne rfl)
    have s34_11 := m11 _ _ (s34_10.ne rfl)
    have s35_11 := m11 _ _ (At.hit z10 rfl)
    clear m11
    refine e_then ?_
    refine c_seq ?_
    refine c_true s35_11 ?_
    refine wp_skip ?_
    refine e_then ?_
    refine c_seq ?_
    refine wp_block ?_
    refine c_seq ?_
    refine c_region ?_
    refine l_q rfl (q_idxF (j := k) rfl Try.underlying44 sz22 s32_11.ev (og32_8_8.low low10).1 s34_11.ev (by omega) ?_)
    refine l_q rfl (q_ld1 (u := (([vb, vo, vt]).getD k nilS)) rfl Try.underlying22 rfl (At.hit z11 rfl).ev (fun _ e => by rw [e]; exact (og32_8_8.low low10).1) (by omega) (RdFF.cell (og32_8_8.low low10) (by omega)) ?_)
    refine l_q rfl (q_assign _ _ rfl (At.hit z11.put rfl).ev ?_)
    refine l_end ?_
    refine e_fresh z11.put.put.put ?_
    intro a13 z13 m13
    have s8_13 := m13 _ _ (((s8_11.ne rfl).ne rfl).ne rfl)
    have s9_13 := m13 _ _ (((s9_11.ne rfl).ne rfl).ne rfl)
    have s10_13 := m13 _ _ (((s10_11.ne rfl).ne rfl).ne rfl)
    have s11_13 := m13 _ _ (((s11_11.ne rfl).ne rfl).ne rfl)
    have s13_13 := m13 _ _ (At.hit z11.put.put rfl)
    have s32_13 := m13 _ _ (((s32_11.ne rfl).ne rfl).ne rfl)
    have s33_13 := m13 _ _ (((s33_11.ne rfl).ne rfl).ne rfl)
    have s34_13 := m13 _ _ (((s34_11.ne rfl).ne rfl).ne rfl)
    clear m13
    refine e_then ?_
    refine c_seq ?_
    refine c_region ?_
    refine l_q rfl (q_move _ _ rfl s13_13.ev ?_)
    refine l_q rfl (q_lenF rfl rfl Try.underlying22 (At.hit z13 rfl).ev (RdFF.row (k := k) (og32_8_8.low low10) (by omega)) ?_)
    refine l_q rfl (q_move _ _ rfl rfl ?_)
    refine l_end ?_
    refine e_fresh z13.put.put.put ?_
    intro a14 z14 m14
    have s8_14 := m14 _ _ (((s8_13.ne rfl).ne rfl).ne rfl)
    have s9_14 := m14 _ _ (((s9_13.ne rfl).ne rfl).ne rfl)
    have s10_14 := m14 _ _ (((s10_13.ne rfl).ne rfl).ne rfl)
    have s11_14 := m14 _ _ (((s11_13.ne rfl).ne rfl).ne rfl)
    have s32_14 := m14 _ _ (((s32_13.ne rfl).ne rfl).ne rfl)
    have s33_14 := m14 _ _ (((s33_13.ne rfl).ne rfl).ne rfl)
    have s34_14 := m14 _ _ (((s34_13.ne rfl).ne rfl).ne rfl)
    have s38_14 := m14 _ _ (((At.hit z13 rfl).ne rfl).ne rfl)
    have s39_14 := m14 _ _ ((At.hit z13.put rfl).ne rfl)
    have s40_14 := m14 _ _ (At.hit z13.put.put rfl)
    clear m14
    refine e_then ?_
    refine wp_block ?_
    refine c_loop ((L.getD k []).length) (fun m a w => ∃ v11 : Value, Fr 126 a ∧ At a 8 (.map (some mlb)) ∧ At a 9 (.map (some mlo)) ∧ At a 10 (.map (some mlt)) ∧ At a 11 (v11) ∧ At a 32 (.slice (some ⟨g32_8, 0, none⟩) 3 3) ∧ At a 33 (.int .i64 ((L.length : Nat) : Int)) ∧ At a 34 (.int .i64 ((k : Nat) : Int)) ∧ At a 38 ((([vb, vo, vt]).getD k nilS)) ∧ At a 39 (.int .i64 ((((L.getD k []).length) : Nat) : Int)) ∧ At a 40 (.int .i64 ((m : Nat) : Int)) ∧ MapIs w mlb (mapL lb) ∧ MapIs w mlo (mapL lo) ∧ MapIs w mlt (mapL lt) ∧ OwnF w w8.heap.size 9 1 v11 (gatN L k m).length (((gatN L k m).map encS).flatten) ∧ Low w8 w) ?_ ?_ ?_
    · exact ⟨v11_10, z14, s8_14, s9_14, s10_14, s11_14, s32_14, s33_14, s34_14, s38_14, s39_14, s40_14, kmlb_10, kmlo_10, kmlt_10, ox11_10, low10⟩
    · intro m a15 w15 hk15 h
      obtain ⟨v11_15, z15, s8_15, s9_15, s10_15, s11_15, s32_15, s33_15, s34_15, s38_15, s39_15, s40_15, kmlb_15, kmlo_15, kmlt_15, ox11_15, low15⟩ := h
      clear kmlb_10 kmlo_10 kmlt_10 low10 s10_14 s11_14 s32_14 s33_14 s34_14 s38_14 s39_14 s40_14 s8_14 s9_14 z14
      have hrl := row_len L k 900000 (by omega) hLf
      have hgm := gat_len L k m 900000 hLf
      refine c_seq ?_
      refine c_region ?_
      refine l_q rfl (q_lss true rfl s40_15.ev s39_15.ev (decide_eq_true (by omega)) ?_)
      refine l_end ?_
      refine e_fresh z15.put ?_
      intro a16 z16 m16
      have s8_16 := m16 _ _ (s8_15.ne rfl)
      have s9_16 := m16 _ _ (s9_15.ne rfl)
      have s10_16 := m16 _ _ (s10_15.ne rfl)
      have s11_16 := m16 _ _ (s11_15.ne rfl)
      have s32_16 := m16 _ _ (s32_15.ne rfl)
      have s33_16 := m16 _ _ (s33_15.ne rfl)
      have s34_16 := m16 _ _ (s34_15.ne rfl)
      have s38_16 := m16 _ _ (s38_15.ne rfl)
      have s39_16 := m16 _ _ (s39_15.ne rfl)
      have s40_16 := m16 _ _ (s40_15.ne rfl)
      have s41_16 := m16 _ _ (At.hit z15 rfl)
      clear m16
      refine e_then ?_
      refine c_seq ?_
      refine c_true s41_16 ?_
      refine wp_skip ?_
      refine e_then ?_
      refine c_seq ?_
      refine wp_block ?_
      refine c_seq ?_
      refine c_region ?_
      refine l_q rfl (q_idxF (j := m) rfl Try.underlying22 sz37 s38_16.ev ((RdFF.row (k := k) og32_8_8 (by omega)).low low15) s40_16.ev (by omega) ?_)
      refine l_q rfl (q_ldR (vs := [.string (((L.getD k []).getD m zL).f0), .int .i64 (((L.getD k []).getD m zL).f1), .string (((L.getD k []).getD m zL).f2)]) rfl Try.underlying37 rfl sz37 (At.hit z16 rfl).ev (fun _ e => by rw [e]; exact ((RdFF.row (k := k) og32_8_8 (by omega)).low low15)) (by omega) rfl (flat_part encL_len zL _ m (by omega)) ?_)
      refine l_alloc rfl rfl zero37 ?_
      intro g15 w17 hg17 k17 h17
      have nmlb_g15 := Nat.ne_of_lt (Nat.lt_of_lt_of_le kmlb_15.lt hg17)
      have nmlo_g15 := Nat.ne_of_lt (Nat.lt_of_lt_of_le kmlo_15.lt hg17)
      have nmlt_g15 := Nat.ne_of_lt (Nat.lt_of_lt_of_le kmlt_15.lt hg17)
      have geg15 := Nat.le_trans low15.ge hg17
      have kmlb_17 := kmlb_15.low h17
      have kmlo_17 := kmlo_15.low h17
      have kmlt_17 := kmlt_15.low h17
      have ox11_17 := ox11_15.low h17
      have oL8_17 := (og32_8_8.low low15).low h17
      have oy12_17 := ((RdFF.row (k := k) og32_8_8 (by omega)).low low15).low h17
      refine l_row rfl rfl rfl (sz37.trans (congrArg some rfl.symm)) (At.hit z16.put.put rfl).ev ((At.hit z16.put rfl).ne rfl).ev (by simp [Value.oneCell']) k17 (rfl.trans rfl.symm) ?_
      intro w18 k18 u18
      have ox11_18 := ox11_17.upd u18 k17 rfl
      have kmlb_18 := kmlb_17.upd u18 (by omega)
      have kmlo_18 := kmlo_17.upd u18 (by omega)
      have kmlt_18 := kmlt_17.upd u18 (by omega)
      refine l_end ?_
      refine e_fresh z16.put.put.put ?_
      intro a19 z19 m19
      have s8_19 := m19 _ _ (((s8_16.ne rfl).ne rfl).ne rfl)
      have s9_19 := m19 _ _ (((s9_16.ne rfl).ne rfl).ne rfl)
      have s10_19 := m19 _ _ (((s10_16.ne rfl).ne rfl).ne rfl)
      have s11_19 := m19 _ _ (((s11_16.ne rfl).ne rfl).ne rfl)
      have s15_19 := m19 _ _ (At.hit z16.put.put rfl)
      have s32_19 := m19 _ _ (((s32_16.ne rfl).ne rfl).ne rfl)
      have s33_19 := m19 _ _ (((s33_16.ne rfl).ne rfl).ne rfl)
      have s34_19 := m19 _ _ (((s34_16.ne rfl).ne rfl).ne rfl)
      have s38_19 := m19 _ _ (((s38_16.ne rfl).ne rfl).ne rfl)
      have s39_19 := m19 _ _ (((s39_16.ne rfl).ne rfl).ne rfl)
      have s40_19 := m19 _ _ (((s40_16.ne rfl).ne rfl).ne rfl)
      have low19 := ((low15.trans h17).upd u18 geg15)
      clear m19
      refine e_then ?_
      refine c_region ?_
      refine l_q rfl (q_move _ _ rfl s11_19.ev ?_)
      refine l_q rfl (q_fld 0 rfl (by kernel_rfl) (s15_19.ne rfl).ev ?_)
      refine l_q rfl (q_cellT (.string (((L.getD k []).getD m zL).f0)) rfl Try.underlying9 (At.hit z19.put rfl).ev (fun _ e => by rw [e]; exact (cells_at k18 0).trans rfl) ?_)
      refine l_buildF (vs := [.string (((L.getD k []).getD m zL).f0)]) rfl rfl Try.underlying25 rec9 (At.hit z19.put.put rfl).ev rfl rfl (by decide) (by decide) ?_
      intro g47_20 w20 hg20 k20 h20
      have onx11_g47_20 : ∀ k, Value.ownBlock v11_15 = some k → k < g47_20 := fun k hk => Nat.lt_of_lt_of_le (OwnF.own_lt ox11_18 hk) hg20
      have lt_g15_g47_20 := Nat.lt_of_lt_of_le (heap_lt k18) hg20
      have nmlb_g47_20 := Nat.ne_of_lt (Nat.lt_of_lt_of_le kmlb_18.lt hg20)
      have nmlo_g47_20 := Nat.ne_of_lt (Nat.lt_of_lt_of_le kmlo_18.lt hg20)
      have nmlt_g47_20 := Nat.ne_of_lt (Nat.lt_of_lt_of_le kmlt_18.lt hg20)
      have geg47_20 := Nat.le_trans low19.ge hg20
      have kmlb_20 := kmlb_18.low h20
      have kmlo_20 := kmlo_18.low h20
      have kmlt_20 := kmlt_18.low h20
      have kg15_20 := h20.blk k18
      have ox11_20 := ox11_18.low h20
      have oL8_20 := (og32_8_8.low ((low15.trans h17).upd u18 geg15)).low h20
      have oy12_20 := ((RdFF.row (k := k) og32_8_8 (by omega)).low ((low15.trans h17).upd u18 geg15)).low h20
      refine l_appF (B := w8.heap.size) rfl rfl Try.underlying25 rec9 ((((At.hit z19 rfl).ne rfl).ne rfl).ne rfl).ev (At.hit z19.put.put.put rfl).ev k20 rfl (by decide) rfl ox11_20 (low19.trans h20).ge (by omega) ?_
      intro v21 w21 o21 gr21
      have kmlb_21 := kmlb_20.grw gr21
      have kmlo_21 := kmlo_20.grw gr21
      have kmlt_21 := kmlt_20.grw gr21
      have kg15_21 := gr21.blk kg15_20 rfl
      have lw21 := (low19.trans h20).grw gr21
      replace o21 := o21.cast (show _ = ((gatN L k m) ++ [((L.getD k []).getD m zL).f0]).length by rw [List.length_append]; rfl) (flat_snoc (enc := encS) (gatN L k m) (((L.getD k []).getD m zL).f0))
      refine l_q rfl (q_assign _ _ rfl (At.hit z19.put.put.put.put rfl).ev ?_)
      refine l_end ?_
      refine e_fresh z19.put.put.put.put.put.put ?_
      intro a22 z22 m22
      have s8_22 := m22 _ _ ((((((s8_19.ne rfl).ne rfl).ne rfl).ne rfl).ne rfl).ne rfl)
      have s9_22 := m22 _ _ ((((((s9_19.ne rfl).ne rfl).ne rfl).ne rfl).ne rfl).ne rfl)
      have s10_22 := m22 _ _ ((((((s10_19.ne rfl).ne rfl).ne rfl).ne rfl).ne rfl).ne rfl)
      have s11_22 := m22 _ _ (At.hit z19.put.put.put.put.put rfl)
      have s32_22 := m22 _ _ ((((((s32_19.ne rfl).ne rfl).ne rfl).ne rfl).ne rfl).ne rfl)
      have s33_22 := m22 _ _ ((((((s33_19.ne rfl).ne rfl).ne rfl).ne rfl).ne rfl).ne rfl)
      have s34_22 := m22 _ _ ((((((s34_19.ne rfl).ne rfl).ne rfl).ne rfl).ne rfl).ne rfl)
      have s38_22 := m22 _ _ ((((((s38_19.ne rfl).ne rfl).ne rfl).ne rfl).ne rfl).ne rfl)
      have s39_22 := m22 _ _ ((((((s39_19.ne rfl).ne rfl).ne rfl).ne rfl).ne rfl).ne rfl)
      have s40_22 := m22 _ _ ((((((s40_19.ne rfl).ne rfl).ne rfl).ne rfl).ne rfl).ne rfl)
      have low22 := lw21
      clear m22
      refine e_in ?_
      refine e_then ?_
      refine c_region ?_
      refine l_q rfl (q_add (((m + 1 : Nat) : Int)) rfl s40_22.ev rfl (i64_is (by omega) (by omega) (by omega)) ?_)
      refine l_q rfl (q_move _ _ rfl (At.hit z22 rfl).ev ?_)
      refine l_end ?_
      refine e_fresh z22.put.put ?_
      intro a23 z23 m23
      have s8_23 := m23 _ _ ((s8_22.ne rfl).ne rfl)
      have s9_23 := m23 _ _ ((s9_22.ne rfl).ne rfl)
      have s10_23 := m23 _ _ ((s10_22.ne rfl).ne rfl)
      have s11_23 := m23 _ _ ((s11_22.ne rfl).ne rfl)
      have s32_23 := m23 _ _ ((s32_22.ne rfl).ne rfl)
      have s33_23 := m23 _ _ ((s33_22.ne rfl).ne rfl)
      have s34_23 := m23 _ _ ((s34_22.ne rfl).ne rfl)
      have s38_23 := m23 _ _ ((s38_22.ne rfl).ne rfl)
      have s39_23 := m23 _ _ ((s39_22.ne rfl).ne rfl)
      have s40_23 := m23 _ _ (At.hit z22.put rfl)
      clear m23
      have c24 := OwnF.castL o21 (show (gatN L k m) ++ [((L.getD k []).getD m zL).f0] = gatN L k (m + 1) from gat_next L k m (by omega))
      exact ⟨v21, z23, s8_23, s9_23, s10_23, s11_23, s32_23, s33_23, s34_23, s38_23, s39_23, s40_23, kmlb_21, kmlo_21, kmlt_21, c24, low22⟩
    · intro a25 w25 h
      obtain ⟨v11_25, z25, s8_25, s9_25, s10_25, s11_25, s32_25, s33_25, s34_25, s38_25, s39_25, s40_25, kmlb_25, kmlo_25, kmlt_25, ox11_25, low25⟩ := h
      clear kmlb_10 kmlo_10 kmlt_10 low10 s10_14 s11_14 s32_14 s33_14 s34_14 s38_14 s39_14 s40_14 s8_14 s9_14 z14
      have hrl := row_len L k 900000 (by omega) hLf
      refine c_seq ?_
      refine c_region ?_
      refine l_q rfl (q_lss false rfl s40_25.ev s39_25.ev (decide_eq_false (by omega)) ?_)
      refine l_end ?_
      refine e_fresh z25.put ?_
      intro a26 z26 m26
      have s8_26 := m26 _ _ (s8_25.ne rfl)
      have s9_26 := m26 _ _ (s9_25.ne rfl)
      have s10_26 := m26 _ _ (s10_25.ne rfl)
      have s11_26 := m26 _ _ (s11_25.ne rfl)
      have s32_26 := m26 _ _ (s32_25.ne rfl)
      have s33_26 := m26 _ _ (s33_25.ne rfl)
      have s34_26 := m26 _ _ (s34_25.ne rfl)
      have s38_26 := m26 _ _ (s38_25.ne rfl)
      have s40_26 := m26 _ _ (s40_25.ne rfl)
      have s41_26 := m26 _ _ (At.hit z25 rfl)
      clear m26
      refine e_then ?_
      refine c_seq ?_
      refine c_false s41_26 ?_
      refine wp_exit ?_
      refine x_then ?_
      refine x_then ?_
      refine in_exit ?_
      refine e_in ?_
      refine e_then ?_
      refine c_region ?_
      refine l_q rfl (q_add (((k + 1 : Nat) : Int)) rfl s34_26.ev rfl (i64_is (by omega) (by omega) (by omega)) ?_)
      refine l_q rfl (q_move _ _ rfl (At.hit z26 rfl).ev ?_)
      refine l_end ?_
      refine e_fresh z26.put.put ?_
      intro a27 z27 m27
      have s8_27 := m27 _ _ ((s8_26.ne rfl).ne rfl)
      have s9_27 := m27 _ _ ((s9_26.ne rfl).ne rfl)
      have s10_27 := m27 _ _ ((s10_26.ne rfl).ne rfl)
      have s11_27 := m27 _ _ ((s11_26.ne rfl).ne rfl)
      have s32_27 := m27 _ _ ((s32_26.ne rfl).ne rfl)
      have s33_27 := m27 _ _ ((s33_26.ne rfl).ne rfl)
      have s34_27 := m27 _ _ (At.hit z26.put rfl)
      clear m27
      have c28 := OwnF.castL ox11_25 (show gatN L k ((L.getD k []).length) = gatN L (k + 1) 0 from gat_row L k (by omega))
      exact ⟨v11_25, z27, s8_27, s9_27, s10_27, s11_27, s32_27, s33_27, s34_27, kmlb_25, kmlo_25, kmlt_25, c28, low25⟩
  · intro a29 w29 h
    obtain ⟨v11_29, z29, s8_29, s9_29, s10_29, s11_29, s32_29, s33_29, s34_29, kmlb_29, kmlo_29, kmlt_29, ox11_29, low29⟩ := h
    clear kmlb_8 kmlo_8 kmlt_8 s10_9 s11_9 s32_9 s33_9 s34_9 s8_9 s9_9 z9
    have hgl := gat_len L L.length 0 900000 hLf
    refine c_seq ?_
    refine c_region ?_
    refine l_q rfl (q_lss false rfl s34_29.ev s33_29.ev (decide_eq_false (by omega)) ?_)
    refine l_end ?_
    refine e_fresh z29.put ?_
    intro a30 z30 m30
    have s8_30 := m30 _ _ (s8_29.ne rfl)
    have s9_30 := m30 _ _ (s9_29.ne rfl)
    have s10_30 := m30 _ _ (s10_29.ne rfl)
    have s11_30 := m30 _ _ (s11_29.ne rfl)
    have s32_30 := m30 _ _ (s32_29.ne rfl)
    have s34_30 := m30 _ _ (s34_29.ne rfl)
    have s35_30 := m30 _ _ (At.hit z29 rfl)
    clear m30
    refine e_then ?_
    refine c_seq ?_
    refine c_false s35_30 ?_
    refine wp_exit ?_
    refine x_then ?_
    refine x_then ?_
    refine in_exit ?_
    refine e_then ?_
    refine c_seq ?_
    refine c_region ?_
    refine l_q rfl (q_move _ _ rfl s11_30.ev ?_)
    refine l_call _ rfl rfl rfl Try.func17 rfl (args1 rfl (At.hit z30 rfl).ev) (sort_c v11_29 (gatN L L.length 0) _ (Nat.le_trans hgl (by decide)) ox11_29) ?_
    rintro _ w31 ⟨rfl, o31, gr31⟩
    have kmlb_31 := kmlb_29.grw gr31
    have kmlo_31 := kmlo_29.grw gr31
    have kmlt_31 := kmlt_29.grw gr31
    have lw31 := low29.grw gr31
    refine l_end ?_
    refine e_fresh z30.put.put ?_
    intro a32 z32 m32
    have s8_32 := m32 _ _ ((s8_30.ne rfl).ne rfl)
    have s9_32 := m32 _ _ ((s9_30.ne rfl).ne rfl)
    have s10_32 := m32 _ _ ((s10_30.ne rfl).ne rfl)
    have s11_32 := m32 _ _ ((s11_30.ne rfl).ne rfl)
    have low32 := lw31
    clear m32
    refine e_then ?_
    refine c_seq ?_
    refine c_region ?_
    refine l_q rfl (q_assign _ _ rfl rfl ?_)
    refine l_end ?_
    refine e_fresh z32.put ?_
    intro a33 z33 m33
    have s8_33 := m33 _ _ (s8_32.ne rfl)
    have s9_33 := m33 _ _ (s9_32.ne rfl)
    have s10_33 := m33 _ _ (s10_32.ne rfl)
    have s11_33 := m33 _ _ (s11_32.ne rfl)
    have s16_33 := m33 _ _ (At.hit z32 rfl)
    clear m33
    refine e_then ?_
    refine c_seq ?_
    refine c_region ?_
    refine l_q rfl (q_assign _ _ rfl rfl ?_)
    refine l_end ?_
    refine e_fresh z33.put ?_
    intro a34 z34 m34
    have s8_34 := m34 _ _ (s8_33.ne rfl)
    have s9_34 := m34 _ _ (s9_33.ne rfl)
    have s10_34 := m34 _ _ (s10_33.ne rfl)
    have s11_34 := m34 _ _ (s11_33.ne rfl)
    have s16_34 := m34 _ _ (s16_33.ne rfl)
    have s17_34 := m34 _ _ (At.hit z33 rfl)
    clear m34
    refine e_then ?_
    refine c_seq ?_
    refine c_seq ?_
    refine c_region ?_
    refine l_q rfl (q_move _ _ rfl s11_34.ev ?_)
    refine l_call _ rfl rfl rfl Try.func18 rfl (args1 rfl (At.hit z34 rfl).ev) (compact_calls v11_29 (sortB (gatN L L.length 0)) _ o31) ?_
    rintro v35 w35 ⟨o35, gr35⟩
    have kmlb_35 := kmlb_31.grw gr35
    have kmlo_35 := kmlo_31.grw gr35
    have kmlt_35 := kmlt_31.grw gr35
    have lw35 := low32.grw gr35
    replace o35 := OwnF.castL o35 (show compB (sortB (gatN L L.length 0)) = pathsT lb lo lt from gat_paths hL)
    refine l_q rfl (q_lenF rfl rfl Try.underlying25 (At.hit z34.put rfl).ev o35.rd ?_)
    refine l_q rfl (q_move _ _ rfl rfl ?_)
    refine l_end ?_
    refine e_fresh z34.put.put.put.put ?_
    intro a36 z36 m36
    have s8_36 := m36 _ _ ((((s8_34.ne rfl).ne rfl).ne rfl).ne rfl)
    have s9_36 := m36 _ _ ((((s9_34.ne rfl).ne rfl).ne rfl).ne rfl)
    have s10_36 := m36 _ _ ((((s10_34.ne rfl).ne rfl).ne rfl).ne rfl)
    have s16_36 := m36 _ _ ((((s16_34.ne rfl).ne rfl).ne rfl).ne rfl)
    have s17_36 := m36 _ _ ((((s17_34.ne rfl).ne rfl).ne rfl).ne rfl)
    have s54_36 := m36 _ _ (((At.hit z34.put rfl).ne rfl).ne rfl)
    have s55_36 := m36 _ _ ((At.hit z34.put.put rfl).ne rfl)
    have s56_36 := m36 _ _ (At.hit z34.put.put.put rfl)
    have low36 := lw35
    clear m36
    refine e_then ?_
    refine wp_block ?_
    refine c_loop ((pathsT lb lo lt).length) (fun k a w => ∃ v16 : Value, ∃ v17 : Value, Fr 126 a ∧ At a 8 (.map (some mlb)) ∧ At a 9 (.map (some mlo)) ∧ At a 10 (.map (some mlt)) ∧ At a 16 (v16) ∧ At a 17 (v17) ∧ At a 54 (v35) ∧ At a 55 (.int .i64 ((((pathsT lb lo lt).length) : Nat) : Int)) ∧ At a 56 (.int .i64 ((k : Nat) : Int)) ∧ MapIs w mlb (mapL lb) ∧ MapIs w mlo (mapL lo) ∧ MapIs w mlt (mapL lt) ∧ OwnF w w35.heap.size 37 3 v16 (outT lb lo lt ((pathsT lb lo lt).take k)).length (((outT lb lo lt ((pathsT lb lo lt).take k)).map encL).flatten) ∧ OwnF w w35.heap.size 9 1 v17 (badT lb lo lt ((pathsT lb lo lt).take k)).length (((badT lb lo lt ((pathsT lb lo lt).take k)).map encS).flatten) ∧ Low w35 w) ?_ ?_ ?_
    · exact ⟨.slice none 0 0, .slice none 0 0, z36, s8_36, s9_36, s10_36, s16_36, s17_36, s54_36, s55_36, s56_36, kmlb_35, kmlo_35, kmlt_35, (OwnF.nil _ _ _ _), (OwnF.nil _ _ _ _), (Low.refl _)⟩
    · intro k a37 w37 hk37 h
      obtain ⟨v16_37, v17_37, z37, s8_37, s9_37, s10_37, s16_37, s17_37, s54_37, s55_37, s56_37, kmlb_37, kmlo_37, kmlt_37, ox16_37, ox17_37, low37⟩ := h
      clear kmlb_35 kmlo_35 kmlt_35 s10_36 s16_36 s17_36 s54_36 s55_36 s56_36 s8_36 s9_36 z36
      have hpl := paths_len lb lo lt
      have hol := out_len lb lo lt (pathsT lb lo lt) k 300000 (by omega)
      have hbl := bad_len lb lo lt (pathsT lb lo lt) k 300000 (by omega)
      refine c_seq ?_
      refine c_region ?_
      refine l_q rfl (q_lss true rfl s56_37.ev s55_37.ev (decide_eq_true (by omega)) ?_)
      refine l_end ?_
      refine e_fresh z37.put ?_
      intro a38 z38 m38
      have s8_38 := m38 _ _ (s8_37.ne rfl)
      have s9_38 := m38 _ _ (s9_37.ne rfl)
      have s10_38 := m38 _ _ (s10_37.ne rfl)
      have s16_38 := m38 _ _ (s16_37.ne rfl)
      have s17_38 := m38 _ _ (s17_37.ne rfl)
      have s54_38 := m38 _ _ (s54_37.ne rfl)
      have s55_38 := m38 _ _ (s55_37.ne rfl)
      have s56_38 := m38 _ _ (s56_37.ne rfl)
      have s57_38 := m38 _ _ (At.hit z37 rfl)
      clear m38
      refine e_then ?_
      refine c_seq ?_
      refine c_true s57_38 ?_
      refine wp_skip ?_
      refine e_then ?_
      refine c_seq ?_
      refine wp_block ?_
      refine c_seq ?_
      refine c_region ?_
      refine l_q rfl (q_idxF (j := k) rfl Try.underlying25 sz9 s54_38.ev (o35.low low37).rd s56_38.ev (by omega) ?_)
      refine l_q rfl (q_ld1 (u := .string ((pathsT lb lo lt).getD k ByteArray.empty)) rfl Try.underlying9 rfl (At.hit z38 rfl).ev (fun _ e => by rw [e]; exact (o35.low low37).rd) (by omega) ((flat_at encS_len ByteArray.empty _ k 0 (by omega) (by decide)).trans rfl) ?_)
      refine l_q rfl (q_assign _ _ rfl (At.hit z38.put rfl).ev ?_)
      refine l_end ?_
      refine e_fresh z38.put.put.put ?_
      intro a39 z39 m39
      have s8_39 := m39 _ _ (((s8_38.ne rfl).ne rfl).ne rfl)
      have s9_39 := m39 _ _ (((s9_38.ne rfl).ne rfl).ne rfl)
      have s10_39 := m39 _ _ (((s10_38.ne rfl).ne rfl).ne rfl)
      have s16_39 := m39 _ _ (((s16_38.ne rfl).ne rfl).ne rfl)
      have s17_39 := m39 _ _ (((s17_38.ne rfl).ne rfl).ne rfl)
      have s19_39 := m39 _ _ (At.hit z38.put.put rfl)
      have s54_39 := m39 _ _ (((s54_38.ne rfl).ne rfl).ne rfl)
      have s55_39 := m39 _ _ (((s55_38.ne rfl).ne rfl).ne rfl)
      have s56_39 := m39 _ _ (((s56_38.ne rfl).ne rfl).ne rfl)
      clear m39
      refine e_then ?_
      refine c_seq ?_
      refine c_region ?_
      refine l_q rfl (q_move _ _ rfl s9_39.ev ?_)
      refine l_q rfl (q_move _ _ rfl (s19_39.ne rfl).ev ?_)
      refine l_q rfl (q_look (.agg (#[.string ((findL lo ((pathsT lb lo lt).getD k ByteArray.empty)).f0), .int .i64 ((findL lo ((pathsT lb lo lt).getD k ByteArray.empty)).f1), .string ((findL lo ((pathsT lb lo lt).getD k ByteArray.empty)).f2)])) rfl Try.underlying35 Try.underlying9 zero37 ((At.hit z39 rfl).ne rfl).ev (At.hit z39.put rfl).ev (fun _ e => by rw [e]; exact kmlo_37) (look_mapL lo ((pathsT lb lo lt).getD k ByteArray.empty)) ?_)
      refine l_alloc rfl rfl zero37 ?_
      intro g20 w40 hg40 k40 h40
      have onx16_g20 : ∀ k, Value.ownBlock v16_37 = some k → k < g20 := fun k hk => Nat.lt_of_lt_of_le (OwnF.own_lt ox16_37 hk) hg40
      have nmlb_g20 := Nat.ne_of_lt (Nat.lt_of_lt_of_le kmlb_37.lt hg40)
      have nmlo_g20 := Nat.ne_of_lt (Nat.lt_of_lt_of_le kmlo_37.lt hg40)
      have nmlt_g20 := Nat.ne_of_lt (Nat.lt_of_lt_of_le kmlt_37.lt hg40)
      have geg20 := Nat.le_trans low37.ge hg40
      have kmlb_40 := kmlb_37.low h40
      have kmlo_40 := kmlo_37.low h40
      have kmlt_40 := kmlt_37.low h40
      have ox16_40 := ox16_37.low h40
      have ox17_40 := ox17_37.low h40
      have ob35_40 := (o35.low low37).low h40
      refine l_row rfl rfl rfl (sz37.trans (congrArg some rfl.symm)) (At.hit z39.put.put.put rfl).ev ((At.hit z39.put.put rfl).ne rfl).ev (by simp [Value.oneCell']) k40 (rfl.trans rfl.symm) ?_
      intro w41 k41 u41
      have ox16_41 := ox16_40.updn u41 onx16_g20
      have ox17_41 := ox17_40.upd u41 k40 rfl
      have kmlb_41 := kmlb_40.upd u41 (by omega)
      have kmlo_41 := kmlo_40.upd u41 (by omega)
      have kmlt_41 := kmlt_40.upd u41 (by omega)
      refine l_end ?_
      refine e_fresh z39.put.put.put.put ?_
      intro a42 z42 m42
      have s8_42 := m42 _ _ ((((s8_39.ne rfl).ne rfl).ne rfl).ne rfl)
      have s9_42 := m42 _ _ ((((s9_39.ne rfl).ne rfl).ne rfl).ne rfl)
      have s10_42 := m42 _ _ ((((s10_39.ne rfl).ne rfl).ne rfl).ne rfl)
      have s16_42 := m42 _ _ ((((s16_39.ne rfl).ne rfl).ne rfl).ne rfl)
      have s17_42 := m42 _ _ ((((s17_39.ne rfl).ne rfl).ne rfl).ne rfl)
      have s19_42 := m42 _ _ ((((s19_39.ne rfl).ne rfl).ne rfl).ne rfl)
      have s20_42 := m42 _ _ (At.hit z39.put.put.put rfl)
      have s54_42 := m42 _ _ ((((s54_39.ne rfl).ne rfl).ne rfl).ne rfl)
      have s55_42 := m42 _ _ ((((s55_39.ne rfl).ne rfl).ne rfl).ne rfl)
      have s56_42 := m42 _ _ ((((s56_39.ne rfl).ne rfl).ne rfl).ne rfl)
      have low42 := ((low37.trans h40).upd u41 geg20)
      clear m42
      refine e_then ?_
      refine c_seq ?_
      refine wp_block ?_
      refine c_seq ?_
      by_cases hb43 : findL lo ((pathsT lb lo lt).getD k ByteArray.empty) = findL lt ((pathsT lb lo lt).getD k ByteArray.empty)
      · skip
        refine c_region ?_
        refine l_q rfl (q_move _ _ rfl s9_42.ev ?_)
        refine l_q rfl (q_move _ _ rfl (s19_42.ne rfl).ev ?_)
        refine l_q rfl (q_look (.agg (#[.string ((findL lo ((pathsT lb lo lt).getD k ByteArray.empty)).f0), .int .i64 ((findL lo ((pathsT lb lo lt).getD k ByteArray.empty)).f1), .string ((findL lo ((pathsT lb lo lt).getD k ByteArray.empty)).f2)])) rfl Try.underlying35 Try.underlying9 zero37 ((At.hit z42 rfl).ne rfl).ev (At.hit z42.put rfl).ev (fun _ e => by rw [e]; exact kmlo_41) (look_mapL lo ((pathsT lb lo lt).getD k ByteArray.empty)) ?_)
        refine l_q rfl (q_move _ _ rfl (((s10_42.ne rfl).ne rfl).ne rfl).ev ?_)
        refine l_q rfl (q_move _ _ rfl ((((s19_42.ne rfl).ne rfl).ne rfl).ne rfl).ev ?_)
        refine l_q rfl (q_look (.agg (#[.string ((findL lt ((pathsT lb lo lt).getD k ByteArray.empty)).f0), .int .i64 ((findL lt ((pathsT lb lo lt).getD k ByteArray.empty)).f1), .string ((findL lt ((pathsT lb lo lt).getD k ByteArray.empty)).f2)])) rfl Try.underlying35 Try.underlying9 zero37 ((At.hit z42.put.put.put rfl).ne rfl).ev (At.hit z42.put.put.put.put rfl).ev (fun _ e => by rw [e]; exact kmlt_41) (look_mapL lt ((pathsT lb lo lt).getD k ByteArray.empty)) ?_)
        refine l_q rfl (q_eq3 true rfl guard37 ((((At.hit z42.put.put rfl).ne rfl).ne rfl).ne rfl).ev (At.hit z42.put.put.put.put.put rfl).ev (eq37 9998 ((findL lo ((pathsT lb lo lt).getD k ByteArray.empty)).f0) ((findL lo ((pathsT lb lo lt).getD k ByteArray.empty)).f1) ((findL lo ((pathsT lb lo lt).getD k ByteArray.empty)).f2) ((findL lt ((pathsT lb lo lt).getD k ByteArray.empty)).f0) ((findL lt ((pathsT lb lo lt).getD k ByteArray.empty)).f1) ((findL lt ((pathsT lb lo lt).getD k ByteArray.empty)).f2)) (eqL_true hb43) ?_)
        refine l_q rfl (q_move _ _ rfl (At.hit z42.put.put.put.put.put.put rfl).ev ?_)
        refine l_fresh z42.put.put.put.put.put.put.put.put ?_
        intro a44 z44 m44
        have s8_44 := m44 _ _ ((((((((s8_42.ne rfl).ne rfl).ne rfl).ne rfl).ne rfl).ne rfl).ne rfl).ne rfl)
        have s9_44 := m44 _ _ ((((((((s9_42.ne rfl).ne rfl).ne rfl).ne rfl).ne rfl).ne rfl).ne rfl).ne rfl)
        have s10_44 := m44 _ _ ((((((((s10_42.ne rfl).ne rfl).ne rfl).ne rfl).ne rfl).ne rfl).ne rfl).ne rfl)
        have s16_44 := m44 _ _ ((((((((s16_42.ne rfl).ne rfl).ne rfl).ne rfl).ne rfl).ne rfl).ne rfl).ne rfl)
        have s17_44 := m44 _ _ ((((((((s17_42.ne rfl).ne rfl).ne rfl).ne rfl).ne rfl).ne rfl).ne rfl).ne rfl)
        have s19_44 := m44 _ _ ((((((((s19_42.ne rfl).ne rfl).ne rfl).ne rfl).ne rfl).ne rfl).ne rfl).ne rfl)
        have s20_44 := m44 _ _ ((((((((s20_42.ne rfl).ne rfl).ne rfl).ne rfl).ne rfl).ne rfl).ne rfl).ne rfl)
        have s54_44 := m44 _ _ ((((((((s54_42.ne rfl).ne rfl).ne rfl).ne rfl).ne rfl).ne rfl).ne rfl).ne rfl)
        have s55_44 := m44 _ _ ((((((((s55_42.ne rfl).ne rfl).ne rfl).ne rfl).ne rfl).ne rfl).ne rfl).ne rfl)
        have s56_44 := m44 _ _ ((((((((s56_42.ne rfl).ne rfl).ne rfl).ne rfl).ne rfl).ne rfl).ne rfl).ne rfl)
        have s75_44 := m44 _ _ (At.hit z42.put.put.put.put.put.put.put rfl)
        clear m44
        refine l_skip (wanted_is (j := 7) (d := 75) (b := true) rfl rfl s75_44 rfl) ?_
        refine l_skip (wanted_is (j := 7) (d := 75) (b := true) rfl rfl (s75_44.ne rfl) rfl) ?_
        refine l_skip (wanted_is (j := 7) (d := 75) (b := true) rfl rfl ((s75_44.ne rfl).ne rfl) rfl) ?_
        refine l_skip (wanted_is (j := 7) (d := 75) (b := true) rfl rfl (((s75_44.ne rfl).ne rfl).ne rfl) rfl) ?_
        refine l_skip (wanted_is (j := 7) (d := 75) (b := true) rfl rfl ((((s75_44.ne rfl).ne rfl).ne rfl).ne rfl) rfl) ?_
        refine l_skip (wanted_is (j := 7) (d := 75) (b := true) rfl rfl (((((s75_44.ne rfl).ne rfl).ne rfl).ne rfl).ne rfl) rfl) ?_
        refine l_skip (wanted_is (j := 7) (d := 75) (b := true) rfl rfl ((((((s75_44.ne rfl).ne rfl).ne rfl).ne rfl).ne rfl).ne rfl) rfl) ?_
        refine l_q rfl (q_pick (b := true) (.bool true) rfl (((((((s75_44.ne rfl).ne rfl).ne rfl).ne rfl).ne rfl).ne rfl).ne rfl).ev rfl ?_)
        refine l_fresh z44.put.put.put.put.put.put.put.put ?_
        intro a45 z45 m45
        have s8_45 := m45 _ _ ((((((((s8_44.ne rfl).ne rfl).ne rfl).ne rfl).ne rfl).ne rfl).ne rfl).ne rfl)
        have s9_45 := m45 _ _ ((((((((s9_44.ne rfl).ne rfl).ne rfl).ne rfl).ne rfl).ne rfl).ne rfl).ne rfl)
        have s10_45 := m45 _ _ ((((((((s10_44.ne rfl).ne rfl).ne rfl).ne rfl).ne rfl).ne rfl).ne rfl).ne rfl)
        have s16_45 := m45 _ _ ((((((((s16_44.ne rfl).ne rfl).ne rfl).ne rfl).ne rfl).ne rfl).ne rfl).ne rfl)
        have s17_45 := m45 _ _ ((((((((s17_44.ne rfl).ne rfl).ne rfl).ne rfl).ne rfl).ne rfl).ne rfl).ne rfl)
        have s19_45 := m45 _ _ ((((((((s19_44.ne rfl).ne rfl).ne rfl).ne rfl).ne rfl).ne rfl).ne rfl).ne rfl)
        have s20_45 := m45 _ _ ((((((((s20_44.ne rfl).ne rfl).ne rfl).ne rfl).ne rfl).ne rfl).ne rfl).ne rfl)
        have s54_45 := m45 _ _ ((((((((s54_44.ne rfl).ne rfl).ne rfl).ne rfl).ne rfl).ne rfl).ne rfl).ne rfl)
        have s55_45 := m45 _ _ ((((((((s55_44.ne rfl).ne rfl).ne rfl).ne rfl).ne rfl).ne rfl).ne rfl).ne rfl)
        have s56_45 := m45 _ _ ((((((((s56_44.ne rfl).ne rfl).ne rfl).ne rfl).ne rfl).ne rfl).ne rfl).ne rfl)
        have s83_45 := m45 _ _ (At.hit z44.put.put.put.put.put.put.put rfl)
        clear m45
        refine l_q rfl (q_assign _ _ rfl s83_45.ev ?_)
        refine l_end ?_
        refine e_fresh z45.put ?_
        intro a46 z46 m46
        have s8_46 := m46 _ _ (s8_45.ne rfl)
        have s9_46 := m46 _ _ (s9_45.ne rfl)
        have s10_46 := m46 _ _ (s10_45.ne rfl)
        have s16_46 := m46 _ _ (s16_45.ne rfl)
        have s17_46 := m46 _ _ (s17_45.ne rfl)
        have s19_46 := m46 _ _ (s19_45.ne rfl)
        have s20_46 := m46 _ _ (s20_45.ne rfl)
        have s54_46 := m46 _ _ (s54_45.ne rfl)
        have s55_46 := m46 _ _ (s55_45.ne rfl)
        have s56_46 := m46 _ _ (s56_45.ne rfl)
        have s67_46 := m46 _ _ (At.hit z45 rfl)
        clear m46
        refine e_then ?_
        refine c_true s67_46 ?_
        refine wp_skip ?_
        refine e_in ?_
        refine e_then ?_
        refine c_seq ?_
        by_cases hb47 : ¬ findL lo ((pathsT lb lo lt).getD k ByteArray.empty) = zL
        · skip
          refine c_region ?_
          refine l_q rfl (q_row rfl Try.underlying37 rfl (sz37.trans (congrArg some rfl.symm)) s20_46.ev (fun _ e => by rw [e]; exact k41) ?_)
          refine l_q rfl (q_build (cs := #[.string zL.f0, .int .i64 zL.f1, .string zL.f2]) rfl rfl (by kernel_rfl) ?_)
          refine l_q rfl (q_ne3 true rfl guard37 ((At.hit z46 rfl).ne rfl).ev (At.hit z46.put rfl).ev (eq37 9998 ((findL lo ((pathsT lb lo lt).getD k ByteArray.empty)).f0) ((findL lo ((pathsT lb lo lt).getD k ByteArray.empty)).f1) ((findL lo ((pathsT lb lo lt).getD k ByteArray.empty)).f2) zL.f0 zL.f1 zL.f2) (neL_true hb47) ?_)
          refine l_end ?_
          refine e_fresh z46.put.put.put ?_
          intro a48 z48 m48
          have s8_48 := m48 _ _ (((s8_46.ne rfl).ne rfl).ne rfl)
          have s9_48 := m48 _ _ (((s9_46.ne rfl).ne rfl).ne rfl)
          have s10_48 := m48 _ _ (((s10_46.ne rfl).ne rfl).ne rfl)
          have s16_48 := m48 _ _ (((s16_46.ne rfl).ne rfl).ne rfl)
          have s17_48 := m48 _ _ (((s17_46.ne rfl).ne rfl).ne rfl)
          have s20_48 := m48 _ _ (((s20_46.ne rfl).ne rfl).ne rfl)
          have s54_48 := m48 _ _ (((s54_46.ne rfl).ne rfl).ne rfl)
          have s55_48 := m48 _ _ (((s55_46.ne rfl).ne rfl).ne rfl)
          have s56_48 := m48 _ _ (((s56_46.ne rfl).ne rfl).ne rfl)
          have s97_48 := m48 _ _ (At.hit z46.put.put rfl)
          clear m48
          refine e_then ?_
          refine c_true s97_48 ?_
          refine c_region ?_
          refine l_q rfl (q_move _ _ rfl s16_48.ev ?_)
          refine l_q rfl (q_row rfl Try.underlying37 rfl (sz37.trans (congrArg some rfl.symm)) (s20_48.ne rfl).ev (fun _ e => by rw [e]; exact k41) ?_)
          refine l_buildF (vs := [.string ((findL lo ((pathsT lb lo lt).getD k ByteArray.empty)).f0), .int .i64 ((findL lo ((pathsT lb lo lt).getD k ByteArray.empty)).f1), .string ((findL lo ((pathsT lb lo lt).getD k ByteArray.empty)).f2)]) rfl rfl Try.underlying22 rec37 (At.hit z48.put rfl).ev rfl rfl (by decide) (by decide) ?_
          intro g100_49 w49 hg49 k49 h49
          have onx16_g100_49 : ∀ k, Value.ownBlock v16_37 = some k → k < g100_49 := fun k hk => Nat.lt_of_lt_of_le (OwnF.own_lt ox16_41 hk) hg49
          have lt_g20_g100_49 := Nat.lt_of_lt_of_le (heap_lt k41) hg49
          have nmlb_g100_49 := Nat.ne_of_lt (Nat.lt_of_lt_of_le kmlb_41.lt hg49)
          have nmlo_g100_49 := Nat.ne_of_lt (Nat.lt_of_lt_of_le kmlo_41.lt hg49)
          have nmlt_g100_49 := Nat.ne_of_lt (Nat.lt_of_lt_of_le kmlt_41.lt hg49)
          have geg100_49 := Nat.le_trans low42.ge hg49
          have kmlb_49 := kmlb_41.low h49
          have kmlo_49 := kmlo_41.low h49
          have kmlt_49 := kmlt_41.low h49
          have kg20_49 := h49.blk k41
          have ox16_49 := ox16_41.low h49
          have ox17_49 := ox17_41.low h49
          have ob35_49 := (o35.low ((low37.trans h40).upd u41 geg20)).low h49
          refine l_appF (B := w35.heap.size) rfl rfl Try.underlying22 rec37 (((At.hit z48 rfl).ne rfl).ne rfl).ev (At.hit z48.put.put rfl).ev k49 rfl (by decide) rfl ox16_49 (low42.trans h49).ge (by omega) ?_
          intro v50 w50 o50 gr50
          have kmlb_50 := kmlb_49.grw gr50
          have kmlo_50 := kmlo_49.grw gr50
          have kmlt_50 := kmlt_49.grw gr50
          have kg20_50 := gr50.blkn kg20_49 onx16_g20
          have lw50 := (low42.trans h49).grw gr50
          have ox17_50 := ox17_49.grw gr50 rfl
          replace o50 := o50.cast (show _ = ((outT lb lo lt ((pathsT lb lo lt).take k)) ++ [(findL lo ((pathsT lb lo lt).getD k ByteArray.empty))]).length by rw [List.length_append]; rfl) (flat_snoc (enc := encL) (outT lb lo lt ((pathsT lb lo lt).take k)) (findL lo ((pathsT lb lo lt).getD k ByteArray.empty)))
          refine l_q rfl (q_assign _ _ rfl (At.hit z48.put.put.put rfl).ev ?_)
          refine l_end ?_
          refine e_fresh z48.put.put.put.put.put ?_
          intro a51 z51 m51
          have s8_51 := m51 _ _ (((((s8_48.ne rfl).ne rfl).ne rfl).ne rfl).ne rfl)
          have s9_51 := m51 _ _ (((((s9_48.ne rfl).ne rfl).ne rfl).ne rfl).ne rfl)
          have s10_51 := m51 _ _ (((((s10_48.ne rfl).ne rfl).ne rfl).ne rfl).ne rfl)
          have s16_51 := m51 _ _ (At.hit z48.put.put.put.put rfl)
          have s17_51 := m51 _ _ (((((s17_48.ne rfl).ne rfl).ne rfl).ne rfl).ne rfl)
          have s54_51 := m51 _ _ (((((s54_48.ne rfl).ne rfl).ne rfl).ne rfl).ne rfl)
          have s55_51 := m51 _ _ (((((s55_48.ne rfl).ne rfl).ne rfl).ne rfl).ne rfl)
          have s56_51 := m51 _ _ (((((s56_48.ne rfl).ne rfl).ne rfl).ne rfl).ne rfl)
          have low51 := lw50
          clear m51
          refine e_in ?_
          refine e_then ?_
          refine c_region ?_
          refine l_q rfl (q_add (((k + 1 : Nat) : Int)) rfl s56_51.ev rfl (i64_is (by omega) (by omega) (by omega)) ?_)
          refine l_q rfl (q_move _ _ rfl (At.hit z51 rfl).ev ?_)
          refine l_end ?_
          refine e_fresh z51.put.put ?_
          intro a52 z52 m52
          have s8_52 := m52 _ _ ((s8_51.ne rfl).ne rfl)
          have s9_52 := m52 _ _ ((s9_51.ne rfl).ne rfl)
          have s10_52 := m52 _ _ ((s10_51.ne rfl).ne rfl)
          have s16_52 := m52 _ _ ((s16_51.ne rfl).ne rfl)
          have s17_52 := m52 _ _ ((s17_51.ne rfl).ne rfl)
          have s54_52 := m52 _ _ ((s54_51.ne rfl).ne rfl)
          have s55_52 := m52 _ _ ((s55_51.ne rfl).ne rfl)
          have s56_52 := m52 _ _ (At.hit z51.put rfl)
          clear m52
          have c53 := OwnF.castL o50 (show (outT lb lo lt ((pathsT lb lo lt).take k)) ++ [(findL lo ((pathsT lb lo lt).getD k ByteArray.empty))] = outT lb lo lt ((pathsT lb lo lt).take (k + 1)) from out_next (by omega) (cell_1 hb43) hb47)
          have c54 := OwnF.castL ox17_50 (show badT lb lo lt ((pathsT lb lo lt).take k) = badT lb lo lt ((pathsT lb lo lt).take (k + 1)) from bad_skip (by omega) (clash_1 hb43))
          exact ⟨v50, v17_37, z52, s8_52, s9_52, s10_52, s16_52, s17_52, s54_52, s55_52, s56_52, kmlb_50, kmlo_50, kmlt_50, c53, c54, low51⟩
        · skip
          refine c_region ?_
          refine l_q rfl (q_row rfl Try.underlying37 rfl (sz37.trans (congrArg some rfl.symm)) s20_46.ev (fun _ e => by rw [e]; exact k41) ?_)
          refine l_q rfl (q_build (cs := #[.string zL.f0, .int .i64 zL.f1, .string zL.f2]) rfl rfl (by kernel_rfl) ?_)
          refine l_q rfl (q_ne3 false rfl guard37 ((At.hit z46 rfl).ne rfl).ev (At.hit z46.put rfl).ev (eq37 9998 ((findL lo ((pathsT lb lo lt).getD k ByteArray.empty)).f0) ((findL lo ((pathsT lb lo lt).getD k ByteArray.empty)).f1) ((findL lo ((pathsT lb lo lt).getD k ByteArray.empty)).f2) zL.f0 zL.f1 zL.f2) (neL_false (Decidable.not_not.1 hb47)) ?_)
          refine l_end ?_
          refine e_fresh z46.put.put.put ?_
          intro a55 z55 m55
          have s8_55 := m55 _ _ (((s8_46.ne rfl).ne rfl).ne rfl)
          have s9_55 := m55 _ _ (((s9_46.ne rfl).ne rfl).ne rfl)
          have s10_55 := m55 _ _ (((s10_46.ne rfl).ne rfl).ne rfl)
          have s16_55 := m55 _ _ (((s16_46.ne rfl).ne rfl).ne rfl)
          have s17_55 := m55 _ _ (((s17_46.ne rfl).ne rfl).ne rfl)
          have s20_55 := m55 _ _ (((s20_46.ne rfl).ne rfl).ne rfl)
          have s54_55 := m55 _ _ (((s54_46.ne rfl).ne rfl).ne rfl)
          have s55_55 := m55 _ _ (((s55_46.ne rfl).ne rfl).ne rfl)
          have s56_55 := m55 _ _ (((s56_46.ne rfl).ne rfl).ne rfl)
          have s97_55 := m55 _ _ (At.hit z46.put.put rfl)
          clear m55
          refine e_then ?_
          refine c_false s97_55 ?_
          refine wp_skip ?_
          refine e_in ?_
          refine e_then ?_
          refine c_region ?_
          refine l_q rfl (q_add (((k + 1 : Nat) : Int)) rfl s56_55.ev rfl (i64_is (by omega) (by omega) (by omega)) ?_)
          refine l_q rfl (q_move _ _ rfl (At.hit z55 rfl).ev ?_)
          refine l_end ?_
          refine e_fresh z55.put.put ?_
          intro a56 z56 m56
          have s8_56 := m56 _ _ ((s8_55.ne rfl).ne rfl)
          have s9_56 := m56 _ _ ((s9_55.ne rfl).ne rfl)
          have s10_56 := m56 _ _ ((s10_55.ne rfl).ne rfl)
          have s16_56 := m56 _ _ ((s16_55.ne rfl).ne rfl)
          have s17_56 := m56 _ _ ((s17_55.ne rfl).ne rfl)
          have s54_56 := m56 _ _ ((s54_55.ne rfl).ne rfl)
          have s55_56 := m56 _ _ ((s55_55.ne rfl).ne rfl)
          have s56_56 := m56 _ _ (At.hit z55.put rfl)
          clear m56
          have c57 := OwnF.castL ox16_41 (show outT lb lo lt ((pathsT lb lo lt).take k) = outT lb lo lt ((pathsT lb lo lt).take (k + 1)) from out_skip (by omega) (cell_1 hb43) hb47)
          have c58 := OwnF.castL ox17_41 (show badT lb lo lt ((pathsT lb lo lt).take k) = badT lb lo lt ((pathsT lb lo lt).take (k + 1)) from bad_skip (by omega) (clash_1 hb43))
          exact ⟨v16_37, v17_37, z56, s8_56, s9_56, s10_56, s16_56, s17_56, s54_56, s55_56, s56_56, kmlb_41, kmlo_41, kmlt_41, c57, c58, low42⟩
      · skip
        by_cases hb59 : findL lt ((pathsT lb lo lt).getD k ByteArray.empty) = findL lb ((pathsT lb lo lt).getD k ByteArray.empty)
        · skip
          refine c_region ?_
          refine l_q rfl (q_move _ _ rfl s9_42.ev ?_)
          refine l_q rfl (q_move _ _ rfl (s19_42.ne rfl).ev ?_)
          refine l_q rfl (q_look (.agg (#[.string ((findL lo ((pathsT lb lo lt).getD k ByteArray.empty)).f0), .int .i64 ((findL lo ((pathsT lb lo lt).getD k ByteArray.empty)).f1), .string ((findL lo ((pathsT lb lo lt).getD k ByteArray.empty)).f2)])) rfl Try.underlying35 Try.underlying9 zero37 ((At.hit z42 rfl).ne rfl).ev (At.hit z42.put rfl).ev (fun _ e => by rw [e]; exact kmlo_41) (look_mapL lo ((pathsT lb lo lt).getD k ByteArray.empty)) ?_)
          refine l_q rfl (q_move _ _ rfl (((s10_42.ne rfl).ne rfl).ne rfl).ev ?_)
          refine l_q rfl (q_move _ _ rfl ((((s19_42.ne rfl).ne rfl).ne rfl).ne rfl).ev ?_)
          refine l_q rfl (q_look (.agg (#[.string ((findL lt ((pathsT lb lo lt).getD k ByteArray.empty)).f0), .int .i64 ((findL lt ((pathsT lb lo lt).getD k ByteArray.empty)).f1), .string ((findL lt ((pathsT lb lo lt).getD k ByteArray.empty)).f2)])) rfl Try.underlying35 Try.underlying9 zero37 ((At.hit z42.put.put.put rfl).ne rfl).ev (At.hit z42.put.put.put.put rfl).ev (fun _ e => by rw [e]; exact kmlt_41) (look_mapL lt ((pathsT lb lo lt).getD k ByteArray.empty)) ?_)
          refine l_q rfl (q_eq3 false rfl guard37 ((((At.hit z42.put.put rfl).ne rfl).ne rfl).ne rfl).ev (At.hit z42.put.put.put.put.put rfl).ev (eq37 9998 ((findL lo ((pathsT lb lo lt).getD k ByteArray.empty)).f0) ((findL lo ((pathsT lb lo lt).getD k ByteArray.empty)).f1) ((findL lo ((pathsT lb lo lt).getD k ByteArray.empty)).f2) ((findL lt ((pathsT lb lo lt).getD k ByteArray.empty)).f0) ((findL lt ((pathsT lb lo lt).getD k ByteArray.empty)).f1) ((findL lt ((pathsT lb lo lt).getD k ByteArray.empty)).f2)) (eqL_false hb43) ?_)
          refine l_q rfl (q_move _ _ rfl (At.hit z42.put.put.put.put.put.put rfl).ev ?_)
          refine l_fresh z42.put.put.put.put.put.put.put.put ?_
          intro a60 z60 m60
          have s8_60 := m60 _ _ ((((((((s8_42.ne rfl).ne rfl).ne rfl).ne rfl).ne rfl).ne rfl).ne rfl).ne rfl)
          have s9_60 := m60 _ _ ((((((((s9_42.ne rfl).ne rfl).ne rfl).ne rfl).ne rfl).ne rfl).ne rfl).ne rfl)
          have s10_60 := m60 _ _ ((((((((s10_42.ne rfl).ne rfl).ne rfl).ne rfl).ne rfl).ne rfl).ne rfl).ne rfl)
          have s16_60 := m60 _ _ ((((((((s16_42.ne rfl).ne rfl).ne rfl).ne rfl).ne rfl).ne rfl).ne rfl).ne rfl)
          have s17_60 := m60 _ _ ((((((((s17_42.ne rfl).ne rfl).ne rfl).ne rfl).ne rfl).ne rfl).ne rfl).ne rfl)
          have s19_60 := m60 _ _ ((((((((s19_42.ne rfl).ne rfl).ne rfl).ne rfl).ne rfl).ne rfl).ne rfl).ne rfl)
          have s20_60 := m60 _ _ ((((((((s20_42.ne rfl).ne rfl).ne rfl).ne rfl).ne rfl).ne rfl).ne rfl).ne rfl)
          have s54_60 := m60 _ _ ((((((((s54_42.ne rfl).ne rfl).ne rfl).ne rfl).ne rfl).ne rfl).ne rfl).ne rfl)
          have s55_60 := m60 _ _ ((((((((s55_42.ne rfl).ne rfl).ne rfl).ne rfl).ne rfl).ne rfl).ne rfl).ne rfl)
          have s56_60 := m60 _ _ ((((((((s56_42.ne rfl).ne rfl).ne rfl).ne rfl).ne rfl).ne rfl).ne rfl).ne rfl)
          have s75_60 := m60 _ _ (At.hit z42.put.put.put.put.put.put.put rfl)
          clear m60
          refine l_qg (wanted_is (j := 7) (d := 75) (b := false) rfl rfl s75_60 rfl) (q_move _ _ rfl s10_60.ev ?_)
          refine l_qg (wanted_is (j := 7) (d := 75) (b := false) rfl rfl (s75_60.ne rfl) rfl) (q_move _ _ rfl (s19_60.ne rfl).ev ?_)
          refine l_qg (wanted_is (j := 7) (d := 75) (b := false) rfl rfl ((s75_60.ne rfl).ne rfl) rfl) (q_look (.agg (#[.string ((findL lt ((pathsT lb lo lt).getD k ByteArray.empty)).f0), .int .i64 ((findL lt ((pathsT lb lo lt).getD k ByteArray.empty)).f1), .string ((findL lt ((pathsT lb lo lt).getD k ByteArray.empty)).f2)])) rfl Try.underlying35 Try.underlying9 zero37 ((At.hit z60 rfl).ne rfl).ev (At.hit z60.put rfl).ev (fun _ e => by rw [e]; exact kmlt_41) (look_mapL lt ((pathsT lb lo lt).getD k ByteArray.empty)) ?_)
          refine l_qg (wanted_is (j := 7) (d := 75) (b := false) rfl rfl (((s75_60.ne rfl).ne rfl).ne rfl) rfl) (q_move _ _ rfl (((s8_60.ne rfl).ne rfl).ne rfl).ev ?_)
          refine l_qg (wanted_is (j := 7) (d := 75) (b := false) rfl rfl ((((s75_60.ne rfl).ne rfl).ne rfl).ne rfl) rfl) (q_move _ _ rfl ((((s19_60.ne rfl).ne rfl).ne rfl).ne rfl).ev ?_)
          refine l_qg (wanted_is (j := 7) (d := 75) (b := false) rfl rfl (((((s75_60.ne rfl).ne rfl).ne rfl).ne rfl).ne rfl) rfl) (q_look (.agg (#[.string ((findL lb ((pathsT lb lo lt).getD k ByteArray.empty)).f0), .int .i64 ((findL lb ((pathsT lb lo lt).getD k ByteArray.empty)).f1), .string ((findL lb ((pathsT lb lo lt).getD k ByteArray.empty)).f2)])) rfl Try.underlying35 Try.underlying9 zero37 ((At.hit z60.put.put.put rfl).ne rfl).ev (At.hit z60.put.put.put.put rfl).ev (fun _ e => by rw [e]; exact kmlb_41) (look_mapL lb ((pathsT lb lo lt).getD k ByteArray.empty)) ?_)
          refine l_qg (wanted_is (j := 7) (d := 75) (b := false) rfl rfl ((((((s75_60.ne rfl).ne rfl).ne rfl).ne rfl).ne rfl).ne rfl) rfl) (q_eq3 true rfl guard37 ((((At.hit z60.put.put rfl).ne rfl).ne rfl).ne rfl).ev (At.hit z60.put.put.put.put.put rfl).ev (eq37 9998 ((findL lt ((pathsT lb lo lt).getD k ByteArray.empty)).f0) ((findL lt ((pathsT lb lo lt).getD k ByteArray.empty)).f1) ((findL lt ((pathsT lb lo lt).getD k ByteArray.empty)).f2) ((findL lb ((pathsT lb lo lt).getD k ByteArray.empty)).f0) ((findL lb ((pathsT lb lo lt).getD k ByteArray.empty)).f1) ((findL lb ((pathsT lb lo lt).getD k ByteArray.empty)).f2)) (eqL_true hb59) ?_)
          refine l_q rfl (q_pick (b := false) (.bool true) rfl (((((((s75_60.ne rfl).ne rfl).ne rfl).ne rfl).ne rfl).ne rfl).ne rfl).ev (At.hit z60.put.put.put.put.put.put rfl).ev ?_)
          refine l_fresh z60.put.put.put.put.put.put.put.put ?_
          intro a61 z61 m61
          have s8_61 := m61 _ _ ((((((((s8_60.ne rfl).ne rfl).ne rfl).ne rfl).ne rfl).ne rfl).ne rfl).ne rfl)
          have s9_61 := m61 _ _ ((((((((s9_60.ne rfl).ne rfl).ne rfl).ne rfl).ne rfl).ne rfl).ne rfl).ne rfl)
          have s10_61 := m61 _ _ ((((((((s10_60.ne rfl).ne rfl).ne rfl).ne rfl).ne rfl).ne rfl).ne rfl).ne rfl)
          have s16_61 := m61 _ _ ((((((((s16_60.ne rfl).ne rfl).ne rfl).ne rfl).ne rfl).ne rfl).ne rfl).ne rfl)
          have s17_61 := m61 _ _ ((((((((s17_60.ne rfl).ne rfl).ne rfl).ne rfl).ne rfl).ne rfl).ne rfl).ne rfl)
          have s19_61 := m61 _ _ ((((((((s19_60.ne rfl).ne rfl).ne rfl).ne rfl).ne rfl).ne rfl).ne rfl).ne rfl)
          have s20_61 := m61 _ _ ((((((((s20_60.ne rfl).ne rfl).ne rfl).ne rfl).ne rfl).ne rfl).ne rfl).ne rfl)
          have s54_61 := m61 _ _ ((((((((s54_60.ne rfl).ne rfl).ne rfl).ne rfl).ne rfl).ne rfl).ne rfl).ne rfl)
          have s55_61 := m61 _ _ ((((((((s55_60.ne rfl).ne rfl).ne rfl).ne rfl).ne rfl).ne rfl).ne rfl).ne rfl)
          have s56_61 := m61 _ _ ((((((((s56_60.ne rfl).ne rfl).ne rfl).ne rfl).ne rfl).ne rfl).ne rfl).ne rfl)
          have s83_61 := m61 _ _ (At.hit z60.put.put.put.put.put.put.put rfl)
          clear m61
          refine l_q rfl (q_assign _ _ rfl s83_61.ev ?_)
          refine l_end ?_
          refine e_fresh z61.put ?_
          intro a62 z62 m62
          have s8_62 := m62 _ _ (s8_61.ne rfl)
          have s9_62 := m62 _ _ (s9_61.ne rfl)
          have s10_62 := m62 _ _ (s10_61.ne rfl)
          have s16_62 := m62 _ _ (s16_61.ne rfl)
          have s17_62 := m62 _ _ (s17_61.ne rfl)
          have s19_62 := m62 _ _ (s19_61.ne rfl)
          have s20_62 := m62 _ _ (s20_61.ne rfl)
          have s54_62 := m62 _ _ (s54_61.ne rfl)
          have s55_62 := m62 _ _ (s55_61.ne rfl)
          have s56_62 := m62 _ _ (s56_61.ne rfl)
          have s67_62 := m62 _ _ (At.hit z61 rfl)
          clear m62
          refine e_then ?_
          refine c_true s67_62 ?_
          refine wp_skip ?_
          refine e_in ?_
          refine e_then ?_
          refine c_seq ?_
          by_cases hb63 : ¬ findL lo ((pathsT lb lo lt).getD k ByteArray.empty) = zL
          · skip
            refine c_region ?_
            refine l_q rfl (q_row rfl Try.underlying37 rfl (sz37.trans (congrArg some rfl.symm)) s20_62.ev (fun _ e => by rw [e]; exact k41) ?_)
            refine l_q rfl (q_build (cs := #[.string zL.f0, .int .i64 zL.f1, .string zL.f2]) rfl rfl (by kernel_rfl) ?_)
            refine l_q rfl (q_ne3 true rfl guard37 ((At.hit z62 rfl).ne rfl).ev (At.hit z62.put rfl).ev (eq37 9998 ((findL lo ((pathsT lb lo lt).getD k ByteArray.empty)).f0) ((findL lo ((pathsT lb lo lt).getD k ByteArray.empty)).f1) ((findL lo ((pathsT lb lo lt).getD k ByteArray.empty)).f2) zL.f0 zL.f1 zL.f2) (neL_true hb63) ?_)
            refine l_end ?_
            refine e_fresh z62.put.put.put ?_
            intro a64 z64 m64
            have s8_64 := m64 _ _ (((s8_62.ne rfl).ne rfl).ne rfl)
            have s9_64 := m64 _ _ (((s9_62.ne rfl).ne rfl).ne rfl)
            have s10_64 := m64 _ _ (((s10_62.ne rfl).ne rfl).ne rfl)
            have s16_64 := m64 _ _ (((s16_62.ne rfl).ne rfl).ne rfl)
            have s17_64 := m64 _ _ (((s17_62.ne rfl).ne rfl).ne rfl)
            have s20_64 := m64 _ _ (((s20_62.ne rfl).ne rfl).ne rfl)
            have s54_64 := m64 _ _ (((s54_62.ne rfl).ne rfl).ne rfl)
            have s55_64 := m64 _ _ (((s55_62.ne rfl).ne rfl).ne rfl)
            have s56_64 := m64 _ _ (((s56_62.ne rfl).ne rfl).ne rfl)
            have s97_64 := m64 _ _ (At.hit z62.put.put rfl)
            clear m64
            refine e_then ?_
            refine c_true s97_64 ?_
            refine c_region ?_
            refine l_q rfl (q_move _ _ rfl s16_64.ev ?_)
            refine l_q rfl (q_row rfl Try.underlying37 rfl (sz37.trans (congrArg some rfl.symm)) (s20_64.ne rfl).ev (fun _ e => by rw [e]; exact k41) ?_)
            refine l_buildF (vs := [.string ((findL lo ((pathsT lb lo lt).getD k ByteArray.empty)).f0), .int .i64 ((findL lo ((pathsT lb lo lt).getD k ByteArray.empty)).f1), .string ((findL lo ((pathsT lb lo lt).getD k ByteArray.empty)).f2)]) rfl rfl Try.underlying22 rec37 (At.hit z64.put rfl).ev rfl rfl (by decide) (by decide) ?_
            intro g100_65 w65 hg65 k65 h65
            have onx16_g100_65 : ∀ k, Value.ownBlock v16_37 = some k → k < g100_65 := fun k hk => Nat.lt_of_lt_of_le (OwnF.own_lt ox16_41 hk) hg65
            have lt_g20_g100_65 := Nat.lt_of_lt_of_le (heap_lt k41) hg65
            have nmlb_g100_65 := Nat.ne_of_lt (Nat.lt_of_lt_of_le kmlb_41.lt hg65)
            have nmlo_g100_65 := Nat.ne_of_lt (Nat.lt_of_lt_of_le kmlo_41.lt hg65)
            have nmlt_g100_65 := Nat.ne_of_lt (Nat.lt_of_lt_of_le kmlt_41.lt hg65)
            have geg100_65 := Nat.le_trans low42.ge hg65
            have kmlb_65 := kmlb_41.low h65
            have kmlo_65 := kmlo_41.low h65
            have kmlt_65 := kmlt_41.low h65
            have kg20_65 := h65.blk k41
            have ox16_65 := ox16_41.low h65
            have ox17_65 := ox17_41.low h65
            have ob35_65 := (o35.low ((low37.trans h40).upd u41 geg20)).low h65
            refine l_appF (B := w35.heap.size) rfl rfl Try.underlying22 rec37 (((At.hit z64 rfl).ne rfl).ne rfl).ev (At.hit z64.put.put rfl).ev k65 rfl (by decide) rfl ox16_65 (low42.trans h65).ge (by omega) ?_
            intro v66 w66 o66 gr66
            have kmlb_66 := kmlb_65.grw gr66
            have kmlo_66 := kmlo_65.grw gr66
            have kmlt_66 := kmlt_65.grw gr66
            have kg20_66 := gr66.blkn kg20_65 onx16_g20
            have lw66 := (low42.trans h65).grw gr66
            have ox17_66 := ox17_65.grw gr66 rfl
            replace o66 := o66.cast (show _ = ((outT lb lo lt ((pathsT lb lo lt).take k)) ++ [(findL lo ((pathsT lb lo lt).getD k ByteArray.empty))]).length by rw [List.length_append]; rfl) (flat_snoc (enc := encL) (outT lb lo lt ((pathsT lb lo lt).take k)) (findL lo ((pathsT lb lo lt).getD k ByteArray.empty)))
            refine l_q rfl (q_assign _ _ rfl (At.hit z64.put.put.put rfl).ev ?_)
            refine l_end ?_
            refine e_fresh z64.put.put.put.put.put ?_
            intro a67 z67 m67
            have s8_67 := m67 _ _ (((((s8_64.ne rfl).ne rfl).ne rfl).ne rfl).ne rfl)
            have s9_67 := m67 _ _ (((((s9_64.ne rfl).ne rfl).ne rfl).ne rfl).ne rfl)
            have s10_67 := m67 _ _ (((((s10_64.ne rfl).ne rfl).ne rfl).ne rfl).ne rfl)
            have s16_67 := m67 _ _ (At.hit z64.put.put.put.put rfl)
            have s17_67 := m67 _ _ (((((s17_64.ne rfl).ne rfl).ne rfl).ne rfl).ne rfl)
            have s54_67 := m67 _ _ (((((s54_64.ne rfl).ne rfl).ne rfl).ne rfl).ne rfl)
            have s55_67 := m67 _ _ (((((s55_64.ne rfl).ne rfl).ne rfl).ne rfl).ne rfl)
            have s56_67 := m67 _ _ (((((s56_64.ne rfl).ne rfl).ne rfl).ne rfl).ne rfl)
            have low67 := lw66
            clear m67
            refine e_in ?_
            refine e_then ?_
            refine c_region ?_
            refine l_q rfl (q_add (((k + 1 : Nat) : Int)) rfl s56_67.ev rfl (i64_is (by omega) (by omega) (by omega)) ?_)
            refine l_q rfl (q_move _ _ rfl (At.hit z67 rfl).ev ?_)
            refine l_end ?_
            refine e_fresh z67.put.put ?_
            intro a68 z68 m68
            have s8_68 := m68 _ _ ((s8_67.ne rfl).ne rfl)
            have s9_68 := m68 _ _ ((s9_67.ne rfl).ne rfl)
            have s10_68 := m68 _ _ ((s10_67.ne rfl).ne rfl)
            have s16_68 := m68 _ _ ((s16_67.ne rfl).ne rfl)
            have s17_68 := m68 _ _ ((s17_67.ne rfl).ne rfl)
            have s54_68 := m68 _ _ ((s54_67.ne rfl).ne rfl)
            have s55_68 := m68 _ _ ((s55_67.ne rfl).ne rfl)
            have s56_68 := m68 _ _ (At.hit z67.put rfl)
            clear m68
            have c69 := OwnF.castL o66 (show (outT lb lo lt ((pathsT lb lo lt).take k)) ++ [(findL lo ((pathsT lb lo lt).getD k ByteArray.empty))] = outT lb lo lt ((pathsT lb lo lt).take (k + 1)) from out_next (by omega) (cell_2 hb59) hb63)
            have c70 := OwnF.castL ox17_66 (show badT lb lo lt ((pathsT lb lo lt).take k) = badT lb lo lt ((pathsT lb lo lt).take (k + 1)) from bad_skip (by omega) (clash_2 hb59))
            exact ⟨v66, v17_37, z68, s8_68, s9_68, s10_68, s16_68, s17_68, s54_68, s55_68, s56_68, kmlb_66, kmlo_66, kmlt_66, c69, c70, low67⟩
          · skip
            refine c_region ?_
            refine l_q rfl (q_row rfl Try.underlying37 rfl (sz37.trans (congrArg some rfl.symm)) s20_62.ev (fun _ e => by rw [e]; exact k41) ?_)
            refine l_q rfl (q_build (cs := #[.string zL.f0, .int .i64 zL.f1, .string zL.f2]) rfl rfl (by kernel_rfl) ?_)
            refine l_q rfl (q_ne3 false rfl guard37 ((At.hit z62 rfl).ne rfl).ev (At.hit z62.put rfl).ev (eq37 9998 ((findL lo ((pathsT lb lo lt).getD k ByteArray.empty)).f0) ((findL lo ((pathsT lb lo lt).getD k ByteArray.empty)).f1) ((findL lo ((pathsT lb lo lt).getD k ByteArray.empty)).f2) zL.f0 zL.f1 zL.f2) (neL_false (Decidable.not_not.1 hb63)) ?_)
            refine l_end ?_
            refine e_fresh z62.put.put.put ?_
            intro a71 z71 m71
            have s8_71 := m71 _ _ (((s8_62.ne rfl).ne rfl).ne rfl)
            have s9_71 := m71 _ _ (((s9_62.ne rfl).ne rfl).ne rfl)
            have s10_71 := m71 _ _ (((s10_62.ne rfl).ne rfl).ne rfl)
            have s16_71 := m71 _ _ (((s16_62.ne rfl).ne rfl).ne rfl)
            have s17_71 := m71 _ _ (((s17_62.ne rfl).ne rfl).ne rfl)
            have s20_71 := m71 _ _ (((s20_62.ne rfl).ne rfl).ne rfl)
            have s54_71 := m71 _ _ (((s54_62.ne rfl).ne rfl).ne rfl)
            have s55_71 := m71 _ _ (((s55_62.ne rfl).ne rfl).ne rfl)
            have s56_71 := m71 _ _ (((s56_62.ne rfl).ne rfl).ne rfl)
            have s97_71 := m71 _ _ (At.hit z62.put.put rfl)
            clear m71
            refine e_then ?_
            refine c_false s97_71 ?_
            refine wp_skip ?_
            refine e_in ?_
            refine e_then ?_
            refine c_region ?_
            refine l_q rfl (q_add (((k + 1 : Nat) : Int)) rfl s56_71.ev rfl (i64_is (by omega) (by omega) (by omega)) ?_)
            refine l_q rfl (q_move _ _ rfl (At.hit z71 rfl).ev ?_)
            refine l_end ?_
            refine e_fresh z71.put.put ?_
            intro a72 z72 m72
            have s8_72 := m72 _ _ ((s8_71.ne rfl).ne rfl)
            have s9_72 := m72 _ _ ((s9_71.ne rfl).ne rfl)
            have s10_72 := m72 _ _ ((s10_71.ne rfl).ne rfl)
            have s16_72 := m72 _ _ ((s16_71.ne rfl).ne rfl)
            have s17_72 := m72 _ _ ((s17_71.ne rfl).ne rfl)
            have s54_72 := m72 _ _ ((s54_71.ne rfl).ne rfl)
            have s55_72 := m72 _ _ ((s55_71.ne rfl).ne rfl)
            have s56_72 := m72 _ _ (At.hit z71.put rfl)
            clear m72
            have c73 := OwnF.castL ox16_41 (show outT lb lo lt ((pathsT lb lo lt).take k) = outT lb lo lt ((pathsT lb lo lt).take (k + 1)) from out_skip (by omega) (cell_2 hb59) hb63)
            have c74 := OwnF.castL ox17_41 (show badT lb lo lt ((pathsT lb lo lt).take k) = badT lb lo lt ((pathsT lb lo lt).take (k + 1)) from bad_skip (by omega) (clash_2 hb59))
            exact ⟨v16_37, v17_37, z72, s8_72, s9_72, s10_72, s16_72, s17_72, s54_72, s55_72, s56_72, kmlb_41, kmlo_41, kmlt_41, c73, c74, low42⟩
        · skip
          refine c_region ?_
          refine l_q rfl (q_move _ _ rfl s9_42.ev ?_)
          refine l_q rfl (q_move _ _ rfl (s19_42.ne rfl).ev ?_)
          refine l_q rfl (q_look (.agg (#[.string ((findL lo ((pathsT lb lo lt).getD k ByteArray.empty)).f0), .int .i64 ((findL lo ((pathsT lb lo lt).getD k ByteArray.empty)).f1), .string ((findL lo ((pathsT lb lo lt).getD k ByteArray.empty)).f2)])) rfl Try.underlying35 Try.underlying9 zero37 ((At.hit z42 rfl).ne rfl).ev (At.hit z42.put rfl).ev (fun _ e => by rw [e]; exact kmlo_41) (look_mapL lo ((pathsT lb lo lt).getD k ByteArray.empty)) ?_)
          refine l_q rfl (q_move _ _ rfl (((s10_42.ne rfl).ne rfl).ne rfl).ev ?_)
          refine l_q rfl (q_move _ _ rfl ((((s19_42.ne rfl).ne rfl).ne rfl).ne rfl).ev ?_)
          refine l_q rfl (q_look (.agg (#[.string ((findL lt ((pathsT lb lo lt).getD k ByteArray.empty)).f0), .int .i64 ((findL lt ((pathsT lb lo lt).getD k ByteArray.empty)).f1), .string ((findL lt ((pathsT lb lo lt).getD k ByteArray.empty)).f2)])) rfl Try.underlying35 Try.underlying9 zero37 ((At.hit z42.put.put.put rfl).ne rfl).ev (At.hit z42.put.put.put.put rfl).ev (fun _ e => by rw [e]; exact kmlt_41) (look_mapL lt ((pathsT lb lo lt).getD k ByteArray.empty)) ?_)
          refine l_q rfl (q_eq3 false rfl guard37 ((((At.hit z42.put.put rfl).ne rfl).ne rfl).ne rfl).ev (At.hit z42.put.put.put.put.put rfl).ev (eq37 9998 ((findL lo ((pathsT lb lo lt).getD k ByteArray.empty)).f0) ((findL lo ((pathsT lb lo lt).getD k ByteArray.empty)).f1) ((findL lo ((pathsT lb lo lt).getD k ByteArray.empty)).f2) ((findL lt ((pathsT lb lo lt).getD k ByteArray.empty)).f0) ((findL lt ((pathsT lb lo lt).getD k ByteArray.empty)).f1) ((findL lt ((pathsT lb lo lt).getD k ByteArray.empty)).f2)) (eqL_false hb43) ?_)
          refine l_q rfl (q_move _ _ rfl (At.hit z42.put.put.put.put.put.put rfl).ev ?_)
          refine l_fresh z42.put.put.put.put.put.put.put.put ?_
          intro a75 z75 m75
          have s8_75 := m75 _ _ ((((((((s8_42.ne rfl).ne rfl).ne rfl).ne rfl).ne rfl).ne rfl).ne rfl).ne rfl)
          have s9_75 := m75 _ _ ((((((((s9_42.ne rfl).ne rfl).ne rfl).ne rfl).ne rfl).ne rfl).ne rfl).ne rfl)
          have s10_75 := m75 _ _ ((((((((s10_42.ne rfl).ne rfl).ne rfl).ne rfl).ne rfl).ne rfl).ne rfl).ne rfl)
          have s16_75 := m75 _ _ ((((((((s16_42.ne rfl).ne rfl).ne rfl).ne rfl).ne rfl).ne rfl).ne rfl).ne rfl)
          have s17_75 := m75 _ _ ((((((((s17_42.ne rfl).ne rfl).ne rfl).ne rfl).ne rfl).ne rfl).ne rfl).ne rfl)
          have s19_75 := m75 _ _ ((((((((s19_42.ne rfl).ne rfl).ne rfl).ne rfl).ne rfl).ne rfl).ne rfl).ne rfl)
          have s20_75 := m75 _ _ ((((((((s20_42.ne rfl).ne rfl).ne rfl).ne rfl).ne rfl).ne rfl).ne rfl).ne rfl)
          have s54_75 := m75 _ _ ((((((((s54_42.ne rfl).ne rfl).ne rfl).ne rfl).ne rfl).ne rfl).ne rfl).ne rfl)
          have s55_75 := m75 _ _ ((((((((s55_42.ne rfl).ne rfl).ne rfl).ne rfl).ne rfl).ne rfl).ne rfl).ne rfl)
          have s56_75 := m75 _ _ ((((((((s56_42.ne rfl).ne rfl).ne rfl).ne rfl).ne rfl).ne rfl).ne rfl).ne rfl)
          have s75_75 := m75 _ _ (At.hit z42.put.put.put.put.put.put.put rfl)
          clear m75
          refine l_qg (wanted_is (j := 7) (d := 75) (b := false) rfl rfl s75_75 rfl) (q_move _ _ rfl s10_75.ev ?_)
          refine l_qg (wanted_is (j := 7) (d := 75) (b := false) rfl rfl (s75_75.ne rfl) rfl) (q_move _ _ rfl (s19_75.ne rfl).ev ?_)
          refine l_qg (wanted_is (j := 7) (d := 75) (b := false) rfl rfl ((s75_75.ne rfl).ne rfl) rfl) (q_look (.agg (#[.string ((findL lt ((pathsT lb lo lt).getD k ByteArray.empty)).f0), .int .i64 ((findL lt ((pathsT lb lo lt).getD k ByteArray.empty)).f1), .string ((findL lt ((pathsT lb lo lt).getD k ByteArray.empty)).f2)])) rfl Try.underlying35 Try.underlying9 zero37 ((At.hit z75 rfl).ne rfl).ev (At.hit z75.put rfl).ev (fun _ e => by rw [e]; exact kmlt_41) (look_mapL lt ((pathsT lb lo lt).getD k ByteArray.empty)) ?_)
          refine l_qg (wanted_is (j := 7) (d := 75) (b := false) rfl rfl (((s75_75.ne rfl).ne rfl).ne rfl) rfl) (q_move _ _ rfl (((s8_75.ne rfl).ne rfl).ne rfl).ev ?_)
          refine l_qg (wanted_is (j := 7) (d := 75) (b := false) rfl rfl ((((s75_75.ne rfl).ne rfl).ne rfl).ne rfl) rfl) (q_move _ _ rfl ((((s19_75.ne rfl).ne rfl).ne rfl).ne rfl).ev ?_)
          refine l_qg (wanted_is (j := 7) (d := 75) (b := false) rfl rfl (((((s75_75.ne rfl).ne rfl).ne rfl).ne rfl).ne rfl) rfl) (q_look (.agg (#[.string ((findL lb ((pathsT lb lo lt).getD k ByteArray.empty)).f0), .int .i64 ((findL lb ((pathsT lb lo lt).getD k ByteArray.empty)).f1), .string ((findL lb ((pathsT lb lo lt).getD k ByteArray.empty)).f2)])) rfl Try.underlying35 Try.underlying9 zero37 ((At.hit z75.put.put.put rfl).ne rfl).ev (At.hit z75.put.put.put.put rfl).ev (fun _ e => by rw [e]; exact kmlb_41) (look_mapL lb ((pathsT lb lo lt).getD k ByteArray.empty)) ?_)
          refine l_qg (wanted_is (j := 7) (d := 75) (b := false) rfl rfl ((((((s75_75.ne rfl).ne rfl).ne rfl).ne rfl).ne rfl).ne rfl) rfl) (q_eq3 false rfl guard37 ((((At.hit z75.put.put rfl).ne rfl).ne rfl).ne rfl).ev (At.hit z75.put.put.put.put.put rfl).ev (eq37 9998 ((findL lt ((pathsT lb lo lt).getD k ByteArray.empty)).f0) ((findL lt ((pathsT lb lo lt).getD k ByteArray.empty)).f1) ((findL lt ((pathsT lb lo lt).getD k ByteArray.empty)).f2) ((findL lb ((pathsT lb lo lt).getD k ByteArray.empty)).f0) ((findL lb ((pathsT lb lo lt).getD k ByteArray.empty)).f1) ((findL lb ((pathsT lb lo lt).getD k ByteArray.empty)).f2)) (eqL_false hb59) ?_)
          refine l_q rfl (q_pick (b := false) (.bool false) rfl (((((((s75_75.ne rfl).ne rfl).ne rfl).ne rfl).ne rfl).ne rfl).ne rfl).ev (At.hit z75.put.put.put.put.put.put rfl).ev ?_)
          refine l_fresh z75.put.put.put.put.put.put.put.put ?_
          intro a76 z76 m76
          have s8_76 := m76 _ _ ((((((((s8_75.ne rfl).ne rfl).ne rfl).ne rfl).ne rfl).ne rfl).ne rfl).ne rfl)
          have s9_76 := m76 _ _ ((((((((s9_75.ne rfl).ne rfl).ne rfl).ne rfl).ne rfl).ne rfl).ne rfl).ne rfl)
          have s10_76 := m76 _ _ ((((((((s10_75.ne rfl).ne rfl).ne rfl).ne rfl).ne rfl).ne rfl).ne rfl).ne rfl)
          have s16_76 := m76 _ _ ((((((((s16_75.ne rfl).ne rfl).ne rfl).ne rfl).ne rfl).ne rfl).ne rfl).ne rfl)
          have s17_76 := m76 _ _ ((((((((s17_75.ne rfl).ne rfl).ne rfl).ne rfl).ne rfl).ne rfl).ne rfl).ne rfl)
          have s19_76 := m76 _ _ ((((((((s19_75.ne rfl).ne rfl).ne rfl).ne rfl).ne rfl).ne rfl).ne rfl).ne rfl)
          have s20_76 := m76 _ _ ((((((((s20_75.ne rfl).ne rfl).ne rfl).ne rfl).ne rfl).ne rfl).ne rfl).ne rfl)
          have s54_76 := m76 _ _ ((((((((s54_75.ne rfl).ne rfl).ne rfl).ne rfl).ne rfl).ne rfl).ne rfl).ne rfl)
          have s55_76 := m76 _ _ ((((((((s55_75.ne rfl).ne rfl).ne rfl).ne rfl).ne rfl).ne rfl).ne rfl).ne rfl)
          have s56_76 := m76 _ _ ((((((((s56_75.ne rfl).ne rfl).ne rfl).ne rfl).ne rfl).ne rfl).ne rfl).ne rfl)
          have s83_76 := m76 _ _ (At.hit z75.put.put.put.put.put.put.put rfl)
          clear m76
          refine l_q rfl (q_assign _ _ rfl s83_76.ev ?_)
          refine l_end ?_
          refine e_fresh z76.put ?_
          intro a77 z77 m77
          have s8_77 := m77 _ _ (s8_76.ne rfl)
          have s9_77 := m77 _ _ (s9_76.ne rfl)
          have s10_77 := m77 _ _ (s10_76.ne rfl)
          have s16_77 := m77 _ _ (s16_76.ne rfl)
          have s17_77 := m77 _ _ (s17_76.ne rfl)
          have s19_77 := m77 _ _ (s19_76.ne rfl)
          have s20_77 := m77 _ _ (s20_76.ne rfl)
          have s54_77 := m77 _ _ (s54_76.ne rfl)
          have s55_77 := m77 _ _ (s55_76.ne rfl)
          have s56_77 := m77 _ _ (s56_76.ne rfl)
          have s67_77 := m77 _ _ (At.hit z76 rfl)
          clear m77
          refine e_then ?_
          refine c_false s67_77 ?_
          refine c_seq ?_
          by_cases hb78 : findL lo ((pathsT lb lo lt).getD k ByteArray.empty) = findL lb ((pathsT lb lo lt).getD k ByteArray.empty)
          · skip
            refine c_region ?_
            refine l_q rfl (q_move _ _ rfl s9_77.ev ?_)
            refine l_q rfl (q_move _ _ rfl (s19_77.ne rfl).ev ?_)
            refine l_q rfl (q_look (.agg (#[.string ((findL lo ((pathsT lb lo lt).getD k ByteArray.empty)).f0), .int .i64 ((findL lo ((pathsT lb lo lt).getD k ByteArray.empty)).f1), .string ((findL lo ((pathsT lb lo lt).getD k ByteArray.empty)).f2)])) rfl Try.underlying35 Try.underlying9 zero37 ((At.hit z77 rfl).ne rfl).ev (At.hit z77.put rfl).ev (fun _ e => by rw [e]; exact kmlo_41) (look_mapL lo ((pathsT lb lo lt).getD k ByteArray.empty)) ?_)
            refine l_q rfl (q_move _ _ rfl (((s8_77.ne rfl).ne rfl).ne rfl).ev ?_)
            refine l_q rfl (q_move _ _ rfl ((((s19_77.ne rfl).ne rfl).ne rfl).ne rfl).ev ?_)
            refine l_q rfl (q_look (.agg (#[.string ((findL lb ((pathsT lb lo lt).getD k ByteArray.empty)).f0), .int .i64 ((findL lb ((pathsT lb lo lt).getD k ByteArray.empty)).f1), .string ((findL lb ((pathsT lb lo lt).getD k ByteArray.empty)).f2)])) rfl Try.underlying35 Try.underlying9 zero37 ((At.hit z77.put.put.put rfl).ne rfl).ev (At.hit z77.put.put.put.put rfl).ev (fun _ e => by rw [e]; exact kmlb_41) (look_mapL lb ((pathsT lb lo lt).getD k ByteArray.empty)) ?_)
            refine l_q rfl (q_eq3 true rfl guard37 ((((At.hit z77.put.put rfl).ne rfl).ne rfl).ne rfl).ev (At.hit z77.put.put.put.put.put rfl).ev (eq37 9998 ((findL lo ((pathsT lb lo lt).getD k ByteArray.empty)).f0) ((findL lo ((pathsT lb lo lt).getD k ByteArray.empty)).f1) ((findL lo ((pathsT lb lo lt).getD k ByteArray.empty)).f2) ((findL lb ((pathsT lb lo lt).getD k ByteArray.empty)).f0) ((findL lb ((pathsT lb lo lt).getD k ByteArray.empty)).f1) ((findL lb ((pathsT lb lo lt).getD k ByteArray.empty)).f2)) (eqL_true hb78) ?_)
            refine l_q rfl (q_assign _ _ rfl (At.hit z77.put.put.put.put.put.put rfl).ev ?_)
            refine l_end ?_
            refine e_fresh z77.put.put.put.put.put.put.put.put ?_
            intro a79 z79 m79
            have s8_79 := m79 _ _ ((((((((s8_77.ne rfl).ne rfl).ne rfl).ne rfl).ne rfl).ne rfl).ne rfl).ne rfl)
            have s9_79 := m79 _ _ ((((((((s9_77.ne rfl).ne rfl).ne rfl).ne rfl).ne rfl).ne rfl).ne rfl).ne rfl)
            have s10_79 := m79 _ _ ((((((((s10_77.ne rfl).ne rfl).ne rfl).ne rfl).ne rfl).ne rfl).ne rfl).ne rfl)
            have s16_79 := m79 _ _ ((((((((s16_77.ne rfl).ne rfl).ne rfl).ne rfl).ne rfl).ne rfl).ne rfl).ne rfl)
            have s17_79 := m79 _ _ ((((((((s17_77.ne rfl).ne rfl).ne rfl).ne rfl).ne rfl).ne rfl).ne rfl).ne rfl)
            have s19_79 := m79 _ _ ((((((((s19_77.ne rfl).ne rfl).ne rfl).ne rfl).ne rfl).ne rfl).ne rfl).ne rfl)
            have s20_79 := m79 _ _ ((((((((s20_77.ne rfl).ne rfl).ne rfl).ne rfl).ne rfl).ne rfl).ne rfl).ne rfl)
            have s54_79 := m79 _ _ ((((((((s54_77.ne rfl).ne rfl).ne rfl).ne rfl).ne rfl).ne rfl).ne rfl).ne rfl)
            have s55_79 := m79 _ _ ((((((((s55_77.ne rfl).ne rfl).ne rfl).ne rfl).ne rfl).ne rfl).ne rfl).ne rfl)
            have s56_79 := m79 _ _ ((((((((s56_77.ne rfl).ne rfl).ne rfl).ne rfl).ne rfl).ne rfl).ne rfl).ne rfl)
            have s84_79 := m79 _ _ (At.hit z77.put.put.put.put.put.put.put rfl)
            clear m79
            refine e_then ?_
            refine c_true s84_79 ?_
            refine c_region ?_
            refine l_q rfl (q_move _ _ rfl s10_79.ev ?_)
            refine l_q rfl (q_move _ _ rfl (s19_79.ne rfl).ev ?_)
            refine l_q rfl (q_look (.agg (#[.string ((findL lt ((pathsT lb lo lt).getD k ByteArray.empty)).f0), .int .i64 ((findL lt ((pathsT lb lo lt).getD k ByteArray.empty)).f1), .string ((findL lt ((pathsT lb lo lt).getD k ByteArray.empty)).f2)])) rfl Try.underlying35 Try.underlying9 zero37 ((At.hit z79 rfl).ne rfl).ev (At.hit z79.put rfl).ev (fun _ e => by rw [e]; exact kmlt_41) (look_mapL lt ((pathsT lb lo lt).getD k ByteArray.empty)) ?_)
            refine l_row rfl rfl rfl (sz37.trans (congrArg some rfl.symm)) (((s20_79.ne rfl).ne rfl).ne rfl).ev (At.hit z79.put.put rfl).ev (by simp [Value.oneCell']) k41 (rfl.trans rfl.symm) ?_
            intro w80 k80 u80
            have ox16_80 := ox16_41.updn u80 onx16_g20
            have ox17_80 := ox17_41.upd u80 k41 rfl
            have kmlb_80 := kmlb_41.upd u80 (by omega)
            have kmlo_80 := kmlo_41.upd u80 (by omega)
            have kmlt_80 := kmlt_41.upd u80 (by omega)
            refine l_end ?_
            refine e_fresh z79.put.put.put ?_
            intro a81 z81 m81
            have s8_81 := m81 _ _ (((s8_79.ne rfl).ne rfl).ne rfl)
            have s9_81 := m81 _ _ (((s9_79.ne rfl).ne rfl).ne rfl)
            have s10_81 := m81 _ _ (((s10_79.ne rfl).ne rfl).ne rfl)
            have s16_81 := m81 _ _ (((s16_79.ne rfl).ne rfl).ne rfl)
            have s17_81 := m81 _ _ (((s17_79.ne rfl).ne rfl).ne rfl)
            have s20_81 := m81 _ _ (((s20_79.ne rfl).ne rfl).ne rfl)
            have s54_81 := m81 _ _ (((s54_79.ne rfl).ne rfl).ne rfl)
            have s55_81 := m81 _ _ (((s55_79.ne rfl).ne rfl).ne rfl)
            have s56_81 := m81 _ _ (((s56_79.ne rfl).ne rfl).ne rfl)
            have low81 := (low42.upd u80 geg20)
            clear m81
            refine e_in ?_
            refine e_then ?_
            refine c_seq ?_
            by_cases hb82 : ¬ findL lt ((pathsT lb lo lt).getD k ByteArray.empty) = zL
            · skip
              refine c_region ?_
              refine l_q rfl (q_row rfl Try.underlying37 rfl (sz37.trans (congrArg some rfl.symm)) s20_81.ev (fun _ e => by rw [e]; exact k80) ?_)
              refine l_q rfl (q_build (cs := #[.string zL.f0, .int .i64 zL.f1, .string zL.f2]) rfl rfl (by kernel_rfl) ?_)
              refine l_q rfl (q_ne3 true rfl guard37 ((At.hit z81 rfl).ne rfl).ev (At.hit z81.put rfl).ev (eq37 9998 ((findL lt ((pathsT lb lo lt).getD k ByteArray.empty)).f0) ((findL lt ((pathsT lb lo lt).getD k ByteArray.empty)).f1) ((findL lt ((pathsT lb lo lt).getD k ByteArray.empty)).f2) zL.f0 zL.f1 zL.f2) (neL_true hb82) ?_)
              refine l_end ?_
              refine e_fresh z81.put.put.put ?_
              intro a83 z83 m83
              have s8_83 := m83 _ _ (((s8_81.ne rfl).ne rfl).ne rfl)
              have s9_83 := m83 _ _ (((s9_81.ne rfl).ne rfl).ne rfl)
              have s10_83 := m83 _ _ (((s10_81.ne rfl).ne rfl).ne rfl)
              have s16_83 := m83 _ _ (((s16_81.ne rfl).ne rfl).ne rfl)
              have s17_83 := m83 _ _ (((s17_81.ne rfl).ne rfl).ne rfl)
              have s20_83 := m83 _ _ (((s20_81.ne rfl).ne rfl).ne rfl)
              have s54_83 := m83 _ _ (((s54_81.ne rfl).ne rfl).ne rfl)
              have s55_83 := m83 _ _ (((s55_81.ne rfl).ne rfl).ne rfl)
              have s56_83 := m83 _ _ (((s56_81.ne rfl).ne rfl).ne rfl)
              have s97_83 := m83 _ _ (At.hit z81.put.put rfl)
              clear m83
              refine e_then ?_
              refine c_true s97_83 ?_
              refine c_region ?_
              refine l_q rfl (q_move _ _ rfl s16_83.ev ?_)
              refine l_q rfl (q_row rfl Try.underlying37 rfl (sz37.trans (congrArg some rfl.symm)) (s20_83.ne rfl).ev (fun _ e => by rw [e]; exact k80) ?_)
              refine l_buildF (vs := [.string ((findL lt ((pathsT lb lo lt).getD k ByteArray.empty)).f0), .int .i64 ((findL lt ((pathsT lb lo lt).getD k ByteArray.empty)).f1), .string ((findL lt ((pathsT lb lo lt).getD k ByteArray.empty)).f2)]) rfl rfl Try.underlying22 rec37 (At.hit z83.put rfl).ev rfl rfl (by decide) (by decide) ?_
              intro g100_84 w84 hg84 k84 h84
              have onx16_g100_84 : ∀ k, Value.ownBlock v16_37 = some k → k < g100_84 := fun k hk => Nat.lt_of_lt_of_le (OwnF.own_lt ox16_80 hk) hg84
              have lt_g20_g100_84 := Nat.lt_of_lt_of_le (heap_lt k80) hg84
              have nmlb_g100_84 := Nat.ne_of_lt (Nat.lt_of_lt_of_le kmlb_80.lt hg84)
              have nmlo_g100_84 := Nat.ne_of_lt (Nat.lt_of_lt_of_le kmlo_80.lt hg84)
              have nmlt_g100_84 := Nat.ne_of_lt (Nat.lt_of_lt_of_le kmlt_80.lt hg84)
              have geg100_84 := Nat.le_trans low81.ge hg84
              have kmlb_84 := kmlb_80.low h84
              have kmlo_84 := kmlo_80.low h84
              have kmlt_84 := kmlt_80.low h84
              have kg20_84 := h84.blk k80
              have ox16_84 := ox16_80.low h84
              have ox17_84 := ox17_80.low h84
              have ob35_84 := (o35.low (low42.upd u80 geg20)).low h84
              refine l_appF (B := w35.heap.size) rfl rfl Try.underlying22 rec37 (((At.hit z83 rfl).ne rfl).ne rfl).ev (At.hit z83.put.put rfl).ev k84 rfl (by decide) rfl ox16_84 (low81.trans h84).ge (by omega) ?_
              intro v85 w85 o85 gr85
              have kmlb_85 := kmlb_84.grw gr85
              have kmlo_85 := kmlo_84.grw gr85
              have kmlt_85 := kmlt_84.grw gr85
              have kg20_85 := gr85.blkn kg20_84 onx16_g20
              have lw85 := (low81.trans h84).grw gr85
              have ox17_85 := ox17_84.grw gr85 rfl
              replace o85 := o85.cast (show _ = ((outT lb lo lt ((pathsT lb lo lt).take k)) ++ [(findL lt ((pathsT lb lo lt).getD k ByteArray.empty))]).length by rw [List.length_append]; rfl) (flat_snoc (enc := encL) (outT lb lo lt ((pathsT lb lo lt).take k)) (findL lt ((pathsT lb lo lt).getD k ByteArray.empty)))
              refine l_q rfl (q_assign _ _ rfl (At.hit z83.put.put.put rfl).ev ?_)
              refine l_end ?_
              refine e_fresh z83.put.put.put.put.put ?_
              intro a86 z86 m86
              have s8_86 := m86 _ _ (((((s8_83.ne rfl).ne rfl).ne rfl).ne rfl).ne rfl)
              have s9_86 := m86 _ _ (((((s9_83.ne rfl).ne rfl).ne rfl).ne rfl).ne rfl)
              have s10_86 := m86 _ _ (((((s10_83.ne rfl).ne rfl).ne rfl).ne rfl).ne rfl)
              have s16_86 := m86 _ _ (At.hit z83.put.put.put.put rfl)
              have s17_86 := m86 _ _ (((((s17_83.ne rfl).ne rfl).ne rfl).ne rfl).ne rfl)
              have s54_86 := m86 _ _ (((((s54_83.ne rfl).ne rfl).ne rfl).ne rfl).ne rfl)
              have s55_86 := m86 _ _ (((((s55_83.ne rfl).ne rfl).ne rfl).ne rfl).ne rfl)
              have s56_86 := m86 _ _ (((((s56_83.ne rfl).ne rfl).ne rfl).ne rfl).ne rfl)
              have low86 := lw85
              clear m86
              refine e_in ?_
              refine e_then ?_
              refine c_region ?_
              refine l_q rfl (q_add (((k + 1 : Nat) : Int)) rfl s56_86.ev rfl (i64_is (by omega) (by omega) (by omega)) ?_)
              refine l_q rfl (q_move _ _ rfl (At.hit z86 rfl).ev ?_)
              refine l_end ?_
              refine e_fresh z86.put.put ?_
              intro a87 z87 m87
              have s8_87 := m87 _ _ ((s8_86.ne rfl).ne rfl)
              have s9_87 := m87 _ _ ((s9_86.ne rfl).ne rfl)
              have s10_87 := m87 _ _ ((s10_86.ne rfl).ne rfl)
              have s16_87 := m87 _ _ ((s16_86.ne rfl).ne rfl)
              have s17_87 := m87 _ _ ((s17_86.ne rfl).ne rfl)
              have s54_87 := m87 _ _ ((s54_86.ne rfl).ne rfl)
              have s55_87 := m87 _ _ ((s55_86.ne rfl).ne rfl)
              have s56_87 := m87 _ _ (At.hit z86.put rfl)
              clear m87
              have c88 := OwnF.castL o85 (show (outT lb lo lt ((pathsT lb lo lt).take k)) ++ [(findL lt ((pathsT lb lo lt).getD k ByteArray.empty))] = outT lb lo lt ((pathsT lb lo lt).take (k + 1)) from out_next (by omega) (cell_3 hb43 hb59 hb78) hb82)
              have c89 := OwnF.castL ox17_85 (show badT lb lo lt ((pathsT lb lo lt).take k) = badT lb lo lt ((pathsT lb lo lt).take (k + 1)) from bad_skip (by omega) (clash_3 hb78))
              exact ⟨v85, v17_37, z87, s8_87, s9_87, s10_87, s16_87, s17_87, s54_87, s55_87, s56_87, kmlb_85, kmlo_85, kmlt_85, c88, c89, low86⟩
            · skip
              refine c_region ?_
              refine l_q rfl (q_row rfl Try.underlying37 rfl (sz37.trans (congrArg some rfl.symm)) s20_81.ev (fun _ e => by rw [e]; exact k80) ?_)
              refine l_q rfl (q_build (cs := #[.string zL.f0, .int .i64 zL.f1, .string zL.f2]) rfl rfl (by kernel_rfl) ?_)
              refine l_q rfl (q_ne3 false rfl guard37 ((At.hit z81 rfl).ne rfl).ev (At.hit z81.put rfl).ev (eq37 9998 ((findL lt ((pathsT lb lo lt).getD k ByteArray.empty)).f0) ((findL lt ((pathsT lb lo lt).getD k ByteArray.empty)).f1) ((findL lt ((pathsT lb lo lt).getD k ByteArray.empty)).f2) zL.f0 zL.f1 zL.f2) (neL_false (Decidable.not_not.1 hb82)) ?_)
              refine l_end ?_
              refine e_fresh z81.put.put.put ?_
              intro a90 z90 m90
              have s8_90 := m90 _ _ (((s8_81.ne rfl).ne rfl).ne rfl)
              have s9_90 := m90 _ _ (((s9_81.ne rfl).ne rfl).ne rfl)
              have s10_90 := m90 _ _ (((s10_81.ne rfl).ne rfl).ne rfl)
              have s16_90 := m90 _ _ (((s16_81.ne rfl).ne rfl).ne rfl)
              have s17_90 := m90 _ _ (((s17_81.ne rfl).ne rfl).ne rfl)
              have s20_90 := m90 _ _ (((s20_81.ne rfl).ne rfl).ne rfl)
              have s54_90 := m90 _ _ (((s54_81.ne rfl).ne rfl).ne rfl)
              have s55_90 := m90 _ _ (((s55_81.ne rfl).ne rfl).ne rfl)
              have s56_90 := m90 _ _ (((s56_81.ne rfl).ne rfl).ne rfl)
              have s97_90 := m90 _ _ (At.hit z81.put.put rfl)
              clear m90
              refine e_then ?_
              refine c_false s97_90 ?_
              refine wp_skip ?_
              refine e_in ?_
              refine e_then ?_
              refine c_region ?_
              refine l_q rfl (q_add (((k + 1 : Nat) : Int)) rfl s56_90.ev rfl (i64_is (by omega) (by omega) (by omega)) ?_)
              refine l_q rfl (q_move _ _ rfl (At.hit z90 rfl).ev ?_)
              refine l_end ?_
              refine e_fresh z90.put.put ?_
              intro a91 z91 m91
              have s8_91 := m91 _ _ ((s8_90.ne rfl).ne rfl)
              have s9_91 := m91 _ _ ((s9_90.ne rfl).ne rfl)
              have s10_91 := m91 _ _ ((s10_90.ne rfl).ne rfl)
              have s16_91 := m91 _ _ ((s16_90.ne rfl).ne rfl)
              have s17_91 := m91 _ _ ((s17_90.ne rfl).ne rfl)
              have s54_91 := m91 _ _ ((s54_90.ne rfl).ne rfl)
              have s55_91 := m91 _ _ ((s55_90.ne rfl).ne rfl)
              have s56_91 := m91 _ _ (At.hit z90.put rfl)
              clear m91
              have c92 := OwnF.castL ox16_80 (show outT lb lo lt ((pathsT lb lo lt).take k) = outT lb lo lt ((pathsT lb lo lt).take (k + 1)) from out_skip (by omega) (cell_3 hb43 hb59 hb78) hb82)
              have c93 := OwnF.castL ox17_80 (show badT lb lo lt ((pathsT lb lo lt).take k) = badT lb lo lt ((pathsT lb lo lt).take (k + 1)) from bad_skip (by omega) (clash_3 hb78))
              exact ⟨v16_37, v17_37, z91, s8_91, s9_91, s10_91, s16_91, s17_91, s54_91, s55_91, s56_91, kmlb_80, kmlo_80, kmlt_80, c92, c93, low81⟩
          · skip
            refine c_region ?_
            refine l_q rfl (q_move _ _ rfl s9_77.ev ?_)
            refine l_q rfl (q_move _ _ rfl (s19_77.ne rfl).ev ?_)
            refine l_q rfl (q_look (.agg (#[.string ((findL lo ((pathsT lb lo lt).getD k ByteArray.empty)).f0), .int .i64 ((findL lo ((pathsT lb lo lt).getD k ByteArray.empty)).f1), .string ((findL lo ((pathsT lb lo lt).getD k ByteArray.empty)).f2)])) rfl Try.underlying35 Try.underlying9 zero37 ((At.hit z77 rfl).ne rfl).ev (At.hit z77.put rfl).ev (fun _ e => by rw [e]; exact kmlo_41) (look_mapL lo ((pathsT lb lo lt).getD k ByteArray.empty)) ?_)
            refine l_q rfl (q_move _ _ rfl (((s8_77.ne rfl).ne rfl).ne rfl).ev ?_)
            refine l_q rfl (q_move _ _ rfl ((((s19_77.ne rfl).ne rfl).ne rfl).ne rfl).ev ?_)
            refine l_q rfl (q_look (.agg (#[.string ((findL lb ((pathsT lb lo lt).getD k ByteArray.empty)).f0), .int .i64 ((findL lb ((pathsT lb lo lt).getD k ByteArray.empty)).f1), .string ((findL lb ((pathsT lb lo lt).getD k ByteArray.empty)).f2)])) rfl Try.underlying35 Try.underlying9 zero37 ((At.hit z77.put.put.put rfl).ne rfl).ev (At.hit z77.put.put.put.put rfl).ev (fun _ e => by rw [e]; exact kmlb_41) (look_mapL lb ((pathsT lb lo lt).getD k ByteArray.empty)) ?_)
            refine l_q rfl (q_eq3 false rfl guard37 ((((At.hit z77.put.put rfl).ne rfl).ne rfl).ne rfl).ev (At.hit z77.put.put.put.put.put rfl).ev (eq37 9998 ((findL lo ((pathsT lb lo lt).getD k ByteArray.empty)).f0) ((findL lo ((pathsT lb lo lt).getD k ByteArray.empty)).f1) ((findL lo ((pathsT lb lo lt).getD k ByteArray.empty)).f2) ((findL lb ((pathsT lb lo lt).getD k ByteArray.empty)).f0) ((findL lb ((pathsT lb lo lt).getD k ByteArray.empty)).f1) ((findL lb ((pathsT lb lo lt).getD k ByteArray.empty)).f2)) (eqL_false hb78) ?_)
            refine l_q rfl (q_assign _ _ rfl (At.hit z77.put.put.put.put.put.put rfl).ev ?_)
            refine l_end ?_
            refine e_fresh z77.put.put.put.put.put.put.put.put ?_
            intro a94 z94 m94
            have s8_94 := m94 _ _ ((((((((s8_77.ne rfl).ne rfl).ne rfl).ne rfl).ne rfl).ne rfl).ne rfl).ne rfl)
            have s9_94 := m94 _ _ ((((((((s9_77.ne rfl).ne rfl).ne rfl).ne rfl).ne rfl).ne rfl).ne rfl).ne rfl)
            have s10_94 := m94 _ _ ((((((((s10_77.ne rfl).ne rfl).ne rfl).ne rfl).ne rfl).ne rfl).ne rfl).ne rfl)
            have s16_94 := m94 _ _ ((((((((s16_77.ne rfl).ne rfl).ne rfl).ne rfl).ne rfl).ne rfl).ne rfl).ne rfl)
            have s17_94 := m94 _ _ ((((((((s17_77.ne rfl).ne rfl).ne rfl).ne rfl).ne rfl).ne rfl).ne rfl).ne rfl)
            have s19_94 := m94 _ _ ((((((((s19_77.ne rfl).ne rfl).ne rfl).ne rfl).ne rfl).ne rfl).ne rfl).ne rfl)
            have s20_94 := m94 _ _ ((((((((s20_77.ne rfl).ne rfl).ne rfl).ne rfl).ne rfl).ne rfl).ne rfl).ne rfl)
            have s54_94 := m94 _ _ ((((((((s54_77.ne rfl).ne rfl).ne rfl).ne rfl).ne rfl).ne rfl).ne rfl).ne rfl)
            have s55_94 := m94 _ _ ((((((((s55_77.ne rfl).ne rfl).ne rfl).ne rfl).ne rfl).ne rfl).ne rfl).ne rfl)
            have s56_94 := m94 _ _ ((((((((s56_77.ne rfl).ne rfl).ne rfl).ne rfl).ne rfl).ne rfl).ne rfl).ne rfl)
            have s84_94 := m94 _ _ (At.hit z77.put.put.put.put.put.put.put rfl)
            clear m94
            refine e_then ?_
            refine c_false s84_94 ?_
            refine c_region ?_
            refine l_q rfl (q_move _ _ rfl s17_94.ev ?_)
            refine l_q rfl (q_move _ _ rfl (s19_94.ne rfl).ev ?_)
            refine l_buildF (vs := [.string ((pathsT lb lo lt).getD k ByteArray.empty)]) rfl rfl Try.underlying25 rec9 (At.hit z94.put rfl).ev rfl rfl (by decide) (by decide) ?_
            intro g65_95 w95 hg95 k95 h95
            have onx17_g65_95 : ∀ k, Value.ownBlock v17_37 = some k → k < g65_95 := fun k hk => Nat.lt_of_lt_of_le (OwnF.own_lt ox17_41 hk) hg95
            have onb35_g65_95 : ∀ k, Value.ownBlock v35 = some k → k < g65_95 := fun k hk => Nat.lt_of_lt_of_le (OwnF.own_lt (o35.low ((low37.trans h40).upd u41 geg20)) hk) hg95
            have lt_g20_g65_95 := Nat.lt_of_lt_of_le (heap_lt k41) hg95
            have nmlb_g65_95 := Nat.ne_of_lt (Nat.lt_of_lt_of_le kmlb_41.lt hg95)
            have nmlo_g65_95 := Nat.ne_of_lt (Nat.lt_of_lt_of_le kmlo_41.lt hg95)
            have nmlt_g65_95 := Nat.ne_of_lt (Nat.lt_of_lt_of_le kmlt_41.lt hg95)
            have geg65_95 := Nat.le_trans low42.ge hg95
            have kmlb_95 := kmlb_41.low h95
            have kmlo_95 := kmlo_41.low h95
            have kmlt_95 := kmlt_41.low h95
            have kg20_95 := h95.blk k41
            have ox16_95 := ox16_41.low h95
            have ox17_95 := ox17_41.low h95
            have ob35_95 := (o35.low ((low37.trans h40).upd u41 geg20)).low h95
            refine l_appF (B := w35.heap.size) rfl rfl Try.underlying25 rec9 (((At.hit z94 rfl).ne rfl).ne rfl).ev (At.hit z94.put.put rfl).ev k95 rfl (by decide) rfl ox17_95 (low42.trans h95).ge (by omega) ?_
            intro v96 w96 o96 gr96
            have kmlb_96 := kmlb_95.grw gr96
            have kmlo_96 := kmlo_95.grw gr96
            have kmlt_96 := kmlt_95.grw gr96
            have kg20_96 := gr96.blk kg20_95 rfl
            have lw96 := (low42.trans h95).grw gr96
            have ox16_96 := ox16_95.grw gr96 rfl
            replace o96 := o96.cast (show _ = ((badT lb lo lt ((pathsT lb lo lt).take k)) ++ [((pathsT lb lo lt).getD k ByteArray.empty)]).length by rw [List.length_append]; rfl) (flat_snoc (enc := encS) (badT lb lo lt ((pathsT lb lo lt).take k)) ((pathsT lb lo lt).getD k ByteArray.empty))
            refine l_q rfl (q_assign _ _ rfl (At.hit z94.put.put.put rfl).ev ?_)
            refine l_end ?_
            refine e_fresh z94.put.put.put.put.put ?_
            intro a97 z97 m97
            have s8_97 := m97 _ _ (((((s8_94.ne rfl).ne rfl).ne rfl).ne rfl).ne rfl)
            have s9_97 := m97 _ _ (((((s9_94.ne rfl).ne rfl).ne rfl).ne rfl).ne rfl)
            have s10_97 := m97 _ _ (((((s10_94.ne rfl).ne rfl).ne rfl).ne rfl).ne rfl)
            have s16_97 := m97 _ _ (((((s16_94.ne rfl).ne rfl).ne rfl).ne rfl).ne rfl)
            have s17_97 := m97 _ _ (At.hit z94.put.put.put.put rfl)
            have s20_97 := m97 _ _ (((((s20_94.ne rfl).ne rfl).ne rfl).ne rfl).ne rfl)
            have s54_97 := m97 _ _ (((((s54_94.ne rfl).ne rfl).ne rfl).ne rfl).ne rfl)
            have s55_97 := m97 _ _ (((((s55_94.ne rfl).ne rfl).ne rfl).ne rfl).ne rfl)
            have s56_97 := m97 _ _ (((((s56_94.ne rfl).ne rfl).ne rfl).ne rfl).ne rfl)
            have low97 := lw96
            clear m97
            refine e_in ?_
            refine e_then ?_
            refine c_seq ?_
            by_cases hb98 : ¬ findL lo ((pathsT lb lo lt).getD k ByteArray.empty) = zL
            · skip
              refine c_region ?_
              refine l_q rfl (q_row rfl Try.underlying37 rfl (sz37.trans (congrArg some rfl.symm)) s20_97.ev (fun _ e => by rw [e]; exact kg20_96) ?_)
              refine l_q rfl (q_build (cs := #[.string zL.f0, .int .i64 zL.f1, .string zL.f2]) rfl rfl (by kernel_rfl) ?_)
              refine l_q rfl (q_ne3 true rfl guard37 ((At.hit z97 rfl).ne rfl).ev (At.hit z97.put rfl).ev (eq37 9998 ((findL lo ((pathsT lb lo lt).getD k ByteArray.empty)).f0) ((findL lo ((pathsT lb lo lt).getD k ByteArray.empty)).f1) ((findL lo ((pathsT lb lo lt).getD k ByteArray.empty)).f2) zL.f0 zL.f1 zL.f2) (neL_true hb98) ?_)
              refine l_end ?_
              refine e_fresh z97.put.put.put ?_
              intro a99 z99 m99
              have s8_99 := m99 _ _ (((s8_97.ne rfl).ne rfl).ne rfl)
              have s9_99 := m99 _ _ (((s9_97.ne rfl).ne rfl).ne rfl)
              have s10_99 := m99 _ _ (((s10_97.ne rfl).ne rfl).ne rfl)
              have s16_99 := m99 _ _ (((s16_97.ne rfl).ne rfl).ne rfl)
              have s17_99 := m99 _ _ (((s17_97.ne rfl).ne rfl).ne rfl)
              have s20_99 := m99 _ _ (((s20_97.ne rfl).ne rfl).ne rfl)
              have s54_99 := m99 _ _ (((s54_97.ne rfl).ne rfl).ne rfl)
              have s55_99 := m99 _ _ (((s55_97.ne rfl).ne rfl).ne rfl)
              have s56_99 := m99 _ _ (((s56_97.ne rfl).ne rfl).ne rfl)
              have s97_99 := m99 _ _ (At.hit z97.put.put rfl)
              clear m99
              refine e_then ?_
              refine c_true s97_99 ?_
              refine c_region ?_
              refine l_q rfl (q_move _ _ rfl s16_99.ev ?_)
              refine l_q rfl (q_row rfl Try.underlying37 rfl (sz37.trans (congrArg some rfl.symm)) (s20_99.ne rfl).ev (fun _ e => by rw [e]; exact kg20_96) ?_)
              refine l_buildF (vs := [.string ((findL lo ((pathsT lb lo lt).getD k ByteArray.empty)).f0), .int .i64 ((findL lo ((pathsT lb lo lt).getD k ByteArray.empty)).f1), .string ((findL lo ((pathsT lb lo lt).getD k ByteArray.empty)).f2)]) rfl rfl Try.underlying22 rec37 (At.hit z99.put rfl).ev rfl rfl (by decide) (by decide) ?_
              intro g100_100 w100 hg100 k100 h100
              have onx16_g100_100 : ∀ k, Value.ownBlock v16_37 = some k → k < g100_100 := fun k hk => Nat.lt_of_lt_of_le (OwnF.own_lt ox16_96 hk) hg100
              have lt_g20_g100_100 := Nat.lt_of_lt_of_le (heap_lt kg20_96) hg100
              have nmlb_g100_100 := Nat.ne_of_lt (Nat.lt_of_lt_of_le kmlb_96.lt hg100)
              have nmlo_g100_100 := Nat.ne_of_lt (Nat.lt_of_lt_of_le kmlo_96.lt hg100)
              have nmlt_g100_100 := Nat.ne_of_lt (Nat.lt_of_lt_of_le kmlt_96.lt hg100)
              have geg100_100 := Nat.le_trans low97.ge hg100
              have kmlb_100 := kmlb_96.low h100
              have kmlo_100 := kmlo_96.low h100
              have kmlt_100 := kmlt_96.low h100
              have kg20_100 := h100.blk kg20_96
              have ob35_100 := (o35.low lw96).low h100
              have ob96_100 := o96.low h100
              have ox16_100 := ox16_96.low h100
              refine l_appF (B := w35.heap.size) rfl rfl Try.underlying22 rec37 (((At.hit z99 rfl).ne rfl).ne rfl).ev (At.hit z99.put.put rfl).ev k100 rfl (by decide) rfl ox16_100 (low97.trans h100).ge (by omega) ?_
              intro v101 w101 o101 gr101
              have kmlb_101 := kmlb_100.grw gr101
              have kmlo_101 := kmlo_100.grw gr101
              have kmlt_101 := kmlt_100.grw gr101
              have kg20_101 := gr101.blkn kg20_100 onx16_g20
              have lw101 := (low97.trans h100).grw gr101
              have ob96_101 := ob96_100.grw gr101 rfl
              replace o101 := o101.cast (show _ = ((outT lb lo lt ((pathsT lb lo lt).take k)) ++ [(findL lo ((pathsT lb lo lt).getD k ByteArray.empty))]).length by rw [List.length_append]; rfl) (flat_snoc (enc := encL) (outT lb lo lt ((pathsT lb lo lt).take k)) (findL lo ((pathsT lb lo lt).getD k ByteArray.empty)))
              refine l_q rfl (q_assign _ _ rfl (At.hit z99.put.put.put rfl).ev ?_)
              refine l_end ?_
              refine e_fresh z99.put.put.put.put.put ?_
              intro a102 z102 m102
              have s8_102 := m102 _ _ (((((s8_99.ne rfl).ne rfl).ne rfl).ne rfl).ne rfl)
              have s9_102 := m102 _ _ (((((s9_99.ne rfl).ne rfl).ne rfl).ne rfl).ne rfl)
              have s10_102 := m102 _ _ (((((s10_99.ne rfl).ne rfl).ne rfl).ne rfl).ne rfl)
              have s16_102 := m102 _ _ (At.hit z99.put.put.put.put rfl)
              have s17_102 := m102 _ _ (((((s17_99.ne rfl).ne rfl).ne rfl).ne rfl).ne rfl)
              have s54_102 := m102 _ _ (((((s54_99.ne rfl).ne rfl).ne rfl).ne rfl).ne rfl)
              have s55_102 := m102 _ _ (((((s55_99.ne rfl).ne rfl).ne rfl).ne rfl).ne rfl)
              have s56_102 := m102 _ _ (((((s56_99.ne rfl).ne rfl).ne rfl).ne rfl).ne rfl)
              have low102 := lw101
              clear m102
              refine e_in ?_
              refine e_then ?_
              refine c_region ?_
              refine l_q rfl (q_add (((k + 1 : Nat) : Int)) rfl s56_102.ev rfl (i64_is (by omega) (by omega) (by omega)) ?_)
              refine l_q rfl (q_move _ _ rfl (At.hit z102 rfl).ev ?_)
              refine l_end ?_
              refine e_fresh z102.put.put ?_
              intro a103 z103 m103
              have s8_103 := m103 _ _ ((s8_102.ne rfl).ne rfl)
              have s9_103 := m103 _ _ ((s9_102.ne rfl).ne rfl)
              have s10_103 := m103 _ _ ((s10_102.ne rfl).ne rfl)
              have s16_103 := m103 _ _ ((s16_102.ne rfl).ne rfl)
              have s17_103 := m103 _ _ ((s17_102.ne rfl).ne rfl)
              have s54_103 := m103 _ _ ((s54_102.ne rfl).ne rfl)
              have s55_103 := m103 _ _ ((s55_102.ne rfl).ne rfl)
              have s56_103 := m103 _ _ (At.hit z102.put rfl)
              clear m103
              have c104 := OwnF.castL o101 (show (outT lb lo lt ((pathsT lb lo lt).take k)) ++ [(findL lo ((pathsT lb lo lt).getD k ByteArray.empty))] = outT lb lo lt ((pathsT lb lo lt).take (k + 1)) from out_next (by omega) (cell_4 hb43 hb59 hb78) hb98)
              have c105 := OwnF.castL ob96_101 (show (badT lb lo lt ((pathsT lb lo lt).take k)) ++ [((pathsT lb lo lt).getD k ByteArray.empty)] = badT lb lo lt ((pathsT lb lo lt).take (k + 1)) from bad_next (by omega) (clash_4 hb43 hb59 hb78))
              exact ⟨v101, v96, z103, s8_103, s9_103, s10_103, s16_103, s17_103, s54_103, s55_103, s56_103, kmlb_101, kmlo_101, kmlt_101, c104, c105, low102⟩
            · skip
              refine c_region ?_
              refine l_q rfl (q_row rfl Try.underlying37 rfl (sz37.trans (congrArg some rfl.symm)) s20_97.ev (fun _ e => by rw [e]; exact kg20_96) ?_)
              refine l_q rfl (q_build (cs := #[.string zL.f0, .int .i64 zL.f1, .string zL.f2]) rfl rfl (by kernel_rfl) ?_)
              refine l_q rfl (q_ne3 false rfl guard37 ((At.hit z97 rfl).ne rfl).ev (At.hit z97.put rfl).ev (eq37 9998 ((findL lo ((pathsT lb lo lt).getD k ByteArray.empty)).f0) ((findL lo ((pathsT lb lo lt).getD k ByteArray.empty)).f1) ((findL lo ((pathsT lb lo lt).getD k ByteArray.empty)).f2) zL.f0 zL.f1 zL.f2) (neL_false (Decidable.not_not.1 hb98)) ?_)
              refine l_end ?_
              refine e_fresh z97.put.put.put ?_
              intro a106 z106 m106
              have s8_106 := m106 _ _ (((s8_97.ne rfl).ne rfl).ne rfl)
              have s9_106 := m106 _ _ (((s9_97.ne rfl).ne rfl).ne rfl)
              have s10_106 := m106 _ _ (((s10_97.ne rfl).ne rfl).ne rfl)
              have s16_106 := m106 _ _ (((s16_97.ne rfl).ne rfl).ne rfl)
              have s17_106 := m106 _ _ (((s17_97.ne rfl).ne rfl).ne rfl)
              have s20_106 := m106 _ _ (((s20_97.ne rfl).ne rfl).ne rfl)
              have s54_106 := m106 _ _ (((s54_97.ne rfl).ne rfl).ne rfl)
              have s55_106 := m106 _ _ (((s55_97.ne rfl).ne rfl).ne rfl)
              have s56_106 := m106 _ _ (((s56_97.ne rfl).ne rfl).ne rfl)
              have s97_106 := m106 _ _ (At.hit z97.put.put rfl)
              clear m106
              refine e_then ?_
              refine c_false s97_106 ?_
              refine wp_skip ?_
              refine e_in ?_
              refine e_then ?_
              refine c_region ?_
              refine l_q rfl (q_add (((k + 1 : Nat) : Int)) rfl s56_106.ev rfl (i64_is (by omega) (by omega) (by omega)) ?_)
              refine l_q rfl (q_move _ _ rfl (At.hit z106 rfl).ev ?_)
              refine l_end ?_
              refine e_fresh z106.put.put ?_
              intro a107 z107 m107
              have s8_107 := m107 _ _ ((s8_106.ne rfl).ne rfl)
              have s9_107 := m107 _ _ ((s9_106.ne rfl).ne rfl)
              have s10_107 := m107 _ _ ((s10_106.ne rfl).ne rfl)
              have s16_107 := m107 _ _ ((s16_106.ne rfl).ne rfl)
              have s17_107 := m107 _ _ ((s17_106.ne rfl).ne rfl)
              have s54_107 := m107 _ _ ((s54_106.ne rfl).ne rfl)
              have s55_107 := m107 _ _ ((s55_106.ne rfl).ne rfl)
              have s56_107 := m107 _ _ (At.hit z106.put rfl)
              clear m107
              have c108 := OwnF.castL ox16_96 (show outT lb lo lt ((pathsT lb lo lt).take k) = outT lb lo lt ((pathsT lb lo lt).take (k + 1)) from out_skip (by omega) (cell_4 hb43 hb59 hb78) hb98)
              have c109 := OwnF.castL o96 (show (badT lb lo lt ((pathsT lb lo lt).take k)) ++ [((pathsT lb lo lt).getD k ByteArray.empty)] = badT lb lo lt ((pathsT lb lo lt).take (k + 1)) from bad_next (by omega) (clash_4 hb43 hb59 hb78))
              exact ⟨v16_37, v96, z107, s8_107, s9_107, s10_107, s16_107, s17_107, s54_107, s55_107, s56_107, kmlb_96, kmlo_96, kmlt_96, c108, c109, low97⟩
    · intro a110 w110 h
      obtain ⟨v16_110, v17_110, z110, s8_110, s9_110, s10_110, s16_110, s17_110, s54_110, s55_110, s56_110, kmlb_110, kmlo_110, kmlt_110, ox16_110, ox17_110, low110⟩ := h
      clear kmlb_35 kmlo_35 kmlt_35 s10_36 s16_36 s17_36 s54_36 s55_36 s56_36 s8_36 s9_36 z36
      have hpl := paths_len lb lo lt
      have hol := out_len lb lo lt (pathsT lb lo lt) (pathsT lb lo lt).length 300000 (by omega)
      have hbl := bad_len lb lo lt (pathsT lb lo lt) (pathsT lb lo lt).length 300000 (by omega)
      rw [out_end] at hol
      rw [bad_end] at hbl
      refine c_seq ?_
      refine c_region ?_
      refine l_q rfl (q_lss false rfl s56_110.ev s55_110.ev (decide_eq_false (by omega)) ?_)
      refine l_end ?_
      refine e_fresh z110.put ?_
      intro a111 z111 m111
      have s8_111 := m111 _ _ (s8_110.ne rfl)
      have s9_111 := m111 _ _ (s9_110.ne rfl)
      have s10_111 := m111 _ _ (s10_110.ne rfl)
      have s16_111 := m111 _ _ (s16_110.ne rfl)
      have s17_111 := m111 _ _ (s17_110.ne rfl)
      have s54_111 := m111 _ _ (s54_110.ne rfl)
      have s56_111 := m111 _ _ (s56_110.ne rfl)
      have s57_111 := m111 _ _ (At.hit z110 rfl)
      clear m111
      refine e_then ?_
      refine c_seq ?_
      refine c_false s57_111 ?_
      refine wp_exit ?_
      refine x_then ?_
      refine x_then ?_
      refine in_exit ?_
      refine e_then ?_
      refine c_seq ?_
      refine c_seq ?_
      have c112 := OwnF.castL ox16_110 (show outT lb lo lt ((pathsT lb lo lt).take ((pathsT lb lo lt).length)) = outF lb lo lt from out_end lb lo lt)
      have c113 := OwnF.castL ox17_110 (show badT lb lo lt ((pathsT lb lo lt).take ((pathsT lb lo lt).length)) = badF lb lo lt from bad_end lb lo lt)
      refine c_region ?_
      refine l_q rfl (q_move _ _ rfl s16_111.ev ?_)
      refine l_q rfl (q_lenF rfl rfl Try.underlying22 (At.hit z111 rfl).ev c112.rd ?_)
      refine l_q rfl (q_move _ _ rfl rfl ?_)
      refine l_end ?_
      refine e_fresh z111.put.put.put ?_
      intro a114 z114 m114
      have s16_114 := m114 _ _ (((s16_111.ne rfl).ne rfl).ne rfl)
      have s17_114 := m114 _ _ (((s17_111.ne rfl).ne rfl).ne rfl)
      have s103_114 := m114 _ _ (((At.hit z111 rfl).ne rfl).ne rfl)
      have s104_114 := m114 _ _ ((At.hit z111.put rfl).ne rfl)
      have s105_114 := m114 _ _ (At.hit z111.put.put rfl)
      clear m114
      refine e_then ?_
      refine wp_block ?_
      refine c_loop ((outF lb lo lt).length) (fun k a w => ∃ v17 : Value, Fr 126 a ∧ At a 16 (v16_110) ∧ At a 17 (v17) ∧ At a 103 (v16_110) ∧ At a 104 (.int .i64 ((((outF lb lo lt).length) : Nat) : Int)) ∧ At a 105 (.int .i64 ((k : Nat) : Int)) ∧ MapIs w mlb (mapL lb) ∧ MapIs w mlo (mapL lo) ∧ MapIs w mlt (mapL lt) ∧ OwnF w w35.heap.size 9 1 v17 (dirsF (badF lb lo lt) (outF lb lo lt) k).length (((dirsF (badF lb lo lt) (outF lb lo lt) k).map encS).flatten) ∧ OwnF w w35.heap.size 37 3 v16_110 (outF lb lo lt).length (((outF lb lo lt).map encL).flatten) ∧ Low w35 w) ?_ ?_ ?_
      · exact ⟨v17_110, z114, s16_114, s17_114, s103_114, s104_114, s105_114, kmlb_110, kmlo_110, kmlt_110, c113, c112, low110⟩
      · intro k a115 w115 hk115 h
        obtain ⟨v17_115, z115, s16_115, s17_115, s103_115, s104_115, s105_115, kmlb_115, kmlo_115, kmlt_115, ox17_115, ox16_115, low115⟩ := h
        clear kmlb_110 kmlo_110 kmlt_110 low110 s103_114 s104_114 s105_114 s16_114 s17_114 z114
        have hdl := dirs_len (badF lb lo lt) (outF lb lo lt) k
        refine c_seq ?_
        refine c_region ?_
        refine l_q rfl (q_lss true rfl s105_115.ev s104_115.ev (decide_eq_true (by omega)) ?_)
        refine l_end ?_
        refine e_fresh z115.put ?_
        intro a116 z116 m116
        have s16_116 := m116 _ _ (s16_115.ne rfl)
        have s17_116 := m116 _ _ (s17_115.ne rfl)
        have s103_116 := m116 _ _ (s103_115.ne rfl)
        have s104_116 := m116 _ _ (s104_115.ne rfl)
        have s105_116 := m116 _ _ (s105_115.ne rfl)
        have s106_116 := m116 _ _ (At.hit z115 rfl)
        clear m116
        refine e_then ?_
        refine c_seq ?_
        refine c_true s106_116 ?_
        refine wp_skip ?_
        refine e_then ?_
        refine c_seq ?_
        refine wp_block ?_
        refine c_seq ?_
        refine c_region ?_
        refine l_q rfl (q_move _ _ rfl s105_116.ev ?_)
        refine l_q rfl (q_idxF (j := k) rfl Try.underlying22 sz37 (s103_116.ne rfl).ev ox16_115.rd (s105_116.ne rfl).ev (by omega) ?_)
        refine l_q rfl (q_ldR (vs := [.string (((outF lb lo lt).getD k zL).f0), .int .i64 (((outF lb lo lt).getD k zL).f1), .string (((outF lb lo lt).getD k zL).f2)]) rfl Try.underlying37 rfl sz37 (At.hit z116.put rfl).ev (fun _ e => by rw [e]; exact ox16_115.rd) (by omega) rfl (flat_part encL_len zL _ k (by omega)) ?_)
        refine l_alloc rfl rfl zero37 ?_
        intro g22 w117 hg117 k117 h117
        have onx16_g22 : ∀ k, Value.ownBlock v16_110 = some k → k < g22 := fun k hk => Nat.lt_of_lt_of_le (OwnF.own_lt ox16_115 hk) hg117
        have nmlb_g22 := Nat.ne_of_lt (Nat.lt_of_lt_of_le kmlb_115.lt hg117)
        have nmlo_g22 := Nat.ne_of_lt (Nat.lt_of_lt_of_le kmlo_115.lt hg117)
        have nmlt_g22 := Nat.ne_of_lt (Nat.lt_of_lt_of_le kmlt_115.lt hg117)
        have geg22 := Nat.le_trans low115.ge hg117
        have kmlb_117 := kmlb_115.low h117
        have kmlo_117 := kmlo_115.low h117
        have kmlt_117 := kmlt_115.low h117
        have ox17_117 := ox17_115.low h117
        have ox16_117 := ox16_115.low h117
        refine l_q rfl (q_assign _ _ rfl ((((At.hit z116 rfl).ne rfl).ne rfl).ne rfl).ev ?_)
        refine l_row rfl rfl rfl (sz37.trans (congrArg some rfl.symm)) ((At.hit z116.put.put.put rfl).ne rfl).ev (((At.hit z116.put.put rfl).ne rfl).ne rfl).ev (by simp [Value.oneCell']) k117 (rfl.trans rfl.symm) ?_
        intro w118 k118 u118
        have ox17_118 := ox17_117.upd u118 k117 rfl
        have ox16_118 := ox16_117.updn u118 onx16_g22
        have kmlb_118 := kmlb_117.upd u118 (by omega)
        have kmlo_118 := kmlo_117.upd u118 (by omega)
        have kmlt_118 := kmlt_117.upd u118 (by omega)
        refine l_end ?_
        refine e_fresh z116.put.put.put.put.put ?_
        intro a119 z119 m119
        have s16_119 := m119 _ _ (((((s16_116.ne rfl).ne rfl).ne rfl).ne rfl).ne rfl)
        have s17_119 := m119 _ _ (((((s17_116.ne rfl).ne rfl).ne rfl).ne rfl).ne rfl)
        have s21_119 := m119 _ _ (At.hit z116.put.put.put.put rfl)
        have s22_119 := m119 _ _ ((At.hit z116.put.put.put rfl).ne rfl)
        have s103_119 := m119 _ _ (((((s103_116.ne rfl).ne rfl).ne rfl).ne rfl).ne rfl)
        have s104_119 := m119 _ _ (((((s104_116.ne rfl).ne rfl).ne rfl).ne rfl).ne rfl)
        have s105_119 := m119 _ _ (((((s105_116.ne rfl).ne rfl).ne rfl).ne rfl).ne rfl)
        have low119 := ((low115.trans h117).upd u118 geg22)
        clear m119
        refine e_then ?_
        refine c_seq ?_
        refine c_region ?_
        refine l_q rfl (q_move _ _ rfl s16_119.ev ?_)
        refine l_q rfl (q_move _ _ rfl (s21_119.ne rfl).ev ?_)
        refine l_q rfl (q_cutF (i := k) rfl Try.underlying22 sz37 ((At.hit z119 rfl).ne rfl).ev (At.hit z119.put rfl).ev ox16_118.rd (by omega) ?_)
        refine l_q rfl (q_makeFunc rfl (((s22_119.ne rfl).ne rfl).ne rfl).ev ?_)
        refine l_call (fun v w' => v = .bool (underB (outF lb lo lt) k) ∧ Low w118 w') rfl rfl rfl Try.func19 rfl (args2 rfl ((At.hit z119.put.put rfl).ne rfl).ev (At.hit z119.put.put.put rfl).ev) ((Contains.calls _ ((outF lb lo lt).drop k) (by rw [List.length_drop]; omega) g22 (fun y => prefB y.f0 (((outF lb lo lt).getD k zL).f0 ++ slash)) _ (RdF.cutL (j := k) encL_len ox16_118.rd (by omega)) (fun y w h => Under.calls y ((outF lb lo lt).getD k zL) (out_size ho ht k) g22 w (h.blk k118))).mono fun _ _ ⟨e, k⟩ => ⟨_, e, rfl, k⟩) ?_
        rintro _ w121 ⟨rfl, h121⟩
        have kmlb_121 := kmlb_118.low h121
        have kmlo_121 := kmlo_118.low h121
        have kmlt_121 := kmlt_118.low h121
        have kg22_121 := h121.blk k118
        have ox17_121 := ox17_118.low h121
        have ox16_121 := ox16_118.low h121
        have oy120_121 := (RdF.cutL (j := k) encL_len ox16_118.rd (by omega)).low h121
        refine l_end ?_
        refine e_fresh z119.put.put.put.put.put ?_
        intro a122 z122 m122
        have s16_122 := m122 _ _ (((((s16_119.ne rfl).ne rfl).ne rfl).ne rfl).ne rfl)
        have s17_122 := m122 _ _ (((((s17_119.ne rfl).ne rfl).ne rfl).ne rfl).ne rfl)
        have s22_122 := m122 _ _ (((((s22_119.ne rfl).ne rfl).ne rfl).ne rfl).ne rfl)
        have s103_122 := m122 _ _ (((((s103_119.ne rfl).ne rfl).ne rfl).ne rfl).ne rfl)
        have s104_122 := m122 _ _ (((((s104_119.ne rfl).ne rfl).ne rfl).ne rfl).ne rfl)
        have s105_122 := m122 _ _ (((((s105_119.ne rfl).ne rfl).ne rfl).ne rfl).ne rfl)
        have s114_122 := m122 _ _ (At.hit z119.put.put.put.put rfl)
        have low122 := (low119.trans h121)
        clear m122
        refine e_then ?_
        cases hc123 : underB (outF lb lo lt) k with
        | true =>
          have hs123 := s114_122.same (congrArg Value.bool hc123)
          refine c_true hs123 ?_
          refine c_region ?_
          refine l_q rfl (q_move _ _ rfl s17_122.ev ?_)
          refine l_q rfl (q_fld 0 rfl (by kernel_rfl) (s22_122.ne rfl).ev ?_)
          refine l_q rfl (q_cellT (.string (((outF lb lo lt).getD k zL).f0)) rfl Try.underlying9 (At.hit z122.put rfl).ev (fun _ e => by rw [e]; exact (cells_at kg22_121 0).trans rfl) ?_)
          refine l_buildF (vs := [.string (((outF lb lo lt).getD k zL).f0)]) rfl rfl Try.underlying25 rec9 (At.hit z122.put.put rfl).ev rfl rfl (by decide) (by decide) ?_
          intro g118_124 w124 hg124 k124 h124
          have onx17_g118_124 : ∀ k, Value.ownBlock v17_115 = some k → k < g118_124 := fun k hk => Nat.lt_of_lt_of_le (OwnF.own_lt ox17_121 hk) hg124
          have lt_g22_g118_124 := Nat.lt_of_lt_of_le (heap_lt kg22_121) hg124
          have nmlb_g118_124 := Nat.ne_of_lt (Nat.lt_of_lt_of_le kmlb_121.lt hg124)
          have nmlo_g118_124 := Nat.ne_of_lt (Nat.lt_of_lt_of_le kmlo_121.lt hg124)
          have nmlt_g118_124 := Nat.ne_of_lt (Nat.lt_of_lt_of_le kmlt_121.lt hg124)
          have geg118_124 := Nat.le_trans low122.ge hg124
          have kmlb_124 := kmlb_121.low h124
          have kmlo_124 := kmlo_121.low h124
          have kmlt_124 := kmlt_121.low h124
          have kg22_124 := h124.blk kg22_121
          have ox17_124 := ox17_121.low h124
          have ox16_124 := ox16_121.low h124
          refine l_appF (B := w35.heap.size) rfl rfl Try.underlying25 rec9 ((((At.hit z122 rfl).ne rfl).ne rfl).ne rfl).ev (At.hit z122.put.put.put rfl).ev k124 rfl (by decide) rfl ox17_124 (low122.trans h124).ge (by omega) ?_
          intro v125 w125 o125 gr125
          have kmlb_125 := kmlb_124.grw gr125
          have kmlo_125 := kmlo_124.grw gr125
          have kmlt_125 := kmlt_124.grw gr125
          have kg22_125 := gr125.blk kg22_124 rfl
          have lw125 := (low122.trans h124).grw gr125
          have ox16_125 := ox16_124.grw gr125 rfl
          replace o125 := o125.cast (show _ = ((dirsF (badF lb lo lt) (outF lb lo lt) k) ++ [((outF lb lo lt).getD k zL).f0]).length by rw [List.length_append]; rfl) (flat_snoc (enc := encS) (dirsF (badF lb lo lt) (outF lb lo lt) k) (((outF lb lo lt).getD k zL).f0))
          refine l_q rfl (q_assign _ _ rfl (At.hit z122.put.put.put.put rfl).ev ?_)
          refine l_end ?_
          refine e_fresh z122.put.put.put.put.put.put ?_
          intro a126 z126 m126
          have s16_126 := m126 _ _ ((((((s16_122.ne rfl).ne rfl).ne rfl).ne rfl).ne rfl).ne rfl)
          have s17_126 := m126 _ _ (At.hit z122.put.put.put.put.put rfl)
          have s103_126 := m126 _ _ ((((((s103_122.ne rfl).ne rfl).ne rfl).ne rfl).ne rfl).ne rfl)
          have s104_126 := m126 _ _ ((((((s104_122.ne rfl).ne rfl).ne rfl).ne rfl).ne rfl).ne rfl)
          have s105_126 := m126 _ _ ((((((s105_122.ne rfl).ne rfl).ne rfl).ne rfl).ne rfl).ne rfl)
          have low126 := lw125
          clear m126
          refine e_in ?_
          refine e_then ?_
          refine c_region ?_
          refine l_q rfl (q_add (((k + 1 : Nat) : Int)) rfl s105_126.ev rfl (i64_is (by omega) (by omega) (by omega)) ?_)
          refine l_q rfl (q_move _ _ rfl (At.hit z126 rfl).ev ?_)
          refine l_end ?_
          refine e_fresh z126.put.put ?_
          intro a127 z127 m127
          have s16_127 := m127 _ _ ((s16_126.ne rfl).ne rfl)
          have s17_127 := m127 _ _ ((s17_126.ne rfl).ne rfl)
          have s103_127 := m127 _ _ ((s103_126.ne rfl).ne rfl)
          have s104_127 := m127 _ _ ((s104_126.ne rfl).ne rfl)
          have s105_127 := m127 _ _ (At.hit z126.put rfl)
          clear m127
          have c128 := OwnF.castL o125 (show (dirsF (badF lb lo lt) (outF lb lo lt) k) ++ [((outF lb lo lt).getD k zL).f0] = dirsF (badF lb lo lt) (outF lb lo lt) (k + 1) from dirs_next hc123)
          exact ⟨v125, z127, s16_127, s17_127, s103_127, s104_127, s105_127, kmlb_125, kmlo_125, kmlt_125, c128, ox16_125, low126⟩
        | false =>
          have hs123 := s114_122.same (congrArg Value.bool hc123)
          refine c_false hs123 ?_
          refine wp_skip ?_
          refine e_in ?_
          refine e_then ?_
          refine c_region ?_
          refine l_q rfl (q_add (((k + 1 : Nat) : Int)) rfl s105_122.ev rfl (i64_is (by omega) (by omega) (by omega)) ?_)
          refine l_q rfl (q_move _ _ rfl (At.hit z122 rfl).ev ?_)
          refine l_end ?_
          refine e_fresh z122.put.put ?_
          intro a129 z129 m129
          have s16_129 := m129 _ _ ((s16_122.ne rfl).ne rfl)
          have s17_129 := m129 _ _ ((s17_122.ne rfl).ne rfl)
          have s103_129 := m129 _ _ ((s103_122.ne rfl).ne rfl)
          have s104_129 := m129 _ _ ((s104_122.ne rfl).ne rfl)
          have s105_129 := m129 _ _ (At.hit z122.put rfl)
          clear m129
          have c130 := OwnF.castL ox17_121 (show dirsF (badF lb lo lt) (outF lb lo lt) k = dirsF (badF lb lo lt) (outF lb lo lt) (k + 1) from dirs_skip hc123)
          exact ⟨v17_115, z129, s16_129, s17_129, s103_129, s104_129, s105_129, kmlb_121, kmlo_121, kmlt_121, c130, ox16_121, low122⟩
      · intro a131 w131 h
        obtain ⟨v17_131, z131, s16_131, s17_131, s103_131, s104_131, s105_131, kmlb_131, kmlo_131, kmlt_131, ox17_131, ox16_131, low131⟩ := h
        clear kmlb_110 kmlo_110 kmlt_110 low110 s103_114 s104_114 s105_114 s16_114 s17_114 z114
        have hdl := dirs_len (badF lb lo lt) (outF lb lo lt) (outF lb lo lt).length
        refine c_seq ?_
        refine c_region ?_
        refine l_q rfl (q_lss false rfl s105_131.ev s104_131.ev (decide_eq_false (by omega)) ?_)
        refine l_end ?_
        refine e_fresh z131.put ?_
        intro a132 z132 m132
        have s16_132 := m132 _ _ (s16_131.ne rfl)
        have s17_132 := m132 _ _ (s17_131.ne rfl)
        have s103_132 := m132 _ _ (s103_131.ne rfl)
        have s105_132 := m132 _ _ (s105_131.ne rfl)
        have s106_132 := m132 _ _ (At.hit z131 rfl)
        clear m132
        refine e_then ?_
        refine c_seq ?_
        refine c_false s106_132 ?_
        refine wp_exit ?_
        refine x_then ?_
        refine x_then ?_
        refine in_exit ?_
        refine e_then ?_
        refine c_seq ?_
        have c133 := OwnF.castL ox17_131 (show dirsF (badF lb lo lt) (outF lb lo lt) ((outF lb lo lt).length) = badD lb lo lt from rfl)
        have hbd : (badD lb lo lt).length ≤ 900000 := by unfold badD; omega
        refine c_region ?_
        refine l_q rfl (q_move _ _ rfl s17_132.ev ?_)
        refine l_call _ rfl rfl rfl Try.func17 rfl (args1 rfl (At.hit z132 rfl).ev) (sort_c v17_131 (badD lb lo lt) _ (Nat.le_trans hbd (by decide)) c133) ?_
        rintro _ w134 ⟨rfl, o134, gr134⟩
        have kmlb_134 := kmlb_131.grw gr134
        have kmlo_134 := kmlo_131.grw gr134
        have kmlt_134 := kmlt_131.grw gr134
        have lw134 := low131.grw gr134
        have ox16_134 := ox16_131.grw gr134 rfl
        refine l_end ?_
        refine e_fresh z132.put.put ?_
        intro a135 z135 m135
        have s16_135 := m135 _ _ ((s16_132.ne rfl).ne rfl)
        have s17_135 := m135 _ _ ((s17_132.ne rfl).ne rfl)
        have low135 := lw134
        clear m135
        refine e_then ?_
        refine c_seq ?_
        refine c_region ?_
        refine l_q rfl (q_move _ _ rfl s16_135.ev ?_)
        refine l_q rfl (q_move _ _ rfl (s17_135.ne rfl).ev ?_)
        refine l_call _ rfl rfl rfl Try.func18 rfl (args1 rfl (At.hit z135.put rfl).ev) (compact_calls v17_131 (sortB (badD lb lo lt)) _ o134) ?_
        rintro v136 w136 ⟨o136, gr136⟩
        have kmlb_136 := kmlb_134.grw gr136
        have kmlo_136 := kmlo_134.grw gr136
        have kmlt_136 := kmlt_134.grw gr136
        have lw136 := low135.grw gr136
        have ox16_136 := ox16_134.grw gr136 rfl
        replace o136 := OwnF.castL o136 (show compB (sortB (badD lb lo lt)) = badA lb lo lt from rfl)
        refine l_q rfl (q_assign _ _ rfl (((At.hit z135 rfl).ne rfl).ne rfl).ev ?_)
        refine l_q rfl (q_assign _ _ rfl ((At.hit z135.put.put rfl).ne rfl).ev ?_)
        refine l_end ?_
        refine e_fresh z135.put.put.put.put.put ?_
        intro a137 z137 m137
        have s6_137 := m137 _ _ ((At.hit z135.put.put.put rfl).ne rfl)
        have s7_137 := m137 _ _ (At.hit z135.put.put.put.put rfl)
        have low137 := lw136
        clear m137
        refine e_then ?_
        refine wp_ret ?_
        refine r_two rfl z137.defers s6_137 s7_137 ?_
        exact ⟨_, rfl, _, _, rfl, ox16_136.base (Nat.le_trans low9.ge low36.ge), o136.base (Nat.le_trans low9.ge low36.ge), (low9.trans (low36.trans low137))⟩
end Go.Proofs.Ytenbgnlkkmnmhaa.Q
end
/-! E5 -/
section
namespace Go.Proofs.Ytenbgnlkkmnmhaa.Q
open Go.RowKit Go.Proofs.Ytenbgnlkkmnmhaa.P
open Go.Proofs.YtenbgnlkkmnmhaaW.PrintWords (bytesOf bytesOf_length)
set_option linter.unusedVariables false
set_option linter.unusedSimpArgs false
set_option maxRecDepth 100000
set_option maxHeartbeats 4000000
attribute [local irreducible] wpList wpQuiet qch Code.wp Oper.quiet Act.put At Region.wanted yielded
theorem len_zero {α : Type} (l : List α) : decide (((l.length : Nat) : Int) = 0) = l.isEmpty := by cases l <;> simp <;> omega
theorem Clean.calls (vb vo vt : Value) (lb lo lt : List LfL) (hlb : lb.length ≤ 100000) (hlo : lo.length ≤ 100000) (hlt : lt.length ≤ 100000) (ho : shortL lo) (ht : shortL lt) (w0 : World) (hvb : RdF w0 3 vb lb.length (lb.map encL).flatten) (hvo : RdF w0 3 vo lo.length (lo.map encL).flatten) (hvt : RdF w0 3 vt lt.length (lt.map encL).flatten) : Calls Try.prog 12 #[vb, vo, vt] w0 fun e w' => e = .returned (.bool (badA lb lo lt).isEmpty) ∧ Low w0 w' := by
  refine c_fun (R := _) Try.func12 rfl 19 rfl (Nat.le_of_ble_eq_true rfl) ?_
  intro a z hA
  have s0 := hA 0 _ rfl
  have s1 := hA 1 _ rfl
  have s2 := hA 2 _ rfl
  clear hA
  refine c_seq ?_
  refine c_region ?_
  refine l_q rfl (q_assign _ _ rfl rfl ?_)
  refine l_end ?_
  refine e_fresh z.put ?_
  intro a1 z1 m1
  have s0_1 := m1 _ _ (s0.ne rfl)
  have s1_1 := m1 _ _ (s1.ne rfl)
  have s2_1 := m1 _ _ (s2.ne rfl)
  clear m1
  refine e_then ?_
  refine c_seq ?_
  refine c_region ?_
  refine l_q rfl (q_move _ _ rfl s0_1.ev ?_)
  refine l_q rfl (q_move _ _ rfl (s1_1.ne rfl).ev ?_)
  refine l_q rfl (q_move _ _ rfl ((s2_1.ne rfl).ne rfl).ev ?_)
  refine l_call _ rfl rfl rfl Try.func7 rfl (args3 rfl (((At.hit z1 rfl).ne rfl).ne rfl).ev ((At.hit z1.put rfl).ne rfl).ev (At.hit z1.put.put rfl).ev) (Three.calls _ _ _ lb lo lt hlb hlo hlt ho ht _ hvb hvo hvt) ?_
  rintro _ w2 ⟨p2, q2, rfl, o2, oo2, h2⟩
  replace o2 := o2.base (Low.refl _).ge
  replace oo2 := oo2.base (Low.refl _).ge
  have ovb_2 := hvb.low h2
  have ovo_2 := hvo.low h2
  have ovt_2 := hvt.low h2
  refine l_q rfl (q_move _ _ rfl (At.hit z1.put.put.put rfl).ev ?_)
  refine l_q rfl (q_extract rfl (At.hit z1.put.put.put.put rfl).ev rfl ?_)
  refine l_q rfl (q_extract rfl ((At.hit z1.put.put.put.put rfl).ne rfl).ev rfl ?_)
  refine l_q rfl (q_assign _ _ rfl ((At.hit z1.put.put.put.put.put rfl).ne rfl).ev ?_)
  refine l_fresh z1.put.put.put.put.put.put.put.put ?_
  intro a3 z3 m3
  have s15_3 := m3 _ _ ((At.hit z1.put.put.put.put.put.put rfl).ne rfl)
  clear m3
  refine l_q rfl (q_assign _ _ rfl s15_3.ev ?_)
  refine l_end ?_
  refine e_fresh z3.put ?_
  intro a4 z4 m4
  have s8_4 := m4 _ _ (At.hit z3 rfl)
  have low4 := h2
  clear m4
  refine e_then ?_
  refine c_seq ?_
  refine c_region ?_
  refine l_q rfl (q_move _ _ rfl s8_4.ev ?_)
  refine l_q rfl (q_lenF rfl rfl Try.underlying25 (At.hit z4 rfl).ev oo2.rd ?_)
  refine l_q rfl (q_eql _ rfl (At.hit z4.put rfl).ev rfl rfl ?_)
  refine l_q rfl (q_assign _ _ rfl (At.hit z4.put.put rfl).ev ?_)
  refine l_end ?_
  refine e_fresh z4.put.put.put.put ?_
  intro a5 z5 m5
  have s6_5 := m5 _ _ (At.hit z4.put.put.put rfl)
  clear m5
  refine e_then ?_
  refine wp_ret ?_
  refine r_tmp rfl z5.defers s6_5 ?_
  exact ⟨by rw [len_zero], low4⟩
theorem ThreeR.calls (vb vo vt : Value) (lb lo lt : List LfR) (hlb : lb.length ≤ 100000) (hlo : lo.length ≤ 100000) (hlt : lt.length ≤ 100000) (w0 : World) (hvb : RdF w0 3 vb lb.length (lb.map encR).flatten) (hvo : RdF w0 3 vo lo.length (lo.map encR).flatten) (hvt : RdF w0 3 vt lt.length (lt.map encR).flatten) : Calls Try.prog 8 #[vb, vo, vt] w0 fun e w' => ∃ z, e = .returned z ∧ ∃ x y, z = .tuple #[x, y] ∧ OwnF w' w0.heap.size 52 3 x (outS lb lo lt).length ((outS lb lo lt).map encR).flatten ∧ OwnF w' w0.heap.size 9 1 y (wantS lb lo lt).length ((wantS lb lo lt).map encS).flatten ∧ Low w0 w' := by
  refine c_fun (R := _) Try.func8 rfl 137 rfl (Nat.le_of_ble_eq_true rfl) ?_
  intro a z hA
  have s0 := hA 0 _ rfl
  have s1 := hA 1 _ rfl
  have s2 := hA 2 _ rfl
  clear hA
  refine c_seq ?_
  refine c_region ?_
  refine l_q rfl (q_assign _ _ rfl rfl ?_)
  refine l_q rfl (q_assign _ _ rfl rfl ?_)
  refine l_end ?_
  refine e_fresh z.put.put ?_
  intro a1 z1 m1
  have s0_1 := m1 _ _ ((s0.ne rfl).ne rfl)
  have s1_1 := m1 _ _ ((s1.ne rfl).ne rfl)
  have s2_1 := m1 _ _ ((s2.ne rfl).ne rfl)
  clear m1
  refine e_then ?_
  refine c_seq ?_
  refine c_region ?_
  refine l_q rfl (q_move _ _ rfl s0_1.ev ?_)
  refine l_q rfl (q_move _ _ rfl (s1_1.ne rfl).ev ?_)
  refine l_q rfl (q_move _ _ rfl ((s2_1.ne rfl).ne rfl).ev ?_)
  refine l_lit3 rfl rfl Try.underlying58 rec28 (((At.hit z1 rfl).ne rfl).ne rfl).ev ((At.hit z1.put rfl).ne rfl).ev (At.hit z1.put.put rfl).ev (RdF.one hvb) (RdF.one hvo) (RdF.one hvt) ?_
  intro g24_2 w2 hg2 k2 h2
  have geg24_2 := Nat.le_trans (Low.refl _).ge hg2
  have ovb_2 := hvb.low h2
  have ovo_2 := hvo.low h2
  have ovt_2 := hvt.low h2
  have og24_2_2 := rdFF3 k2 ovb_2 ovo_2 ovt_2
  obtain ⟨L, hL⟩ : ∃ L : List (List LfR), L = [lb, lo, lt] := ⟨_, rfl⟩
  rw [← hL] at og24_2_2
  have hLn : L.length = 3 := by rw [hL]; rfl
  have hLf : L.flatten.length ≤ 900000 := by rw [hL]; simp; omega
  refine l_call _ rfl rfl rfl Try.func22 rfl (args1 rfl (At.hit z1.put.put.put rfl).ev) (Paths.calls _ _ L hLf (by omega) _ og24_2_2) ?_
  rintro v3 w3 ⟨o3, h3⟩
  replace o3 := o3.base h2.ge
  have kg24_2_3 := h3.blk k2
  have ovb_3 := ovb_2.low h3
  have ovo_3 := ovo_2.low h3
  have ovt_3 := ovt_2.low h3
  have oL2_3 := og24_2_2.low h3
  replace o3 := OwnF.castL o3 (show pathsR L = pathsD lb lo lt from (by rw [hL]; rfl))
  refine l_q rfl (q_assign _ _ rfl (At.hit z1.put.put.put.put rfl).ev ?_)
  refine l_end ?_
  refine e_fresh z1.put.put.put.put.put.put ?_
  intro a4 z4 m4
  have s0_4 := m4 _ _ ((((((s0_1.ne rfl).ne rfl).ne rfl).ne rfl).ne rfl).ne rfl)
  have s1_4 := m4 _ _ ((((((s1_1.ne rfl).ne rfl).ne rfl).ne rfl).ne rfl).ne rfl)
  have s2_4 := m4 _ _ ((((((s2_1.ne rfl).ne rfl).ne rfl).ne rfl).ne rfl).ne rfl)
  have s8_4 := m4 _ _ (At.hit z1.put.put.put.put.put rfl)
  have low4 := (h2.trans h3)
  clear m4
  refine e_then ?_
  refine c_seq ?_
  refine c_region ?_
  refine l_q rfl (q_assign _ _ rfl rfl ?_)
  refine l_end ?_
  refine e_fresh z4.put ?_
  intro a5 z5 m5
  have s0_5 := m5 _ _ (s0_4.ne rfl)
  have s1_5 := m5 _ _ (s1_4.ne rfl)
  have s2_5 := m5 _ _ (s2_4.ne rfl)
  have s8_5 := m5 _ _ (s8_4.ne rfl)
  have s9_5 := m5 _ _ (At.hit z4 rfl)
  clear m5
  refine e_then ?_
  refine c_seq ?_
  refine c_region ?_
  refine l_makeMap rfl rfl ?_
  intro g26_6 w6 hg6 k6 h6
  have geg26_6 := Nat.le_trans (Low.refl _).ge hg6
  have ovb_6 := ovb_3.low h6
  have ovo_6 := ovo_3.low h6
  have ovt_6 := ovt_3.low h6
  have ob3_6 := o3.low h6
  refine l_q rfl (q_assign _ _ rfl (At.hit z5 rfl).ev ?_)
  refine l_end ?_
  refine e_fresh z5.put.put ?_
  intro a7 z7 m7
  have s0_7 := m7 _ _ ((s0_5.ne rfl).ne rfl)
  have s1_7 := m7 _ _ ((s1_5.ne rfl).ne rfl)
  have s2_7 := m7 _ _ ((s2_5.ne rfl).ne rfl)
  have s8_7 := m7 _ _ ((s8_5.ne rfl).ne rfl)
  have s9_7 := m7 _ _ ((s9_5.ne rfl).ne rfl)
  have s10_7 := m7 _ _ (At.hit z5.put rfl)
  have low7 := h6
  clear m7
  refine e_then ?_
  refine c_seq ?_
  refine c_region ?_
  refine l_q rfl (q_build (cs := #[.string zR.f0, .int .i64 zR.f1, .string zR.f2]) rfl rfl (by kernel_rfl) ?_)
  refine l_alloc rfl rfl zero52 ?_
  intro g11 w8 hg8 k8 h8
  have lt_g26_6_g11 := Nat.lt_of_lt_of_le k6.lt hg8
  have geg11 := Nat.le_trans low7.ge hg8
  have kg26_6_8 := k6.low h8
  have ovb_8 := ovb_6.low h8
  have ovo_8 := ovo_6.low h8
  have ovt_8 := ovt_6.low h8
  have ob3_8 := ob3_6.low h8
  refine l_row rfl rfl rfl (sz52.trans (congrArg some rfl.symm)) (At.hit z7.put rfl).ev ((At.hit z7 rfl).ne rfl).ev (by simp [Value.oneCell']) k8 (rfl.trans rfl.symm) ?_
  intro w9 k9 u9
  have kg26_6_9 := kg26_6_8.upd u9 (by omega)
  refine l_end ?_
  refine e_fresh z7.put.put ?_
  intro a10 z10 m10
  have s0_10 := m10 _ _ ((s0_7.ne rfl).ne rfl)
  have s1_10 := m10 _ _ ((s1_7.ne rfl).ne rfl)
  have s2_10 := m10 _ _ ((s2_7.ne rfl).ne rfl)
  have s8_10 := m10 _ _ ((s8_7.ne rfl).ne rfl)
  have s9_10 := m10 _ _ ((s9_7.ne rfl).ne rfl)
  have s10_10 := m10 _ _ ((s10_7.ne rfl).ne rfl)
  have s11_10 := m10 _ _ (At.hit z7.put rfl)
  have low10 := ((low7.trans h8).upd u9 geg11)
  clear m10
  refine e_then ?_
  refine c_seq ?_
  refine c_seq ?_
  refine c_region ?_
  refine l_q rfl (q_assign _ _ rfl rfl ?_)
  refine l_end ?_
  refine e_fresh z10.put ?_
  intro a11 z11 m11
  have s0_11 := m11 _ _ (s0_10.ne rfl)
  have s1_11 := m11 _ _ (s1_10.ne rfl)
  have s2_11 := m11 _ _ (s2_10.ne rfl)
  have s8_11 := m11 _ _ (s8_10.ne rfl)
  have s9_11 := m11 _ _ (s9_10.ne rfl)
  have s10_11 := m11 _ _ (s10_10.ne rfl)
  have s11_11 := m11 _ _ (s11_10.ne rfl)
  have s12_11 := m11 _ _ (At.hit z10 rfl)
  clear m11
  refine e_then ?_
  refine wp_block ?_
  refine c_loop ((pathsD lb lo lt).length) (fun k a w => ∃ v9 : Value, Fr 137 a ∧ At a 0 (vb) ∧ At a 1 (vo) ∧ At a 2 (vt) ∧ At a 8 (v3) ∧ At a 9 (v9) ∧ At a 10 (.map (some g26_6)) ∧ At a 11 (.pointer (some ⟨g11, 0, none⟩)) ∧ At a 12 (.int .i64 ((k : Nat) : Int)) ∧ w.heap[g11]? = some (.cells (#[.string zR.f0, .int .i64 zR.f1, .string zR.f2]) 52) ∧ MapIs w g26_6 (mapB (badR lb lo lt ((pathsD lb lo lt).take k))) ∧ (OwnF w w3.heap.size 52 3 v9 (outR lb lo lt ((pathsD lb lo lt).take k)).length (((outR lb lo lt ((pathsD lb lo lt).take k)).map encR).flatten) ∧ ∀ k, Value.ownBlock v9 = some k → k ≠ g11) ∧ Low w3 w) ?_ ?_ ?_
  · exact ⟨.slice none 0 0, z11, s0_11, s1_11, s2_11, s8_11, s9_11, s10_11, s11_11, s12_11, k9, kg26_6_9, ⟨OwnF.nil _ _ _ _, apart_nil _⟩, low10⟩
  · intro k a12 w12 hk12 h
    obtain ⟨v9_12, z12, s0_12, s1_12, s2_12, s8_12, s9_12, s10_12, s11_12, s12_12, kg11_12, kg26_6_12, ox9_12, low12⟩ := h
    clear k9 kg26_6_9 low10 s0_11 s10_11 s11_11 s12_11 s1_11 s2_11 s8_11 s9_11 z11
    have hpl := pathsD_len lb lo lt
    have hol := outR_len lb lo lt (pathsD lb lo lt) k 300000 (by omega)
    refine c_seq ?_
    refine c_seq ?_
    refine c_region ?_
    refine l_q rfl (q_move _ _ rfl s12_12.ev ?_)
    refine l_q rfl (q_move _ _ rfl (s8_12.ne rfl).ev ?_)
    refine l_q rfl (q_lenF rfl rfl Try.underlying25 (At.hit z12.put rfl).ev (o3.low low12).rd ?_)
    refine l_q rfl (q_lss true rfl (((At.hit z12 rfl).ne rfl).ne rfl).ev (At.hit z12.put.put rfl).ev (decide_eq_true (by omega)) ?_)
    refine l_end ?_
    refine e_fresh z12.put.put.put.put ?_
    intro a13 z13 m13
    have s0_13 := m13 _ _ ((((s0_12.ne rfl).ne rfl).ne rfl).ne rfl)
    have s1_13 := m13 _ _ ((((s1_12.ne rfl).ne rfl).ne rfl).ne rfl)
    have s2_13 := m13 _ _ ((((s2_12.ne rfl).ne rfl).ne rfl).ne rfl)
    have s8_13 := m13 _ _ ((((s8_12.ne rfl).ne rfl).ne rfl).ne rfl)
    have s9_13 := m13 _ _ ((((s9_12.ne rfl).ne rfl).ne rfl).ne rfl)
    have s10_13 := m13 _ _ ((((s10_12.ne rfl).ne rfl).ne rfl).ne rfl)
    have s11_13 := m13 _ _ ((((s11_12.ne rfl).ne rfl).ne rfl).ne rfl)
    have s12_13 := m13 _ _ ((((s12_12.ne rfl).ne rfl).ne rfl).ne rfl)
    have s31_13 := m13 _ _ (At.hit z12.put.put.put rfl)
    clear m13
    refine e_then ?_
    refine c_true s31_13 ?_
    refine wp_skip ?_
    refine e_then ?_
    refine c_seq ?_
    refine wp_block ?_
    refine c_seq ?_
    refine region_told [.val (vb), .val (v3), .val (.int .i64 ((k : Nat) : Int)), .val (pAt v3 (k * 1)), .val (.string ((pathsD lb lo lt).getD k ByteArray.empty)), .val (.agg (#[.string ((findR lb ((pathsD lb lo lt).getD k ByteArray.empty)).f0), .int .i64 ((findR lb ((pathsD lb lo lt).getD k ByteArray.empty)).f1), .string ((findR lb ((pathsD lb lo lt).getD k ByteArray.empty)).f2)])), .val (vo), .val (v3), .val (.int .i64 ((k : Nat) : Int)), .val (pAt v3 (k * 1)), .val (.string ((pathsD lb lo lt).getD k ByteArray.empty)), .val (.agg (#[.string ((findR lo ((pathsD lb lo lt).getD k ByteArray.empty)).f0), .int .i64 ((findR lo ((pathsD lb lo lt).getD k ByteArray.empty)).f1), .string ((findR lo ((pathsD lb lo lt).getD k ByteArray.empty)).f2)])), .val (vt), .val (v3), .val (.int .i64 ((k : Nat) : Int)), .val (pAt v3 (k * 1)), .val (.string ((pathsD lb lo lt).getD k ByteArray.empty)), .val (.agg (#[.string ((findR lt ((pathsD lb lo lt).getD k ByteArray.empty)).f0), .int .i64 ((findR lt ((pathsD lb lo lt).getD k ByteArray.empty)).f1), .string ((findR lt ((pathsD lb lo lt).getD k ByteArray.empty)).f2)])), .new (#[.string zR.f0, .int .i64 zR.f1, .string zR.f2]) 52 21 (#[.string ((findR lb ((pathsD lb lo lt).getD k ByteArray.empty)).f0), .int .i64 ((findR lb ((pathsD lb lo lt).getD k ByteArray.empty)).f1), .string ((findR lb ((pathsD lb lo lt).getD k ByteArray.empty)).f2)]), .new (#[.string zR.f0, .int .i64 zR.f1, .string zR.f2]) 52 22 (#[.string ((findR lo ((pathsD lb lo lt).getD k ByteArray.empty)).f0), .int .i64 ((findR lo ((pathsD lb lo lt).getD k ByteArray.empty)).f1), .string ((findR lo ((pathsD lb lo lt).getD k ByteArray.empty)).f2)]), .new (#[.string zR.f0, .int .i64 zR.f1, .string zR.f2]) 52 23 (#[.string ((findR lt ((pathsD lb lo lt).getD k ByteArray.empty)).f0), .int .i64 ((findR lt ((pathsD lb lo lt).getD k ByteArray.empty)).f1), .string ((findR lt ((pathsD lb lo lt).getD k ByteArray.empty)).f2)]), .put 18 5, .put 19 11, .put 20 17] hm (by kernel_rfl) rfl z13 (allO_cons ?_ (allO_cons ?_ (allO_cons ?_ (allO_cons ?_ (allO_cons ?_ (allO_cons ?_ (allO_cons ?_ (allO_cons ?_ (allO_cons ?_ (allO_cons ?_ (allO_cons ?_ (allO_cons ?_ (allO_cons ?_ (allO_cons ?_ (allO_cons ?_ (allO_cons ?_ (allO_cons ?_ (allO_cons ?_ (allO_cons (stepO_new _ rfl rfl rfl zero52) (allO_cons (stepO_new _ rfl rfl rfl zero52) (allO_cons (stepO_new _ rfl rfl rfl zero52) (allO_cons (stepO_put rfl rfl rfl rfl rfl rfl rfl rfl (rfl.trans rfl.symm) (by simp [Value.oneCell']) (sz52.trans (congrArg some rfl.symm))) (allO_cons (stepO_put rfl rfl rfl rfl rfl rfl rfl rfl (rfl.trans rfl.symm) (by simp [Value.oneCell']) (sz52.trans (congrArg some rfl.symm))) (allO_cons (stepO_put rfl rfl rfl rfl rfl rfl rfl rfl (rfl.trans rfl.symm) (by simp [Value.oneCell']) (sz52.trans (congrArg some rfl.symm))) allO_nil)))))))))))))))))))))))) ?_
    · exact stepO_val _ rfl rfl fun _ _ _ lw kp kn => q_move _ _ rfl (kp _ _ rfl s0_13).ev rfl
    · exact stepO_val _ rfl rfl fun _ _ _ lw kp kn => q_move _ _ rfl (kp _ _ rfl s8_13).ev rfl
    · exact stepO_val _ rfl rfl fun _ _ _ lw kp kn => q_move _ _ rfl (kp _ _ rfl s12_13).ev rfl
    · exact stepO_val _ rfl rfl fun _ _ _ lw kp kn => q_idxF (j := k) rfl Try.underlying25 sz9 (kn 1 _ _ rfl rfl rfl).ev ((o3.low low12).low lw).rd (kn 2 _ _ rfl rfl rfl).ev (by omega) rfl
    · exact stepO_val _ rfl rfl fun _ _ _ lw kp kn => q_ld1 (u := .string ((pathsD lb lo lt).getD k ByteArray.empty)) rfl Try.underlying9 rfl (kn 3 _ _ rfl rfl rfl).ev (fun _ h => (((o3.low low12).low lw).low h).rd) (by omega) ((flat_at encS_len ByteArray.empty _ k 0 (by omega) (by decide)).trans rfl) rfl
    · exact stepO_val _ rfl rfl fun _ _ _ lw kp kn => q_call (.agg (#[.string ((findR lb ((pathsD lb lo lt).getD k ByteArray.empty)).f0), .int .i64 ((findR lb ((pathsD lb lo lt).getD k ByteArray.empty)).f1), .string ((findR lb ((pathsD lb lo lt).getD k ByteArray.empty)).f2)])) rfl rfl Try.func23 rfl (args2 rfl (kn 0 _ _ rfl rfl rfl).ev (kn 4 _ _ rfl rfl rfl).ev) (fun _ h => (Find.calls _ lb (by omega) ((pathsD lb lo lt).getD k ByteArray.empty) _ (((ovb_3.low low12).low lw).low h)).mono fun _ _ ⟨e, k⟩ => ⟨e, h.trans k⟩) rfl
    · exact stepO_val _ rfl rfl fun _ _ _ lw kp kn => q_move _ _ rfl (kp _ _ rfl s1_13).ev rfl
    · exact stepO_val _ rfl rfl fun _ _ _ lw kp kn => q_move _ _ rfl (kp _ _ rfl s8_13).ev rfl
    · exact stepO_val _ rfl rfl fun _ _ _ lw kp kn => q_move _ _ rfl (kp _ _ rfl s12_13).ev rfl
    · exact stepO_val _ rfl rfl fun _ _ _ lw kp kn => q_idxF (j := k) rfl Try.underlying25 sz9 (kn 7 _ _ rfl rfl rfl).ev ((o3.low low12).low lw).rd (kn 8 _ _ rfl rfl rfl).ev (by omega) rfl
    · exact stepO_val _ rfl rfl fun _ _ _ lw kp kn => q_ld1 (u := .string ((pathsD lb lo lt).getD k ByteArray.empty)) rfl Try.underlying9 rfl (kn 9 _ _ rfl rfl rfl).ev (fun _ h => (((o3.low low12).low lw).low h).rd) (by omega) ((flat_at encS_len ByteArray.empty _ k 0 (by omega) (by decide)).trans rfl) rfl
    · exact stepO_val _ rfl rfl fun _ _ _ lw kp kn => q_call (.agg (#[.string ((findR lo ((pathsD lb lo lt).getD k ByteArray.empty)).f0), .int .i64 ((findR lo ((pathsD lb lo lt).getD k ByteArray.empty)).f1), .string ((findR lo ((pathsD lb lo lt).getD k ByteArray.empty)).f2)])) rfl rfl Try.func23 rfl (args2 rfl (kn 6 _ _ rfl rfl rfl).ev (kn 10 _ _ rfl rfl rfl).ev) (fun _ h => (Find.calls _ lo (by omega) ((pathsD lb lo lt).getD k ByteArray.empty) _ (((ovo_3.low low12).low lw).low h)).mono fun _ _ ⟨e, k⟩ => ⟨e, h.trans k⟩) rfl
    · exact stepO_val _ rfl rfl fun _ _ _ lw kp kn => q_move _ _ rfl (kp _ _ rfl s2_13).ev rfl
    · exact stepO_val _ rfl rfl fun _ _ _ lw kp kn => q_move _ _ rfl (kp _ _ rfl s8_13).ev rfl
    · exact stepO_val _ rfl rfl fun _ _ _ lw kp kn => q_move _ _ rfl (kp _ _ rfl s12_13).ev rfl
    · exact stepO_val _ rfl rfl fun _ _ _ lw kp kn => q_idxF (j := k) rfl Try.underlying25 sz9 (kn 13 _ _ rfl rfl rfl).ev ((o3.low low12).low lw).rd (kn 14 _ _ rfl rfl rfl).ev (by omega) rfl
    · exact stepO_val _ rfl rfl fun _ _ _ lw kp kn => q_ld1 (u := .string ((pathsD lb lo lt).getD k ByteArray.empty)) rfl Try.underlying9 rfl (kn 15 _ _ rfl rfl rfl).ev (fun _ h => (((o3.low low12).low lw).low h).rd) (by omega) ((flat_at encS_len ByteArray.empty _ k 0 (by omega) (by decide)).trans rfl) rfl
    · exact stepO_val _ rfl rfl fun _ _ _ lw kp kn => q_call (.agg (#[.string ((findR lt ((pathsD lb lo lt).getD k ByteArray.empty)).f0), .int .i64 ((findR lt ((pathsD lb lo lt).getD k ByteArray.empty)).f1), .string ((findR lt ((pathsD lb lo lt).getD k ByteArray.empty)).f2)])) rfl rfl Try.func23 rfl (args2 rfl (kn 12 _ _ rfl rfl rfl).ev (kn 16 _ _ rfl rfl rfl).ev) (fun _ h => (Find.calls _ lt (by omega) ((pathsD lb lo lt).getD k ByteArray.empty) _ (((ovt_3.low low12).low lw).low h)).mono fun _ _ ⟨e, k⟩ => ⟨e, h.trans k⟩) rfl
    intro a14 w14 G D
    have bg11_14 := (heap_lt kg11_12)
    have bg26_6_14 := kg26_6_12.lt
    have sg13 := D.ptr 18 _ _ _ _ _ rfl rfl
    have hgg13 := D.ge 18 _ _ _ _ _ rfl rfl
    have kg13 := D.blk 18 _ _ _ _ _ rfl rfl
    have geg13 := Nat.le_trans low12.ge hgg13
    have sg14 := D.ptr 19 _ _ _ _ _ rfl rfl
    have hgg14 := D.ge 19 _ _ _ _ _ rfl rfl
    have kg14 := D.blk 19 _ _ _ _ _ rfl rfl
    have geg14 := Nat.le_trans low12.ge hgg14
    have sg15 := D.ptr 20 _ _ _ _ _ rfl rfl
    have hgg15 := D.ge 20 _ _ _ _ _ rfl rfl
    have kg15 := D.blk 20 _ _ _ _ _ rfl rfl
    have geg15 := Nat.le_trans low12.ge hgg15
    have d14_18_19 := D.ne 18 19 _ _ _ _ _ _ _ _ rfl rfl rfl
    have d14_18_20 := D.ne 18 20 _ _ _ _ _ _ _ _ rfl rfl rfl
    have d14_19_20 := D.ne 19 20 _ _ _ _ _ _ _ _ rfl rfl rfl
    have h14 := D.low
    have kg11_14 := h14.blk kg11_12
    have kg26_6_14 := kg26_6_12.low h14
    have ox9_14 := ox9_12.1.low h14
    have ovb_14 := (ovb_3.low low12).low h14
    have ovo_14 := (ovo_3.low low12).low h14
    have ovt_14 := (ovt_3.low low12).low h14
    have ob3_14 := (o3.low low12).low h14
    have z14 := D.fr
    have s0_14 := (D.keep _ _ rfl s0_13)
    have s1_14 := (D.keep _ _ rfl s1_13)
    have s2_14 := (D.keep _ _ rfl s2_13)
    have s8_14 := (D.keep _ _ rfl s8_13)
    have s9_14 := (D.keep _ _ rfl s9_13)
    have s10_14 := (D.keep _ _ rfl s10_13)
    have s11_14 := (D.keep _ _ rfl s11_13)
    have s12_14 := (D.keep _ _ rfl s12_13)
    have s31_14 := (D.keep _ _ rfl s31_13)
    have s34_14 := (D.val 0 _ _ rfl rfl)
    have s35_14 := (D.val 1 _ _ rfl rfl)
    have s36_14 := (D.val 2 _ _ rfl rfl)
    have s37_14 := (D.val 3 _ _ rfl rfl)
    have s38_14 := (D.val 4 _ _ rfl rfl)
    have s39_14 := (D.val 5 _ _ rfl rfl)
    have s40_14 := (D.val 6 _ _ rfl rfl)
    have s41_14 := (D.val 7 _ _ rfl rfl)
    have s42_14 := (D.val 8 _ _ rfl rfl)
    have s43_14 := (D.val 9 _ _ rfl rfl)
    have s44_14 := (D.val 10 _ _ rfl rfl)
    have s45_14 := (D.val 11 _ _ rfl rfl)
    have s46_14 := (D.val 12 _ _ rfl rfl)
    have s47_14 := (D.val 13 _ _ rfl rfl)
    have s48_14 := (D.val 14 _ _ rfl rfl)
    have s49_14 := (D.val 15 _ _ rfl rfl)
    have s50_14 := (D.val 16 _ _ rfl rfl)
    have s51_14 := (D.val 17 _ _ rfl rfl)
    clear D
    generalize G 18 = g13 at *
    generalize G 19 = g14 at *
    generalize G 20 = g15 at *
    refine e_fresh z14 ?_
    intro a15 z15 m15
    have s0_15 := m15 _ _ s0_14
    have s1_15 := m15 _ _ s1_14
    have s2_15 := m15 _ _ s2_14
    have s8_15 := m15 _ _ s8_14
    have s9_15 := m15 _ _ s9_14
    have s10_15 := m15 _ _ s10_14
    have s11_15 := m15 _ _ s11_14
    have s12_15 := m15 _ _ s12_14
    have s13_15 := m15 _ _ sg13
    have s14_15 := m15 _ _ sg14
    have s15_15 := m15 _ _ sg15
    have low15 := (low12.trans h14)
    clear m15
    refine e_then ?_
    refine c_seq ?_
    refine c_region ?_
    refine l_q rfl (q_row rfl Try.underlying52 rfl (sz52.trans (congrArg some rfl.symm)) s14_15.ev (fun _ e => by rw [e]; exact kg14) ?_)
    refine l_alloc rfl rfl zero52 ?_
    intro g16 w16 hg16 k16 h16
    have onx9_g16 : ∀ k, Value.ownBlock v9_12 = some k → k < g16 := fun k hk => Nat.lt_of_lt_of_le (OwnF.own_lt ox9_14 hk) hg16
    have lt_g11_g16 := Nat.lt_of_lt_of_le (heap_lt kg11_14) hg16
    have lt_g26_6_g16 := Nat.lt_of_lt_of_le kg26_6_14.lt hg16
    have lt_g13_g16 := Nat.lt_of_lt_of_le (heap_lt kg13) hg16
    have lt_g14_g16 := Nat.lt_of_lt_of_le (heap_lt kg14) hg16
    have lt_g15_g16 := Nat.lt_of_lt_of_le (heap_lt kg15) hg16
    have geg16 := Nat.le_trans low15.ge hg16
    have kg11_16 := h16.blk kg11_14
    have kg26_6_16 := kg26_6_14.low h16
    have kg13_16 := h16.blk kg13
    have kg14_16 := h16.blk kg14
    have kg15_16 := h16.blk kg15
    have ox9_16 := ox9_14.low h16
    have ovb_16 := ovb_14.low h16
    have ovo_16 := ovo_14.low h16
    have ovt_16 := ovt_14.low h16
    have ob3_16 := ob3_14.low h16
    refine l_row rfl rfl rfl (sz52.trans (congrArg some rfl.symm)) (At.hit z15.put rfl).ev ((At.hit z15 rfl).ne rfl).ev (by simp [Value.oneCell']) k16 (rfl.trans rfl.symm) ?_
    intro w17 k17 u17
    have ox9_17 := ox9_16.updn u17 onx9_g16
    have kg11_17 := u17.blk kg11_16 (by omega)
    have kg26_6_17 := kg26_6_16.upd u17 (by omega)
    have kg13_17 := u17.blk kg13_16 (by omega)
    have kg14_17 := u17.blk kg14_16 (by omega)
    have kg15_17 := u17.blk kg15_16 (by omega)
    refine l_end ?_
    refine e_fresh z15.put.put ?_
    intro a18 z18 m18
    have s0_18 := m18 _ _ ((s0_15.ne rfl).ne rfl)
    have s1_18 := m18 _ _ ((s1_15.ne rfl).ne rfl)
    have s2_18 := m18 _ _ ((s2_15.ne rfl).ne rfl)
    have s8_18 := m18 _ _ ((s8_15.ne rfl).ne rfl)
    have s9_18 := m18 _ _ ((s9_15.ne rfl).ne rfl)
    have s10_18 := m18 _ _ ((s10_15.ne rfl).ne rfl)
    have s11_18 := m18 _ _ ((s11_15.ne rfl).ne rfl)
    have s12_18 := m18 _ _ ((s12_15.ne rfl).ne rfl)
    have s13_18 := m18 _ _ ((s13_15.ne rfl).ne rfl)
    have s14_18 := m18 _ _ ((s14_15.ne rfl).ne rfl)
    have s15_18 := m18 _ _ ((s15_15.ne rfl).ne rfl)
    have s16_18 := m18 _ _ (At.hit z15.put rfl)
    have low18 := ((low15.trans h16).upd u17 geg16)
    clear m18
    refine e_then ?_
    refine c_seq ?_
    refine c_seq ?_
    by_cases hb19 : ¬ findR lo ((pathsD lb lo lt).getD k ByteArray.empty) = findR lt ((pathsD lb lo lt).getD k ByteArray.empty)
    · skip
      by_cases hb20 : findR lo ((pathsD lb lo lt).getD k ByteArray.empty) = findR lb ((pathsD lb lo lt).getD k ByteArray.empty)
      · skip
        refine c_region ?_
        refine l_q rfl (q_row rfl Try.underlying52 rfl (sz52.trans (congrArg some rfl.symm)) s14_18.ev (fun _ e => by rw [e]; exact kg14_17) ?_)
        refine l_q rfl (q_row rfl Try.underlying52 rfl (sz52.trans (congrArg some rfl.symm)) (s15_18.ne rfl).ev (fun _ e => by rw [e]; exact kg15_17) ?_)
        refine l_q rfl (q_ne3 true rfl guard52 ((At.hit z18 rfl).ne rfl).ev (At.hit z18.put rfl).ev (eq52 9998 ((findR lo ((pathsD lb lo lt).getD k ByteArray.empty)).f0) ((findR lo ((pathsD lb lo lt).getD k ByteArray.empty)).f1) ((findR lo ((pathsD lb lo lt).getD k ByteArray.empty)).f2) ((findR lt ((pathsD lb lo lt).getD k ByteArray.empty)).f0) ((findR lt ((pathsD lb lo lt).getD k ByteArray.empty)).f1) ((findR lt ((pathsD lb lo lt).getD k ByteArray.empty)).f2)) (neR_true hb19) ?_)
        refine l_q rfl (q_move _ _ rfl (At.hit z18.put.put rfl).ev ?_)
        refine l_qg (wanted_is (j := 3) (d := 56) (b := true) rfl rfl (At.hit z18.put.put.put rfl) rfl) (q_row rfl Try.underlying52 rfl (sz52.trans (congrArg some rfl.symm)) ((((s14_18.ne rfl).ne rfl).ne rfl).ne rfl).ev (fun _ e => by rw [e]; exact kg14_17) ?_)
        refine l_qg (wanted_is (j := 3) (d := 56) (b := true) rfl rfl ((At.hit z18.put.put.put rfl).ne rfl) rfl) (q_row rfl Try.underlying52 rfl (sz52.trans (congrArg some rfl.symm)) (((((s13_18.ne rfl).ne rfl).ne rfl).ne rfl).ne rfl).ev (fun _ e => by rw [e]; exact kg13_17) ?_)
        refine l_qg (wanted_is (j := 3) (d := 56) (b := true) rfl rfl (((At.hit z18.put.put.put rfl).ne rfl).ne rfl) rfl) (q_eq3 true rfl guard52 ((At.hit z18.put.put.put.put rfl).ne rfl).ev (At.hit z18.put.put.put.put.put rfl).ev (eq52 9998 ((findR lo ((pathsD lb lo lt).getD k ByteArray.empty)).f0) ((findR lo ((pathsD lb lo lt).getD k ByteArray.empty)).f1) ((findR lo ((pathsD lb lo lt).getD k ByteArray.empty)).f2) ((findR lb ((pathsD lb lo lt).getD k ByteArray.empty)).f0) ((findR lb ((pathsD lb lo lt).getD k ByteArray.empty)).f1) ((findR lb ((pathsD lb lo lt).getD k ByteArray.empty)).f2)) (eqR_true hb20) ?_)
        refine l_q rfl (q_pick (b := true) (.bool true) rfl ((((At.hit z18.put.put.put rfl).ne rfl).ne rfl).ne rfl).ev (At.hit z18.put.put.put.put.put.put rfl).ev ?_)
        refine l_end ?_
        refine e_fresh z18.put.put.put.put.put.put.put.put ?_
        intro a21 z21 m21
        have s0_21 := m21 _ _ ((((((((s0_18.ne rfl).ne rfl).ne rfl).ne rfl).ne rfl).ne rfl).ne rfl).ne rfl)
        have s1_21 := m21 _ _ ((((((((s1_18.ne rfl).ne rfl).ne rfl).ne rfl).ne rfl).ne rfl).ne rfl).ne rfl)
        have s2_21 := m21 _ _ ((((((((s2_18.ne rfl).ne rfl).ne rfl).ne rfl).ne rfl).ne rfl).ne rfl).ne rfl)
        have s8_21 := m21 _ _ ((((((((s8_18.ne rfl).ne rfl).ne rfl).ne rfl).ne rfl).ne rfl).ne rfl).ne rfl)
        have s9_21 := m21 _ _ ((((((((s9_18.ne rfl).ne rfl).ne rfl).ne rfl).ne rfl).ne rfl).ne rfl).ne rfl)
        have s10_21 := m21 _ _ ((((((((s10_18.ne rfl).ne rfl).ne rfl).ne rfl).ne rfl).ne rfl).ne rfl).ne rfl)
        have s11_21 := m21 _ _ ((((((((s11_18.ne rfl).ne rfl).ne rfl).ne rfl).ne rfl).ne rfl).ne rfl).ne rfl)
        have s12_21 := m21 _ _ ((((((((s12_18.ne rfl).ne rfl).ne rfl).ne rfl).ne rfl).ne rfl).ne rfl).ne rfl)
        have s13_21 := m21 _ _ ((((((((s13_18.ne rfl).ne rfl).ne rfl).ne rfl).ne rfl).ne rfl).ne rfl).ne rfl)
        have s14_21 := m21 _ _ ((((((((s14_18.ne rfl).ne rfl).ne rfl).ne rfl).ne rfl).ne rfl).ne rfl).ne rfl)
        have s15_21 := m21 _ _ ((((((((s15_18.ne rfl).ne rfl).ne rfl).ne rfl).ne rfl).ne rfl).ne rfl).ne rfl)
        have s16_21 := m21 _ _ ((((((((s16_18.ne rfl).ne rfl).ne rfl).ne rfl).ne rfl).ne rfl).ne rfl).ne rfl)
        have s60_21 := m21 _ _ (At.hit z18.put.put.put.put.put.put.put rfl)
        clear m21
        refine e_then ?_
        refine c_true s60_21 ?_
        refine c_region ?_
        refine l_q rfl (q_row rfl Try.underlying52 rfl (sz52.trans (congrArg some rfl.symm)) s15_21.ev (fun _ e => by rw [e]; exact kg15_17) ?_)
        refine l_row rfl rfl rfl (sz52.trans (congrArg some rfl.symm)) (s16_21.ne rfl).ev (At.hit z21 rfl).ev (by simp [Value.oneCell']) k17 (rfl.trans rfl.symm) ?_
        intro w22 k22 u22
        have ox9_22 := ox9_17.updn u22 onx9_g16
        have kg11_22 := u22.blk kg11_17 (by omega)
        have kg26_6_22 := kg26_6_17.upd u22 (by omega)
        have kg13_22 := u22.blk kg13_17 (by omega)
        have kg14_22 := u22.blk kg14_17 (by omega)
        have kg15_22 := u22.blk kg15_17 (by omega)
        refine l_end ?_
        refine e_fresh z21.put ?_
        intro a23 z23 m23
        have s0_23 := m23 _ _ (s0_21.ne rfl)
        have s1_23 := m23 _ _ (s1_21.ne rfl)
        have s2_23 := m23 _ _ (s2_21.ne rfl)
        have s8_23 := m23 _ _ (s8_21.ne rfl)
        have s9_23 := m23 _ _ (s9_21.ne rfl)
        have s10_23 := m23 _ _ (s10_21.ne rfl)
        have s11_23 := m23 _ _ (s11_21.ne rfl)
        have s12_23 := m23 _ _ (s12_21.ne rfl)
        have s13_23 := m23 _ _ (s13_21.ne rfl)
        have s14_23 := m23 _ _ (s14_21.ne rfl)
        have s15_23 := m23 _ _ (s15_21.ne rfl)
        have s16_23 := m23 _ _ (s16_21.ne rfl)
        have low23 := (low18.upd u22 geg16)
        clear m23
        refine e_then ?_
        refine c_seq ?_
        refine c_seq ?_
        refine c_region ?_
        refine l_q rfl (q_row rfl Try.underlying52 rfl (sz52.trans (congrArg some rfl.symm)) s14_23.ev (fun _ e => by rw [e]; exact kg14_22) ?_)
        refine l_q rfl (q_row rfl Try.underlying52 rfl (sz52.trans (congrArg some rfl.symm)) (s15_23.ne rfl).ev (fun _ e => by rw [e]; exact kg15_22) ?_)
        refine l_q rfl (q_ne3 true rfl guard52 ((At.hit z23 rfl).ne rfl).ev (At.hit z23.put rfl).ev (eq52 9998 ((findR lo ((pathsD lb lo lt).getD k ByteArray.empty)).f0) ((findR lo ((pathsD lb lo lt).getD k ByteArray.empty)).f1) ((findR lo ((pathsD lb lo lt).getD k ByteArray.empty)).f2) ((findR lt ((pathsD lb lo lt).getD k ByteArray.empty)).f0) ((findR lt ((pathsD lb lo lt).getD k ByteArray.empty)).f1) ((findR lt ((pathsD lb lo lt).getD k ByteArray.empty)).f2)) (neR_true hb19) ?_)
        refine l_q rfl (q_move _ _ rfl (At.hit z23.put.put rfl).ev ?_)
        refine l_qg (wanted_is (j := 3) (d := 65) (b := true) rfl rfl (At.hit z23.put.put.put rfl) rfl) (q_row rfl Try.underlying52 rfl (sz52.trans (congrArg some rfl.symm)) ((((s14_23.ne rfl).ne rfl).ne rfl).ne rfl).ev (fun _ e => by rw [e]; exact kg14_22) ?_)
        refine l_qg (wanted_is (j := 3) (d := 65) (b := true) rfl rfl ((At.hit z23.put.put.put rfl).ne rfl) rfl) (q_row rfl Try.underlying52 rfl (sz52.trans (congrArg some rfl.symm)) (((((s13_23.ne rfl).ne rfl).ne rfl).ne rfl).ne rfl).ev (fun _ e => by rw [e]; exact kg13_22) ?_)
        refine l_qg (wanted_is (j := 3) (d := 65) (b := true) rfl rfl (((At.hit z23.put.put.put rfl).ne rfl).ne rfl) rfl) (q_ne3 false rfl guard52 ((At.hit z23.put.put.put.put rfl).ne rfl).ev (At.hit z23.put.put.put.put.put rfl).ev (eq52 9998 ((findR lo ((pathsD lb lo lt).getD k ByteArray.empty)).f0) ((findR lo ((pathsD lb lo lt).getD k ByteArray.empty)).f1) ((findR lo ((pathsD lb lo lt).getD k ByteArray.empty)).f2) ((findR lb ((pathsD lb lo lt).getD k ByteArray.empty)).f0) ((findR lb ((pathsD lb lo lt).getD k ByteArray.empty)).f1) ((findR lb ((pathsD lb lo lt).getD k ByteArray.empty)).f2)) (neR_false hb20) ?_)
        refine l_q rfl (q_pick (b := true) (.bool false) rfl ((((At.hit z23.put.put.put rfl).ne rfl).ne rfl).ne rfl).ev (At.hit z23.put.put.put.put.put.put rfl).ev ?_)
        refine l_fresh z23.put.put.put.put.put.put.put.put ?_
        intro a24 z24 m24
        have s0_24 := m24 _ _ ((((((((s0_23.ne rfl).ne rfl).ne rfl).ne rfl).ne rfl).ne rfl).ne rfl).ne rfl)
        have s1_24 := m24 _ _ ((((((((s1_23.ne rfl).ne rfl).ne rfl).ne rfl).ne rfl).ne rfl).ne rfl).ne rfl)
        have s2_24 := m24 _ _ ((((((((s2_23.ne rfl).ne rfl).ne rfl).ne rfl).ne rfl).ne rfl).ne rfl).ne rfl)
        have s8_24 := m24 _ _ ((((((((s8_23.ne rfl).ne rfl).ne rfl).ne rfl).ne rfl).ne rfl).ne rfl).ne rfl)
        have s9_24 := m24 _ _ ((((((((s9_23.ne rfl).ne rfl).ne rfl).ne rfl).ne rfl).ne rfl).ne rfl).ne rfl)
        have s10_24 := m24 _ _ ((((((((s10_23.ne rfl).ne rfl).ne rfl).ne rfl).ne rfl).ne rfl).ne rfl).ne rfl)
        have s11_24 := m24 _ _ ((((((((s11_23.ne rfl).ne rfl).ne rfl).ne rfl).ne rfl).ne rfl).ne rfl).ne rfl)
        have s12_24 := m24 _ _ ((((((((s12_23.ne rfl).ne rfl).ne rfl).ne rfl).ne rfl).ne rfl).ne rfl).ne rfl)
        have s13_24 := m24 _ _ ((((((((s13_23.ne rfl).ne rfl).ne rfl).ne rfl).ne rfl).ne rfl).ne rfl).ne rfl)
        have s15_24 := m24 _ _ ((((((((s15_23.ne rfl).ne rfl).ne rfl).ne rfl).ne rfl).ne rfl).ne rfl).ne rfl)
        have s16_24 := m24 _ _ ((((((((s16_23.ne rfl).ne rfl).ne rfl).ne rfl).ne rfl).ne rfl).ne rfl).ne rfl)
        have s69_24 := m24 _ _ (At.hit z23.put.put.put.put.put.put.put rfl)
        clear m24
        refine l_q rfl (q_move _ _ rfl s69_24.ev ?_)
        refine l_skip (wanted_is (j := 8) (d := 70) (b := false) rfl rfl (At.hit z24 rfl) rfl) ?_
        refine l_skip (wanted_is (j := 8) (d := 70) (b := false) rfl rfl ((At.hit z24 rfl).ne rfl) rfl) ?_
        refine l_skip (wanted_is (j := 8) (d := 70) (b := false) rfl rfl (((At.hit z24 rfl).ne rfl).ne rfl) rfl) ?_
        refine l_q rfl (q_pick (b := false) (.bool false) rfl ((((At.hit z24 rfl).ne rfl).ne rfl).ne rfl).ev rfl ?_)
        refine l_end ?_
        refine e_fresh z24.put.put.put.put.put ?_
        intro a25 z25 m25
        have s0_25 := m25 _ _ (((((s0_24.ne rfl).ne rfl).ne rfl).ne rfl).ne rfl)
        have s1_25 := m25 _ _ (((((s1_24.ne rfl).ne rfl).ne rfl).ne rfl).ne rfl)
        have s2_25 := m25 _ _ (((((s2_24.ne rfl).ne rfl).ne rfl).ne rfl).ne rfl)
        have s8_25 := m25 _ _ (((((s8_24.ne rfl).ne rfl).ne rfl).ne rfl).ne rfl)
        have s9_25 := m25 _ _ (((((s9_24.ne rfl).ne rfl).ne rfl).ne rfl).ne rfl)
        have s10_25 := m25 _ _ (((((s10_24.ne rfl).ne rfl).ne rfl).ne rfl).ne rfl)
        have s11_25 := m25 _ _ (((((s11_24.ne rfl).ne rfl).ne rfl).ne rfl).ne rfl)
        have s12_25 := m25 _ _ (((((s12_24.ne rfl).ne rfl).ne rfl).ne rfl).ne rfl)
        have s16_25 := m25 _ _ (((((s16_24.ne rfl).ne rfl).ne rfl).ne rfl).ne rfl)
        have s74_25 := m25 _ _ (At.hit z24.put.put.put.put rfl)
        clear m25
        refine e_then ?_
        refine c_false s74_25 ?_
        refine wp_skip ?_
        refine e_then ?_
        refine c_seq ?_
        by_cases hb26 : ¬ findR lt ((pathsD lb lo lt).getD k ByteArray.empty) = zR
        · skip
          refine c_region ?_
          refine l_q rfl (q_row rfl Try.underlying52 rfl (sz52.trans (congrArg some rfl.symm)) s16_25.ev (fun _ e => by rw [e]; exact k22) ?_)
          refine l_q rfl (q_row rfl Try.underlying52 rfl (sz52.trans (congrArg some rfl.symm)) (s11_25.ne rfl).ev (fun _ e => by rw [e]; exact kg11_22) ?_)
          refine l_q rfl (q_ne3 true rfl guard52 ((At.hit z25 rfl).ne rfl).ev (At.hit z25.put rfl).ev (eq52 9998 ((findR lt ((pathsD lb lo lt).getD k ByteArray.empty)).f0) ((findR lt ((pathsD lb lo lt).getD k ByteArray.empty)).f1) ((findR lt ((pathsD lb lo lt).getD k ByteArray.empty)).f2) zR.f0 zR.f1 zR.f2) (neR_true hb26) ?_)
          refine l_end ?_
          refine e_fresh z25.put.put.put ?_
          intro a27 z27 m27
          have s0_27 := m27 _ _ (((s0_25.ne rfl).ne rfl).ne rfl)
          have s1_27 := m27 _ _ (((s1_25.ne rfl).ne rfl).ne rfl)
          have s2_27 := m27 _ _ (((s2_25.ne rfl).ne rfl).ne rfl)
          have s8_27 := m27 _ _ (((s8_25.ne rfl).ne rfl).ne rfl)
          have s9_27 := m27 _ _ (((s9_25.ne rfl).ne rfl).ne rfl)
          have s10_27 := m27 _ _ (((s10_25.ne rfl).ne rfl).ne rfl)
          have s11_27 := m27 _ _ (((s11_25.ne rfl).ne rfl).ne rfl)
          have s12_27 := m27 _ _ (((s12_25.ne rfl).ne rfl).ne rfl)
          have s16_27 := m27 _ _ (((s16_25.ne rfl).ne rfl).ne rfl)
          have s82_27 := m27 _ _ (At.hit z25.put.put rfl)
          clear m27
          refine e_then ?_
          refine c_true s82_27 ?_
          refine c_region ?_
          refine l_q rfl (q_move _ _ rfl s9_27.ev ?_)
          refine l_q rfl (q_row rfl Try.underlying52 rfl (sz52.trans (congrArg some rfl.symm)) (s16_27.ne rfl).ev (fun _ e => by rw [e]; exact k22) ?_)
          refine l_buildF (vs := [.string ((findR lt ((pathsD lb lo lt).getD k ByteArray.empty)).f0), .int .i64 ((findR lt ((pathsD lb lo lt).getD k ByteArray.empty)).f1), .string ((findR lt ((pathsD lb lo lt).getD k ByteArray.empty)).f2)]) rfl rfl Try.underlying28 rec52 (At.hit z27.put rfl).ev rfl rfl (by decide) (by decide) ?_
          intro g85_28 w28 hg28 k28 h28
          have onx9_g85_28 : ∀ k, Value.ownBlock v9_12 = some k → k < g85_28 := fun k hk => Nat.lt_of_lt_of_le (OwnF.own_lt ox9_22 hk) hg28
          have lt_g11_g85_28 := Nat.lt_of_lt_of_le (heap_lt kg11_22) hg28
          have lt_g26_6_g85_28 := Nat.lt_of_lt_of_le kg26_6_22.lt hg28
          have lt_g16_g85_28 := Nat.lt_of_lt_of_le (heap_lt k22) hg28
          have geg85_28 := Nat.le_trans low23.ge hg28
          have kg11_28 := h28.blk kg11_22
          have kg26_6_28 := kg26_6_22.low h28
          have kg16_28 := h28.blk k22
          have ox9_28 := ox9_22.low h28
          have ovb_28 := (ovb_3.low (low18.upd u22 geg16)).low h28
          have ovo_28 := (ovo_3.low (low18.upd u22 geg16)).low h28
          have ovt_28 := (ovt_3.low (low18.upd u22 geg16)).low h28
          have ob3_28 := (o3.low (low18.upd u22 geg16)).low h28
          refine l_appFo (B := w3.heap.size) rfl rfl Try.underlying28 rec52 (((At.hit z27 rfl).ne rfl).ne rfl).ev (At.hit z27.put.put rfl).ev k28 rfl (by decide) rfl ox9_28 (low23.trans h28).ge (by omega) ?_
          intro v29 w29 o29 gr29 ap29
          have kg11_29 := gr29.blka kg11_28 ox9_12.2
          have kg26_6_29 := kg26_6_28.grw gr29
          have kg16_29 := gr29.blkn kg16_28 onx9_g16
          have lw29 := (low23.trans h28).grw gr29
          have apf29 := apart_app ap29 ox9_12.2 (heap_lt kg11_28)
          replace o29 := o29.cast (show _ = ((outR lb lo lt ((pathsD lb lo lt).take k)) ++ [(findR lt ((pathsD lb lo lt).getD k ByteArray.empty))]).length by rw [List.length_append]; rfl) (flat_snoc (enc := encR) (outR lb lo lt ((pathsD lb lo lt).take k)) (findR lt ((pathsD lb lo lt).getD k ByteArray.empty)))
          refine l_q rfl (q_assign _ _ rfl (At.hit z27.put.put.put rfl).ev ?_)
          refine l_end ?_
          refine e_fresh z27.put.put.put.put.put ?_
          intro a30 z30 m30
          have s0_30 := m30 _ _ (((((s0_27.ne rfl).ne rfl).ne rfl).ne rfl).ne rfl)
          have s1_30 := m30 _ _ (((((s1_27.ne rfl).ne rfl).ne rfl).ne rfl).ne rfl)
          have s2_30 := m30 _ _ (((((s2_27.ne rfl).ne rfl).ne rfl).ne rfl).ne rfl)
          have s8_30 := m30 _ _ (((((s8_27.ne rfl).ne rfl).ne rfl).ne rfl).ne rfl)
          have s9_30 := m30 _ _ (At.hit z27.put.put.put.put rfl)
          have s10_30 := m30 _ _ (((((s10_27.ne rfl).ne rfl).ne rfl).ne rfl).ne rfl)
          have s11_30 := m30 _ _ (((((s11_27.ne rfl).ne rfl).ne rfl).ne rfl).ne rfl)
          have s12_30 := m30 _ _ (((((s12_27.ne rfl).ne rfl).ne rfl).ne rfl).ne rfl)
          have low30 := lw29
          clear m30
          refine e_in ?_
          refine e_then ?_
          refine c_region ?_
          refine l_q rfl (q_move _ _ rfl s12_30.ev ?_)
          refine l_q rfl (q_add (((k + 1 : Nat) : Int)) rfl (At.hit z30 rfl).ev rfl (i64_is (by omega) (by omega) (by omega)) ?_)
          refine l_q rfl (q_assign _ _ rfl (At.hit z30.put rfl).ev ?_)
          refine l_end ?_
          refine e_fresh z30.put.put.put ?_
          intro a31 z31 m31
          have s0_31 := m31 _ _ (((s0_30.ne rfl).ne rfl).ne rfl)
          have s1_31 := m31 _ _ (((s1_30.ne rfl).ne rfl).ne rfl)
          have s2_31 := m31 _ _ (((s2_30.ne rfl).ne rfl).ne rfl)
          have s8_31 := m31 _ _ (((s8_30.ne rfl).ne rfl).ne rfl)
          have s9_31 := m31 _ _ (((s9_30.ne rfl).ne rfl).ne rfl)
          have s10_31 := m31 _ _ (((s10_30.ne rfl).ne rfl).ne rfl)
          have s11_31 := m31 _ _ (((s11_30.ne rfl).ne rfl).ne rfl)
          have s12_31 := m31 _ _ (At.hit z30.put.put rfl)
          clear m31
          have c32 := OwnF.castL o29 (show (outR lb lo lt ((pathsD lb lo lt).take k)) ++ [(findR lt ((pathsD lb lo lt).getD k ByteArray.empty))] = outR lb lo lt ((pathsD lb lo lt).take (k + 1)) from outR_next (by omega) (cellR_2 hb19 hb20) hb26)
          rw [badR_skip (by omega) (clashR_2 hb20)] at kg26_6_29
          exact ⟨v29, z31, s0_31, s1_31, s2_31, s8_31, s9_31, s10_31, s11_31, s12_31, kg11_29, kg26_6_29, ⟨c32, apf29⟩, low30⟩
        · skip
          refine c_region ?_
          refine l_q rfl (q_row rfl Try.underlying52 rfl (sz52.trans (congrArg some rfl.symm)) s16_25.ev (fun _ e => by rw [e]; exact k22) ?_)
          refine l_q rfl (q_row rfl Try.underlying52 rfl (sz52.trans (congrArg some rfl.symm)) (s11_25.ne rfl).ev (fun _ e => by rw [e]; exact kg11_22) ?_)
          refine l_q rfl (q_ne3 false rfl guard52 ((At.hit z25 rfl).ne rfl).ev (At.hit z25.put rfl).ev (eq52 9998 ((findR lt ((pathsD lb lo lt).getD k ByteArray.empty)).f0) ((findR lt ((pathsD lb lo lt).getD k ByteArray.empty)).f1) ((findR lt ((pathsD lb lo lt).getD k ByteArray.empty)).f2) zR.f0 zR.f1 zR.f2) (neR_false (Decidable.not_not.1 hb26)) ?_)
          refine l_end ?_
          refine e_fresh z25.put.put.put ?_
          intro a33 z33 m33
          have s0_33 := m33 _ _ (((s0_25.ne rfl).ne rfl).ne rfl)
          have s1_33 := m33 _ _ (((s1_25.ne rfl).ne rfl).ne rfl)
          have s2_33 := m33 _ _ (((s2_25.ne rfl).ne rfl).ne rfl)
          have s8_33 := m33 _ _ (((s8_25.ne rfl).ne rfl).ne rfl)
          have s9_33 := m33 _ _ (((s9_25.ne rfl).ne rfl).ne rfl)
          have s10_33 := m33 _ _ (((s10_25.ne rfl).ne rfl).ne rfl)
          have s11_33 := m33 _ _ (((s11_25.ne rfl).ne rfl).ne rfl)
          have s12_33 := m33 _ _ (((s12_25.ne rfl).ne rfl).ne rfl)
          have s16_33 := m33 _ _ (((s16_25.ne rfl).ne rfl).ne rfl)
          have s82_33 := m33 _ _ (At.hit z25.put.put rfl)
          clear m33
          refine e_then ?_
          refine c_false s82_33 ?_
          refine wp_skip ?_
          refine e_in ?_
          refine e_then ?_
          refine c_region ?_
          refine l_q rfl (q_move _ _ rfl s12_33.ev ?_)
          refine l_q rfl (q_add (((k + 1 : Nat) : Int)) rfl (At.hit z33 rfl).ev rfl (i64_is (by omega) (by omega) (by omega)) ?_)
          refine l_q rfl (q_assign _ _ rfl (At.hit z33.put rfl).ev ?_)
          refine l_end ?_
          refine e_fresh z33.put.put.put ?_
          intro a34 z34 m34
          have s0_34 := m34 _ _ (((s0_33.ne rfl).ne rfl).ne rfl)
          have s1_34 := m34 _ _ (((s1_33.ne rfl).ne rfl).ne rfl)
          have s2_34 := m34 _ _ (((s2_33.ne rfl).ne rfl).ne rfl)
          have s8_34 := m34 _ _ (((s8_33.ne rfl).ne rfl).ne rfl)
          have s9_34 := m34 _ _ (((s9_33.ne rfl).ne rfl).ne rfl)
          have s10_34 := m34 _ _ (((s10_33.ne rfl).ne rfl).ne rfl)
          have s11_34 := m34 _ _ (((s11_33.ne rfl).ne rfl).ne rfl)
          have s12_34 := m34 _ _ (At.hit z33.put.put rfl)
          clear m34
          have c35 := OwnF.castL ox9_22 (show outR lb lo lt ((pathsD lb lo lt).take k) = outR lb lo lt ((pathsD lb lo lt).take (k + 1)) from outR_skip (by omega) (cellR_2 hb19 hb20) hb26)
          rw [badR_skip (by omega) (clashR_2 hb20)] at kg26_6_22
          exact ⟨v9_12, z34, s0_34, s1_34, s2_34, s8_34, s9_34, s10_34, s11_34, s12_34, kg11_22, kg26_6_22, ⟨c35, ox9_12.2⟩, low23⟩
      · skip
        refine c_region ?_
        refine l_q rfl (q_row rfl Try.underlying52 rfl (sz52.trans (congrArg some rfl.symm)) s14_18.ev (fun _ e => by rw [e]; exact kg14_17) ?_)
        refine l_q rfl (q_row rfl Try.underlying52 rfl (sz52.trans (congrArg some rfl.symm)) (s15_18.ne rfl).ev (fun _ e => by rw [e]; exact kg15_17) ?_)
        refine l_q rfl (q_ne3 true rfl guard52 ((At.hit z18 rfl).ne rfl).ev (At.hit z18.put rfl).ev (eq52 9998 ((findR lo ((pathsD lb lo lt).getD k ByteArray.empty)).f0) ((findR lo ((pathsD lb lo lt).getD k ByteArray.empty)).f1) ((findR lo ((pathsD lb lo lt).getD k ByteArray.empty)).f2) ((findR lt ((pathsD lb lo lt).getD k ByteArray.empty)).f0) ((findR lt ((pathsD lb lo lt).getD k ByteArray.empty)).f1) ((findR lt ((pathsD lb lo lt).getD k ByteArray.empty)).f2)) (neR_true hb19) ?_)
        refine l_q rfl (q_move _ _ rfl (At.hit z18.put.put rfl).ev ?_)
        refine l_qg (wanted_is (j := 3) (d := 56) (b := true) rfl rfl (At.hit z18.put.put.put rfl) rfl) (q_row rfl Try.underlying52 rfl (sz52.trans (congrArg some rfl.symm)) ((((s14_18.ne rfl).ne rfl).ne rfl).ne rfl).ev (fun _ e => by rw [e]; exact kg14_17) ?_)
        refine l_qg (wanted_is (j := 3) (d := 56) (b := true) rfl rfl ((At.hit z18.put.put.put rfl).ne rfl) rfl) (q_row rfl Try.underlying52 rfl (sz52.trans (congrArg some rfl.symm)) (((((s13_18.ne rfl).ne rfl).ne rfl).ne rfl).ne rfl).ev (fun _ e => by rw [e]; exact kg13_17) ?_)
        refine l_qg (wanted_is (j := 3) (d := 56) (b := true) rfl rfl (((At.hit z18.put.put.put rfl).ne rfl).ne rfl) rfl) (q_eq3 false rfl guard52 ((At.hit z18.put.put.put.put rfl).ne rfl).ev (At.hit z18.put.put.put.put.put rfl).ev (eq52 9998 ((findR lo ((pathsD lb lo lt).getD k ByteArray.empty)).f0) ((findR lo ((pathsD lb lo lt).getD k ByteArray.empty)).f1) ((findR lo ((pathsD lb lo lt).getD k ByteArray.empty)).f2) ((findR lb ((pathsD lb lo lt).getD k ByteArray.empty)).f0) ((findR lb ((pathsD lb lo lt).getD k ByteArray.empty)).f1) ((findR lb ((pathsD lb lo lt).getD k ByteArray.empty)).f2)) (eqR_false hb20) ?_)
        refine l_q rfl (q_pick (b := true) (.bool false) rfl ((((At.hit z18.put.put.put rfl).ne rfl).ne rfl).ne rfl).ev (At.hit z18.put.put.put.put.put.put rfl).ev ?_)
        refine l_end ?_
        refine e_fresh z18.put.put.put.put.put.put.put.put ?_
        intro a36 z36 m36
        have s0_36 := m36 _ _ ((((((((s0_18.ne rfl).ne rfl).ne rfl).ne rfl).ne rfl).ne rfl).ne rfl).ne rfl)
        have s1_36 := m36 _ _ ((((((((s1_18.ne rfl).ne rfl).ne rfl).ne rfl).ne rfl).ne rfl).ne rfl).ne rfl)
        have s2_36 := m36 _ _ ((((((((s2_18.ne rfl).ne rfl).ne rfl).ne rfl).ne rfl).ne rfl).ne rfl).ne rfl)
        have s8_36 := m36 _ _ ((((((((s8_18.ne rfl).ne rfl).ne rfl).ne rfl).ne rfl).ne rfl).ne rfl).ne rfl)
        have s9_36 := m36 _ _ ((((((((s9_18.ne rfl).ne rfl).ne rfl).ne rfl).ne rfl).ne rfl).ne rfl).ne rfl)
        have s10_36 := m36 _ _ ((((((((s10_18.ne rfl).ne rfl).ne rfl).ne rfl).ne rfl).ne rfl).ne rfl).ne rfl)
        have s11_36 := m36 _ _ ((((((((s11_18.ne rfl).ne rfl).ne rfl).ne rfl).ne rfl).ne rfl).ne rfl).ne rfl)
        have s12_36 := m36 _ _ ((((((((s12_18.ne rfl).ne rfl).ne rfl).ne rfl).ne rfl).ne rfl).ne rfl).ne rfl)
        have s13_36 := m36 _ _ ((((((((s13_18.ne rfl).ne rfl).ne rfl).ne rfl).ne rfl).ne rfl).ne rfl).ne rfl)
        have s14_36 := m36 _ _ ((((((((s14_18.ne rfl).ne rfl).ne rfl).ne rfl).ne rfl).ne rfl).ne rfl).ne rfl)
        have s15_36 := m36 _ _ ((((((((s15_18.ne rfl).ne rfl).ne rfl).ne rfl).ne rfl).ne rfl).ne rfl).ne rfl)
        have s16_36 := m36 _ _ ((((((((s16_18.ne rfl).ne rfl).ne rfl).ne rfl).ne rfl).ne rfl).ne rfl).ne rfl)
        have s60_36 := m36 _ _ (At.hit z18.put.put.put.put.put.put.put rfl)
        clear m36
        refine e_then ?_
        refine c_false s60_36 ?_
        refine wp_skip ?_
        refine e_then ?_
        refine c_seq ?_
        refine c_seq ?_
        by_cases hb37 : ¬ findR lt ((pathsD lb lo lt).getD k ByteArray.empty) = findR lb ((pathsD lb lo lt).getD k ByteArray.empty)
        · skip
          refine c_region ?_
          refine l_q rfl (q_row rfl Try.underlying52 rfl (sz52.trans (congrArg some rfl.symm)) s14_36.ev (fun _ e => by rw [e]; exact kg14_17) ?_)
          refine l_q rfl (q_row rfl Try.underlying52 rfl (sz52.trans (congrArg some rfl.symm)) (s15_36.ne rfl).ev (fun _ e => by rw [e]; exact kg15_17) ?_)
          refine l_q rfl (q_ne3 true rfl guard52 ((At.hit z36 rfl).ne rfl).ev (At.hit z36.put rfl).ev (eq52 9998 ((findR lo ((pathsD lb lo lt).getD k ByteArray.empty)).f0) ((findR lo ((pathsD lb lo lt).getD k ByteArray.empty)).f1) ((findR lo ((pathsD lb lo lt).getD k ByteArray.empty)).f2) ((findR lt ((pathsD lb lo lt).getD k ByteArray.empty)).f0) ((findR lt ((pathsD lb lo lt).getD k ByteArray.empty)).f1) ((findR lt ((pathsD lb lo lt).getD k ByteArray.empty)).f2)) (neR_true hb19) ?_)
          refine l_q rfl (q_move _ _ rfl (At.hit z36.put.put rfl).ev ?_)
          refine l_qg (wanted_is (j := 3) (d := 65) (b := true) rfl rfl (At.hit z36.put.put.put rfl) rfl) (q_row rfl Try.underlying52 rfl (sz52.trans (congrArg some rfl.symm)) ((((s14_36.ne rfl).ne rfl).ne rfl).ne rfl).ev (fun _ e => by rw [e]; exact kg14_17) ?_)
          refine l_qg (wanted_is (j := 3) (d := 65) (b := true) rfl rfl ((At.hit z36.put.put.put rfl).ne rfl) rfl) (q_row rfl Try.underlying52 rfl (sz52.trans (congrArg some rfl.symm)) (((((s13_36.ne rfl).ne rfl).ne rfl).ne rfl).ne rfl).ev (fun _ e => by rw [e]; exact kg13_17) ?_)
          refine l_qg (wanted_is (j := 3) (d := 65) (b := true) rfl rfl (((At.hit z36.put.put.put rfl).ne rfl).ne rfl) rfl) (q_ne3 true rfl guard52 ((At.hit z36.put.put.put.put rfl).ne rfl).ev (At.hit z36.put.put.put.put.put rfl).ev (eq52 9998 ((findR lo ((pathsD lb lo lt).getD k ByteArray.empty)).f0) ((findR lo ((pathsD lb lo lt).getD k ByteArray.empty)).f1) ((findR lo ((pathsD lb lo lt).getD k ByteArray.empty)).f2) ((findR lb ((pathsD lb lo lt).getD k ByteArray.empty)).f0) ((findR lb ((pathsD lb lo lt).getD k ByteArray.empty)).f1) ((findR lb ((pathsD lb lo lt).getD k ByteArray.empty)).f2)) (neR_true hb20) ?_)
          refine l_q rfl (q_pick (b := true) (.bool true) rfl ((((At.hit z36.put.put.put rfl).ne rfl).ne rfl).ne rfl).ev (At.hit z36.put.put.put.put.put.put rfl).ev ?_)
          refine l_fresh z36.put.put.put.put.put.put.put.put ?_
          intro a38 z38 m38
          have s0_38 := m38 _ _ ((((((((s0_36.ne rfl).ne rfl).ne rfl).ne rfl).ne rfl).ne rfl).ne rfl).ne rfl)
          have s1_38 := m38 _ _ ((((((((s1_36.ne rfl).ne rfl).ne rfl).ne rfl).ne rfl).ne rfl).ne rfl).ne rfl)
          have s2_38 := m38 _ _ ((((((((s2_36.ne rfl).ne rfl).ne rfl).ne rfl).ne rfl).ne rfl).ne rfl).ne rfl)
          have s8_38 := m38 _ _ ((((((((s8_36.ne rfl).ne rfl).ne rfl).ne rfl).ne rfl).ne rfl).ne rfl).ne rfl)
          have s9_38 := m38 _ _ ((((((((s9_36.ne rfl).ne rfl).ne rfl).ne rfl).ne rfl).ne rfl).ne rfl).ne rfl)
          have s10_38 := m38 _ _ ((((((((s10_36.ne rfl).ne rfl).ne rfl).ne rfl).ne rfl).ne rfl).ne rfl).ne rfl)
          have s11_38 := m38 _ _ ((((((((s11_36.ne rfl).ne rfl).ne rfl).ne rfl).ne rfl).ne rfl).ne rfl).ne rfl)
          have s12_38 := m38 _ _ ((((((((s12_36.ne rfl).ne rfl).ne rfl).ne rfl).ne rfl).ne rfl).ne rfl).ne rfl)
          have s13_38 := m38 _ _ ((((((((s13_36.ne rfl).ne rfl).ne rfl).ne rfl).ne rfl).ne rfl).ne rfl).ne rfl)
          have s15_38 := m38 _ _ ((((((((s15_36.ne rfl).ne rfl).ne rfl).ne rfl).ne rfl).ne rfl).ne rfl).ne rfl)
          have s16_38 := m38 _ _ ((((((((s16_36.ne rfl).ne rfl).ne rfl).ne rfl).ne rfl).ne rfl).ne rfl).ne rfl)
          have s69_38 := m38 _ _ (At.hit z36.put.put.put.put.put.put.put rfl)
          clear m38
          refine l_q rfl (q_move _ _ rfl s69_38.ev ?_)
          refine l_qg (wanted_is (j := 8) (d := 70) (b := true) rfl rfl (At.hit z38 rfl) rfl) (q_row rfl Try.underlying52 rfl (sz52.trans (congrArg some rfl.symm)) (s15_38.ne rfl).ev (fun _ e => by rw [e]; exact kg15_17) ?_)
          refine l_qg (wanted_is (j := 8) (d := 70) (b := true) rfl rfl ((At.hit z38 rfl).ne rfl) rfl) (q_row rfl Try.underlying52 rfl (sz52.trans (congrArg some rfl.symm)) ((s13_38.ne rfl).ne rfl).ev (fun _ e => by rw [e]; exact kg13_17) ?_)
          refine l_qg (wanted_is (j := 8) (d := 70) (b := true) rfl rfl (((At.hit z38 rfl).ne rfl).ne rfl) rfl) (q_ne3 true rfl guard52 ((At.hit z38.put rfl).ne rfl).ev (At.hit z38.put.put rfl).ev (eq52 9998 ((findR lt ((pathsD lb lo lt).getD k ByteArray.empty)).f0) ((findR lt ((pathsD lb lo lt).getD k ByteArray.empty)).f1) ((findR lt ((pathsD lb lo lt).getD k ByteArray.empty)).f2) ((findR lb ((pathsD lb lo lt).getD k ByteArray.empty)).f0) ((findR lb ((pathsD lb lo lt).getD k ByteArray.empty)).f1) ((findR lb ((pathsD lb lo lt).getD k ByteArray.empty)).f2)) (neR_true hb37) ?_)
          refine l_q rfl (q_pick (b := true) (.bool true) rfl ((((At.hit z38 rfl).ne rfl).ne rfl).ne rfl).ev (At.hit z38.put.put.put rfl).ev ?_)
          refine l_end ?_
          refine e_fresh z38.put.put.put.put.put ?_
          intro a39 z39 m39
          have s0_39 := m39 _ _ (((((s0_38.ne rfl).ne rfl).ne rfl).ne rfl).ne rfl)
          have s1_39 := m39 _ _ (((((s1_38.ne rfl).ne rfl).ne rfl).ne rfl).ne rfl)
          have s2_39 := m39 _ _ (((((s2_38.ne rfl).ne rfl).ne rfl).ne rfl).ne rfl)
          have s8_39 := m39 _ _ (((((s8_38.ne rfl).ne rfl).ne rfl).ne rfl).ne rfl)
          have s9_39 := m39 _ _ (((((s9_38.ne rfl).ne rfl).ne rfl).ne rfl).ne rfl)
          have s10_39 := m39 _ _ (((((s10_38.ne rfl).ne rfl).ne rfl).ne rfl).ne rfl)
          have s11_39 := m39 _ _ (((((s11_38.ne rfl).ne rfl).ne rfl).ne rfl).ne rfl)
          have s12_39 := m39 _ _ (((((s12_38.ne rfl).ne rfl).ne rfl).ne rfl).ne rfl)
          have s16_39 := m39 _ _ (((((s16_38.ne rfl).ne rfl).ne rfl).ne rfl).ne rfl)
          have s74_39 := m39 _ _ (At.hit z38.put.put.put.put rfl)
          clear m39
          refine e_then ?_
          refine c_true s74_39 ?_
          refine c_region ?_
          refine l_q rfl (q_move _ _ rfl s10_39.ev ?_)
          refine l_q rfl (q_move _ _ rfl (s8_39.ne rfl).ev ?_)
          refine l_q rfl (q_move _ _ rfl ((s12_39.ne rfl).ne rfl).ev ?_)
          refine l_q rfl (q_idxF (j := k) rfl Try.underlying25 sz9 ((At.hit z39.put rfl).ne rfl).ev (o3.low ((low15.trans h16).upd u17 geg16)).rd (At.hit z39.put.put rfl).ev (by omega) ?_)
          refine l_q rfl (q_ld1 (u := .string ((pathsD lb lo lt).getD k ByteArray.empty)) rfl Try.underlying9 rfl (At.hit z39.put.put.put rfl).ev (fun _ e => by rw [e]; exact (o3.low ((low15.trans h16).upd u17 geg16)).rd) (by omega) ((flat_at encS_len ByteArray.empty _ k 0 (by omega) (by decide)).trans rfl) ?_)
          refine l_mapPut rfl rfl rfl Try.underlying38 Try.underlying9 (((((At.hit z39 rfl).ne rfl).ne rfl).ne rfl).ne rfl).ev (At.hit z39.put.put.put.put rfl).ev rfl kg26_6_17 ?_
          intro w40 k40 u40
          replace k40 : MapIs w40 g26_6 (mput (mapB (badR lb lo lt ((pathsD lb lo lt).take k))) ((pathsD lb lo lt).getD k ByteArray.empty) (.bool true)) := k40
          have ox9_40 := ox9_17.updm u40 kg26_6_17
          have kg11_40 := u40.blk kg11_17 (by omega)
          have kg16_40 := u40.blk k17 (by omega)
          refine l_end ?_
          refine e_fresh z39.put.put.put.put.put ?_
          intro a41 z41 m41
          have s0_41 := m41 _ _ (((((s0_39.ne rfl).ne rfl).ne rfl).ne rfl).ne rfl)
          have s1_41 := m41 _ _ (((((s1_39.ne rfl).ne rfl).ne rfl).ne rfl).ne rfl)
          have s2_41 := m41 _ _ (((((s2_39.ne rfl).ne rfl).ne rfl).ne rfl).ne rfl)
          have s8_41 := m41 _ _ (((((s8_39.ne rfl).ne rfl).ne rfl).ne rfl).ne rfl)
          have s9_41 := m41 _ _ (((((s9_39.ne rfl).ne rfl).ne rfl).ne rfl).ne rfl)
          have s10_41 := m41 _ _ (((((s10_39.ne rfl).ne rfl).ne rfl).ne rfl).ne rfl)
          have s11_41 := m41 _ _ (((((s11_39.ne rfl).ne rfl).ne rfl).ne rfl).ne rfl)
          have s12_41 := m41 _ _ (((((s12_39.ne rfl).ne rfl).ne rfl).ne rfl).ne rfl)
          have s16_41 := m41 _ _ (((((s16_39.ne rfl).ne rfl).ne rfl).ne rfl).ne rfl)
          have low41 := (low18.upd u40 geg26_6)
          clear m41
          refine e_then ?_
          refine c_seq ?_
          by_cases hb42 : ¬ findR lo ((pathsD lb lo lt).getD k ByteArray.empty) = zR
          · skip
            refine c_region ?_
            refine l_q rfl (q_row rfl Try.underlying52 rfl (sz52.trans (congrArg some rfl.symm)) s16_41.ev (fun _ e => by rw [e]; exact kg16_40) ?_)
            refine l_q rfl (q_row rfl Try.underlying52 rfl (sz52.trans (congrArg some rfl.symm)) (s11_41.ne rfl).ev (fun _ e => by rw [e]; exact kg11_40) ?_)
            refine l_q rfl (q_ne3 true rfl guard52 ((At.hit z41 rfl).ne rfl).ev (At.hit z41.put rfl).ev (eq52 9998 ((findR lo ((pathsD lb lo lt).getD k ByteArray.empty)).f0) ((findR lo ((pathsD lb lo lt).getD k ByteArray.empty)).f1) ((findR lo ((pathsD lb lo lt).getD k ByteArray.empty)).f2) zR.f0 zR.f1 zR.f2) (neR_true hb42) ?_)
            refine l_end ?_
            refine e_fresh z41.put.put.put ?_
            intro a43 z43 m43
            have s0_43 := m43 _ _ (((s0_41.ne rfl).ne rfl).ne rfl)
            have s1_43 := m43 _ _ (((s1_41.ne rfl).ne rfl).ne rfl)
            have s2_43 := m43 _ _ (((s2_41.ne rfl).ne rfl).ne rfl)
            have s8_43 := m43 _ _ (((s8_41.ne rfl).ne rfl).ne rfl)
            have s9_43 := m43 _ _ (((s9_41.ne rfl).ne rfl).ne rfl)
            have s10_43 := m43 _ _ (((s10_41.ne rfl).ne rfl).ne rfl)
            have s11_43 := m43 _ _ (((s11_41.ne rfl).ne rfl).ne rfl)
            have s12_43 := m43 _ _ (((s12_41.ne rfl).ne rfl).ne rfl)
            have s16_43 := m43 _ _ (((s16_41.ne rfl).ne rfl).ne rfl)
            have s82_43 := m43 _ _ (At.hit z41.put.put rfl)
            clear m43
            refine e_then ?_
            refine c_true s82_43 ?_
            refine c_region ?_
            refine l_q rfl (q_move _ _ rfl s9_43.ev ?_)
            refine l_q rfl (q_row rfl Try.underlying52 rfl (sz52.trans (congrArg some rfl.symm)) (s16_43.ne rfl).ev (fun _ e => by rw [e]; exact kg16_40) ?_)
            refine l_buildF (vs := [.string ((findR lo ((pathsD lb lo lt).getD k ByteArray.empty)).f0), .int .i64 ((findR lo ((pathsD lb lo lt).getD k ByteArray.empty)).f1), .string ((findR lo ((pathsD lb lo lt).getD k ByteArray.empty)).f2)]) rfl rfl Try.underlying28 rec52 (At.hit z43.put rfl).ev rfl rfl (by decide) (by decide) ?_
            intro g85_44 w44 hg44 k44 h44
            have onx9_g85_44 : ∀ k, Value.ownBlock v9_12 = some k → k < g85_44 := fun k hk => Nat.lt_of_lt_of_le (OwnF.own_lt ox9_40 hk) hg44
            have lt_g11_g85_44 := Nat.lt_of_lt_of_le (heap_lt kg11_40) hg44
            have lt_g26_6_g85_44 := Nat.lt_of_lt_of_le k40.lt hg44
            have lt_g16_g85_44 := Nat.lt_of_lt_of_le (heap_lt kg16_40) hg44
            have geg85_44 := Nat.le_trans low41.ge hg44
            have kg11_44 := h44.blk kg11_40
            have kg26_6_44 := k40.low h44
            have kg16_44 := h44.blk kg16_40
            have ox9_44 := ox9_40.low h44
            have ovb_44 := (ovb_3.low (low18.upd u40 geg26_6)).low h44
            have ovo_44 := (ovo_3.low (low18.upd u40 geg26_6)).low h44
            have ovt_44 := (ovt_3.low (low18.upd u40 geg26_6)).low h44
            have ob3_44 := (o3.low (low18.upd u40 geg26_6)).low h44
            refine l_appFo (B := w3.heap.size) rfl rfl Try.underlying28 rec52 (((At.hit z43 rfl).ne rfl).ne rfl).ev (At.hit z43.put.put rfl).ev k44 rfl (by decide) rfl ox9_44 (low41.trans h44).ge (by omega) ?_
            intro v45 w45 o45 gr45 ap45
            have kg11_45 := gr45.blka kg11_44 ox9_12.2
            have kg26_6_45 := kg26_6_44.grw gr45
            have kg16_45 := gr45.blkn kg16_44 onx9_g16
            have lw45 := (low41.trans h44).grw gr45
            have apf45 := apart_app ap45 ox9_12.2 (heap_lt kg11_44)
            replace o45 := o45.cast (show _ = ((outR lb lo lt ((pathsD lb lo lt).take k)) ++ [(findR lo ((pathsD lb lo lt).getD k ByteArray.empty))]).length by rw [List.length_append]; rfl) (flat_snoc (enc := encR) (outR lb lo lt ((pathsD lb lo lt).take k)) (findR lo ((pathsD lb lo lt).getD k ByteArray.empty)))
            refine l_q rfl (q_assign _ _ rfl (At.hit z43.put.put.put rfl).ev ?_)
            refine l_end ?_
            refine e_fresh z43.put.put.put.put.put ?_
            intro a46 z46 m46
            have s0_46 := m46 _ _ (((((s0_43.ne rfl).ne rfl).ne rfl).ne rfl).ne rfl)
            have s1_46 := m46 _ _ (((((s1_43.ne rfl).ne rfl).ne rfl).ne rfl).ne rfl)
            have s2_46 := m46 _ _ (((((s2_43.ne rfl).ne rfl).ne rfl).ne rfl).ne rfl)
            have s8_46 := m46 _ _ (((((s8_43.ne rfl).ne rfl).ne rfl).ne rfl).ne rfl)
            have s9_46 := m46 _ _ (At.hit z43.put.put.put.put rfl)
            have s10_46 := m46 _ _ (((((s10_43.ne rfl).ne rfl).ne rfl).ne rfl).ne rfl)
            have s11_46 := m46 _ _ (((((s11_43.ne rfl).ne rfl).ne rfl).ne rfl).ne rfl)
            have s12_46 := m46 _ _ (((((s12_43.ne rfl).ne rfl).ne rfl).ne rfl).ne rfl)
            have low46 := lw45
            clear m46
            refine e_in ?_
            refine e_then ?_
            refine c_region ?_
            refine l_q rfl (q_move _ _ rfl s12_46.ev ?_)
            refine l_q rfl (q_add (((k + 1 : Nat) : Int)) rfl (At.hit z46 rfl).ev rfl (i64_is (by omega) (by omega) (by omega)) ?_)
            refine l_q rfl (q_assign _ _ rfl (At.hit z46.put rfl).ev ?_)
            refine l_end ?_
            refine e_fresh z46.put.put.put ?_
            intro a47 z47 m47
            have s0_47 := m47 _ _ (((s0_46.ne rfl).ne rfl).ne rfl)
            have s1_47 := m47 _ _ (((s1_46.ne rfl).ne rfl).ne rfl)
            have s2_47 := m47 _ _ (((s2_46.ne rfl).ne rfl).ne rfl)
            have s8_47 := m47 _ _ (((s8_46.ne rfl).ne rfl).ne rfl)
            have s9_47 := m47 _ _ (((s9_46.ne rfl).ne rfl).ne rfl)
            have s10_47 := m47 _ _ (((s10_46.ne rfl).ne rfl).ne rfl)
            have s11_47 := m47 _ _ (((s11_46.ne rfl).ne rfl).ne rfl)
            have s12_47 := m47 _ _ (At.hit z46.put.put rfl)
            clear m47
            have c48 := OwnF.castL o45 (show (outR lb lo lt ((pathsD lb lo lt).take k)) ++ [(findR lo ((pathsD lb lo lt).getD k ByteArray.empty))] = outR lb lo lt ((pathsD lb lo lt).take (k + 1)) from outR_next (by omega) (cellR_3 hb20) hb42)
            rw [mapB_snoc] at kg26_6_45
            rw [badR_next (by omega) (clashR_4 hb19 hb20 hb37)] at kg26_6_45
            exact ⟨v45, z47, s0_47, s1_47, s2_47, s8_47, s9_47, s10_47, s11_47, s12_47, kg11_45, kg26_6_45, ⟨c48, apf45⟩, low46⟩
          · skip
            refine c_region ?_
            refine l_q rfl (q_row rfl Try.underlying52 rfl (sz52.trans (congrArg some rfl.symm)) s16_41.ev (fun _ e => by rw [e]; exact kg16_40) ?_)
            refine l_q rfl (q_row rfl Try.underlying52 rfl (sz52.trans (congrArg some rfl.symm)) (s11_41.ne rfl).ev (fun _ e => by rw [e]; exact kg11_40) ?_)
            refine l_q rfl (q_ne3 false rfl guard52 ((At.hit z41 rfl).ne rfl).ev (At.hit z41.put rfl).ev (eq52 9998 ((findR lo ((pathsD lb lo lt).getD k ByteArray.empty)).f0) ((findR lo ((pathsD lb lo lt).getD k ByteArray.empty)).f1) ((findR lo ((pathsD lb lo lt).getD k ByteArray.empty)).f2) zR.f0 zR.f1 zR.f2) (neR_false (Decidable.not_not.1 hb42)) ?_)
            refine l_end ?_
            refine e_fresh z41.put.put.put ?_
            intro a49 z49 m49
            have s0_49 := m49 _ _ (((s0_41.ne rfl).ne rfl).ne rfl)
            have s1_49 := m49 _ _ (((s1_41.ne rfl).ne rfl).ne rfl)
            have s2_49 := m49 _ _ (((s2_41.ne rfl).ne rfl).ne rfl)
            have s8_49 := m49 _ _ (((s8_41.ne rfl).ne rfl).ne rfl)
            have s9_49 := m49 _ _ (((s9_41.ne rfl).ne rfl).ne rfl)
            have s10_49 := m49 _ _ (((s10_41.ne rfl).ne rfl).ne rfl)
            have s11_49 := m49 _ _ (((s11_41.ne rfl).ne rfl).ne rfl)
            have s12_49 := m49 _ _ (((s12_41.ne rfl).ne rfl).ne rfl)
            have s16_49 := m49 _ _ (((s16_41.ne rfl).ne rfl).ne rfl)
            have s82_49 := m49 _ _ (At.hit z41.put.put rfl)
            clear m49
            refine e_then ?_
            refine c_false s82_49 ?_
            refine wp_skip ?_
            refine e_in ?_
            refine e_then ?_
            refine c_region ?_
            refine l_q rfl (q_move _ _ rfl s12_49.ev ?_)
            refine l_q rfl (q_add (((k + 1 : Nat) : Int)) rfl (At.hit z49 rfl).ev rfl (i64_is (by omega) (by omega) (by omega)) ?_)
            refine l_q rfl (q_assign _ _ rfl (At.hit z49.put rfl).ev ?_)
            refine l_end ?_
            refine e_fresh z49.put.put.put ?_
            intro a50 z50 m50
            have s0_50 := m50 _ _ (((s0_49.ne rfl).ne rfl).ne rfl)
            have s1_50 := m50 _ _ (((s1_49.ne rfl).ne rfl).ne rfl)
            have s2_50 := m50 _ _ (((s2_49.ne rfl).ne rfl).ne rfl)
            have s8_50 := m50 _ _ (((s8_49.ne rfl).ne rfl).ne rfl)
            have s9_50 := m50 _ _ (((s9_49.ne rfl).ne rfl).ne rfl)
            have s10_50 := m50 _ _ (((s10_49.ne rfl).ne rfl).ne rfl)
            have s11_50 := m50 _ _ (((s11_49.ne rfl).ne rfl).ne rfl)
            have s12_50 := m50 _ _ (At.hit z49.put.put rfl)
            clear m50
            have c51 := OwnF.castL ox9_40 (show outR lb lo lt ((pathsD lb lo lt).take k) = outR lb lo lt ((pathsD lb lo lt).take (k + 1)) from outR_skip (by omega) (cellR_3 hb20) hb42)
            rw [mapB_snoc] at k40
            rw [badR_next (by omega) (clashR_4 hb19 hb20 hb37)] at k40
            exact ⟨v9_12, z50, s0_50, s1_50, s2_50, s8_50, s9_50, s10_50, s11_50, s12_50, kg11_40, k40, ⟨c51, ox9_12.2⟩, low41⟩
        · skip
          refine c_region ?_
          refine l_q rfl (q_row rfl Try.underlying52 rfl (sz52.trans (congrArg some rfl.symm)) s14_36.ev (fun _ e => by rw [e]; exact kg14_17) ?_)
          refine l_q rfl (q_row rfl Try.underlying52 rfl (sz52.trans (congrArg some rfl.symm)) (s15_36.ne rfl).ev (fun _ e => by rw [e]; exact kg15_17) ?_)
          refine l_q rfl (q_ne3 true rfl guard52 ((At.hit z36 rfl).ne rfl).ev (At.hit z36.put rfl).ev (eq52 9998 ((findR lo ((pathsD lb lo lt).getD k ByteArray.empty)).f0) ((findR lo ((pathsD lb lo lt).getD k ByteArray.empty)).f1) ((findR lo ((pathsD lb lo lt).getD k ByteArray.empty)).f2) ((findR lt ((pathsD lb lo lt).getD k ByteArray.empty)).f0) ((findR lt ((pathsD lb lo lt).getD k ByteArray.empty)).f1) ((findR lt ((pathsD lb lo lt).getD k ByteArray.empty)).f2)) (neR_true hb19) ?_)
          refine l_q rfl (q_move _ _ rfl (At.hit z36.put.put rfl).ev ?_)
          refine l_qg (wanted_is (j := 3) (d := 65) (b := true) rfl rfl (At.hit z36.put.put.put rfl) rfl) (q_row rfl Try.underlying52 rfl (sz52.trans (congrArg some rfl.symm)) ((((s14_36.ne rfl).ne rfl).ne rfl).ne rfl).ev (fun _ e => by rw [e]; exact kg14_17) ?_)
          refine l_qg (wanted_is (j := 3) (d := 65) (b := true) rfl rfl ((At.hit z36.put.put.put rfl).ne rfl) rfl) (q_row rfl Try.underlying52 rfl (sz52.trans (congrArg some rfl.symm)) (((((s13_36.ne rfl).ne rfl).ne rfl).ne rfl).ne rfl).ev (fun _ e => by rw [e]; exact kg13_17) ?_)
          refine l_qg (wanted_is (j := 3) (d := 65) (b := true) rfl rfl (((At.hit z36.put.put.put rfl).ne rfl).ne rfl) rfl) (q_ne3 true rfl guard52 ((At.hit z36.put.put.put.put rfl).ne rfl).ev (At.hit z36.put.put.put.put.put rfl).ev (eq52 9998 ((findR lo ((pathsD lb lo lt).getD k ByteArray.empty)).f0) ((findR lo ((pathsD lb lo lt).getD k ByteArray.empty)).f1) ((findR lo ((pathsD lb lo lt).getD k ByteArray.empty)).f2) ((findR lb ((pathsD lb lo lt).getD k ByteArray.empty)).f0) ((findR lb ((pathsD lb lo lt).getD k ByteArray.empty)).f1) ((findR lb ((pathsD lb lo lt).getD k ByteArray.empty)).f2)) (neR_true hb20) ?_)
          refine l_q rfl (q_pick (b := true) (.bool true) rfl ((((At.hit z36.put.put.put rfl).ne rfl).ne rfl).ne rfl).ev (At.hit z36.put.put.put.put.put.put rfl).ev ?_)
          refine l_fresh z36.put.put.put.put.put.put.put.put ?_
          intro a52 z52 m52
          have s0_52 := m52 _ _ ((((((((s0_36.ne rfl).ne rfl).ne rfl).ne rfl).ne rfl).ne rfl).ne rfl).ne rfl)
          have s1_52 := m52 _ _ ((((((((s1_36.ne rfl).ne rfl).ne rfl).ne rfl).ne rfl).ne rfl).ne rfl).ne rfl)
          have s2_52 := m52 _ _ ((((((((s2_36.ne rfl).ne rfl).ne rfl).ne rfl).ne rfl).ne rfl).ne rfl).ne rfl)
          have s8_52 := m52 _ _ ((((((((s8_36.ne rfl).ne rfl).ne rfl).ne rfl).ne rfl).ne rfl).ne rfl).ne rfl)
          have s9_52 := m52 _ _ ((((((((s9_36.ne rfl).ne rfl).ne rfl).ne rfl).ne rfl).ne rfl).ne rfl).ne rfl)
          have s10_52 := m52 _ _ ((((((((s10_36.ne rfl).ne rfl).ne rfl).ne rfl).ne rfl).ne rfl).ne rfl).ne rfl)
          have s11_52 := m52 _ _ ((((((((s11_36.ne rfl).ne rfl).ne rfl).ne rfl).ne rfl).ne rfl).ne rfl).ne rfl)
          have s12_52 := m52 _ _ ((((((((s12_36.ne rfl).ne rfl).ne rfl).ne rfl).ne rfl).ne rfl).ne rfl).ne rfl)
          have s13_52 := m52 _ _ ((((((((s13_36.ne rfl).ne rfl).ne rfl).ne rfl).ne rfl).ne rfl).ne rfl).ne rfl)
          have s15_52 := m52 _ _ ((((((((s15_36.ne rfl).ne rfl).ne rfl).ne rfl).ne rfl).ne rfl).ne rfl).ne rfl)
          have s16_52 := m52 _ _ ((((((((s16_36.ne rfl).ne rfl).ne rfl).ne rfl).ne rfl).ne rfl).ne rfl).ne rfl)
          have s69_52 := m52 _ _ (At.hit z36.put.put.put.put.put.put.put rfl)
          clear m52
          refine l_q rfl (q_move _ _ rfl s69_52.ev ?_)
          refine l_qg (wanted_is (j := 8) (d := 70) (b := true) rfl rfl (At.hit z52 rfl) rfl) (q_row rfl Try.underlying52 rfl (sz52.trans (congrArg some rfl.symm)) (s15_52.ne rfl).ev (fun _ e => by rw [e]; exact kg15_17) ?_)
          refine l_qg (wanted_is (j := 8) (d := 70) (b := true) rfl rfl ((At.hit z52 rfl).ne rfl) rfl) (q_row rfl Try.underlying52 rfl (sz52.trans (congrArg some rfl.symm)) ((s13_52.ne rfl).ne rfl).ev (fun _ e => by rw [e]; exact kg13_17) ?_)
          refine l_qg (wanted_is (j := 8) (d := 70) (b := true) rfl rfl (((At.hit z52 rfl).ne rfl).ne rfl) rfl) (q_ne3 false rfl guard52 ((At.hit z52.put rfl).ne rfl).ev (At.hit z52.put.put rfl).ev (eq52 9998 ((findR lt ((pathsD lb lo lt).getD k ByteArray.empty)).f0) ((findR lt ((pathsD lb lo lt).getD k ByteArray.empty)).f1) ((findR lt ((pathsD lb lo lt).getD k ByteArray.empty)).f2) ((findR lb ((pathsD lb lo lt).getD k ByteArray.empty)).f0) ((findR lb ((pathsD lb lo lt).getD k ByteArray.empty)).f1) ((findR lb ((pathsD lb lo lt).getD k ByteArray.empty)).f2)) (neR_false (Decidable.not_not.1 hb37)) ?_)
          refine l_q rfl (q_pick (b := true) (.bool false) rfl ((((At.hit z52 rfl).ne rfl).ne rfl).ne rfl).ev (At.hit z52.put.put.put rfl).ev ?_)
          refine l_end ?_
          refine e_fresh z52.put.put.put.put.put ?_
          intro a53 z53 m53
          have s0_53 := m53 _ _ (((((s0_52.ne rfl).ne rfl).ne rfl).ne rfl).ne rfl)
          have s1_53 := m53 _ _ (((((s1_52.ne rfl).ne rfl).ne rfl).ne rfl).ne rfl)
          have s2_53 := m53 _ _ (((((s2_52.ne rfl).ne rfl).ne rfl).ne rfl).ne rfl)
          have s8_53 := m53 _ _ (((((s8_52.ne rfl).ne rfl).ne rfl).ne rfl).ne rfl)
          have s9_53 := m53 _ _ (((((s9_52.ne rfl).ne rfl).ne rfl).ne rfl).ne rfl)
          have s10_53 := m53 _ _ (((((s10_52.ne rfl).ne rfl).ne rfl).ne rfl).ne rfl)
          have s11_53 := m53 _ _ (((((s11_52.ne rfl).ne rfl).ne rfl).ne rfl).ne rfl)
          have s12_53 := m53 _ _ (((((s12_52.ne rfl).ne rfl).ne rfl).ne rfl).ne rfl)
          have s16_53 := m53 _ _ (((((s16_52.ne rfl).ne rfl).ne rfl).ne rfl).ne rfl)
          have s74_53 := m53 _ _ (At.hit z52.put.put.put.put rfl)
          clear m53
          refine e_then ?_
          refine c_false s74_53 ?_
          refine wp_skip ?_
          refine e_then ?_
          refine c_seq ?_
          by_cases hb54 : ¬ findR lo ((pathsD lb lo lt).getD k ByteArray.empty) = zR
          · skip
            refine c_region ?_
            refine l_q rfl (q_row rfl Try.underlying52 rfl (sz52.trans (congrArg some rfl.symm)) s16_53.ev (fun _ e => by rw [e]; exact k17) ?_)
            refine l_q rfl (q_row rfl Try.underlying52 rfl (sz52.trans (congrArg some rfl.symm)) (s11_53.ne rfl).ev (fun _ e => by rw [e]; exact kg11_17) ?_)
            refine l_q rfl (q_ne3 true rfl guard52 ((At.hit z53 rfl).ne rfl).ev (At.hit z53.put rfl).ev (eq52 9998 ((findR lo ((pathsD lb lo lt).getD k ByteArray.empty)).f0) ((findR lo ((pathsD lb lo lt).getD k ByteArray.empty)).f1) ((findR lo ((pathsD lb lo lt).getD k ByteArray.empty)).f2) zR.f0 zR.f1 zR.f2) (neR_true hb54) ?_)
            refine l_end ?_
            refine e_fresh z53.put.put.put ?_
            intro a55 z55 m55
            have s0_55 := m55 _ _ (((s0_53.ne rfl).ne rfl).ne rfl)
            have s1_55 := m55 _ _ (((s1_53.ne rfl).ne rfl).ne rfl)
            have s2_55 := m55 _ _ (((s2_53.ne rfl).ne rfl).ne rfl)
            have s8_55 := m55 _ _ (((s8_53.ne rfl).ne rfl).ne rfl)
            have s9_55 := m55 _ _ (((s9_53.ne rfl).ne rfl).ne rfl)
            have s10_55 := m55 _ _ (((s10_53.ne rfl).ne rfl).ne rfl)
            have s11_55 := m55 _ _ (((s11_53.ne rfl).ne rfl).ne rfl)
            have s12_55 := m55 _ _ (((s12_53.ne rfl).ne rfl).ne rfl)
            have s16_55 := m55 _ _ (((s16_53.ne rfl).ne rfl).ne rfl)
            have s82_55 := m55 _ _ (At.hit z53.put.put rfl)
            clear m55
            refine e_then ?_
            refine c_true s82_55 ?_
            refine c_region ?_
            refine l_q rfl (q_move _ _ rfl s9_55.ev ?_)
            refine l_q rfl (q_row rfl Try.underlying52 rfl (sz52.trans (congrArg some rfl.symm)) (s16_55.ne rfl).ev (fun _ e => by rw [e]; exact k17) ?_)
            refine l_buildF (vs := [.string ((findR lo ((pathsD lb lo lt).getD k ByteArray.empty)).f0), .int .i64 ((findR lo ((pathsD lb lo lt).getD k ByteArray.empty)).f1), .string ((findR lo ((pathsD lb lo lt).getD k ByteArray.empty)).f2)]) rfl rfl Try.underlying28 rec52 (At.hit z55.put rfl).ev rfl rfl (by decide) (by decide) ?_
            intro g85_56 w56 hg56 k56 h56
            have onx9_g85_56 : ∀ k, Value.ownBlock v9_12 = some k → k < g85_56 := fun k hk => Nat.lt_of_lt_of_le (OwnF.own_lt ox9_17 hk) hg56
            have lt_g11_g85_56 := Nat.lt_of_lt_of_le (heap_lt kg11_17) hg56
            have lt_g26_6_g85_56 := Nat.lt_of_lt_of_le kg26_6_17.lt hg56
            have lt_g16_g85_56 := Nat.lt_of_lt_of_le (heap_lt k17) hg56
            have geg85_56 := Nat.le_trans low18.ge hg56
            have kg11_56 := h56.blk kg11_17
            have kg26_6_56 := kg26_6_17.low h56
            have kg16_56 := h56.blk k17
            have ox9_56 := ox9_17.low h56
            have ovb_56 := (ovb_3.low ((low15.trans h16).upd u17 geg16)).low h56
            have ovo_56 := (ovo_3.low ((low15.trans h16).upd u17 geg16)).low h56
            have ovt_56 := (ovt_3.low ((low15.trans h16).upd u17 geg16)).low h56
            have ob3_56 := (o3.low ((low15.trans h16).upd u17 geg16)).low h56
            refine l_appFo (B := w3.heap.size) rfl rfl Try.underlying28 rec52 (((At.hit z55 rfl).ne rfl).ne rfl).ev (At.hit z55.put.put rfl).ev k56 rfl (by decide) rfl ox9_56 (low18.trans h56).ge (by omega) ?_
            intro v57 w57 o57 gr57 ap57
            have kg11_57 := gr57.blka kg11_56 ox9_12.2
            have kg26_6_57 := kg26_6_56.grw gr57
            have kg16_57 := gr57.blkn kg16_56 onx9_g16
            have lw57 := (low18.trans h56).grw gr57
            have apf57 := apart_app ap57 ox9_12.2 (heap_lt kg11_56)
            replace o57 := o57.cast (show _ = ((outR lb lo lt ((pathsD lb lo lt).take k)) ++ [(findR lo ((pathsD lb lo lt).getD k ByteArray.empty))]).length by rw [List.length_append]; rfl) (flat_snoc (enc := encR) (outR lb lo lt ((pathsD lb lo lt).take k)) (findR lo ((pathsD lb lo lt).getD k ByteArray.empty)))
            refine l_q rfl (q_assign _ _ rfl (At.hit z55.put.put.put rfl).ev ?_)
            refine l_end ?_
            refine e_fresh z55.put.put.put.put.put ?_
            intro a58 z58 m58
            have s0_58 := m58 _ _ (((((s0_55.ne rfl).ne rfl).ne rfl).ne rfl).ne rfl)
            have s1_58 := m58 _ _ (((((s1_55.ne rfl).ne rfl).ne rfl).ne rfl).ne rfl)
            have s2_58 := m58 _ _ (((((s2_55.ne rfl).ne rfl).ne rfl).ne rfl).ne rfl)
            have s8_58 := m58 _ _ (((((s8_55.ne rfl).ne rfl).ne rfl).ne rfl).ne rfl)
            have s9_58 := m58 _ _ (At.hit z55.put.put.put.put rfl)
            have s10_58 := m58 _ _ (((((s10_55.ne rfl).ne rfl).ne rfl).ne rfl).ne rfl)
            have s11_58 := m58 _ _ (((((s11_55.ne rfl).ne rfl).ne rfl).ne rfl).ne rfl)
            have s12_58 := m58 _ _ (((((s12_55.ne rfl).ne rfl).ne rfl).ne rfl).ne rfl)
            have low58 := lw57
            clear m58
            refine e_in ?_
            refine e_then ?_
            refine c_region ?_
            refine l_q rfl (q_move _ _ rfl s12_58.ev ?_)
            refine l_q rfl (q_add (((k + 1 : Nat) : Int)) rfl (At.hit z58 rfl).ev rfl (i64_is (by omega) (by omega) (by omega)) ?_)
            refine l_q rfl (q_assign _ _ rfl (At.hit z58.put rfl).ev ?_)
            refine l_end ?_
            refine e_fresh z58.put.put.put ?_
            intro a59 z59 m59
            have s0_59 := m59 _ _ (((s0_58.ne rfl).ne rfl).ne rfl)
            have s1_59 := m59 _ _ (((s1_58.ne rfl).ne rfl).ne rfl)
            have s2_59 := m59 _ _ (((s2_58.ne rfl).ne rfl).ne rfl)
            have s8_59 := m59 _ _ (((s8_58.ne rfl).ne rfl).ne rfl)
            have s9_59 := m59 _ _ (((s9_58.ne rfl).ne rfl).ne rfl)
            have s10_59 := m59 _ _ (((s10_58.ne rfl).ne rfl).ne rfl)
            have s11_59 := m59 _ _ (((s11_58.ne rfl).ne rfl).ne rfl)
            have s12_59 := m59 _ _ (At.hit z58.put.put rfl)
            clear m59
            have c60 := OwnF.castL o57 (show (outR lb lo lt ((pathsD lb lo lt).take k)) ++ [(findR lo ((pathsD lb lo lt).getD k ByteArray.empty))] = outR lb lo lt ((pathsD lb lo lt).take (k + 1)) from outR_next (by omega) (cellR_3 hb20) hb54)
            rw [badR_skip (by omega) (clashR_3 hb37)] at kg26_6_57
            exact ⟨v57, z59, s0_59, s1_59, s2_59, s8_59, s9_59, s10_59, s11_59, s12_59, kg11_57, kg26_6_57, ⟨c60, apf57⟩, low58⟩
          · skip
            refine c_region ?_
            refine l_q rfl (q_row rfl Try.underlying52 rfl (sz52.trans (congrArg some rfl.symm)) s16_53.ev (fun _ e => by rw [e]; exact k17) ?_)
            refine l_q rfl (q_row rfl Try.underlying52 rfl (sz52.trans (congrArg some rfl.symm)) (s11_53.ne rfl).ev (fun _ e => by rw [e]; exact kg11_17) ?_)
            refine l_q rfl (q_ne3 false rfl guard52 ((At.hit z53 rfl).ne rfl).ev (At.hit z53.put rfl).ev (eq52 9998 ((findR lo ((pathsD lb lo lt).getD k ByteArray.empty)).f0) ((findR lo ((pathsD lb lo lt).getD k ByteArray.empty)).f1) ((findR lo ((pathsD lb lo lt).getD k ByteArray.empty)).f2) zR.f0 zR.f1 zR.f2) (neR_false (Decidable.not_not.1 hb54)) ?_)
            refine l_end ?_
            refine e_fresh z53.put.put.put ?_
            intro a61 z61 m61
            have s0_61 := m61 _ _ (((s0_53.ne rfl).ne rfl).ne rfl)
            have s1_61 := m61 _ _ (((s1_53.ne rfl).ne rfl).ne rfl)
            have s2_61 := m61 _ _ (((s2_53.ne rfl).ne rfl).ne rfl)
            have s8_61 := m61 _ _ (((s8_53.ne rfl).ne rfl).ne rfl)
            have s9_61 := m61 _ _ (((s9_53.ne rfl).ne rfl).ne rfl)
            have s10_61 := m61 _ _ (((s10_53.ne rfl).ne rfl).ne rfl)
            have s11_61 := m61 _ _ (((s11_53.ne rfl).ne rfl).ne rfl)
            have s12_61 := m61 _ _ (((s12_53.ne rfl).ne rfl).ne rfl)
            have s16_61 := m61 _ _ (((s16_53.ne rfl).ne rfl).ne rfl)
            have s82_61 := m61 _ _ (At.hit z53.put.put rfl)
            clear m61
            refine e_then ?_
            refine c_false s82_61 ?_
            refine wp_skip ?_
            refine e_in ?_
            refine e_then ?_
            refine c_region ?_
            refine l_q rfl (q_move _ _ rfl s12_61.ev ?_)
            refine l_q rfl (q_add (((k + 1 : Nat) : Int)) rfl (At.hit z61 rfl).ev rfl (i64_is (by omega) (by omega) (by omega)) ?_)
            refine l_q rfl (q_assign _ _ rfl (At.hit z61.put rfl).ev ?_)
            refine l_end ?_
            refine e_fresh z61.put.put.put ?_
            intro a62 z62 m62
            have s0_62 := m62 _ _ (((s0_61.ne rfl).ne rfl).ne rfl)
            have s1_62 := m62 _ _ (((s1_61.ne rfl).ne rfl).ne rfl)
            have s2_62 := m62 _ _ (((s2_61.ne rfl).ne rfl).ne rfl)
            have s8_62 := m62 _ _ (((s8_61.ne rfl).ne rfl).ne rfl)
            have s9_62 := m62 _ _ (((s9_61.ne rfl).ne rfl).ne rfl)
            have s10_62 := m62 _ _ (((s10_61.ne rfl).ne rfl).ne rfl)
            have s11_62 := m62 _ _ (((s11_61.ne rfl).ne rfl).ne rfl)
            have s12_62 := m62 _ _ (At.hit z61.put.put rfl)
            clear m62
            have c63 := OwnF.castL ox9_17 (show outR lb lo lt ((pathsD lb lo lt).take k) = outR lb lo lt ((pathsD lb lo lt).take (k + 1)) from outR_skip (by omega) (cellR_3 hb20) hb54)
            rw [badR_skip (by omega) (clashR_3 hb37)] at kg26_6_17
            exact ⟨v9_12, z62, s0_62, s1_62, s2_62, s8_62, s9_62, s10_62, s11_62, s12_62, kg11_17, kg26_6_17, ⟨c63, ox9_12.2⟩, low18⟩
    · skip
      refine c_region ?_
      refine l_q rfl (q_row rfl Try.underlying52 rfl (sz52.trans (congrArg some rfl.symm)) s14_18.ev (fun _ e => by rw [e]; exact kg14_17) ?_)
      refine l_q rfl (q_row rfl Try.underlying52 rfl (sz52.trans (congrArg some rfl.symm)) (s15_18.ne rfl).ev (fun _ e => by rw [e]; exact kg15_17) ?_)
      refine l_q rfl (q_ne3 false rfl guard52 ((At.hit z18 rfl).ne rfl).ev (At.hit z18.put rfl).ev (eq52 9998 ((findR lo ((pathsD lb lo lt).getD k ByteArray.empty)).f0) ((findR lo ((pathsD lb lo lt).getD k ByteArray.empty)).f1) ((findR lo ((pathsD lb lo lt).getD k ByteArray.empty)).f2) ((findR lt ((pathsD lb lo lt).getD k ByteArray.empty)).f0) ((findR lt ((pathsD lb lo lt).getD k ByteArray.empty)).f1) ((findR lt ((pathsD lb lo lt).getD k ByteArray.empty)).f2)) (neR_false (Decidable.not_not.1 hb19)) ?_)
      refine l_q rfl (q_move _ _ rfl (At.hit z18.put.put rfl).ev ?_)
      refine l_skip (wanted_is (j := 3) (d := 56) (b := false) rfl rfl (At.hit z18.put.put.put rfl) rfl) ?_
      refine l_skip (wanted_is (j := 3) (d := 56) (b := false) rfl rfl ((At.hit z18.put.put.put rfl).ne rfl) rfl) ?_
      refine l_skip (wanted_is (j := 3) (d := 56) (b := false) rfl rfl (((At.hit z18.put.put.put rfl).ne rfl).ne rfl) rfl) ?_
      refine l_q rfl (q_pick (b := false) (.bool false) rfl ((((At.hit z18.put.put.put rfl).ne rfl).ne rfl).ne rfl).ev rfl ?_)
      refine l_end ?_
      refine e_fresh z18.put.put.put.put.put.put.put.put ?_
      intro a64 z64 m64
      have s0_64 := m64 _ _ ((((((((s0_18.ne rfl).ne rfl).ne rfl).ne rfl).ne rfl).ne rfl).ne rfl).ne rfl)
      have s1_64 := m64 _ _ ((((((((s1_18.ne rfl).ne rfl).ne rfl).ne rfl).ne rfl).ne rfl).ne rfl).ne rfl)
      have s2_64 := m64 _ _ ((((((((s2_18.ne rfl).ne rfl).ne rfl).ne rfl).ne rfl).ne rfl).ne rfl).ne rfl)
      have s8_64 := m64 _ _ ((((((((s8_18.ne rfl).ne rfl).ne rfl).ne rfl).ne rfl).ne rfl).ne rfl).ne rfl)
      have s9_64 := m64 _ _ ((((((((s9_18.ne rfl).ne rfl).ne rfl).ne rfl).ne rfl).ne rfl).ne rfl).ne rfl)
      have s10_64 := m64 _ _ ((((((((s10_18.ne rfl).ne rfl).ne rfl).ne rfl).ne rfl).ne rfl).ne rfl).ne rfl)
      have s11_64 := m64 _ _ ((((((((s11_18.ne rfl).ne rfl).ne rfl).ne rfl).ne rfl).ne rfl).ne rfl).ne rfl)
      have s12_64 := m64 _ _ ((((((((s12_18.ne rfl).ne rfl).ne rfl).ne rfl).ne rfl).ne rfl).ne rfl).ne rfl)
      have s13_64 := m64 _ _ ((((((((s13_18.ne rfl).ne rfl).ne rfl).ne rfl).ne rfl).ne rfl).ne rfl).ne rfl)
      have s14_64 := m64 _ _ ((((((((s14_18.ne rfl).ne rfl).ne rfl).ne rfl).ne rfl).ne rfl).ne rfl).ne rfl)
      have s15_64 := m64 _ _ ((((((((s15_18.ne rfl).ne rfl).ne rfl).ne rfl).ne rfl).ne rfl).ne rfl).ne rfl)
      have s16_64 := m64 _ _ ((((((((s16_18.ne rfl).ne rfl).ne rfl).ne rfl).ne rfl).ne rfl).ne rfl).ne rfl)
      have s60_64 := m64 _ _ (At.hit z18.put.put.put.put.put.put.put rfl)
      clear m64
      refine e_then ?_
      refine c_false s60_64 ?_
      refine wp_skip ?_
      refine e_then ?_
      refine c_seq ?_
      refine c_seq ?_
      refine c_region ?_
      refine l_q rfl (q_row rfl Try.underlying52 rfl (sz52.trans (congrArg some rfl.symm)) s14_64.ev (fun _ e => by rw [e]; exact kg14_17) ?_)
      refine l_q rfl (q_row rfl Try.underlying52 rfl (sz52.trans (congrArg some rfl.symm)) (s15_64.ne rfl).ev (fun _ e => by rw [e]; exact kg15_17) ?_)
      refine l_q rfl (q_ne3 false rfl guard52 ((At.hit z64 rfl).ne rfl).ev (At.hit z64.put rfl).ev (eq52 9998 ((findR lo ((pathsD lb lo lt).getD k ByteArray.empty)).f0) ((findR lo ((pathsD lb lo lt).getD k ByteArray.empty)).f1) ((findR lo ((pathsD lb lo lt).getD k ByteArray.empty)).f2) ((findR lt ((pathsD lb lo lt).getD k ByteArray.empty)).f0) ((findR lt ((pathsD lb lo lt).getD k ByteArray.empty)).f1) ((findR lt ((pathsD lb lo lt).getD k ByteArray.empty)).f2)) (neR_false (Decidable.not_not.1 hb19)) ?_)
      refine l_q rfl (q_move _ _ rfl (At.hit z64.put.put rfl).ev ?_)
      refine l_skip (wanted_is (j := 3) (d := 65) (b := false) rfl rfl (At.hit z64.put.put.put rfl) rfl) ?_
      refine l_skip (wanted_is (j := 3) (d := 65) (b := false) rfl rfl ((At.hit z64.put.put.put rfl).ne rfl) rfl) ?_
      refine l_skip (wanted_is (j := 3) (d := 65) (b := false) rfl rfl (((At.hit z64.put.put.put rfl).ne rfl).ne rfl) rfl) ?_
      refine l_q rfl (q_pick (b := false) (.bool false) rfl ((((At.hit z64.put.put.put rfl).ne rfl).ne rfl).ne rfl).ev rfl ?_)
      refine l_fresh z64.put.put.put.put.put.put.put.put ?_
      intro a65 z65 m65
      have s0_65 := m65 _ _ ((((((((s0_64.ne rfl).ne rfl).ne rfl).ne rfl).ne rfl).ne rfl).ne rfl).ne rfl)
      have s1_65 := m65 _ _ ((((((((s1_64.ne rfl).ne rfl).ne rfl).ne rfl).ne rfl).ne rfl).ne rfl).ne rfl)
      have s2_65 := m65 _ _ ((((((((s2_64.ne rfl).ne rfl).ne rfl).ne rfl).ne rfl).ne rfl).ne rfl).ne rfl)
      have s8_65 := m65 _ _ ((((((((s8_64.ne rfl).ne rfl).ne rfl).ne rfl).ne rfl).ne rfl).ne rfl).ne rfl)
      have s9_65 := m65 _ _ ((((((((s9_64.ne rfl).ne rfl).ne rfl).ne rfl).ne rfl).ne rfl).ne rfl).ne rfl)
      have s10_65 := m65 _ _ ((((((((s10_64.ne rfl).ne rfl).ne rfl).ne rfl).ne rfl).ne rfl).ne rfl).ne rfl)
      have s11_65 := m65 _ _ ((((((((s11_64.ne rfl).ne rfl).ne rfl).ne rfl).ne rfl).ne rfl).ne rfl).ne rfl)
      have s12_65 := m65 _ _ ((((((((s12_64.ne rfl).ne rfl).ne rfl).ne rfl).ne rfl).ne rfl).ne rfl).ne rfl)
      have s13_65 := m65 _ _ ((((((((s13_64.ne rfl).ne rfl).ne rfl).ne rfl).ne rfl).ne rfl).ne rfl).ne rfl)
      have s15_65 := m65 _ _ ((((((((s15_64.ne rfl).ne rfl).ne rfl).ne rfl).ne rfl).ne rfl).ne rfl).ne rfl)
      have s16_65 := m65 _ _ ((((((((s16_64.ne rfl).ne rfl).ne rfl).ne rfl).ne rfl).ne rfl).ne rfl).ne rfl)
      have s69_65 := m65 _ _ (At.hit z64.put.put.put.put.put.put.put rfl)
      clear m65
      refine l_q rfl (q_move _ _ rfl s69_65.ev ?_)
      refine l_skip (wanted_is (j := 8) (d := 70) (b := false) rfl rfl (At.hit z65 rfl) rfl) ?_
      refine l_skip (wanted_is (j := 8) (d := 70) (b := false) rfl rfl ((At.hit z65 rfl).ne rfl) rfl) ?_
      refine l_skip (wanted_is (j := 8) (d := 70) (b := false) rfl rfl (((At.hit z65 rfl).ne rfl).ne rfl) rfl) ?_
      refine l_q rfl (q_pick (b := false) (.bool false) rfl ((((At.hit z65 rfl).ne rfl).ne rfl).ne rfl).ev rfl ?_)
      refine l_end ?_
      refine e_fresh z65.put.put.put.put.put ?_
      intro a66 z66 m66
      have s0_66 := m66 _ _ (((((s0_65.ne rfl).ne rfl).ne rfl).ne rfl).ne rfl)
      have s1_66 := m66 _ _ (((((s1_65.ne rfl).ne rfl).ne rfl).ne rfl).ne rfl)
      have s2_66 := m66 _ _ (((((s2_65.ne rfl).ne rfl).ne rfl).ne rfl).ne rfl)
      have s8_66 := m66 _ _ (((((s8_65.ne rfl).ne rfl).ne rfl).ne rfl).ne rfl)
      have s9_66 := m66 _ _ (((((s9_65.ne rfl).ne rfl).ne rfl).ne rfl).ne rfl)
      have s10_66 := m66 _ _ (((((s10_65.ne rfl).ne rfl).ne rfl).ne rfl).ne rfl)
      have s11_66 := m66 _ _ (((((s11_65.ne rfl).ne rfl).ne rfl).ne rfl).ne rfl)
      have s12_66 := m66 _ _ (((((s12_65.ne rfl).ne rfl).ne rfl).ne rfl).ne rfl)
      have s16_66 := m66 _ _ (((((s16_65.ne rfl).ne rfl).ne rfl).ne rfl).ne rfl)
      have s74_66 := m66 _ _ (At.hit z65.put.put.put.put rfl)
      clear m66
      refine e_then ?_
      refine c_false s74_66 ?_
      refine wp_skip ?_
      refine e_then ?_
      refine c_seq ?_
      by_cases hb67 : ¬ findR lo ((pathsD lb lo lt).getD k ByteArray.empty) = zR
      · skip
        refine c_region ?_
        refine l_q rfl (q_row rfl Try.underlying52 rfl (sz52.trans (congrArg some rfl.symm)) s16_66.ev (fun _ e => by rw [e]; exact k17) ?_)
        refine l_q rfl (q_row rfl Try.underlying52 rfl (sz52.trans (congrArg some rfl.symm)) (s11_66.ne rfl).ev (fun _ e => by rw [e]; exact kg11_17) ?_)
        refine l_q rfl (q_ne3 true rfl guard52 ((At.hit z66 rfl).ne rfl).ev (At.hit z66.put rfl).ev (eq52 9998 ((findR lo ((pathsD lb lo lt).getD k ByteArray.empty)).f0) ((findR lo ((pathsD lb lo lt).getD k ByteArray.empty)).f1) ((findR lo ((pathsD lb lo lt).getD k ByteArray.empty)).f2) zR.f0 zR.f1 zR.f2) (neR_true hb67) ?_)
        refine l_end ?_
        refine e_fresh z66.put.put.put ?_
        intro a68 z68 m68
        have s0_68 := m68 _ _ (((s0_66.ne rfl).ne rfl).ne rfl)
        have s1_68 := m68 _ _ (((s1_66.ne rfl).ne rfl).ne rfl)
        have s2_68 := m68 _ _ (((s2_66.ne rfl).ne rfl).ne rfl)
        have s8_68 := m68 _ _ (((s8_66.ne rfl).ne rfl).ne rfl)
        have s9_68 := m68 _ _ (((s9_66.ne rfl).ne rfl).ne rfl)
        have s10_68 := m68 _ _ (((s10_66.ne rfl).ne rfl).ne rfl)
        have s11_68 := m68 _ _ (((s11_66.ne rfl).ne rfl).ne rfl)
        have s12_68 := m68 _ _ (((s12_66.ne rfl).ne rfl).ne rfl)
        have s16_68 := m68 _ _ (((s16_66.ne rfl).ne rfl).ne rfl)
        have s82_68 := m68 _ _ (At.hit z66.put.put rfl)
        clear m68
        refine e_then ?_
        refine c_true s82_68 ?_
        refine c_region ?_
        refine l_q rfl (q_move _ _ rfl s9_68.ev ?_)
        refine l_q rfl (q_row rfl Try.underlying52 rfl (sz52.trans (congrArg some rfl.symm)) (s16_68.ne rfl).ev (fun _ e => by rw [e]; exact k17) ?_)
        refine l_buildF (vs := [.string ((findR lo ((pathsD lb lo lt).getD k ByteArray.empty)).f0), .int .i64 ((findR lo ((pathsD lb lo lt).getD k ByteArray.empty)).f1), .string ((findR lo ((pathsD lb lo lt).getD k ByteArray.empty)).f2)]) rfl rfl Try.underlying28 rec52 (At.hit z68.put rfl).ev rfl rfl (by decide) (by decide) ?_
        intro g85_69 w69 hg69 k69 h69
        have onx9_g85_69 : ∀ k, Value.ownBlock v9_12 = some k → k < g85_69 := fun k hk => Nat.lt_of_lt_of_le (OwnF.own_lt ox9_17 hk) hg69
        have lt_g11_g85_69 := Nat.lt_of_lt_of_le (heap_lt kg11_17) hg69
        have lt_g26_6_g85_69 := Nat.lt_of_lt_of_le kg26_6_17.lt hg69
        have lt_g16_g85_69 := Nat.lt_of_lt_of_le (heap_lt k17) hg69
        have geg85_69 := Nat.le_trans low18.ge hg69
        have kg11_69 := h69.blk kg11_17
        have kg26_6_69 := kg26_6_17.low h69
        have kg16_69 := h69.blk k17
        have ox9_69 := ox9_17.low h69
        have ovb_69 := (ovb_3.low ((low15.trans h16).upd u17 geg16)).low h69
        have ovo_69 := (ovo_3.low ((low15.trans h16).upd u17 geg16)).low h69
        have ovt_69 := (ovt_3.low ((low15.trans h16).upd u17 geg16)).low h69
        have ob3_69 := (o3.low ((low15.trans h16).upd u17 geg16)).low h69
        refine l_appFo (B := w3.heap.size) rfl rfl Try.underlying28 rec52 (((At.hit z68 rfl).ne rfl).ne rfl).ev (At.hit z68.put.put rfl).ev k69 rfl (by decide) rfl ox9_69 (low18.trans h69).ge (by omega) ?_
        intro v70 w70 o70 gr70 ap70
        have kg11_70 := gr70.blka kg11_69 ox9_12.2
        have kg26_6_70 := kg26_6_69.grw gr70
        have kg16_70 := gr70.blkn kg16_69 onx9_g16
        have lw70 := (low18.trans h69).grw gr70
        have apf70 := apart_app ap70 ox9_12.2 (heap_lt kg11_69)
        replace o70 := o70.cast (show _ = ((outR lb lo lt ((pathsD lb lo lt).take k)) ++ [(findR lo ((pathsD lb lo lt).getD k ByteArray.empty))]).length by rw [List.length_append]; rfl) (flat_snoc (enc := encR) (outR lb lo lt ((pathsD lb lo lt).take k)) (findR lo ((pathsD lb lo lt).getD k ByteArray.empty)))
        refine l_q rfl (q_assign _ _ rfl (At.hit z68.put.put.put rfl).ev ?_)
        refine l_end ?_
        refine e_fresh z68.put.put.put.put.put ?_
        intro a71 z71 m71
        have s0_71 := m71 _ _ (((((s0_68.ne rfl).ne rfl).ne rfl).ne rfl).ne rfl)
        have s1_71 := m71 _ _ (((((s1_68.ne rfl).ne rfl).ne rfl).ne rfl).ne rfl)
        have s2_71 := m71 _ _ (((((s2_68.ne rfl).ne rfl).ne rfl).ne rfl).ne rfl)
        have s8_71 := m71 _ _ (((((s8_68.ne rfl).ne rfl).ne rfl).ne rfl).ne rfl)
        have s9_71 := m71 _ _ (At.hit z68.put.put.put.put rfl)
        have s10_71 := m71 _ _ (((((s10_68.ne rfl).ne rfl).ne rfl).ne rfl).ne rfl)
        have s11_71 := m71 _ _ (((((s11_68.ne rfl).ne rfl).ne rfl).ne rfl).ne rfl)
        have s12_71 := m71 _ _ (((((s12_68.ne rfl).ne rfl).ne rfl).ne rfl).ne rfl)
        have low71 := lw70
        clear m71
        refine e_in ?_
        refine e_then ?_
        refine c_region ?_
        refine l_q rfl (q_move _ _ rfl s12_71.ev ?_)
        refine l_q rfl (q_add (((k + 1 : Nat) : Int)) rfl (At.hit z71 rfl).ev rfl (i64_is (by omega) (by omega) (by omega)) ?_)
        refine l_q rfl (q_assign _ _ rfl (At.hit z71.put rfl).ev ?_)
        refine l_end ?_
        refine e_fresh z71.put.put.put ?_
        intro a72 z72 m72
        have s0_72 := m72 _ _ (((s0_71.ne rfl).ne rfl).ne rfl)
        have s1_72 := m72 _ _ (((s1_71.ne rfl).ne rfl).ne rfl)
        have s2_72 := m72 _ _ (((s2_71.ne rfl).ne rfl).ne rfl)
        have s8_72 := m72 _ _ (((s8_71.ne rfl).ne rfl).ne rfl)
        have s9_72 := m72 _ _ (((s9_71.ne rfl).ne rfl).ne rfl)
        have s10_72 := m72 _ _ (((s10_71.ne rfl).ne rfl).ne rfl)
        have s11_72 := m72 _ _ (((s11_71.ne rfl).ne rfl).ne rfl)
        have s12_72 := m72 _ _ (At.hit z71.put.put rfl)
        clear m72
        have c73 := OwnF.castL o70 (show (outR lb lo lt ((pathsD lb lo lt).take k)) ++ [(findR lo ((pathsD lb lo lt).getD k ByteArray.empty))] = outR lb lo lt ((pathsD lb lo lt).take (k + 1)) from outR_next (by omega) (cellR_1 hb19) hb67)
        rw [badR_skip (by omega) (clashR_1 hb19)] at kg26_6_70
        exact ⟨v70, z72, s0_72, s1_72, s2_72, s8_72, s9_72, s10_72, s11_72, s12_72, kg11_70, kg26_6_70, ⟨c73, apf70⟩, low71⟩
      · skip
        refine c_region ?_
        refine l_q rfl (q_row rfl Try.underlying52 rfl (sz52.trans (congrArg some rfl.symm)) s16_66.ev (fun _ e => by rw [e]; exact k17) ?_)
        refine l_q rfl (q_row rfl Try.underlying52 rfl (sz52.trans (congrArg some rfl.symm)) (s11_66.ne rfl).ev (fun _ e => by rw [e]; exact kg11_17) ?_)
        refine l_q rfl (q_ne3 false rfl guard52 ((At.hit z66 rfl).ne rfl).ev (At.hit z66.put rfl).ev (eq52 9998 ((findR lo ((pathsD lb lo lt).getD k ByteArray.empty)).f0) ((findR lo ((pathsD lb lo lt).getD k ByteArray.empty)).f1) ((findR lo ((pathsD lb lo lt).getD k ByteArray.empty)).f2) zR.f0 zR.f1 zR.f2) (neR_false (Decidable.not_not.1 hb67)) ?_)
        refine l_end ?_
        refine e_fresh z66.put.put.put ?_
        intro a74 z74 m74
        have s0_74 := m74 _ _ (((s0_66.ne rfl).ne rfl).ne rfl)
        have s1_74 := m74 _ _ (((s1_66.ne rfl).ne rfl).ne rfl)
        have s2_74 := m74 _ _ (((s2_66.ne rfl).ne rfl).ne rfl)
        have s8_74 := m74 _ _ (((s8_66.ne rfl).ne rfl).ne rfl)
        have s9_74 := m74 _ _ (((s9_66.ne rfl).ne rfl).ne rfl)
        have s10_74 := m74 _ _ (((s10_66.ne rfl).ne rfl).ne rfl)
        have s11_74 := m74 _ _ (((s11_66.ne rfl).ne rfl).ne rfl)
        have s12_74 := m74 _ _ (((s12_66.ne rfl).ne rfl).ne rfl)
        have s16_74 := m74 _ _ (((s16_66.ne rfl).ne rfl).ne rfl)
        have s82_74 := m74 _ _ (At.hit z66.put.put rfl)
        clear m74
        refine e_then ?_
        refine c_false s82_74 ?_
        refine wp_skip ?_
        refine e_in ?_
        refine e_then ?_
        refine c_region ?_
        refine l_q rfl (q_move _ _ rfl s12_74.ev ?_)
        refine l_q rfl (q_add (((k + 1 : Nat) : Int)) rfl (At.hit z74 rfl).ev rfl (i64_is (by omega) (by omega) (by omega)) ?_)
        refine l_q rfl (q_assign _ _ rfl (At.hit z74.put rfl).ev ?_)
        refine l_end ?_
        refine e_fresh z74.put.put.put ?_
        intro a75 z75 m75
        have s0_75 := m75 _ _ (((s0_74.ne rfl).ne rfl).ne rfl)
        have s1_75 := m75 _ _ (((s1_74.ne rfl).ne rfl).ne rfl)
        have s2_75 := m75 _ _ (((s2_74.ne rfl).ne rfl).ne rfl)
        have s8_75 := m75 _ _ (((s8_74.ne rfl).ne rfl).ne rfl)
        have s9_75 := m75 _ _ (((s9_74.ne rfl).ne rfl).ne rfl)
        have s10_75 := m75 _ _ (((s10_74.ne rfl).ne rfl).ne rfl)
        have s11_75 := m75 _ _ (((s11_74.ne rfl).ne rfl).ne rfl)
        have s12_75 := m75 _ _ (At.hit z74.put.put rfl)
        clear m75
        have c76 := OwnF.castL ox9_17 (show outR lb lo lt ((pathsD lb lo lt).take k) = outR lb lo lt ((pathsD lb lo lt).take (k + 1)) from outR_skip (by omega) (cellR_1 hb19) hb67)
        rw [badR_skip (by omega) (clashR_1 hb19)] at kg26_6_17
        exact ⟨v9_12, z75, s0_75, s1_75, s2_75, s8_75, s9_75, s10_75, s11_75, s12_75, kg11_17, kg26_6_17, ⟨c76, ox9_12.2⟩, low18⟩
  · intro a77 w77 h
    obtain ⟨v9_77, z77, s0_77, s1_77, s2_77, s8_77, s9_77, s10_77, s11_77, s12_77, kg11_77, kg26_6_77, ox9_77, low77⟩ := h
    clear k9 kg26_6_9 low10 s0_11 s10_11 s11_11 s12_11 s1_11 s2_11 s8_11 s9_11 z11
    have hpl := pathsD_len lb lo lt
    have hol := outR_len lb lo lt (pathsD lb lo lt) (pathsD lb lo lt).length 300000 (by omega)
    rw [outS_end] at hol
    refine c_seq ?_
    refine c_seq ?_
    refine c_region ?_
    refine l_q rfl (q_move _ _ rfl s12_77.ev ?_)
    refine l_q rfl (q_move _ _ rfl (s8_77.ne rfl).ev ?_)
    refine l_q rfl (q_lenF rfl rfl Try.underlying25 (At.hit z77.put rfl).ev (o3.low low77).rd ?_)
    refine l_q rfl (q_lss false rfl (((At.hit z77 rfl).ne rfl).ne rfl).ev (At.hit z77.put.put rfl).ev (decide_eq_false (by omega)) ?_)
    refine l_end ?_
    refine e_fresh z77.put.put.put.put ?_
    intro a78 z78 m78
    have s0_78 := m78 _ _ ((((s0_77.ne rfl).ne rfl).ne rfl).ne rfl)
    have s1_78 := m78 _ _ ((((s1_77.ne rfl).ne rfl).ne rfl).ne rfl)
    have s2_78 := m78 _ _ ((((s2_77.ne rfl).ne rfl).ne rfl).ne rfl)
    have s8_78 := m78 _ _ ((((s8_77.ne rfl).ne rfl).ne rfl).ne rfl)
    have s9_78 := m78 _ _ ((((s9_77.ne rfl).ne rfl).ne rfl).ne rfl)
    have s10_78 := m78 _ _ ((((s10_77.ne rfl).ne rfl).ne rfl).ne rfl)
    have s11_78 := m78 _ _ ((((s11_77.ne rfl).ne rfl).ne rfl).ne rfl)
    have s12_78 := m78 _ _ ((((s12_77.ne rfl).ne rfl).ne rfl).ne rfl)
    have s31_78 := m78 _ _ (At.hit z77.put.put.put rfl)
    clear m78
    refine e_then ?_
    refine c_false s31_78 ?_
    refine wp_exit ?_
    refine x_then ?_
    refine x_then ?_
    refine in_exit ?_
    refine e_then ?_
    refine c_seq ?_
    refine c_seq ?_
    have c79 := OwnF.castL ox9_77.1 (show outR lb lo lt ((pathsD lb lo lt).take ((pathsD lb lo lt).length)) = outS lb lo lt from outS_end lb lo lt)
    rw [badS_end] at kg26_6_77
    refine c_region ?_
    refine l_q rfl (q_assign _ _ rfl rfl ?_)
    refine l_end ?_
    refine e_fresh z78.put ?_
    intro a80 z80 m80
    have s8_80 := m80 _ _ (s8_78.ne rfl)
    have s9_80 := m80 _ _ (s9_78.ne rfl)
    have s10_80 := m80 _ _ (s10_78.ne rfl)
    have s17_80 := m80 _ _ (At.hit z78 rfl)
    clear m80
    refine e_then ?_
    refine wp_block ?_
    refine c_loop ((outS lb lo lt).length) (fun k a w => Fr 137 a ∧ At a 8 (v3) ∧ At a 9 (v9_77) ∧ At a 10 (.map (some g26_6)) ∧ At a 17 (.int .i64 ((k : Nat) : Int)) ∧ MapIs w g26_6 (mapB (dirR (badS lb lo lt) (outS lb lo lt) k)) ∧ OwnF w w3.heap.size 52 3 v9_77 (outS lb lo lt).length (((outS lb lo lt).map encR).flatten) ∧ Low w3 w) ?_ ?_ ?_
    · exact ⟨z80, s8_80, s9_80, s10_80, s17_80, kg26_6_77, c79, low77⟩
    · intro k a81 w81 hk81 h
      obtain ⟨z81, s8_81, s9_81, s10_81, s17_81, kg26_6_81, ox9_81, low81⟩ := h
      clear kg26_6_77 low77 s10_80 s17_80 s8_80 s9_80 z80
      refine c_seq ?_
      refine c_seq ?_
      refine c_region ?_
      refine l_q rfl (q_move _ _ rfl s17_81.ev ?_)
      refine l_q rfl (q_move _ _ rfl (s9_81.ne rfl).ev ?_)
      refine l_q rfl (q_lenF rfl rfl Try.underlying28 (At.hit z81.put rfl).ev ox9_81.rd ?_)
      refine l_q rfl (q_lss true rfl (((At.hit z81 rfl).ne rfl).ne rfl).ev (At.hit z81.put.put rfl).ev (decide_eq_true (by omega)) ?_)
      refine l_end ?_
      refine e_fresh z81.put.put.put.put ?_
      intro a82 z82 m82
      have s8_82 := m82 _ _ ((((s8_81.ne rfl).ne rfl).ne rfl).ne rfl)
      have s9_82 := m82 _ _ ((((s9_81.ne rfl).ne rfl).ne rfl).ne rfl)
      have s10_82 := m82 _ _ ((((s10_81.ne rfl).ne rfl).ne rfl).ne rfl)
      have s17_82 := m82 _ _ ((((s17_81.ne rfl).ne rfl).ne rfl).ne rfl)
      have s90_82 := m82 _ _ (At.hit z81.put.put.put rfl)
      clear m82
      refine e_then ?_
      refine c_true s90_82 ?_
      refine wp_skip ?_
      refine e_then ?_
      refine c_seq ?_
      refine wp_block ?_
      refine c_seq ?_
      refine c_region ?_
      refine l_q rfl (q_assign _ _ rfl rfl ?_)
      refine l_end ?_
      refine e_fresh z82.put ?_
      intro a83 z83 m83
      have s8_83 := m83 _ _ (s8_82.ne rfl)
      have s9_83 := m83 _ _ (s9_82.ne rfl)
      have s10_83 := m83 _ _ (s10_82.ne rfl)
      have s17_83 := m83 _ _ (s17_82.ne rfl)
      have s18_83 := m83 _ _ (At.hit z82 rfl)
      clear m83
      refine e_then ?_
      refine wp_block ?_
      refine c_loop ((outS lb lo lt).length) (fun m a w => Fr 137 a ∧ At a 8 (v3) ∧ At a 9 (v9_77) ∧ At a 10 (.map (some g26_6)) ∧ At a 17 (.int .i64 ((k : Nat) : Int)) ∧ At a 18 (.int .i64 ((m : Nat) : Int)) ∧ MapIs w g26_6 (mapB (inR (dirR (badS lb lo lt) (outS lb lo lt) k) (outS lb lo lt) k m)) ∧ OwnF w w3.heap.size 52 3 v9_77 (outS lb lo lt).length (((outS lb lo lt).map encR).flatten) ∧ Low w3 w) ?_ ?_ ?_
      · exact ⟨z83, s8_83, s9_83, s10_83, s17_83, s18_83, kg26_6_81, ox9_81, low81⟩
      · intro m a84 w84 hk84 h
        obtain ⟨z84, s8_84, s9_84, s10_84, s17_84, s18_84, kg26_6_84, ox9_84, low84⟩ := h
        clear kg26_6_81 low81 s10_83 s17_83 s18_83 s8_83 s9_83 z83
        refine c_seq ?_
        refine c_seq ?_
        refine c_region ?_
        refine l_q rfl (q_move _ _ rfl s18_84.ev ?_)
        refine l_q rfl (q_move _ _ rfl (s9_84.ne rfl).ev ?_)
        refine l_q rfl (q_lenF rfl rfl Try.underlying28 (At.hit z84.put rfl).ev ox9_84.rd ?_)
        refine l_q rfl (q_lss true rfl (((At.hit z84 rfl).ne rfl).ne rfl).ev (At.hit z84.put.put rfl).ev (decide_eq_true (by omega)) ?_)
        refine l_end ?_
        refine e_fresh z84.put.put.put.put ?_
        intro a85 z85 m85
        have s8_85 := m85 _ _ ((((s8_84.ne rfl).ne rfl).ne rfl).ne rfl)
        have s9_85 := m85 _ _ ((((s9_84.ne rfl).ne rfl).ne rfl).ne rfl)
        have s10_85 := m85 _ _ ((((s10_84.ne rfl).ne rfl).ne rfl).ne rfl)
        have s17_85 := m85 _ _ ((((s17_84.ne rfl).ne rfl).ne rfl).ne rfl)
        have s18_85 := m85 _ _ ((((s18_84.ne rfl).ne rfl).ne rfl).ne rfl)
        have s96_85 := m85 _ _ (At.hit z84.put.put.put rfl)
        clear m85
        refine e_then ?_
        refine c_true s96_85 ?_
        refine wp_skip ?_
        refine e_then ?_
        refine c_seq ?_
        refine wp_block ?_
        refine c_seq ?_
        refine region_low hm (by kernel_rfl) ?_
        refine qs (q_move _ _ rfl s9_85.ev ?_)
        refine qs (q_move _ _ rfl (s18_85.ne rfl).ev ?_)
        refine qs (q_idxF (j := m) rfl Try.underlying28 sz52 ((At.hit z85 rfl).ne rfl).ev ox9_84.rd (At.hit z85.put rfl).ev (by omega) ?_)
        refine qs (q_fldF 0 rfl fld52_0 (At.hit z85.put.put rfl).ev (ox9_84.rd.form (by omega)) ?_)
        refine qs (q_ld1 (u := .string (((outS lb lo lt).getD m zR).f0)) rfl Try.underlying9 rfl (At.hit z85.put.put.put rfl).ev (fun _ h => (ox9_84.low h).rd) (by omega) ((flat_at encR_len zR _ m 0 (by omega) (by decide)).trans rfl) ?_)
        refine qs (q_move _ _ rfl (((((s9_85.ne rfl).ne rfl).ne rfl).ne rfl).ne rfl).ev ?_)
        refine qs (q_move _ _ rfl ((((((s17_85.ne rfl).ne rfl).ne rfl).ne rfl).ne rfl).ne rfl).ev ?_)
        refine qs (q_idxF (j := k) rfl Try.underlying28 sz52 ((At.hit z85.put.put.put.put.put rfl).ne rfl).ev ox9_84.rd (At.hit z85.put.put.put.put.put.put rfl).ev (by omega) ?_)
        refine q_fresh z85.put.put.put.put.put.put.put.put ?_
        intro a86 z86 m86
        have s8_86 := m86 _ _ ((((((((s8_85.ne rfl).ne rfl).ne rfl).ne rfl).ne rfl).ne rfl).ne rfl).ne rfl)
        have s9_86 := m86 _ _ ((((((((s9_85.ne rfl).ne rfl).ne rfl).ne rfl).ne rfl).ne rfl).ne rfl).ne rfl)
        have s10_86 := m86 _ _ ((((((((s10_85.ne rfl).ne rfl).ne rfl).ne rfl).ne rfl).ne rfl).ne rfl).ne rfl)
        have s17_86 := m86 _ _ ((((((((s17_85.ne rfl).ne rfl).ne rfl).ne rfl).ne rfl).ne rfl).ne rfl).ne rfl)
        have s18_86 := m86 _ _ ((((((((s18_85.ne rfl).ne rfl).ne rfl).ne rfl).ne rfl).ne rfl).ne rfl).ne rfl)
        have s103_86 := m86 _ _ ((((At.hit z85.put.put.put.put rfl).ne rfl).ne rfl).ne rfl)
        have s106_86 := m86 _ _ (At.hit z85.put.put.put.put.put.put.put rfl)
        clear m86
        refine qs (q_fldF 0 rfl fld52_0 s106_86.ev (ox9_84.rd.form (by omega)) ?_)
        refine qs (q_ld1 (u := .string (((outS lb lo lt).getD k zR).f0)) rfl Try.underlying9 rfl (At.hit z86 rfl).ev (fun _ h => (ox9_84.low h).rd) (by omega) ((flat_at encR_len zR _ k 0 (by omega) (by decide)).trans rfl) ?_)
        refine qs (q_call (.bool (within (((outS lb lo lt).getD m zR).f0) (((outS lb lo lt).getD k zR).f0))) rfl rfl Try.func14 rfl (args2 rfl ((s103_86.ne rfl).ne rfl).ev (At.hit z86.put rfl).ev) (fun _ h => (Within.calls (((outS lb lo lt).getD m zR).f0) (((outS lb lo lt).getD k zR).f0) _).mono fun _ _ ⟨e, k⟩ => ⟨e, h.trans k⟩) ?_)
        refine qz ?_
        intro w87 h87
        have kg26_6_87 := kg26_6_84.low h87
        have ox9_87 := ox9_84.low h87
        have ob3_87 := (o3.low low84).low h87
        refine e_id ?_
        refine e_fresh z86.put.put.put ?_
        intro a88 z88 m88
        have s8_88 := m88 _ _ (((s8_86.ne rfl).ne rfl).ne rfl)
        have s9_88 := m88 _ _ (((s9_86.ne rfl).ne rfl).ne rfl)
        have s10_88 := m88 _ _ (((s10_86.ne rfl).ne rfl).ne rfl)
        have s17_88 := m88 _ _ (((s17_86.ne rfl).ne rfl).ne rfl)
        have s18_88 := m88 _ _ (((s18_86.ne rfl).ne rfl).ne rfl)
        have s109_88 := m88 _ _ (At.hit z86.put.put rfl)
        have low88 := (low84.trans h87)
        clear m88
        refine e_then ?_
        cases hc89 : within (((outS lb lo lt).getD m zR).f0) (((outS lb lo lt).getD k zR).f0) with
        | true =>
          have hs89 := s109_88.same (congrArg Value.bool hc89)
          refine c_true hs89 ?_
          refine c_region ?_
          refine l_q rfl (q_move _ _ rfl s10_88.ev ?_)
          refine l_q rfl (q_move _ _ rfl (s9_88.ne rfl).ev ?_)
          refine l_q rfl (q_move _ _ rfl ((s17_88.ne rfl).ne rfl).ev ?_)
          refine l_q rfl (q_idxF (j := k) rfl Try.underlying28 sz52 ((At.hit z88.put rfl).ne rfl).ev ox9_87.rd (At.hit z88.put.put rfl).ev (by omega) ?_)
          refine l_q rfl (q_fldF 0 rfl fld52_0 (At.hit z88.put.put.put rfl).ev (ox9_87.rd.form (by omega)) ?_)
          refine l_q rfl (q_ld1 (u := .string (((outS lb lo lt).getD k zR).f0)) rfl Try.underlying9 rfl (At.hit z88.put.put.put.put rfl).ev (fun _ e => by rw [e]; exact ox9_87.rd) (by omega) ((flat_at encR_len zR _ k 0 (by omega) (by decide)).trans rfl) ?_)
          refine l_mapPut rfl rfl rfl Try.underlying38 Try.underlying9 ((((((At.hit z88 rfl).ne rfl).ne rfl).ne rfl).ne rfl).ne rfl).ev (At.hit z88.put.put.put.put.put rfl).ev rfl kg26_6_87 ?_
          intro w90 k90 u90
          replace k90 : MapIs w90 g26_6 (mput (mapB (inR (dirR (badS lb lo lt) (outS lb lo lt) k) (outS lb lo lt) k m)) (((outS lb lo lt).getD k zR).f0) (.bool true)) := k90
          have ox9_90 := ox9_87.updm u90 kg26_6_87
          refine l_end ?_
          refine e_fresh z88.put.put.put.put.put.put ?_
          intro a91 z91 m91
          have s8_91 := m91 _ _ ((((((s8_88.ne rfl).ne rfl).ne rfl).ne rfl).ne rfl).ne rfl)
          have s9_91 := m91 _ _ ((((((s9_88.ne rfl).ne rfl).ne rfl).ne rfl).ne rfl).ne rfl)
          have s10_91 := m91 _ _ ((((((s10_88.ne rfl).ne rfl).ne rfl).ne rfl).ne rfl).ne rfl)
          have s17_91 := m91 _ _ ((((((s17_88.ne rfl).ne rfl).ne rfl).ne rfl).ne rfl).ne rfl)
          have s18_91 := m91 _ _ ((((((s18_88.ne rfl).ne rfl).ne rfl).ne rfl).ne rfl).ne rfl)
          have low91 := (low88.upd u90 geg26_6)
          clear m91
          refine e_in ?_
          refine e_then ?_
          refine c_region ?_
          refine l_q rfl (q_move _ _ rfl s18_91.ev ?_)
          refine l_q rfl (q_add (((m + 1 : Nat) : Int)) rfl (At.hit z91 rfl).ev rfl (i64_is (by omega) (by omega) (by omega)) ?_)
          refine l_q rfl (q_assign _ _ rfl (At.hit z91.put rfl).ev ?_)
          refine l_end ?_
          refine e_fresh z91.put.put.put ?_
          intro a92 z92 m92
          have s8_92 := m92 _ _ (((s8_91.ne rfl).ne rfl).ne rfl)
          have s9_92 := m92 _ _ (((s9_91.ne rfl).ne rfl).ne rfl)
          have s10_92 := m92 _ _ (((s10_91.ne rfl).ne rfl).ne rfl)
          have s17_92 := m92 _ _ (((s17_91.ne rfl).ne rfl).ne rfl)
          have s18_92 := m92 _ _ (At.hit z91.put.put rfl)
          clear m92
          rw [inR_next hc89] at k90
          exact ⟨z92, s8_92, s9_92, s10_92, s17_92, s18_92, k90, ox9_90, low91⟩
        | false =>
          have hs89 := s109_88.same (congrArg Value.bool hc89)
          refine c_false hs89 ?_
          refine wp_skip ?_
          refine e_in ?_
          refine e_then ?_
          refine c_region ?_
          refine l_q rfl (q_move _ _ rfl s18_88.ev ?_)
          refine l_q rfl (q_add (((m + 1 : Nat) : Int)) rfl (At.hit z88 rfl).ev rfl (i64_is (by omega) (by omega) (by omega)) ?_)
          refine l_q rfl (q_assign _ _ rfl (At.hit z88.put rfl).ev ?_)
          refine l_end ?_
          refine e_fresh z88.put.put.put ?_
          intro a93 z93 m93
          have s8_93 := m93 _ _ (((s8_88.ne rfl).ne rfl).ne rfl)
          have s9_93 := m93 _ _ (((s9_88.ne rfl).ne rfl).ne rfl)
          have s10_93 := m93 _ _ (((s10_88.ne rfl).ne rfl).ne rfl)
          have s17_93 := m93 _ _ (((s17_88.ne rfl).ne rfl).ne rfl)
          have s18_93 := m93 _ _ (At.hit z88.put.put rfl)
          clear m93
          rw [inR_skip hc89] at kg26_6_87
          exact ⟨z93, s8_93, s9_93, s10_93, s17_93, s18_93, kg26_6_87, ox9_87, low88⟩
      · intro a94 w94 h
        obtain ⟨z94, s8_94, s9_94, s10_94, s17_94, s18_94, kg26_6_94, ox9_94, low94⟩ := h
        clear kg26_6_81 low81 s10_83 s17_83 s18_83 s8_83 s9_83 z83
        refine c_seq ?_
        refine c_seq ?_
        refine c_region ?_
        refine l_q rfl (q_move _ _ rfl s18_94.ev ?_)
        refine l_q rfl (q_move _ _ rfl (s9_94.ne rfl).ev ?_)
        refine l_q rfl (q_lenF rfl rfl Try.underlying28 (At.hit z94.put rfl).ev ox9_94.rd ?_)
        refine l_q rfl (q_lss false rfl (((At.hit z94 rfl).ne rfl).ne rfl).ev (At.hit z94.put.put rfl).ev (decide_eq_false (by omega)) ?_)
        refine l_end ?_
        refine e_fresh z94.put.put.put.put ?_
        intro a95 z95 m95
        have s8_95 := m95 _ _ ((((s8_94.ne rfl).ne rfl).ne rfl).ne rfl)
        have s9_95 := m95 _ _ ((((s9_94.ne rfl).ne rfl).ne rfl).ne rfl)
        have s10_95 := m95 _ _ ((((s10_94.ne rfl).ne rfl).ne rfl).ne rfl)
        have s17_95 := m95 _ _ ((((s17_94.ne rfl).ne rfl).ne rfl).ne rfl)
        have s18_95 := m95 _ _ ((((s18_94.ne rfl).ne rfl).ne rfl).ne rfl)
        have s96_95 := m95 _ _ (At.hit z94.put.put.put rfl)
        clear m95
        refine e_then ?_
        refine c_false s96_95 ?_
        refine wp_exit ?_
        refine x_then ?_
        refine x_then ?_
        refine in_exit ?_
        refine e_in ?_
        refine e_then ?_
        refine c_region ?_
        refine l_q rfl (q_move _ _ rfl s17_95.ev ?_)
        refine l_q rfl (q_add (((k + 1 : Nat) : Int)) rfl (At.hit z95 rfl).ev rfl (i64_is (by omega) (by omega) (by omega)) ?_)
        refine l_q rfl (q_assign _ _ rfl (At.hit z95.put rfl).ev ?_)
        refine l_end ?_
        refine e_fresh z95.put.put.put ?_
        intro a96 z96 m96
        have s8_96 := m96 _ _ (((s8_95.ne rfl).ne rfl).ne rfl)
        have s9_96 := m96 _ _ (((s9_95.ne rfl).ne rfl).ne rfl)
        have s10_96 := m96 _ _ (((s10_95.ne rfl).ne rfl).ne rfl)
        have s17_96 := m96 _ _ (At.hit z95.put.put rfl)
        clear m96
        exact ⟨z96, s8_96, s9_96, s10_96, s17_96, kg26_6_94, ox9_94, low94⟩
    · intro a97 w97 h
      obtain ⟨z97, s8_97, s9_97, s10_97, s17_97, kg26_6_97, ox9_97, low97⟩ := h
      clear kg26_6_77 low77 s10_80 s17_80 s8_80 s9_80 z80
      refine c_seq ?_
      refine c_seq ?_
      refine c_region ?_
      refine l_q rfl (q_move _ _ rfl s17_97.ev ?_)
      refine l_q rfl (q_move _ _ rfl (s9_97.ne rfl).ev ?_)
      refine l_q rfl (q_lenF rfl rfl Try.underlying28 (At.hit z97.put rfl).ev ox9_97.rd ?_)
      refine l_q rfl (q_lss false rfl (((At.hit z97 rfl).ne rfl).ne rfl).ev (At.hit z97.put.put rfl).ev (decide_eq_false (by omega)) ?_)
      refine l_end ?_
      refine e_fresh z97.put.put.put.put ?_
      intro a98 z98 m98
      have s8_98 := m98 _ _ ((((s8_97.ne rfl).ne rfl).ne rfl).ne rfl)
      have s9_98 := m98 _ _ ((((s9_97.ne rfl).ne rfl).ne rfl).ne rfl)
      have s10_98 := m98 _ _ ((((s10_97.ne rfl).ne rfl).ne rfl).ne rfl)
      have s17_98 := m98 _ _ ((((s17_97.ne rfl).ne rfl).ne rfl).ne rfl)
      have s90_98 := m98 _ _ (At.hit z97.put.put.put rfl)
      clear m98
      refine e_then ?_
      refine c_false s90_98 ?_
      refine wp_exit ?_
      refine x_then ?_
      refine x_then ?_
      refine in_exit ?_
      refine e_then ?_
      refine c_seq ?_
      replace kg26_6_97 : MapIs w97 g26_6 (mapB (keysS lb lo lt)) := kg26_6_97
      refine c_region ?_
      refine l_q rfl (q_assign _ _ rfl rfl ?_)
      refine l_end ?_
      refine e_fresh z98.put ?_
      intro a99 z99 m99
      have s8_99 := m99 _ _ (s8_98.ne rfl)
      have s9_99 := m99 _ _ (s9_98.ne rfl)
      have s10_99 := m99 _ _ (s10_98.ne rfl)
      have s19_99 := m99 _ _ (At.hit z98 rfl)
      clear m99
      refine e_then ?_
      refine c_seq ?_
      refine c_seq ?_
      refine c_region ?_
      refine l_q rfl (q_assign _ _ rfl rfl ?_)
      refine l_end ?_
      refine e_fresh z99.put ?_
      intro a100 z100 m100
      have s8_100 := m100 _ _ (s8_99.ne rfl)
      have s9_100 := m100 _ _ (s9_99.ne rfl)
      have s10_100 := m100 _ _ (s10_99.ne rfl)
      have s19_100 := m100 _ _ (s19_99.ne rfl)
      have s20_100 := m100 _ _ (At.hit z99 rfl)
      clear m100
      refine e_then ?_
      refine wp_block ?_
      refine c_loop ((pathsD lb lo lt).length) (fun k a w => ∃ v19 : Value, Fr 137 a ∧ At a 8 (v3) ∧ At a 9 (v9_77) ∧ At a 10 (.map (some g26_6)) ∧ At a 19 (v19) ∧ At a 20 (.int .i64 ((k : Nat) : Int)) ∧ MapIs w g26_6 (mapB (keysS lb lo lt)) ∧ OwnF w w3.heap.size 9 1 v19 (wantR (keysS lb lo lt) ((pathsD lb lo lt).take k)).length (((wantR (keysS lb lo lt) ((pathsD lb lo lt).take k)).map encS).flatten) ∧ OwnF w w3.heap.size 52 3 v9_77 (outS lb lo lt).length (((outS lb lo lt).map encR).flatten) ∧ Low w3 w) ?_ ?_ ?_
      · exact ⟨.slice none 0 0, z100, s8_100, s9_100, s10_100, s19_100, s20_100, kg26_6_97, (OwnF.nil _ _ _ _), ox9_97, low97⟩
      · intro k a101 w101 hk101 h
        obtain ⟨v19_101, z101, s8_101, s9_101, s10_101, s19_101, s20_101, kg26_6_101, ox19_101, ox9_101, low101⟩ := h
        clear kg26_6_97 low97 s10_100 s19_100 s20_100 s8_100 s9_100 z100
        have hwl := want_len (keysS lb lo lt) (pathsD lb lo lt) k 300000 (by omega)
        refine c_seq ?_
        refine c_seq ?_
        refine c_region ?_
        refine l_q rfl (q_move _ _ rfl s20_101.ev ?_)
        refine l_q rfl (q_move _ _ rfl (s8_101.ne rfl).ev ?_)
        refine l_q rfl (q_lenF rfl rfl Try.underlying25 (At.hit z101.put rfl).ev (o3.low low101).rd ?_)
        refine l_q rfl (q_lss true rfl (((At.hit z101 rfl).ne rfl).ne rfl).ev (At.hit z101.put.put rfl).ev (decide_eq_true (by omega)) ?_)
        refine l_end ?_
        refine e_fresh z101.put.put.put.put ?_
        intro a102 z102 m102
        have s8_102 := m102 _ _ ((((s8_101.ne rfl).ne rfl).ne rfl).ne rfl)
        have s9_102 := m102 _ _ ((((s9_101.ne rfl).ne rfl).ne rfl).ne rfl)
        have s10_102 := m102 _ _ ((((s10_101.ne rfl).ne rfl).ne rfl).ne rfl)
        have s19_102 := m102 _ _ ((((s19_101.ne rfl).ne rfl).ne rfl).ne rfl)
        have s20_102 := m102 _ _ ((((s20_101.ne rfl).ne rfl).ne rfl).ne rfl)
        have s119_102 := m102 _ _ (At.hit z101.put.put.put rfl)
        clear m102
        refine e_then ?_
        refine c_true s119_102 ?_
        refine wp_skip ?_
        refine e_then ?_
        refine c_seq ?_
        refine wp_block ?_
        refine c_seq ?_
        refine c_region ?_
        refine l_q rfl (q_move _ _ rfl s10_102.ev ?_)
        refine l_q rfl (q_move _ _ rfl (s8_102.ne rfl).ev ?_)
        refine l_q rfl (q_move _ _ rfl ((s20_102.ne rfl).ne rfl).ev ?_)
        refine l_q rfl (q_idxF (j := k) rfl Try.underlying25 sz9 ((At.hit z102.put rfl).ne rfl).ev (o3.low low101).rd (At.hit z102.put.put rfl).ev (by omega) ?_)
        refine l_q rfl (q_ld1 (u := .string ((pathsD lb lo lt).getD k ByteArray.empty)) rfl Try.underlying9 rfl (At.hit z102.put.put.put rfl).ev (fun _ e => by rw [e]; exact (o3.low low101).rd) (by omega) ((flat_at encS_len ByteArray.empty _ k 0 (by omega) (by decide)).trans rfl) ?_)
        refine l_q rfl (q_look (.bool (memB ((pathsD lb lo lt).getD k ByteArray.empty) (keysS lb lo lt))) rfl Try.underlying38 Try.underlying9 zero4 (((((At.hit z102 rfl).ne rfl).ne rfl).ne rfl).ne rfl).ev (At.hit z102.put.put.put.put rfl).ev (fun _ e => by rw [e]; exact kg26_6_101) (look_mapB (keysS lb lo lt) ((pathsD lb lo lt).getD k ByteArray.empty)) ?_)
        refine l_end ?_
        refine e_fresh z102.put.put.put.put.put.put ?_
        intro a103 z103 m103
        have s8_103 := m103 _ _ ((((((s8_102.ne rfl).ne rfl).ne rfl).ne rfl).ne rfl).ne rfl)
        have s9_103 := m103 _ _ ((((((s9_102.ne rfl).ne rfl).ne rfl).ne rfl).ne rfl).ne rfl)
        have s10_103 := m103 _ _ ((((((s10_102.ne rfl).ne rfl).ne rfl).ne rfl).ne rfl).ne rfl)
        have s19_103 := m103 _ _ ((((((s19_102.ne rfl).ne rfl).ne rfl).ne rfl).ne rfl).ne rfl)
        have s20_103 := m103 _ _ ((((((s20_102.ne rfl).ne rfl).ne rfl).ne rfl).ne rfl).ne rfl)
        have s127_103 := m103 _ _ (At.hit z102.put.put.put.put.put rfl)
        clear m103
        refine e_then ?_
        cases hc104 : memB ((pathsD lb lo lt).getD k ByteArray.empty) (keysS lb lo lt) with
        | true =>
          have hs104 := s127_103.same (congrArg Value.bool hc104)
          refine c_true hs104 ?_
          refine c_region ?_
          refine l_q rfl (q_move _ _ rfl s19_103.ev ?_)
          refine l_q rfl (q_move _ _ rfl (s8_103.ne rfl).ev ?_)
          refine l_q rfl (q_move _ _ rfl ((s20_103.ne rfl).ne rfl).ev ?_)
          refine l_q rfl (q_idxF (j := k) rfl Try.underlying25 sz9 ((At.hit z103.put rfl).ne rfl).ev (o3.low low101).rd (At.hit z103.put.put rfl).ev (by omega) ?_)
          refine l_q rfl (q_ld1 (u := .string ((pathsD lb lo lt).getD k ByteArray.empty)) rfl Try.underlying9 rfl (At.hit z103.put.put.put rfl).ev (fun _ e => by rw [e]; exact (o3.low low101).rd) (by omega) ((flat_at encS_len ByteArray.empty _ k 0 (by omega) (by decide)).trans rfl) ?_)
          refine l_buildF (vs := [.string ((pathsD lb lo lt).getD k ByteArray.empty)]) rfl rfl Try.underlying25 rec9 (At.hit z103.put.put.put.put rfl).ev rfl rfl (by decide) (by decide) ?_
          intro g133_105 w105 hg105 k105 h105
          have onx19_g133_105 : ∀ k, Value.ownBlock v19_101 = some k → k < g133_105 := fun k hk => Nat.lt_of_lt_of_le (OwnF.own_lt ox19_101 hk) hg105
          have onb3_g133_105 : ∀ k, Value.ownBlock v3 = some k → k < g133_105 := fun k hk => Nat.lt_of_lt_of_le (OwnF.own_lt (o3.low low101) hk) hg105
          have lt_g26_6_g133_105 := Nat.lt_of_lt_of_le kg26_6_101.lt hg105
          have geg133_105 := Nat.le_trans low101.ge hg105
          have kg26_6_105 := kg26_6_101.low h105
          have ox19_105 := ox19_101.low h105
          have ox9_105 := ox9_101.low h105
          have ob3_105 := (o3.low low101).low h105
          refine l_appF (B := w3.heap.size) rfl rfl Try.underlying25 rec9 ((((((At.hit z103 rfl).ne rfl).ne rfl).ne rfl).ne rfl).ne rfl).ev (At.hit z103.put.put.put.put.put rfl).ev k105 rfl (by decide) rfl ox19_105 (low101.trans h105).ge (by omega) ?_
          intro v106 w106 o106 gr106
          have kg26_6_106 := kg26_6_105.grw gr106
          have lw106 := (low101.trans h105).grw gr106
          have ox9_106 := ox9_105.grw gr106 rfl
          replace o106 := o106.cast (show _ = ((wantR (keysS lb lo lt) ((pathsD lb lo lt).take k)) ++ [((pathsD lb lo lt).getD k ByteArray.empty)]).length by rw [List.length_append]; rfl) (flat_snoc (enc := encS) (wantR (keysS lb lo lt) ((pathsD lb lo lt).take k)) ((pathsD lb lo lt).getD k ByteArray.empty))
          refine l_q rfl (q_assign _ _ rfl (At.hit z103.put.put.put.put.put.put rfl).ev ?_)
          refine l_end ?_
          refine e_fresh z103.put.put.put.put.put.put.put.put ?_
          intro a107 z107 m107
          have s8_107 := m107 _ _ ((((((((s8_103.ne rfl).ne rfl).ne rfl).ne rfl).ne rfl).ne rfl).ne rfl).ne rfl)
          have s9_107 := m107 _ _ ((((((((s9_103.ne rfl).ne rfl).ne rfl).ne rfl).ne rfl).ne rfl).ne rfl).ne rfl)
          have s10_107 := m107 _ _ ((((((((s10_103.ne rfl).ne rfl).ne rfl).ne rfl).ne rfl).ne rfl).ne rfl).ne rfl)
          have s19_107 := m107 _ _ (At.hit z103.put.put.put.put.put.put.put rfl)
          have s20_107 := m107 _ _ ((((((((s20_103.ne rfl).ne rfl).ne rfl).ne rfl).ne rfl).ne rfl).ne rfl).ne rfl)
          have low107 := lw106
          clear m107
          refine e_in ?_
          refine e_then ?_
          refine c_region ?_
          refine l_q rfl (q_move _ _ rfl s20_107.ev ?_)
          refine l_q rfl (q_add (((k + 1 : Nat) : Int)) rfl (At.hit z107 rfl).ev rfl (i64_is (by omega) (by omega) (by omega)) ?_)
          refine l_q rfl (q_assign _ _ rfl (At.hit z107.put rfl).ev ?_)
          refine l_end ?_
          refine e_fresh z107.put.put.put ?_
          intro a108 z108 m108
          have s8_108 := m108 _ _ (((s8_107.ne rfl).ne rfl).ne rfl)
          have s9_108 := m108 _ _ (((s9_107.ne rfl).ne rfl).ne rfl)
          have s10_108 := m108 _ _ (((s10_107.ne rfl).ne rfl).ne rfl)
          have s19_108 := m108 _ _ (((s19_107.ne rfl).ne rfl).ne rfl)
          have s20_108 := m108 _ _ (At.hit z107.put.put rfl)
          clear m108
          have c109 := OwnF.castL o106 (show (wantR (keysS lb lo lt) ((pathsD lb lo lt).take k)) ++ [((pathsD lb lo lt).getD k ByteArray.empty)] = wantR (keysS lb lo lt) ((pathsD lb lo lt).take (k + 1)) from want_next (by omega) hc104)
          exact ⟨v106, z108, s8_108, s9_108, s10_108, s19_108, s20_108, kg26_6_106, c109, ox9_106, low107⟩
        | false =>
          have hs104 := s127_103.same (congrArg Value.bool hc104)
          refine c_false hs104 ?_
          refine wp_skip ?_
          refine e_in ?_
          refine e_then ?_
          refine c_region ?_
          refine l_q rfl (q_move _ _ rfl s20_103.ev ?_)
          refine l_q rfl (q_add (((k + 1 : Nat) : Int)) rfl (At.hit z103 rfl).ev rfl (i64_is (by omega) (by omega) (by omega)) ?_)
          refine l_q rfl (q_assign _ _ rfl (At.hit z103.put rfl).ev ?_)
          refine l_end ?_
          refine e_fresh z103.put.put.put ?_
          intro a110 z110 m110
          have s8_110 := m110 _ _ (((s8_103.ne rfl).ne rfl).ne rfl)
          have s9_110 := m110 _ _ (((s9_103.ne rfl).ne rfl).ne rfl)
          have s10_110 := m110 _ _ (((s10_103.ne rfl).ne rfl).ne rfl)
          have s19_110 := m110 _ _ (((s19_103.ne rfl).ne rfl).ne rfl)
          have s20_110 := m110 _ _ (At.hit z103.put.put rfl)
          clear m110
          have c111 := OwnF.castL ox19_101 (show wantR (keysS lb lo lt) ((pathsD lb lo lt).take k) = wantR (keysS lb lo lt) ((pathsD lb lo lt).take (k + 1)) from want_skip (by omega) hc104)
          exact ⟨v19_101, z110, s8_110, s9_110, s10_110, s19_110, s20_110, kg26_6_101, c111, ox9_101, low101⟩
      · intro a112 w112 h
        obtain ⟨v19_112, z112, s8_112, s9_112, s10_112, s19_112, s20_112, kg26_6_112, ox19_112, ox9_112, low112⟩ := h
        clear kg26_6_97 low97 s10_100 s19_100 s20_100 s8_100 s9_100 z100
        have hwl := want_len (keysS lb lo lt) (pathsD lb lo lt) (pathsD lb lo lt).length 300000 (by omega)
        refine c_seq ?_
        refine c_seq ?_
        refine c_region ?_
        refine l_q rfl (q_move _ _ rfl s20_112.ev ?_)
        refine l_q rfl (q_move _ _ rfl (s8_112.ne rfl).ev ?_)
        refine l_q rfl (q_lenF rfl rfl Try.underlying25 (At.hit z112.put rfl).ev (o3.low low112).rd ?_)
        refine l_q rfl (q_lss false rfl (((At.hit z112 rfl).ne rfl).ne rfl).ev (At.hit z112.put.put rfl).ev (decide_eq_false (by omega)) ?_)
        refine l_end ?_
        refine e_fresh z112.put.put.put.put ?_
        intro a113 z113 m113
        have s8_113 := m113 _ _ ((((s8_112.ne rfl).ne rfl).ne rfl).ne rfl)
        have s9_113 := m113 _ _ ((((s9_112.ne rfl).ne rfl).ne rfl).ne rfl)
        have s10_113 := m113 _ _ ((((s10_112.ne rfl).ne rfl).ne rfl).ne rfl)
        have s19_113 := m113 _ _ ((((s19_112.ne rfl).ne rfl).ne rfl).ne rfl)
        have s20_113 := m113 _ _ ((((s20_112.ne rfl).ne rfl).ne rfl).ne rfl)
        have s119_113 := m113 _ _ (At.hit z112.put.put.put rfl)
        clear m113
        refine e_then ?_
        refine c_false s119_113 ?_
        refine wp_exit ?_
        refine x_then ?_
        refine x_then ?_
        refine in_exit ?_
        refine e_then ?_
        refine c_seq ?_
        refine c_region ?_
        refine l_q rfl (q_move _ _ rfl s9_113.ev ?_)
        refine l_q rfl (q_move _ _ rfl (s19_113.ne rfl).ev ?_)
        refine l_q rfl (q_assign _ _ rfl ((At.hit z113 rfl).ne rfl).ev ?_)
        refine l_q rfl (q_assign _ _ rfl ((At.hit z113.put rfl).ne rfl).ev ?_)
        refine l_end ?_
        refine e_fresh z113.put.put.put.put ?_
        intro a114 z114 m114
        have s6_114 := m114 _ _ ((At.hit z113.put.put rfl).ne rfl)
        have s7_114 := m114 _ _ (At.hit z113.put.put.put rfl)
        clear m114
        refine e_then ?_
        refine wp_ret ?_
        refine r_two rfl z114.defers s6_114 s7_114 ?_
        rw [wantS_end] at ox19_112
        exact ⟨_, rfl, _, _, rfl, ox9_112.base low4.ge, ox19_112.base low4.ge, (low4.trans low112)⟩
end Go.Proofs.Ytenbgnlkkmnmhaa.Q
end
/-! M8 -/
section
namespace Go.Proofs.Ytenbgnlkkmnmhaa.Q
open Go.RowKit Go.Proofs.Ytenbgnlkkmnmhaa.P
set_option linter.unusedSimpArgs false
abbrev TnL := S42
abbrev zT : TnL := ⟨zL.f0, zL, zL⟩
def encT (x : TnL) : List Value := [.string x.f0, .string x.f1.f0, .int .i64 x.f1.f1, .string x.f1.f2, .string x.f2.f0, .int .i64 x.f2.f1, .string x.f2.f2]
theorem encT_len (x : TnL) : (encT x).length = 7 := rfl
theorem zero42 : ∀ w, (zeroValue 42).run Try.prog w = .ok (.agg #[.string zT.f0, .string zT.f1.f0, .int .i64 zT.f1.f1, .string zT.f1.f2, .string zT.f2.f0, .int .i64 zT.f2.f1, .string zT.f2.f2]) w := fun w => by kernel_rfl
theorem rec42 : recB Try.prog 42 7 = true := by kernel_rfl
theorem sz42 : (Try.prog.info? 42).map (·.size) = some 7 := by kernel_rfl
theorem fld42_0 (p : Addr) (w : World) : (Instr.fieldAt 42 (.pointer (some p)) 0).run Try.prog w = .ok (.pointer (some (p.add 0))) w := by kernel_rfl
theorem fld42_2 (p : Addr) (w : World) : (Instr.fieldAt 42 (.pointer (some p)) 2).run Try.prog w = .ok (.pointer (some (p.add 4))) w := by kernel_rfl
theorem turn_ab (p : ByteArray) (x0 : ByteArray) (x1 : Int) (x2 : ByteArray) : Try.prog.built 42 [(0, .string p), (1, .agg #[.string x0, .int .i64 x1, .string x2])] = some #[.string p, .string x0, .int .i64 x1, .string x2, .string zL.f0, .int .i64 zL.f1, .string zL.f2] := by kernel_rfl
theorem turn_ac (p : ByteArray) (x0 : ByteArray) (x1 : Int) (x2 : ByteArray) : Try.prog.built 42 [(0, .string p), (2, .agg #[.string x0, .int .i64 x1, .string x2])] = some #[.string p, .string zL.f0, .int .i64 zL.f1, .string zL.f2, .string x0, .int .i64 x1, .string x2] := by kernel_rfl
theorem turn_abc (p : ByteArray) (x0 : ByteArray) (x1 : Int) (x2 y0 : ByteArray) (y1 : Int) (y2 : ByteArray) : Try.prog.built 42 [(0, .string p), (1, .agg #[.string x0, .int .i64 x1, .string x2]), (2, .agg #[.string y0, .int .i64 y1, .string y2])] = some #[.string p, .string x0, .int .i64 x1, .string x2, .string y0, .int .i64 y1, .string y2] := by kernel_rfl
section
variable {P : Program} {a : Act} {o : Oper} {K : Act → Prop} {C : World → Prop}
/-- a part of a record read -/
theorem q_ldRm {T : TypeId} {x : Operand} {v : Value} {n sz m k : Nat} {cs vs : List Value} {d : TypeDesc} (ho : o.op = .load T x) (hT : P.underlying T = some d) (hd : d.isRow = true) (hi : (P.info? T).map (·.size) = some m) (hx : a.eval x = pAt v k) (hv : ∀ w, C w → RdF w sz v n cs) (hp : 0 < n) (hl : vs.length = m) (hu : (cs.drop k).take m = vs) (hn : K (a.put o.dst (.agg vs.toArray))) : o.quiet P a C K :=
  q_val _ (fun w hw => by
    obtain ⟨_, A, cap, rfl, hc, h2⟩ := hv w hw
    obtain ⟨g, i, rfl, _, h3⟩ := h2 hp
    rw [pAt_mid] at hx
    have hr : w.rangeAt g (i + k) vs := fun j u hj => by
      have hlt : j < m := by have := (List.getElem?_eq_some_iff.1 hj).1; omega
      rw [← hu, List.getElem?_take, if_pos hlt, List.getElem?_drop] at hj
      rw [Nat.add_assoc]
      exact h3 (k + j) u hj
    have := run_loadAt_mid w g (i + k) T vs d hr hT hd (by rw [hi, hl])
    unfold execOp
    simp only [ho, hx, Sem.run_bind, this, Result.andThen_ok, Sem.run_pure]) hn
end
theorem flat_sub {α : Type} {enc : α → List Value} {sz : Nat} (he : ∀ x, (enc x).length = sz) (d : α) (L : List α) (j c m : Nat) (hj : j < L.length) (hc : c + m ≤ sz) : ((L.map enc).flatten.drop (j * sz + c)).take m = ((enc (L.getD j d)).drop c).take m := by
  apply List.ext_getElem?
  intro k
  rw [List.getElem?_take, List.getElem?_take]
  by_cases hk : k < m
  · rw [if_pos hk, if_pos hk, List.getElem?_drop, List.getElem?_drop, Nat.add_assoc, flat_at he d L j (c + k) hj (by omega)]
  · rw [if_neg hk, if_neg hk]
def c1 (a b : List LfL) (i k : Nat) : Prop := k = b.length ∨ (i < a.length ∧ lessB (a.getD i zL).f0 (b.getD k zL).f0 = true)
def c2 (a b : List LfL) (i k : Nat) : Prop := i = a.length ∨ lessB (b.getD k zL).f0 (a.getD i zL).f0 = true
instance c1Dec (a b : List LfL) (i k : Nat) : Decidable (c1 a b i k) := by unfold c1; infer_instance
instance c2Dec (a b : List LfL) (i k : Nat) : Decidable (c2 a b i k) := by unfold c2; infer_instance
def addT (o : List TnL) (t : TnL) : List TnL := if t.f1 = t.f2 then o else o ++ [t]
def stepD (a b : List LfL) (s : Nat × Nat × List TnL) : Nat × Nat × List TnL :=
  if c1 a b s.1 s.2.1 then (s.1 + 1, s.2.1, addT s.2.2 ⟨(a.getD s.1 zL).f0, a.getD s.1 zL, zL⟩)
  else if c2 a b s.1 s.2.1 then (s.1, s.2.1 + 1, addT s.2.2 ⟨(b.getD s.2.1 zL).f0, zL, b.getD s.2.1 zL⟩)
  else (s.1 + 1, s.2.1 + 1, addT s.2.2 ⟨(a.getD s.1 zL).f0, a.getD s.1 zL, b.getD s.2.1 zL⟩)
def dS (a b : List LfL) : Nat → Nat × Nat × List TnL
  | 0 => (0, 0, [])
  | r + 1 => stepD a b (dS a b r)
def dI (a b : List LfL) (r : Nat) : Nat := (dS a b r).1
def dK (a b : List LfL) (r : Nat) : Nat := (dS a b r).2.1
def dO (a b : List LfL) (r : Nat) : List TnL := (dS a b r).2.2
def dDone (a b : List LfL) (r : Nat) : Bool := decide (¬ dI a b r < a.length ∧ ¬ dK a b r < b.length)
def dN (a b : List LfL) : Nat := (List.range (a.length + b.length + 1)).findIdx (dDone a b)
section
variable {a b : List LfL} {r : Nat}
theorem d_1 (h : c1 a b (dI a b r) (dK a b r)) : dI a b (r + 1) = dI a b r + 1 ∧ dK a b (r + 1) = dK a b r ∧ dO a b (r + 1) = addT (dO a b r) ⟨(a.getD (dI a b r) zL).f0, a.getD (dI a b r) zL, zL⟩ := by
  have e : dS a b (r + 1) = _ := if_pos h
  unfold dI dK dO at *
  rw [e]
  exact ⟨rfl, rfl, rfl⟩
theorem d_2 (h : ¬ c1 a b (dI a b r) (dK a b r)) (h' : c2 a b (dI a b r) (dK a b r)) : dI a b (r + 1) = dI a b r ∧ dK a b (r + 1) = dK a b r + 1 ∧ dO a b (r + 1) = addT (dO a b r) ⟨(b.getD (dK a b r) zL).f0, zL, b.getD (dK a b r) zL⟩ := by
  have e : dS a b (r + 1) = _ := (if_neg h).trans (if_pos h')
  unfold dI dK dO at *
  rw [e]
  exact ⟨rfl, rfl, rfl⟩
theorem d_3 (h : ¬ c1 a b (dI a b r) (dK a b r)) (h' : ¬ c2 a b (dI a b r) (dK a b r)) : dI a b (r + 1) = dI a b r + 1 ∧ dK a b (r + 1) = dK a b r + 1 ∧ dO a b (r + 1) = addT (dO a b r) ⟨(a.getD (dI a b r) zL).f0, a.getD (dI a b r) zL, b.getD (dK a b r) zL⟩ := by
  have e : dS a b (r + 1) = _ := (if_neg h).trans (if_neg h')
  unfold dI dK dO at *
  rw [e]
  exact ⟨rfl, rfl, rfl⟩
/-- what holds in every round before the end -/
theorem d_bound (a b : List LfL) : ∀ r, (∀ q, q < r → dDone a b q = false) → dI a b r ≤ a.length ∧ dK a b r ≤ b.length ∧ r ≤ dI a b r + dK a b r ∧ (dO a b r).length ≤ r
  | 0, _ => ⟨Nat.zero_le _, Nat.zero_le _, Nat.le_refl _, Nat.le_refl _⟩
  | r + 1, h => by
    obtain ⟨h1, h2, h3, h4⟩ := d_bound a b r fun q hq => h q (by omega)
    have hn := h r (by omega)
    unfold dDone at hn
    have hn := of_decide_eq_false hn
    have hadd : ∀ t, (addT (dO a b r) t).length ≤ r + 1 := fun t => by
      unfold addT
      split
      · omega
      · rw [List.length_append]; simp; omega
    by_cases hc : c1 a b (dI a b r) (dK a b r)
    · obtain ⟨e1, e2, e3⟩ := d_1 hc
      rw [e1, e2, e3]
      refine ⟨?_, h2, by omega, hadd _⟩
      rcases hc with hc | hc
      · omega
      · omega
    · have hk : dK a b r < b.length := by
        rcases Nat.lt_or_ge (dK a b r) b.length with h | h
        · exact h
        · exact absurd (.inl (by omega)) hc
      by_cases hc' : c2 a b (dI a b r) (dK a b r)
      · obtain ⟨e1, e2, e3⟩ := d_2 hc hc'
        rw [e1, e2, e3]
        exact ⟨h1, by omega, by omega, hadd _⟩
      · obtain ⟨e1, e2, e3⟩ := d_3 hc hc'
        rw [e1, e2, e3]
        have hi : dI a b r < a.length := by
          rcases Nat.lt_or_ge (dI a b r) a.length with h | h
          · exact h
          · exact absurd (.inl (by omega)) hc'
        exact ⟨by omega, by omega, by omega, hadd _⟩
theorem dN_before (h : r < dN a b) : dDone a b r = false := by
  have := List.not_of_lt_findIdx h
  rw [List.getElem_range] at this
  simpa using this
theorem dN_lt (a b : List LfL) : dN a b < a.length + b.length + 1 := by
  have h1 := List.findIdx_lt_length (xs := List.range (a.length + b.length + 1)) (p := dDone a b)
  rw [List.length_range] at h1
  refine h1.2 ?_
  apply Classical.byContradiction
  intro hne
  have hall : ∀ q, q < a.length + b.length + 1 → dDone a b q = false := fun q hq => by
    cases hd : dDone a b q with
    | false => rfl
    | true => exact absurd ⟨q, List.mem_range.2 hq, hd⟩ hne
  have := d_bound a b (a.length + b.length + 1) hall
  omega
theorem d_round (h : r ≤ dN a b) : dI a b r ≤ a.length ∧ dK a b r ≤ b.length ∧ (dO a b r).length ≤ r := by
  have := d_bound a b r fun q hq => dN_before (by omega)
  exact ⟨this.1, this.2.1, this.2.2.2⟩
theorem d_more (h : r < dN a b) : dI a b r < a.length ∨ dK a b r < b.length := by
  have hn := dN_before h
  unfold dDone at hn
  have hn := of_decide_eq_false hn
  omega
theorem d_end (a b : List LfL) : dI a b (dN a b) = a.length ∧ dK a b (dN a b) = b.length := by
  have h := dN_lt a b
  have h1 : dDone a b ((List.range (a.length + b.length + 1))[dN a b]'(by rw [List.length_range]; exact h)) = true := List.findIdx_getElem (w := by rw [List.length_range]; exact h)
  rw [List.getElem_range] at h1
  have h1 := of_decide_eq_true h1
  have := d_round (a := a) (b := b) (Nat.le_refl (dN a b))
  omega
end
def diffL (a b : List LfL) : List TnL := dO a b (dN a b)
theorem add_same {o : List TnL} {t : TnL} (h : t.f1 = t.f2) : addT o t = o := if_pos h
theorem add_new {o : List TnL} {t : TnL} (h : ¬ t.f1 = t.f2) : addT o t = o ++ [t] := if_neg h
end Go.Proofs.Ytenbgnlkkmnmhaa.Q
end
/-! M7 -/
section
namespace Go.Proofs.Ytenbgnlkkmnmhaa.Q
open Go.RowKit
set_option linter.unusedSimpArgs false
def leafA : LfL := ⟨⟨#[97]⟩, 1, ⟨#[49]⟩⟩
def leafB : LfL := ⟨⟨#[98]⟩, 1, ⟨#[49]⟩⟩
def leafC : LfL := ⟨⟨#[97]⟩, 1, ⟨#[50]⟩⟩
theorem aw1 : outF [leafA] [leafA, leafB] [] = [leafB] := by
  unfold outF pathsT
  rw [comp_sort]
  kernel_rfl
theorem aw2 : badA [leafA] [leafA, leafB] [] = [] := by
  unfold badA badD badF outF pathsT
  simp only [comp_sort]
  kernel_rfl
theorem aw3 : badA [leafA] [] [leafC] = [⟨#[97]⟩] := by
  unfold badA badD badF outF pathsT
  simp only [comp_sort]
  kernel_rfl
theorem aw4 : (badA [] [] [leafA]).isEmpty = true := by
  unfold badA badD badF outF pathsT
  simp only [comp_sort]
  kernel_rfl
theorem aw5 : (badA [] [leafC] [leafA]).isEmpty = false := by
  unfold badA badD badF outF pathsT
  simp only [comp_sort]
  kernel_rfl
theorem shortA : shortL [leafA] := fun x hx => by rw [List.mem_singleton.1 hx]; decide
theorem shortC : shortL [leafC] := fun x hx => by rw [List.mem_singleton.1 hx]; decide
theorem shortN : shortL [] := fun x hx => by cases hx
theorem shortAB : shortL [leafA, leafB] := fun x hx => by
  rcases List.mem_cons.1 hx with h | h
  · rw [h]; decide
  · rw [List.mem_singleton.1 h]; decide
/-- a row that was laid as_ a literal -/
theorem rdF_rec {w : World} {g n sz : Nat} {vs : List Value} {E : TypeId} (h : w.heap[g]? = some (.cells vs.toArray E)) (hn : vs.length = n * sz) : RdF w sz (.slice (some ⟨g, 0, none⟩) n n) n vs :=
  ⟨hn, _, n, rfl, Nat.le_refl _, fun _ => ⟨g, 0, rfl, heap_lt h, fun j u hu => by
    rw [Nat.zero_add]
    rw [cells_at h j]
    simpa using hu⟩⟩
def RowT (l : List LfL) : Value → World → Prop := fun v w => RdF w 3 v l.length (l.map encL).flatten
theorem StL_row (l : List LfL) : StL (RowT l) := fun _ _ _ h k => h.low k
end Go.Proofs.Ytenbgnlkkmnmhaa.Q
end
