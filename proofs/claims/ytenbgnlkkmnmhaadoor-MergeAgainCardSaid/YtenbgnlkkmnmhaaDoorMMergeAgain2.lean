/- Merged out of this session's texts by a program (wip/gen/merge.py): declarations that this claim doesn't name are left out. -/
import Derived.Test.YtenbgnlkkmnmhaaDoorMMergeAgain1
set_option linter.unusedVariables false
set_option linter.unusedSimpArgs false
/-! E4 -/
section
namespace Go.Proofs.YtenbgnlkkmnmhaaDoor.Q
open Go.RowKit Go.Proofs.YtenbgnlkkmnmhaaDoor.P
open Go.Proofs.YtenbgnlkkmnmhaaDoorW.PrintWords (bytesOf bytesOf_length)
set_option linter.unusedVariables false
set_option linter.unusedSimpArgs false
set_option maxRecDepth 100000
set_option maxHeartbeats 4000000
attribute [local irreducible] wpList wpQuiet qch Code.wp Oper.quiet Act.put At Region.wanted yielded
theorem sort_c {B : Nat} (v : Value) (l : List ByteArray) (w : World) (hln : l.length ≤ 1000000) (hv : OwnF w B 9 1 v l.length (l.map encS).flatten) : Calls Tryd.prog 15 #[v] w fun e w' => ∃ x, e = .returned x ∧ x = .tuple #[] ∧ OwnF w' B 9 1 v (sortB l).length ((sortB l).map encS).flatten ∧ GrW B 9 v w w' := (sort_calls v l w hln hv).mono fun _ _ ⟨e, o, g⟩ => ⟨_, e, rfl, o, g⟩
theorem rec22 : recB Tryd.prog 22 1 = true := by kernel_rfl
theorem Three.calls (vb vo vt : Value) (lb lo lt : List LfL) (hlb : lb.length ≤ 100000) (hlo : lo.length ≤ 100000) (hlt : lt.length ≤ 100000) (ho : shortL lo) (ht : shortL lt) (w0 : World) (hvb : RdF w0 3 vb lb.length (lb.map encL).flatten) (hvo : RdF w0 3 vo lo.length (lo.map encL).flatten) (hvt : RdF w0 3 vt lt.length (lt.map encL).flatten) : Calls Tryd.prog 8 #[vb, vo, vt] w0 fun e w' => ∃ z, e = .returned z ∧ ∃ x y, z = .tuple #[x, y] ∧ OwnF w' w0.heap.size 34 3 x (outF lb lo lt).length ((outF lb lo lt).map encL).flatten ∧ OwnF w' w0.heap.size 9 1 y (badA lb lo lt).length ((badA lb lo lt).map encS).flatten ∧ Low w0 w' := by
  refine c_fun (R := _) Tryd.func8 rfl 126 rfl (Nat.le_of_ble_eq_true rfl) ?_
  intro a z hA
  have s0 := hA 0 _ rfl
  have s1 := hA 1 _ rfl
  have s2 := hA 2 _ rfl
  clear hA
  refine c_seq ?_
  refine c_region ?_
  refine l_q rfl (q_assign _ _ rfl rfl ?_)
  refine l_q rfl (q_assign _ _ rfl rfl ?_)
  refine l_end ?_
  refine e_fresh z.put.put ?_
  intro a1 z1 m1
  have s0_1 := m1 _ _ ((s0.ne rfl).ne rfl)
  have s1_1 := m1 _ _ ((s1.ne rfl).ne rfl)
  have s2_1 := m1 _ _ ((s2.ne rfl).ne rfl)
  clear m1
  refine e_then ?_
  refine c_seq ?_
  refine c_region ?_
  refine l_q rfl (q_move _ _ rfl s0_1.ev ?_)
  refine l_call _ rfl rfl rfl Tryd.func14 rfl (args1 rfl (At.hit z1 rfl).ev) (Rows.calls _ lb (by omega) _ hvb) ?_
  rintro _ w2 ⟨mlb, rfl, hg2, k2, h2⟩
  have gemlb := Nat.le_trans (Low.refl _).ge hg2
  have ovb_2 := hvb.low h2
  have ovo_2 := hvo.low h2
  have ovt_2 := hvt.low h2
  refine l_q rfl (q_move _ _ rfl ((s1_1.ne rfl).ne rfl).ev ?_)
  refine l_call _ rfl rfl rfl Tryd.func14 rfl (args1 rfl (At.hit z1.put.put rfl).ev) (Rows.calls _ lo (by omega) _ ovo_2) ?_
  rintro _ w3 ⟨mlo, rfl, hg3, k3, h3⟩
  have lt_mlb_mlo := Nat.lt_of_lt_of_le k2.lt hg3
  have gemlo := Nat.le_trans h2.ge hg3
  have kmlb_3 := k2.low h3
  have ovb_3 := ovb_2.low h3
  have ovo_3 := ovo_2.low h3
  have ovt_3 := ovt_2.low h3
  refine l_q rfl (q_move _ _ rfl ((((s2_1.ne rfl).ne rfl).ne rfl).ne rfl).ev ?_)
  refine l_call _ rfl rfl rfl Tryd.func14 rfl (args1 rfl (At.hit z1.put.put.put.put rfl).ev) (Rows.calls _ lt (by omega) _ ovt_3) ?_
  rintro _ w4 ⟨mlt, rfl, hg4, k4, h4⟩
  have lt_mlb_mlt := Nat.lt_of_lt_of_le kmlb_3.lt hg4
  have lt_mlo_mlt := Nat.lt_of_lt_of_le k3.lt hg4
  have gemlt := Nat.le_trans (h2.trans h3).ge hg4
  have kmlb_4 := kmlb_3.low h4
  have kmlo_4 := k3.low h4
  have ovb_4 := ovb_3.low h4
  have ovo_4 := ovo_3.low h4
  have ovt_4 := ovt_3.low h4
  refine l_q rfl (q_assign _ _ rfl (((((At.hit z1.put rfl).ne rfl).ne rfl).ne rfl).ne rfl).ev ?_)
  refine l_q rfl (q_assign _ _ rfl ((((At.hit z1.put.put.put rfl).ne rfl).ne rfl).ne rfl).ev ?_)
  refine l_fresh z1.put.put.put.put.put.put.put.put ?_
  intro a5 z5 m5
  have s0_5 := m5 _ _ ((((((((s0_1.ne rfl).ne rfl).ne rfl).ne rfl).ne rfl).ne rfl).ne rfl).ne rfl)
  have s1_5 := m5 _ _ ((((((((s1_1.ne rfl).ne rfl).ne rfl).ne rfl).ne rfl).ne rfl).ne rfl).ne rfl)
  have s2_5 := m5 _ _ ((((((((s2_1.ne rfl).ne rfl).ne rfl).ne rfl).ne rfl).ne rfl).ne rfl).ne rfl)
  have s8_5 := m5 _ _ ((At.hit z1.put.put.put.put.put.put rfl).ne rfl)
  have s9_5 := m5 _ _ (At.hit z1.put.put.put.put.put.put.put rfl)
  have s28_5 := m5 _ _ (((At.hit z1.put.put.put.put.put rfl).ne rfl).ne rfl)
  clear m5
  refine l_q rfl (q_assign _ _ rfl s28_5.ev ?_)
  refine l_end ?_
  refine e_fresh z5.put ?_
  intro a6 z6 m6
  have s0_6 := m6 _ _ (s0_5.ne rfl)
  have s1_6 := m6 _ _ (s1_5.ne rfl)
  have s2_6 := m6 _ _ (s2_5.ne rfl)
  have s8_6 := m6 _ _ (s8_5.ne rfl)
  have s9_6 := m6 _ _ (s9_5.ne rfl)
  have s10_6 := m6 _ _ (At.hit z5 rfl)
  have low6 := ((h2.trans h3).trans h4)
  clear m6
  refine e_then ?_
  refine c_seq ?_
  refine c_region ?_
  refine l_q rfl (q_assign _ _ rfl rfl ?_)
  refine l_end ?_
  refine e_fresh z6.put ?_
  intro a7 z7 m7
  have s0_7 := m7 _ _ (s0_6.ne rfl)
  have s1_7 := m7 _ _ (s1_6.ne rfl)
  have s2_7 := m7 _ _ (s2_6.ne rfl)
  have s8_7 := m7 _ _ (s8_6.ne rfl)
  have s9_7 := m7 _ _ (s9_6.ne rfl)
  have s10_7 := m7 _ _ (s10_6.ne rfl)
  have s11_7 := m7 _ _ (At.hit z6 rfl)
  clear m7
  refine e_then ?_
  refine c_seq ?_
  refine c_seq ?_
  refine c_region ?_
  refine l_q rfl (q_move _ _ rfl s0_7.ev ?_)
  refine l_q rfl (q_move _ _ rfl (s1_7.ne rfl).ev ?_)
  refine l_q rfl (q_move _ _ rfl ((s2_7.ne rfl).ne rfl).ev ?_)
  refine l_lit3 rfl rfl Tryd.underlying35 rec22 (((At.hit z7 rfl).ne rfl).ne rfl).ev ((At.hit z7.put rfl).ne rfl).ev (At.hit z7.put.put rfl).ev (RdF.one ovb_4) (RdF.one ovo_4) (RdF.one ovt_4) ?_
  intro g32_8 w8 hg8 k8 h8
  have lt_mlb_g32_8 := Nat.lt_of_lt_of_le kmlb_4.lt hg8
  have lt_mlo_g32_8 := Nat.lt_of_lt_of_le kmlo_4.lt hg8
  have lt_mlt_g32_8 := Nat.lt_of_lt_of_le k4.lt hg8
  have geg32_8 := Nat.le_trans low6.ge hg8
  have kmlb_8 := kmlb_4.low h8
  have kmlo_8 := kmlo_4.low h8
  have kmlt_8 := k4.low h8
  have ovb_8 := ovb_4.low h8
  have ovo_8 := ovo_4.low h8
  have ovt_8 := ovt_4.low h8
  have og32_8_8 := rdFF3 k8 ovb_8 ovo_8 ovt_8
  obtain ⟨L, hL⟩ : ∃ L : List (List LfL), L = [lb, lo, lt] := ⟨_, rfl⟩
  rw [← hL] at og32_8_8
  have hLn : L.length = 3 := by rw [hL]; rfl
  have hLf : L.flatten.length ≤ 900000 := by rw [hL]; simp; omega
  refine l_q rfl (q_lenF rfl rfl Tryd.underlying35 (At.hit z7.put.put.put rfl).ev og32_8_8.1 ?_)
  refine l_q rfl (q_move _ _ rfl rfl ?_)
  refine l_end ?_
  refine e_fresh z7.put.put.put.put.put.put ?_
  intro a9 z9 m9
  have s8_9 := m9 _ _ ((((((s8_7.ne rfl).ne rfl).ne rfl).ne rfl).ne rfl).ne rfl)
  have s9_9 := m9 _ _ ((((((s9_7.ne rfl).ne rfl).ne rfl).ne rfl).ne rfl).ne rfl)
  have s10_9 := m9 _ _ ((((((s10_7.ne rfl).ne rfl).ne rfl).ne rfl).ne rfl).ne rfl)
  have s11_9 := m9 _ _ ((((((s11_7.ne rfl).ne rfl).ne rfl).ne rfl).ne rfl).ne rfl)
  have s32_9 := m9 _ _ (((At.hit z7.put.put.put rfl).ne rfl).ne rfl)
  have s33_9 := m9 _ _ ((At.hit z7.put.put.put.put rfl).ne rfl)
  have s34_9 := m9 _ _ (At.hit z7.put.put.put.put.put rfl)
  have low9 := (low6.trans h8)
  clear m9
  refine e_then ?_
  refine wp_block ?_
  refine c_loop L.length (fun k a w => ∃ v11 : Value, Fr 126 a ∧ At a 8 (.map (some mlb)) ∧ At a 9 (.map (some mlo)) ∧ At a 10 (.map (some mlt)) ∧ At a 11 (v11) ∧ At a 32 (.slice (some ⟨g32_8, 0, none⟩) 3 3) ∧ At a 33 (.int .i64 ((L.length : Nat) : Int)) ∧ At a 34 (.int .i64 ((k : Nat) : Int)) ∧ MapIs w mlb (mapL lb) ∧ MapIs w mlo (mapL lo) ∧ MapIs w mlt (mapL lt) ∧ OwnF w w8.heap.size 9 1 v11 (gatN L k 0).length (((gatN L k 0).map encS).flatten) ∧ Low w8 w) ?_ ?_ ?_
  · exact ⟨.slice none 0 0, z9, s8_9, s9_9, s10_9, s11_9, s32_9, s33_9, s34_9, kmlb_8, kmlo_8, kmlt_8, (OwnF.nil _ _ _ _), (Low.refl _)⟩
  · intro k a10 w10 hk10 h
    obtain ⟨v11_10, z10, s8_10, s9_10, s10_10, s11_10, s32_10, s33_10, s34_10, kmlb_10, kmlo_10, kmlt_10, ox11_10, low10⟩ := h
    clear kmlb_8 kmlo_8 kmlt_8 s10_9 s11_9 s32_9 s33_9 s34_9 s8_9 s9_9 z9
    refine c_seq ?_
    refine c_region ?_
    refine l_q rfl (q_lss true rfl s34_10.ev s33_10.ev (decide_eq_true (by omega)) ?_)
    refine l_end ?_
    refine e_fresh z10.put ?_
    intro a11 z11 m11
    have s8_11 := m11 _ _ (s8_10.ne rfl)
    have s9_11 := m11 _ _ (s9_10.ne rfl)
    have s10_11 := m11 _ _ (s10_10.ne rfl)
    have s11_11 := m11 _ _ (s11_10.ne rfl)
    have s32_11 := m11 _ _ (s32_10.ne rfl)
    have s33_11 := m11 _ _ (s33_10.ne rfl)
    have s34_11 := m11 _ _ (s34_10.ne rfl)
    have s35_11 := m11 _ _ (At.hit z10 rfl)
    clear m11
    refine e_then ?_
    refine c_seq ?_
    refine c_true s35_11 ?_
    refine wp_skip ?_
    refine e_then ?_
    refine c_seq ?_
    refine wp_block ?_
    refine c_seq ?_
    refine c_region ?_
    refine l_q rfl (q_idxF (j := k) rfl Tryd.underlying35 sz22 s32_11.ev (og32_8_8.low low10).1 s34_11.ev (by omega) ?_)
    refine l_q rfl (q_ld1 (u := (([vb, vo, vt]).getD k nilS)) rfl Tryd.underlying22 rfl (At.hit z11 rfl).ev (fun _ e => by rw [e]; exact (og32_8_8.low low10).1) (by omega) (RdFF.cell (og32_8_8.low low10) (by omega)) ?_)
    refine l_q rfl (q_assign _ _ rfl (At.hit z11.put rfl).ev ?_)
    refine l_end ?_
    refine e_fresh z11.put.put.put ?_
    intro a13 z13 m13
    have s8_13 := m13 _ _ (((s8_11.ne rfl).ne rfl).ne rfl)
    have s9_13 := m13 _ _ (((s9_11.ne rfl).ne rfl).ne rfl)
    have s10_13 := m13 _ _ (((s10_11.ne rfl).ne rfl).ne rfl)
    have s11_13 := m13 _ _ (((s11_11.ne rfl).ne rfl).ne rfl)
    have s13_13 := m13 _ _ (At.hit z11.put.put rfl)
    have s32_13 := m13 _ _ (((s32_11.ne rfl).ne rfl).ne rfl)
    have s33_13 := m13 _ _ (((s33_11.ne rfl).ne rfl).ne rfl)
    have s34_13 := m13 _ _ (((s34_11.ne rfl).ne rfl).ne rfl)
    clear m13
    refine e_then ?_
    refine c_seq ?_
    refine c_region ?_
    refine l_q rfl (q_move _ _ rfl s13_13.ev ?_)
    refine l_q rfl (q_lenF rfl rfl Tryd.underlying22 (At.hit z13 rfl).ev (RdFF.row (k := k) (og32_8_8.low low10) (by omega)) ?_)
    refine l_q rfl (q_move _ _ rfl rfl ?_)
    refine l_end ?_
    refine e_fresh z13.put.put.put ?_
    intro a14 z14 m14
    have s8_14 := m14 _ _ (((s8_13.ne rfl).ne rfl).ne rfl)
    have s9_14 := m14 _ _ (((s9_13.ne rfl).ne rfl).ne rfl)
    have s10_14 := m14 _ _ (((s10_13.ne rfl).ne rfl).ne rfl)
    have s11_14 := m14 _ _ (((s11_13.ne rfl).ne rfl).ne rfl)
    have s32_14 := m14 _ _ (((s32_13.ne rfl).ne rfl).ne rfl)
    have s33_14 := m14 _ _ (((s33_13.ne rfl).ne rfl).ne rfl)
    have s34_14 := m14 _ _ (((s34_13.ne rfl).ne rfl).ne rfl)
    have s38_14 := m14 _ _ (((At.hit z13 rfl).ne rfl).ne rfl)
    have s39_14 := m14 _ _ ((At.hit z13.put rfl).ne rfl)
    have s40_14 := m14 _ _ (At.hit z13.put.put rfl)
    clear m14
    refine e_then ?_
    refine wp_block ?_
    refine c_loop ((L.getD k []).length) (fun m a w => ∃ v11 : Value, Fr 126 a ∧ At a 8 (.map (some mlb)) ∧ At a 9 (.map (some mlo)) ∧ At a 10 (.map (some mlt)) ∧ At a 11 (v11) ∧ At a 32 (.slice (some ⟨g32_8, 0, none⟩) 3 3) ∧ At a 33 (.int .i64 ((L.length : Nat) : Int)) ∧ At a 34 (.int .i64 ((k : Nat) : Int)) ∧ At a 38 ((([vb, vo, vt]).getD k nilS)) ∧ At a 39 (.int .i64 ((((L.getD k []).length) : Nat) : Int)) ∧ At a 40 (.int .i64 ((m : Nat) : Int)) ∧ MapIs w mlb (mapL lb) ∧ MapIs w mlo (mapL lo) ∧ MapIs w mlt (mapL lt) ∧ OwnF w w8.heap.size 9 1 v11 (gatN L k m).length (((gatN L k m).map encS).flatten) ∧ Low w8 w) ?_ ?_ ?_
    · exact ⟨v11_10, z14, s8_14, s9_14, s10_14, s11_14, s32_14, s33_14, s34_14, s38_14, s39_14, s40_14, kmlb_10, kmlo_10, kmlt_10, ox11_10, low10⟩
    · intro m a15 w15 hk15 h
      obtain ⟨v11_15, z15, s8_15, s9_15, s10_15, s11_15, s32_15, s33_15, s34_15, s38_15, s39_15, s40_15, kmlb_15, kmlo_15, kmlt_15, ox11_15, low15⟩ := h
      clear kmlb_10 kmlo_10 kmlt_10 low10 s10_14 s11_14 s32_14 s33_14 s34_14 s38_14 s39_14 s40_14 s8_14 s9_14 z14
      have hrl := row_len L k 900000 (by omega) hLf
      have hgm := gat_len L k m 900000 hLf
      refine c_seq ?_
      refine c_region ?_
      refine l_q rfl (q_lss true rfl s40_15.ev s39_15.ev (decide_eq_true (by omega)) ?_)
      refine l_end ?_
      refine e_fresh z15.put ?_
      intro a16 z16 m16
      have s8_16 := m16 _ _ (s8_15.ne rfl)
      have s9_16 := m16 _ _ (s9_15.ne rfl)
      have s10_16 := m16 _ _ (s10_15.ne rfl)
      have s11_16 := m16 _ _ (s11_15.ne rfl)
      have s32_16 := m16 _ _ (s32_15.ne rfl)
      have s33_16 := m16 _ _ (s33_15.ne rfl)
      have s34_16 := m16 _ _ (s34_15.ne rfl)
      have s38_16 := m16 _ _ (s38_15.ne rfl)
      have s39_16 := m16 _ _ (s39_15.ne rfl)
      have s40_16 := m16 _ _ (s40_15.ne rfl)
      have s41_16 := m16 _ _ (At.hit z15 rfl)
      clear m16
      refine e_then ?_
      refine c_seq ?_
      refine c_true s41_16 ?_
      refine wp_skip ?_
      refine e_then ?_
      refine c_seq ?_
      refine wp_block ?_
      refine c_seq ?_
      refine c_region ?_
      refine l_q rfl (q_idxF (j := m) rfl Tryd.underlying22 sz34 s38_16.ev ((RdFF.row (k := k) og32_8_8 (by omega)).low low15) s40_16.ev (by omega) ?_)
      refine l_q rfl (q_ldR (vs := [.string (((L.getD k []).getD m zL).f0), .int .i64 (((L.getD k []).getD m zL).f1), .string (((L.getD k []).getD m zL).f2)]) rfl Tryd.underlying34 rfl sz34 (At.hit z16 rfl).ev (fun _ e => by rw [e]; exact ((RdFF.row (k := k) og32_8_8 (by omega)).low low15)) (by omega) rfl (flat_part encL_len zL _ m (by omega)) ?_)
      refine l_alloc rfl rfl zero34 ?_
      intro g15 w17 hg17 k17 h17
      have nmlb_g15 := Nat.ne_of_lt (Nat.lt_of_lt_of_le kmlb_15.lt hg17)
      have nmlo_g15 := Nat.ne_of_lt (Nat.lt_of_lt_of_le kmlo_15.lt hg17)
      have nmlt_g15 := Nat.ne_of_lt (Nat.lt_of_lt_of_le kmlt_15.lt hg17)
      have geg15 := Nat.le_trans low15.ge hg17
      have kmlb_17 := kmlb_15.low h17
      have kmlo_17 := kmlo_15.low h17
      have kmlt_17 := kmlt_15.low h17
      have ox11_17 := ox11_15.low h17
      have oL8_17 := (og32_8_8.low low15).low h17
      have oy12_17 := ((RdFF.row (k := k) og32_8_8 (by omega)).low low15).low h17
      refine l_row rfl rfl rfl (sz34.trans (congrArg some rfl.symm)) (At.hit z16.put.put rfl).ev ((At.hit z16.put rfl).ne rfl).ev (by simp [Value.oneCell']) k17 (rfl.trans rfl.symm) ?_
      intro w18 k18 u18
      have ox11_18 := ox11_17.upd u18 k17 rfl
      have kmlb_18 := kmlb_17.upd u18 (by omega)
      have kmlo_18 := kmlo_17.upd u18 (by omega)
      have kmlt_18 := kmlt_17.upd u18 (by omega)
      refine l_end ?_
      refine e_fresh z16.put.put.put ?_
      intro a19 z19 m19
      have s8_19 := m19 _ _ (((s8_16.ne rfl).ne rfl).ne rfl)
      have s9_19 := m19 _ _ (((s9_16.ne rfl).ne rfl).ne rfl)
      have s10_19 := m19 _ _ (((s10_16.ne rfl).ne rfl).ne rfl)
      have s11_19 := m19 _ _ (((s11_16.ne rfl).ne rfl).ne rfl)
      have s15_19 := m19 _ _ (At.hit z16.put.put rfl)
      have s32_19 := m19 _ _ (((s32_16.ne rfl).ne rfl).ne rfl)
      have s33_19 := m19 _ _ (((s33_16.ne rfl).ne rfl).ne rfl)
      have s34_19 := m19 _ _ (((s34_16.ne rfl).ne rfl).ne rfl)
      have s38_19 := m19 _ _ (((s38_16.ne rfl).ne rfl).ne rfl)
      have s39_19 := m19 _ _ (((s39_16.ne rfl).ne rfl).ne rfl)
      have s40_19 := m19 _ _ (((s40_16.ne rfl).ne rfl).ne rfl)
      have low19 := ((low15.trans h17).upd u18 geg15)
      clear m19
      refine e_then ?_
      refine c_region ?_
      refine l_q rfl (q_move _ _ rfl s11_19.ev ?_)
      refine l_q rfl (q_fld 0 rfl (by kernel_rfl) (s15_19.ne rfl).ev ?_)
      refine l_q rfl (q_cellT (.string (((L.getD k []).getD m zL).f0)) rfl Tryd.underlying9 (At.hit z19.put rfl).ev (fun _ e => by rw [e]; exact (cells_at k18 0).trans rfl) ?_)
      refine l_buildF (vs := [.string (((L.getD k []).getD m zL).f0)]) rfl rfl Tryd.underlying26 rec9 (At.hit z19.put.put rfl).ev rfl rfl (by decide) (by decide) ?_
      intro g47_20 w20 hg20 k20 h20
      have onx11_g47_20 : ∀ k, Value.ownBlock v11_15 = some k → k < g47_20 := fun k hk => Nat.lt_of_lt_of_le (OwnF.own_lt ox11_18 hk) hg20
      have lt_g15_g47_20 := Nat.lt_of_lt_of_le (heap_lt k18) hg20
      have nmlb_g47_20 := Nat.ne_of_lt (Nat.lt_of_lt_of_le kmlb_18.lt hg20)
      have nmlo_g47_20 := Nat.ne_of_lt (Nat.lt_of_lt_of_le kmlo_18.lt hg20)
      have nmlt_g47_20 := Nat.ne_of_lt (Nat.lt_of_lt_of_le kmlt_18.lt hg20)
      have geg47_20 := Nat.le_trans low19.ge hg20
      have kmlb_20 := kmlb_18.low h20
      have kmlo_20 := kmlo_18.low h20
      have kmlt_20 := kmlt_18.low h20
      have kg15_20 := h20.blk k18
      have ox11_20 := ox11_18.low h20
      have oL8_20 := (og32_8_8.low ((low15.trans h17).upd u18 geg15)).low h20
      have oy12_20 := ((RdFF.row (k := k) og32_8_8 (by omega)).low ((low15.trans h17).upd u18 geg15)).low h20
      refine l_appF (B := w8.heap.size) rfl rfl Tryd.underlying26 rec9 ((((At.hit z19 rfl).ne rfl).ne rfl).ne rfl).ev (At.hit z19.put.put.put rfl).ev k20 rfl (by decide) rfl ox11_20 (low19.trans h20).ge (by omega) ?_
      intro v21 w21 o21 gr21
      have kmlb_21 := kmlb_20.grw gr21
      have kmlo_21 := kmlo_20.grw gr21
      have kmlt_21 := kmlt_20.grw gr21
      have kg15_21 := gr21.blk kg15_20 rfl
      have lw21 := (low19.trans h20).grw gr21
      replace o21 := o21.cast (show _ = ((gatN L k m) ++ [((L.getD k []).getD m zL).f0]).length by rw [List.length_append]; rfl) (flat_snoc (enc := encS) (gatN L k m) (((L.getD k []).getD m zL).f0))
      refine l_q rfl (q_assign _ _ rfl (At.hit z19.put.put.put.put rfl).ev ?_)
      refine l_end ?_
      refine e_fresh z19.put.put.put.put.put.put ?_
      intro a22 z22 m22
      have s8_22 := m22 _ _ ((((((s8_19.ne rfl).ne rfl).ne rfl).ne rfl).ne rfl).ne rfl)
      have s9_22 := m22 _ _ ((((((s9_19.ne rfl).ne rfl).ne rfl).ne rfl).ne rfl).ne rfl)
      have s10_22 := m22 _ _ ((((((s10_19.ne rfl).ne rfl).ne rfl).ne rfl).ne rfl).ne rfl)
      have s11_22 := m22 _ _ (At.hit z19.put.put.put.put.put rfl)
      have s32_22 := m22 _ _ ((((((s32_19.ne rfl).ne rfl).ne rfl).ne rfl).ne rfl).ne rfl)
      have s33_22 := m22 _ _ ((((((s33_19.ne rfl).ne rfl).ne rfl).ne rfl).ne rfl).ne rfl)
      have s34_22 := m22 _ _ ((((((s34_19.ne rfl).ne rfl).ne rfl).ne rfl).ne rfl).ne rfl)
      have s38_22 := m22 _ _ ((((((s38_19.ne rfl).ne rfl).ne rfl).ne rfl).ne rfl).ne rfl)
      have s39_22 := m22 _ _ ((((((s39_19.ne rfl).ne rfl).ne rfl).ne rfl).ne rfl).ne rfl)
      have s40_22 := m22 _ _ ((((((s40_19.ne rfl).ne rfl).ne rfl).ne rfl).ne rfl).ne rfl)
      have low22 := lw21
      clear m22
      refine e_in ?_
      refine e_then ?_
      refine c_region ?_
      refine l_q rfl (q_add (((m + 1 : Nat) : Int)) rfl s40_22.ev rfl (i64_is (by omega) (by omega) (by omega)) ?_)
      refine l_q rfl (q_move _ _ rfl (At.hit z22 rfl).ev ?_)
      refine l_end ?_
      refine e_fresh z22.put.put ?_
      intro a23 z23 m23
      have s8_23 := m23 _ _ ((s8_22.ne rfl).ne rfl)
      have s9_23 := m23 _ _ ((s9_22.ne rfl).ne rfl)
      have s10_23 := m23 _ _ ((s10_22.ne rfl).ne rfl)
      have s11_23 := m23 _ _ ((s11_22.ne rfl).ne rfl)
      have s32_23 := m23 _ _ ((s32_22.ne rfl).ne rfl)
      have s33_23 := m23 _ _ ((s33_22.ne rfl).ne rfl)
      have s34_23 := m23 _ _ ((s34_22.ne rfl).ne rfl)
      have s38_23 := m23 _ _ ((s38_22.ne rfl).ne rfl)
      have s39_23 := m23 _ _ ((s39_22.ne rfl).ne rfl)
      have s40_23 := m23 _ _ (At.hit z22.put rfl)
      clear m23
      have c24 := OwnF.castL o21 (show (gatN L k m) ++ [((L.getD k []).getD m zL).f0] = gatN L k (m + 1) from gat_next L k m (by omega))
      exact ⟨v21, z23, s8_23, s9_23, s10_23, s11_23, s32_23, s33_23, s34_23, s38_23, s39_23, s40_23, kmlb_21, kmlo_21, kmlt_21, c24, low22⟩
    · intro a25 w25 h
      obtain ⟨v11_25, z25, s8_25, s9_25, s10_25, s11_25, s32_25, s33_25, s34_25, s38_25, s39_25, s40_25, kmlb_25, kmlo_25, kmlt_25, ox11_25, low25⟩ := h
      clear kmlb_10 kmlo_10 kmlt_10 low10 s10_14 s11_14 s32_14 s33_14 s34_14 s38_14 s39_14 s40_14 s8_14 s9_14 z14
      have hrl := row_len L k 900000 (by omega) hLf
      refine c_seq ?_
      refine c_region ?_
      refine l_q rfl (q_lss false rfl s40_25.ev s39_25.ev (decide_eq_false (by omega)) ?_)
      refine l_end ?_
      refine e_fresh z25.put ?_
      intro a26 z26 m26
      have s8_26 := m26 _ _ (s8_25.ne rfl)
      have s9_26 := m26 _ _ (s9_25.ne rfl)
      have s10_26 := m26 _ _ (s10_25.ne rfl)
      have s11_26 := m26 _ _ (s11_25.ne rfl)
      have s32_26 := m26 _ _ (s32_25.ne rfl)
      have s33_26 := m26 _ _ (s33_25.ne rfl)
      have s34_26 := m26 _ _ (s34_25.ne rfl)
      have s38_26 := m26 _ _ (s38_25.ne rfl)
      have s40_26 := m26 _ _ (s40_25.ne rfl)
      have s41_26 := m26 _ _ (At.hit z25 rfl)
      clear m26
      refine e_then ?_
      refine c_seq ?_
      refine c_false s41_26 ?_
      refine wp_exit ?_
      refine x_then ?_
      refine x_then ?_
      refine in_exit ?_
      refine e_in ?_
      refine e_then ?_
      refine c_region ?_
      refine l_q rfl (q_add (((k + 1 : Nat) : Int)) rfl s34_26.ev rfl (i64_is (by omega) (by omega) (by omega)) ?_)
      refine l_q rfl (q_move _ _ rfl (At.hit z26 rfl).ev ?_)
      refine l_end ?_
      refine e_fresh z26.put.put ?_
      intro a27 z27 m27
      have s8_27 := m27 _ _ ((s8_26.ne rfl).ne rfl)
      have s9_27 := m27 _ _ ((s9_26.ne rfl).ne rfl)
      have s10_27 := m27 _ _ ((s10_26.ne rfl).ne rfl)
      have s11_27 := m27 _ _ ((s11_26.ne rfl).ne rfl)
      have s32_27 := m27 _ _ ((s32_26.ne rfl).ne rfl)
      have s33_27 := m27 _ _ ((s33_26.ne rfl).ne rfl)
      have s34_27 := m27 _ _ (At.hit z26.put rfl)
      clear m27
      have c28 := OwnF.castL ox11_25 (show gatN L k ((L.getD k []).length) = gatN L (k + 1) 0 from gat_row L k (by omega))
      exact ⟨v11_25, z27, s8_27, s9_27, s10_27, s11_27, s32_27, s33_27, s34_27, kmlb_25, kmlo_25, kmlt_25, c28, low25⟩
  · intro a29 w29 h
    obtain ⟨v11_29, z29, s8_29, s9_29, s10_29, s11_29, s32_29, s33_29, s34_29, kmlb_29, kmlo_29, kmlt_29, ox11_29, low29⟩ := h
    clear kmlb_8 kmlo_8 kmlt_8 s10_9 s11_9 s32_9 s33_9 s34_9 s8_9 s9_9 z9
    have hgl := gat_len L L.length 0 900000 hLf
    refine c_seq ?_
    refine c_region ?_
    refine l_q rfl (q_lss false rfl s34_29.ev s33_29.ev (decide_eq_false (by omega)) ?_)
    refine l_end ?_
    refine e_fresh z29.put ?_
    intro a30 z30 m30
    have s8_30 := m30 _ _ (s8_29.ne rfl)
    have s9_30 := m30 _ _ (s9_29.ne rfl)
    have s10_30 := m30 _ _ (s10_29.ne rfl)
    have s11_30 := m30 _ _ (s11_29.ne rfl)
    have s32_30 := m30 _ _ (s32_29.ne rfl)
    have s34_30 := m30 _ _ (s34_29.ne rfl)
    have s35_30 := m30 _ _ (At.hit z29 rfl)
    clear m30
    refine e_then ?_
    refine c_seq ?_
    refine c_false s35_30 ?_
    refine wp_exit ?_
    refine x_then ?_
    refine x_then ?_
    refine in_exit ?_
    refine e_then ?_
    refine c_seq ?_
    refine c_region ?_
    refine l_q rfl (q_move _ _ rfl s11_30.ev ?_)
    refine l_call _ rfl rfl rfl Tryd.func15 rfl (args1 rfl (At.hit z30 rfl).ev) (sort_c v11_29 (gatN L L.length 0) _ (Nat.le_trans hgl (by decide)) ox11_29) ?_
    rintro _ w31 ⟨rfl, o31, gr31⟩
    have kmlb_31 := kmlb_29.grw gr31
    have kmlo_31 := kmlo_29.grw gr31
    have kmlt_31 := kmlt_29.grw gr31
    have lw31 := low29.grw gr31
    refine l_end ?_
    refine e_fresh z30.put.put ?_
    intro a32 z32 m32
    have s8_32 := m32 _ _ ((s8_30.ne rfl).ne rfl)
    have s9_32 := m32 _ _ ((s9_30.ne rfl).ne rfl)
    have s10_32 := m32 _ _ ((s10_30.ne rfl).ne rfl)
    have s11_32 := m32 _ _ ((s11_30.ne rfl).ne rfl)
    have low32 := lw31
    clear m32
    refine e_then ?_
    refine c_seq ?_
    refine c_region ?_
    refine l_q rfl (q_assign _ _ rfl rfl ?_)
    refine l_end ?_
    refine e_fresh z32.put ?_
    intro a33 z33 m33
    have s8_33 := m33 _ _ (s8_32.ne rfl)
    have s9_33 := m33 _ _ (s9_32.ne rfl)
    have s10_33 := m33 _ _ (s10_32.ne rfl)
    have s11_33 := m33 _ _ (s11_32.ne rfl)
    have s16_33 := m33 _ _ (At.hit z32 rfl)
    clear m33
    refine e_then ?_
    refine c_seq ?_
    refine c_region ?_
    refine l_q rfl (q_assign _ _ rfl rfl ?_)
    refine l_end ?_
    refine e_fresh z33.put ?_
    intro a34 z34 m34
    have s8_34 := m34 _ _ (s8_33.ne rfl)
    have s9_34 := m34 _ _ (s9_33.ne rfl)
    have s10_34 := m34 _ _ (s10_33.ne rfl)
    have s11_34 := m34 _ _ (s11_33.ne rfl)
    have s16_34 := m34 _ _ (s16_33.ne rfl)
    have s17_34 := m34 _ _ (At.hit z33 rfl)
    clear m34
    refine e_then ?_
    refine c_seq ?_
    refine c_seq ?_
    refine c_region ?_
    refine l_q rfl (q_move _ _ rfl s11_34.ev ?_)
    refine l_call _ rfl rfl rfl Tryd.func16 rfl (args1 rfl (At.hit z34 rfl).ev) (compact_calls v11_29 (sortB (gatN L L.length 0)) _ o31) ?_
    rintro v35 w35 ⟨o35, gr35⟩
    have kmlb_35 := kmlb_31.grw gr35
    have kmlo_35 := kmlo_31.grw gr35
    have kmlt_35 := kmlt_31.grw gr35
    have lw35 := low32.grw gr35
    replace o35 := OwnF.castL o35 (show compB (sortB (gatN L L.length 0)) = pathsT lb lo lt from gat_paths hL)
    refine l_q rfl (q_lenF rfl rfl Tryd.underlying26 (At.hit z34.put rfl).ev o35.rd ?_)
    refine l_q rfl (q_move _ _ rfl rfl ?_)
    refine l_end ?_
    refine e_fresh z34.put.put.put.put ?_
    intro a36 z36 m36
    have s8_36 := m36 _ _ ((((s8_34.ne rfl).ne rfl).ne rfl).ne rfl)
    have s9_36 := m36 _ _ ((((s9_34.ne rfl).ne rfl).ne rfl).ne rfl)
    have s10_36 := m36 _ _ ((((s10_34.ne rfl).ne rfl).ne rfl).ne rfl)
    have s16_36 := m36 _ _ ((((s16_34.ne rfl).ne rfl).ne rfl).ne rfl)
    have s17_36 := m36 _ _ ((((s17_34.ne rfl).ne rfl).ne rfl).ne rfl)
    have s54_36 := m36 _ _ (((At.hit z34.put rfl).ne rfl).ne rfl)
    have s55_36 := m36 _ _ ((At.hit z34.put.put rfl).ne rfl)
    have s56_36 := m36 _ _ (At.hit z34.put.put.put rfl)
    have low36 := lw35
    clear m36
    refine e_then ?_
    refine wp_block ?_
    refine c_loop ((pathsT lb lo lt).length) (fun k a w => ∃ v16 : Value, ∃ v17 : Value, Fr 126 a ∧ At a 8 (.map (some mlb)) ∧ At a 9 (.map (some mlo)) ∧ At a 10 (.map (some mlt)) ∧ At a 16 (v16) ∧ At a 17 (v17) ∧ At a 54 (v35) ∧ At a 55 (.int .i64 ((((pathsT lb lo lt).length) : Nat) : Int)) ∧ At a 56 (.int .i64 ((k : Nat) : Int)) ∧ MapIs w mlb (mapL lb) ∧ MapIs w mlo (mapL lo) ∧ MapIs w mlt (mapL lt) ∧ OwnF w w35.heap.size 34 3 v16 (outT lb lo lt ((pathsT lb lo lt).take k)).length (((outT lb lo lt ((pathsT lb lo lt).take k)).map encL).flatten) ∧ OwnF w w35.heap.size 9 1 v17 (badT lb lo lt ((pathsT lb lo lt).take k)).length (((badT lb lo lt ((pathsT lb lo lt).take k)).map encS).flatten) ∧ Low w35 w) ?_ ?_ ?_
    · exact ⟨.slice none 0 0, .slice none 0 0, z36, s8_36, s9_36, s10_36, s16_36, s17_36, s54_36, s55_36, s56_36, kmlb_35, kmlo_35, kmlt_35, (OwnF.nil _ _ _ _), (OwnF.nil _ _ _ _), (Low.refl _)⟩
    · intro k a37 w37 hk37 h
      obtain ⟨v16_37, v17_37, z37, s8_37, s9_37, s10_37, s16_37, s17_37, s54_37, s55_37, s56_37, kmlb_37, kmlo_37, kmlt_37, ox16_37, ox17_37, low37⟩ := h
      clear kmlb_35 kmlo_35 kmlt_35 s10_36 s16_36 s17_36 s54_36 s55_36 s56_36 s8_36 s9_36 z36
      have hpl := paths_len lb lo lt
      have hol := out_len lb lo lt (pathsT lb lo lt) k 300000 (by omega)
      have hbl := bad_len lb lo lt (pathsT lb lo lt) k 300000 (by omega)
      refine c_seq ?_
      refine c_region ?_
      refine l_q rfl (q_lss true rfl s56_37.ev s55_37.ev (decide_eq_true (by omega)) ?_)
      refine l_end ?_
      refine e_fresh z37.put ?_
      intro a38 z38 m38
      have s8_38 := m38 _ _ (s8_37.ne rfl)
      have s9_38 := m38 _ _ (s9_37.ne rfl)
      have s10_38 := m38 _ _ (s10_37.ne rfl)
      have s16_38 := m38 _ _ (s16_37.ne rfl)
      have s17_38 := m38 _ _ (s17_37.ne rfl)
      have s54_38 := m38 _ _ (s54_37.ne rfl)
      have s55_38 := m38 _ _ (s55_37.ne rfl)
      have s56_38 := m38 _ _ (s56_37.ne rfl)
      have s57_38 := m38 _ _ (At.hit z37 rfl)
      clear m38
      refine e_then ?_
      refine c_seq ?_
      refine c_true s57_38 ?_
      refine wp_skip ?_
      refine e_then ?_
      refine c_seq ?_
      refine wp_block ?_
      refine c_seq ?_
      refine c_region ?_
      refine l_q rfl (q_idxF (j := k) rfl Tryd.underlying26 sz9 s54_38.ev (o35.low low37).rd s56_38.ev (by omega) ?_)
      refine l_q rfl (q_ld1 (u := .string ((pathsT lb lo lt).getD k ByteArray.empty)) rfl Tryd.underlying9 rfl (At.hit z38 rfl).ev (fun _ e => by rw [e]; exact (o35.low low37).rd) (by omega) ((flat_at encS_len ByteArray.empty _ k 0 (by omega) (by decide)).trans rfl) ?_)
      refine l_q rfl (q_assign _ _ rfl (At.hit z38.put rfl).ev ?_)
      refine l_end ?_
      refine e_fresh z38.put.put.put ?_
      intro a39 z39 m39
      have s8_39 := m39 _ _ (((s8_38.ne rfl).ne rfl).ne rfl)
      have s9_39 := m39 _ _ (((s9_38.ne rfl).ne rfl).ne rfl)
      have s10_39 := m39 _ _ (((s10_38.ne rfl).ne rfl).ne rfl)
      have s16_39 := m39 _ _ (((s16_38.ne rfl).ne rfl).ne rfl)
      have s17_39 := m39 _ _ (((s17_38.ne rfl).ne rfl).ne rfl)
      have s19_39 := m39 _ _ (At.hit z38.put.put rfl)
      have s54_39 := m39 _ _ (((s54_38.ne rfl).ne rfl).ne rfl)
      have s55_39 := m39 _ _ (((s55_38.ne rfl).ne rfl).ne rfl)
      have s56_39 := m39 _ _ (((s56_38.ne rfl).ne rfl).ne rfl)
      clear m39
      refine e_then ?_
      refine c_seq ?_
      refine c_region ?_
      refine l_q rfl (q_move _ _ rfl s9_39.ev ?_)
      refine l_q rfl (q_move _ _ rfl (s19_39.ne rfl).ev ?_)
      refine l_q rfl (q_look (.agg (#[.string ((findL lo ((pathsT lb lo lt).getD k ByteArray.empty)).f0), .int .i64 ((findL lo ((pathsT lb lo lt).getD k ByteArray.empty)).f1), .string ((findL lo ((pathsT lb lo lt).getD k ByteArray.empty)).f2)])) rfl Tryd.underlying39 Tryd.underlying9 zero34 ((At.hit z39 rfl).ne rfl).ev (At.hit z39.put rfl).ev (fun _ e => by rw [e]; exact kmlo_37) (look_mapL lo ((pathsT lb lo lt).getD k ByteArray.empty)) ?_)
      refine l_alloc rfl rfl zero34 ?_
      intro g20 w40 hg40 k40 h40
      have onx16_g20 : ∀ k, Value.ownBlock v16_37 = some k → k < g20 := fun k hk => Nat.lt_of_lt_of_le (OwnF.own_lt ox16_37 hk) hg40
      have nmlb_g20 := Nat.ne_of_lt (Nat.lt_of_lt_of_le kmlb_37.lt hg40)
      have nmlo_g20 := Nat.ne_of_lt (Nat.lt_of_lt_of_le kmlo_37.lt hg40)
      have nmlt_g20 := Nat.ne_of_lt (Nat.lt_of_lt_of_le kmlt_37.lt hg40)
      have geg20 := Nat.le_trans low37.ge hg40
      have kmlb_40 := kmlb_37.low h40
      have kmlo_40 := kmlo_37.low h40
      have kmlt_40 := kmlt_37.low h40
      have ox16_40 := ox16_37.low h40
      have ox17_40 := ox17_37.low h40
      have ob35_40 := (o35.low low37).low h40
      refine l_row rfl rfl rfl (sz34.trans (congrArg some rfl.symm)) (At.hit z39.put.put.put rfl).ev ((At.hit z39.put.put rfl).ne rfl).ev (by simp [Value.oneCell']) k40 (rfl.trans rfl.symm) ?_
      intro w41 k41 u41
      have ox16_41 := ox16_40.updn u41 onx16_g20
      have ox17_41 := ox17_40.upd u41 k40 rfl
      have kmlb_41 := kmlb_40.upd u41 (by omega)
      have kmlo_41 := kmlo_40.upd u41 (by omega)
      have kmlt_41 := kmlt_40.upd u41 (by omega)
      refine l_end ?_
      refine e_fresh z39.put.put.put.put ?_
      intro a42 z42 m42
      have s8_42 := m42 _ _ ((((s8_39.ne rfl).ne rfl).ne rfl).ne rfl)
      have s9_42 := m42 _ _ ((((s9_39.ne rfl).ne rfl).ne rfl).ne rfl)
      have s10_42 := m42 _ _ ((((s10_39.ne rfl).ne rfl).ne rfl).ne rfl)
      have s16_42 := m42 _ _ ((((s16_39.ne rfl).ne rfl).ne rfl).ne rfl)
      have s17_42 := m42 _ _ ((((s17_39.ne rfl).ne rfl).ne rfl).ne rfl)
      have s19_42 := m42 _ _ ((((s19_39.ne rfl).ne rfl).ne rfl).ne rfl)
      have s20_42 := m42 _ _ (At.hit z39.put.put.put rfl)
      have s54_42 := m42 _ _ ((((s54_39.ne rfl).ne rfl).ne rfl).ne rfl)
      have s55_42 := m42 _ _ ((((s55_39.ne rfl).ne rfl).ne rfl).ne rfl)
      have s56_42 := m42 _ _ ((((s56_39.ne rfl).ne rfl).ne rfl).ne rfl)
      have low42 := ((low37.trans h40).upd u41 geg20)
      clear m42
      refine e_then ?_
      refine c_seq ?_
      refine wp_block ?_
      refine c_seq ?_
      by_cases hb43 : findL lo ((pathsT lb lo lt).getD k ByteArray.empty) = findL lt ((pathsT lb lo lt).getD k ByteArray.empty)
      · skip
        refine c_region ?_
        refine l_q rfl (q_move _ _ rfl s9_42.ev ?_)
        refine l_q rfl (q_move _ _ rfl (s19_42.ne rfl).ev ?_)
        refine l_q rfl (q_look (.agg (#[.string ((findL lo ((pathsT lb lo lt).getD k ByteArray.empty)).f0), .int .i64 ((findL lo ((pathsT lb lo lt).getD k ByteArray.empty)).f1), .string ((findL lo ((pathsT lb lo lt).getD k ByteArray.empty)).f2)])) rfl Tryd.underlying39 Tryd.underlying9 zero34 ((At.hit z42 rfl).ne rfl).ev (At.hit z42.put rfl).ev (fun _ e => by rw [e]; exact kmlo_41) (look_mapL lo ((pathsT lb lo lt).getD k ByteArray.empty)) ?_)
        refine l_q rfl (q_move _ _ rfl (((s10_42.ne rfl).ne rfl).ne rfl).ev ?_)
        refine l_q rfl (q_move _ _ rfl ((((s19_42.ne rfl).ne rfl).ne rfl).ne rfl).ev ?_)
        refine l_q rfl (q_look (.agg (#[.string ((findL lt ((pathsT lb lo lt).getD k ByteArray.empty)).f0), .int .i64 ((findL lt ((pathsT lb lo lt).getD k ByteArray.empty)).f1), .string ((findL lt ((pathsT lb lo lt).getD k ByteArray.empty)).f2)])) rfl Tryd.underlying39 Tryd.underlying9 zero34 ((At.hit z42.put.put.put rfl).ne rfl).ev (At.hit z42.put.put.put.put rfl).ev (fun _ e => by rw [e]; exact kmlt_41) (look_mapL lt ((pathsT lb lo lt).getD k ByteArray.empty)) ?_)
        refine l_q rfl (q_eq3 true rfl guard34 ((((At.hit z42.put.put rfl).ne rfl).ne rfl).ne rfl).ev (At.hit z42.put.put.put.put.put rfl).ev (eq34 9998 ((findL lo ((pathsT lb lo lt).getD k ByteArray.empty)).f0) ((findL lo ((pathsT lb lo lt).getD k ByteArray.empty)).f1) ((findL lo ((pathsT lb lo lt).getD k ByteArray.empty)).f2) ((findL lt ((pathsT lb lo lt).getD k ByteArray.empty)).f0) ((findL lt ((pathsT lb lo lt).getD k ByteArray.empty)).f1) ((findL lt ((pathsT lb lo lt).getD k ByteArray.empty)).f2)) (eqL_true hb43) ?_)
        refine l_q rfl (q_move _ _ rfl (At.hit z42.put.put.put.put.put.put rfl).ev ?_)
        refine l_fresh z42.put.put.put.put.put.put.put.put ?_
        intro a44 z44 m44
        have s8_44 := m44 _ _ ((((((((s8_42.ne rfl).ne rfl).ne rfl).ne rfl).ne rfl).ne rfl).ne rfl).ne rfl)
        have s9_44 := m44 _ _ ((((((((s9_42.ne rfl).ne rfl).ne rfl).ne rfl).ne rfl).ne rfl).ne rfl).ne rfl)
        have s10_44 := m44 _ _ ((((((((s10_42.ne rfl).ne rfl).ne rfl).ne rfl).ne rfl).ne rfl).ne rfl).ne rfl)
        have s16_44 := m44 _ _ ((((((((s16_42.ne rfl).ne rfl).ne rfl).ne rfl).ne rfl).ne rfl).ne rfl).ne rfl)
        have s17_44 := m44 _ _ ((((((((s17_42.ne rfl).ne rfl).ne rfl).ne rfl).ne rfl).ne rfl).ne rfl).ne rfl)
        have s19_44 := m44 _ _ ((((((((s19_42.ne rfl).ne rfl).ne rfl).ne rfl).ne rfl).ne rfl).ne rfl).ne rfl)
        have s20_44 := m44 _ _ ((((((((s20_42.ne rfl).ne rfl).ne rfl).ne rfl).ne rfl).ne rfl).ne rfl).ne rfl)
        have s54_44 := m44 _ _ ((((((((s54_42.ne rfl).ne rfl).ne rfl).ne rfl).ne rfl).ne rfl).ne rfl).ne rfl)
        have s55_44 := m44 _ _ ((((((((s55_42.ne rfl).ne rfl).ne rfl).ne rfl).ne rfl).ne rfl).ne rfl).ne rfl)
        have s56_44 := m44 _ _ ((((((((s56_42.ne rfl).ne rfl).ne rfl).ne rfl).ne rfl).ne rfl).ne rfl).ne rfl)
        have s75_44 := m44 _ _ (At.hit z42.put.put.put.put.put.put.put rfl)
        clear m44
        refine l_skip (wanted_is (j := 7) (d := 75) (b := true) rfl rfl s75_44 rfl) ?_
        refine l_skip (wanted_is (j := 7) (d := 75) (b := true) rfl rfl (s75_44.ne rfl) rfl) ?_
        refine l_skip (wanted_is (j := 7) (d := 75) (b := true) rfl rfl ((s75_44.ne rfl).ne rfl) rfl) ?_
        refine l_skip (wanted_is (j := 7) (d := 75) (b := true) rfl rfl (((s75_44.ne rfl).ne rfl).ne rfl) rfl) ?_
        refine l_skip (wanted_is (j := 7) (d := 75) (b := true) rfl rfl ((((s75_44.ne rfl).ne rfl).ne rfl).ne rfl) rfl) ?_
        refine l_skip (wanted_is (j := 7) (d := 75) (b := true) rfl rfl (((((s75_44.ne rfl).ne rfl).ne rfl).ne rfl).ne rfl) rfl) ?_
        refine l_skip (wanted_is (j := 7) (d := 75) (b := true) rfl rfl ((((((s75_44.ne rfl).ne rfl).ne rfl).ne rfl).ne rfl).ne rfl) rfl) ?_
        refine l_q rfl (q_pick (b := true) (.bool true) rfl (((((((s75_44.ne rfl).ne rfl).ne rfl).ne rfl).ne rfl).ne rfl).ne rfl).ev rfl ?_)
        refine l_fresh z44.put.put.put.put.put.put.put.put ?_
        intro a45 z45 m45
        have s8_45 := m45 _ _ ((((((((s8_44.ne rfl).ne rfl).ne rfl).ne rfl).ne rfl).ne rfl).ne rfl).ne rfl)
        have s9_45 := m45 _ _ ((((((((s9_44.ne rfl).ne rfl).ne rfl).ne rfl).ne rfl).ne rfl).ne rfl).ne rfl)
        have s10_45 := m45 _ _ ((((((((s10_44.ne rfl).ne rfl).ne rfl).ne rfl).ne rfl).ne rfl).ne rfl).ne rfl)
        have s16_45 := m45 _ _ ((((((((s16_44.ne rfl).ne rfl).ne rfl).ne rfl).ne rfl).ne rfl).ne rfl).ne rfl)
        have s17_45 := m45 _ _ ((((((((s17_44.ne rfl).ne rfl).ne rfl).ne rfl).ne rfl).ne rfl).ne rfl).ne rfl)
        have s19_45 := m45 _ _ ((((((((s19_44.ne rfl).ne rfl).ne rfl).ne rfl).ne rfl).ne rfl).ne rfl).ne rfl)
        have s20_45 := m45 _ _ ((((((((s20_44.ne rfl).ne rfl).ne rfl).ne rfl).ne rfl).ne rfl).ne rfl).ne rfl)
        have s54_45 := m45 _ _ ((((((((s54_44.ne rfl).ne rfl).ne rfl).ne rfl).ne rfl).ne rfl).ne rfl).ne rfl)
        have s55_45 := m45 _ _ ((((((((s55_44.ne rfl).ne rfl).ne rfl).ne rfl).ne rfl).ne rfl).ne rfl).ne rfl)
        have s56_45 := m45 _ _ ((((((((s56_44.ne rfl).ne rfl).ne rfl).ne rfl).ne rfl).ne rfl).ne rfl).ne rfl)
        have s83_45 := m45 _ _ (At.hit z44.put.put.put.put.put.put.put rfl)
        clear m45
        refine l_q rfl (q_assign _ _ rfl s83_45.ev ?_)
        refine l_end ?_
        refine e_fresh z45.put ?_
        intro a46 z46 m46
        have s8_46 := m46 _ _ (s8_45.ne rfl)
        have s9_46 := m46 _ _ (s9_45.ne rfl)
        have s10_46 := m46 _ _ (s10_45.ne rfl)
        have s16_46 := m46 _ _ (s16_45.ne rfl)
        have s17_46 := m46 _ _ (s17_45.ne rfl)
        have s19_46 := m46 _ _ (s19_45.ne rfl)
        have s20_46 := m46 _ _ (s20_45.ne rfl)
        have s54_46 := m46 _ _ (s54_45.ne rfl)
        have s55_46 := m46 _ _ (s55_45.ne rfl)
        have s56_46 := m46 _ _ (s56_45.ne rfl)
        have s67_46 := m46 _ _ (At.hit z45 rfl)
        clear m46
        refine e_then ?_
        refine c_true s67_46 ?_
        refine wp_skip ?_
        refine e_in ?_
        refine e_then ?_
        refine c_seq ?_
        by_cases hb47 : ¬ findL lo ((pathsT lb lo lt).getD k ByteArray.empty) = zL
        · skip
          refine c_region ?_
          refine l_q rfl (q_row rfl Tryd.underlying34 rfl (sz34.trans (congrArg some rfl.symm)) s20_46.ev (fun _ e => by rw [e]; exact k41) ?_)
          refine l_q rfl (q_build (cs := #[.string zL.f0, .int .i64 zL.f1, .string zL.f2]) rfl rfl (by kernel_rfl) ?_)
          refine l_q rfl (q_ne3 true rfl guard34 ((At.hit z46 rfl).ne rfl).ev (At.hit z46.put rfl).ev (eq34 9998 ((findL lo ((pathsT lb lo lt).getD k ByteArray.empty)).f0) ((findL lo ((pathsT lb lo lt).getD k ByteArray.empty)).f1) ((findL lo ((pathsT lb lo lt).getD k ByteArray.empty)).f2) zL.f0 zL.f1 zL.f2) (neL_true hb47) ?_)
          refine l_end ?_
          refine e_fresh z46.put.put.put ?_
          intro a48 z48 m48
          have s8_48 := m48 _ _ (((s8_46.ne rfl).ne rfl).ne rfl)
          have s9_48 := m48 _ _ (((s9_46.ne rfl).ne rfl).ne rfl)
          have s10_48 := m48 _ _ (((s10_46.ne rfl).ne rfl).ne rfl)
          have s16_48 := m48 _ _ (((s16_46.ne rfl).ne rfl).ne rfl)
          have s17_48 := m48 _ _ (((s17_46.ne rfl).ne rfl).ne rfl)
          have s20_48 := m48 _ _ (((s20_46.ne rfl).ne rfl).ne rfl)
          have s54_48 := m48 _ _ (((s54_46.ne rfl).ne rfl).ne rfl)
          have s55_48 := m48 _ _ (((s55_46.ne rfl).ne rfl).ne rfl)
          have s56_48 := m48 _ _ (((s56_46.ne rfl).ne rfl).ne rfl)
          have s97_48 := m48 _ _ (At.hit z46.put.put rfl)
          clear m48
          refine e_then ?_
          refine c_true s97_48 ?_
          refine c_region ?_
          refine l_q rfl (q_move _ _ rfl s16_48.ev ?_)
          refine l_q rfl (q_row rfl Tryd.underlying34 rfl (sz34.trans (congrArg some rfl.symm)) (s20_48.ne rfl).ev (fun _ e => by rw [e]; exact k41) ?_)
          refine l_buildF (vs := [.string ((findL lo ((pathsT lb lo lt).getD k ByteArray.empty)).f0), .int .i64 ((findL lo ((pathsT lb lo lt).getD k ByteArray.empty)).f1), .string ((findL lo ((pathsT lb lo lt).getD k ByteArray.empty)).f2)]) rfl rfl Tryd.underlying22 rec34 (At.hit z48.put rfl).ev rfl rfl (by decide) (by decide) ?_
          intro g100_49 w49 hg49 k49 h49
          have onx16_g100_49 : ∀ k, Value.ownBlock v16_37 = some k → k < g100_49 := fun k hk => Nat.lt_of_lt_of_le (OwnF.own_lt ox16_41 hk) hg49
          have lt_g20_g100_49 := Nat.lt_of_lt_of_le (heap_lt k41) hg49
          have nmlb_g100_49 := Nat.ne_of_lt (Nat.lt_of_lt_of_le kmlb_41.lt hg49)
          have nmlo_g100_49 := Nat.ne_of_lt (Nat.lt_of_lt_of_le kmlo_41.lt hg49)
          have nmlt_g100_49 := Nat.ne_of_lt (Nat.lt_of_lt_of_le kmlt_41.lt hg49)
          have geg100_49 := Nat.le_trans low42.ge hg49
          have kmlb_49 := kmlb_41.low h49
          have kmlo_49 := kmlo_41.low h49
          have kmlt_49 := kmlt_41.low h49
          have kg20_49 := h49.blk k41
          have ox16_49 := ox16_41.low h49
          have ox17_49 := ox17_41.low h49
          have ob35_49 := (o35.low ((low37.trans h40).upd u41 geg20)).low h49
          refine l_appF (B := w35.heap.size) rfl rfl Tryd.underlying22 rec34 (((At.hit z48 rfl).ne rfl).ne rfl).ev (At.hit z48.put.put rfl).ev k49 rfl (by decide) rfl ox16_49 (low42.trans h49).ge (by omega) ?_
          intro v50 w50 o50 gr50
          have kmlb_50 := kmlb_49.grw gr50
          have kmlo_50 := kmlo_49.grw gr50
          have kmlt_50 := kmlt_49.grw gr50
          have kg20_50 := gr50.blkn kg20_49 onx16_g20
          have lw50 := (low42.trans h49).grw gr50
          have ox17_50 := ox17_49.grw gr50 rfl
          replace o50 := o50.cast (show _ = ((outT lb lo lt ((pathsT lb lo lt).take k)) ++ [(findL lo ((pathsT lb lo lt).getD k ByteArray.empty))]).length by rw [List.length_append]; rfl) (flat_snoc (enc := encL) (outT lb lo lt ((pathsT lb lo lt).take k)) (findL lo ((pathsT lb lo lt).getD k ByteArray.empty)))
          refine l_q rfl (q_assign _ _ rfl (At.hit z48.put.put.put rfl).ev ?_)
          refine l_end ?_
          refine e_fresh z48.put.put.put.put.put ?_
          intro a51 z51 m51
          have s8_51 := m51 _ _ (((((s8_48.ne rfl).ne rfl).ne rfl).ne rfl).ne rfl)
          have s9_51 := m51 _ _ (((((s9_48.ne rfl).ne rfl).ne rfl).ne rfl).ne rfl)
          have s10_51 := m51 _ _ (((((s10_48.ne rfl).ne rfl).ne rfl).ne rfl).ne rfl)
          have s16_51 := m51 _ _ (At.hit z48.put.put.put.put rfl)
          have s17_51 := m51 _ _ (((((s17_48.ne rfl).ne rfl).ne rfl).ne rfl).ne rfl)
          have s54_51 := m51 _ _ (((((s54_48.ne rfl).ne rfl).ne rfl).ne rfl).ne rfl)
          have s55_51 := m51 _ _ (((((s55_48.ne rfl).ne rfl).ne rfl).ne rfl).ne rfl)
          have s56_51 := m51 _ _ (((((s56_48.ne rfl).ne rfl).ne rfl).ne rfl).ne rfl)
          have low51 := lw50
          clear m51
          refine e_in ?_
          refine e_then ?_
          refine c_region ?_
          refine l_q rfl (q_add (((k + 1 : Nat) : Int)) rfl s56_51.ev rfl (i64_is (by omega) (by omega) (by omega)) ?_)
          refine l_q rfl (q_move _ _ rfl (At.hit z51 rfl).ev ?_)
          refine l_end ?_
          refine e_fresh z51.put.put ?_
          intro a52 z52 m52
          have s8_52 := m52 _ _ ((s8_51.ne rfl).ne rfl)
          have s9_52 := m52 _ _ ((s9_51.ne rfl).ne rfl)
          have s10_52 := m52 _ _ ((s10_51.ne rfl).ne rfl)
          have s16_52 := m52 _ _ ((s16_51.ne rfl).ne rfl)
          have s17_52 := m52 _ _ ((s17_51.ne rfl).ne rfl)
          have s54_52 := m52 _ _ ((s54_51.ne rfl).ne rfl)
          have s55_52 := m52 _ _ ((s55_51.ne rfl).ne rfl)
          have s56_52 := m52 _ _ (At.hit z51.put rfl)
          clear m52
          have c53 := OwnF.castL o50 (show (outT lb lo lt ((pathsT lb lo lt).take k)) ++ [(findL lo ((pathsT lb lo lt).getD k ByteArray.empty))] = outT lb lo lt ((pathsT lb lo lt).take (k + 1)) from out_next (by omega) (cell_1 hb43) hb47)
          have c54 := OwnF.castL ox17_50 (show badT lb lo lt ((pathsT lb lo lt).take k) = badT lb lo lt ((pathsT lb lo lt).take (k + 1)) from bad_skip (by omega) (clash_1 hb43))
          exact ⟨v50, v17_37, z52, s8_52, s9_52, s10_52, s16_52, s17_52, s54_52, s55_52, s56_52, kmlb_50, kmlo_50, kmlt_50, c53, c54, low51⟩
        · skip
          refine c_region ?_
          refine l_q rfl (q_row rfl Tryd.underlying34 rfl (sz34.trans (congrArg some rfl.symm)) s20_46.ev (fun _ e => by rw [e]; exact k41) ?_)
          refine l_q rfl (q_build (cs := #[.string zL.f0, .int .i64 zL.f1, .string zL.f2]) rfl rfl (by kernel_rfl) ?_)
          refine l_q rfl (q_ne3 false rfl guard34 ((At.hit z46 rfl).ne rfl).ev (At.hit z46.put rfl).ev (eq34 9998 ((findL lo ((pathsT lb lo lt).getD k ByteArray.empty)).f0) ((findL lo ((pathsT lb lo lt).getD k ByteArray.empty)).f1) ((findL lo ((pathsT lb lo lt).getD k ByteArray.empty)).f2) zL.f0 zL.f1 zL.f2) (neL_false (Decidable.not_not.1 hb47)) ?_)
          refine l_end ?_
          refine e_fresh z46.put.put.put ?_
          intro a55 z55 m55
          have s8_55 := m55 _ _ (((s8_46.ne rfl).ne rfl).ne rfl)
          have s9_55 := m55 _ _ (((s9_46.ne rfl).ne rfl).ne rfl)
          have s10_55 := m55 _ _ (((s10_46.ne rfl).ne rfl).ne rfl)
          have s16_55 := m55 _ _ (((s16_46.ne rfl).ne rfl).ne rfl)
          have s17_55 := m55 _ _ (((s17_46.ne rfl).ne rfl).ne rfl)
          have s20_55 := m55 _ _ (((s20_46.ne rfl).ne rfl).ne rfl)
          have s54_55 := m55 _ _ (((s54_46.ne rfl).ne rfl).ne rfl)
          have s55_55 := m55 _ _ (((s55_46.ne rfl).ne rfl).ne rfl)
          have s56_55 := m55 _ _ (((s56_46.ne rfl).ne rfl).ne rfl)
          have s97_55 := m55 _ _ (At.hit z46.put.put rfl)
          clear m55
          refine e_then ?_
          refine c_false s97_55 ?_
          refine wp_skip ?_
          refine e_in ?_
          refine e_then ?_
          refine c_region ?_
          refine l_q rfl (q_add (((k + 1 : Nat) : Int)) rfl s56_55.ev rfl (i64_is (by omega) (by omega) (by omega)) ?_)
          refine l_q rfl (q_move _ _ rfl (At.hit z55 rfl).ev ?_)
          refine l_end ?_
          refine e_fresh z55.put.put ?_
          intro a56 z56 m56
          have s8_56 := m56 _ _ ((s8_55.ne rfl).ne rfl)
          have s9_56 := m56 _ _ ((s9_55.ne rfl).ne rfl)
          have s10_56 := m56 _ _ ((s10_55.ne rfl).ne rfl)
          have s16_56 := m56 _ _ ((s16_55.ne rfl).ne rfl)
          have s17_56 := m56 _ _ ((s17_55.ne rfl).ne rfl)
          have s54_56 := m56 _ _ ((s54_55.ne rfl).ne rfl)
          have s55_56 := m56 _ _ ((s55_55.ne rfl).ne rfl)
          have s56_56 := m56 _ _ (At.hit z55.put rfl)
          clear m56
          have c57 := OwnF.castL ox16_41 (show outT lb lo lt ((pathsT lb lo lt).take k) = outT lb lo lt ((pathsT lb lo lt).take (k + 1)) from out_skip (by omega) (cell_1 hb43) hb47)
          have c58 := OwnF.castL ox17_41 (show badT lb lo lt ((pathsT lb lo lt).take k) = badT lb lo lt ((pathsT lb lo lt).take (k + 1)) from bad_skip (by omega) (clash_1 hb43))
          exact ⟨v16_37, v17_37, z56, s8_56, s9_56, s10_56, s16_56, s17_56, s54_56, s55_56, s56_56, kmlb_41, kmlo_41, kmlt_41, c57, c58, low42⟩
      · skip
        by_cases hb59 : findL lt ((pathsT lb lo lt).getD k ByteArray.empty) = findL lb ((pathsT lb lo lt).getD k ByteArray.empty)
        · skip
          refine c_region ?_
          refine l_q rfl (q_move _ _ rfl s9_42.ev ?_)
          refine l_q rfl (q_move _ _ rfl (s19_42.ne rfl).ev ?_)
          refine l_q rfl (q_look (.agg (#[.string ((findL lo ((pathsT lb lo lt).getD k ByteArray.empty)).f0), .int .i64 ((findL lo ((pathsT lb lo lt).getD k ByteArray.empty)).f1), .string ((findL lo ((pathsT lb lo lt).getD k ByteArray.empty)).f2)])) rfl Tryd.underlying39 Tryd.underlying9 zero34 ((At.hit z42 rfl).ne rfl).ev (At.hit z42.put rfl).ev (fun _ e => by rw [e]; exact kmlo_41) (look_mapL lo ((pathsT lb lo lt).getD k ByteArray.empty)) ?_)
          refine l_q rfl (q_move _ _ rfl (((s10_42.ne rfl).ne rfl).ne rfl).ev ?_)
          refine l_q rfl (q_move _ _ rfl ((((s19_42.ne rfl).ne rfl).ne rfl).ne rfl).ev ?_)
          refine l_q rfl (q_look (.agg (#[.string ((findL lt ((pathsT lb lo lt).getD k ByteArray.empty)).f0), .int .i64 ((findL lt ((pathsT lb lo lt).getD k ByteArray.empty)).f1), .string ((findL lt ((pathsT lb lo lt).getD k ByteArray.empty)).f2)])) rfl Tryd.underlying39 Tryd.underlying9 zero34 ((At.hit z42.put.put.put rfl).ne rfl).ev (At.hit z42.put.put.put.put rfl).ev (fun _ e => by rw [e]; exact kmlt_41) (look_mapL lt ((pathsT lb lo lt).getD k ByteArray.empty)) ?_)
          refine l_q rfl (q_eq3 false rfl guard34 ((((At.hit z42.put.put rfl).ne rfl).ne rfl).ne rfl).ev (At.hit z42.put.put.put.put.put rfl).ev (eq34 9998 ((findL lo ((pathsT lb lo lt).getD k ByteArray.empty)).f0) ((findL lo ((pathsT lb lo lt).getD k ByteArray.empty)).f1) ((findL lo ((pathsT lb lo lt).getD k ByteArray.empty)).f2) ((findL lt ((pathsT lb lo lt).getD k ByteArray.empty)).f0) ((findL lt ((pathsT lb lo lt).getD k ByteArray.empty)).f1) ((findL lt ((pathsT lb lo lt).getD k ByteArray.empty)).f2)) (eqL_false hb43) ?_)
          refine l_q rfl (q_move _ _ rfl (At.hit z42.put.put.put.put.put.put rfl).ev ?_)
          refine l_fresh z42.put.put.put.put.put.put.put.put ?_
          intro a60 z60 m60
          have s8_60 := m60 _ _ ((((((((s8_42.ne rfl).ne rfl).ne rfl).ne rfl).ne rfl).ne rfl).ne rfl).ne rfl)
          have s9_60 := m60 _ _ ((((((((s9_42.ne rfl).ne rfl).ne rfl).ne rfl).ne rfl).ne rfl).ne rfl).ne rfl)
          have s10_60 := m60 _ _ ((((((((s10_42.ne rfl).ne rfl).ne rfl).ne rfl).ne rfl).ne rfl).ne rfl).ne rfl)
          have s16_60 := m60 _ _ ((((((((s16_42.ne rfl).ne rfl).ne rfl).ne rfl).ne rfl).ne rfl).ne rfl).ne rfl)
          have s17_60 := m60 _ _ ((((((((s17_42.ne rfl).ne rfl).ne rfl).ne rfl).ne rfl).ne rfl).ne rfl).ne rfl)
          have s19_60 := m60 _ _ ((((((((s19_42.ne rfl).ne rfl).ne rfl).ne rfl).ne rfl).ne rfl).ne rfl).ne rfl)
          have s20_60 := m60 _ _ ((((((((s20_42.ne rfl).ne rfl).ne rfl).ne rfl).ne rfl).ne rfl).ne rfl).ne rfl)
          have s54_60 := m60 _ _ ((((((((s54_42.ne rfl).ne rfl).ne rfl).ne rfl).ne rfl).ne rfl).ne rfl).ne rfl)
          have s55_60 := m60 _ _ ((((((((s55_42.ne rfl).ne rfl).ne rfl).ne rfl).ne rfl).ne rfl).ne rfl).ne rfl)
          have s56_60 := m60 _ _ ((((((((s56_42.ne rfl).ne rfl).ne rfl).ne rfl).ne rfl).ne rfl).ne rfl).ne rfl)
          have s75_60 := m60 _ _ (At.hit z42.put.put.put.put.put.put.put rfl)
          clear m60
          refine l_qg (wanted_is (j := 7) (d := 75) (b := false) rfl rfl s75_60 rfl) (q_move _ _ rfl s10_60.ev ?_)
          refine l_qg (wanted_is (j := 7) (d := 75) (b := false) rfl rfl (s75_60.ne rfl) rfl) (q_move _ _ rfl (s19_60.ne rfl).ev ?_)
          refine l_qg (wanted_is (j := 7) (d := 75) (b := false) rfl rfl ((s75_60.ne rfl).ne rfl) rfl) (q_look (.agg (#[.string ((findL lt ((pathsT lb lo lt).getD k ByteArray.empty)).f0), .int .i64 ((findL lt ((pathsT lb lo lt).getD k ByteArray.empty)).f1), .string ((findL lt ((pathsT lb lo lt).getD k ByteArray.empty)).f2)])) rfl Tryd.underlying39 Tryd.underlying9 zero34 ((At.hit z60 rfl).ne rfl).ev (At.hit z60.put rfl).ev (fun _ e => by rw [e]; exact kmlt_41) (look_mapL lt ((pathsT lb lo lt).getD k ByteArray.empty)) ?_)
          refine l_qg (wanted_is (j := 7) (d := 75) (b := false) rfl rfl (((s75_60.ne rfl).ne rfl).ne rfl) rfl) (q_move _ _ rfl (((s8_60.ne rfl).ne rfl).ne rfl).ev ?_)
          refine l_qg (wanted_is (j := 7) (d := 75) (b := false) rfl rfl ((((s75_60.ne rfl).ne rfl).ne rfl).ne rfl) rfl) (q_move _ _ rfl ((((s19_60.ne rfl).ne rfl).ne rfl).ne rfl).ev ?_)
          refine l_qg (wanted_is (j := 7) (d := 75) (b := false) rfl rfl (((((s75_60.ne rfl).ne rfl).ne rfl).ne rfl).ne rfl) rfl) (q_look (.agg (#[.string ((findL lb ((pathsT lb lo lt).getD k ByteArray.empty)).f0), .int .i64 ((findL lb ((pathsT lb lo lt).getD k ByteArray.empty)).f1), .string ((findL lb ((pathsT lb lo lt).getD k ByteArray.empty)).f2)])) rfl Tryd.underlying39 Tryd.underlying9 zero34 ((At.hit z60.put.put.put rfl).ne rfl).ev (At.hit z60.put.put.put.put rfl).ev (fun _ e => by rw [e]; exact kmlb_41) (look_mapL lb ((pathsT lb lo lt).getD k ByteArray.empty)) ?_)
          refine l_qg (wanted_is (j := 7) (d := 75) (b := false) rfl rfl ((((((s75_60.ne rfl).ne rfl).ne rfl).ne rfl).ne rfl).ne rfl) rfl) (q_eq3 true rfl guard34 ((((At.hit z60.put.put rfl).ne rfl).ne rfl).ne rfl).ev (At.hit z60.put.put.put.put.put rfl).ev (eq34 9998 ((findL lt ((pathsT lb lo lt).getD k ByteArray.empty)).f0) ((findL lt ((pathsT lb lo lt).getD k ByteArray.empty)).f1) ((findL lt ((pathsT lb lo lt).getD k ByteArray.empty)).f2) ((findL lb ((pathsT lb lo lt).getD k ByteArray.empty)).f0) ((findL lb ((pathsT lb lo lt).getD k ByteArray.empty)).f1) ((findL lb ((pathsT lb lo lt).getD k ByteArray.empty)).f2)) (eqL_true hb59) ?_)
          refine l_q rfl (q_pick (b := false) (.bool true) rfl (((((((s75_60.ne rfl).ne rfl).ne rfl).ne rfl).ne rfl).ne rfl).ne rfl).ev (At.hit z60.put.put.put.put.put.put rfl).ev ?_)
          refine l_fresh z60.put.put.put.put.put.put.put.put ?_
          intro a61 z61 m61
          have s8_61 := m61 _ _ ((((((((s8_60.ne rfl).ne rfl).ne rfl).ne rfl).ne rfl).ne rfl).ne rfl).ne rfl)
          have s9_61 := m61 _ _ ((((((((s9_60.ne rfl).ne rfl).ne rfl).ne rfl).ne rfl).ne rfl).ne rfl).ne rfl)
          have s10_61 := m61 _ _ ((((((((s10_60.ne rfl).ne rfl).ne rfl).ne rfl).ne rfl).ne rfl).ne rfl).ne rfl)
          have s16_61 := m61 _ _ ((((((((s16_60.ne rfl).ne rfl).ne rfl).ne rfl).ne rfl).ne rfl).ne rfl).ne rfl)
          have s17_61 := m61 _ _ ((((((((s17_60.ne rfl).ne rfl).ne rfl).ne rfl).ne rfl).ne rfl).ne rfl).ne rfl)
          have s19_61 := m61 _ _ ((((((((s19_60.ne rfl).ne rfl).ne rfl).ne rfl).ne rfl).ne rfl).ne rfl).ne rfl)
          have s20_61 := m61 _ _ ((((((((s20_60.ne rfl).ne rfl).ne rfl).ne rfl).ne rfl).ne rfl).ne rfl).ne rfl)
          have s54_61 := m61 _ _ ((((((((s54_60.ne rfl).ne rfl).ne rfl).ne rfl).ne rfl).ne rfl).ne rfl).ne rfl)
          have s55_61 := m61 _ _ ((((((((s55_60.ne rfl).ne rfl).ne rfl).ne rfl).ne rfl).ne rfl).ne rfl).ne rfl)
          have s56_61 := m61 _ _ ((((((((s56_60.ne rfl).ne rfl).ne rfl).ne rfl).ne rfl).ne rfl).ne rfl).ne rfl)
          have s83_61 := m61 _ _ (At.hit z60.put.put.put.put.put.put.put rfl)
          clear m61
          refine l_q rfl (q_assign _ _ rfl s83_61.ev ?_)
          refine l_end ?_
          refine e_fresh z61.put ?_
          intro a62 z62 m62
          have s8_62 := m62 _ _ (s8_61.ne rfl)
          have s9_62 := m62 _ _ (s9_61.ne rfl)
          have s10_62 := m62 _ _ (s10_61.ne rfl)
          have s16_62 := m62 _ _ (s16_61.ne rfl)
          have s17_62 := m62 _ _ (s17_61.ne rfl)
          have s19_62 := m62 _ _ (s19_61.ne rfl)
          have s20_62 := m62 _ _ (s20_61.ne rfl)
          have s54_62 := m62 _ _ (s54_61.ne rfl)
          have s55_62 := m62 _ _ (s55_61.ne rfl)
          have s56_62 := m62 _ _ (s56_61.ne rfl)
          have s67_62 := m62 _ _ (At.hit z61 rfl)
          clear m62
          refine e_then ?_
          refine c_true s67_62 ?_
          refine wp_skip ?_
          refine e_in ?_
          refine e_then ?_
          refine c_seq ?_
          by_cases hb63 : ¬ findL lo ((pathsT lb lo lt).getD k ByteArray.empty) = zL
          · skip
            refine c_region ?_
            refine l_q rfl (q_row rfl Tryd.underlying34 rfl (sz34.trans (congrArg some rfl.symm)) s20_62.ev (fun _ e => by rw [e]; exact k41) ?_)
            refine l_q rfl (q_build (cs := #[.string zL.f0, .int .i64 zL.f1, .string zL.f2]) rfl rfl (by kernel_rfl) ?_)
            refine l_q rfl (q_ne3 true rfl guard34 ((At.hit z62 rfl).ne rfl).ev (At.hit z62.put rfl).ev (eq34 9998 ((findL lo ((pathsT lb lo lt).getD k ByteArray.empty)).f0) ((findL lo ((pathsT lb lo lt).getD k ByteArray.empty)).f1) ((findL lo ((pathsT lb lo lt).getD k ByteArray.empty)).f2) zL.f0 zL.f1 zL.f2) (neL_true hb63) ?_)
            refine l_end ?_
            refine e_fresh z62.put.put.put ?_
            intro a64 z64 m64
            have s8_64 := m64 _ _ (((s8_62.ne rfl).ne rfl).ne rfl)
            have s9_64 := m64 _ _ (((s9_62.ne rfl).ne rfl).ne rfl)
            have s10_64 := m64 _ _ (((s10_62.ne rfl).ne rfl).ne rfl)
            have s16_64 := m64 _ _ (((s16_62.ne rfl).ne rfl).ne rfl)
            have s17_64 := m64 _ _ (((s17_62.ne rfl).ne rfl).ne rfl)
            have s20_64 := m64 _ _ (((s20_62.ne rfl).ne rfl).ne rfl)
            have s54_64 := m64 _ _ (((s54_62.ne rfl).ne rfl).ne rfl)
            have s55_64 := m64 _ _ (((s55_62.ne rfl).ne rfl).ne rfl)
            have s56_64 := m64 _ _ (((s56_62.ne rfl).ne rfl).ne rfl)
            have s97_64 := m64 _ _ (At.hit z62.put.put rfl)
            clear m64
            refine e_then ?_
            refine c_true s97_64 ?_
            refine c_region ?_
            refine l_q rfl (q_move _ _ rfl s16_64.ev ?_)
            refine l_q rfl (q_row rfl Tryd.underlying34 rfl (sz34.trans (congrArg some rfl.symm)) (s20_64.ne rfl).ev (fun _ e => by rw [e]; exact k41) ?_)
            refine l_buildF (vs := [.string ((findL lo ((pathsT lb lo lt).getD k ByteArray.empty)).f0), .int .i64 ((findL lo ((pathsT lb lo lt).getD k ByteArray.empty)).f1), .string ((findL lo ((pathsT lb lo lt).getD k ByteArray.empty)).f2)]) rfl rfl Tryd.underlying22 rec34 (At.hit z64.put rfl).ev rfl rfl (by decide) (by decide) ?_
            intro g100_65 w65 hg65 k65 h65
            have onx16_g100_65 : ∀ k, Value.ownBlock v16_37 = some k → k < g100_65 := fun k hk => Nat.lt_of_lt_of_le (OwnF.own_lt ox16_41 hk) hg65
            have lt_g20_g100_65 := Nat.lt_of_lt_of_le (heap_lt k41) hg65
            have nmlb_g100_65 := Nat.ne_of_lt (Nat.lt_of_lt_of_le kmlb_41.lt hg65)
            have nmlo_g100_65 := Nat.ne_of_lt (Nat.lt_of_lt_of_le kmlo_41.lt hg65)
            have nmlt_g100_65 := Nat.ne_of_lt (Nat.lt_of_lt_of_le kmlt_41.lt hg65)
            have geg100_65 := Nat.le_trans low42.ge hg65
            have kmlb_65 := kmlb_41.low h65
            have kmlo_65 := kmlo_41.low h65
            have kmlt_65 := kmlt_41.low h65
            have kg20_65 := h65.blk k41
            have ox16_65 := ox16_41.low h65
            have ox17_65 := ox17_41.low h65
            have ob35_65 := (o35.low ((low37.trans h40).upd u41 geg20)).low h65
            refine l_appF (B := w35.heap.size) rfl rfl Tryd.underlying22 rec34 (((At.hit z64 rfl).ne rfl).ne rfl).ev (At.hit z64.put.put rfl).ev k65 rfl (by decide) rfl ox16_65 (low42.trans h65).ge (by omega) ?_
            intro v66 w66 o66 gr66
            have kmlb_66 := kmlb_65.grw gr66
            have kmlo_66 := kmlo_65.grw gr66
            have kmlt_66 := kmlt_65.grw gr66
            have kg20_66 := gr66.blkn kg20_65 onx16_g20
            have lw66 := (low42.trans h65).grw gr66
            have ox17_66 := ox17_65.grw gr66 rfl
            replace o66 := o66.cast (show _ = ((outT lb lo lt ((pathsT lb lo lt).take k)) ++ [(findL lo ((pathsT lb lo lt).getD k ByteArray.empty))]).length by rw [List.length_append]; rfl) (flat_snoc (enc := encL) (outT lb lo lt ((pathsT lb lo lt).take k)) (findL lo ((pathsT lb lo lt).getD k ByteArray.empty)))
            refine l_q rfl (q_assign _ _ rfl (At.hit z64.put.put.put rfl).ev ?_)
            refine l_end ?_
            refine e_fresh z64.put.put.put.put.put ?_
            intro a67 z67 m67
            have s8_67 := m67 _ _ (((((s8_64.ne rfl).ne rfl).ne rfl).ne rfl).ne rfl)
            have s9_67 := m67 _ _ (((((s9_64.ne rfl).ne rfl).ne rfl).ne rfl).ne rfl)
            have s10_67 := m67 _ _ (((((s10_64.ne rfl).ne rfl).ne rfl).ne rfl).ne rfl)
            have s16_67 := m67 _ _ (At.hit z64.put.put.put.put rfl)
            have s17_67 := m67 _ _ (((((s17_64.ne rfl).ne rfl).ne rfl).ne rfl).ne rfl)
            have s54_67 := m67 _ _ (((((s54_64.ne rfl).ne rfl).ne rfl).ne rfl).ne rfl)
            have s55_67 := m67 _ _ (((((s55_64.ne rfl).ne rfl).ne rfl).ne rfl).ne rfl)
            have s56_67 := m67 _ _ (((((s56_64.ne rfl).ne rfl).ne rfl).ne rfl).ne rfl)
            have low67 := lw66
            clear m67
            refine e_in ?_
            refine e_then ?_
            refine c_region ?_
            refine l_q rfl (q_add (((k + 1 : Nat) : Int)) rfl s56_67.ev rfl (i64_is (by omega) (by omega) (by omega)) ?_)
            refine l_q rfl (q_move _ _ rfl (At.hit z67 rfl).ev ?_)
            refine l_end ?_
            refine e_fresh z67.put.put ?_
            intro a68 z68 m68
            have s8_68 := m68 _ _ ((s8_67.ne rfl).ne rfl)
            have s9_68 := m68 _ _ ((s9_67.ne rfl).ne rfl)
            have s10_68 := m68 _ _ ((s10_67.ne rfl).ne rfl)
            have s16_68 := m68 _ _ ((s16_67.ne rfl).ne rfl)
            have s17_68 := m68 _ _ ((s17_67.ne rfl).ne rfl)
            have s54_68 := m68 _ _ ((s54_67.ne rfl).ne rfl)
            have s55_68 := m68 _ _ ((s55_67.ne rfl).ne rfl)
            have s56_68 := m68 _ _ (At.hit z67.put rfl)
            clear m68
            have c69 := OwnF.castL o66 (show (outT lb lo lt ((pathsT lb lo lt).take k)) ++ [(findL lo ((pathsT lb lo lt).getD k ByteArray.empty))] = outT lb lo lt ((pathsT lb lo lt).take (k + 1)) from out_next (by omega) (cell_2 hb59) hb63)
            have c70 := OwnF.castL ox17_66 (show badT lb lo lt ((pathsT lb lo lt).take k) = badT lb lo lt ((pathsT lb lo lt).take (k + 1)) from bad_skip (by omega) (clash_2 hb59))
            exact ⟨v66, v17_37, z68, s8_68, s9_68, s10_68, s16_68, s17_68, s54_68, s55_68, s56_68, kmlb_66, kmlo_66, kmlt_66, c69, c70, low67⟩
          · skip
            refine c_region ?_
            refine l_q rfl (q_row rfl Tryd.underlying34 rfl (sz34.trans (congrArg some rfl.symm)) s20_62.ev (fun _ e => by rw [e]; exact k41) ?_)
            refine l_q rfl (q_build (cs := #[.string zL.f0, .int .i64 zL.f1, .string zL.f2]) rfl rfl (by kernel_rfl) ?_)
            refine l_q rfl (q_ne3 false rfl guard34 ((At.hit z62 rfl).ne rfl).ev (At.hit z62.put rfl).ev (eq34 9998 ((findL lo ((pathsT lb lo lt).getD k ByteArray.empty)).f0) ((findL lo ((pathsT lb lo lt).getD k ByteArray.empty)).f1) ((findL lo ((pathsT lb lo lt).getD k ByteArray.empty)).f2) zL.f0 zL.f1 zL.f2) (neL_false (Decidable.not_not.1 hb63)) ?_)
            refine l_end ?_
            refine e_fresh z62.put.put.put ?_
            intro a71 z71 m71
            have s8_71 := m71 _ _ (((s8_62.ne rfl).ne rfl).ne rfl)
            have s9_71 := m71 _ _ (((s9_62.ne rfl).ne rfl).ne rfl)
            have s10_71 := m71 _ _ (((s10_62.ne rfl).ne rfl).ne rfl)
            have s16_71 := m71 _ _ (((s16_62.ne rfl).ne rfl).ne rfl)
            have s17_71 := m71 _ _ (((s17_62.ne rfl).ne rfl).ne rfl)
            have s20_71 := m71 _ _ (((s20_62.ne rfl).ne rfl).ne rfl)
            have s54_71 := m71 _ _ (((s54_62.ne rfl).ne rfl).ne rfl)
            have s55_71 := m71 _ _ (((s55_62.ne rfl).ne rfl).ne rfl)
            have s56_71 := m71 _ _ (((s56_62.ne rfl).ne rfl).ne rfl)
            have s97_71 := m71 _ _ (At.hit z62.put.put rfl)
            clear m71
            refine e_then ?_
            refine c_false s97_71 ?_
            refine wp_skip ?_
            refine e_in ?_
            refine e_then ?_
            refine c_region ?_
            refine l_q rfl (q_add (((k + 1 : Nat) : Int)) rfl s56_71.ev rfl (i64_is (by omega) (by omega) (by omega)) ?_)
            refine l_q rfl (q_move _ _ rfl (At.hit z71 rfl).ev ?_)
            refine l_end ?_
            refine e_fresh z71.put.put ?_
            intro a72 z72 m72
            have s8_72 := m72 _ _ ((s8_71.ne rfl).ne rfl)
            have s9_72 := m72 _ _ ((s9_71.ne rfl).ne rfl)
            have s10_72 := m72 _ _ ((s10_71.ne rfl).ne rfl)
            have s16_72 := m72 _ _ ((s16_71.ne rfl).ne rfl)
            have s17_72 := m72 _ _ ((s17_71.ne rfl).ne rfl)
            have s54_72 := m72 _ _ ((s54_71.ne rfl).ne rfl)
            have s55_72 := m72 _ _ ((s55_71.ne rfl).ne rfl)
            have s56_72 := m72 _ _ (At.hit z71.put rfl)
            clear m72
            have c73 := OwnF.castL ox16_41 (show outT lb lo lt ((pathsT lb lo lt).take k) = outT lb lo lt ((pathsT lb lo lt).take (k + 1)) from out_skip (by omega) (cell_2 hb59) hb63)
            have c74 := OwnF.castL ox17_41 (show badT lb lo lt ((pathsT lb lo lt).take k) = badT lb lo lt ((pathsT lb lo lt).take (k + 1)) from bad_skip (by omega) (clash_2 hb59))
            exact ⟨v16_37, v17_37, z72, s8_72, s9_72, s10_72, s16_72, s17_72, s54_72, s55_72, s56_72, kmlb_41, kmlo_41, kmlt_41, c73, c74, low42⟩
        · skip
          refine c_region ?_
          refine l_q rfl (q_move _ _ rfl s9_42.ev ?_)
          refine l_q rfl (q_move _ _ rfl (s19_42.ne rfl).ev ?_)
          refine l_q rfl (q_look (.agg (#[.string ((findL lo ((pathsT lb lo lt).getD k ByteArray.empty)).f0), .int .i64 ((findL lo ((pathsT lb lo lt).getD k ByteArray.empty)).f1), .string ((findL lo ((pathsT lb lo lt).getD k ByteArray.empty)).f2)])) rfl Tryd.underlying39 Tryd.underlying9 zero34 ((At.hit z42 rfl).ne rfl).ev (At.hit z42.put rfl).ev (fun _ e => by rw [e]; exact kmlo_41) (look_mapL lo ((pathsT lb lo lt).getD k ByteArray.empty)) ?_)
          refine l_q rfl (q_move _ _ rfl (((s10_42.ne rfl).ne rfl).ne rfl).ev ?_)
          refine l_q rfl (q_move _ _ rfl ((((s19_42.ne rfl).ne rfl).ne rfl).ne rfl).ev ?_)
          refine l_q rfl (q_look (.agg (#[.string ((findL lt ((pathsT lb lo lt).getD k ByteArray.empty)).f0), .int .i64 ((findL lt ((pathsT lb lo lt).getD k ByteArray.empty)).f1), .string ((findL lt ((pathsT lb lo lt).getD k ByteArray.empty)).f2)])) rfl Tryd.underlying39 Tryd.underlying9 zero34 ((At.hit z42.put.put.put rfl).ne rfl).ev (At.hit z42.put.put.put.put rfl).ev (fun _ e => by rw [e]; exact kmlt_41) (look_mapL lt ((pathsT lb lo lt).getD k ByteArray.empty)) ?_)
          refine l_q rfl (q_eq3 false rfl guard34 ((((At.hit z42.put.put rfl).ne rfl).ne rfl).ne rfl).ev (At.hit z42.put.put.put.put.put rfl).ev (eq34 9998 ((findL lo ((pathsT lb lo lt).getD k ByteArray.empty)).f0) ((findL lo ((pathsT lb lo lt).getD k ByteArray.empty)).f1) ((findL lo ((pathsT lb lo lt).getD k ByteArray.empty)).f2) ((findL lt ((pathsT lb lo lt).getD k ByteArray.empty)).f0) ((findL lt ((pathsT lb lo lt).getD k ByteArray.empty)).f1) ((findL lt ((pathsT lb lo lt).getD k ByteArray.empty)).f2)) (eqL_false hb43) ?_)
          refine l_q rfl (q_move _ _ rfl (At.hit z42.put.put.put.put.put.put rfl).ev ?_)
          refine l_fresh z42.put.put.put.put.put.put.put.put ?_
          intro a75 z75 m75
          have s8_75 := m75 _ _ ((((((((s8_42.ne rfl).ne rfl).ne rfl).ne rfl).ne rfl).ne rfl).ne rfl).ne rfl)
          have s9_75 := m75 _ _ ((((((((s9_42.ne rfl).ne rfl).ne rfl).ne rfl).ne rfl).ne rfl).ne rfl).ne rfl)
          have s10_75 := m75 _ _ ((((((((s10_42.ne rfl).ne rfl).ne rfl).ne rfl).ne rfl).ne rfl).ne rfl).ne rfl)
          have s16_75 := m75 _ _ ((((((((s16_42.ne rfl).ne rfl).ne rfl).ne rfl).ne rfl).ne rfl).ne rfl).ne rfl)
          have s17_75 := m75 _ _ ((((((((s17_42.ne rfl).ne rfl).ne rfl).ne rfl).ne rfl).ne rfl).ne rfl).ne rfl)
          have s19_75 := m75 _ _ ((((((((s19_42.ne rfl).ne rfl).ne rfl).ne rfl).ne rfl).ne rfl).ne rfl).ne rfl)
          have s20_75 := m75 _ _ ((((((((s20_42.ne rfl).ne rfl).ne rfl).ne rfl).ne rfl).ne rfl).ne rfl).ne rfl)
          have s54_75 := m75 _ _ ((((((((s54_42.ne rfl).ne rfl).ne rfl).ne rfl).ne rfl).ne rfl).ne rfl).ne rfl)
          have s55_75 := m75 _ _ ((((((((s55_42.ne rfl).ne rfl).ne rfl).ne rfl).ne rfl).ne rfl).ne rfl).ne rfl)
          have s56_75 := m75 _ _ ((((((((s56_42.ne rfl).ne rfl).ne rfl).ne rfl).ne rfl).ne rfl).ne rfl).ne rfl)
          have s75_75 := m75 _ _ (At.hit z42.put.put.put.put.put.put.put rfl)
          clear m75
          refine l_qg (wanted_is (j := 7) (d := 75) (b := false) rfl rfl s75_75 rfl) (q_move _ _ rfl s10_75.ev ?_)
          refine l_qg (wanted_is (j := 7) (d := 75) (b := false) rfl rfl (s75_75.ne rfl) rfl) (q_move _ _ rfl (s19_75.ne rfl).ev ?_)
          refine l_qg (wanted_is (j := 7) (d := 75) (b := false) rfl rfl ((s75_75.ne rfl).ne rfl) rfl) (q_look (.agg (#[.string ((findL lt ((pathsT lb lo lt).getD k ByteArray.empty)).f0), .int .i64 ((findL lt ((pathsT lb lo lt).getD k ByteArray.empty)).f1), .string ((findL lt ((pathsT lb lo lt).getD k ByteArray.empty)).f2)])) rfl Tryd.underlying39 Tryd.underlying9 zero34 ((At.hit z75 rfl).ne rfl).ev (At.hit z75.put rfl).ev (fun _ e => by rw [e]; exact kmlt_41) (look_mapL lt ((pathsT lb lo lt).getD k ByteArray.empty)) ?_)
          refine l_qg (wanted_is (j := 7) (d := 75) (b := false) rfl rfl (((s75_75.ne rfl).ne rfl).ne rfl) rfl) (q_move _ _ rfl (((s8_75.ne rfl).ne rfl).ne rfl).ev ?_)
          refine l_qg (wanted_is (j := 7) (d := 75) (b := false) rfl rfl ((((s75_75.ne rfl).ne rfl).ne rfl).ne rfl) rfl) (q_move _ _ rfl ((((s19_75.ne rfl).ne rfl).ne rfl).ne rfl).ev ?_)
          refine l_qg (wanted_is (j := 7) (d := 75) (b := false) rfl rfl (((((s75_75.ne rfl).ne rfl).ne rfl).ne rfl).ne rfl) rfl) (q_look (.agg (#[.string ((findL lb ((pathsT lb lo lt).getD k ByteArray.empty)).f0), .int .i64 ((findL lb ((pathsT lb lo lt).getD k ByteArray.empty)).f1), .string ((findL lb ((pathsT lb lo lt).getD k ByteArray.empty)).f2)])) rfl Tryd.underlying39 Tryd.underlying9 zero34 ((At.hit z75.put.put.put rfl).ne rfl).ev (At.hit z75.put.put.put.put rfl).ev (fun _ e => by rw [e]; exact kmlb_41) (look_mapL lb ((pathsT lb lo lt).getD k ByteArray.empty)) ?_)
          refine l_qg (wanted_is (j := 7) (d := 75) (b := false) rfl rfl ((((((s75_75.ne rfl).ne rfl).ne rfl).ne rfl).ne rfl).ne rfl) rfl) (q_eq3 false rfl guard34 ((((At.hit z75.put.put rfl).ne rfl).ne rfl).ne rfl).ev (At.hit z75.put.put.put.put.put rfl).ev (eq34 9998 ((findL lt ((pathsT lb lo lt).getD k ByteArray.empty)).f0) ((findL lt ((pathsT lb lo lt).getD k ByteArray.empty)).f1) ((findL lt ((pathsT lb lo lt).getD k ByteArray.empty)).f2) ((findL lb ((pathsT lb lo lt).getD k ByteArray.empty)).f0) ((findL lb ((pathsT lb lo lt).getD k ByteArray.empty)).f1) ((findL lb ((pathsT lb lo lt).getD k ByteArray.empty)).f2)) (eqL_false hb59) ?_)
          refine l_q rfl (q_pick (b := false) (.bool false) rfl (((((((s75_75.ne rfl).ne rfl).ne rfl).ne rfl).ne rfl).ne rfl).ne rfl).ev (At.hit z75.put.put.put.put.put.put rfl).ev ?_)
          refine l_fresh z75.put.put.put.put.put.put.put.put ?_
          intro a76 z76 m76
          have s8_76 := m76 _ _ ((((((((s8_75.ne rfl).ne rfl).ne rfl).ne rfl).ne rfl).ne rfl).ne rfl).ne rfl)
          have s9_76 := m76 _ _ ((((((((s9_75.ne rfl).ne rfl).ne rfl).ne rfl).ne rfl).ne rfl).ne rfl).ne rfl)
          have s10_76 := m76 _ _ ((((((((s10_75.ne rfl).ne rfl).ne rfl).ne rfl).ne rfl).ne rfl).ne rfl).ne rfl)
          have s16_76 := m76 _ _ ((((((((s16_75.ne rfl).ne rfl).ne rfl).ne rfl).ne rfl).ne rfl).ne rfl).ne rfl)
          have s17_76 := m76 _ _ ((((((((s17_75.ne rfl).ne rfl).ne rfl).ne rfl).ne rfl).ne rfl).ne rfl).ne rfl)
          have s19_76 := m76 _ _ ((((((((s19_75.ne rfl).ne rfl).ne rfl).ne rfl).ne rfl).ne rfl).ne rfl).ne rfl)
          have s20_76 := m76 _ _ ((((((((s20_75.ne rfl).ne rfl).ne rfl).ne rfl).ne rfl).ne rfl).ne rfl).ne rfl)
          have s54_76 := m76 _ _ ((((((((s54_75.ne rfl).ne rfl).ne rfl).ne rfl).ne rfl).ne rfl).ne rfl).ne rfl)
          have s55_76 := m76 _ _ ((((((((s55_75.ne rfl).ne rfl).ne rfl).ne rfl).ne rfl).ne rfl).ne rfl).ne rfl)
          have s56_76 := m76 _ _ ((((((((s56_75.ne rfl).ne rfl).ne rfl).ne rfl).ne rfl).ne rfl).ne rfl).ne rfl)
          have s83_76 := m76 _ _ (At.hit z75.put.put.put.put.put.put.put rfl)
          clear m76
          refine l_q rfl (q_assign _ _ rfl s83_76.ev ?_)
          refine l_end ?_
          refine e_fresh z76.put ?_
          intro a77 z77 m77
          have s8_77 := m77 _ _ (s8_76.ne rfl)
          have s9_77 := m77 _ _ (s9_76.ne rfl)
          have s10_77 := m77 _ _ (s10_76.ne rfl)
          have s16_77 := m77 _ _ (s16_76.ne rfl)
          have s17_77 := m77 _ _ (s17_76.ne rfl)
          have s19_77 := m77 _ _ (s19_76.ne rfl)
          have s20_77 := m77 _ _ (s20_76.ne rfl)
          have s54_77 := m77 _ _ (s54_76.ne rfl)
          have s55_77 := m77 _ _ (s55_76.ne rfl)
          have s56_77 := m77 _ _ (s56_76.ne rfl)
          have s67_77 := m77 _ _ (At.hit z76 rfl)
          clear m77
          refine e_then ?_
          refine c_false s67_77 ?_
          refine c_seq ?_
          by_cases hb78 : findL lo ((pathsT lb lo lt).getD k ByteArray.empty) = findL lb ((pathsT lb lo lt).getD k ByteArray.empty)
          · skip
            refine c_region ?_
            refine l_q rfl (q_move _ _ rfl s9_77.ev ?_)
            refine l_q rfl (q_move _ _ rfl (s19_77.ne rfl).ev ?_)
            refine l_q rfl (q_look (.agg (#[.string ((findL lo ((pathsT lb lo lt).getD k ByteArray.empty)).f0), .int .i64 ((findL lo ((pathsT lb lo lt).getD k ByteArray.empty)).f1), .string ((findL lo ((pathsT lb lo lt).getD k ByteArray.empty)).f2)])) rfl Tryd.underlying39 Tryd.underlying9 zero34 ((At.hit z77 rfl).ne rfl).ev (At.hit z77.put rfl).ev (fun _ e => by rw [e]; exact kmlo_41) (look_mapL lo ((pathsT lb lo lt).getD k ByteArray.empty)) ?_)
            refine l_q rfl (q_move _ _ rfl (((s8_77.ne rfl).ne rfl).ne rfl).ev ?_)
            refine l_q rfl (q_move _ _ rfl ((((s19_77.ne rfl).ne rfl).ne rfl).ne rfl).ev ?_)
            refine l_q rfl (q_look (.agg (#[.string ((findL lb ((pathsT lb lo lt).getD k ByteArray.empty)).f0), .int .i64 ((findL lb ((pathsT lb lo lt).getD k ByteArray.empty)).f1), .string ((findL lb ((pathsT lb lo lt).getD k ByteArray.empty)).f2)])) rfl Tryd.underlying39 Tryd.underlying9 zero34 ((At.hit z77.put.put.put rfl).ne rfl).ev (At.hit z77.put.put.put.put rfl).ev (fun _ e => by rw [e]; exact kmlb_41) (look_mapL lb ((pathsT lb lo lt).getD k ByteArray.empty)) ?_)
            refine l_q rfl (q_eq3 true rfl guard34 ((((At.hit z77.put.put rfl).ne rfl).ne rfl).ne rfl).ev (At.hit z77.put.put.put.put.put rfl).ev (eq34 9998 ((findL lo ((pathsT lb lo lt).getD k ByteArray.empty)).f0) ((findL lo ((pathsT lb lo lt).getD k ByteArray.empty)).f1) ((findL lo ((pathsT lb lo lt).getD k ByteArray.empty)).f2) ((findL lb ((pathsT lb lo lt).getD k ByteArray.empty)).f0) ((findL lb ((pathsT lb lo lt).getD k ByteArray.empty)).f1) ((findL lb ((pathsT lb lo lt).getD k ByteArray.empty)).f2)) (eqL_true hb78) ?_)
            refine l_q rfl (q_assign _ _ rfl (At.hit z77.put.put.put.put.put.put rfl).ev ?_)
            refine l_end ?_
            refine e_fresh z77.put.put.put.put.put.put.put.put ?_
            intro a79 z79 m79
            have s8_79 := m79 _ _ ((((((((s8_77.ne rfl).ne rfl).ne rfl).ne rfl).ne rfl).ne rfl).ne rfl).ne rfl)
            have s9_79 := m79 _ _ ((((((((s9_77.ne rfl).ne rfl).ne rfl).ne rfl).ne rfl).ne rfl).ne rfl).ne rfl)
            have s10_79 := m79 _ _ ((((((((s10_77.ne rfl).ne rfl).ne rfl).ne rfl).ne rfl).ne rfl).ne rfl).ne rfl)
            have s16_79 := m79 _ _ ((((((((s16_77.ne rfl).ne rfl).ne rfl).ne rfl).ne rfl).ne rfl).ne rfl).ne rfl)
            have s17_79 := m79 _ _ ((((((((s17_77.ne rfl).ne rfl).ne rfl).ne rfl).ne rfl).ne rfl).ne rfl).ne rfl)
            have s19_79 := m79 _ _ ((((((((s19_77.ne rfl).ne rfl).ne rfl).ne rfl).ne rfl).ne rfl).ne rfl).ne rfl)
            have s20_79 := m79 _ _ ((((((((s20_77.ne rfl).ne rfl).ne rfl).ne rfl).ne rfl).ne rfl).ne rfl).ne rfl)
            have s54_79 := m79 _ _ ((((((((s54_77.ne rfl).ne rfl).ne rfl).ne rfl).ne rfl).ne rfl).ne rfl).ne rfl)
            have s55_79 := m79 _ _ ((((((((s55_77.ne rfl).ne rfl).ne rfl).ne rfl).ne rfl).ne rfl).ne rfl).ne rfl)
            have s56_79 := m79 _ _ ((((((((s56_77.ne rfl).ne rfl).ne rfl).ne rfl).ne rfl).ne rfl).ne rfl).ne rfl)
            have s84_79 := m79 _ _ (At.hit z77.put.put.put.put.put.put.put rfl)
            clear m79
            refine e_then ?_
            refine c_true s84_79 ?_
            refine c_region ?_
            refine l_q rfl (q_move _ _ rfl s10_79.ev ?_)
            refine l_q rfl (q_move _ _ rfl (s19_79.ne rfl).ev ?_)
            refine l_q rfl (q_look (.agg (#[.string ((findL lt ((pathsT lb lo lt).getD k ByteArray.empty)).f0), .int .i64 ((findL lt ((pathsT lb lo lt).getD k ByteArray.empty)).f1), .string ((findL lt ((pathsT lb lo lt).getD k ByteArray.empty)).f2)])) rfl Tryd.underlying39 Tryd.underlying9 zero34 ((At.hit z79 rfl).ne rfl).ev (At.hit z79.put rfl).ev (fun _ e => by rw [e]; exact kmlt_41) (look_mapL lt ((pathsT lb lo lt).getD k ByteArray.empty)) ?_)
            refine l_row rfl rfl rfl (sz34.trans (congrArg some rfl.symm)) (((s20_79.ne rfl).ne rfl).ne rfl).ev (At.hit z79.put.put rfl).ev (by simp [Value.oneCell']) k41 (rfl.trans rfl.symm) ?_
            intro w80 k80 u80
            have ox16_80 := ox16_41.updn u80 onx16_g20
            have ox17_80 := ox17_41.upd u80 k41 rfl
            have kmlb_80 := kmlb_41.upd u80 (by omega)
            have kmlo_80 := kmlo_41.upd u80 (by omega)
            have kmlt_80 := kmlt_41.upd u80 (by omega)
            refine l_end ?_
            refine e_fresh z79.put.put.put ?_
            intro a81 z81 m81
            have s8_81 := m81 _ _ (((s8_79.ne rfl).ne rfl).ne rfl)
            have s9_81 := m81 _ _ (((s9_79.ne rfl).ne rfl).ne rfl)
            have s10_81 := m81 _ _ (((s10_79.ne rfl).ne rfl).ne rfl)
            have s16_81 := m81 _ _ (((s16_79.ne rfl).ne rfl).ne rfl)
            have s17_81 := m81 _ _ (((s17_79.ne rfl).ne rfl).ne rfl)
            have s20_81 := m81 _ _ (((s20_79.ne rfl).ne rfl).ne rfl)
            have s54_81 := m81 _ _ (((s54_79.ne rfl).ne rfl).ne rfl)
            have s55_81 := m81 _ _ (((s55_79.ne rfl).ne rfl).ne rfl)
            have s56_81 := m81 _ _ (((s56_79.ne rfl).ne rfl).ne rfl)
            have low81 := (low42.upd u80 geg20)
            clear m81
            refine e_in ?_
            refine e_then ?_
            refine c_seq ?_
            by_cases hb82 : ¬ findL lt ((pathsT lb lo lt).getD k ByteArray.empty) = zL
            · skip
              refine c_region ?_
              refine l_q rfl (q_row rfl Tryd.underlying34 rfl (sz34.trans (congrArg some rfl.symm)) s20_81.ev (fun _ e => by rw [e]; exact k80) ?_)
              refine l_q rfl (q_build (cs := #[.string zL.f0, .int .i64 zL.f1, .string zL.f2]) rfl rfl (by kernel_rfl) ?_)
              refine l_q rfl (q_ne3 true rfl guard34 ((At.hit z81 rfl).ne rfl).ev (At.hit z81.put rfl).ev (eq34 9998 ((findL lt ((pathsT lb lo lt).getD k ByteArray.empty)).f0) ((findL lt ((pathsT lb lo lt).getD k ByteArray.empty)).f1) ((findL lt ((pathsT lb lo lt).getD k ByteArray.empty)).f2) zL.f0 zL.f1 zL.f2) (neL_true hb82) ?_)
              refine l_end ?_
              refine e_fresh z81.put.put.put ?_
              intro a83 z83 m83
              have s8_83 := m83 _ _ (((s8_81.ne rfl).ne rfl).ne rfl)
              have s9_83 := m83 _ _ (((s9_81.ne rfl).ne rfl).ne rfl)
              have s10_83 := m83 _ _ (((s10_81.ne rfl).ne rfl).ne rfl)
              have s16_83 := m83 _ _ (((s16_81.ne rfl).ne rfl).ne rfl)
              have s17_83 := m83 _ _ (((s17_81.ne rfl).ne rfl).ne rfl)
              have s20_83 := m83 _ _ (((s20_81.ne rfl).ne rfl).ne rfl)
              have s54_83 := m83 _ _ (((s54_81.ne rfl).ne rfl).ne rfl)
              have s55_83 := m83 _ _ (((s55_81.ne rfl).ne rfl).ne rfl)
              have s56_83 := m83 _ _ (((s56_81.ne rfl).ne rfl).ne rfl)
              have s97_83 := m83 _ _ (At.hit z81.put.put rfl)
              clear m83
              refine e_then ?_
              refine c_true s97_83 ?_
              refine c_region ?_
              refine l_q rfl (q_move _ _ rfl s16_83.ev ?_)
              refine l_q rfl (q_row rfl Tryd.underlying34 rfl (sz34.trans (congrArg some rfl.symm)) (s20_83.ne rfl).ev (fun _ e => by rw [e]; exact k80) ?_)
              refine l_buildF (vs := [.string ((findL lt ((pathsT lb lo lt).getD k ByteArray.empty)).f0), .int .i64 ((findL lt ((pathsT lb lo lt).getD k ByteArray.empty)).f1), .string ((findL lt ((pathsT lb lo lt).getD k ByteArray.empty)).f2)]) rfl rfl Tryd.underlying22 rec34 (At.hit z83.put rfl).ev rfl rfl (by decide) (by decide) ?_
              intro g100_84 w84 hg84 k84 h84
              have onx16_g100_84 : ∀ k, Value.ownBlock v16_37 = some k → k < g100_84 := fun k hk => Nat.lt_of_lt_of_le (OwnF.own_lt ox16_80 hk) hg84
              have lt_g20_g100_84 := Nat.lt_of_lt_of_le (heap_lt k80) hg84
              have nmlb_g100_84 := Nat.ne_of_lt (Nat.lt_of_lt_of_le kmlb_80.lt hg84)
              have nmlo_g100_84 := Nat.ne_of_lt (Nat.lt_of_lt_of_le kmlo_80.lt hg84)
              have nmlt_g100_84 := Nat.ne_of_lt (Nat.lt_of_lt_of_le kmlt_80.lt hg84)
              have geg100_84 := Nat.le_trans low81.ge hg84
              have kmlb_84 := kmlb_80.low h84
              have kmlo_84 := kmlo_80.low h84
              have kmlt_84 := kmlt_80.low h84
              have kg20_84 := h84.blk k80
              have ox16_84 := ox16_80.low h84
              have ox17_84 := ox17_80.low h84
              have ob35_84 := (o35.low (low42.upd u80 geg20)).low h84
              refine l_appF (B := w35.heap.size) rfl rfl Tryd.underlying22 rec34 (((At.hit z83 rfl).ne rfl).ne rfl).ev (At.hit z83.put.put rfl).ev k84 rfl (by decide) rfl ox16_84 (low81.trans h84).ge (by omega) ?_
              intro v85 w85 o85 gr85
              have kmlb_85 := kmlb_84.grw gr85
              have kmlo_85 := kmlo_84.grw gr85
              have kmlt_85 := kmlt_84.grw gr85
              have kg20_85 := gr85.blkn kg20_84 onx16_g20
              have lw85 := (low81.trans h84).grw gr85
              have ox17_85 := ox17_84.grw gr85 rfl
              replace o85 := o85.cast (show _ = ((outT lb lo lt ((pathsT lb lo lt).take k)) ++ [(findL lt ((pathsT lb lo lt).getD k ByteArray.empty))]).length by rw [List.length_append]; rfl) (flat_snoc (enc := encL) (outT lb lo lt ((pathsT lb lo lt).take k)) (findL lt ((pathsT lb lo lt).getD k ByteArray.empty)))
              refine l_q rfl (q_assign _ _ rfl (At.hit z83.put.put.put rfl).ev ?_)
              refine l_end ?_
              refine e_fresh z83.put.put.put.put.put ?_
              intro a86 z86 m86
              have s8_86 := m86 _ _ (((((s8_83.ne rfl).ne rfl).ne rfl).ne rfl).ne rfl)
              have s9_86 := m86 _ _ (((((s9_83.ne rfl).ne rfl).ne rfl).ne rfl).ne rfl)
              have s10_86 := m86 _ _ (((((s10_83.ne rfl).ne rfl).ne rfl).ne rfl).ne rfl)
              have s16_86 := m86 _ _ (At.hit z83.put.put.put.put rfl)
              have s17_86 := m86 _ _ (((((s17_83.ne rfl).ne rfl).ne rfl).ne rfl).ne rfl)
              have s54_86 := m86 _ _ (((((s54_83.ne rfl).ne rfl).ne rfl).ne rfl).ne rfl)
              have s55_86 := m86 _ _ (((((s55_83.ne rfl).ne rfl).ne rfl).ne rfl).ne rfl)
              have s56_86 := m86 _ _ (((((s56_83.ne rfl).ne rfl).ne rfl).ne rfl).ne rfl)
              have low86 := lw85
              clear m86
              refine e_in ?_
              refine e_then ?_
              refine c_region ?_
              refine l_q rfl (q_add (((k + 1 : Nat) : Int)) rfl s56_86.ev rfl (i64_is (by omega) (by omega) (by omega)) ?_)
              refine l_q rfl (q_move _ _ rfl (At.hit z86 rfl).ev ?_)
              refine l_end ?_
              refine e_fresh z86.put.put ?_
              intro a87 z87 m87
              have s8_87 := m87 _ _ ((s8_86.ne rfl).ne rfl)
              have s9_87 := m87 _ _ ((s9_86.ne rfl).ne rfl)
              have s10_87 := m87 _ _ ((s10_86.ne rfl).ne rfl)
              have s16_87 := m87 _ _ ((s16_86.ne rfl).ne rfl)
              have s17_87 := m87 _ _ ((s17_86.ne rfl).ne rfl)
              have s54_87 := m87 _ _ ((s54_86.ne rfl).ne rfl)
              have s55_87 := m87 _ _ ((s55_86.ne rfl).ne rfl)
              have s56_87 := m87 _ _ (At.hit z86.put rfl)
              clear m87
              have c88 := OwnF.castL o85 (show (outT lb lo lt ((pathsT lb lo lt).take k)) ++ [(findL lt ((pathsT lb lo lt).getD k ByteArray.empty))] = outT lb lo lt ((pathsT lb lo lt).take (k + 1)) from out_next (by omega) (cell_3 hb43 hb59 hb78) hb82)
              have c89 := OwnF.castL ox17_85 (show badT lb lo lt ((pathsT lb lo lt).take k) = badT lb lo lt ((pathsT lb lo lt).take (k + 1)) from bad_skip (by omega) (clash_3 hb78))
              exact ⟨v85, v17_37, z87, s8_87, s9_87, s10_87, s16_87, s17_87, s54_87, s55_87, s56_87, kmlb_85, kmlo_85, kmlt_85, c88, c89, low86⟩
            · skip
              refine c_region ?_
              refine l_q rfl (q_row rfl Tryd.underlying34 rfl (sz34.trans (congrArg some rfl.symm)) s20_81.ev (fun _ e => by rw [e]; exact k80) ?_)
              refine l_q rfl (q_build (cs := #[.string zL.f0, .int .i64 zL.f1, .string zL.f2]) rfl rfl (by kernel_rfl) ?_)
              refine l_q rfl (q_ne3 false rfl guard34 ((At.hit z81 rfl).ne rfl).ev (At.hit z81.put rfl).ev (eq34 9998 ((findL lt ((pathsT lb lo lt).getD k ByteArray.empty)).f0) ((findL lt ((pathsT lb lo lt).getD k ByteArray.empty)).f1) ((findL lt ((pathsT lb lo lt).getD k ByteArray.empty)).f2) zL.f0 zL.f1 zL.f2) (neL_false (Decidable.not_not.1 hb82)) ?_)
              refine l_end ?_
              refine e_fresh z81.put.put.put ?_
              intro a90 z90 m90
              have s8_90 := m90 _ _ (((s8_81.ne rfl).ne rfl).ne rfl)
              have s9_90 := m90 _ _ (((s9_81.ne rfl).ne rfl).ne rfl)
              have s10_90 := m90 _ _ (((s10_81.ne rfl).ne rfl).ne rfl)
              have s16_90 := m90 _ _ (((s16_81.ne rfl).ne rfl).ne rfl)
              have s17_90 := m90 _ _ (((s17_81.ne rfl).ne rfl).ne rfl)
              have s20_90 := m90 _ _ (((s20_81.ne rfl).ne rfl).ne rfl)
              have s54_90 := m90 _ _ (((s54_81.ne rfl).ne rfl).ne rfl)
              have s55_90 := m90 _ _ (((s55_81.ne rfl).ne rfl).ne rfl)
              have s56_90 := m90 _ _ (((s56_81.ne rfl).ne rfl).ne rfl)
              have s97_90 := m90 _ _ (At.hit z81.put.put rfl)
              clear m90
              refine e_then ?_
              refine c_false s97_90 ?_
              refine wp_skip ?_
              refine e_in ?_
              refine e_then ?_
              refine c_region ?_
              refine l_q rfl (q_add (((k + 1 : Nat) : Int)) rfl s56_90.ev rfl (i64_is (by omega) (by omega) (by omega)) ?_)
              refine l_q rfl (q_move _ _ rfl (At.hit z90 rfl).ev ?_)
              refine l_end ?_
              refine e_fresh z90.put.put ?_
              intro a91 z91 m91
              have s8_91 := m91 _ _ ((s8_90.ne rfl).ne rfl)
              have s9_91 := m91 _ _ ((s9_90.ne rfl).ne rfl)
              have s10_91 := m91 _ _ ((s10_90.ne rfl).ne rfl)
              have s16_91 := m91 _ _ ((s16_90.ne rfl).ne rfl)
              have s17_91 := m91 _ _ ((s17_90.ne rfl).ne rfl)
              have s54_91 := m91 _ _ ((s54_90.ne rfl).ne rfl)
              have s55_91 := m91 _ _ ((s55_90.ne rfl).ne rfl)
              have s56_91 := m91 _ _ (At.hit z90.put rfl)
              clear m91
              have c92 := OwnF.castL ox16_80 (show outT lb lo lt ((pathsT lb lo lt).take k) = outT lb lo lt ((pathsT lb lo lt).take (k + 1)) from out_skip (by omega) (cell_3 hb43 hb59 hb78) hb82)
              have c93 := OwnF.castL ox17_80 (show badT lb lo lt ((pathsT lb lo lt).take k) = badT lb lo lt ((pathsT lb lo lt).take (k + 1)) from bad_skip (by omega) (clash_3 hb78))
              exact ⟨v16_37, v17_37, z91, s8_91, s9_91, s10_91, s16_91, s17_91, s54_91, s55_91, s56_91, kmlb_80, kmlo_80, kmlt_80, c92, c93, low81⟩
          · skip
            refine c_region ?_
            refine l_q rfl (q_move _ _ rfl s9_77.ev ?_)
            refine l_q rfl (q_move _ _ rfl (s19_77.ne rfl).ev ?_)
            refine l_q rfl (q_look (.agg (#[.string ((findL lo ((pathsT lb lo lt).getD k ByteArray.empty)).f0), .int .i64 ((findL lo ((pathsT lb lo lt).getD k ByteArray.empty)).f1), .string ((findL lo ((pathsT lb lo lt).getD k ByteArray.empty)).f2)])) rfl Tryd.underlying39 Tryd.underlying9 zero34 ((At.hit z77 rfl).ne rfl).ev (At.hit z77.put rfl).ev (fun _ e => by rw [e]; exact kmlo_41) (look_mapL lo ((pathsT lb lo lt).getD k ByteArray.empty)) ?_)
            refine l_q rfl (q_move _ _ rfl (((s8_77.ne rfl).ne rfl).ne rfl).ev ?_)
            refine l_q rfl (q_move _ _ rfl ((((s19_77.ne rfl).ne rfl).ne rfl).ne rfl).ev ?_)
            refine l_q rfl (q_look (.agg (#[.string ((findL lb ((pathsT lb lo lt).getD k ByteArray.empty)).f0), .int .i64 ((findL lb ((pathsT lb lo lt).getD k ByteArray.empty)).f1), .string ((findL lb ((pathsT lb lo lt).getD k ByteArray.empty)).f2)])) rfl Tryd.underlying39 Tryd.underlying9 zero34 ((At.hit z77.put.put.put rfl).ne rfl).ev (At.hit z77.put.put.put.put rfl).ev (fun _ e => by rw [e]; exact kmlb_41) (look_mapL lb ((pathsT lb lo lt).getD k ByteArray.empty)) ?_)
            refine l_q rfl (q_eq3 false rfl guard34 ((((At.hit z77.put.put rfl).ne rfl).ne rfl).ne rfl).ev (At.hit z77.put.put.put.put.put rfl).ev (eq34 9998 ((findL lo ((pathsT lb lo lt).getD k ByteArray.empty)).f0) ((findL lo ((pathsT lb lo lt).getD k ByteArray.empty)).f1) ((findL lo ((pathsT lb lo lt).getD k ByteArray.empty)).f2) ((findL lb ((pathsT lb lo lt).getD k ByteArray.empty)).f0) ((findL lb ((pathsT lb lo lt).getD k ByteArray.empty)).f1) ((findL lb ((pathsT lb lo lt).getD k ByteArray.empty)).f2)) (eqL_false hb78) ?_)
            refine l_q rfl (q_assign _ _ rfl (At.hit z77.put.put.put.put.put.put rfl).ev ?_)
            refine l_end ?_
            refine e_fresh z77.put.put.put.put.put.put.put.put ?_
            intro a94 z94 m94
            have s8_94 := m94 _ _ ((((((((s8_77.ne rfl).ne rfl).ne rfl).ne rfl).ne rfl).ne rfl).ne rfl).ne rfl)
            have s9_94 := m94 _ _ ((((((((s9_77.ne rfl).ne rfl).ne rfl).ne rfl).ne rfl).ne rfl).ne rfl).ne rfl)
            have s10_94 := m94 _ _ ((((((((s10_77.ne rfl).ne rfl).ne rfl).ne rfl).ne rfl).ne rfl).ne rfl).ne rfl)
            have s16_94 := m94 _ _ ((((((((s16_77.ne rfl).ne rfl).ne rfl).ne rfl).ne rfl).ne rfl).ne rfl).ne rfl)
            have s17_94 := m94 _ _ ((((((((s17_77.ne rfl).ne rfl).ne rfl).ne rfl).ne rfl).ne rfl).ne rfl).ne rfl)
            have s19_94 := m94 _ _ ((((((((s19_77.ne rfl).ne rfl).ne rfl).ne rfl).ne rfl).ne rfl).ne rfl).ne rfl)
            have s20_94 := m94 _ _ ((((((((s20_77.ne rfl).ne rfl).ne rfl).ne rfl).ne rfl).ne rfl).ne rfl).ne rfl)
            have s54_94 := m94 _ _ ((((((((s54_77.ne rfl).ne rfl).ne rfl).ne rfl).ne rfl).ne rfl).ne rfl).ne rfl)
            have s55_94 := m94 _ _ ((((((((s55_77.ne rfl).ne rfl).ne rfl).ne rfl).ne rfl).ne rfl).ne rfl).ne rfl)
            have s56_94 := m94 _ _ ((((((((s56_77.ne rfl).ne rfl).ne rfl).ne rfl).ne rfl).ne rfl).ne rfl).ne rfl)
            have s84_94 := m94 _ _ (At.hit z77.put.put.put.put.put.put.put rfl)
            clear m94
            refine e_then ?_
            refine c_false s84_94 ?_
            refine c_region ?_
            refine l_q rfl (q_move _ _ rfl s17_94.ev ?_)
            refine l_q rfl (q_move _ _ rfl (s19_94.ne rfl).ev ?_)
            refine l_buildF (vs := [.string ((pathsT lb lo lt).getD k ByteArray.empty)]) rfl rfl Tryd.underlying26 rec9 (At.hit z94.put rfl).ev rfl rfl (by decide) (by decide) ?_
            intro g65_95 w95 hg95 k95 h95
            have onx17_g65_95 : ∀ k, Value.ownBlock v17_37 = some k → k < g65_95 := fun k hk => Nat.lt_of_lt_of_le (OwnF.own_lt ox17_41 hk) hg95
            have onb35_g65_95 : ∀ k, Value.ownBlock v35 = some k → k < g65_95 := fun k hk => Nat.lt_of_lt_of_le (OwnF.own_lt (o35.low ((low37.trans h40).upd u41 geg20)) hk) hg95
            have lt_g20_g65_95 := Nat.lt_of_lt_of_le (heap_lt k41) hg95
            have nmlb_g65_95 := Nat.ne_of_lt (Nat.lt_of_lt_of_le kmlb_41.lt hg95)
            have nmlo_g65_95 := Nat.ne_of_lt (Nat.lt_of_lt_of_le kmlo_41.lt hg95)
            have nmlt_g65_95 := Nat.ne_of_lt (Nat.lt_of_lt_of_le kmlt_41.lt hg95)
            have geg65_95 := Nat.le_trans low42.ge hg95
            have kmlb_95 := kmlb_41.low h95
            have kmlo_95 := kmlo_41.low h95
            have kmlt_95 := kmlt_41.low h95
            have kg20_95 := h95.blk k41
            have ox16_95 := ox16_41.low h95
            have ox17_95 := ox17_41.low h95
            have ob35_95 := (o35.low ((low37.trans h40).upd u41 geg20)).low h95
            refine l_appF (B := w35.heap.size) rfl rfl Tryd.underlying26 rec9 (((At.hit z94 rfl).ne rfl).ne rfl).ev (At.hit z94.put.put rfl).ev k95 rfl (by decide) rfl ox17_95 (low42.trans h95).ge (by omega) ?_
            intro v96 w96 o96 gr96
            have kmlb_96 := kmlb_95.grw gr96
            have kmlo_96 := kmlo_95.grw gr96
            have kmlt_96 := kmlt_95.grw gr96
            have kg20_96 := gr96.blk kg20_95 rfl
            have lw96 := (low42.trans h95).grw gr96
            have ox16_96 := ox16_95.grw gr96 rfl
            replace o96 := o96.cast (show _ = ((badT lb lo lt ((pathsT lb lo lt).take k)) ++ [((pathsT lb lo lt).getD k ByteArray.empty)]).length by rw [List.length_append]; rfl) (flat_snoc (enc := encS) (badT lb lo lt ((pathsT lb lo lt).take k)) ((pathsT lb lo lt).getD k ByteArray.empty))
            refine l_q rfl (q_assign _ _ rfl (At.hit z94.put.put.put rfl).ev ?_)
            refine l_end ?_
            refine e_fresh z94.put.put.put.put.put ?_
            intro a97 z97 m97
            have s8_97 := m97 _ _ (((((s8_94.ne rfl).ne rfl).ne rfl).ne rfl).ne rfl)
            have s9_97 := m97 _ _ (((((s9_94.ne rfl).ne rfl).ne rfl).ne rfl).ne rfl)
            have s10_97 := m97 _ _ (((((s10_94.ne rfl).ne rfl).ne rfl).ne rfl).ne rfl)
            have s16_97 := m97 _ _ (((((s16_94.ne rfl).ne rfl).ne rfl).ne rfl).ne rfl)
            have s17_97 := m97 _ _ (At.hit z94.put.put.put.put rfl)
            have s20_97 := m97 _ _ (((((s20_94.ne rfl).ne rfl).ne rfl).ne rfl).ne rfl)
            have s54_97 := m97 _ _ (((((s54_94.ne rfl).ne rfl).ne rfl).ne rfl).ne rfl)
            have s55_97 := m97 _ _ (((((s55_94.ne rfl).ne rfl).ne rfl).ne rfl).ne rfl)
            have s56_97 := m97 _ _ (((((s56_94.ne rfl).ne rfl).ne rfl).ne rfl).ne rfl)
            have low97 := lw96
            clear m97
            refine e_in ?_
            refine e_then ?_
            refine c_seq ?_
            by_cases hb98 : ¬ findL lo ((pathsT lb lo lt).getD k ByteArray.empty) = zL
            · skip
              refine c_region ?_
              refine l_q rfl (q_row rfl Tryd.underlying34 rfl (sz34.trans (congrArg some rfl.symm)) s20_97.ev (fun _ e => by rw [e]; exact kg20_96) ?_)
              refine l_q rfl (q_build (cs := #[.string zL.f0, .int .i64 zL.f1, .string zL.f2]) rfl rfl (by kernel_rfl) ?_)
              refine l_q rfl (q_ne3 true rfl guard34 ((At.hit z97 rfl).ne rfl).ev (At.hit z97.put rfl).ev (eq34 9998 ((findL lo ((pathsT lb lo lt).getD k ByteArray.empty)).f0) ((findL lo ((pathsT lb lo lt).getD k ByteArray.empty)).f1) ((findL lo ((pathsT lb lo lt).getD k ByteArray.empty)).f2) zL.f0 zL.f1 zL.f2) (neL_true hb98) ?_)
              refine l_end ?_
              refine e_fresh z97.put.put.put ?_
              intro a99 z99 m99
              have s8_99 := m99 _ _ (((s8_97.ne rfl).ne rfl).ne rfl)
              have s9_99 := m99 _ _ (((s9_97.ne rfl).ne rfl).ne rfl)
              have s10_99 := m99 _ _ (((s10_97.ne rfl).ne rfl).ne rfl)
              have s16_99 := m99 _ _ (((s16_97.ne rfl).ne rfl).ne rfl)
              have s17_99 := m99 _ _ (((s17_97.ne rfl).ne rfl).ne rfl)
              have s20_99 := m99 _ _ (((s20_97.ne rfl).ne rfl).ne rfl)
              have s54_99 := m99 _ _ (((s54_97.ne rfl).ne rfl).ne rfl)
              have s55_99 := m99 _ _ (((s55_97.ne rfl).ne rfl).ne rfl)
              have s56_99 := m99 _ _ (((s56_97.ne rfl).ne rfl).ne rfl)
              have s97_99 := m99 _ _ (At.hit z97.put.put rfl)
              clear m99
              refine e_then ?_
              refine c_true s97_99 ?_
              refine c_region ?_
              refine l_q rfl (q_move _ _ rfl s16_99.ev ?_)
              refine l_q rfl (q_row rfl Tryd.underlying34 rfl (sz34.trans (congrArg some rfl.symm)) (s20_99.ne rfl).ev (fun _ e => by rw [e]; exact kg20_96) ?_)
              refine l_buildF (vs := [.string ((findL lo ((pathsT lb lo lt).getD k ByteArray.empty)).f0), .int .i64 ((findL lo ((pathsT lb lo lt).getD k ByteArray.empty)).f1), .string ((findL lo ((pathsT lb lo lt).getD k ByteArray.empty)).f2)]) rfl rfl Tryd.underlying22 rec34 (At.hit z99.put rfl).ev rfl rfl (by decide) (by decide) ?_
              intro g100_100 w100 hg100 k100 h100
              have onx16_g100_100 : ∀ k, Value.ownBlock v16_37 = some k → k < g100_100 := fun k hk => Nat.lt_of_lt_of_le (OwnF.own_lt ox16_96 hk) hg100
              have lt_g20_g100_100 := Nat.lt_of_lt_of_le (heap_lt kg20_96) hg100
              have nmlb_g100_100 := Nat.ne_of_lt (Nat.lt_of_lt_of_le kmlb_96.lt hg100)
              have nmlo_g100_100 := Nat.ne_of_lt (Nat.lt_of_lt_of_le kmlo_96.lt hg100)
              have nmlt_g100_100 := Nat.ne_of_lt (Nat.lt_of_lt_of_le kmlt_96.lt hg100)
              have geg100_100 := Nat.le_trans low97.ge hg100
              have kmlb_100 := kmlb_96.low h100
              have kmlo_100 := kmlo_96.low h100
              have kmlt_100 := kmlt_96.low h100
              have kg20_100 := h100.blk kg20_96
              have ob35_100 := (o35.low lw96).low h100
              have ob96_100 := o96.low h100
              have ox16_100 := ox16_96.low h100
              refine l_appF (B := w35.heap.size) rfl rfl Tryd.underlying22 rec34 (((At.hit z99 rfl).ne rfl).ne rfl).ev (At.hit z99.put.put rfl).ev k100 rfl (by decide) rfl ox16_100 (low97.trans h100).ge (by omega) ?_
              intro v101 w101 o101 gr101
              have kmlb_101 := kmlb_100.grw gr101
              have kmlo_101 := kmlo_100.grw gr101
              have kmlt_101 := kmlt_100.grw gr101
              have kg20_101 := gr101.blkn kg20_100 onx16_g20
              have lw101 := (low97.trans h100).grw gr101
              have ob96_101 := ob96_100.grw gr101 rfl
              replace o101 := o101.cast (show _ = ((outT lb lo lt ((pathsT lb lo lt).take k)) ++ [(findL lo ((pathsT lb lo lt).getD k ByteArray.empty))]).length by rw [List.length_append]; rfl) (flat_snoc (enc := encL) (outT lb lo lt ((pathsT lb lo lt).take k)) (findL lo ((pathsT lb lo lt).getD k ByteArray.empty)))
              refine l_q rfl (q_assign _ _ rfl (At.hit z99.put.put.put rfl).ev ?_)
              refine l_end ?_
              refine e_fresh z99.put.put.put.put.put ?_
              intro a102 z102 m102
              have s8_102 := m102 _ _ (((((s8_99.ne rfl).ne rfl).ne rfl).ne rfl).ne rfl)
              have s9_102 := m102 _ _ (((((s9_99.ne rfl).ne rfl).ne rfl).ne rfl).ne rfl)
              have s10_102 := m102 _ _ (((((s10_99.ne rfl).ne rfl).ne rfl).ne rfl).ne rfl)
              have s16_102 := m102 _ _ (At.hit z99.put.put.put.put rfl)
              have s17_102 := m102 _ _ (((((s17_99.ne rfl).ne rfl).ne rfl).ne rfl).ne rfl)
              have s54_102 := m102 _ _ (((((s54_99.ne rfl).ne rfl).ne rfl).ne rfl).ne rfl)
              have s55_102 := m102 _ _ (((((s55_99.ne rfl).ne rfl).ne rfl).ne rfl).ne rfl)
              have s56_102 := m102 _ _ (((((s56_99.ne rfl).ne rfl).ne rfl).ne rfl).ne rfl)
              have low102 := lw101
              clear m102
              refine e_in ?_
              refine e_then ?_
              refine c_region ?_
              refine l_q rfl (q_add (((k + 1 : Nat) : Int)) rfl s56_102.ev rfl (i64_is (by omega) (by omega) (by omega)) ?_)
              refine l_q rfl (q_move _ _ rfl (At.hit z102 rfl).ev ?_)
              refine l_end ?_
              refine e_fresh z102.put.put ?_
              intro a103 z103 m103
              have s8_103 := m103 _ _ ((s8_102.ne rfl).ne rfl)
              have s9_103 := m103 _ _ ((s9_102.ne rfl).ne rfl)
              have s10_103 := m103 _ _ ((s10_102.ne rfl).ne rfl)
              have s16_103 := m103 _ _ ((s16_102.ne rfl).ne rfl)
              have s17_103 := m103 _ _ ((s17_102.ne rfl).ne rfl)
              have s54_103 := m103 _ _ ((s54_102.ne rfl).ne rfl)
              have s55_103 := m103 _ _ ((s55_102.ne rfl).ne rfl)
              have s56_103 := m103 _ _ (At.hit z102.put rfl)
              clear m103
              have c104 := OwnF.castL o101 (show (outT lb lo lt ((pathsT lb lo lt).take k)) ++ [(findL lo ((pathsT lb lo lt).getD k ByteArray.empty))] = outT lb lo lt ((pathsT lb lo lt).take (k + 1)) from out_next (by omega) (cell_4 hb43 hb59 hb78) hb98)
              have c105 := OwnF.castL ob96_101 (show (badT lb lo lt ((pathsT lb lo lt).take k)) ++ [((pathsT lb lo lt).getD k ByteArray.empty)] = badT lb lo lt ((pathsT lb lo lt).take (k + 1)) from bad_next (by omega) (clash_4 hb43 hb59 hb78))
              exact ⟨v101, v96, z103, s8_103, s9_103, s10_103, s16_103, s17_103, s54_103, s55_103, s56_103, kmlb_101, kmlo_101, kmlt_101, c104, c105, low102⟩
            · skip
              refine c_region ?_
              refine l_q rfl (q_row rfl Tryd.underlying34 rfl (sz34.trans (congrArg some rfl.symm)) s20_97.ev (fun _ e => by rw [e]; exact kg20_96) ?_)
              refine l_q rfl (q_build (cs := #[.string zL.f0, .int .i64 zL.f1, .string zL.f2]) rfl rfl (by kernel_rfl) ?_)
              refine l_q rfl (q_ne3 false rfl guard34 ((At.hit z97 rfl).ne rfl).ev (At.hit z97.put rfl).ev (eq34 9998 ((findL lo ((pathsT lb lo lt).getD k ByteArray.empty)).f0) ((findL lo ((pathsT lb lo lt).getD k ByteArray.empty)).f1) ((findL lo ((pathsT lb lo lt).getD k ByteArray.empty)).f2) zL.f0 zL.f1 zL.f2) (neL_false (Decidable.not_not.1 hb98)) ?_)
              refine l_end ?_
              refine e_fresh z97.put.put.put ?_
              intro a106 z106 m106
              have s8_106 := m106 _ _ (((s8_97.ne rfl).ne rfl).ne rfl)
              have s9_106 := m106 _ _ (((s9_97.ne rfl).ne rfl).ne rfl)
              have s10_106 := m106 _ _ (((s10_97.ne rfl).ne rfl).ne rfl)
              have s16_106 := m106 _ _ (((s16_97.ne rfl).ne rfl).ne rfl)
              have s17_106 := m106 _ _ (((s17_97.ne rfl).ne rfl).ne rfl)
              have s20_106 := m106 _ _ (((s20_97.ne rfl).ne rfl).ne rfl)
              have s54_106 := m106 _ _ (((s54_97.ne rfl).ne rfl).ne rfl)
              have s55_106 := m106 _ _ (((s55_97.ne rfl).ne rfl).ne rfl)
              have s56_106 := m106 _ _ (((s56_97.ne rfl).ne rfl).ne rfl)
              have s97_106 := m106 _ _ (At.hit z97.put.put rfl)
              clear m106
              refine e_then ?_
              refine c_false s97_106 ?_
              refine wp_skip ?_
              refine e_in ?_
              refine e_then ?_
              refine c_region ?_
              refine l_q rfl (q_add (((k + 1 : Nat) : Int)) rfl s56_106.ev rfl (i64_is (by omega) (by omega) (by omega)) ?_)
              refine l_q rfl (q_move _ _ rfl (At.hit z106 rfl).ev ?_)
              refine l_end ?_
              refine e_fresh z106.put.put ?_
              intro a107 z107 m107
              have s8_107 := m107 _ _ ((s8_106.ne rfl).ne rfl)
              have s9_107 := m107 _ _ ((s9_106.ne rfl).ne rfl)
              have s10_107 := m107 _ _ ((s10_106.ne rfl).ne rfl)
              have s16_107 := m107 _ _ ((s16_106.ne rfl).ne rfl)
              have s17_107 := m107 _ _ ((s17_106.ne rfl).ne rfl)
              have s54_107 := m107 _ _ ((s54_106.ne rfl).ne rfl)
              have s55_107 := m107 _ _ ((s55_106.ne rfl).ne rfl)
              have s56_107 := m107 _ _ (At.hit z106.put rfl)
              clear m107
              have c108 := OwnF.castL ox16_96 (show outT lb lo lt ((pathsT lb lo lt).take k) = outT lb lo lt ((pathsT lb lo lt).take (k + 1)) from out_skip (by omega) (cell_4 hb43 hb59 hb78) hb98)
              have c109 := OwnF.castL o96 (show (badT lb lo lt ((pathsT lb lo lt).take k)) ++ [((pathsT lb lo lt).getD k ByteArray.empty)] = badT lb lo lt ((pathsT lb lo lt).take (k + 1)) from bad_next (by omega) (clash_4 hb43 hb59 hb78))
              exact ⟨v16_37, v96, z107, s8_107, s9_107, s10_107, s16_107, s17_107, s54_107, s55_107, s56_107, kmlb_96, kmlo_96, kmlt_96, c108, c109, low97⟩
    · intro a110 w110 h
      obtain ⟨v16_110, v17_110, z110, s8_110, s9_110, s10_110, s16_110, s17_110, s54_110, s55_110, s56_110, kmlb_110, kmlo_110, kmlt_110, ox16_110, ox17_110, low110⟩ := h
      clear kmlb_35 kmlo_35 kmlt_35 s10_36 s16_36 s17_36 s54_36 s55_36 s56_36 s8_36 s9_36 z36
      have hpl := paths_len lb lo lt
      have hol := out_len lb lo lt (pathsT lb lo lt) (pathsT lb lo lt).length 300000 (by omega)
      have hbl := bad_len lb lo lt (pathsT lb lo lt) (pathsT lb lo lt).length 300000 (by omega)
      rw [out_end] at hol
      rw [bad_end] at hbl
      refine c_seq ?_
      refine c_region ?_
      refine l_q rfl (q_lss false rfl s56_110.ev s55_110.ev (decide_eq_false (by omega)) ?_)
      refine l_end ?_
      refine e_fresh z110.put ?_
      intro a111 z111 m111
      have s8_111 := m111 _ _ (s8_110.ne rfl)
      have s9_111 := m111 _ _ (s9_110.ne rfl)
      have s10_111 := m111 _ _ (s10_110.ne rfl)
      have s16_111 := m111 _ _ (s16_110.ne rfl)
      have s17_111 := m111 _ _ (s17_110.ne rfl)
      have s54_111 := m111 _ _ (s54_110.ne rfl)
      have s56_111 := m111 _ _ (s56_110.ne rfl)
      have s57_111 := m111 _ _ (At.hit z110 rfl)
      clear m111
      refine e_then ?_
      refine c_seq ?_
      refine c_false s57_111 ?_
      refine wp_exit ?_
      refine x_then ?_
      refine x_then ?_
      refine in_exit ?_
      refine e_then ?_
      refine c_seq ?_
      refine c_seq ?_
      have c112 := OwnF.castL ox16_110 (show outT lb lo lt ((pathsT lb lo lt).take ((pathsT lb lo lt).length)) = outF lb lo lt from out_end lb lo lt)
      have c113 := OwnF.castL ox17_110 (show badT lb lo lt ((pathsT lb lo lt).take ((pathsT lb lo lt).length)) = badF lb lo lt from bad_end lb lo lt)
      refine c_region ?_
      refine l_q rfl (q_move _ _ rfl s16_111.ev ?_)
      refine l_q rfl (q_lenF rfl rfl Tryd.underlying22 (At.hit z111 rfl).ev c112.rd ?_)
      refine l_q rfl (q_move _ _ rfl rfl ?_)
      refine l_end ?_
      refine e_fresh z111.put.put.put ?_
      intro a114 z114 m114
      have s16_114 := m114 _ _ (((s16_111.ne rfl).ne rfl).ne rfl)
      have s17_114 := m114 _ _ (((s17_111.ne rfl).ne rfl).ne rfl)
      have s103_114 := m114 _ _ (((At.hit z111 rfl).ne rfl).ne rfl)
      have s104_114 := m114 _ _ ((At.hit z111.put rfl).ne rfl)
      have s105_114 := m114 _ _ (At.hit z111.put.put rfl)
      clear m114
      refine e_then ?_
      refine wp_block ?_
      refine c_loop ((outF lb lo lt).length) (fun k a w => ∃ v17 : Value, Fr 126 a ∧ At a 16 (v16_110) ∧ At a 17 (v17) ∧ At a 103 (v16_110) ∧ At a 104 (.int .i64 ((((outF lb lo lt).length) : Nat) : Int)) ∧ At a 105 (.int .i64 ((k : Nat) : Int)) ∧ MapIs w mlb (mapL lb) ∧ MapIs w mlo (mapL lo) ∧ MapIs w mlt (mapL lt) ∧ OwnF w w35.heap.size 9 1 v17 (dirsF (badF lb lo lt) (outF lb lo lt) k).length (((dirsF (badF lb lo lt) (outF lb lo lt) k).map encS).flatten) ∧ OwnF w w35.heap.size 34 3 v16_110 (outF lb lo lt).length (((outF lb lo lt).map encL).flatten) ∧ Low w35 w) ?_ ?_ ?_
      · exact ⟨v17_110, z114, s16_114, s17_114, s103_114, s104_114, s105_114, kmlb_110, kmlo_110, kmlt_110, c113, c112, low110⟩
      · intro k a115 w115 hk115 h
        obtain ⟨v17_115, z115, s16_115, s17_115, s103_115, s104_115, s105_115, kmlb_115, kmlo_115, kmlt_115, ox17_115, ox16_115, low115⟩ := h
        clear kmlb_110 kmlo_110 kmlt_110 low110 s103_114 s104_114 s105_114 s16_114 s17_114 z114
        have hdl := dirs_len (badF lb lo lt) (outF lb lo lt) k
        refine c_seq ?_
        refine c_region ?_
        refine l_q rfl (q_lss true rfl s105_115.ev s104_115.ev (decide_eq_true (by omega)) ?_)
        refine l_end ?_
        refine e_fresh z115.put ?_
        intro a116 z116 m116
        have s16_116 := m116 _ _ (s16_115.ne rfl)
        have s17_116 := m116 _ _ (s17_115.ne rfl)
        have s103_116 := m116 _ _ (s103_115.ne rfl)
        have s104_116 := m116 _ _ (s104_115.ne rfl)
        have s105_116 := m116 _ _ (s105_115.ne rfl)
        have s106_116 := m116 _ _ (At.hit z115 rfl)
        clear m116
        refine e_then ?_
        refine c_seq ?_
        refine c_true s106_116 ?_
        refine wp_skip ?_
        refine e_then ?_
        refine c_seq ?_
        refine wp_block ?_
        refine c_seq ?_
        refine c_region ?_
        refine l_q rfl (q_move _ _ rfl s105_116.ev ?_)
        refine l_q rfl (q_idxF (j := k) rfl Tryd.underlying22 sz34 (s103_116.ne rfl).ev ox16_115.rd (s105_116.ne rfl).ev (by omega) ?_)
        refine l_q rfl (q_ldR (vs := [.string (((outF lb lo lt).getD k zL).f0), .int .i64 (((outF lb lo lt).getD k zL).f1), .string (((outF lb lo lt).getD k zL).f2)]) rfl Tryd.underlying34 rfl sz34 (At.hit z116.put rfl).ev (fun _ e => by rw [e]; exact ox16_115.rd) (by omega) rfl (flat_part encL_len zL _ k (by omega)) ?_)
        refine l_alloc rfl rfl zero34 ?_
        intro g22 w117 hg117 k117 h117
        have onx16_g22 : ∀ k, Value.ownBlock v16_110 = some k → k < g22 := fun k hk => Nat.lt_of_lt_of_le (OwnF.own_lt ox16_115 hk) hg117
        have nmlb_g22 := Nat.ne_of_lt (Nat.lt_of_lt_of_le kmlb_115.lt hg117)
        have nmlo_g22 := Nat.ne_of_lt (Nat.lt_of_lt_of_le kmlo_115.lt hg117)
        have nmlt_g22 := Nat.ne_of_lt (Nat.lt_of_lt_of_le kmlt_115.lt hg117)
        have geg22 := Nat.le_trans low115.ge hg117
        have kmlb_117 := kmlb_115.low h117
        have kmlo_117 := kmlo_115.low h117
        have kmlt_117 := kmlt_115.low h117
        have ox17_117 := ox17_115.low h117
        have ox16_117 := ox16_115.low h117
        refine l_q rfl (q_assign _ _ rfl ((((At.hit z116 rfl).ne rfl).ne rfl).ne rfl).ev ?_)
        refine l_row rfl rfl rfl (sz34.trans (congrArg some rfl.symm)) ((At.hit z116.put.put.put rfl).ne rfl).ev (((At.hit z116.put.put rfl).ne rfl).ne rfl).ev (by simp [Value.oneCell']) k117 (rfl.trans rfl.symm) ?_
        intro w118 k118 u118
        have ox17_118 := ox17_117.upd u118 k117 rfl
        have ox16_118 := ox16_117.updn u118 onx16_g22
        have kmlb_118 := kmlb_117.upd u118 (by omega)
        have kmlo_118 := kmlo_117.upd u118 (by omega)
        have kmlt_118 := kmlt_117.upd u118 (by omega)
        refine l_end ?_
        refine e_fresh z116.put.put.put.put.put ?_
        intro a119 z119 m119
        have s16_119 := m119 _ _ (((((s16_116.ne rfl).ne rfl).ne rfl).ne rfl).ne rfl)
        have s17_119 := m119 _ _ (((((s17_116.ne rfl).ne rfl).ne rfl).ne rfl).ne rfl)
        have s21_119 := m119 _ _ (At.hit z116.put.put.put.put rfl)
        have s22_119 := m119 _ _ ((At.hit z116.put.put.put rfl).ne rfl)
        have s103_119 := m119 _ _ (((((s103_116.ne rfl).ne rfl).ne rfl).ne rfl).ne rfl)
        have s104_119 := m119 _ _ (((((s104_116.ne rfl).ne rfl).ne rfl).ne rfl).ne rfl)
        have s105_119 := m119 _ _ (((((s105_116.ne rfl).ne rfl).ne rfl).ne rfl).ne rfl)
        have low119 := ((low115.trans h117).upd u118 geg22)
        clear m119
        refine e_then ?_
        refine c_seq ?_
        refine c_region ?_
        refine l_q rfl (q_move _ _ rfl s16_119.ev ?_)
        refine l_q rfl (q_move _ _ rfl (s21_119.ne rfl).ev ?_)
        refine l_q rfl (q_cutF (i := k) rfl Tryd.underlying22 sz34 ((At.hit z119 rfl).ne rfl).ev (At.hit z119.put rfl).ev ox16_118.rd (by omega) ?_)
        refine l_q rfl (q_makeFunc rfl (((s22_119.ne rfl).ne rfl).ne rfl).ev ?_)
        refine l_call (fun v w' => v = .bool (underB (outF lb lo lt) k) ∧ Low w118 w') rfl rfl rfl Tryd.func17 rfl (args2 rfl ((At.hit z119.put.put rfl).ne rfl).ev (At.hit z119.put.put.put rfl).ev) ((Contains.calls _ ((outF lb lo lt).drop k) (by rw [List.length_drop]; omega) g22 (fun y => prefB y.f0 (((outF lb lo lt).getD k zL).f0 ++ slash)) _ (RdF.cutL (j := k) encL_len ox16_118.rd (by omega)) (fun y w h => Under.calls y ((outF lb lo lt).getD k zL) (out_size ho ht k) g22 w (h.blk k118))).mono fun _ _ ⟨e, k⟩ => ⟨_, e, rfl, k⟩) ?_
        rintro _ w121 ⟨rfl, h121⟩
        have kmlb_121 := kmlb_118.low h121
        have kmlo_121 := kmlo_118.low h121
        have kmlt_121 := kmlt_118.low h121
        have kg22_121 := h121.blk k118
        have ox17_121 := ox17_118.low h121
        have ox16_121 := ox16_118.low h121
        have oy120_121 := (RdF.cutL (j := k) encL_len ox16_118.rd (by omega)).low h121
        refine l_end ?_
        refine e_fresh z119.put.put.put.put.put ?_
        intro a122 z122 m122
        have s16_122 := m122 _ _ (((((s16_119.ne rfl).ne rfl).ne rfl).ne rfl).ne rfl)
        have s17_122 := m122 _ _ (((((s17_119.ne rfl).ne rfl).ne rfl).ne rfl).ne rfl)
        have s22_122 := m122 _ _ (((((s22_119.ne rfl).ne rfl).ne rfl).ne rfl).ne rfl)
        have s103_122 := m122 _ _ (((((s103_119.ne rfl).ne rfl).ne rfl).ne rfl).ne rfl)
        have s104_122 := m122 _ _ (((((s104_119.ne rfl).ne rfl).ne rfl).ne rfl).ne rfl)
        have s105_122 := m122 _ _ (((((s105_119.ne rfl).ne rfl).ne rfl).ne rfl).ne rfl)
        have s114_122 := m122 _ _ (At.hit z119.put.put.put.put rfl)
        have low122 := (low119.trans h121)
        clear m122
        refine e_then ?_
        cases hc123 : underB (outF lb lo lt) k with
        | true =>
          have hs123 := s114_122.same (congrArg Value.bool hc123)
          refine c_true hs123 ?_
          refine c_region ?_
          refine l_q rfl (q_move _ _ rfl s17_122.ev ?_)
          refine l_q rfl (q_fld 0 rfl (by kernel_rfl) (s22_122.ne rfl).ev ?_)
          refine l_q rfl (q_cellT (.string (((outF lb lo lt).getD k zL).f0)) rfl Tryd.underlying9 (At.hit z122.put rfl).ev (fun _ e => by rw [e]; exact (cells_at kg22_121 0).trans rfl) ?_)
          refine l_buildF (vs := [.string (((outF lb lo lt).getD k zL).f0)]) rfl rfl Tryd.underlying26 rec9 (At.hit z122.put.put rfl).ev rfl rfl (by decide) (by decide) ?_
          intro g118_124 w124 hg124 k124 h124
          have onx17_g118_124 : ∀ k, Value.ownBlock v17_115 = some k → k < g118_124 := fun k hk => Nat.lt_of_lt_of_le (OwnF.own_lt ox17_121 hk) hg124
          have lt_g22_g118_124 := Nat.lt_of_lt_of_le (heap_lt kg22_121) hg124
          have nmlb_g118_124 := Nat.ne_of_lt (Nat.lt_of_lt_of_le kmlb_121.lt hg124)
          have nmlo_g118_124 := Nat.ne_of_lt (Nat.lt_of_lt_of_le kmlo_121.lt hg124)
          have nmlt_g118_124 := Nat.ne_of_lt (Nat.lt_of_lt_of_le kmlt_121.lt hg124)
          have geg118_124 := Nat.le_trans low122.ge hg124
          have kmlb_124 := kmlb_121.low h124
          have kmlo_124 := kmlo_121.low h124
          have kmlt_124 := kmlt_121.low h124
          have kg22_124 := h124.blk kg22_121
          have ox17_124 := ox17_121.low h124
          have ox16_124 := ox16_121.low h124
          refine l_appF (B := w35.heap.size) rfl rfl Tryd.underlying26 rec9 ((((At.hit z122 rfl).ne rfl).ne rfl).ne rfl).ev (At.hit z122.put.put.put rfl).ev k124 rfl (by decide) rfl ox17_124 (low122.trans h124).ge (by omega) ?_
          intro v125 w125 o125 gr125
          have kmlb_125 := kmlb_124.grw gr125
          have kmlo_125 := kmlo_124.grw gr125
          have kmlt_125 := kmlt_124.grw gr125
          have kg22_125 := gr125.blk kg22_124 rfl
          have lw125 := (low122.trans h124).grw gr125
          have ox16_125 := ox16_124.grw gr125 rfl
          replace o125 := o125.cast (show _ = ((dirsF (badF lb lo lt) (outF lb lo lt) k) ++ [((outF lb lo lt).getD k zL).f0]).length by rw [List.length_append]; rfl) (flat_snoc (enc := encS) (dirsF (badF lb lo lt) (outF lb lo lt) k) (((outF lb lo lt).getD k zL).f0))
          refine l_q rfl (q_assign _ _ rfl (At.hit z122.put.put.put.put rfl).ev ?_)
          refine l_end ?_
          refine e_fresh z122.put.put.put.put.put.put ?_
          intro a126 z126 m126
          have s16_126 := m126 _ _ ((((((s16_122.ne rfl).ne rfl).ne rfl).ne rfl).ne rfl).ne rfl)
          have s17_126 := m126 _ _ (At.hit z122.put.put.put.put.put rfl)
          have s103_126 := m126 _ _ ((((((s103_122.ne rfl).ne rfl).ne rfl).ne rfl).ne rfl).ne rfl)
          have s104_126 := m126 _ _ ((((((s104_122.ne rfl).ne rfl).ne rfl).ne rfl).ne rfl).ne rfl)
          have s105_126 := m126 _ _ ((((((s105_122.ne rfl).ne rfl).ne rfl).ne rfl).ne rfl).ne rfl)
          have low126 := lw125
          clear m126
          refine e_in ?_
          refine e_then ?_
          refine c_region ?_
          refine l_q rfl (q_add (((k + 1 : Nat) : Int)) rfl s105_126.ev rfl (i64_is (by omega) (by omega) (by omega)) ?_)
          refine l_q rfl (q_move _ _ rfl (At.hit z126 rfl).ev ?_)
          refine l_end ?_
          refine e_fresh z126.put.put ?_
          intro a127 z127 m127
          have s16_127 := m127 _ _ ((s16_126.ne rfl).ne rfl)
          have s17_127 := m127 _ _ ((s17_126.ne rfl).ne rfl)
          have s103_127 := m127 _ _ ((s103_126.ne rfl).ne rfl)
          have s104_127 := m127 _ _ ((s104_126.ne rfl).ne rfl)
          have s105_127 := m127 _ _ (At.hit z126.put rfl)
          clear m127
          have c128 := OwnF.castL o125 (show (dirsF (badF lb lo lt) (outF lb lo lt) k) ++ [((outF lb lo lt).getD k zL).f0] = dirsF (badF lb lo lt) (outF lb lo lt) (k + 1) from dirs_next hc123)
          exact ⟨v125, z127, s16_127, s17_127, s103_127, s104_127, s105_127, kmlb_125, kmlo_125, kmlt_125, c128, ox16_125, low126⟩
        | false =>
          have hs123 := s114_122.same (congrArg Value.bool hc123)
          refine c_false hs123 ?_
          refine wp_skip ?_
          refine e_in ?_
          refine e_then ?_
          refine c_region ?_
          refine l_q rfl (q_add (((k + 1 : Nat) : Int)) rfl s105_122.ev rfl (i64_is (by omega) (by omega) (by omega)) ?_)
          refine l_q rfl (q_move _ _ rfl (At.hit z122 rfl).ev ?_)
          refine l_end ?_
          refine e_fresh z122.put.put ?_
          intro a129 z129 m129
          have s16_129 := m129 _ _ ((s16_122.ne rfl).ne rfl)
          have s17_129 := m129 _ _ ((s17_122.ne rfl).ne rfl)
          have s103_129 := m129 _ _ ((s103_122.ne rfl).ne rfl)
          have s104_129 := m129 _ _ ((s104_122.ne rfl).ne rfl)
          have s105_129 := m129 _ _ (At.hit z122.put rfl)
          clear m129
          have c130 := OwnF.castL ox17_121 (show dirsF (badF lb lo lt) (outF lb lo lt) k = dirsF (badF lb lo lt) (outF lb lo lt) (k + 1) from dirs_skip hc123)
          exact ⟨v17_115, z129, s16_129, s17_129, s103_129, s104_129, s105_129, kmlb_121, kmlo_121, kmlt_121, c130, ox16_121, low122⟩
      · intro a131 w131 h
        obtain ⟨v17_131, z131, s16_131, s17_131, s103_131, s104_131, s105_131, kmlb_131, kmlo_131, kmlt_131, ox17_131, ox16_131, low131⟩ := h
        clear kmlb_110 kmlo_110 kmlt_110 low110 s103_114 s104_114 s105_114 s16_114 s17_114 z114
        have hdl := dirs_len (badF lb lo lt) (outF lb lo lt) (outF lb lo lt).length
        refine c_seq ?_
        refine c_region ?_
        refine l_q rfl (q_lss false rfl s105_131.ev s104_131.ev (decide_eq_false (by omega)) ?_)
        refine l_end ?_
        refine e_fresh z131.put ?_
        intro a132 z132 m132
        have s16_132 := m132 _ _ (s16_131.ne rfl)
        have s17_132 := m132 _ _ (s17_131.ne rfl)
        have s103_132 := m132 _ _ (s103_131.ne rfl)
        have s105_132 := m132 _ _ (s105_131.ne rfl)
        have s106_132 := m132 _ _ (At.hit z131 rfl)
        clear m132
        refine e_then ?_
        refine c_seq ?_
        refine c_false s106_132 ?_
        refine wp_exit ?_
        refine x_then ?_
        refine x_then ?_
        refine in_exit ?_
        refine e_then ?_
        refine c_seq ?_
        have c133 := OwnF.castL ox17_131 (show dirsF (badF lb lo lt) (outF lb lo lt) ((outF lb lo lt).length) = badD lb lo lt from rfl)
        have hbd : (badD lb lo lt).length ≤ 900000 := by unfold badD; omega
        refine c_region ?_
        refine l_q rfl (q_move _ _ rfl s17_132.ev ?_)
        refine l_call _ rfl rfl rfl Tryd.func15 rfl (args1 rfl (At.hit z132 rfl).ev) (sort_c v17_131 (badD lb lo lt) _ (Nat.le_trans hbd (by decide)) c133) ?_
        rintro _ w134 ⟨rfl, o134, gr134⟩
        have kmlb_134 := kmlb_131.grw gr134
        have kmlo_134 := kmlo_131.grw gr134
        have kmlt_134 := kmlt_131.grw gr134
        have lw134 := low131.grw gr134
        have ox16_134 := ox16_131.grw gr134 rfl
        refine l_end ?_
        refine e_fresh z132.put.put ?_
        intro a135 z135 m135
        have s16_135 := m135 _ _ ((s16_132.ne rfl).ne rfl)
        have s17_135 := m135 _ _ ((s17_132.ne rfl).ne rfl)
        have low135 := lw134
        clear m135
        refine e_then ?_
        refine c_seq ?_
        refine c_region ?_
        refine l_q rfl (q_move _ _ rfl s16_135.ev ?_)
        refine l_q rfl (q_move _ _ rfl (s17_135.ne rfl).ev ?_)
        refine l_call _ rfl rfl rfl Tryd.func16 rfl (args1 rfl (At.hit z135.put rfl).ev) (compact_calls v17_131 (sortB (badD lb lo lt)) _ o134) ?_
        rintro v136 w136 ⟨o136, gr136⟩
        have kmlb_136 := kmlb_134.grw gr136
        have kmlo_136 := kmlo_134.grw gr136
        have kmlt_136 := kmlt_134.grw gr136
        have lw136 := low135.grw gr136
        have ox16_136 := ox16_134.grw gr136 rfl
        replace o136 := OwnF.castL o136 (show compB (sortB (badD lb lo lt)) = badA lb lo lt from rfl)
        refine l_q rfl (q_assign _ _ rfl (((At.hit z135 rfl).ne rfl).ne rfl).ev ?_)
        refine l_q rfl (q_assign _ _ rfl ((At.hit z135.put.put rfl).ne rfl).ev ?_)
        refine l_end ?_
        refine e_fresh z135.put.put.put.put.put ?_
        intro a137 z137 m137
        have s6_137 := m137 _ _ ((At.hit z135.put.put.put rfl).ne rfl)
        have s7_137 := m137 _ _ (At.hit z135.put.put.put.put rfl)
        have low137 := lw136
        clear m137
        refine e_then ?_
        refine wp_ret ?_
        refine r_two rfl z137.defers s6_137 s7_137 ?_
        exact ⟨_, rfl, _, _, rfl, ox16_136.base (Nat.le_trans low9.ge low36.ge), o136.base (Nat.le_trans low9.ge low36.ge), (low9.trans (low36.trans low137))⟩
end Go.Proofs.YtenbgnlkkmnmhaaDoor.Q
end
/-! M5 -/
section
namespace Go.Proofs.YtenbgnlkkmnmhaaDoor.Q
open Go.RowKit
set_option linter.unusedSimpArgs false
section
variable {b o t : List LfR} {p : ByteArray}
end
section
variable {b o t : List LfR} {ps : List ByteArray} {k : Nat}
end
def mapB (ks : List ByteArray) : List (ByteArray × Value) := ks.foldl (fun m k => mput m k (.bool true)) []
def memB (k : ByteArray) (ks : List ByteArray) : Bool := ks.any fun x => decide (x = k)
theorem memB_iff (k : ByteArray) (ks : List ByteArray) : memB k ks = true ↔ k ∈ ks := by
  unfold memB
  rw [List.any_eq_true]
  constructor
  · rintro ⟨x, hx, h⟩
    exact of_decide_eq_true h ▸ hx
  · intro h
    exact ⟨k, h, decide_eq_true rfl⟩
theorem mapB_snoc (ks : List ByteArray) (k : ByteArray) : mput (mapB ks) k (.bool true) = mapB (ks ++ [k]) := by
  unfold mapB
  rw [List.foldl_append]
  rfl
theorem look_mapB (ks : List ByteArray) (k : ByteArray) : (mlook (mapB ks) k).getD (.bool false) = .bool (memB k ks) := by
  have key : ∀ (ks : List ByteArray) (m : List (ByteArray × Value)) (r : Bool), (mlook m k).getD (.bool false) = .bool r →
      (mlook (ks.foldl (fun m k => mput m k (.bool true)) m) k).getD (.bool false) = .bool (r || memB k ks) := by
    intro ks
    induction ks with
    | nil => intro m r h; rw [show memB k [] = false from rfl, Bool.or_false]; exact h
    | cons x ks ih =>
      intro m r h
      rw [List.foldl_cons, show memB k (x :: ks) = (decide (x = k) || memB k ks) from rfl]
      by_cases hx : x = k
      · rw [ih _ true (by rw [mlook_put, if_pos hx]; rfl), decide_eq_true hx]
        simp
      · rw [ih _ r (by rw [mlook_put, if_neg hx]; exact h), decide_eq_false hx, Bool.false_or]
  have := key ks [] false rfl
  rw [Bool.false_or] at this
  exact this
def ordAt (l : List LfL) (i : Nat) : Prop := ¬ (l.getD i zL).f0 = ⟨#[]⟩ ∧ (0 < i → lessB (l.getD (i - 1) zL).f0 (l.getD i zL).f0 = true)
instance ordDec (l : List LfL) (i : Nat) : Decidable (ordAt l i) := by unfold ordAt; infer_instance
def ordN (l : List LfL) : Nat := (List.range l.length).findIdx fun i => decide (¬ ordAt l i)
theorem ordN_le (l : List LfL) : ordN l ≤ l.length := by
  have := List.findIdx_le_length (xs := List.range l.length) (p := fun i => decide (¬ ordAt l i))
  rwa [List.length_range] at this
theorem ordN_round {l : List LfL} {i : Nat} (h : i < ordN l) : ordAt l i := by
  have h1 := List.not_of_lt_findIdx h
  rw [List.getElem_range] at h1
  simpa using h1
theorem ordN_stop {l : List LfL} (h : ordN l < l.length) : ¬ ordAt l (ordN l) := by
  have h1 : decide (¬ ordAt l ((List.range l.length)[ordN l]'(by rw [List.length_range]; exact h))) = true := List.findIdx_getElem (w := by rw [List.length_range]; exact h)
  rw [List.getElem_range] at h1
  exact of_decide_eq_true h1
def rowOk (l : List LfL) : Bool := fewB l && decide (ordN l = l.length)
def okN (L : List (List LfL)) : Nat := L.findIdx fun l => !rowOk l
theorem okN_le (L : List (List LfL)) : okN L ≤ L.length := List.findIdx_le_length
theorem okN_round {L : List (List LfL)} {i : Nat} (h : i < okN L) : rowOk (L.getD i []) = true := by
  have h1 : i < L.length := Nat.lt_of_lt_of_le h (okN_le L)
  have := List.not_of_lt_findIdx h
  rw [List.getD_eq_getElem?_getD, List.getElem?_eq_getElem h1]
  simpa using this
theorem okN_stop {L : List (List LfL)} (h : okN L < L.length) : rowOk (L.getD (okN L) []) = false := by
  have : (!rowOk (L[okN L])) = true := List.findIdx_getElem (w := h)
  rw [List.getD_eq_getElem?_getD, List.getElem?_eq_getElem h]
  rw [Bool.not_eq_true'] at this
  exact this
theorem rowOk_few {l : List LfL} (h : rowOk l = true) : fewB l = true := (Bool.and_eq_true _ _ ▸ h).1
theorem rowOk_ord {l : List LfL} (h : rowOk l = true) : ordN l = l.length := of_decide_eq_true (Bool.and_eq_true _ _ ▸ h).2
theorem rowOk_not {l : List LfL} (h : rowOk l = false) (h' : fewB l = true) : ordN l < l.length := by
  have := ordN_le l
  unfold rowOk at h
  rw [h', Bool.true_and] at h
  have := of_decide_eq_false h
  omega
theorem few_all {l : List LfL} (h : fewB l = true) : l.length ≤ 60 ∧ ∀ i, i < l.length → fewAt l i := by
  unfold fewB at h
  have hn : ¬ fewN l < l.length := by simpa using h
  have hle := fewN_le l
  have hall : ∀ i, i < l.length → fewAt l i := fun i hi => fewN_round (by omega)
  refine ⟨?_, hall⟩
  rcases Nat.lt_or_ge 60 l.length with h | h
  · exact absurd (hall 60 h).1 (by omega)
  · exact h
theorem le_not (s t : ByteArray) : (lessB s t || (s.toList == t.toList)) = !lessB t s := by
  rw [beqS]
  cases h : lessB t s with
  | true =>
    rw [lessB_asymm h, Bool.false_or]
    exact decide_eq_false fun e => lessB_ne h e.symm
  | false =>
    cases h' : lessB s t with
    | true => rfl
    | false => rw [Bool.false_or]; exact decide_eq_true (lessB_tri h' h)
theorem leT {s t : ByteArray} (h : ¬ lessB t s = true) : (lessB s t || (s.toList == t.toList)) = true := by rw [le_not]; simpa using h
theorem leF {s t : ByteArray} (h : lessB t s = true) : (lessB s t || (s.toList == t.toList)) = false := by rw [le_not, h]; rfl
def mayB (L : List (List LfL)) : Bool := decide (okN L = L.length)
end Go.Proofs.YtenbgnlkkmnmhaaDoor.Q
end
/-! E5 -/
section
namespace Go.Proofs.YtenbgnlkkmnmhaaDoor.Q
open Go.RowKit Go.Proofs.YtenbgnlkkmnmhaaDoor.P
open Go.Proofs.YtenbgnlkkmnmhaaDoorW.PrintWords (bytesOf bytesOf_length)
set_option linter.unusedVariables false
set_option linter.unusedSimpArgs false
set_option maxRecDepth 100000
set_option maxHeartbeats 4000000
attribute [local irreducible] wpList wpQuiet qch Code.wp Oper.quiet Act.put At Region.wanted yielded
theorem len_zero {α : Type} (l : List α) : decide (((l.length : Nat) : Int) = 0) = l.isEmpty := by cases l <;> simp <;> omega
theorem Clean.calls (vb vo vt : Value) (lb lo lt : List LfL) (hlb : lb.length ≤ 100000) (hlo : lo.length ≤ 100000) (hlt : lt.length ≤ 100000) (ho : shortL lo) (ht : shortL lt) (w0 : World) (hvb : RdF w0 3 vb lb.length (lb.map encL).flatten) (hvo : RdF w0 3 vo lo.length (lo.map encL).flatten) (hvt : RdF w0 3 vt lt.length (lt.map encL).flatten) : Calls Tryd.prog 11 #[vb, vo, vt] w0 fun e w' => e = .returned (.bool (badA lb lo lt).isEmpty) ∧ Low w0 w' := by
  refine c_fun (R := _) Tryd.func11 rfl 19 rfl (Nat.le_of_ble_eq_true rfl) ?_
  intro a z hA
  have s0 := hA 0 _ rfl
  have s1 := hA 1 _ rfl
  have s2 := hA 2 _ rfl
  clear hA
  refine c_seq ?_
  refine c_region ?_
  refine l_q rfl (q_assign _ _ rfl rfl ?_)
  refine l_end ?_
  refine e_fresh z.put ?_
  intro a1 z1 m1
  have s0_1 := m1 _ _ (s0.ne rfl)
  have s1_1 := m1 _ _ (s1.ne rfl)
  have s2_1 := m1 _ _ (s2.ne rfl)
  clear m1
  refine e_then ?_
  refine c_seq ?_
  refine c_region ?_
  refine l_q rfl (q_move _ _ rfl s0_1.ev ?_)
  refine l_q rfl (q_move _ _ rfl (s1_1.ne rfl).ev ?_)
  refine l_q rfl (q_move _ _ rfl ((s2_1.ne rfl).ne rfl).ev ?_)
  refine l_call _ rfl rfl rfl Tryd.func8 rfl (args3 rfl (((At.hit z1 rfl).ne rfl).ne rfl).ev ((At.hit z1.put rfl).ne rfl).ev (At.hit z1.put.put rfl).ev) (Three.calls _ _ _ lb lo lt hlb hlo hlt ho ht _ hvb hvo hvt) ?_
  rintro _ w2 ⟨p2, q2, rfl, o2, oo2, h2⟩
  replace o2 := o2.base (Low.refl _).ge
  replace oo2 := oo2.base (Low.refl _).ge
  have ovb_2 := hvb.low h2
  have ovo_2 := hvo.low h2
  have ovt_2 := hvt.low h2
  refine l_q rfl (q_move _ _ rfl (At.hit z1.put.put.put rfl).ev ?_)
  refine l_q rfl (q_extract rfl (At.hit z1.put.put.put.put rfl).ev rfl ?_)
  refine l_q rfl (q_extract rfl ((At.hit z1.put.put.put.put rfl).ne rfl).ev rfl ?_)
  refine l_q rfl (q_assign _ _ rfl ((At.hit z1.put.put.put.put.put rfl).ne rfl).ev ?_)
  refine l_fresh z1.put.put.put.put.put.put.put.put ?_
  intro a3 z3 m3
  have s15_3 := m3 _ _ ((At.hit z1.put.put.put.put.put.put rfl).ne rfl)
  clear m3
  refine l_q rfl (q_assign _ _ rfl s15_3.ev ?_)
  refine l_end ?_
  refine e_fresh z3.put ?_
  intro a4 z4 m4
  have s8_4 := m4 _ _ (At.hit z3 rfl)
  have low4 := h2
  clear m4
  refine e_then ?_
  refine c_seq ?_
  refine c_region ?_
  refine l_q rfl (q_move _ _ rfl s8_4.ev ?_)
  refine l_q rfl (q_lenF rfl rfl Tryd.underlying26 (At.hit z4 rfl).ev oo2.rd ?_)
  refine l_q rfl (q_eql _ rfl (At.hit z4.put rfl).ev rfl rfl ?_)
  refine l_q rfl (q_assign _ _ rfl (At.hit z4.put.put rfl).ev ?_)
  refine l_end ?_
  refine e_fresh z4.put.put.put.put ?_
  intro a5 z5 m5
  have s6_5 := m5 _ _ (At.hit z4.put.put.put rfl)
  clear m5
  refine e_then ?_
  refine wp_ret ?_
  refine r_tmp rfl z5.defers s6_5 ?_
  exact ⟨by rw [len_zero], low4⟩
end Go.Proofs.YtenbgnlkkmnmhaaDoor.Q
end
/-! M6 -/
section
namespace Go.Proofs.YtenbgnlkkmnmhaaDoor.Q
open Go.RowKit
set_option linter.unusedSimpArgs false
def RiseL (l : List LfL) : Prop := l.Pairwise fun x y => lessB x.f0 y.f0 = true
theorem fold_none (l : List LfL) (p : ByteArray) (r : LfL) (h : ∀ x ∈ l, ¬ x.f0 = p) : l.foldl (fun r x => if x.f0 = p then x else r) r = r := by
  induction l with
  | nil => rfl
  | cons x l ih =>
    rw [List.foldl_cons, if_neg (h x List.mem_cons_self)]
    exact ih fun y hy => h y (List.mem_cons_of_mem _ hy)
section
variable {b o t : List LfL}
end
theorem bytes_take (s : ByteArray) (n : Nat) : (s.extract 0 n).data.toList = s.data.toList.take n := by
  simp [ByteArray.data_extract]
theorem bytes_len (s : ByteArray) : s.data.toList.length = s.size := by simp
theorem prefB_iff (s p : ByteArray) : prefB s p = true ↔ p.data.toList <+: s.data.toList := by
  unfold prefB
  rw [List.prefix_iff_eq_take, bytes_len, ← bytes_take]
  split
  · rw [beqS, decide_eq_true_iff]
    exact ⟨fun h => by rw [h], fun h => (ba_ext h).symm⟩
  · rename_i h
    constructor
    · intro h'; cases h'
    · intro h'
      have := congrArg List.length h'
      rw [bytes_take, List.length_take, bytes_len, bytes_len] at this
      omega
theorem within_iff (s d : ByteArray) : within s d = true ↔ (d.data.toList ++ [47]) <+: s.data.toList := by
  unfold within
  rw [List.prefix_iff_eq_take, List.length_append, bytes_len]
  split
  · rename_i h
    have hd : d.size < s.data.toList.length := by rw [bytes_len]; exact h
    have e : s.data.toList.take (d.size + [(47 : UInt8)].length) = s.data.toList.take d.size ++ [s.data.toList[d.size]] := by
      rw [List.length_singleton, List.take_succ_eq_append_getElem hd]
    have e2 : s.data.toList[d.size] = s[d.size] := by simp; rfl
    rw [e, e2, Bool.and_eq_true, decide_eq_true_iff, decide_eq_true_iff, ← bytes_take]
    constructor
    · rintro ⟨h1, h2⟩
      rw [h1]
      congr 2
      have : (s[d.size]).toNat = 47 := by omega
      exact UInt8.toNat_inj.1 this.symm
    · intro h1
      obtain ⟨h2, h3⟩ := List.append_inj' h1 rfl
      refine ⟨(ba_ext h2).symm, ?_⟩
      injection h3 with h3 _
      rw [← h3]
      rfl
  · rename_i h
    constructor
    · intro h'; cases h'
    · intro h'
      have := congrArg List.length h'
      rw [List.length_append, List.length_take, bytes_len, bytes_len, List.length_singleton] at this
      omega
theorem pref_slash (y x : ByteArray) : prefB y (x ++ slash) = within y x := by
  rw [Bool.eq_iff_iff, prefB_iff, within_iff]
  have : (x ++ slash).data.toList = x.data.toList ++ [47] := by
    rw [ByteArray.data_append, Array.toList_append]
    rfl
  rw [this]
theorem list_lt_more : ∀ (l : List UInt8) (c : UInt8) (r : List UInt8), l < l ++ c :: r
  | [], c, r => List.nil_lt_cons c r
  | x :: l, c, r => by
    rw [List.cons_append, List.cons_lt_cons_iff]
    exact .inr ⟨rfl, list_lt_more l c r⟩
theorem within_less {y x : ByteArray} (h : within y x = true) : lessB x y = true := by
  obtain ⟨r, hr⟩ := (within_iff y x).1 h
  rw [lessB_iff, ← hr, List.append_assoc]
  exact list_lt_more _ _ _
theorem out_sub (b o t : List LfL) : ∀ ps : List ByteArray, ((outT b o t ps).map (·.f0)).Sublist ps
  | [] => .slnil
  | p :: ps => by
    have ih := out_sub b o t ps
    unfold outT at *
    rw [List.map_cons, List.filter_cons]
    split
    · rename_i h
      rcases cellT_mem b o t p with h' | h'
      · exact absurd h' (of_decide_eq_true h)
      · rw [List.map_cons, h'.2]
        exact ih.cons_cons p
    · exact ih.cons p
theorem pathsT_rise (b o t : List LfL) : Rise (pathsT b o t) := compB_rise _ (sortB_sorted _)
theorem outF_rise (b o t : List LfL) : RiseL (outF b o t) := by
  have h := List.Pairwise.sublist (out_sub b o t (pathsT b o t)) (pathsT_rise b o t)
  exact List.pairwise_map.1 h
theorem under_iff {l : List LfL} (h : RiseL l) {k : Nat} (hk : k < l.length) : underB l k = true ↔ ∃ m, m < l.length ∧ within (l.getD m zL).f0 (l.getD k zL).f0 = true := by
  unfold underB
  rw [List.any_eq_true]
  constructor
  · rintro ⟨y, hy, hp⟩
    obtain ⟨i, hi, rfl⟩ := List.mem_iff_getElem.1 hy
    rw [List.length_drop] at hi
    refine ⟨k + i, by omega, ?_⟩
    rw [List.getElem_drop, pref_slash] at hp
    rw [List.getD_eq_getElem?_getD, List.getElem?_eq_getElem (show k + i < l.length by omega)]
    exact hp
  · rintro ⟨m, hm, hw⟩
    have hlt := within_less hw
    have g : ∀ i, (hi : i < l.length) → l.getD i zL = l[i] := fun i hi => by rw [List.getD_eq_getElem?_getD, List.getElem?_eq_getElem hi]; rfl
    rw [g m hm, g k hk] at hlt hw
    have hkm : k ≤ m := by
      rcases Nat.lt_or_ge m k with h' | h'
      · have := lessB_asymm (List.pairwise_iff_getElem.1 h m k hm hk h')
        rw [hlt] at this
        cases this
      · exact h'
    refine ⟨l[m], ?_, by rw [pref_slash, g k hk]; exact hw⟩
    rw [List.mem_iff_getElem]
    exact ⟨m - k, by rw [List.length_drop]; omega, by rw [List.getElem_drop]; congr 1; omega⟩
theorem dirs_mem (a : List ByteArray) (l : List LfL) (x : ByteArray) : ∀ n, x ∈ dirsF a l n ↔ x ∈ a ∨ ∃ k, k < n ∧ underB l k = true ∧ x = (l.getD k zL).f0
  | 0 => by simp [dirsF]
  | n + 1 => by
    have ih := dirs_mem a l x n
    unfold dirsF
    split
    · rename_i h
      rw [List.mem_append, List.mem_singleton, ih]
      constructor
      · rintro ((h1 | ⟨k, hk, h1, h2⟩) | h1)
        · exact .inl h1
        · exact .inr ⟨k, by omega, h1, h2⟩
        · exact .inr ⟨n, by omega, h, h1⟩
      · rintro (h1 | ⟨k, hk, h1, h2⟩)
        · exact .inl (.inl h1)
        · rcases Nat.lt_or_ge k n with h3 | h3
          · exact .inl (.inr ⟨k, h3, h1, h2⟩)
          · obtain rfl : k = n := by omega
            exact .inr h2
    · rename_i h
      rw [ih]
      constructor
      · rintro (h1 | ⟨k, hk, h1, h2⟩)
        · exact .inl h1
        · exact .inr ⟨k, by omega, h1, h2⟩
      · rintro (h1 | ⟨k, hk, h1, h2⟩)
        · exact .inl h1
        · rcases Nat.lt_or_ge k n with h3 | h3
          · exact .inr ⟨k, h3, h1, h2⟩
          · obtain rfl : k = n := by omega
            exact absurd h1 h
theorem badA_rise (b o t : List LfL) : Rise (badA b o t) := compB_rise _ (sortB_sorted _)
theorem badA_mem (b o t : List LfL) (x : ByteArray) : x ∈ badA b o t ↔ x ∈ badF b o t ∨ ∃ k, k < (outF b o t).length ∧ underB (outF b o t) k = true ∧ x = ((outF b o t).getD k zL).f0 := by
  unfold badA
  rw [compB_mem, sortB_mem]
  exact dirs_mem _ _ _ _
theorem badA_len (b o t : List LfL) : (badA b o t).length ≤ (badF b o t).length + (outF b o t).length := by
  unfold badA compB
  rw [List.length_map]
  refine Nat.le_trans (compact_len _ _) ?_
  rw [sortB_len]
  exact dirs_len _ _ _
theorem okRow {l : List LfL} (h : rowOk l = true) : RiseL l ∧ shortL l ∧ l.length ≤ 60 ∧ ∀ x ∈ l, ¬ x.f0 = ⟨#[]⟩ := by
  obtain ⟨h60, hf⟩ := few_all (rowOk_few h)
  have ho := rowOk_ord h
  have hat : ∀ i, i < l.length → ordAt l i := fun i hi => ordN_round (by omega)
  have g : ∀ i, (hi : i < l.length) → l.getD i zL = l[i] := fun i hi => by rw [List.getD_eq_getElem?_getD, List.getElem?_eq_getElem hi]; rfl
  refine ⟨?_, ?_, h60, ?_⟩
  · have key : ∀ j i, (hij : i < j) → (hj : j < l.length) → lessB (l[i]'(by omega)).f0 l[j].f0 = true := by
      intro j
      induction j with
      | zero => intro i hij; omega
      | succ j ih =>
        intro i hij hj
        have h1 := (hat (j + 1) hj).2 (by omega)
        rw [Nat.add_sub_cancel, g j (by omega), g (j + 1) hj] at h1
        by_cases hi : i = j
        · subst hi; exact h1
        · exact lessB_trans (ih i (by omega) (by omega)) h1
    exact List.pairwise_iff_getElem.2 fun i j hi hj hij => key j i hij hj
  · intro x hx
    obtain ⟨i, hi, rfl⟩ := List.mem_iff_getElem.1 hx
    have := (hf i hi).2.1
    rw [g i hi] at this
    omega
  · intro x hx
    obtain ⟨i, hi, rfl⟩ := List.mem_iff_getElem.1 hx
    have := (hat i hi).1
    rw [g i hi] at this
    exact this
theorem may3 {b o t : List LfL} (h : mayB [b, o, t] = true) : rowOk b = true ∧ rowOk o = true ∧ rowOk t = true := by
  have h := of_decide_eq_true h
  have h3 : okN [b, o, t] = 3 := h
  exact ⟨okN_round (L := [b, o, t]) (i := 0) (by omega), okN_round (L := [b, o, t]) (i := 1) (by omega), okN_round (L := [b, o, t]) (i := 2) (by omega)⟩
end Go.Proofs.YtenbgnlkkmnmhaaDoor.Q
end
/-! M7 -/
section
namespace Go.Proofs.YtenbgnlkkmnmhaaDoor.Q
open Go.RowKit
set_option linter.unusedSimpArgs false
def leafA : LfL := ⟨⟨#[97]⟩, 1, ⟨#[49]⟩⟩
def leafB : LfL := ⟨⟨#[98]⟩, 1, ⟨#[49]⟩⟩
def leafC : LfL := ⟨⟨#[97]⟩, 1, ⟨#[50]⟩⟩
theorem aw1 : outF [leafA] [leafA, leafB] [] = [leafB] := by
  unfold outF pathsT
  rw [comp_sort]
  kernel_rfl
theorem aw2 : badA [leafA] [leafA, leafB] [] = [] := by
  unfold badA badD badF outF pathsT
  simp only [comp_sort]
  kernel_rfl
theorem aw3 : badA [leafA] [] [leafC] = [⟨#[97]⟩] := by
  unfold badA badD badF outF pathsT
  simp only [comp_sort]
  kernel_rfl
theorem aw4 : (badA [] [] [leafA]).isEmpty = true := by
  unfold badA badD badF outF pathsT
  simp only [comp_sort]
  kernel_rfl
theorem aw5 : (badA [] [leafC] [leafA]).isEmpty = false := by
  unfold badA badD badF outF pathsT
  simp only [comp_sort]
  kernel_rfl
theorem shortA : shortL [leafA] := fun x hx => by rw [List.mem_singleton.1 hx]; decide
theorem shortC : shortL [leafC] := fun x hx => by rw [List.mem_singleton.1 hx]; decide
theorem shortN : shortL [] := fun x hx => by cases hx
theorem shortAB : shortL [leafA, leafB] := fun x hx => by
  rcases List.mem_cons.1 hx with h | h
  · rw [h]; decide
  · rw [List.mem_singleton.1 h]; decide
/-- a row that was laid as_ a literal -/
theorem rdF_rec {w : World} {g n sz : Nat} {vs : List Value} {E : TypeId} (h : w.heap[g]? = some (.cells vs.toArray E)) (hn : vs.length = n * sz) : RdF w sz (.slice (some ⟨g, 0, none⟩) n n) n vs :=
  ⟨hn, _, n, rfl, Nat.le_refl _, fun _ => ⟨g, 0, rfl, heap_lt h, fun j u hu => by
    rw [Nat.zero_add]
    rw [cells_at h j]
    simpa using hu⟩⟩
def RowT (l : List LfL) : Value → World → Prop := fun v w => RdF w 3 v l.length (l.map encL).flatten
theorem StL_row (l : List LfL) : StL (RowT l) := fun _ _ _ h k => h.low k
end Go.Proofs.YtenbgnlkkmnmhaaDoor.Q
end
/-! E6 -/
section
namespace Go.Proofs.YtenbgnlkkmnmhaaDoor.Q
open Go.RowKit Go.Proofs.YtenbgnlkkmnmhaaDoor.P
open Go.Proofs.YtenbgnlkkmnmhaaDoorW.PrintWords (bytesOf bytesOf_length)
set_option linter.unusedVariables false
set_option linter.unusedSimpArgs false
set_option maxRecDepth 100000
set_option maxHeartbeats 4000000
attribute [local irreducible] wpList wpQuiet qch Code.wp Oper.quiet Act.put At Region.wanted yielded
theorem May.calls (v : Value) (vs : List Value) (L : List (List LfL)) (hLn : L.length ≤ 1000000) (w0 : World) (hv : RdFF w0 3 encL v vs L) : Calls Tryd.prog 6 #[v] w0 fun e w' => e = .returned (.bool (mayB L)) ∧ Low w0 w' := by
  refine c_fun (R := _) Tryd.func6 rfl 59 rfl (Nat.le_of_ble_eq_true rfl) ?_
  intro a z hA
  have s0 := hA 0 _ rfl
  clear hA
  refine c_seq ?_
  refine c_region ?_
  refine l_q rfl (q_assign _ _ rfl rfl ?_)
  refine l_end ?_
  refine e_fresh z.put ?_
  intro a1 z1 m1
  have s0_1 := m1 _ _ (s0.ne rfl)
  clear m1
  refine e_then ?_
  refine c_seq ?_
  refine c_seq ?_
  refine c_region ?_
  refine l_q rfl (q_assign _ _ rfl rfl ?_)
  refine l_end ?_
  refine e_fresh z1.put ?_
  intro a2 z2 m2
  have s0_2 := m2 _ _ (s0_1.ne rfl)
  have s3_2 := m2 _ _ (At.hit z1 rfl)
  clear m2
  refine e_then ?_
  refine wp_block ?_
  refine c_loop (okN L) (fun k a w => Fr 59 a ∧ At a 0 (v) ∧ At a 3 (.int .i64 ((k : Nat) : Int)) ∧ Low w0 w) ?_ ?_ ?_
  · exact ⟨z2, s0_2, s3_2, (Low.refl _)⟩
  · intro k a3 w3 hk3 h
    obtain ⟨z3, s0_3, s3_3, low3⟩ := h
    clear s0_2 s3_2 z2
    have hle := okN_le L
    have hrk : rowOk (L.getD k []) = true := okN_round (by assumption)
    have hf60 := (few_all (rowOk_few hrk)).1
    refine c_seq ?_
    refine c_seq ?_
    refine c_region ?_
    refine l_q rfl (q_move _ _ rfl s3_3.ev ?_)
    refine l_q rfl (q_move _ _ rfl (s0_3.ne rfl).ev ?_)
    refine l_q rfl (q_lenF rfl rfl Tryd.underlying35 (At.hit z3.put rfl).ev (hv.low low3).1 ?_)
    refine l_q rfl (q_lss true rfl (((At.hit z3 rfl).ne rfl).ne rfl).ev (At.hit z3.put.put rfl).ev (decide_eq_true (by omega)) ?_)
    refine l_end ?_
    refine e_fresh z3.put.put.put.put ?_
    intro a4 z4 m4
    have s0_4 := m4 _ _ ((((s0_3.ne rfl).ne rfl).ne rfl).ne rfl)
    have s3_4 := m4 _ _ ((((s3_3.ne rfl).ne rfl).ne rfl).ne rfl)
    have s8_4 := m4 _ _ (At.hit z3.put.put.put rfl)
    clear m4
    refine e_then ?_
    refine c_true s8_4 ?_
    refine wp_skip ?_
    refine e_then ?_
    refine c_seq ?_
    refine wp_block ?_
    refine c_seq ?_
    refine c_seq ?_
    refine c_region ?_
    refine l_q rfl (q_move _ _ rfl s0_4.ev ?_)
    refine l_q rfl (q_move _ _ rfl (s3_4.ne rfl).ev ?_)
    refine l_q rfl (q_idxF (j := k) rfl Tryd.underlying35 sz22 ((At.hit z4 rfl).ne rfl).ev (hv.low low3).1 (At.hit z4.put rfl).ev (by omega) ?_)
    refine l_q rfl (q_ld1 (u := (vs.getD k nilS)) rfl Tryd.underlying22 rfl (At.hit z4.put.put rfl).ev (fun _ e => by rw [e]; exact (hv.low low3).1) (by omega) (RdFF.cell (hv.low low3) (by omega)) ?_)
    refine l_call (fun v w' => v = .bool true ∧ Low w3 w') rfl rfl rfl Tryd.func12 rfl (args1 rfl (At.hit z4.put.put.put rfl).ev) (((calls_bool (Few.calls _ (L.getD k []) _ (RdFF.row (k := k) (hv.low low3) (by omega))) (rowOk_few hrk))).mono fun _ _ ⟨e, k⟩ => ⟨_, e, rfl, k⟩) ?_
    rintro _ w6 ⟨rfl, h6⟩
    have ov_6 := (hv.low low3).low h6
    have oy5_6 := (RdFF.row (k := k) (hv.low low3) (by omega)).low h6
    refine l_q rfl (q_not (b := true) rfl (At.hit z4.put.put.put.put rfl).ev ?_)
    refine l_end ?_
    refine e_fresh z4.put.put.put.put.put.put ?_
    intro a7 z7 m7
    have s0_7 := m7 _ _ ((((((s0_4.ne rfl).ne rfl).ne rfl).ne rfl).ne rfl).ne rfl)
    have s3_7 := m7 _ _ ((((((s3_4.ne rfl).ne rfl).ne rfl).ne rfl).ne rfl).ne rfl)
    have s16_7 := m7 _ _ (At.hit z4.put.put.put.put.put rfl)
    have low7 := (low3.trans h6)
    clear m7
    refine e_then ?_
    refine c_false s16_7 ?_
    refine wp_skip ?_
    refine e_then ?_
    refine c_seq ?_
    refine c_region ?_
    refine l_q rfl (q_assign _ _ rfl rfl ?_)
    refine l_end ?_
    refine e_fresh z7.put ?_
    intro a8 z8 m8
    have s0_8 := m8 _ _ (s0_7.ne rfl)
    have s3_8 := m8 _ _ (s3_7.ne rfl)
    have s4_8 := m8 _ _ (At.hit z7 rfl)
    clear m8
    refine e_then ?_
    refine wp_block ?_
    refine c_loop ((L.getD k []).length) (fun m a w => Fr 59 a ∧ At a 0 (v) ∧ At a 3 (.int .i64 ((k : Nat) : Int)) ∧ At a 4 (.int .i64 ((m : Nat) : Int)) ∧ Low w0 w) ?_ ?_ ?_
    · exact ⟨z8, s0_8, s3_8, s4_8, low7⟩
    · intro m a9 w9 hk9 h
      obtain ⟨z9, s0_9, s3_9, s4_9, low9⟩ := h
      clear low7 s0_8 s3_8 s4_8 z8
      have hod : ordAt (L.getD k []) m := ordN_round (by rw [rowOk_ord hrk]; assumption)
      obtain ⟨hne, hlt⟩ := hod
      refine c_seq ?_
      refine c_seq ?_
      refine c_region ?_
      refine l_q rfl (q_move _ _ rfl s4_9.ev ?_)
      refine l_q rfl (q_move _ _ rfl (s0_9.ne rfl).ev ?_)
      refine l_q rfl (q_move _ _ rfl ((s3_9.ne rfl).ne rfl).ev ?_)
      refine l_q rfl (q_idxF (j := k) rfl Tryd.underlying35 sz22 ((At.hit z9.put rfl).ne rfl).ev (hv.low low9).1 (At.hit z9.put.put rfl).ev (by omega) ?_)
      refine l_q rfl (q_ld1 (u := (vs.getD k nilS)) rfl Tryd.underlying22 rfl (At.hit z9.put.put.put rfl).ev (fun _ e => by rw [e]; exact (hv.low low9).1) (by omega) (RdFF.cell (hv.low low9) (by omega)) ?_)
      refine l_q rfl (q_lenF rfl rfl Tryd.underlying22 (At.hit z9.put.put.put.put rfl).ev (RdFF.row (k := k) (hv.low low9) (by omega)) ?_)
      refine l_q rfl (q_lss true rfl ((((((At.hit z9 rfl).ne rfl).ne rfl).ne rfl).ne rfl).ne rfl).ev (At.hit z9.put.put.put.put.put rfl).ev (decide_eq_true (by omega)) ?_)
      refine l_end ?_
      refine e_fresh z9.put.put.put.put.put.put.put ?_
      intro a11 z11 m11
      have s0_11 := m11 _ _ (((((((s0_9.ne rfl).ne rfl).ne rfl).ne rfl).ne rfl).ne rfl).ne rfl)
      have s3_11 := m11 _ _ (((((((s3_9.ne rfl).ne rfl).ne rfl).ne rfl).ne rfl).ne rfl).ne rfl)
      have s4_11 := m11 _ _ (((((((s4_9.ne rfl).ne rfl).ne rfl).ne rfl).ne rfl).ne rfl).ne rfl)
      have s23_11 := m11 _ _ (At.hit z9.put.put.put.put.put.put rfl)
      clear m11
      refine e_then ?_
      refine c_true s23_11 ?_
      refine wp_skip ?_
      refine e_then ?_
      refine c_seq ?_
      refine wp_block ?_
      refine c_seq ?_
      by_cases hb12 : 0 < m
      · skip
        refine region_lowg hm (by kernel_rfl) ?_
        refine gs rfl (q_move _ _ rfl s0_11.ev ?_)
        refine gs rfl (q_move _ _ rfl (s3_11.ne rfl).ev ?_)
        refine gs rfl (q_idxF (j := k) rfl Tryd.underlying35 sz22 ((At.hit z11 rfl).ne rfl).ev (hv.low low9).1 (At.hit z11.put rfl).ev (by omega) ?_)
        refine gs rfl (q_ld1 (u := (vs.getD k nilS)) rfl Tryd.underlying22 rfl (At.hit z11.put.put rfl).ev (fun _ h => ((hv.low low9).low h).1) (by omega) (RdFF.cell (hv.low low9) (by omega)) ?_)
        refine gs rfl (q_move _ _ rfl ((((s4_11.ne rfl).ne rfl).ne rfl).ne rfl).ev ?_)
        refine gs rfl (q_idxF (j := m) rfl Tryd.underlying22 sz34 ((At.hit z11.put.put.put rfl).ne rfl).ev (RdFF.row (k := k) (hv.low low9) (by omega)) (At.hit z11.put.put.put.put rfl).ev (by omega) ?_)
        refine gs rfl (q_fldF 0 rfl fld34_0 (At.hit z11.put.put.put.put.put rfl).ev ((RdFF.row (k := k) (hv.low low9) (by omega)).form (by omega)) ?_)
        refine gs rfl (q_ld1 (u := .string (((L.getD k []).getD m zL).f0)) rfl Tryd.underlying9 rfl (At.hit z11.put.put.put.put.put.put rfl).ev (fun _ h => ((RdFF.row (k := k) (hv.low low9) (by omega)).low h)) (by omega) ((flat_at encL_len zL _ m 0 (by omega) (by decide)).trans rfl) ?_)
        refine g_fresh z11.put.put.put.put.put.put.put.put ?_
        intro a14 z14 m14
        have s0_14 := m14 _ _ ((((((((s0_11.ne rfl).ne rfl).ne rfl).ne rfl).ne rfl).ne rfl).ne rfl).ne rfl)
        have s3_14 := m14 _ _ ((((((((s3_11.ne rfl).ne rfl).ne rfl).ne rfl).ne rfl).ne rfl).ne rfl).ne rfl)
        have s4_14 := m14 _ _ ((((((((s4_11.ne rfl).ne rfl).ne rfl).ne rfl).ne rfl).ne rfl).ne rfl).ne rfl)
        have s33_14 := m14 _ _ (At.hit z11.put.put.put.put.put.put.put rfl)
        clear m14
        refine gs rfl (q_streq false rfl s33_14.ev rfl (strF hne) ?_)
        refine gs rfl (q_move _ _ rfl (At.hit z14 rfl).ev ?_)
        refine gsg (wanted_is (j := 9) (d := 35) (b := false) rfl rfl (At.hit z14.put rfl) rfl) (q_move _ _ rfl ((s4_14.ne rfl).ne rfl).ev ?_)
        refine gsg (wanted_is (j := 9) (d := 35) (b := false) rfl rfl ((At.hit z14.put rfl).ne rfl) rfl) (q_gtr true rfl (At.hit z14.put.put rfl).ev rfl (decide_eq_true (by omega)) ?_)
        refine gsg (wanted_is (j := 9) (d := 35) (b := false) rfl rfl (((At.hit z14.put rfl).ne rfl).ne rfl) rfl) (q_move _ _ rfl (At.hit z14.put.put.put rfl).ev ?_)
        refine gsg (wanted_is (j := 12) (d := 38) (b := true) rfl rfl (At.hit z14.put.put.put.put rfl) rfl) (q_move _ _ rfl (((((s0_14.ne rfl).ne rfl).ne rfl).ne rfl).ne rfl).ev ?_)
        refine gsg (wanted_is (j := 12) (d := 38) (b := true) rfl rfl ((At.hit z14.put.put.put.put rfl).ne rfl) rfl) (q_move _ _ rfl ((((((s3_14.ne rfl).ne rfl).ne rfl).ne rfl).ne rfl).ne rfl).ev ?_)
        refine gsg (wanted_is (j := 12) (d := 38) (b := true) rfl rfl (((At.hit z14.put.put.put.put rfl).ne rfl).ne rfl) rfl) (q_idxF (j := k) rfl Tryd.underlying35 sz22 ((At.hit z14.put.put.put.put.put rfl).ne rfl).ev (hv.low low9).1 (At.hit z14.put.put.put.put.put.put rfl).ev (by omega) ?_)
        refine g_fresh z14.put.put.put.put.put.put.put.put ?_
        intro a15 z15 m15
        have s0_15 := m15 _ _ ((((((((s0_14.ne rfl).ne rfl).ne rfl).ne rfl).ne rfl).ne rfl).ne rfl).ne rfl)
        have s3_15 := m15 _ _ ((((((((s3_14.ne rfl).ne rfl).ne rfl).ne rfl).ne rfl).ne rfl).ne rfl).ne rfl)
        have s4_15 := m15 _ _ ((((((((s4_14.ne rfl).ne rfl).ne rfl).ne rfl).ne rfl).ne rfl).ne rfl).ne rfl)
        have s35_15 := m15 _ _ (((((((At.hit z14.put rfl).ne rfl).ne rfl).ne rfl).ne rfl).ne rfl).ne rfl)
        have s38_15 := m15 _ _ ((((At.hit z14.put.put.put.put rfl).ne rfl).ne rfl).ne rfl)
        have s41_15 := m15 _ _ (At.hit z14.put.put.put.put.put.put.put rfl)
        clear m15
        refine gsg (wanted_is (j := 12) (d := 38) (b := true) rfl rfl s38_15 rfl) (q_ld1 (u := (vs.getD k nilS)) rfl Tryd.underlying22 rfl s41_15.ev (fun _ h => ((hv.low low9).low h).1) (by omega) (RdFF.cell (hv.low low9) (by omega)) ?_)
        refine gsg (wanted_is (j := 12) (d := 38) (b := true) rfl rfl (s38_15.ne rfl) rfl) (q_move _ _ rfl (s4_15.ne rfl).ev ?_)
        refine gsg (wanted_is (j := 12) (d := 38) (b := true) rfl rfl ((s38_15.ne rfl).ne rfl) rfl) (q_idxF (j := m) rfl Tryd.underlying22 sz34 ((At.hit z15 rfl).ne rfl).ev (RdFF.row (k := k) (hv.low low9) (by omega)) (At.hit z15.put rfl).ev (by omega) ?_)
        refine gsg (wanted_is (j := 12) (d := 38) (b := true) rfl rfl (((s38_15.ne rfl).ne rfl).ne rfl) rfl) (q_fldF 0 rfl fld34_0 (At.hit z15.put.put rfl).ev ((RdFF.row (k := k) (hv.low low9) (by omega)).form (by omega)) ?_)
        refine gsg (wanted_is (j := 12) (d := 38) (b := true) rfl rfl ((((s38_15.ne rfl).ne rfl).ne rfl).ne rfl) rfl) (q_ld1 (u := .string (((L.getD k []).getD m zL).f0)) rfl Tryd.underlying9 rfl (At.hit z15.put.put.put rfl).ev (fun _ h => ((RdFF.row (k := k) (hv.low low9) (by omega)).low h)) (by omega) ((flat_at encL_len zL _ m 0 (by omega) (by decide)).trans rfl) ?_)
        refine gsg (wanted_is (j := 12) (d := 38) (b := true) rfl rfl (((((s38_15.ne rfl).ne rfl).ne rfl).ne rfl).ne rfl) rfl) (q_move _ _ rfl (((((s0_15.ne rfl).ne rfl).ne rfl).ne rfl).ne rfl).ev ?_)
        refine gsg (wanted_is (j := 12) (d := 38) (b := true) rfl rfl ((((((s38_15.ne rfl).ne rfl).ne rfl).ne rfl).ne rfl).ne rfl) rfl) (q_move _ _ rfl ((((((s3_15.ne rfl).ne rfl).ne rfl).ne rfl).ne rfl).ne rfl).ev ?_)
        refine gsg (wanted_is (j := 12) (d := 38) (b := true) rfl rfl (((((((s38_15.ne rfl).ne rfl).ne rfl).ne rfl).ne rfl).ne rfl).ne rfl) rfl) (q_idxF (j := k) rfl Tryd.underlying35 sz22 ((At.hit z15.put.put.put.put.put rfl).ne rfl).ev (hv.low low9).1 (At.hit z15.put.put.put.put.put.put rfl).ev (by omega) ?_)
        refine g_fresh z15.put.put.put.put.put.put.put.put ?_
        intro a17 z17 m17
        have s0_17 := m17 _ _ ((((((((s0_15.ne rfl).ne rfl).ne rfl).ne rfl).ne rfl).ne rfl).ne rfl).ne rfl)
        have s3_17 := m17 _ _ ((((((((s3_15.ne rfl).ne rfl).ne rfl).ne rfl).ne rfl).ne rfl).ne rfl).ne rfl)
        have s4_17 := m17 _ _ ((((((((s4_15.ne rfl).ne rfl).ne rfl).ne rfl).ne rfl).ne rfl).ne rfl).ne rfl)
        have s35_17 := m17 _ _ ((((((((s35_15.ne rfl).ne rfl).ne rfl).ne rfl).ne rfl).ne rfl).ne rfl).ne rfl)
        have s38_17 := m17 _ _ ((((((((s38_15.ne rfl).ne rfl).ne rfl).ne rfl).ne rfl).ne rfl).ne rfl).ne rfl)
        have s46_17 := m17 _ _ ((((At.hit z15.put.put.put.put rfl).ne rfl).ne rfl).ne rfl)
        have s49_17 := m17 _ _ (At.hit z15.put.put.put.put.put.put.put rfl)
        clear m17
        refine gsg (wanted_is (j := 12) (d := 38) (b := true) rfl rfl s38_17 rfl) (q_ld1 (u := (vs.getD k nilS)) rfl Tryd.underlying22 rfl s49_17.ev (fun _ h => ((hv.low low9).low h).1) (by omega) (RdFF.cell (hv.low low9) (by omega)) ?_)
        refine gsg (wanted_is (j := 12) (d := 38) (b := true) rfl rfl (s38_17.ne rfl) rfl) (q_move _ _ rfl (s4_17.ne rfl).ev ?_)
        refine gsg (wanted_is (j := 12) (d := 38) (b := true) rfl rfl ((s38_17.ne rfl).ne rfl) rfl) (q_sub ((((m : Nat) : Int) - 1)) rfl (At.hit z17.put rfl).ev rfl (i64_is (by omega) (by omega) (by omega)) ?_)
        refine gsg (wanted_is (j := 12) (d := 38) (b := true) rfl rfl (((s38_17.ne rfl).ne rfl).ne rfl) rfl) (q_idxF (j := m - 1) rfl Tryd.underlying22 sz34 (((At.hit z17 rfl).ne rfl).ne rfl).ev (RdFF.row (k := k) (hv.low low9) (by omega)) ((At.hit z17.put.put rfl).same (congrArg (Value.int .i64) (show ((((m : Nat) : Int) - 1) : Int) = ((m - 1 : Nat) : Int) by omega))).ev (by omega) ?_)
        refine gsg (wanted_is (j := 12) (d := 38) (b := true) rfl rfl ((((s38_17.ne rfl).ne rfl).ne rfl).ne rfl) rfl) (q_fldF 0 rfl fld34_0 (At.hit z17.put.put.put rfl).ev ((RdFF.row (k := k) (hv.low low9) (by omega)).form (by omega)) ?_)
        refine gsg (wanted_is (j := 12) (d := 38) (b := true) rfl rfl (((((s38_17.ne rfl).ne rfl).ne rfl).ne rfl).ne rfl) rfl) (q_ld1 (u := .string (((L.getD k []).getD (m - 1) zL).f0)) rfl Tryd.underlying9 rfl (At.hit z17.put.put.put.put rfl).ev (fun _ h => ((RdFF.row (k := k) (hv.low low9) (by omega)).low h)) (by omega) ((flat_at encL_len zL _ (m - 1) 0 (by omega) (by decide)).trans rfl) ?_)
        refine gsg (wanted_is (j := 12) (d := 38) (b := true) rfl rfl ((((((s38_17.ne rfl).ne rfl).ne rfl).ne rfl).ne rfl).ne rfl) rfl) (q_strleq false rfl ((((((s46_17.ne rfl).ne rfl).ne rfl).ne rfl).ne rfl).ne rfl).ev (At.hit z17.put.put.put.put.put rfl).ev (leF (hlt hb12)) ?_)
        refine gsg (wanted_is (j := 9) (d := 35) (b := false) rfl rfl (((((((s35_17.ne rfl).ne rfl).ne rfl).ne rfl).ne rfl).ne rfl).ne rfl) rfl) (q_pick (b := true) (.bool false) rfl (((((((s38_17.ne rfl).ne rfl).ne rfl).ne rfl).ne rfl).ne rfl).ne rfl).ev (At.hit z17.put.put.put.put.put.put rfl).ev ?_)
        refine g_fresh z17.put.put.put.put.put.put.put.put ?_
        intro a19 z19 m19
        have s0_19 := m19 _ _ ((((((((s0_17.ne rfl).ne rfl).ne rfl).ne rfl).ne rfl).ne rfl).ne rfl).ne rfl)
        have s3_19 := m19 _ _ ((((((((s3_17.ne rfl).ne rfl).ne rfl).ne rfl).ne rfl).ne rfl).ne rfl).ne rfl)
        have s4_19 := m19 _ _ ((((((((s4_17.ne rfl).ne rfl).ne rfl).ne rfl).ne rfl).ne rfl).ne rfl).ne rfl)
        have s35_19 := m19 _ _ ((((((((s35_17.ne rfl).ne rfl).ne rfl).ne rfl).ne rfl).ne rfl).ne rfl).ne rfl)
        have s57_19 := m19 _ _ (At.hit z17.put.put.put.put.put.put.put rfl)
        clear m19
        refine gs rfl (q_pick (b := false) (.bool false) rfl s35_19.ev s57_19.ev ?_)
        refine gz ?_
        intro w20 h20
        have ov_20 := (hv.low low9).low h20
        have oy13_20 := (RdFF.row (k := k) (hv.low low9) (by omega)).low h20
        have oy16_20 := (RdFF.row (k := k) (hv.low low9) (by omega)).low h20
        have oy18_20 := (RdFF.row (k := k) (hv.low low9) (by omega)).low h20
        refine e_id ?_
        refine e_fresh z19.put ?_
        intro a21 z21 m21
        have s0_21 := m21 _ _ (s0_19.ne rfl)
        have s3_21 := m21 _ _ (s3_19.ne rfl)
        have s4_21 := m21 _ _ (s4_19.ne rfl)
        have s58_21 := m21 _ _ (At.hit z19 rfl)
        have low21 := (low9.trans h20)
        clear m21
        refine e_then ?_
        refine c_false s58_21 ?_
        refine wp_skip ?_
        refine e_in ?_
        refine e_then ?_
        refine c_region ?_
        refine l_q rfl (q_move _ _ rfl s4_21.ev ?_)
        refine l_q rfl (q_add (((m + 1 : Nat) : Int)) rfl (At.hit z21 rfl).ev rfl (i64_is (by omega) (by omega) (by omega)) ?_)
        refine l_q rfl (q_assign _ _ rfl (At.hit z21.put rfl).ev ?_)
        refine l_end ?_
        refine e_fresh z21.put.put.put ?_
        intro a22 z22 m22
        have s0_22 := m22 _ _ (((s0_21.ne rfl).ne rfl).ne rfl)
        have s3_22 := m22 _ _ (((s3_21.ne rfl).ne rfl).ne rfl)
        have s4_22 := m22 _ _ (At.hit z21.put.put rfl)
        clear m22
        exact ⟨z22, s0_22, s3_22, s4_22, low21⟩
      · skip
        refine region_lowg hm (by kernel_rfl) ?_
        refine gs rfl (q_move _ _ rfl s0_11.ev ?_)
        refine gs rfl (q_move _ _ rfl (s3_11.ne rfl).ev ?_)
        refine gs rfl (q_idxF (j := k) rfl Tryd.underlying35 sz22 ((At.hit z11 rfl).ne rfl).ev (hv.low low9).1 (At.hit z11.put rfl).ev (by omega) ?_)
        refine gs rfl (q_ld1 (u := (vs.getD k nilS)) rfl Tryd.underlying22 rfl (At.hit z11.put.put rfl).ev (fun _ h => ((hv.low low9).low h).1) (by omega) (RdFF.cell (hv.low low9) (by omega)) ?_)
        refine gs rfl (q_move _ _ rfl ((((s4_11.ne rfl).ne rfl).ne rfl).ne rfl).ev ?_)
        refine gs rfl (q_idxF (j := m) rfl Tryd.underlying22 sz34 ((At.hit z11.put.put.put rfl).ne rfl).ev (RdFF.row (k := k) (hv.low low9) (by omega)) (At.hit z11.put.put.put.put rfl).ev (by omega) ?_)
        refine gs rfl (q_fldF 0 rfl fld34_0 (At.hit z11.put.put.put.put.put rfl).ev ((RdFF.row (k := k) (hv.low low9) (by omega)).form (by omega)) ?_)
        refine gs rfl (q_ld1 (u := .string (((L.getD k []).getD m zL).f0)) rfl Tryd.underlying9 rfl (At.hit z11.put.put.put.put.put.put rfl).ev (fun _ h => ((RdFF.row (k := k) (hv.low low9) (by omega)).low h)) (by omega) ((flat_at encL_len zL _ m 0 (by omega) (by decide)).trans rfl) ?_)
        refine g_fresh z11.put.put.put.put.put.put.put.put ?_
        intro a24 z24 m24
        have s0_24 := m24 _ _ ((((((((s0_11.ne rfl).ne rfl).ne rfl).ne rfl).ne rfl).ne rfl).ne rfl).ne rfl)
        have s3_24 := m24 _ _ ((((((((s3_11.ne rfl).ne rfl).ne rfl).ne rfl).ne rfl).ne rfl).ne rfl).ne rfl)
        have s4_24 := m24 _ _ ((((((((s4_11.ne rfl).ne rfl).ne rfl).ne rfl).ne rfl).ne rfl).ne rfl).ne rfl)
        have s33_24 := m24 _ _ (At.hit z11.put.put.put.put.put.put.put rfl)
        clear m24
        refine gs rfl (q_streq false rfl s33_24.ev rfl (strF hne) ?_)
        refine gs rfl (q_move _ _ rfl (At.hit z24 rfl).ev ?_)
        refine gsg (wanted_is (j := 9) (d := 35) (b := false) rfl rfl (At.hit z24.put rfl) rfl) (q_move _ _ rfl ((s4_24.ne rfl).ne rfl).ev ?_)
        refine gsg (wanted_is (j := 9) (d := 35) (b := false) rfl rfl ((At.hit z24.put rfl).ne rfl) rfl) (q_gtr false rfl (At.hit z24.put.put rfl).ev rfl (decide_eq_false (by omega)) ?_)
        refine gsg (wanted_is (j := 9) (d := 35) (b := false) rfl rfl (((At.hit z24.put rfl).ne rfl).ne rfl) rfl) (q_move _ _ rfl (At.hit z24.put.put.put rfl).ev ?_)
        refine gsk (wanted_is (j := 12) (d := 38) (b := false) rfl rfl (At.hit z24.put.put.put.put rfl) rfl) ?_
        refine gsk (wanted_is (j := 12) (d := 38) (b := false) rfl rfl ((At.hit z24.put.put.put.put rfl).ne rfl) rfl) ?_
        refine gsk (wanted_is (j := 12) (d := 38) (b := false) rfl rfl (((At.hit z24.put.put.put.put rfl).ne rfl).ne rfl) rfl) ?_
        refine g_fresh z24.put.put.put.put.put.put.put.put ?_
        intro a25 z25 m25
        have s0_25 := m25 _ _ ((((((((s0_24.ne rfl).ne rfl).ne rfl).ne rfl).ne rfl).ne rfl).ne rfl).ne rfl)
        have s3_25 := m25 _ _ ((((((((s3_24.ne rfl).ne rfl).ne rfl).ne rfl).ne rfl).ne rfl).ne rfl).ne rfl)
        have s4_25 := m25 _ _ ((((((((s4_24.ne rfl).ne rfl).ne rfl).ne rfl).ne rfl).ne rfl).ne rfl).ne rfl)
        have s35_25 := m25 _ _ (((((((At.hit z24.put rfl).ne rfl).ne rfl).ne rfl).ne rfl).ne rfl).ne rfl)
        have s38_25 := m25 _ _ ((((At.hit z24.put.put.put.put rfl).ne rfl).ne rfl).ne rfl)
        have s41_25 := m25 _ _ (At.hit z24.put.put.put.put.put.put.put rfl)
        clear m25
        refine gsk (wanted_is (j := 12) (d := 38) (b := false) rfl rfl s38_25 rfl) ?_
        refine gsk (wanted_is (j := 12) (d := 38) (b := false) rfl rfl (s38_25.ne rfl) rfl) ?_
        refine gsk (wanted_is (j := 12) (d := 38) (b := false) rfl rfl ((s38_25.ne rfl).ne rfl) rfl) ?_
        refine gsk (wanted_is (j := 12) (d := 38) (b := false) rfl rfl (((s38_25.ne rfl).ne rfl).ne rfl) rfl) ?_
        refine gsk (wanted_is (j := 12) (d := 38) (b := false) rfl rfl ((((s38_25.ne rfl).ne rfl).ne rfl).ne rfl) rfl) ?_
        refine gsk (wanted_is (j := 12) (d := 38) (b := false) rfl rfl (((((s38_25.ne rfl).ne rfl).ne rfl).ne rfl).ne rfl) rfl) ?_
        refine gsk (wanted_is (j := 12) (d := 38) (b := false) rfl rfl ((((((s38_25.ne rfl).ne rfl).ne rfl).ne rfl).ne rfl).ne rfl) rfl) ?_
        refine gsk (wanted_is (j := 12) (d := 38) (b := false) rfl rfl (((((((s38_25.ne rfl).ne rfl).ne rfl).ne rfl).ne rfl).ne rfl).ne rfl) rfl) ?_
        refine g_fresh z25.put.put.put.put.put.put.put.put ?_
        intro a26 z26 m26
        have s0_26 := m26 _ _ ((((((((s0_25.ne rfl).ne rfl).ne rfl).ne rfl).ne rfl).ne rfl).ne rfl).ne rfl)
        have s3_26 := m26 _ _ ((((((((s3_25.ne rfl).ne rfl).ne rfl).ne rfl).ne rfl).ne rfl).ne rfl).ne rfl)
        have s4_26 := m26 _ _ ((((((((s4_25.ne rfl).ne rfl).ne rfl).ne rfl).ne rfl).ne rfl).ne rfl).ne rfl)
        have s35_26 := m26 _ _ ((((((((s35_25.ne rfl).ne rfl).ne rfl).ne rfl).ne rfl).ne rfl).ne rfl).ne rfl)
        have s38_26 := m26 _ _ ((((((((s38_25.ne rfl).ne rfl).ne rfl).ne rfl).ne rfl).ne rfl).ne rfl).ne rfl)
        have s46_26 := m26 _ _ ((((At.hit z25.put.put.put.put rfl).ne rfl).ne rfl).ne rfl)
        have s49_26 := m26 _ _ (At.hit z25.put.put.put.put.put.put.put rfl)
        clear m26
        refine gsk (wanted_is (j := 12) (d := 38) (b := false) rfl rfl s38_26 rfl) ?_
        refine gsk (wanted_is (j := 12) (d := 38) (b := false) rfl rfl (s38_26.ne rfl) rfl) ?_
        refine gsk (wanted_is (j := 12) (d := 38) (b := false) rfl rfl ((s38_26.ne rfl).ne rfl) rfl) ?_
        refine gsk (wanted_is (j := 12) (d := 38) (b := false) rfl rfl (((s38_26.ne rfl).ne rfl).ne rfl) rfl) ?_
        refine gsk (wanted_is (j := 12) (d := 38) (b := false) rfl rfl ((((s38_26.ne rfl).ne rfl).ne rfl).ne rfl) rfl) ?_
        refine gsk (wanted_is (j := 12) (d := 38) (b := false) rfl rfl (((((s38_26.ne rfl).ne rfl).ne rfl).ne rfl).ne rfl) rfl) ?_
        refine gsk (wanted_is (j := 12) (d := 38) (b := false) rfl rfl ((((((s38_26.ne rfl).ne rfl).ne rfl).ne rfl).ne rfl).ne rfl) rfl) ?_
        refine gsg (wanted_is (j := 9) (d := 35) (b := false) rfl rfl (((((((s35_26.ne rfl).ne rfl).ne rfl).ne rfl).ne rfl).ne rfl).ne rfl) rfl) (q_pick (b := false) (.bool false) rfl (((((((s38_26.ne rfl).ne rfl).ne rfl).ne rfl).ne rfl).ne rfl).ne rfl).ev rfl ?_)
        refine g_fresh z26.put.put.put.put.put.put.put.put ?_
        intro a27 z27 m27
        have s0_27 := m27 _ _ ((((((((s0_26.ne rfl).ne rfl).ne rfl).ne rfl).ne rfl).ne rfl).ne rfl).ne rfl)
        have s3_27 := m27 _ _ ((((((((s3_26.ne rfl).ne rfl).ne rfl).ne rfl).ne rfl).ne rfl).ne rfl).ne rfl)
        have s4_27 := m27 _ _ ((((((((s4_26.ne rfl).ne rfl).ne rfl).ne rfl).ne rfl).ne rfl).ne rfl).ne rfl)
        have s35_27 := m27 _ _ ((((((((s35_26.ne rfl).ne rfl).ne rfl).ne rfl).ne rfl).ne rfl).ne rfl).ne rfl)
        have s57_27 := m27 _ _ (At.hit z26.put.put.put.put.put.put.put rfl)
        clear m27
        refine gs rfl (q_pick (b := false) (.bool false) rfl s35_27.ev s57_27.ev ?_)
        refine gz ?_
        intro w28 h28
        have ov_28 := (hv.low low9).low h28
        have oy23_28 := (RdFF.row (k := k) (hv.low low9) (by omega)).low h28
        refine e_id ?_
        refine e_fresh z27.put ?_
        intro a29 z29 m29
        have s0_29 := m29 _ _ (s0_27.ne rfl)
        have s3_29 := m29 _ _ (s3_27.ne rfl)
        have s4_29 := m29 _ _ (s4_27.ne rfl)
        have s58_29 := m29 _ _ (At.hit z27 rfl)
        have low29 := (low9.trans h28)
        clear m29
        refine e_then ?_
        refine c_false s58_29 ?_
        refine wp_skip ?_
        refine e_in ?_
        refine e_then ?_
        refine c_region ?_
        refine l_q rfl (q_move _ _ rfl s4_29.ev ?_)
        refine l_q rfl (q_add (((m + 1 : Nat) : Int)) rfl (At.hit z29 rfl).ev rfl (i64_is (by omega) (by omega) (by omega)) ?_)
        refine l_q rfl (q_assign _ _ rfl (At.hit z29.put rfl).ev ?_)
        refine l_end ?_
        refine e_fresh z29.put.put.put ?_
        intro a30 z30 m30
        have s0_30 := m30 _ _ (((s0_29.ne rfl).ne rfl).ne rfl)
        have s3_30 := m30 _ _ (((s3_29.ne rfl).ne rfl).ne rfl)
        have s4_30 := m30 _ _ (At.hit z29.put.put rfl)
        clear m30
        exact ⟨z30, s0_30, s3_30, s4_30, low29⟩
    · intro a31 w31 h
      obtain ⟨z31, s0_31, s3_31, s4_31, low31⟩ := h
      clear low7 s0_8 s3_8 s4_8 z8
      refine c_seq ?_
      refine c_seq ?_
      refine c_region ?_
      refine l_q rfl (q_move _ _ rfl s4_31.ev ?_)
      refine l_q rfl (q_move _ _ rfl (s0_31.ne rfl).ev ?_)
      refine l_q rfl (q_move _ _ rfl ((s3_31.ne rfl).ne rfl).ev ?_)
      refine l_q rfl (q_idxF (j := k) rfl Tryd.underlying35 sz22 ((At.hit z31.put rfl).ne rfl).ev (hv.low low31).1 (At.hit z31.put.put rfl).ev (by omega) ?_)
      refine l_q rfl (q_ld1 (u := (vs.getD k nilS)) rfl Tryd.underlying22 rfl (At.hit z31.put.put.put rfl).ev (fun _ e => by rw [e]; exact (hv.low low31).1) (by omega) (RdFF.cell (hv.low low31) (by omega)) ?_)
      refine l_q rfl (q_lenF rfl rfl Tryd.underlying22 (At.hit z31.put.put.put.put rfl).ev (RdFF.row (k := k) (hv.low low31) (by omega)) ?_)
      refine l_q rfl (q_lss false rfl ((((((At.hit z31 rfl).ne rfl).ne rfl).ne rfl).ne rfl).ne rfl).ev (At.hit z31.put.put.put.put.put rfl).ev (decide_eq_false (by omega)) ?_)
      refine l_end ?_
      refine e_fresh z31.put.put.put.put.put.put.put ?_
      intro a33 z33 m33
      have s0_33 := m33 _ _ (((((((s0_31.ne rfl).ne rfl).ne rfl).ne rfl).ne rfl).ne rfl).ne rfl)
      have s3_33 := m33 _ _ (((((((s3_31.ne rfl).ne rfl).ne rfl).ne rfl).ne rfl).ne rfl).ne rfl)
      have s4_33 := m33 _ _ (((((((s4_31.ne rfl).ne rfl).ne rfl).ne rfl).ne rfl).ne rfl).ne rfl)
      have s23_33 := m33 _ _ (At.hit z31.put.put.put.put.put.put rfl)
      clear m33
      refine e_then ?_
      refine c_false s23_33 ?_
      refine wp_exit ?_
      refine x_then ?_
      refine x_then ?_
      refine in_exit ?_
      refine e_in ?_
      refine e_then ?_
      refine c_region ?_
      refine l_q rfl (q_move _ _ rfl s3_33.ev ?_)
      refine l_q rfl (q_add (((k + 1 : Nat) : Int)) rfl (At.hit z33 rfl).ev rfl (i64_is (by omega) (by omega) (by omega)) ?_)
      refine l_q rfl (q_assign _ _ rfl (At.hit z33.put rfl).ev ?_)
      refine l_end ?_
      refine e_fresh z33.put.put.put ?_
      intro a34 z34 m34
      have s0_34 := m34 _ _ (((s0_33.ne rfl).ne rfl).ne rfl)
      have s3_34 := m34 _ _ (At.hit z33.put.put rfl)
      clear m34
      exact ⟨z34, s0_34, s3_34, low31⟩
  · intro a35 w35 h
    obtain ⟨z35, s0_35, s3_35, low35⟩ := h
    clear s0_2 s3_2 z2
    have hle := okN_le L
    refine c_seq ?_
    refine c_seq ?_
    by_cases hb36 : okN L < L.length
    · skip
      refine c_region ?_
      refine l_q rfl (q_move _ _ rfl s3_35.ev ?_)
      refine l_q rfl (q_move _ _ rfl (s0_35.ne rfl).ev ?_)
      refine l_q rfl (q_lenF rfl rfl Tryd.underlying35 (At.hit z35.put rfl).ev (hv.low low35).1 ?_)
      refine l_q rfl (q_lss true rfl (((At.hit z35 rfl).ne rfl).ne rfl).ev (At.hit z35.put.put rfl).ev (decide_eq_true (by omega)) ?_)
      refine l_end ?_
      refine e_fresh z35.put.put.put.put ?_
      intro a37 z37 m37
      have s0_37 := m37 _ _ ((((s0_35.ne rfl).ne rfl).ne rfl).ne rfl)
      have s3_37 := m37 _ _ ((((s3_35.ne rfl).ne rfl).ne rfl).ne rfl)
      have s8_37 := m37 _ _ (At.hit z35.put.put.put rfl)
      clear m37
      refine e_then ?_
      refine c_true s8_37 ?_
      refine wp_skip ?_
      refine e_then ?_
      refine c_seq ?_
      refine wp_block ?_
      refine c_seq ?_
      refine c_seq ?_
      by_cases hb38 : fewB (L.getD (okN L) []) = true
      · skip
        refine c_region ?_
        refine l_q rfl (q_move _ _ rfl s0_37.ev ?_)
        refine l_q rfl (q_move _ _ rfl (s3_37.ne rfl).ev ?_)
        refine l_q rfl (q_idxF (j := (okN L)) rfl Tryd.underlying35 sz22 ((At.hit z37 rfl).ne rfl).ev (hv.low low35).1 (At.hit z37.put rfl).ev (by omega) ?_)
        refine l_q rfl (q_ld1 (u := (vs.getD (okN L) nilS)) rfl Tryd.underlying22 rfl (At.hit z37.put.put rfl).ev (fun _ e => by rw [e]; exact (hv.low low35).1) (by omega) (RdFF.cell (hv.low low35) (by omega)) ?_)
        refine l_call (fun v w' => v = .bool true ∧ Low w35 w') rfl rfl rfl Tryd.func12 rfl (args1 rfl (At.hit z37.put.put.put rfl).ev) (((calls_bool (Few.calls _ (L.getD (okN L) []) _ (RdFF.row (k := (okN L)) (hv.low low35) (by omega))) hb38)).mono fun _ _ ⟨e, k⟩ => ⟨_, e, rfl, k⟩) ?_
        rintro _ w40 ⟨rfl, h40⟩
        have ov_40 := (hv.low low35).low h40
        have oy39_40 := (RdFF.row (k := (okN L)) (hv.low low35) (by omega)).low h40
        refine l_q rfl (q_not (b := true) rfl (At.hit z37.put.put.put.put rfl).ev ?_)
        refine l_end ?_
        refine e_fresh z37.put.put.put.put.put.put ?_
        intro a41 z41 m41
        have s0_41 := m41 _ _ ((((((s0_37.ne rfl).ne rfl).ne rfl).ne rfl).ne rfl).ne rfl)
        have s3_41 := m41 _ _ ((((((s3_37.ne rfl).ne rfl).ne rfl).ne rfl).ne rfl).ne rfl)
        have s16_41 := m41 _ _ (At.hit z37.put.put.put.put.put rfl)
        have low41 := (low35.trans h40)
        clear m41
        refine e_then ?_
        refine c_false s16_41 ?_
        refine wp_skip ?_
        refine e_then ?_
        refine c_seq ?_
        refine c_region ?_
        refine l_q rfl (q_assign _ _ rfl rfl ?_)
        refine l_end ?_
        refine e_fresh z41.put ?_
        intro a42 z42 m42
        have s0_42 := m42 _ _ (s0_41.ne rfl)
        have s3_42 := m42 _ _ (s3_41.ne rfl)
        have s4_42 := m42 _ _ (At.hit z41 rfl)
        clear m42
        refine e_then ?_
        refine wp_block ?_
        refine c_loop (ordN (L.getD (okN L) [])) (fun m a w => Fr 59 a ∧ At a 0 (v) ∧ At a 3 (.int .i64 (((okN L) : Nat) : Int)) ∧ At a 4 (.int .i64 ((m : Nat) : Int)) ∧ Low w0 w) ?_ ?_ ?_
        · exact ⟨z42, s0_42, s3_42, s4_42, low41⟩
        · intro m a43 w43 hk43 h
          obtain ⟨z43, s0_43, s3_43, s4_43, low43⟩ := h
          clear low41 s0_42 s3_42 s4_42 z42
          have hon := rowOk_not (okN_stop hb36) hb38
          have hf60 := (few_all hb38).1
          have hod : ordAt (L.getD (okN L) []) m := ordN_round (by assumption)
          obtain ⟨hne, hlt⟩ := hod
          refine c_seq ?_
          refine c_seq ?_
          refine c_region ?_
          refine l_q rfl (q_move _ _ rfl s4_43.ev ?_)
          refine l_q rfl (q_move _ _ rfl (s0_43.ne rfl).ev ?_)
          refine l_q rfl (q_move _ _ rfl ((s3_43.ne rfl).ne rfl).ev ?_)
          refine l_q rfl (q_idxF (j := (okN L)) rfl Tryd.underlying35 sz22 ((At.hit z43.put rfl).ne rfl).ev (hv.low low43).1 (At.hit z43.put.put rfl).ev (by omega) ?_)
          refine l_q rfl (q_ld1 (u := (vs.getD (okN L) nilS)) rfl Tryd.underlying22 rfl (At.hit z43.put.put.put rfl).ev (fun _ e => by rw [e]; exact (hv.low low43).1) (by omega) (RdFF.cell (hv.low low43) (by omega)) ?_)
          refine l_q rfl (q_lenF rfl rfl Tryd.underlying22 (At.hit z43.put.put.put.put rfl).ev (RdFF.row (k := (okN L)) (hv.low low43) (by omega)) ?_)
          refine l_q rfl (q_lss true rfl ((((((At.hit z43 rfl).ne rfl).ne rfl).ne rfl).ne rfl).ne rfl).ev (At.hit z43.put.put.put.put.put rfl).ev (decide_eq_true (by omega)) ?_)
          refine l_end ?_
          refine e_fresh z43.put.put.put.put.put.put.put ?_
          intro a45 z45 m45
          have s0_45 := m45 _ _ (((((((s0_43.ne rfl).ne rfl).ne rfl).ne rfl).ne rfl).ne rfl).ne rfl)
          have s3_45 := m45 _ _ (((((((s3_43.ne rfl).ne rfl).ne rfl).ne rfl).ne rfl).ne rfl).ne rfl)
          have s4_45 := m45 _ _ (((((((s4_43.ne rfl).ne rfl).ne rfl).ne rfl).ne rfl).ne rfl).ne rfl)
          have s23_45 := m45 _ _ (At.hit z43.put.put.put.put.put.put rfl)
          clear m45
          refine e_then ?_
          refine c_true s23_45 ?_
          refine wp_skip ?_
          refine e_then ?_
          refine c_seq ?_
          refine wp_block ?_
          refine c_seq ?_
          by_cases hb46 : 0 < m
          · skip
            refine region_lowg hm (by kernel_rfl) ?_
            refine gs rfl (q_move _ _ rfl s0_45.ev ?_)
            refine gs rfl (q_move _ _ rfl (s3_45.ne rfl).ev ?_)
            refine gs rfl (q_idxF (j := (okN L)) rfl Tryd.underlying35 sz22 ((At.hit z45 rfl).ne rfl).ev (hv.low low43).1 (At.hit z45.put rfl).ev (by omega) ?_)
            refine gs rfl (q_ld1 (u := (vs.getD (okN L) nilS)) rfl Tryd.underlying22 rfl (At.hit z45.put.put rfl).ev (fun _ h => ((hv.low low43).low h).1) (by omega) (RdFF.cell (hv.low low43) (by omega)) ?_)
            refine gs rfl (q_move _ _ rfl ((((s4_45.ne rfl).ne rfl).ne rfl).ne rfl).ev ?_)
            refine gs rfl (q_idxF (j := m) rfl Tryd.underlying22 sz34 ((At.hit z45.put.put.put rfl).ne rfl).ev (RdFF.row (k := (okN L)) (hv.low low43) (by omega)) (At.hit z45.put.put.put.put rfl).ev (by omega) ?_)
            refine gs rfl (q_fldF 0 rfl fld34_0 (At.hit z45.put.put.put.put.put rfl).ev ((RdFF.row (k := (okN L)) (hv.low low43) (by omega)).form (by omega)) ?_)
            refine gs rfl (q_ld1 (u := .string (((L.getD (okN L) []).getD m zL).f0)) rfl Tryd.underlying9 rfl (At.hit z45.put.put.put.put.put.put rfl).ev (fun _ h => ((RdFF.row (k := (okN L)) (hv.low low43) (by omega)).low h)) (by omega) ((flat_at encL_len zL _ m 0 (by omega) (by decide)).trans rfl) ?_)
            refine g_fresh z45.put.put.put.put.put.put.put.put ?_
            intro a48 z48 m48
            have s0_48 := m48 _ _ ((((((((s0_45.ne rfl).ne rfl).ne rfl).ne rfl).ne rfl).ne rfl).ne rfl).ne rfl)
            have s3_48 := m48 _ _ ((((((((s3_45.ne rfl).ne rfl).ne rfl).ne rfl).ne rfl).ne rfl).ne rfl).ne rfl)
            have s4_48 := m48 _ _ ((((((((s4_45.ne rfl).ne rfl).ne rfl).ne rfl).ne rfl).ne rfl).ne rfl).ne rfl)
            have s33_48 := m48 _ _ (At.hit z45.put.put.put.put.put.put.put rfl)
            clear m48
            refine gs rfl (q_streq false rfl s33_48.ev rfl (strF hne) ?_)
            refine gs rfl (q_move _ _ rfl (At.hit z48 rfl).ev ?_)
            refine gsg (wanted_is (j := 9) (d := 35) (b := false) rfl rfl (At.hit z48.put rfl) rfl) (q_move _ _ rfl ((s4_48.ne rfl).ne rfl).ev ?_)
            refine gsg (wanted_is (j := 9) (d := 35) (b := false) rfl rfl ((At.hit z48.put rfl).ne rfl) rfl) (q_gtr true rfl (At.hit z48.put.put rfl).ev rfl (decide_eq_true (by omega)) ?_)
            refine gsg (wanted_is (j := 9) (d := 35) (b := false) rfl rfl (((At.hit z48.put rfl).ne rfl).ne rfl) rfl) (q_move _ _ rfl (At.hit z48.put.put.put rfl).ev ?_)
            refine gsg (wanted_is (j := 12) (d := 38) (b := true) rfl rfl (At.hit z48.put.put.put.put rfl) rfl) (q_move _ _ rfl (((((s0_48.ne rfl).ne rfl).ne rfl).ne rfl).ne rfl).ev ?_)
            refine gsg (wanted_is (j := 12) (d := 38) (b := true) rfl rfl ((At.hit z48.put.put.put.put rfl).ne rfl) rfl) (q_move _ _ rfl ((((((s3_48.ne rfl).ne rfl).ne rfl).ne rfl).ne rfl).ne rfl).ev ?_)
            refine gsg (wanted_is (j := 12) (d := 38) (b := true) rfl rfl (((At.hit z48.put.put.put.put rfl).ne rfl).ne rfl) rfl) (q_idxF (j := (okN L)) rfl Tryd.underlying35 sz22 ((At.hit z48.put.put.put.put.put rfl).ne rfl).ev (hv.low low43).1 (At.hit z48.put.put.put.put.put.put rfl).ev (by omega) ?_)
            refine g_fresh z48.put.put.put.put.put.put.put.put ?_
            intro a49 z49 m49
            have s0_49 := m49 _ _ ((((((((s0_48.ne rfl).ne rfl).ne rfl).ne rfl).ne rfl).ne rfl).ne rfl).ne rfl)
            have s3_49 := m49 _ _ ((((((((s3_48.ne rfl).ne rfl).ne rfl).ne rfl).ne rfl).ne rfl).ne rfl).ne rfl)
            have s4_49 := m49 _ _ ((((((((s4_48.ne rfl).ne rfl).ne rfl).ne rfl).ne rfl).ne rfl).ne rfl).ne rfl)
            have s35_49 := m49 _ _ (((((((At.hit z48.put rfl).ne rfl).ne rfl).ne rfl).ne rfl).ne rfl).ne rfl)
            have s38_49 := m49 _ _ ((((At.hit z48.put.put.put.put rfl).ne rfl).ne rfl).ne rfl)
            have s41_49 := m49 _ _ (At.hit z48.put.put.put.put.put.put.put rfl)
            clear m49
            refine gsg (wanted_is (j := 12) (d := 38) (b := true) rfl rfl s38_49 rfl) (q_ld1 (u := (vs.getD (okN L) nilS)) rfl Tryd.underlying22 rfl s41_49.ev (fun _ h => ((hv.low low43).low h).1) (by omega) (RdFF.cell (hv.low low43) (by omega)) ?_)
            refine gsg (wanted_is (j := 12) (d := 38) (b := true) rfl rfl (s38_49.ne rfl) rfl) (q_move _ _ rfl (s4_49.ne rfl).ev ?_)
            refine gsg (wanted_is (j := 12) (d := 38) (b := true) rfl rfl ((s38_49.ne rfl).ne rfl) rfl) (q_idxF (j := m) rfl Tryd.underlying22 sz34 ((At.hit z49 rfl).ne rfl).ev (RdFF.row (k := (okN L)) (hv.low low43) (by omega)) (At.hit z49.put rfl).ev (by omega) ?_)
            refine gsg (wanted_is (j := 12) (d := 38) (b := true) rfl rfl (((s38_49.ne rfl).ne rfl).ne rfl) rfl) (q_fldF 0 rfl fld34_0 (At.hit z49.put.put rfl).ev ((RdFF.row (k := (okN L)) (hv.low low43) (by omega)).form (by omega)) ?_)
            refine gsg (wanted_is (j := 12) (d := 38) (b := true) rfl rfl ((((s38_49.ne rfl).ne rfl).ne rfl).ne rfl) rfl) (q_ld1 (u := .string (((L.getD (okN L) []).getD m zL).f0)) rfl Tryd.underlying9 rfl (At.hit z49.put.put.put rfl).ev (fun _ h => ((RdFF.row (k := (okN L)) (hv.low low43) (by omega)).low h)) (by omega) ((flat_at encL_len zL _ m 0 (by omega) (by decide)).trans rfl) ?_)
            refine gsg (wanted_is (j := 12) (d := 38) (b := true) rfl rfl (((((s38_49.ne rfl).ne rfl).ne rfl).ne rfl).ne rfl) rfl) (q_move _ _ rfl (((((s0_49.ne rfl).ne rfl).ne rfl).ne rfl).ne rfl).ev ?_)
            refine gsg (wanted_is (j := 12) (d := 38) (b := true) rfl rfl ((((((s38_49.ne rfl).ne rfl).ne rfl).ne rfl).ne rfl).ne rfl) rfl) (q_move _ _ rfl ((((((s3_49.ne rfl).ne rfl).ne rfl).ne rfl).ne rfl).ne rfl).ev ?_)
            refine gsg (wanted_is (j := 12) (d := 38) (b := true) rfl rfl (((((((s38_49.ne rfl).ne rfl).ne rfl).ne rfl).ne rfl).ne rfl).ne rfl) rfl) (q_idxF (j := (okN L)) rfl Tryd.underlying35 sz22 ((At.hit z49.put.put.put.put.put rfl).ne rfl).ev (hv.low low43).1 (At.hit z49.put.put.put.put.put.put rfl).ev (by omega) ?_)
            refine g_fresh z49.put.put.put.put.put.put.put.put ?_
            intro a51 z51 m51
            have s0_51 := m51 _ _ ((((((((s0_49.ne rfl).ne rfl).ne rfl).ne rfl).ne rfl).ne rfl).ne rfl).ne rfl)
            have s3_51 := m51 _ _ ((((((((s3_49.ne rfl).ne rfl).ne rfl).ne rfl).ne rfl).ne rfl).ne rfl).ne rfl)
            have s4_51 := m51 _ _ ((((((((s4_49.ne rfl).ne rfl).ne rfl).ne rfl).ne rfl).ne rfl).ne rfl).ne rfl)
            have s35_51 := m51 _ _ ((((((((s35_49.ne rfl).ne rfl).ne rfl).ne rfl).ne rfl).ne rfl).ne rfl).ne rfl)
            have s38_51 := m51 _ _ ((((((((s38_49.ne rfl).ne rfl).ne rfl).ne rfl).ne rfl).ne rfl).ne rfl).ne rfl)
            have s46_51 := m51 _ _ ((((At.hit z49.put.put.put.put rfl).ne rfl).ne rfl).ne rfl)
            have s49_51 := m51 _ _ (At.hit z49.put.put.put.put.put.put.put rfl)
            clear m51
            refine gsg (wanted_is (j := 12) (d := 38) (b := true) rfl rfl s38_51 rfl) (q_ld1 (u := (vs.getD (okN L) nilS)) rfl Tryd.underlying22 rfl s49_51.ev (fun _ h => ((hv.low low43).low h).1) (by omega) (RdFF.cell (hv.low low43) (by omega)) ?_)
            refine gsg (wanted_is (j := 12) (d := 38) (b := true) rfl rfl (s38_51.ne rfl) rfl) (q_move _ _ rfl (s4_51.ne rfl).ev ?_)
            refine gsg (wanted_is (j := 12) (d := 38) (b := true) rfl rfl ((s38_51.ne rfl).ne rfl) rfl) (q_sub ((((m : Nat) : Int) - 1)) rfl (At.hit z51.put rfl).ev rfl (i64_is (by omega) (by omega) (by omega)) ?_)
            refine gsg (wanted_is (j := 12) (d := 38) (b := true) rfl rfl (((s38_51.ne rfl).ne rfl).ne rfl) rfl) (q_idxF (j := m - 1) rfl Tryd.underlying22 sz34 (((At.hit z51 rfl).ne rfl).ne rfl).ev (RdFF.row (k := (okN L)) (hv.low low43) (by omega)) ((At.hit z51.put.put rfl).same (congrArg (Value.int .i64) (show ((((m : Nat) : Int) - 1) : Int) = ((m - 1 : Nat) : Int) by omega))).ev (by omega) ?_)
            refine gsg (wanted_is (j := 12) (d := 38) (b := true) rfl rfl ((((s38_51.ne rfl).ne rfl).ne rfl).ne rfl) rfl) (q_fldF 0 rfl fld34_0 (At.hit z51.put.put.put rfl).ev ((RdFF.row (k := (okN L)) (hv.low low43) (by omega)).form (by omega)) ?_)
            refine gsg (wanted_is (j := 12) (d := 38) (b := true) rfl rfl (((((s38_51.ne rfl).ne rfl).ne rfl).ne rfl).ne rfl) rfl) (q_ld1 (u := .string (((L.getD (okN L) []).getD (m - 1) zL).f0)) rfl Tryd.underlying9 rfl (At.hit z51.put.put.put.put rfl).ev (fun _ h => ((RdFF.row (k := (okN L)) (hv.low low43) (by omega)).low h)) (by omega) ((flat_at encL_len zL _ (m - 1) 0 (by omega) (by decide)).trans rfl) ?_)
            refine gsg (wanted_is (j := 12) (d := 38) (b := true) rfl rfl ((((((s38_51.ne rfl).ne rfl).ne rfl).ne rfl).ne rfl).ne rfl) rfl) (q_strleq false rfl ((((((s46_51.ne rfl).ne rfl).ne rfl).ne rfl).ne rfl).ne rfl).ev (At.hit z51.put.put.put.put.put rfl).ev (leF (hlt hb46)) ?_)
            refine gsg (wanted_is (j := 9) (d := 35) (b := false) rfl rfl (((((((s35_51.ne rfl).ne rfl).ne rfl).ne rfl).ne rfl).ne rfl).ne rfl) rfl) (q_pick (b := true) (.bool false) rfl (((((((s38_51.ne rfl).ne rfl).ne rfl).ne rfl).ne rfl).ne rfl).ne rfl).ev (At.hit z51.put.put.put.put.put.put rfl).ev ?_)
            refine g_fresh z51.put.put.put.put.put.put.put.put ?_
            intro a53 z53 m53
            have s0_53 := m53 _ _ ((((((((s0_51.ne rfl).ne rfl).ne rfl).ne rfl).ne rfl).ne rfl).ne rfl).ne rfl)
            have s3_53 := m53 _ _ ((((((((s3_51.ne rfl).ne rfl).ne rfl).ne rfl).ne rfl).ne rfl).ne rfl).ne rfl)
            have s4_53 := m53 _ _ ((((((((s4_51.ne rfl).ne rfl).ne rfl).ne rfl).ne rfl).ne rfl).ne rfl).ne rfl)
            have s35_53 := m53 _ _ ((((((((s35_51.ne rfl).ne rfl).ne rfl).ne rfl).ne rfl).ne rfl).ne rfl).ne rfl)
            have s57_53 := m53 _ _ (At.hit z51.put.put.put.put.put.put.put rfl)
            clear m53
            refine gs rfl (q_pick (b := false) (.bool false) rfl s35_53.ev s57_53.ev ?_)
            refine gz ?_
            intro w54 h54
            have ov_54 := (hv.low low43).low h54
            have oy47_54 := (RdFF.row (k := (okN L)) (hv.low low43) (by omega)).low h54
            have oy50_54 := (RdFF.row (k := (okN L)) (hv.low low43) (by omega)).low h54
            have oy52_54 := (RdFF.row (k := (okN L)) (hv.low low43) (by omega)).low h54
            refine e_id ?_
            refine e_fresh z53.put ?_
            intro a55 z55 m55
            have s0_55 := m55 _ _ (s0_53.ne rfl)
            have s3_55 := m55 _ _ (s3_53.ne rfl)
            have s4_55 := m55 _ _ (s4_53.ne rfl)
            have s58_55 := m55 _ _ (At.hit z53 rfl)
            have low55 := (low43.trans h54)
            clear m55
            refine e_then ?_
            refine c_false s58_55 ?_
            refine wp_skip ?_
            refine e_in ?_
            refine e_then ?_
            refine c_region ?_
            refine l_q rfl (q_move _ _ rfl s4_55.ev ?_)
            refine l_q rfl (q_add (((m + 1 : Nat) : Int)) rfl (At.hit z55 rfl).ev rfl (i64_is (by omega) (by omega) (by omega)) ?_)
            refine l_q rfl (q_assign _ _ rfl (At.hit z55.put rfl).ev ?_)
            refine l_end ?_
            refine e_fresh z55.put.put.put ?_
            intro a56 z56 m56
            have s0_56 := m56 _ _ (((s0_55.ne rfl).ne rfl).ne rfl)
            have s3_56 := m56 _ _ (((s3_55.ne rfl).ne rfl).ne rfl)
            have s4_56 := m56 _ _ (At.hit z55.put.put rfl)
            clear m56
            exact ⟨z56, s0_56, s3_56, s4_56, low55⟩
          · skip
            refine region_lowg hm (by kernel_rfl) ?_
            refine gs rfl (q_move _ _ rfl s0_45.ev ?_)
            refine gs rfl (q_move _ _ rfl (s3_45.ne rfl).ev ?_)
            refine gs rfl (q_idxF (j := (okN L)) rfl Tryd.underlying35 sz22 ((At.hit z45 rfl).ne rfl).ev (hv.low low43).1 (At.hit z45.put rfl).ev (by omega) ?_)
            refine gs rfl (q_ld1 (u := (vs.getD (okN L) nilS)) rfl Tryd.underlying22 rfl (At.hit z45.put.put rfl).ev (fun _ h => ((hv.low low43).low h).1) (by omega) (RdFF.cell (hv.low low43) (by omega)) ?_)
            refine gs rfl (q_move _ _ rfl ((((s4_45.ne rfl).ne rfl).ne rfl).ne rfl).ev ?_)
            refine gs rfl (q_idxF (j := m) rfl Tryd.underlying22 sz34 ((At.hit z45.put.put.put rfl).ne rfl).ev (RdFF.row (k := (okN L)) (hv.low low43) (by omega)) (At.hit z45.put.put.put.put rfl).ev (by omega) ?_)
            refine gs rfl (q_fldF 0 rfl fld34_0 (At.hit z45.put.put.put.put.put rfl).ev ((RdFF.row (k := (okN L)) (hv.low low43) (by omega)).form (by omega)) ?_)
            refine gs rfl (q_ld1 (u := .string (((L.getD (okN L) []).getD m zL).f0)) rfl Tryd.underlying9 rfl (At.hit z45.put.put.put.put.put.put rfl).ev (fun _ h => ((RdFF.row (k := (okN L)) (hv.low low43) (by omega)).low h)) (by omega) ((flat_at encL_len zL _ m 0 (by omega) (by decide)).trans rfl) ?_)
            refine g_fresh z45.put.put.put.put.put.put.put.put ?_
            intro a58 z58 m58
            have s0_58 := m58 _ _ ((((((((s0_45.ne rfl).ne rfl).ne rfl).ne rfl).ne rfl).ne rfl).ne rfl).ne rfl)
            have s3_58 := m58 _ _ ((((((((s3_45.ne rfl).ne rfl).ne rfl).ne rfl).ne rfl).ne rfl).ne rfl).ne rfl)
            have s4_58 := m58 _ _ ((((((((s4_45.ne rfl).ne rfl).ne rfl).ne rfl).ne rfl).ne rfl).ne rfl).ne rfl)
            have s33_58 := m58 _ _ (At.hit z45.put.put.put.put.put.put.put rfl)
            clear m58
            refine gs rfl (q_streq false rfl s33_58.ev rfl (strF hne) ?_)
            refine gs rfl (q_move _ _ rfl (At.hit z58 rfl).ev ?_)
            refine gsg (wanted_is (j := 9) (d := 35) (b := false) rfl rfl (At.hit z58.put rfl) rfl) (q_move _ _ rfl ((s4_58.ne rfl).ne rfl).ev ?_)
            refine gsg (wanted_is (j := 9) (d := 35) (b := false) rfl rfl ((At.hit z58.put rfl).ne rfl) rfl) (q_gtr false rfl (At.hit z58.put.put rfl).ev rfl (decide_eq_false (by omega)) ?_)
            refine gsg (wanted_is (j := 9) (d := 35) (b := false) rfl rfl (((At.hit z58.put rfl).ne rfl).ne rfl) rfl) (q_move _ _ rfl (At.hit z58.put.put.put rfl).ev ?_)
            refine gsk (wanted_is (j := 12) (d := 38) (b := false) rfl rfl (At.hit z58.put.put.put.put rfl) rfl) ?_
            refine gsk (wanted_is (j := 12) (d := 38) (b := false) rfl rfl ((At.hit z58.put.put.put.put rfl).ne rfl) rfl) ?_
            refine gsk (wanted_is (j := 12) (d := 38) (b := false) rfl rfl (((At.hit z58.put.put.put.put rfl).ne rfl).ne rfl) rfl) ?_
            refine g_fresh z58.put.put.put.put.put.put.put.put ?_
            intro a59 z59 m59
            have s0_59 := m59 _ _ ((((((((s0_58.ne rfl).ne rfl).ne rfl).ne rfl).ne rfl).ne rfl).ne rfl).ne rfl)
            have s3_59 := m59 _ _ ((((((((s3_58.ne rfl).ne rfl).ne rfl).ne rfl).ne rfl).ne rfl).ne rfl).ne rfl)
            have s4_59 := m59 _ _ ((((((((s4_58.ne rfl).ne rfl).ne rfl).ne rfl).ne rfl).ne rfl).ne rfl).ne rfl)
            have s35_59 := m59 _ _ (((((((At.hit z58.put rfl).ne rfl).ne rfl).ne rfl).ne rfl).ne rfl).ne rfl)
            have s38_59 := m59 _ _ ((((At.hit z58.put.put.put.put rfl).ne rfl).ne rfl).ne rfl)
            have s41_59 := m59 _ _ (At.hit z58.put.put.put.put.put.put.put rfl)
            clear m59
            refine gsk (wanted_is (j := 12) (d := 38) (b := false) rfl rfl s38_59 rfl) ?_
            refine gsk (wanted_is (j := 12) (d := 38) (b := false) rfl rfl (s38_59.ne rfl) rfl) ?_
            refine gsk (wanted_is (j := 12) (d := 38) (b := false) rfl rfl ((s38_59.ne rfl).ne rfl) rfl) ?_
            refine gsk (wanted_is (j := 12) (d := 38) (b := false) rfl rfl (((s38_59.ne rfl).ne rfl).ne rfl) rfl) ?_
            refine gsk (wanted_is (j := 12) (d := 38) (b := false) rfl rfl ((((s38_59.ne rfl).ne rfl).ne rfl).ne rfl) rfl) ?_
            refine gsk (wanted_is (j := 12) (d := 38) (b := false) rfl rfl (((((s38_59.ne rfl).ne rfl).ne rfl).ne rfl).ne rfl) rfl) ?_
            refine gsk (wanted_is (j := 12) (d := 38) (b := false) rfl rfl ((((((s38_59.ne rfl).ne rfl).ne rfl).ne rfl).ne rfl).ne rfl) rfl) ?_
            refine gsk (wanted_is (j := 12) (d := 38) (b := false) rfl rfl (((((((s38_59.ne rfl).ne rfl).ne rfl).ne rfl).ne rfl).ne rfl).ne rfl) rfl) ?_
            refine g_fresh z59.put.put.put.put.put.put.put.put ?_
            intro a60 z60 m60
            have s0_60 := m60 _ _ ((((((((s0_59.ne rfl).ne rfl).ne rfl).ne rfl).ne rfl).ne rfl).ne rfl).ne rfl)
            have s3_60 := m60 _ _ ((((((((s3_59.ne rfl).ne rfl).ne rfl).ne rfl).ne rfl).ne rfl).ne rfl).ne rfl)
            have s4_60 := m60 _ _ ((((((((s4_59.ne rfl).ne rfl).ne rfl).ne rfl).ne rfl).ne rfl).ne rfl).ne rfl)
            have s35_60 := m60 _ _ ((((((((s35_59.ne rfl).ne rfl).ne rfl).ne rfl).ne rfl).ne rfl).ne rfl).ne rfl)
            have s38_60 := m60 _ _ ((((((((s38_59.ne rfl).ne rfl).ne rfl).ne rfl).ne rfl).ne rfl).ne rfl).ne rfl)
            have s46_60 := m60 _ _ ((((At.hit z59.put.put.put.put rfl).ne rfl).ne rfl).ne rfl)
            have s49_60 := m60 _ _ (At.hit z59.put.put.put.put.put.put.put rfl)
            clear m60
            refine gsk (wanted_is (j := 12) (d := 38) (b := false) rfl rfl s38_60 rfl) ?_
            refine gsk (wanted_is (j := 12) (d := 38) (b := false) rfl rfl (s38_60.ne rfl) rfl) ?_
            refine gsk (wanted_is (j := 12) (d := 38) (b := false) rfl rfl ((s38_60.ne rfl).ne rfl) rfl) ?_
            refine gsk (wanted_is (j := 12) (d := 38) (b := false) rfl rfl (((s38_60.ne rfl).ne rfl).ne rfl) rfl) ?_
            refine gsk (wanted_is (j := 12) (d := 38) (b := false) rfl rfl ((((s38_60.ne rfl).ne rfl).ne rfl).ne rfl) rfl) ?_
            refine gsk (wanted_is (j := 12) (d := 38) (b := false) rfl rfl (((((s38_60.ne rfl).ne rfl).ne rfl).ne rfl).ne rfl) rfl) ?_
            refine gsk (wanted_is (j := 12) (d := 38) (b := false) rfl rfl ((((((s38_60.ne rfl).ne rfl).ne rfl).ne rfl).ne rfl).ne rfl) rfl) ?_
            refine gsg (wanted_is (j := 9) (d := 35) (b := false) rfl rfl (((((((s35_60.ne rfl).ne rfl).ne rfl).ne rfl).ne rfl).ne rfl).ne rfl) rfl) (q_pick (b := false) (.bool false) rfl (((((((s38_60.ne rfl).ne rfl).ne rfl).ne rfl).ne rfl).ne rfl).ne rfl).ev rfl ?_)
            refine g_fresh z60.put.put.put.put.put.put.put.put ?_
            intro a61 z61 m61
            have s0_61 := m61 _ _ ((((((((s0_60.ne rfl).ne rfl).ne rfl).ne rfl).ne rfl).ne rfl).ne rfl).ne rfl)
            have s3_61 := m61 _ _ ((((((((s3_60.ne rfl).ne rfl).ne rfl).ne rfl).ne rfl).ne rfl).ne rfl).ne rfl)
            have s4_61 := m61 _ _ ((((((((s4_60.ne rfl).ne rfl).ne rfl).ne rfl).ne rfl).ne rfl).ne rfl).ne rfl)
            have s35_61 := m61 _ _ ((((((((s35_60.ne rfl).ne rfl).ne rfl).ne rfl).ne rfl).ne rfl).ne rfl).ne rfl)
            have s57_61 := m61 _ _ (At.hit z60.put.put.put.put.put.put.put rfl)
            clear m61
            refine gs rfl (q_pick (b := false) (.bool false) rfl s35_61.ev s57_61.ev ?_)
            refine gz ?_
            intro w62 h62
            have ov_62 := (hv.low low43).low h62
            have oy57_62 := (RdFF.row (k := (okN L)) (hv.low low43) (by omega)).low h62
            refine e_id ?_
            refine e_fresh z61.put ?_
            intro a63 z63 m63
            have s0_63 := m63 _ _ (s0_61.ne rfl)
            have s3_63 := m63 _ _ (s3_61.ne rfl)
            have s4_63 := m63 _ _ (s4_61.ne rfl)
            have s58_63 := m63 _ _ (At.hit z61 rfl)
            have low63 := (low43.trans h62)
            clear m63
            refine e_then ?_
            refine c_false s58_63 ?_
            refine wp_skip ?_
            refine e_in ?_
            refine e_then ?_
            refine c_region ?_
            refine l_q rfl (q_move _ _ rfl s4_63.ev ?_)
            refine l_q rfl (q_add (((m + 1 : Nat) : Int)) rfl (At.hit z63 rfl).ev rfl (i64_is (by omega) (by omega) (by omega)) ?_)
            refine l_q rfl (q_assign _ _ rfl (At.hit z63.put rfl).ev ?_)
            refine l_end ?_
            refine e_fresh z63.put.put.put ?_
            intro a64 z64 m64
            have s0_64 := m64 _ _ (((s0_63.ne rfl).ne rfl).ne rfl)
            have s3_64 := m64 _ _ (((s3_63.ne rfl).ne rfl).ne rfl)
            have s4_64 := m64 _ _ (At.hit z63.put.put rfl)
            clear m64
            exact ⟨z64, s0_64, s3_64, s4_64, low63⟩
        · intro a65 w65 h
          obtain ⟨z65, s0_65, s3_65, s4_65, low65⟩ := h
          clear low41 s0_42 s3_42 s4_42 z42
          have hon := rowOk_not (okN_stop hb36) hb38
          have hf60 := (few_all hb38).1
          refine c_seq ?_
          refine c_seq ?_
          refine c_region ?_
          refine l_q rfl (q_move _ _ rfl s4_65.ev ?_)
          refine l_q rfl (q_move _ _ rfl (s0_65.ne rfl).ev ?_)
          refine l_q rfl (q_move _ _ rfl ((s3_65.ne rfl).ne rfl).ev ?_)
          refine l_q rfl (q_idxF (j := (okN L)) rfl Tryd.underlying35 sz22 ((At.hit z65.put rfl).ne rfl).ev (hv.low low65).1 (At.hit z65.put.put rfl).ev (by omega) ?_)
          refine l_q rfl (q_ld1 (u := (vs.getD (okN L) nilS)) rfl Tryd.underlying22 rfl (At.hit z65.put.put.put rfl).ev (fun _ e => by rw [e]; exact (hv.low low65).1) (by omega) (RdFF.cell (hv.low low65) (by omega)) ?_)
          refine l_q rfl (q_lenF rfl rfl Tryd.underlying22 (At.hit z65.put.put.put.put rfl).ev (RdFF.row (k := (okN L)) (hv.low low65) (by omega)) ?_)
          refine l_q rfl (q_lss true rfl ((((((At.hit z65 rfl).ne rfl).ne rfl).ne rfl).ne rfl).ne rfl).ev (At.hit z65.put.put.put.put.put rfl).ev (decide_eq_true (by omega)) ?_)
          refine l_end ?_
          refine e_fresh z65.put.put.put.put.put.put.put ?_
          intro a67 z67 m67
          have s0_67 := m67 _ _ (((((((s0_65.ne rfl).ne rfl).ne rfl).ne rfl).ne rfl).ne rfl).ne rfl)
          have s3_67 := m67 _ _ (((((((s3_65.ne rfl).ne rfl).ne rfl).ne rfl).ne rfl).ne rfl).ne rfl)
          have s4_67 := m67 _ _ (((((((s4_65.ne rfl).ne rfl).ne rfl).ne rfl).ne rfl).ne rfl).ne rfl)
          have s23_67 := m67 _ _ (At.hit z65.put.put.put.put.put.put rfl)
          clear m67
          refine e_then ?_
          refine c_true s23_67 ?_
          refine wp_skip ?_
          refine e_then ?_
          refine c_seq ?_
          refine wp_block ?_
          refine c_seq ?_
          by_cases hb68 : ((L.getD (okN L) []).getD (ordN (L.getD (okN L) [])) zL).f0 = (⟨#[]⟩ : ByteArray)
          · skip
            refine region_lowg hm (by kernel_rfl) ?_
            refine gs rfl (q_move _ _ rfl s0_67.ev ?_)
            refine gs rfl (q_move _ _ rfl (s3_67.ne rfl).ev ?_)
            refine gs rfl (q_idxF (j := (okN L)) rfl Tryd.underlying35 sz22 ((At.hit z67 rfl).ne rfl).ev (hv.low low65).1 (At.hit z67.put rfl).ev (by omega) ?_)
            refine gs rfl (q_ld1 (u := (vs.getD (okN L) nilS)) rfl Tryd.underlying22 rfl (At.hit z67.put.put rfl).ev (fun _ h => ((hv.low low65).low h).1) (by omega) (RdFF.cell (hv.low low65) (by omega)) ?_)
            refine gs rfl (q_move _ _ rfl ((((s4_67.ne rfl).ne rfl).ne rfl).ne rfl).ev ?_)
            refine gs rfl (q_idxF (j := (ordN (L.getD (okN L) []))) rfl Tryd.underlying22 sz34 ((At.hit z67.put.put.put rfl).ne rfl).ev (RdFF.row (k := (okN L)) (hv.low low65) (by omega)) (At.hit z67.put.put.put.put rfl).ev (by omega) ?_)
            refine gs rfl (q_fldF 0 rfl fld34_0 (At.hit z67.put.put.put.put.put rfl).ev ((RdFF.row (k := (okN L)) (hv.low low65) (by omega)).form (by omega)) ?_)
            refine gs rfl (q_ld1 (u := .string (((L.getD (okN L) []).getD (ordN (L.getD (okN L) [])) zL).f0)) rfl Tryd.underlying9 rfl (At.hit z67.put.put.put.put.put.put rfl).ev (fun _ h => ((RdFF.row (k := (okN L)) (hv.low low65) (by omega)).low h)) (by omega) ((flat_at encL_len zL _ (ordN (L.getD (okN L) [])) 0 (by omega) (by decide)).trans rfl) ?_)
            refine g_fresh z67.put.put.put.put.put.put.put.put ?_
            intro a70 z70 m70
            have s0_70 := m70 _ _ ((((((((s0_67.ne rfl).ne rfl).ne rfl).ne rfl).ne rfl).ne rfl).ne rfl).ne rfl)
            have s3_70 := m70 _ _ ((((((((s3_67.ne rfl).ne rfl).ne rfl).ne rfl).ne rfl).ne rfl).ne rfl).ne rfl)
            have s4_70 := m70 _ _ ((((((((s4_67.ne rfl).ne rfl).ne rfl).ne rfl).ne rfl).ne rfl).ne rfl).ne rfl)
            have s33_70 := m70 _ _ (At.hit z67.put.put.put.put.put.put.put rfl)
            clear m70
            refine gs rfl (q_streq true rfl s33_70.ev rfl (strT hb68) ?_)
            refine gs rfl (q_move _ _ rfl (At.hit z70 rfl).ev ?_)
            refine gsk (wanted_is (j := 9) (d := 35) (b := true) rfl rfl (At.hit z70.put rfl) rfl) ?_
            refine gsk (wanted_is (j := 9) (d := 35) (b := true) rfl rfl ((At.hit z70.put rfl).ne rfl) rfl) ?_
            refine gsk (wanted_is (j := 9) (d := 35) (b := true) rfl rfl (((At.hit z70.put rfl).ne rfl).ne rfl) rfl) ?_
            refine gsk (wanted_un (j := 12) (d := 38) rfl rfl (At.hit z70.put.put.put.put rfl)) ?_
            refine gsk (wanted_un (j := 12) (d := 38) rfl rfl ((At.hit z70.put.put.put.put rfl).ne rfl)) ?_
            refine gsk (wanted_un (j := 12) (d := 38) rfl rfl (((At.hit z70.put.put.put.put rfl).ne rfl).ne rfl)) ?_
            refine g_fresh z70.put.put.put.put.put.put.put.put ?_
            intro a71 z71 m71
            have s0_71 := m71 _ _ ((((((((s0_70.ne rfl).ne rfl).ne rfl).ne rfl).ne rfl).ne rfl).ne rfl).ne rfl)
            have s3_71 := m71 _ _ ((((((((s3_70.ne rfl).ne rfl).ne rfl).ne rfl).ne rfl).ne rfl).ne rfl).ne rfl)
            have s4_71 := m71 _ _ ((((((((s4_70.ne rfl).ne rfl).ne rfl).ne rfl).ne rfl).ne rfl).ne rfl).ne rfl)
            have s35_71 := m71 _ _ (((((((At.hit z70.put rfl).ne rfl).ne rfl).ne rfl).ne rfl).ne rfl).ne rfl)
            have s38_71 := m71 _ _ ((((At.hit z70.put.put.put.put rfl).ne rfl).ne rfl).ne rfl)
            have s41_71 := m71 _ _ (At.hit z70.put.put.put.put.put.put.put rfl)
            clear m71
            refine gsk (wanted_un (j := 12) (d := 38) rfl rfl s38_71) ?_
            refine gsk (wanted_un (j := 12) (d := 38) rfl rfl (s38_71.ne rfl)) ?_
            refine gsk (wanted_un (j := 12) (d := 38) rfl rfl ((s38_71.ne rfl).ne rfl)) ?_
            refine gsk (wanted_un (j := 12) (d := 38) rfl rfl (((s38_71.ne rfl).ne rfl).ne rfl)) ?_
            refine gsk (wanted_un (j := 12) (d := 38) rfl rfl ((((s38_71.ne rfl).ne rfl).ne rfl).ne rfl)) ?_
            refine gsk (wanted_un (j := 12) (d := 38) rfl rfl (((((s38_71.ne rfl).ne rfl).ne rfl).ne rfl).ne rfl)) ?_
            refine gsk (wanted_un (j := 12) (d := 38) rfl rfl ((((((s38_71.ne rfl).ne rfl).ne rfl).ne rfl).ne rfl).ne rfl)) ?_
            refine gsk (wanted_un (j := 12) (d := 38) rfl rfl (((((((s38_71.ne rfl).ne rfl).ne rfl).ne rfl).ne rfl).ne rfl).ne rfl)) ?_
            refine g_fresh z71.put.put.put.put.put.put.put.put ?_
            intro a72 z72 m72
            have s3_72 := m72 _ _ ((((((((s3_71.ne rfl).ne rfl).ne rfl).ne rfl).ne rfl).ne rfl).ne rfl).ne rfl)
            have s4_72 := m72 _ _ ((((((((s4_71.ne rfl).ne rfl).ne rfl).ne rfl).ne rfl).ne rfl).ne rfl).ne rfl)
            have s35_72 := m72 _ _ ((((((((s35_71.ne rfl).ne rfl).ne rfl).ne rfl).ne rfl).ne rfl).ne rfl).ne rfl)
            have s38_72 := m72 _ _ ((((((((s38_71.ne rfl).ne rfl).ne rfl).ne rfl).ne rfl).ne rfl).ne rfl).ne rfl)
            have s46_72 := m72 _ _ ((((At.hit z71.put.put.put.put rfl).ne rfl).ne rfl).ne rfl)
            have s49_72 := m72 _ _ (At.hit z71.put.put.put.put.put.put.put rfl)
            clear m72
            refine gsk (wanted_un (j := 12) (d := 38) rfl rfl s38_72) ?_
            refine gsk (wanted_un (j := 12) (d := 38) rfl rfl (s38_72.ne rfl)) ?_
            refine gsk (wanted_un (j := 12) (d := 38) rfl rfl ((s38_72.ne rfl).ne rfl)) ?_
            refine gsk (wanted_un (j := 12) (d := 38) rfl rfl (((s38_72.ne rfl).ne rfl).ne rfl)) ?_
            refine gsk (wanted_un (j := 12) (d := 38) rfl rfl ((((s38_72.ne rfl).ne rfl).ne rfl).ne rfl)) ?_
            refine gsk (wanted_un (j := 12) (d := 38) rfl rfl (((((s38_72.ne rfl).ne rfl).ne rfl).ne rfl).ne rfl)) ?_
            refine gsk (wanted_un (j := 12) (d := 38) rfl rfl ((((((s38_72.ne rfl).ne rfl).ne rfl).ne rfl).ne rfl).ne rfl)) ?_
            refine gsk (wanted_is (j := 9) (d := 35) (b := true) rfl rfl (((((((s35_72.ne rfl).ne rfl).ne rfl).ne rfl).ne rfl).ne rfl).ne rfl) rfl) ?_
            refine g_fresh z72.put.put.put.put.put.put.put.put ?_
            intro a73 z73 m73
            have s3_73 := m73 _ _ ((((((((s3_72.ne rfl).ne rfl).ne rfl).ne rfl).ne rfl).ne rfl).ne rfl).ne rfl)
            have s4_73 := m73 _ _ ((((((((s4_72.ne rfl).ne rfl).ne rfl).ne rfl).ne rfl).ne rfl).ne rfl).ne rfl)
            have s35_73 := m73 _ _ ((((((((s35_72.ne rfl).ne rfl).ne rfl).ne rfl).ne rfl).ne rfl).ne rfl).ne rfl)
            have s57_73 := m73 _ _ (At.hit z72.put.put.put.put.put.put.put rfl)
            clear m73
            refine gs rfl (q_pick (b := true) (.bool true) rfl s35_73.ev rfl ?_)
            refine gz ?_
            intro w74 h74
            have ov_74 := (hv.low low65).low h74
            have oy69_74 := (RdFF.row (k := (okN L)) (hv.low low65) (by omega)).low h74
            refine e_id ?_
            refine e_fresh z73.put ?_
            intro a75 z75 m75
            have s3_75 := m75 _ _ (s3_73.ne rfl)
            have s4_75 := m75 _ _ (s4_73.ne rfl)
            have s58_75 := m75 _ _ (At.hit z73 rfl)
            have low75 := (low65.trans h74)
            clear m75
            refine e_then ?_
            refine c_true s58_75 ?_
            refine c_seq ?_
            refine c_region ?_
            refine l_q rfl (q_assign _ _ rfl rfl ?_)
            refine l_end ?_
            refine e_fresh z75.put ?_
            intro a76 z76 m76
            have s2_76 := m76 _ _ (At.hit z75 rfl)
            clear m76
            refine e_then ?_
            refine wp_ret ?_
            refine ret_in ?_
            refine ret_then ?_
            refine ret_then ?_
            refine ret_in ?_
            refine ret_in ?_
            refine ret_then ?_
            refine ret_then ?_
            refine ret_in ?_
            refine ret_then ?_
            refine r_tmp rfl z76.defers s2_76 ?_
            exact ⟨by unfold mayB; rw [decide_eq_false (by omega)]; rfl, low75⟩
          · skip
            by_cases hb77 : 0 < (ordN (L.getD (okN L) []))
            · skip
              by_cases hb78 : ¬ lessB ((L.getD (okN L) []).getD ((ordN (L.getD (okN L) [])) - 1) zL).f0 ((L.getD (okN L) []).getD (ordN (L.getD (okN L) [])) zL).f0 = true
              · skip
                refine region_lowg hm (by kernel_rfl) ?_
                refine gs rfl (q_move _ _ rfl s0_67.ev ?_)
                refine gs rfl (q_move _ _ rfl (s3_67.ne rfl).ev ?_)
                refine gs rfl (q_idxF (j := (okN L)) rfl Tryd.underlying35 sz22 ((At.hit z67 rfl).ne rfl).ev (hv.low low65).1 (At.hit z67.put rfl).ev (by omega) ?_)
                refine gs rfl (q_ld1 (u := (vs.getD (okN L) nilS)) rfl Tryd.underlying22 rfl (At.hit z67.put.put rfl).ev (fun _ h => ((hv.low low65).low h).1) (by omega) (RdFF.cell (hv.low low65) (by omega)) ?_)
                refine gs rfl (q_move _ _ rfl ((((s4_67.ne rfl).ne rfl).ne rfl).ne rfl).ev ?_)
                refine gs rfl (q_idxF (j := (ordN (L.getD (okN L) []))) rfl Tryd.underlying22 sz34 ((At.hit z67.put.put.put rfl).ne rfl).ev (RdFF.row (k := (okN L)) (hv.low low65) (by omega)) (At.hit z67.put.put.put.put rfl).ev (by omega) ?_)
                refine gs rfl (q_fldF 0 rfl fld34_0 (At.hit z67.put.put.put.put.put rfl).ev ((RdFF.row (k := (okN L)) (hv.low low65) (by omega)).form (by omega)) ?_)
                refine gs rfl (q_ld1 (u := .string (((L.getD (okN L) []).getD (ordN (L.getD (okN L) [])) zL).f0)) rfl Tryd.underlying9 rfl (At.hit z67.put.put.put.put.put.put rfl).ev (fun _ h => ((RdFF.row (k := (okN L)) (hv.low low65) (by omega)).low h)) (by omega) ((flat_at encL_len zL _ (ordN (L.getD (okN L) [])) 0 (by omega) (by decide)).trans rfl) ?_)
                refine g_fresh z67.put.put.put.put.put.put.put.put ?_
                intro a80 z80 m80
                have s0_80 := m80 _ _ ((((((((s0_67.ne rfl).ne rfl).ne rfl).ne rfl).ne rfl).ne rfl).ne rfl).ne rfl)
                have s3_80 := m80 _ _ ((((((((s3_67.ne rfl).ne rfl).ne rfl).ne rfl).ne rfl).ne rfl).ne rfl).ne rfl)
                have s4_80 := m80 _ _ ((((((((s4_67.ne rfl).ne rfl).ne rfl).ne rfl).ne rfl).ne rfl).ne rfl).ne rfl)
                have s33_80 := m80 _ _ (At.hit z67.put.put.put.put.put.put.put rfl)
                clear m80
                refine gs rfl (q_streq false rfl s33_80.ev rfl (strF hb68) ?_)
                refine gs rfl (q_move _ _ rfl (At.hit z80 rfl).ev ?_)
                refine gsg (wanted_is (j := 9) (d := 35) (b := false) rfl rfl (At.hit z80.put rfl) rfl) (q_move _ _ rfl ((s4_80.ne rfl).ne rfl).ev ?_)
                refine gsg (wanted_is (j := 9) (d := 35) (b := false) rfl rfl ((At.hit z80.put rfl).ne rfl) rfl) (q_gtr true rfl (At.hit z80.put.put rfl).ev rfl (decide_eq_true (by omega)) ?_)
                refine gsg (wanted_is (j := 9) (d := 35) (b := false) rfl rfl (((At.hit z80.put rfl).ne rfl).ne rfl) rfl) (q_move _ _ rfl (At.hit z80.put.put.put rfl).ev ?_)
                refine gsg (wanted_is (j := 12) (d := 38) (b := true) rfl rfl (At.hit z80.put.put.put.put rfl) rfl) (q_move _ _ rfl (((((s0_80.ne rfl).ne rfl).ne rfl).ne rfl).ne rfl).ev ?_)
                refine gsg (wanted_is (j := 12) (d := 38) (b := true) rfl rfl ((At.hit z80.put.put.put.put rfl).ne rfl) rfl) (q_move _ _ rfl ((((((s3_80.ne rfl).ne rfl).ne rfl).ne rfl).ne rfl).ne rfl).ev ?_)
                refine gsg (wanted_is (j := 12) (d := 38) (b := true) rfl rfl (((At.hit z80.put.put.put.put rfl).ne rfl).ne rfl) rfl) (q_idxF (j := (okN L)) rfl Tryd.underlying35 sz22 ((At.hit z80.put.put.put.put.put rfl).ne rfl).ev (hv.low low65).1 (At.hit z80.put.put.put.put.put.put rfl).ev (by omega) ?_)
                refine g_fresh z80.put.put.put.put.put.put.put.put ?_
                intro a81 z81 m81
                have s0_81 := m81 _ _ ((((((((s0_80.ne rfl).ne rfl).ne rfl).ne rfl).ne rfl).ne rfl).ne rfl).ne rfl)
                have s3_81 := m81 _ _ ((((((((s3_80.ne rfl).ne rfl).ne rfl).ne rfl).ne rfl).ne rfl).ne rfl).ne rfl)
                have s4_81 := m81 _ _ ((((((((s4_80.ne rfl).ne rfl).ne rfl).ne rfl).ne rfl).ne rfl).ne rfl).ne rfl)
                have s35_81 := m81 _ _ (((((((At.hit z80.put rfl).ne rfl).ne rfl).ne rfl).ne rfl).ne rfl).ne rfl)
                have s38_81 := m81 _ _ ((((At.hit z80.put.put.put.put rfl).ne rfl).ne rfl).ne rfl)
                have s41_81 := m81 _ _ (At.hit z80.put.put.put.put.put.put.put rfl)
                clear m81
                refine gsg (wanted_is (j := 12) (d := 38) (b := true) rfl rfl s38_81 rfl) (q_ld1 (u := (vs.getD (okN L) nilS)) rfl Tryd.underlying22 rfl s41_81.ev (fun _ h => ((hv.low low65).low h).1) (by omega) (RdFF.cell (hv.low low65) (by omega)) ?_)
                refine gsg (wanted_is (j := 12) (d := 38) (b := true) rfl rfl (s38_81.ne rfl) rfl) (q_move _ _ rfl (s4_81.ne rfl).ev ?_)
                refine gsg (wanted_is (j := 12) (d := 38) (b := true) rfl rfl ((s38_81.ne rfl).ne rfl) rfl) (q_idxF (j := (ordN (L.getD (okN L) []))) rfl Tryd.underlying22 sz34 ((At.hit z81 rfl).ne rfl).ev (RdFF.row (k := (okN L)) (hv.low low65) (by omega)) (At.hit z81.put rfl).ev (by omega) ?_)
                refine gsg (wanted_is (j := 12) (d := 38) (b := true) rfl rfl (((s38_81.ne rfl).ne rfl).ne rfl) rfl) (q_fldF 0 rfl fld34_0 (At.hit z81.put.put rfl).ev ((RdFF.row (k := (okN L)) (hv.low low65) (by omega)).form (by omega)) ?_)
                refine gsg (wanted_is (j := 12) (d := 38) (b := true) rfl rfl ((((s38_81.ne rfl).ne rfl).ne rfl).ne rfl) rfl) (q_ld1 (u := .string (((L.getD (okN L) []).getD (ordN (L.getD (okN L) [])) zL).f0)) rfl Tryd.underlying9 rfl (At.hit z81.put.put.put rfl).ev (fun _ h => ((RdFF.row (k := (okN L)) (hv.low low65) (by omega)).low h)) (by omega) ((flat_at encL_len zL _ (ordN (L.getD (okN L) [])) 0 (by omega) (by decide)).trans rfl) ?_)
                refine gsg (wanted_is (j := 12) (d := 38) (b := true) rfl rfl (((((s38_81.ne rfl).ne rfl).ne rfl).ne rfl).ne rfl) rfl) (q_move _ _ rfl (((((s0_81.ne rfl).ne rfl).ne rfl).ne rfl).ne rfl).ev ?_)
                refine gsg (wanted_is (j := 12) (d := 38) (b := true) rfl rfl ((((((s38_81.ne rfl).ne rfl).ne rfl).ne rfl).ne rfl).ne rfl) rfl) (q_move _ _ rfl ((((((s3_81.ne rfl).ne rfl).ne rfl).ne rfl).ne rfl).ne rfl).ev ?_)
                refine gsg (wanted_is (j := 12) (d := 38) (b := true) rfl rfl (((((((s38_81.ne rfl).ne rfl).ne rfl).ne rfl).ne rfl).ne rfl).ne rfl) rfl) (q_idxF (j := (okN L)) rfl Tryd.underlying35 sz22 ((At.hit z81.put.put.put.put.put rfl).ne rfl).ev (hv.low low65).1 (At.hit z81.put.put.put.put.put.put rfl).ev (by omega) ?_)
                refine g_fresh z81.put.put.put.put.put.put.put.put ?_
                intro a83 z83 m83
                have s3_83 := m83 _ _ ((((((((s3_81.ne rfl).ne rfl).ne rfl).ne rfl).ne rfl).ne rfl).ne rfl).ne rfl)
                have s4_83 := m83 _ _ ((((((((s4_81.ne rfl).ne rfl).ne rfl).ne rfl).ne rfl).ne rfl).ne rfl).ne rfl)
                have s35_83 := m83 _ _ ((((((((s35_81.ne rfl).ne rfl).ne rfl).ne rfl).ne rfl).ne rfl).ne rfl).ne rfl)
                have s38_83 := m83 _ _ ((((((((s38_81.ne rfl).ne rfl).ne rfl).ne rfl).ne rfl).ne rfl).ne rfl).ne rfl)
                have s46_83 := m83 _ _ ((((At.hit z81.put.put.put.put rfl).ne rfl).ne rfl).ne rfl)
                have s49_83 := m83 _ _ (At.hit z81.put.put.put.put.put.put.put rfl)
                clear m83
                refine gsg (wanted_is (j := 12) (d := 38) (b := true) rfl rfl s38_83 rfl) (q_ld1 (u := (vs.getD (okN L) nilS)) rfl Tryd.underlying22 rfl s49_83.ev (fun _ h => ((hv.low low65).low h).1) (by omega) (RdFF.cell (hv.low low65) (by omega)) ?_)
                refine gsg (wanted_is (j := 12) (d := 38) (b := true) rfl rfl (s38_83.ne rfl) rfl) (q_move _ _ rfl (s4_83.ne rfl).ev ?_)
                refine gsg (wanted_is (j := 12) (d := 38) (b := true) rfl rfl ((s38_83.ne rfl).ne rfl) rfl) (q_sub ((((ordN (L.getD (okN L) []) : Nat) : Int) - 1)) rfl (At.hit z83.put rfl).ev rfl (i64_is (by omega) (by omega) (by omega)) ?_)
                refine gsg (wanted_is (j := 12) (d := 38) (b := true) rfl rfl (((s38_83.ne rfl).ne rfl).ne rfl) rfl) (q_idxF (j := (ordN (L.getD (okN L) [])) - 1) rfl Tryd.underlying22 sz34 (((At.hit z83 rfl).ne rfl).ne rfl).ev (RdFF.row (k := (okN L)) (hv.low low65) (by omega)) ((At.hit z83.put.put rfl).same (congrArg (Value.int .i64) (show ((((ordN (L.getD (okN L) []) : Nat) : Int) - 1) : Int) = (((ordN (L.getD (okN L) [])) - 1 : Nat) : Int) by omega))).ev (by omega) ?_)
                refine gsg (wanted_is (j := 12) (d := 38) (b := true) rfl rfl ((((s38_83.ne rfl).ne rfl).ne rfl).ne rfl) rfl) (q_fldF 0 rfl fld34_0 (At.hit z83.put.put.put rfl).ev ((RdFF.row (k := (okN L)) (hv.low low65) (by omega)).form (by omega)) ?_)
                refine gsg (wanted_is (j := 12) (d := 38) (b := true) rfl rfl (((((s38_83.ne rfl).ne rfl).ne rfl).ne rfl).ne rfl) rfl) (q_ld1 (u := .string (((L.getD (okN L) []).getD ((ordN (L.getD (okN L) [])) - 1) zL).f0)) rfl Tryd.underlying9 rfl (At.hit z83.put.put.put.put rfl).ev (fun _ h => ((RdFF.row (k := (okN L)) (hv.low low65) (by omega)).low h)) (by omega) ((flat_at encL_len zL _ ((ordN (L.getD (okN L) [])) - 1) 0 (by omega) (by decide)).trans rfl) ?_)
                refine gsg (wanted_is (j := 12) (d := 38) (b := true) rfl rfl ((((((s38_83.ne rfl).ne rfl).ne rfl).ne rfl).ne rfl).ne rfl) rfl) (q_strleq true rfl ((((((s46_83.ne rfl).ne rfl).ne rfl).ne rfl).ne rfl).ne rfl).ev (At.hit z83.put.put.put.put.put rfl).ev (leT hb78) ?_)
                refine gsg (wanted_is (j := 9) (d := 35) (b := false) rfl rfl (((((((s35_83.ne rfl).ne rfl).ne rfl).ne rfl).ne rfl).ne rfl).ne rfl) rfl) (q_pick (b := true) (.bool true) rfl (((((((s38_83.ne rfl).ne rfl).ne rfl).ne rfl).ne rfl).ne rfl).ne rfl).ev (At.hit z83.put.put.put.put.put.put rfl).ev ?_)
                refine g_fresh z83.put.put.put.put.put.put.put.put ?_
                intro a85 z85 m85
                have s3_85 := m85 _ _ ((((((((s3_83.ne rfl).ne rfl).ne rfl).ne rfl).ne rfl).ne rfl).ne rfl).ne rfl)
                have s4_85 := m85 _ _ ((((((((s4_83.ne rfl).ne rfl).ne rfl).ne rfl).ne rfl).ne rfl).ne rfl).ne rfl)
                have s35_85 := m85 _ _ ((((((((s35_83.ne rfl).ne rfl).ne rfl).ne rfl).ne rfl).ne rfl).ne rfl).ne rfl)
                have s57_85 := m85 _ _ (At.hit z83.put.put.put.put.put.put.put rfl)
                clear m85
                refine gs rfl (q_pick (b := false) (.bool true) rfl s35_85.ev s57_85.ev ?_)
                refine gz ?_
                intro w86 h86
                have ov_86 := (hv.low low65).low h86
                have oy79_86 := (RdFF.row (k := (okN L)) (hv.low low65) (by omega)).low h86
                have oy82_86 := (RdFF.row (k := (okN L)) (hv.low low65) (by omega)).low h86
                have oy84_86 := (RdFF.row (k := (okN L)) (hv.low low65) (by omega)).low h86
                refine e_id ?_
                refine e_fresh z85.put ?_
                intro a87 z87 m87
                have s3_87 := m87 _ _ (s3_85.ne rfl)
                have s4_87 := m87 _ _ (s4_85.ne rfl)
                have s58_87 := m87 _ _ (At.hit z85 rfl)
                have low87 := (low65.trans h86)
                clear m87
                refine e_then ?_
                refine c_true s58_87 ?_
                refine c_seq ?_
                refine c_region ?_
                refine l_q rfl (q_assign _ _ rfl rfl ?_)
                refine l_end ?_
                refine e_fresh z87.put ?_
                intro a88 z88 m88
                have s2_88 := m88 _ _ (At.hit z87 rfl)
                clear m88
                refine e_then ?_
                refine wp_ret ?_
                refine ret_in ?_
                refine ret_then ?_
                refine ret_then ?_
                refine ret_in ?_
                refine ret_in ?_
                refine ret_then ?_
                refine ret_then ?_
                refine ret_in ?_
                refine ret_then ?_
                refine r_tmp rfl z88.defers s2_88 ?_
                exact ⟨by unfold mayB; rw [decide_eq_false (by omega)]; rfl, low87⟩
              · skip
                refine region_lowg hm (by kernel_rfl) ?_
                refine gs rfl (q_move _ _ rfl s0_67.ev ?_)
                refine gs rfl (q_move _ _ rfl (s3_67.ne rfl).ev ?_)
                refine gs rfl (q_idxF (j := (okN L)) rfl Tryd.underlying35 sz22 ((At.hit z67 rfl).ne rfl).ev (hv.low low65).1 (At.hit z67.put rfl).ev (by omega) ?_)
                refine gs rfl (q_ld1 (u := (vs.getD (okN L) nilS)) rfl Tryd.underlying22 rfl (At.hit z67.put.put rfl).ev (fun _ h => ((hv.low low65).low h).1) (by omega) (RdFF.cell (hv.low low65) (by omega)) ?_)
                refine gs rfl (q_move _ _ rfl ((((s4_67.ne rfl).ne rfl).ne rfl).ne rfl).ev ?_)
                refine gs rfl (q_idxF (j := (ordN (L.getD (okN L) []))) rfl Tryd.underlying22 sz34 ((At.hit z67.put.put.put rfl).ne rfl).ev (RdFF.row (k := (okN L)) (hv.low low65) (by omega)) (At.hit z67.put.put.put.put rfl).ev (by omega) ?_)
                refine gs rfl (q_fldF 0 rfl fld34_0 (At.hit z67.put.put.put.put.put rfl).ev ((RdFF.row (k := (okN L)) (hv.low low65) (by omega)).form (by omega)) ?_)
                refine gs rfl (q_ld1 (u := .string (((L.getD (okN L) []).getD (ordN (L.getD (okN L) [])) zL).f0)) rfl Tryd.underlying9 rfl (At.hit z67.put.put.put.put.put.put rfl).ev (fun _ h => ((RdFF.row (k := (okN L)) (hv.low low65) (by omega)).low h)) (by omega) ((flat_at encL_len zL _ (ordN (L.getD (okN L) [])) 0 (by omega) (by decide)).trans rfl) ?_)
                refine g_fresh z67.put.put.put.put.put.put.put.put ?_
                intro a90 z90 m90
                have s0_90 := m90 _ _ ((((((((s0_67.ne rfl).ne rfl).ne rfl).ne rfl).ne rfl).ne rfl).ne rfl).ne rfl)
                have s3_90 := m90 _ _ ((((((((s3_67.ne rfl).ne rfl).ne rfl).ne rfl).ne rfl).ne rfl).ne rfl).ne rfl)
                have s4_90 := m90 _ _ ((((((((s4_67.ne rfl).ne rfl).ne rfl).ne rfl).ne rfl).ne rfl).ne rfl).ne rfl)
                have s33_90 := m90 _ _ (At.hit z67.put.put.put.put.put.put.put rfl)
                clear m90
                refine gs rfl (q_streq false rfl s33_90.ev rfl (strF hb68) ?_)
                refine gs rfl (q_move _ _ rfl (At.hit z90 rfl).ev ?_)
                refine gsg (wanted_is (j := 9) (d := 35) (b := false) rfl rfl (At.hit z90.put rfl) rfl) (q_move _ _ rfl ((s4_90.ne rfl).ne rfl).ev ?_)
                refine gsg (wanted_is (j := 9) (d := 35) (b := false) rfl rfl ((At.hit z90.put rfl).ne rfl) rfl) (q_gtr true rfl (At.hit z90.put.put rfl).ev rfl (decide_eq_true (by omega)) ?_)
                refine gsg (wanted_is (j := 9) (d := 35) (b := false) rfl rfl (((At.hit z90.put rfl).ne rfl).ne rfl) rfl) (q_move _ _ rfl (At.hit z90.put.put.put rfl).ev ?_)
                refine gsg (wanted_is (j := 12) (d := 38) (b := true) rfl rfl (At.hit z90.put.put.put.put rfl) rfl) (q_move _ _ rfl (((((s0_90.ne rfl).ne rfl).ne rfl).ne rfl).ne rfl).ev ?_)
                refine gsg (wanted_is (j := 12) (d := 38) (b := true) rfl rfl ((At.hit z90.put.put.put.put rfl).ne rfl) rfl) (q_move _ _ rfl ((((((s3_90.ne rfl).ne rfl).ne rfl).ne rfl).ne rfl).ne rfl).ev ?_)
                refine gsg (wanted_is (j := 12) (d := 38) (b := true) rfl rfl (((At.hit z90.put.put.put.put rfl).ne rfl).ne rfl) rfl) (q_idxF (j := (okN L)) rfl Tryd.underlying35 sz22 ((At.hit z90.put.put.put.put.put rfl).ne rfl).ev (hv.low low65).1 (At.hit z90.put.put.put.put.put.put rfl).ev (by omega) ?_)
                refine g_fresh z90.put.put.put.put.put.put.put.put ?_
                intro a91 z91 m91
                have s0_91 := m91 _ _ ((((((((s0_90.ne rfl).ne rfl).ne rfl).ne rfl).ne rfl).ne rfl).ne rfl).ne rfl)
                have s3_91 := m91 _ _ ((((((((s3_90.ne rfl).ne rfl).ne rfl).ne rfl).ne rfl).ne rfl).ne rfl).ne rfl)
                have s4_91 := m91 _ _ ((((((((s4_90.ne rfl).ne rfl).ne rfl).ne rfl).ne rfl).ne rfl).ne rfl).ne rfl)
                have s35_91 := m91 _ _ (((((((At.hit z90.put rfl).ne rfl).ne rfl).ne rfl).ne rfl).ne rfl).ne rfl)
                have s38_91 := m91 _ _ ((((At.hit z90.put.put.put.put rfl).ne rfl).ne rfl).ne rfl)
                have s41_91 := m91 _ _ (At.hit z90.put.put.put.put.put.put.put rfl)
                clear m91
                refine gsg (wanted_is (j := 12) (d := 38) (b := true) rfl rfl s38_91 rfl) (q_ld1 (u := (vs.getD (okN L) nilS)) rfl Tryd.underlying22 rfl s41_91.ev (fun _ h => ((hv.low low65).low h).1) (by omega) (RdFF.cell (hv.low low65) (by omega)) ?_)
                refine gsg (wanted_is (j := 12) (d := 38) (b := true) rfl rfl (s38_91.ne rfl) rfl) (q_move _ _ rfl (s4_91.ne rfl).ev ?_)
                refine gsg (wanted_is (j := 12) (d := 38) (b := true) rfl rfl ((s38_91.ne rfl).ne rfl) rfl) (q_idxF (j := (ordN (L.getD (okN L) []))) rfl Tryd.underlying22 sz34 ((At.hit z91 rfl).ne rfl).ev (RdFF.row (k := (okN L)) (hv.low low65) (by omega)) (At.hit z91.put rfl).ev (by omega) ?_)
                refine gsg (wanted_is (j := 12) (d := 38) (b := true) rfl rfl (((s38_91.ne rfl).ne rfl).ne rfl) rfl) (q_fldF 0 rfl fld34_0 (At.hit z91.put.put rfl).ev ((RdFF.row (k := (okN L)) (hv.low low65) (by omega)).form (by omega)) ?_)
                refine gsg (wanted_is (j := 12) (d := 38) (b := true) rfl rfl ((((s38_91.ne rfl).ne rfl).ne rfl).ne rfl) rfl) (q_ld1 (u := .string (((L.getD (okN L) []).getD (ordN (L.getD (okN L) [])) zL).f0)) rfl Tryd.underlying9 rfl (At.hit z91.put.put.put rfl).ev (fun _ h => ((RdFF.row (k := (okN L)) (hv.low low65) (by omega)).low h)) (by omega) ((flat_at encL_len zL _ (ordN (L.getD (okN L) [])) 0 (by omega) (by decide)).trans rfl) ?_)
                refine gsg (wanted_is (j := 12) (d := 38) (b := true) rfl rfl (((((s38_91.ne rfl).ne rfl).ne rfl).ne rfl).ne rfl) rfl) (q_move _ _ rfl (((((s0_91.ne rfl).ne rfl).ne rfl).ne rfl).ne rfl).ev ?_)
                refine gsg (wanted_is (j := 12) (d := 38) (b := true) rfl rfl ((((((s38_91.ne rfl).ne rfl).ne rfl).ne rfl).ne rfl).ne rfl) rfl) (q_move _ _ rfl ((((((s3_91.ne rfl).ne rfl).ne rfl).ne rfl).ne rfl).ne rfl).ev ?_)
                refine gsg (wanted_is (j := 12) (d := 38) (b := true) rfl rfl (((((((s38_91.ne rfl).ne rfl).ne rfl).ne rfl).ne rfl).ne rfl).ne rfl) rfl) (q_idxF (j := (okN L)) rfl Tryd.underlying35 sz22 ((At.hit z91.put.put.put.put.put rfl).ne rfl).ev (hv.low low65).1 (At.hit z91.put.put.put.put.put.put rfl).ev (by omega) ?_)
                refine g_fresh z91.put.put.put.put.put.put.put.put ?_
                intro a93 z93 m93
                have s3_93 := m93 _ _ ((((((((s3_91.ne rfl).ne rfl).ne rfl).ne rfl).ne rfl).ne rfl).ne rfl).ne rfl)
                have s4_93 := m93 _ _ ((((((((s4_91.ne rfl).ne rfl).ne rfl).ne rfl).ne rfl).ne rfl).ne rfl).ne rfl)
                have s35_93 := m93 _ _ ((((((((s35_91.ne rfl).ne rfl).ne rfl).ne rfl).ne rfl).ne rfl).ne rfl).ne rfl)
                have s38_93 := m93 _ _ ((((((((s38_91.ne rfl).ne rfl).ne rfl).ne rfl).ne rfl).ne rfl).ne rfl).ne rfl)
                have s46_93 := m93 _ _ ((((At.hit z91.put.put.put.put rfl).ne rfl).ne rfl).ne rfl)
                have s49_93 := m93 _ _ (At.hit z91.put.put.put.put.put.put.put rfl)
                clear m93
                refine gsg (wanted_is (j := 12) (d := 38) (b := true) rfl rfl s38_93 rfl) (q_ld1 (u := (vs.getD (okN L) nilS)) rfl Tryd.underlying22 rfl s49_93.ev (fun _ h => ((hv.low low65).low h).1) (by omega) (RdFF.cell (hv.low low65) (by omega)) ?_)
                refine gsg (wanted_is (j := 12) (d := 38) (b := true) rfl rfl (s38_93.ne rfl) rfl) (q_move _ _ rfl (s4_93.ne rfl).ev ?_)
                refine gsg (wanted_is (j := 12) (d := 38) (b := true) rfl rfl ((s38_93.ne rfl).ne rfl) rfl) (q_sub ((((ordN (L.getD (okN L) []) : Nat) : Int) - 1)) rfl (At.hit z93.put rfl).ev rfl (i64_is (by omega) (by omega) (by omega)) ?_)
                refine gsg (wanted_is (j := 12) (d := 38) (b := true) rfl rfl (((s38_93.ne rfl).ne rfl).ne rfl) rfl) (q_idxF (j := (ordN (L.getD (okN L) [])) - 1) rfl Tryd.underlying22 sz34 (((At.hit z93 rfl).ne rfl).ne rfl).ev (RdFF.row (k := (okN L)) (hv.low low65) (by omega)) ((At.hit z93.put.put rfl).same (congrArg (Value.int .i64) (show ((((ordN (L.getD (okN L) []) : Nat) : Int) - 1) : Int) = (((ordN (L.getD (okN L) [])) - 1 : Nat) : Int) by omega))).ev (by omega) ?_)
                refine gsg (wanted_is (j := 12) (d := 38) (b := true) rfl rfl ((((s38_93.ne rfl).ne rfl).ne rfl).ne rfl) rfl) (q_fldF 0 rfl fld34_0 (At.hit z93.put.put.put rfl).ev ((RdFF.row (k := (okN L)) (hv.low low65) (by omega)).form (by omega)) ?_)
                refine gsg (wanted_is (j := 12) (d := 38) (b := true) rfl rfl (((((s38_93.ne rfl).ne rfl).ne rfl).ne rfl).ne rfl) rfl) (q_ld1 (u := .string (((L.getD (okN L) []).getD ((ordN (L.getD (okN L) [])) - 1) zL).f0)) rfl Tryd.underlying9 rfl (At.hit z93.put.put.put.put rfl).ev (fun _ h => ((RdFF.row (k := (okN L)) (hv.low low65) (by omega)).low h)) (by omega) ((flat_at encL_len zL _ ((ordN (L.getD (okN L) [])) - 1) 0 (by omega) (by decide)).trans rfl) ?_)
                refine gsg (wanted_is (j := 12) (d := 38) (b := true) rfl rfl ((((((s38_93.ne rfl).ne rfl).ne rfl).ne rfl).ne rfl).ne rfl) rfl) (q_strleq false rfl ((((((s46_93.ne rfl).ne rfl).ne rfl).ne rfl).ne rfl).ne rfl).ev (At.hit z93.put.put.put.put.put rfl).ev (leF (Decidable.not_not.1 hb78)) ?_)
                refine gsg (wanted_is (j := 9) (d := 35) (b := false) rfl rfl (((((((s35_93.ne rfl).ne rfl).ne rfl).ne rfl).ne rfl).ne rfl).ne rfl) rfl) (q_pick (b := true) (.bool false) rfl (((((((s38_93.ne rfl).ne rfl).ne rfl).ne rfl).ne rfl).ne rfl).ne rfl).ev (At.hit z93.put.put.put.put.put.put rfl).ev ?_)
                refine g_fresh z93.put.put.put.put.put.put.put.put ?_
                intro a95 z95 m95
                have s3_95 := m95 _ _ ((((((((s3_93.ne rfl).ne rfl).ne rfl).ne rfl).ne rfl).ne rfl).ne rfl).ne rfl)
                have s4_95 := m95 _ _ ((((((((s4_93.ne rfl).ne rfl).ne rfl).ne rfl).ne rfl).ne rfl).ne rfl).ne rfl)
                have s35_95 := m95 _ _ ((((((((s35_93.ne rfl).ne rfl).ne rfl).ne rfl).ne rfl).ne rfl).ne rfl).ne rfl)
                have s57_95 := m95 _ _ (At.hit z93.put.put.put.put.put.put.put rfl)
                clear m95
                refine gs rfl (q_pick (b := false) (.bool false) rfl s35_95.ev s57_95.ev ?_)
                refine gz ?_
                intro w96 h96
                have ov_96 := (hv.low low65).low h96
                have oy89_96 := (RdFF.row (k := (okN L)) (hv.low low65) (by omega)).low h96
                have oy92_96 := (RdFF.row (k := (okN L)) (hv.low low65) (by omega)).low h96
                have oy94_96 := (RdFF.row (k := (okN L)) (hv.low low65) (by omega)).low h96
                refine e_id ?_
                refine e_fresh z95.put ?_
                intro a97 z97 m97
                have s3_97 := m97 _ _ (s3_95.ne rfl)
                have s4_97 := m97 _ _ (s4_95.ne rfl)
                have s58_97 := m97 _ _ (At.hit z95 rfl)
                have low97 := (low65.trans h96)
                clear m97
                refine e_then ?_
                refine c_false s58_97 ?_
                refine wp_skip ?_
                refine e_in ?_
                refine e_then ?_
                refine c_region ?_
                refine l_q rfl (q_move _ _ rfl s4_97.ev ?_)
                refine l_q rfl (q_add ((((ordN (L.getD (okN L) [])) + 1 : Nat) : Int)) rfl (At.hit z97 rfl).ev rfl (i64_is (by omega) (by omega) (by omega)) ?_)
                refine l_q rfl (q_assign _ _ rfl (At.hit z97.put rfl).ev ?_)
                refine l_end ?_
                refine e_fresh z97.put.put.put ?_
                intro a98 z98 m98
                have s3_98 := m98 _ _ (((s3_97.ne rfl).ne rfl).ne rfl)
                clear m98
                exact absurd ⟨hb68, fun h => Decidable.not_not.1 hb78⟩ (ordN_stop hon)
            · skip
              refine region_lowg hm (by kernel_rfl) ?_
              refine gs rfl (q_move _ _ rfl s0_67.ev ?_)
              refine gs rfl (q_move _ _ rfl (s3_67.ne rfl).ev ?_)
              refine gs rfl (q_idxF (j := (okN L)) rfl Tryd.underlying35 sz22 ((At.hit z67 rfl).ne rfl).ev (hv.low low65).1 (At.hit z67.put rfl).ev (by omega) ?_)
              refine gs rfl (q_ld1 (u := (vs.getD (okN L) nilS)) rfl Tryd.underlying22 rfl (At.hit z67.put.put rfl).ev (fun _ h => ((hv.low low65).low h).1) (by omega) (RdFF.cell (hv.low low65) (by omega)) ?_)
              refine gs rfl (q_move _ _ rfl ((((s4_67.ne rfl).ne rfl).ne rfl).ne rfl).ev ?_)
              refine gs rfl (q_idxF (j := (ordN (L.getD (okN L) []))) rfl Tryd.underlying22 sz34 ((At.hit z67.put.put.put rfl).ne rfl).ev (RdFF.row (k := (okN L)) (hv.low low65) (by omega)) (At.hit z67.put.put.put.put rfl).ev (by omega) ?_)
              refine gs rfl (q_fldF 0 rfl fld34_0 (At.hit z67.put.put.put.put.put rfl).ev ((RdFF.row (k := (okN L)) (hv.low low65) (by omega)).form (by omega)) ?_)
              refine gs rfl (q_ld1 (u := .string (((L.getD (okN L) []).getD (ordN (L.getD (okN L) [])) zL).f0)) rfl Tryd.underlying9 rfl (At.hit z67.put.put.put.put.put.put rfl).ev (fun _ h => ((RdFF.row (k := (okN L)) (hv.low low65) (by omega)).low h)) (by omega) ((flat_at encL_len zL _ (ordN (L.getD (okN L) [])) 0 (by omega) (by decide)).trans rfl) ?_)
              refine g_fresh z67.put.put.put.put.put.put.put.put ?_
              intro a100 z100 m100
              have s0_100 := m100 _ _ ((((((((s0_67.ne rfl).ne rfl).ne rfl).ne rfl).ne rfl).ne rfl).ne rfl).ne rfl)
              have s3_100 := m100 _ _ ((((((((s3_67.ne rfl).ne rfl).ne rfl).ne rfl).ne rfl).ne rfl).ne rfl).ne rfl)
              have s4_100 := m100 _ _ ((((((((s4_67.ne rfl).ne rfl).ne rfl).ne rfl).ne rfl).ne rfl).ne rfl).ne rfl)
              have s33_100 := m100 _ _ (At.hit z67.put.put.put.put.put.put.put rfl)
              clear m100
              refine gs rfl (q_streq false rfl s33_100.ev rfl (strF hb68) ?_)
              refine gs rfl (q_move _ _ rfl (At.hit z100 rfl).ev ?_)
              refine gsg (wanted_is (j := 9) (d := 35) (b := false) rfl rfl (At.hit z100.put rfl) rfl) (q_move _ _ rfl ((s4_100.ne rfl).ne rfl).ev ?_)
              refine gsg (wanted_is (j := 9) (d := 35) (b := false) rfl rfl ((At.hit z100.put rfl).ne rfl) rfl) (q_gtr false rfl (At.hit z100.put.put rfl).ev rfl (decide_eq_false (by omega)) ?_)
              refine gsg (wanted_is (j := 9) (d := 35) (b := false) rfl rfl (((At.hit z100.put rfl).ne rfl).ne rfl) rfl) (q_move _ _ rfl (At.hit z100.put.put.put rfl).ev ?_)
              refine gsk (wanted_is (j := 12) (d := 38) (b := false) rfl rfl (At.hit z100.put.put.put.put rfl) rfl) ?_
              refine gsk (wanted_is (j := 12) (d := 38) (b := false) rfl rfl ((At.hit z100.put.put.put.put rfl).ne rfl) rfl) ?_
              refine gsk (wanted_is (j := 12) (d := 38) (b := false) rfl rfl (((At.hit z100.put.put.put.put rfl).ne rfl).ne rfl) rfl) ?_
              refine g_fresh z100.put.put.put.put.put.put.put.put ?_
              intro a101 z101 m101
              have s0_101 := m101 _ _ ((((((((s0_100.ne rfl).ne rfl).ne rfl).ne rfl).ne rfl).ne rfl).ne rfl).ne rfl)
              have s3_101 := m101 _ _ ((((((((s3_100.ne rfl).ne rfl).ne rfl).ne rfl).ne rfl).ne rfl).ne rfl).ne rfl)
              have s4_101 := m101 _ _ ((((((((s4_100.ne rfl).ne rfl).ne rfl).ne rfl).ne rfl).ne rfl).ne rfl).ne rfl)
              have s35_101 := m101 _ _ (((((((At.hit z100.put rfl).ne rfl).ne rfl).ne rfl).ne rfl).ne rfl).ne rfl)
              have s38_101 := m101 _ _ ((((At.hit z100.put.put.put.put rfl).ne rfl).ne rfl).ne rfl)
              have s41_101 := m101 _ _ (At.hit z100.put.put.put.put.put.put.put rfl)
              clear m101
              refine gsk (wanted_is (j := 12) (d := 38) (b := false) rfl rfl s38_101 rfl) ?_
              refine gsk (wanted_is (j := 12) (d := 38) (b := false) rfl rfl (s38_101.ne rfl) rfl) ?_
              refine gsk (wanted_is (j := 12) (d := 38) (b := false) rfl rfl ((s38_101.ne rfl).ne rfl) rfl) ?_
              refine gsk (wanted_is (j := 12) (d := 38) (b := false) rfl rfl (((s38_101.ne rfl).ne rfl).ne rfl) rfl) ?_
              refine gsk (wanted_is (j := 12) (d := 38) (b := false) rfl rfl ((((s38_101.ne rfl).ne rfl).ne rfl).ne rfl) rfl) ?_
              refine gsk (wanted_is (j := 12) (d := 38) (b := false) rfl rfl (((((s38_101.ne rfl).ne rfl).ne rfl).ne rfl).ne rfl) rfl) ?_
              refine gsk (wanted_is (j := 12) (d := 38) (b := false) rfl rfl ((((((s38_101.ne rfl).ne rfl).ne rfl).ne rfl).ne rfl).ne rfl) rfl) ?_
              refine gsk (wanted_is (j := 12) (d := 38) (b := false) rfl rfl (((((((s38_101.ne rfl).ne rfl).ne rfl).ne rfl).ne rfl).ne rfl).ne rfl) rfl) ?_
              refine g_fresh z101.put.put.put.put.put.put.put.put ?_
              intro a102 z102 m102
              have s3_102 := m102 _ _ ((((((((s3_101.ne rfl).ne rfl).ne rfl).ne rfl).ne rfl).ne rfl).ne rfl).ne rfl)
              have s4_102 := m102 _ _ ((((((((s4_101.ne rfl).ne rfl).ne rfl).ne rfl).ne rfl).ne rfl).ne rfl).ne rfl)
              have s35_102 := m102 _ _ ((((((((s35_101.ne rfl).ne rfl).ne rfl).ne rfl).ne rfl).ne rfl).ne rfl).ne rfl)
              have s38_102 := m102 _ _ ((((((((s38_101.ne rfl).ne rfl).ne rfl).ne rfl).ne rfl).ne rfl).ne rfl).ne rfl)
              have s46_102 := m102 _ _ ((((At.hit z101.put.put.put.put rfl).ne rfl).ne rfl).ne rfl)
              have s49_102 := m102 _ _ (At.hit z101.put.put.put.put.put.put.put rfl)
              clear m102
              refine gsk (wanted_is (j := 12) (d := 38) (b := false) rfl rfl s38_102 rfl) ?_
              refine gsk (wanted_is (j := 12) (d := 38) (b := false) rfl rfl (s38_102.ne rfl) rfl) ?_
              refine gsk (wanted_is (j := 12) (d := 38) (b := false) rfl rfl ((s38_102.ne rfl).ne rfl) rfl) ?_
              refine gsk (wanted_is (j := 12) (d := 38) (b := false) rfl rfl (((s38_102.ne rfl).ne rfl).ne rfl) rfl) ?_
              refine gsk (wanted_is (j := 12) (d := 38) (b := false) rfl rfl ((((s38_102.ne rfl).ne rfl).ne rfl).ne rfl) rfl) ?_
              refine gsk (wanted_is (j := 12) (d := 38) (b := false) rfl rfl (((((s38_102.ne rfl).ne rfl).ne rfl).ne rfl).ne rfl) rfl) ?_
              refine gsk (wanted_is (j := 12) (d := 38) (b := false) rfl rfl ((((((s38_102.ne rfl).ne rfl).ne rfl).ne rfl).ne rfl).ne rfl) rfl) ?_
              refine gsg (wanted_is (j := 9) (d := 35) (b := false) rfl rfl (((((((s35_102.ne rfl).ne rfl).ne rfl).ne rfl).ne rfl).ne rfl).ne rfl) rfl) (q_pick (b := false) (.bool false) rfl (((((((s38_102.ne rfl).ne rfl).ne rfl).ne rfl).ne rfl).ne rfl).ne rfl).ev rfl ?_)
              refine g_fresh z102.put.put.put.put.put.put.put.put ?_
              intro a103 z103 m103
              have s3_103 := m103 _ _ ((((((((s3_102.ne rfl).ne rfl).ne rfl).ne rfl).ne rfl).ne rfl).ne rfl).ne rfl)
              have s4_103 := m103 _ _ ((((((((s4_102.ne rfl).ne rfl).ne rfl).ne rfl).ne rfl).ne rfl).ne rfl).ne rfl)
              have s35_103 := m103 _ _ ((((((((s35_102.ne rfl).ne rfl).ne rfl).ne rfl).ne rfl).ne rfl).ne rfl).ne rfl)
              have s57_103 := m103 _ _ (At.hit z102.put.put.put.put.put.put.put rfl)
              clear m103
              refine gs rfl (q_pick (b := false) (.bool false) rfl s35_103.ev s57_103.ev ?_)
              refine gz ?_
              intro w104 h104
              have ov_104 := (hv.low low65).low h104
              have oy99_104 := (RdFF.row (k := (okN L)) (hv.low low65) (by omega)).low h104
              refine e_id ?_
              refine e_fresh z103.put ?_
              intro a105 z105 m105
              have s3_105 := m105 _ _ (s3_103.ne rfl)
              have s4_105 := m105 _ _ (s4_103.ne rfl)
              have s58_105 := m105 _ _ (At.hit z103 rfl)
              have low105 := (low65.trans h104)
              clear m105
              refine e_then ?_
              refine c_false s58_105 ?_
              refine wp_skip ?_
              refine e_in ?_
              refine e_then ?_
              refine c_region ?_
              refine l_q rfl (q_move _ _ rfl s4_105.ev ?_)
              refine l_q rfl (q_add ((((ordN (L.getD (okN L) [])) + 1 : Nat) : Int)) rfl (At.hit z105 rfl).ev rfl (i64_is (by omega) (by omega) (by omega)) ?_)
              refine l_q rfl (q_assign _ _ rfl (At.hit z105.put rfl).ev ?_)
              refine l_end ?_
              refine e_fresh z105.put.put.put ?_
              intro a106 z106 m106
              have s3_106 := m106 _ _ (((s3_105.ne rfl).ne rfl).ne rfl)
              clear m106
              exact absurd ⟨hb68, fun h => absurd h hb77⟩ (ordN_stop hon)
      · skip
        refine c_region ?_
        refine l_q rfl (q_move _ _ rfl s0_37.ev ?_)
        refine l_q rfl (q_move _ _ rfl (s3_37.ne rfl).ev ?_)
        refine l_q rfl (q_idxF (j := (okN L)) rfl Tryd.underlying35 sz22 ((At.hit z37 rfl).ne rfl).ev (hv.low low35).1 (At.hit z37.put rfl).ev (by omega) ?_)
        refine l_q rfl (q_ld1 (u := (vs.getD (okN L) nilS)) rfl Tryd.underlying22 rfl (At.hit z37.put.put rfl).ev (fun _ e => by rw [e]; exact (hv.low low35).1) (by omega) (RdFF.cell (hv.low low35) (by omega)) ?_)
        refine l_call (fun v w' => v = .bool false ∧ Low w35 w') rfl rfl rfl Tryd.func12 rfl (args1 rfl (At.hit z37.put.put.put rfl).ev) (((calls_bool (Few.calls _ (L.getD (okN L) []) _ (RdFF.row (k := (okN L)) (hv.low low35) (by omega))) (eq_false_of_ne_true hb38))).mono fun _ _ ⟨e, k⟩ => ⟨_, e, rfl, k⟩) ?_
        rintro _ w108 ⟨rfl, h108⟩
        have ov_108 := (hv.low low35).low h108
        have oy107_108 := (RdFF.row (k := (okN L)) (hv.low low35) (by omega)).low h108
        refine l_q rfl (q_not (b := false) rfl (At.hit z37.put.put.put.put rfl).ev ?_)
        refine l_end ?_
        refine e_fresh z37.put.put.put.put.put.put ?_
        intro a109 z109 m109
        have s0_109 := m109 _ _ ((((((s0_37.ne rfl).ne rfl).ne rfl).ne rfl).ne rfl).ne rfl)
        have s3_109 := m109 _ _ ((((((s3_37.ne rfl).ne rfl).ne rfl).ne rfl).ne rfl).ne rfl)
        have s16_109 := m109 _ _ (At.hit z37.put.put.put.put.put rfl)
        have low109 := (low35.trans h108)
        clear m109
        refine e_then ?_
        refine c_true s16_109 ?_
        refine c_seq ?_
        refine c_region ?_
        refine l_q rfl (q_assign _ _ rfl rfl ?_)
        refine l_end ?_
        refine e_fresh z109.put ?_
        intro a110 z110 m110
        have s2_110 := m110 _ _ (At.hit z109 rfl)
        clear m110
        refine e_then ?_
        refine wp_ret ?_
        refine ret_then ?_
        refine ret_in ?_
        refine ret_then ?_
        refine ret_then ?_
        refine ret_in ?_
        refine ret_then ?_
        refine r_tmp rfl z110.defers s2_110 ?_
        exact ⟨by unfold mayB; rw [decide_eq_false (by omega)]; rfl, low109⟩
    · skip
      refine c_region ?_
      refine l_q rfl (q_move _ _ rfl s3_35.ev ?_)
      refine l_q rfl (q_move _ _ rfl (s0_35.ne rfl).ev ?_)
      refine l_q rfl (q_lenF rfl rfl Tryd.underlying35 (At.hit z35.put rfl).ev (hv.low low35).1 ?_)
      refine l_q rfl (q_lss false rfl (((At.hit z35 rfl).ne rfl).ne rfl).ev (At.hit z35.put.put rfl).ev (decide_eq_false (by omega)) ?_)
      refine l_end ?_
      refine e_fresh z35.put.put.put.put ?_
      intro a111 z111 m111
      have s0_111 := m111 _ _ ((((s0_35.ne rfl).ne rfl).ne rfl).ne rfl)
      have s3_111 := m111 _ _ ((((s3_35.ne rfl).ne rfl).ne rfl).ne rfl)
      have s8_111 := m111 _ _ (At.hit z35.put.put.put rfl)
      clear m111
      refine e_then ?_
      refine c_false s8_111 ?_
      refine wp_exit ?_
      refine x_then ?_
      refine x_then ?_
      refine in_exit ?_
      refine e_then ?_
      refine c_seq ?_
      refine c_region ?_
      refine l_q rfl (q_assign _ _ rfl rfl ?_)
      refine l_end ?_
      refine e_fresh z111.put ?_
      intro a112 z112 m112
      have s2_112 := m112 _ _ (At.hit z111 rfl)
      clear m112
      refine e_then ?_
      refine wp_ret ?_
      refine r_tmp rfl z112.defers s2_112 ?_
      exact ⟨by unfold mayB; rw [decide_eq_true (by omega)]; rfl, low35⟩
theorem Awake.calls (w0 : World) : Calls Tryd.prog 5 #[] w0 fun e w' => e = .returned (.bool true) ∧ Low w0 w' := by
  refine c_fun (R := _) Tryd.func5 rfl 67 rfl (Nat.le_of_ble_eq_true rfl) ?_
  intro a z hA
  clear hA
  refine c_seq ?_
  refine c_region ?_
  refine l_q rfl (q_assign _ _ rfl rfl ?_)
  refine l_end ?_
  refine e_fresh z.put ?_
  intro a1 z1 m1
  clear m1
  refine e_then ?_
  refine c_seq ?_
  refine c_region ?_
  refine l_q rfl (q_build (cs := #[.string leafA.f0, .int .i64 leafA.f1, .string leafA.f2]) rfl rfl (by kernel_rfl) ?_)
  refine l_q rfl (q_build (cs := #[.string leafB.f0, .int .i64 leafB.f1, .string leafB.f2]) rfl rfl (by kernel_rfl) ?_)
  refine l_q rfl (q_build (cs := #[.string leafC.f0, .int .i64 leafC.f1, .string leafC.f2]) rfl rfl (by kernel_rfl) ?_)
  refine l_alloc rfl rfl zero34 ?_
  intro g1 w2 hg2 k2 h2
  have geg1 := Nat.le_trans (Low.refl _).ge hg2
  refine l_alloc rfl rfl zero34 ?_
  intro g2 w3 hg3 k3 h3
  have lt_g1_g2 := Nat.lt_of_lt_of_le (heap_lt k2) hg3
  have geg2 := Nat.le_trans h2.ge hg3
  have kg1_3 := h3.blk k2
  refine l_alloc rfl rfl zero34 ?_
  intro g3 w4 hg4 k4 h4
  have lt_g1_g3 := Nat.lt_of_lt_of_le (heap_lt kg1_3) hg4
  have lt_g2_g3 := Nat.lt_of_lt_of_le (heap_lt k3) hg4
  have geg3 := Nat.le_trans (h2.trans h3).ge hg4
  have kg1_4 := h4.blk kg1_3
  have kg2_4 := h4.blk k3
  refine l_row rfl rfl rfl (sz34.trans (congrArg some rfl.symm)) (((At.hit z1.put.put.put rfl).ne rfl).ne rfl).ev ((((((At.hit z1 rfl).ne rfl).ne rfl).ne rfl).ne rfl).ne rfl).ev (by simp [Value.oneCell']) kg1_4 (rfl.trans rfl.symm) ?_
  intro w5 k5 u5
  have kg2_5 := u5.blk kg2_4 (by omega)
  have kg3_5 := u5.blk k4 (by omega)
  refine l_row rfl rfl rfl (sz34.trans (congrArg some rfl.symm)) ((At.hit z1.put.put.put.put rfl).ne rfl).ev (((((At.hit z1.put rfl).ne rfl).ne rfl).ne rfl).ne rfl).ev (by simp [Value.oneCell']) kg2_5 (rfl.trans rfl.symm) ?_
  intro w6 k6 u6
  have kg1_6 := u6.blk k5 (by omega)
  have kg3_6 := u6.blk kg3_5 (by omega)
  refine l_row rfl rfl rfl (sz34.trans (congrArg some rfl.symm)) (At.hit z1.put.put.put.put.put rfl).ev ((((At.hit z1.put.put rfl).ne rfl).ne rfl).ne rfl).ev (by simp [Value.oneCell']) kg3_6 (rfl.trans rfl.symm) ?_
  intro w7 k7 u7
  have kg1_7 := u7.blk kg1_6 (by omega)
  have kg2_7 := u7.blk k6 (by omega)
  refine l_end ?_
  refine e_fresh z1.put.put.put.put.put.put ?_
  intro a8 z8 m8
  have s1_8 := m8 _ _ (((At.hit z1.put.put.put rfl).ne rfl).ne rfl)
  have s2_8 := m8 _ _ ((At.hit z1.put.put.put.put rfl).ne rfl)
  have s3_8 := m8 _ _ (At.hit z1.put.put.put.put.put rfl)
  have low8 := (((((h2.trans h3).trans h4).upd u5 geg1).upd u6 geg2).upd u7 geg3)
  clear m8
  refine e_then ?_
  refine c_seq ?_
  refine c_region ?_
  refine l_q rfl (q_row rfl Tryd.underlying34 rfl (sz34.trans (congrArg some rfl.symm)) s1_8.ev (fun _ e => by rw [e]; exact kg1_7) ?_)
  refine l_buildF (vs := [.string leafA.f0, .int .i64 leafA.f1, .string leafA.f2]) rfl rfl Tryd.underlying22 rec34 (At.hit z8 rfl).ev rfl rfl (by decide) (by decide) ?_
  intro g13_9 w9 hg9 k9 h9
  have lt_g1_g13_9 := Nat.lt_of_lt_of_le (heap_lt kg1_7) hg9
  have lt_g2_g13_9 := Nat.lt_of_lt_of_le (heap_lt kg2_7) hg9
  have lt_g3_g13_9 := Nat.lt_of_lt_of_le (heap_lt k7) hg9
  have geg13_9 := Nat.le_trans low8.ge hg9
  have kg1_9 := h9.blk kg1_7
  have kg2_9 := h9.blk kg2_7
  have kg3_9 := h9.blk k7
  have ol9 : RdF w9 3 (.slice (some ⟨g13_9, 0, none⟩) 1 1) ([leafA]).length ([leafA].map encL).flatten := rdF_rec k9 rfl
  refine l_q rfl (q_row rfl Tryd.underlying34 rfl (sz34.trans (congrArg some rfl.symm)) ((s1_8.ne rfl).ne rfl).ev (fun _ e => by rw [e]; exact kg1_9) ?_)
  refine l_q rfl (q_row rfl Tryd.underlying34 rfl (sz34.trans (congrArg some rfl.symm)) (((s2_8.ne rfl).ne rfl).ne rfl).ev (fun _ e => by rw [e]; exact kg2_9) ?_)
  refine l_two3 rfl rfl Tryd.underlying22 rec34 ((At.hit z8.put.put rfl).ne rfl).ev (At.hit z8.put.put.put rfl).ev ?_
  intro g16_10 w10 hg10 k10 h10
  have lt_g1_g16_10 := Nat.lt_of_lt_of_le (heap_lt kg1_9) hg10
  have lt_g2_g16_10 := Nat.lt_of_lt_of_le (heap_lt kg2_9) hg10
  have lt_g3_g16_10 := Nat.lt_of_lt_of_le (heap_lt kg3_9) hg10
  have lt_g13_9_g16_10 := Nat.lt_of_lt_of_le (heap_lt k9) hg10
  have geg16_10 := Nat.le_trans (low8.trans h9).ge hg10
  have kg1_10 := h10.blk kg1_9
  have kg2_10 := h10.blk kg2_9
  have kg3_10 := h10.blk kg3_9
  have kg13_9_10 := h10.blk k9
  have oL9_10 := ol9.low h10
  have ol10 : RdF w10 3 (.slice (some ⟨g16_10, 0, none⟩) 2 2) ([leafA, leafB]).length ([leafA, leafB].map encL).flatten := rdF_rec k10 rfl
  refine l_call _ rfl rfl rfl Tryd.func8 rfl (args3 rfl ((((At.hit z8.put rfl).ne rfl).ne rfl).ne rfl).ev (At.hit z8.put.put.put.put rfl).ev rfl) (Three.calls _ _ _ ([leafA]) ([leafA, leafB]) ([]) (by decide) (by decide) (by decide) shortAB shortN _ oL9_10 ol10 (OwnF.nil w10 0 0 _).rd) ?_
  rintro _ w11 ⟨p11, q11, rfl, o11, oo11, h11⟩
  replace o11 := o11.base ((low8.trans h9).trans h10).ge
  replace oo11 := oo11.base ((low8.trans h9).trans h10).ge
  have kg1_11 := h11.blk kg1_10
  have kg2_11 := h11.blk kg2_10
  have kg3_11 := h11.blk kg3_10
  have kg13_9_11 := h11.blk kg13_9_10
  have kg16_10_11 := h11.blk k10
  have oL9_11 := oL9_10.low h11
  have oL10_11 := ol10.low h11
  replace o11 := OwnF.castL o11 (show outF [leafA] [leafA, leafB] [] = [leafB] from aw1)
  replace oo11 := OwnF.castL oo11 (show badA [leafA] [leafA, leafB] [] = ([] : List ByteArray) from aw2)
  refine l_q rfl (q_move _ _ rfl (At.hit z8.put.put.put.put.put rfl).ev ?_)
  refine l_q rfl (q_extract rfl (At.hit z8.put.put.put.put.put.put rfl).ev rfl ?_)
  refine l_fresh z8.put.put.put.put.put.put.put.put ?_
  intro a12 z12 m12
  have s1_12 := m12 _ _ ((((((((s1_8.ne rfl).ne rfl).ne rfl).ne rfl).ne rfl).ne rfl).ne rfl).ne rfl)
  have s2_12 := m12 _ _ ((((((((s2_8.ne rfl).ne rfl).ne rfl).ne rfl).ne rfl).ne rfl).ne rfl).ne rfl)
  have s3_12 := m12 _ _ ((((((((s3_8.ne rfl).ne rfl).ne rfl).ne rfl).ne rfl).ne rfl).ne rfl).ne rfl)
  have s11_12 := m12 _ _ ((At.hit z8.put.put.put.put.put.put rfl).ne rfl)
  have s18_12 := m12 _ _ (At.hit z8.put.put.put.put.put.put.put rfl)
  clear m12
  refine l_q rfl (q_extract rfl s11_12.ev rfl ?_)
  refine l_q rfl (q_assign _ _ rfl (s18_12.ne rfl).ev ?_)
  refine l_q rfl (q_assign _ _ rfl ((At.hit z12 rfl).ne rfl).ev ?_)
  refine l_end ?_
  refine e_fresh z12.put.put.put ?_
  intro a13 z13 m13
  have s1_13 := m13 _ _ (((s1_12.ne rfl).ne rfl).ne rfl)
  have s2_13 := m13 _ _ (((s2_12.ne rfl).ne rfl).ne rfl)
  have s3_13 := m13 _ _ (((s3_12.ne rfl).ne rfl).ne rfl)
  have s4_13 := m13 _ _ ((At.hit z12.put rfl).ne rfl)
  have s5_13 := m13 _ _ (At.hit z12.put.put rfl)
  have low13 := (((low8.trans h9).trans h10).trans h11)
  clear m13
  refine e_then ?_
  refine c_seq ?_
  refine c_region ?_
  refine l_q rfl (q_row rfl Tryd.underlying34 rfl (sz34.trans (congrArg some rfl.symm)) s1_13.ev (fun _ e => by rw [e]; exact kg1_11) ?_)
  refine l_buildF (vs := [.string leafA.f0, .int .i64 leafA.f1, .string leafA.f2]) rfl rfl Tryd.underlying22 rec34 (At.hit z13 rfl).ev rfl rfl (by decide) (by decide) ?_
  intro g22_14 w14 hg14 k14 h14
  have onb11_g22_14 : ∀ k, Value.ownBlock p11 = some k → k < g22_14 := fun k hk => Nat.lt_of_lt_of_le (OwnF.own_lt o11 hk) hg14
  have lt_g1_g22_14 := Nat.lt_of_lt_of_le (heap_lt kg1_11) hg14
  have lt_g2_g22_14 := Nat.lt_of_lt_of_le (heap_lt kg2_11) hg14
  have lt_g3_g22_14 := Nat.lt_of_lt_of_le (heap_lt kg3_11) hg14
  have geg22_14 := Nat.le_trans low13.ge hg14
  have kg1_14 := h14.blk kg1_11
  have kg2_14 := h14.blk kg2_11
  have kg3_14 := h14.blk kg3_11
  have ob11_14 := o11.low h14
  have oc11_14 := oo11.low h14
  have ol14 : RdF w14 3 (.slice (some ⟨g22_14, 0, none⟩) 1 1) ([leafA]).length ([leafA].map encL).flatten := rdF_rec k14 rfl
  refine l_q rfl (q_row rfl Tryd.underlying34 rfl (sz34.trans (congrArg some rfl.symm)) ((s3_13.ne rfl).ne rfl).ev (fun _ e => by rw [e]; exact kg3_14) ?_)
  refine l_buildF (vs := [.string leafC.f0, .int .i64 leafC.f1, .string leafC.f2]) rfl rfl Tryd.underlying22 rec34 (At.hit z13.put.put rfl).ev rfl rfl (by decide) (by decide) ?_
  intro g24_15 w15 hg15 k15 h15
  have onb11_g24_15 : ∀ k, Value.ownBlock p11 = some k → k < g24_15 := fun k hk => Nat.lt_of_lt_of_le (OwnF.own_lt ob11_14 hk) hg15
  have lt_g1_g24_15 := Nat.lt_of_lt_of_le (heap_lt kg1_14) hg15
  have lt_g2_g24_15 := Nat.lt_of_lt_of_le (heap_lt kg2_14) hg15
  have lt_g3_g24_15 := Nat.lt_of_lt_of_le (heap_lt kg3_14) hg15
  have lt_g22_14_g24_15 := Nat.lt_of_lt_of_le (heap_lt k14) hg15
  have geg24_15 := Nat.le_trans (low13.trans h14).ge hg15
  have kg1_15 := h15.blk kg1_14
  have kg2_15 := h15.blk kg2_14
  have kg3_15 := h15.blk kg3_14
  have kg22_14_15 := h15.blk k14
  have ob11_15 := ob11_14.low h15
  have oc11_15 := oc11_14.low h15
  have oL14_15 := ol14.low h15
  have ol15 : RdF w15 3 (.slice (some ⟨g24_15, 0, none⟩) 1 1) ([leafC]).length ([leafC].map encL).flatten := rdF_rec k15 rfl
  refine l_call _ rfl rfl rfl Tryd.func8 rfl (args3 rfl (((At.hit z13.put rfl).ne rfl).ne rfl).ev rfl (At.hit z13.put.put.put rfl).ev) (Three.calls _ _ _ ([leafA]) ([]) ([leafC]) (by decide) (by decide) (by decide) shortN shortC _ oL14_15 (OwnF.nil w15 0 0 _).rd ol15) ?_
  rintro _ w16 ⟨p16, q16, rfl, o16, oo16, h16⟩
  replace o16 := o16.base ((low13.trans h14).trans h15).ge
  replace oo16 := oo16.base ((low13.trans h14).trans h15).ge
  have kg1_16 := h16.blk kg1_15
  have kg2_16 := h16.blk kg2_15
  have kg3_16 := h16.blk kg3_15
  have kg22_14_16 := h16.blk kg22_14_15
  have kg24_15_16 := h16.blk k15
  have ob11_16 := ob11_15.low h16
  have oc11_16 := oc11_15.low h16
  have oL14_16 := oL14_15.low h16
  have oL15_16 := ol15.low h16
  replace oo16 := OwnF.castL oo16 (show badA [leafA] [] [leafC] = ([⟨#[97]⟩] : List ByteArray) from aw3)
  refine l_q rfl (q_move _ _ rfl (At.hit z13.put.put.put.put rfl).ev ?_)
  refine l_q rfl (q_extract rfl (At.hit z13.put.put.put.put.put rfl).ev rfl ?_)
  refine l_q rfl (q_extract rfl ((At.hit z13.put.put.put.put.put rfl).ne rfl).ev rfl ?_)
  refine l_fresh z13.put.put.put.put.put.put.put.put ?_
  intro a17 z17 m17
  have s1_17 := m17 _ _ ((((((((s1_13.ne rfl).ne rfl).ne rfl).ne rfl).ne rfl).ne rfl).ne rfl).ne rfl)
  have s2_17 := m17 _ _ ((((((((s2_13.ne rfl).ne rfl).ne rfl).ne rfl).ne rfl).ne rfl).ne rfl).ne rfl)
  have s3_17 := m17 _ _ ((((((((s3_13.ne rfl).ne rfl).ne rfl).ne rfl).ne rfl).ne rfl).ne rfl).ne rfl)
  have s4_17 := m17 _ _ ((((((((s4_13.ne rfl).ne rfl).ne rfl).ne rfl).ne rfl).ne rfl).ne rfl).ne rfl)
  have s5_17 := m17 _ _ ((((((((s5_13.ne rfl).ne rfl).ne rfl).ne rfl).ne rfl).ne rfl).ne rfl).ne rfl)
  have s26_17 := m17 _ _ ((At.hit z13.put.put.put.put.put.put rfl).ne rfl)
  have s27_17 := m17 _ _ (At.hit z13.put.put.put.put.put.put.put rfl)
  clear m17
  refine l_q rfl (q_assign _ _ rfl s26_17.ev ?_)
  refine l_q rfl (q_assign _ _ rfl (s27_17.ne rfl).ev ?_)
  refine l_end ?_
  refine e_fresh z17.put.put ?_
  intro a18 z18 m18
  have s1_18 := m18 _ _ ((s1_17.ne rfl).ne rfl)
  have s2_18 := m18 _ _ ((s2_17.ne rfl).ne rfl)
  have s3_18 := m18 _ _ ((s3_17.ne rfl).ne rfl)
  have s4_18 := m18 _ _ ((s4_17.ne rfl).ne rfl)
  have s5_18 := m18 _ _ ((s5_17.ne rfl).ne rfl)
  have s7_18 := m18 _ _ (At.hit z17.put rfl)
  have low18 := (((low13.trans h14).trans h15).trans h16)
  clear m18
  refine e_then ?_
  refine c_seq ?_
  refine region_someg (TL [Is (p11), Is (.int .i64 (((([leafB]).length) : Nat) : Int)), Is (.bool true), Is (.bool true), Is (p11), Is (pAt p11 (0 * 3)), Is (.agg (#[.string ((([leafB]).getD 0 zL).f0), .int .i64 ((([leafB]).getD 0 zL).f1), .string ((([leafB]).getD 0 zL).f2)])), Is (.agg (#[.string leafB.f0, .int .i64 leafB.f1, .string leafB.f2])), Is (.bool true), Is (.bool true), Is (.bool true), Is (q11), Is (.int .i64 (((([] : List ByteArray).length) : Nat) : Int)), Is (.bool true), Is (.bool true), Is (.bool true), Is (q16), Is (.int .i64 (((([⟨#[97]⟩] : List ByteArray).length) : Nat) : Int)), Is (.bool true), Is (.bool true), Is (.bool true), Is (q16), Is (pAt q16 (0 * 1)), Is (.string (([⟨#[97]⟩] : List ByteArray).getD 0 ByteArray.empty)), Is (.bool true), Is (.bool true), Is (.bool true), Is (.agg (#[.string leafA.f0, .int .i64 leafA.f1, .string leafA.f2])), RowT [leafA], Is (.bool true), Is (.bool true), Is (.bool true), Is (.agg (#[.string leafC.f0, .int .i64 leafC.f1, .string leafC.f2])), RowT [leafC], Is (.agg (#[.string leafA.f0, .int .i64 leafA.f1, .string leafA.f2])), RowT [leafA], Is (.bool false), Is (.bool true), Is (.bool true), Is (.bool true)]) Low hm (by kernel_rfl) z18 (low_drawn _) (fun _ _ _ h k => Low.trans h k) (TL_cons ?_ (TL_cons ?_ (TL_cons ?_ (TL_cons ?_ (TL_cons ?_ (TL_cons ?_ (TL_cons ?_ (TL_cons ?_ (TL_cons ?_ (TL_cons ?_ (TL_cons ?_ (TL_cons ?_ (TL_cons ?_ (TL_cons ?_ (TL_cons ?_ (TL_cons ?_ (TL_cons ?_ (TL_cons ?_ (TL_cons ?_ (TL_cons ?_ (TL_cons ?_ (TL_cons ?_ (TL_cons ?_ (TL_cons ?_ (TL_cons ?_ (TL_cons ?_ (TL_cons ?_ (TL_cons ?_ (TL_cons ?_ (TL_cons ?_ (TL_cons ?_ (TL_cons ?_ (TL_cons ?_ (TL_cons ?_ (TL_cons ?_ (TL_cons ?_ (TL_cons ?_ (TL_cons ?_ (TL_cons ?_ (TL_cons ?_ TL_nil)))))))))))))))))))))))))))))))))))))))) (allS_cons ?_ (allS_cons ?_ (allS_cons ?_ (allS_cons ?_ (allS_cons ?_ (allS_cons ?_ (allS_cons ?_ (allS_cons ?_ (allS_cons ?_ (allS_cons ?_ (allS_cons ?_ (allS_cons ?_ (allS_cons ?_ (allS_cons ?_ (allS_cons ?_ (allS_cons ?_ (allS_cons ?_ (allS_cons ?_ (allS_cons ?_ (allS_cons ?_ (allS_cons ?_ (allS_cons ?_ (allS_cons ?_ (allS_cons ?_ (allS_cons ?_ (allS_cons ?_ (allS_cons ?_ (allS_cons ?_ (allS_cons ?_ (allS_cons ?_ (allS_cons ?_ (allS_cons ?_ (allS_cons ?_ (allS_cons ?_ (allS_cons ?_ (allS_cons ?_ (allS_cons ?_ (allS_cons ?_ (allS_cons ?_ (allS_cons ?_ allS_nil)))))))))))))))))))))))))))))))))))))))) (allG_none rfl (allG_none rfl (allG_none rfl (allG_none rfl (allG_some 3 true 31 rfl rfl rfl (fun _ _ h => h) (allG_some 3 true 31 rfl rfl rfl (fun _ _ h => h) (allG_some 3 true 31 rfl rfl rfl (fun _ _ h => h) (allG_some 3 true 31 rfl rfl rfl (fun _ _ h => h) (allG_some 3 true 31 rfl rfl rfl (fun _ _ h => h) (allG_none rfl (allG_none rfl (allG_some 10 true 38 rfl rfl rfl (fun _ _ h => h) (allG_some 10 true 38 rfl rfl rfl (fun _ _ h => h) (allG_some 10 true 38 rfl rfl rfl (fun _ _ h => h) (allG_none rfl (allG_none rfl (allG_some 15 true 43 rfl rfl rfl (fun _ _ h => h) (allG_some 15 true 43 rfl rfl rfl (fun _ _ h => h) (allG_some 15 true 43 rfl rfl rfl (fun _ _ h => h) (allG_none rfl (allG_none rfl (allG_some 20 true 48 rfl rfl rfl (fun _ _ h => h) (allG_some 20 true 48 rfl rfl rfl (fun _ _ h => h) (allG_some 20 true 48 rfl rfl rfl (fun _ _ h => h) (allG_some 20 true 48 rfl rfl rfl (fun _ _ h => h) (allG_none rfl (allG_none rfl (allG_some 26 true 54 rfl rfl rfl (fun _ _ h => h) (allG_some 26 true 54 rfl rfl rfl (fun _ _ h => h) (allG_some 26 true 54 rfl rfl rfl (fun _ _ h => h) (allG_none rfl (allG_none rfl (allG_some 31 true 59 rfl rfl rfl (fun _ _ h => h) (allG_some 31 true 59 rfl rfl rfl (fun _ _ h => h) (allG_some 31 true 59 rfl rfl rfl (fun _ _ h => h) (allG_some 31 true 59 rfl rfl rfl (fun _ _ h => h) (allG_some 31 true 59 rfl rfl rfl (fun _ _ h => h) (allG_some 31 true 59 rfl rfl rfl (fun _ _ h => h) (allG_none rfl (allG_none rfl allG_nil)))))))))))))))))))))))))))))))))))))))) ?_
  · exact StL_is _
  · exact StL_is _
  · exact StL_is _
  · exact StL_is _
  · exact StL_is _
  · exact StL_is _
  · exact StL_is _
  · exact StL_is _
  · exact StL_is _
  · exact StL_is _
  · exact StL_is _
  · exact StL_is _
  · exact StL_is _
  · exact StL_is _
  · exact StL_is _
  · exact StL_is _
  · exact StL_is _
  · exact StL_is _
  · exact StL_is _
  · exact StL_is _
  · exact StL_is _
  · exact StL_is _
  · exact StL_is _
  · exact StL_is _
  · exact StL_is _
  · exact StL_is _
  · exact StL_is _
  · exact StL_is _
  · exact StL_row _
  · exact StL_is _
  · exact StL_is _
  · exact StL_is _
  · exact StL_is _
  · exact StL_row _
  · exact StL_is _
  · exact StL_row _
  · exact StL_is _
  · exact StL_is _
  · exact StL_is _
  · exact StL_is _
  · exact (stepS_val (p11) _ rfl rfl rfl Low.refl (fun _ => rfl) fun a w z lw kp kn => q_move _ _ rfl (kp _ _ rfl s4_18).ev rfl)
  · exact (stepS_val (.int .i64 (((([leafB]).length) : Nat) : Int)) _ rfl rfl rfl Low.refl (fun _ => rfl) fun a w z lw kp kn => q_lenF rfl rfl Tryd.underlying22 (at_is (u := p11) (w := w) (kn 0 _ rfl rfl)).ev (ob11_16.low lw).rd rfl)
  · exact (stepS_val (.bool true) _ rfl rfl rfl Low.refl (fun _ => rfl) fun a w z lw kp kn => q_eql true rfl (at_is (u := .int .i64 (((([leafB]).length) : Nat) : Int)) (w := w) (kn 1 _ rfl rfl)).ev rfl (decide_eq_true rfl) rfl)
  · exact (stepS_val (.bool true) _ rfl rfl rfl Low.refl (fun _ => rfl) fun a w z lw kp kn => q_move _ _ rfl (at_is (u := .bool true) (w := w) (kn 2 _ rfl rfl)).ev rfl)
  · exact (stepS_val (p11) _ rfl rfl rfl Low.refl (fun _ => rfl) fun a w z lw kp kn => q_move _ _ rfl (kp _ _ rfl s4_18).ev rfl)
  · exact (stepS_val (pAt p11 (0 * 3)) _ rfl rfl rfl Low.refl (fun _ => rfl) fun a w z lw kp kn => q_idxF (j := 0) rfl Tryd.underlying22 sz34 (at_is (u := p11) (w := w) (kn 4 _ rfl rfl)).ev (ob11_16.low lw).rd rfl (by decide) rfl)
  · exact (stepS_val (.agg (#[.string ((([leafB]).getD 0 zL).f0), .int .i64 ((([leafB]).getD 0 zL).f1), .string ((([leafB]).getD 0 zL).f2)])) _ rfl rfl rfl Low.refl (fun _ => rfl) fun a w z lw kp kn => q_ldR (vs := [.string ((([leafB]).getD 0 zL).f0), .int .i64 ((([leafB]).getD 0 zL).f1), .string ((([leafB]).getD 0 zL).f2)]) rfl Tryd.underlying34 rfl sz34 (at_is (u := pAt p11 (0 * 3)) (w := w) (kn 5 _ rfl rfl)).ev (fun _ e => by rw [e]; exact (ob11_16.low lw).rd) (by decide) rfl (flat_part encL_len zL _ 0 (by decide)) rfl)
  · exact (stepS_val (.agg (#[.string leafB.f0, .int .i64 leafB.f1, .string leafB.f2])) _ rfl rfl rfl Low.refl (fun _ => rfl) fun a w z lw kp kn => q_row rfl Tryd.underlying34 rfl (sz34.trans (congrArg some rfl.symm)) (kp _ _ rfl s2_18).ev (fun _ e => by rw [e]; exact (lw.blk kg2_16)) rfl)
  · exact (stepS_val (.bool true) _ rfl rfl rfl Low.refl (fun _ => rfl) fun a w z lw kp kn => q_eq3 true rfl guard34 (at_is (u := .agg (#[.string ((([leafB]).getD 0 zL).f0), .int .i64 ((([leafB]).getD 0 zL).f1), .string ((([leafB]).getD 0 zL).f2)])) (w := w) (kn 6 _ rfl rfl)).ev (at_is (u := .agg (#[.string leafB.f0, .int .i64 leafB.f1, .string leafB.f2])) (w := w) (kn 7 _ rfl rfl)).ev (eq34 9998 ((([leafB]).getD 0 zL).f0) ((([leafB]).getD 0 zL).f1) ((([leafB]).getD 0 zL).f2) leafB.f0 leafB.f1 leafB.f2) (eqL_true rfl) rfl)
  · exact (stepS_val (.bool true) _ rfl rfl rfl Low.refl (fun _ => rfl) fun a w z lw kp kn => q_pick (b := true) (.bool true) rfl (at_is (u := .bool true) (w := w) (kn 3 _ rfl rfl)).ev (at_is (u := .bool true) (w := w) (kn 8 _ rfl rfl)).ev rfl)
  · exact (stepS_val (.bool true) _ rfl rfl rfl Low.refl (fun _ => rfl) fun a w z lw kp kn => q_move _ _ rfl (at_is (u := .bool true) (w := w) (kn 9 _ rfl rfl)).ev rfl)
  · exact (stepS_val (q11) _ rfl rfl rfl Low.refl (fun _ => rfl) fun a w z lw kp kn => q_move _ _ rfl (kp _ _ rfl s5_18).ev rfl)
  · exact (stepS_val (.int .i64 (((([] : List ByteArray).length) : Nat) : Int)) _ rfl rfl rfl Low.refl (fun _ => rfl) fun a w z lw kp kn => q_lenF rfl rfl Tryd.underlying26 (at_is (u := q11) (w := w) (kn 11 _ rfl rfl)).ev (oc11_16.low lw).rd rfl)
  · exact (stepS_val (.bool true) _ rfl rfl rfl Low.refl (fun _ => rfl) fun a w z lw kp kn => q_eql true rfl (at_is (u := .int .i64 (((([] : List ByteArray).length) : Nat) : Int)) (w := w) (kn 12 _ rfl rfl)).ev rfl (decide_eq_true rfl) rfl)
  · exact (stepS_val (.bool true) _ rfl rfl rfl Low.refl (fun _ => rfl) fun a w z lw kp kn => q_pick (b := true) (.bool true) rfl (at_is (u := .bool true) (w := w) (kn 10 _ rfl rfl)).ev (at_is (u := .bool true) (w := w) (kn 13 _ rfl rfl)).ev rfl)
  · exact (stepS_val (.bool true) _ rfl rfl rfl Low.refl (fun _ => rfl) fun a w z lw kp kn => q_move _ _ rfl (at_is (u := .bool true) (w := w) (kn 14 _ rfl rfl)).ev rfl)
  · exact (stepS_val (q16) _ rfl rfl rfl Low.refl (fun _ => rfl) fun a w z lw kp kn => q_move _ _ rfl (kp _ _ rfl s7_18).ev rfl)
  · exact (stepS_val (.int .i64 (((([⟨#[97]⟩] : List ByteArray).length) : Nat) : Int)) _ rfl rfl rfl Low.refl (fun _ => rfl) fun a w z lw kp kn => q_lenF rfl rfl Tryd.underlying26 (at_is (u := q16) (w := w) (kn 16 _ rfl rfl)).ev (oo16.low lw).rd rfl)
  · exact (stepS_val (.bool true) _ rfl rfl rfl Low.refl (fun _ => rfl) fun a w z lw kp kn => q_eql true rfl (at_is (u := .int .i64 (((([⟨#[97]⟩] : List ByteArray).length) : Nat) : Int)) (w := w) (kn 17 _ rfl rfl)).ev rfl (decide_eq_true rfl) rfl)
  · exact (stepS_val (.bool true) _ rfl rfl rfl Low.refl (fun _ => rfl) fun a w z lw kp kn => q_pick (b := true) (.bool true) rfl (at_is (u := .bool true) (w := w) (kn 15 _ rfl rfl)).ev (at_is (u := .bool true) (w := w) (kn 18 _ rfl rfl)).ev rfl)
  · exact (stepS_val (.bool true) _ rfl rfl rfl Low.refl (fun _ => rfl) fun a w z lw kp kn => q_move _ _ rfl (at_is (u := .bool true) (w := w) (kn 19 _ rfl rfl)).ev rfl)
  · exact (stepS_val (q16) _ rfl rfl rfl Low.refl (fun _ => rfl) fun a w z lw kp kn => q_move _ _ rfl (kp _ _ rfl s7_18).ev rfl)
  · exact (stepS_val (pAt q16 (0 * 1)) _ rfl rfl rfl Low.refl (fun _ => rfl) fun a w z lw kp kn => q_idxF (j := 0) rfl Tryd.underlying26 sz9 (at_is (u := q16) (w := w) (kn 21 _ rfl rfl)).ev (oo16.low lw).rd rfl (by decide) rfl)
  · exact (stepS_val (.string (([⟨#[97]⟩] : List ByteArray).getD 0 ByteArray.empty)) _ rfl rfl rfl Low.refl (fun _ => rfl) fun a w z lw kp kn => q_ld1 (u := .string (([⟨#[97]⟩] : List ByteArray).getD 0 ByteArray.empty)) rfl Tryd.underlying9 rfl (at_is (u := pAt q16 (0 * 1)) (w := w) (kn 22 _ rfl rfl)).ev (fun _ e => by rw [e]; exact (oo16.low lw).rd) (by decide) ((flat_at encS_len ByteArray.empty _ 0 0 (by decide) (by decide)).trans rfl) rfl)
  · exact (stepS_val (.bool true) _ rfl rfl rfl Low.refl (fun _ => rfl) fun a w z lw kp kn => q_streq true rfl (at_is (u := .string (([⟨#[97]⟩] : List ByteArray).getD 0 ByteArray.empty)) (w := w) (kn 23 _ rfl rfl)).ev rfl (strT rfl) rfl)
  · exact (stepS_val (.bool true) _ rfl rfl rfl Low.refl (fun _ => rfl) fun a w z lw kp kn => q_pick (b := true) (.bool true) rfl (at_is (u := .bool true) (w := w) (kn 20 _ rfl rfl)).ev (at_is (u := .bool true) (w := w) (kn 24 _ rfl rfl)).ev rfl)
  · exact (stepS_val (.bool true) _ rfl rfl rfl Low.refl (fun _ => rfl) fun a w z lw kp kn => q_move _ _ rfl (at_is (u := .bool true) (w := w) (kn 25 _ rfl rfl)).ev rfl)
  · exact (stepS_val (.agg (#[.string leafA.f0, .int .i64 leafA.f1, .string leafA.f2])) _ rfl rfl rfl Low.refl (fun _ => rfl) fun a w z lw kp kn => q_row rfl Tryd.underlying34 rfl (sz34.trans (congrArg some rfl.symm)) (kp _ _ rfl s1_18).ev (fun _ e => by rw [e]; exact (lw.blk kg1_16)) rfl)
  · exact (stepS _ rfl rfl fun a w z lw kp kn => l_buildF (vs := [.string leafA.f0, .int .i64 leafA.f1, .string leafA.f2]) rfl rfl Tryd.underlying22 rec34 (at_is (u := .agg #[.string leafA.f0, .int .i64 leafA.f1, .string leafA.f2]) (w := w) (kn 27 _ rfl rfl)).ev rfl rfl (by decide) (by decide) (fun g w' hg k h => l_end ⟨_, rfl, h, (rdF_rec k rfl : RdF w' 3 _ 1 _)⟩))
  · exact (stepS _ rfl rfl fun a w z lw kp kn => Exists.elim (kn 28 _ rfl rfl) fun u hu => l_call (fun v w' => v = .bool true ∧ Low w w') rfl rfl rfl Tryd.func11 rfl (args3 rfl rfl rfl hu.1.ev) ((calls_bool (Clean.calls _ _ u [] [] [leafA] (by decide) (by decide) (by decide) shortN shortA _ (OwnF.nil _ 0 0 _).rd (OwnF.nil _ 0 0 _).rd hu.2) aw4).mono fun _ _ ⟨e, k⟩ => ⟨_, e, rfl, k⟩) fun _ _ hv => l_end ⟨_, rfl, hv.2, hv.1⟩)
  · exact (stepS_val (.bool true) _ rfl rfl rfl Low.refl (fun _ => rfl) fun a w z lw kp kn => q_pick (b := true) (.bool true) rfl (at_is (u := .bool true) (w := w) (kn 26 _ rfl rfl)).ev (at_is (u := .bool true) (w := w) (kn 29 _ rfl rfl)).ev rfl)
  · exact (stepS_val (.bool true) _ rfl rfl rfl Low.refl (fun _ => rfl) fun a w z lw kp kn => q_move _ _ rfl (at_is (u := .bool true) (w := w) (kn 30 _ rfl rfl)).ev rfl)
  · exact (stepS_val (.agg (#[.string leafC.f0, .int .i64 leafC.f1, .string leafC.f2])) _ rfl rfl rfl Low.refl (fun _ => rfl) fun a w z lw kp kn => q_row rfl Tryd.underlying34 rfl (sz34.trans (congrArg some rfl.symm)) (kp _ _ rfl s3_18).ev (fun _ e => by rw [e]; exact (lw.blk kg3_16)) rfl)
  · exact (stepS _ rfl rfl fun a w z lw kp kn => l_buildF (vs := [.string leafC.f0, .int .i64 leafC.f1, .string leafC.f2]) rfl rfl Tryd.underlying22 rec34 (at_is (u := .agg #[.string leafC.f0, .int .i64 leafC.f1, .string leafC.f2]) (w := w) (kn 32 _ rfl rfl)).ev rfl rfl (by decide) (by decide) (fun g w' hg k h => l_end ⟨_, rfl, h, (rdF_rec k rfl : RdF w' 3 _ 1 _)⟩))
  · exact (stepS_val (.agg (#[.string leafA.f0, .int .i64 leafA.f1, .string leafA.f2])) _ rfl rfl rfl Low.refl (fun _ => rfl) fun a w z lw kp kn => q_row rfl Tryd.underlying34 rfl (sz34.trans (congrArg some rfl.symm)) (kp _ _ rfl s1_18).ev (fun _ e => by rw [e]; exact (lw.blk kg1_16)) rfl)
  · exact (stepS _ rfl rfl fun a w z lw kp kn => l_buildF (vs := [.string leafA.f0, .int .i64 leafA.f1, .string leafA.f2]) rfl rfl Tryd.underlying22 rec34 (at_is (u := .agg #[.string leafA.f0, .int .i64 leafA.f1, .string leafA.f2]) (w := w) (kn 34 _ rfl rfl)).ev rfl rfl (by decide) (by decide) (fun g w' hg k h => l_end ⟨_, rfl, h, (rdF_rec k rfl : RdF w' 3 _ 1 _)⟩))
  · exact (stepS _ rfl rfl fun a w z lw kp kn => Exists.elim (kn 33 _ rfl rfl) fun u hu => Exists.elim (kn 35 _ rfl rfl) fun v hv => l_call (fun v w' => v = .bool false ∧ Low w w') rfl rfl rfl Tryd.func11 rfl (args3 rfl rfl hu.1.ev hv.1.ev) ((calls_bool (Clean.calls _ u v [] [leafC] [leafA] (by decide) (by decide) (by decide) shortC shortA _ (OwnF.nil _ 0 0 _).rd hu.2 hv.2) aw5).mono fun _ _ ⟨e, k⟩ => ⟨_, e, rfl, k⟩) fun _ _ hx => l_end ⟨_, rfl, hx.2, hx.1⟩)
  · exact (stepS_val (.bool true) _ rfl rfl rfl Low.refl (fun _ => rfl) fun a w z lw kp kn => q_not (b := false) rfl (at_is (u := .bool false) (w := w) (kn 36 _ rfl rfl)).ev rfl)
  · exact (stepS_val (.bool true) _ rfl rfl rfl Low.refl (fun _ => rfl) fun a w z lw kp kn => q_pick (b := true) (.bool true) rfl (at_is (u := .bool true) (w := w) (kn 31 _ rfl rfl)).ev (at_is (u := .bool true) (w := w) (kn 37 _ rfl rfl)).ev rfl)
  · exact (stepS_val (.bool true) _ rfl rfl rfl Low.refl (fun _ => rfl) fun a w z lw kp kn => q_assign _ _ rfl (at_is (u := .bool true) (w := w) (kn 38 _ rfl rfl)).ev rfl)
  intro a19 w19 z19 h19 kp kn
  have s1_19 := kp _ _ rfl s1_18
  have s2_19 := kp _ _ rfl s2_18
  have s3_19 := kp _ _ rfl s3_18
  have s4_19 := kp _ _ rfl s4_18
  have s5_19 := kp _ _ rfl s5_18
  have s7_19 := kp _ _ rfl s7_18
  have s28_19 := at_is (u := p11) (w := w19) (kn 0 _ rfl)
  have s29_19 := at_is (u := .int .i64 (((([leafB]).length) : Nat) : Int)) (w := w19) (kn 1 _ rfl)
  have s30_19 := at_is (u := .bool true) (w := w19) (kn 2 _ rfl)
  have s31_19 := at_is (u := .bool true) (w := w19) (kn 3 _ rfl)
  have s32_19 := at_is (u := p11) (w := w19) (kn 4 _ rfl)
  have s33_19 := at_is (u := pAt p11 (0 * 3)) (w := w19) (kn 5 _ rfl)
  have s34_19 := at_is (u := .agg (#[.string ((([leafB]).getD 0 zL).f0), .int .i64 ((([leafB]).getD 0 zL).f1), .string ((([leafB]).getD 0 zL).f2)])) (w := w19) (kn 6 _ rfl)
  have s35_19 := at_is (u := .agg (#[.string leafB.f0, .int .i64 leafB.f1, .string leafB.f2])) (w := w19) (kn 7 _ rfl)
  have s36_19 := at_is (u := .bool true) (w := w19) (kn 8 _ rfl)
  have s37_19 := at_is (u := .bool true) (w := w19) (kn 9 _ rfl)
  have s38_19 := at_is (u := .bool true) (w := w19) (kn 10 _ rfl)
  have s39_19 := at_is (u := q11) (w := w19) (kn 11 _ rfl)
  have s40_19 := at_is (u := .int .i64 (((([] : List ByteArray).length) : Nat) : Int)) (w := w19) (kn 12 _ rfl)
  have s41_19 := at_is (u := .bool true) (w := w19) (kn 13 _ rfl)
  have s42_19 := at_is (u := .bool true) (w := w19) (kn 14 _ rfl)
  have s43_19 := at_is (u := .bool true) (w := w19) (kn 15 _ rfl)
  have s44_19 := at_is (u := q16) (w := w19) (kn 16 _ rfl)
  have s45_19 := at_is (u := .int .i64 (((([⟨#[97]⟩] : List ByteArray).length) : Nat) : Int)) (w := w19) (kn 17 _ rfl)
  have s46_19 := at_is (u := .bool true) (w := w19) (kn 18 _ rfl)
  have s47_19 := at_is (u := .bool true) (w := w19) (kn 19 _ rfl)
  have s48_19 := at_is (u := .bool true) (w := w19) (kn 20 _ rfl)
  have s49_19 := at_is (u := q16) (w := w19) (kn 21 _ rfl)
  have s50_19 := at_is (u := pAt q16 (0 * 1)) (w := w19) (kn 22 _ rfl)
  have s51_19 := at_is (u := .string (([⟨#[97]⟩] : List ByteArray).getD 0 ByteArray.empty)) (w := w19) (kn 23 _ rfl)
  have s52_19 := at_is (u := .bool true) (w := w19) (kn 24 _ rfl)
  have s53_19 := at_is (u := .bool true) (w := w19) (kn 25 _ rfl)
  have s54_19 := at_is (u := .bool true) (w := w19) (kn 26 _ rfl)
  have s55_19 := at_is (u := .agg (#[.string leafA.f0, .int .i64 leafA.f1, .string leafA.f2])) (w := w19) (kn 27 _ rfl)
  have s57_19 := at_is (u := .bool true) (w := w19) (kn 29 _ rfl)
  have s58_19 := at_is (u := .bool true) (w := w19) (kn 30 _ rfl)
  have s59_19 := at_is (u := .bool true) (w := w19) (kn 31 _ rfl)
  have s60_19 := at_is (u := .agg (#[.string leafC.f0, .int .i64 leafC.f1, .string leafC.f2])) (w := w19) (kn 32 _ rfl)
  have s62_19 := at_is (u := .agg (#[.string leafA.f0, .int .i64 leafA.f1, .string leafA.f2])) (w := w19) (kn 34 _ rfl)
  have s64_19 := at_is (u := .bool false) (w := w19) (kn 36 _ rfl)
  have s65_19 := at_is (u := .bool true) (w := w19) (kn 37 _ rfl)
  have s66_19 := at_is (u := .bool true) (w := w19) (kn 38 _ rfl)
  have s0_19 := at_is (u := .bool true) (w := w19) (kn 39 _ rfl)
  have kg1_19 := h19.blk kg1_16
  have kg2_19 := h19.blk kg2_16
  have kg3_19 := h19.blk kg3_16
  have ob11_19 := ob11_16.low h19
  have oc11_19 := oc11_16.low h19
  have oc16_19 := oo16.low h19
  clear kp kn
  refine e_fresh z19 ?_
  intro a20 z20 m20
  have s0_20 := m20 _ _ s0_19
  have low20 := (low18.trans h19)
  clear m20
  refine e_then ?_
  refine wp_ret ?_
  refine r_tmp rfl z20.defers s0_20 ?_
  exact ⟨rfl, low20⟩
end Go.Proofs.YtenbgnlkkmnmhaaDoor.Q
end
