/- Merged out of this session's texts by a program (wip/gen/merge.py): declarations that this claim doesn't name are left out. -/
import Derived.Test.YtenbgnlkkmnmhaaDoorMMergeAgain3
import Derived.ProofKit
import Derived.OpenShut
import Derived.SliceStrings
import Derived.SizedLaws
import Derived.Test.YtenbgnlkkmnmhaaDoorRows
import Derived.Lib.SmallJoins
import Derived.Handed
import Derived.Shelf.Vars
set_option linter.unusedVariables false
set_option linter.unusedSimpArgs false
/-! E10 -/
section
namespace Go.Proofs.YtenbgnlkkmnmhaaDoor.Q
open Go.RowKit Go.Proofs.YtenbgnlkkmnmhaaDoor.P
open Go.Proofs.YtenbgnlkkmnmhaaDoorW.PrintWords (bytesOf bytesOf_length)
set_option linter.unusedVariables false
set_option linter.unusedSimpArgs false
set_option maxRecDepth 100000
set_option maxHeartbeats 4000000
attribute [local irreducible] wpList wpQuiet qch Code.wp Oper.quiet Act.put At Region.wanted yielded
theorem MergeSides.calls (vb vo vt : Value) (lb lo lt : List LfL) (w0 : World) (hvb : RdF w0 3 vb lb.length (lb.map encL).flatten) (hvo : RdF w0 3 vo lo.length (lo.map encL).flatten) (hvt : RdF w0 3 vt lt.length (lt.map encL).flatten) (hG : Gd w0) : Calls Tryd.prog 3 #[vb, vo, vt] w0 fun e w' => e = .returned (.bool true) ∧ Low w0 w' := by
  refine c_fun (R := _) Tryd.func3 rfl 136 rfl (Nat.le_of_ble_eq_true rfl) ?_
  intro a z hA
  have s0 := hA 0 _ rfl
  have s1 := hA 1 _ rfl
  have s2 := hA 2 _ rfl
  clear hA
  refine c_seq ?_
  refine c_region ?_
  refine l_q rfl (q_assign _ _ rfl rfl ?_)
  refine l_end ?_
  refine e_fresh z.put ?_
  intro a1 z1 m1
  have s0_1 := m1 _ _ (s0.ne rfl)
  have s1_1 := m1 _ _ (s1.ne rfl)
  have s2_1 := m1 _ _ (s2.ne rfl)
  clear m1
  refine e_then ?_
  refine c_seq ?_
  refine c_seq ?_
  refine c_region ?_
  refine l_call (fun v w' => v = .bool true ∧ Low w0 w') rfl rfl rfl Tryd.func5 rfl (show Array.map _ _ = (#[] : Array Value) from by simp) ((Awake.calls _).mono fun _ _ ⟨e, k⟩ => ⟨_, e, rfl, k⟩) ?_
  rintro _ w2 ⟨rfl, h2⟩
  have ovb_2 := hvb.low h2
  have ovo_2 := hvo.low h2
  have ovt_2 := hvt.low h2
  refine l_q rfl (q_not (b := true) rfl (At.hit z1 rfl).ev ?_)
  refine l_end ?_
  refine e_fresh z1.put.put ?_
  intro a3 z3 m3
  have s0_3 := m3 _ _ ((s0_1.ne rfl).ne rfl)
  have s1_3 := m3 _ _ ((s1_1.ne rfl).ne rfl)
  have s2_3 := m3 _ _ ((s2_1.ne rfl).ne rfl)
  have s18_3 := m3 _ _ (At.hit z1.put rfl)
  have low3 := h2
  clear m3
  refine e_then ?_
  refine c_false s18_3 ?_
  refine wp_skip ?_
  refine e_then ?_
  refine c_seq ?_
  refine c_seq ?_
  by_cases hb4 : mayB [lb, lo, lt] = true
  · skip
    by_cases hb5 : rightB lo = true
    · skip
      by_cases hb6 : rightB lt = true
      · skip
        by_cases hb7 : rightB lb = true
        · skip
          refine c_region ?_
          refine l_q rfl (q_move _ _ rfl s0_3.ev ?_)
          refine l_q rfl (q_move _ _ rfl (s1_3.ne rfl).ev ?_)
          refine l_q rfl (q_move _ _ rfl ((s2_3.ne rfl).ne rfl).ev ?_)
          refine l_lit3 rfl rfl Tryd.underlying35 rec22 (((At.hit z3 rfl).ne rfl).ne rfl).ev ((At.hit z3.put rfl).ne rfl).ev (At.hit z3.put.put rfl).ev (RdF.one ovb_2) (RdF.one ovo_2) (RdF.one ovt_2) ?_
          intro g22_8 w8 hg8 k8 h8
          have geg22_8 := Nat.le_trans low3.ge hg8
          have ovb_8 := ovb_2.low h8
          have ovo_8 := ovo_2.low h8
          have ovt_8 := ovt_2.low h8
          have og22_8_8 := rdFF3 k8 ovb_8 ovo_8 ovt_8
          refine l_call (fun v w' => v = .bool true ∧ Low w8 w') rfl rfl rfl Tryd.func6 rfl (args1 rfl (At.hit z3.put.put.put rfl).ev) (((calls_bool (May.calls _ _ ([lb, lo, lt]) (by simp) _ og22_8_8) hb4)).mono fun _ _ ⟨e, k⟩ => ⟨_, e, rfl, k⟩) ?_
          rintro _ w9 ⟨rfl, h9⟩
          have kg22_8_9 := h9.blk k8
          have ovb_9 := ovb_8.low h9
          have ovo_9 := ovo_8.low h9
          have ovt_9 := ovt_8.low h9
          have oL8_9 := og22_8_8.low h9
          refine l_q rfl (q_not (b := true) rfl (At.hit z3.put.put.put.put rfl).ev ?_)
          refine l_q rfl (q_move _ _ rfl (At.hit z3.put.put.put.put.put rfl).ev ?_)
          refine l_qg (wanted_is (j := 6) (d := 25) (b := false) rfl rfl (At.hit z3.put.put.put.put.put.put rfl) rfl) (q_move _ _ rfl (((((((s1_3.ne rfl).ne rfl).ne rfl).ne rfl).ne rfl).ne rfl).ne rfl).ev ?_)
          refine l_fresh z3.put.put.put.put.put.put.put.put ?_
          intro a10 z10 m10
          have s0_10 := m10 _ _ ((((((((s0_3.ne rfl).ne rfl).ne rfl).ne rfl).ne rfl).ne rfl).ne rfl).ne rfl)
          have s1_10 := m10 _ _ ((((((((s1_3.ne rfl).ne rfl).ne rfl).ne rfl).ne rfl).ne rfl).ne rfl).ne rfl)
          have s2_10 := m10 _ _ ((((((((s2_3.ne rfl).ne rfl).ne rfl).ne rfl).ne rfl).ne rfl).ne rfl).ne rfl)
          have s25_10 := m10 _ _ ((At.hit z3.put.put.put.put.put.put rfl).ne rfl)
          have s26_10 := m10 _ _ (At.hit z3.put.put.put.put.put.put.put rfl)
          clear m10
          refine l_callg (fun v w' => v = .bool true ∧ Low w9 w') (wanted_is (j := 6) (d := 25) (b := false) rfl rfl s25_10 rfl) rfl rfl Tryd.func7 rfl (args1 rfl s26_10.ev) (((calls_bool (Right.calls _ lo (Nat.le_trans (okRow (may3 hb4).2.1).2.2.1 (by decide)) (okRow (may3 hb4).2.1).2.1 _ ovo_9 (Gd.low hG ((low3.trans h8).trans h9))) hb5)).mono fun _ _ ⟨e, k⟩ => ⟨_, e, rfl, k⟩) ?_
          rintro _ w11 ⟨rfl, h11⟩
          have kg22_8_11 := h11.blk kg22_8_9
          have ovb_11 := ovb_9.low h11
          have ovo_11 := ovo_9.low h11
          have ovt_11 := ovt_9.low h11
          have oL8_11 := oL8_9.low h11
          refine l_qg (wanted_is (j := 6) (d := 25) (b := false) rfl rfl (s25_10.ne rfl) rfl) (q_not (b := true) rfl (At.hit z10 rfl).ev ?_)
          refine l_q rfl (q_pick (b := false) (.bool false) rfl ((s25_10.ne rfl).ne rfl).ev (At.hit z10.put rfl).ev ?_)
          refine l_q rfl (q_move _ _ rfl (At.hit z10.put.put rfl).ev ?_)
          refine l_qg (wanted_is (j := 11) (d := 30) (b := false) rfl rfl (At.hit z10.put.put.put rfl) rfl) (q_move _ _ rfl ((((s2_10.ne rfl).ne rfl).ne rfl).ne rfl).ev ?_)
          refine l_callg (fun v w' => v = .bool true ∧ Low w11 w') (wanted_is (j := 11) (d := 30) (b := false) rfl rfl ((At.hit z10.put.put.put rfl).ne rfl) rfl) rfl rfl Tryd.func7 rfl (args1 rfl (At.hit z10.put.put.put.put rfl).ev) (((calls_bool (Right.calls _ lt (Nat.le_trans (okRow (may3 hb4).2.2).2.2.1 (by decide)) (okRow (may3 hb4).2.2).2.1 _ ovt_11 (Gd.low hG (((low3.trans h8).trans h9).trans h11))) hb6)).mono fun _ _ ⟨e, k⟩ => ⟨_, e, rfl, k⟩) ?_
          rintro _ w12 ⟨rfl, h12⟩
          have kg22_8_12 := h12.blk kg22_8_11
          have ovb_12 := ovb_11.low h12
          have ovo_12 := ovo_11.low h12
          have ovt_12 := ovt_11.low h12
          have oL8_12 := oL8_11.low h12
          refine l_qg (wanted_is (j := 11) (d := 30) (b := false) rfl rfl (((At.hit z10.put.put.put rfl).ne rfl).ne rfl) rfl) (q_not (b := true) rfl (At.hit z10.put.put.put.put.put rfl).ev ?_)
          refine l_q rfl (q_pick (b := false) (.bool false) rfl ((((At.hit z10.put.put.put rfl).ne rfl).ne rfl).ne rfl).ev (At.hit z10.put.put.put.put.put.put rfl).ev ?_)
          refine l_fresh z10.put.put.put.put.put.put.put.put ?_
          intro a13 z13 m13
          have s0_13 := m13 _ _ ((((((((s0_10.ne rfl).ne rfl).ne rfl).ne rfl).ne rfl).ne rfl).ne rfl).ne rfl)
          have s1_13 := m13 _ _ ((((((((s1_10.ne rfl).ne rfl).ne rfl).ne rfl).ne rfl).ne rfl).ne rfl).ne rfl)
          have s2_13 := m13 _ _ ((((((((s2_10.ne rfl).ne rfl).ne rfl).ne rfl).ne rfl).ne rfl).ne rfl).ne rfl)
          have s34_13 := m13 _ _ (At.hit z10.put.put.put.put.put.put.put rfl)
          clear m13
          refine l_q rfl (q_move _ _ rfl s34_13.ev ?_)
          refine l_qg (wanted_is (j := 16) (d := 35) (b := false) rfl rfl (At.hit z13 rfl) rfl) (q_move _ _ rfl (s0_13.ne rfl).ev ?_)
          refine l_callg (fun v w' => v = .bool true ∧ Low w12 w') (wanted_is (j := 16) (d := 35) (b := false) rfl rfl ((At.hit z13 rfl).ne rfl) rfl) rfl rfl Tryd.func7 rfl (args1 rfl (At.hit z13.put rfl).ev) (((calls_bool (Right.calls _ lb (Nat.le_trans (okRow (may3 hb4).1).2.2.1 (by decide)) (okRow (may3 hb4).1).2.1 _ ovb_12 (Gd.low hG ((((low3.trans h8).trans h9).trans h11).trans h12))) hb7)).mono fun _ _ ⟨e, k⟩ => ⟨_, e, rfl, k⟩) ?_
          rintro _ w14 ⟨rfl, h14⟩
          have kg22_8_14 := h14.blk kg22_8_12
          have ovb_14 := ovb_12.low h14
          have ovo_14 := ovo_12.low h14
          have ovt_14 := ovt_12.low h14
          have oL8_14 := oL8_12.low h14
          refine l_qg (wanted_is (j := 16) (d := 35) (b := false) rfl rfl (((At.hit z13 rfl).ne rfl).ne rfl) rfl) (q_not (b := true) rfl (At.hit z13.put.put rfl).ev ?_)
          refine l_q rfl (q_pick (b := false) (.bool false) rfl ((((At.hit z13 rfl).ne rfl).ne rfl).ne rfl).ev (At.hit z13.put.put.put rfl).ev ?_)
          refine l_end ?_
          refine e_fresh z13.put.put.put.put.put ?_
          intro a15 z15 m15
          have s0_15 := m15 _ _ (((((s0_13.ne rfl).ne rfl).ne rfl).ne rfl).ne rfl)
          have s1_15 := m15 _ _ (((((s1_13.ne rfl).ne rfl).ne rfl).ne rfl).ne rfl)
          have s2_15 := m15 _ _ (((((s2_13.ne rfl).ne rfl).ne rfl).ne rfl).ne rfl)
          have s39_15 := m15 _ _ (At.hit z13.put.put.put.put rfl)
          have low15 := (((((low3.trans h8).trans h9).trans h11).trans h12).trans h14)
          clear m15
          refine e_then ?_
          refine c_false s39_15 ?_
          refine wp_skip ?_
          refine e_then ?_
          refine c_seq ?_
          obtain ⟨kb, ko, kt⟩ := may3 hb4
          obtain ⟨rb, sb, lnb, nb⟩ := okRow kb
          obtain ⟨ro, so, lno, no⟩ := okRow ko
          obtain ⟨rt, st, lnt, nt⟩ := okRow kt
          have ab := right_apart hb7
          have ao := right_apart hb5
          have at' := right_apart hb6
          have hnil : ([] : List ByteArray).length = 0 := rfl
          have hpllo := paths_len lb lo lt
          have hollo : (outF lb lo lt).length ≤ 180 := by rw [← out_end]; exact out_len lb lo lt _ _ 180 (by omega)
          have hbflo : (badF lb lo lt).length ≤ 180 := by rw [← bad_end]; exact bad_len lb lo lt _ _ 180 (by omega)
          have hbllo := badA_len lb lo lt
          have hpllt := paths_len lb lt lo
          have hollt : (outF lb lt lo).length ≤ 180 := by rw [← out_end]; exact out_len lb lt lo _ _ 180 (by omega)
          have hbflt : (badF lb lt lo).length ≤ 180 := by rw [← bad_end]; exact bad_len lb lt lo _ _ 180 (by omega)
          have hbllt := badA_len lb lt lo
          refine c_region ?_
          refine l_q rfl (q_move _ _ rfl s0_15.ev ?_)
          refine l_q rfl (q_move _ _ rfl (s1_15.ne rfl).ev ?_)
          refine l_q rfl (q_move _ _ rfl ((s0_15.ne rfl).ne rfl).ev ?_)
          refine l_call _ rfl rfl rfl Tryd.func8 rfl (args3 rfl (((At.hit z15 rfl).ne rfl).ne rfl).ev ((At.hit z15.put rfl).ne rfl).ev (At.hit z15.put.put rfl).ev) (Three.calls _ _ _ lb lo lb (by omega) (by omega) (by omega) so sb _ ovb_14 ovo_14 ovb_14) ?_
          rintro _ w16 ⟨p16, q16, rfl, o16, oo16, h16⟩
          replace o16 := o16.base low15.ge
          replace oo16 := oo16.base low15.ge
          have ovb_16 := ovb_14.low h16
          have ovo_16 := ovo_14.low h16
          have ovt_16 := ovt_14.low h16
          replace o16 := OwnF.castL o16 (show outF lb lo lb = lo from (side_t (b := lb) ro no ao).1)
          replace oo16 := OwnF.castL oo16 (show badA lb lo lb = ([] : List ByteArray) from (side_t (b := lb) ro no ao).2)
          refine l_q rfl (q_move _ _ rfl (At.hit z15.put.put.put rfl).ev ?_)
          refine l_q rfl (q_extract rfl (At.hit z15.put.put.put.put rfl).ev rfl ?_)
          refine l_q rfl (q_extract rfl ((At.hit z15.put.put.put.put rfl).ne rfl).ev rfl ?_)
          refine l_q rfl (q_assign _ _ rfl ((At.hit z15.put.put.put.put.put rfl).ne rfl).ev ?_)
          refine l_fresh z15.put.put.put.put.put.put.put.put ?_
          intro a17 z17 m17
          have s0_17 := m17 _ _ ((((((((s0_15.ne rfl).ne rfl).ne rfl).ne rfl).ne rfl).ne rfl).ne rfl).ne rfl)
          have s1_17 := m17 _ _ ((((((((s1_15.ne rfl).ne rfl).ne rfl).ne rfl).ne rfl).ne rfl).ne rfl).ne rfl)
          have s2_17 := m17 _ _ ((((((((s2_15.ne rfl).ne rfl).ne rfl).ne rfl).ne rfl).ne rfl).ne rfl).ne rfl)
          have s7_17 := m17 _ _ (At.hit z15.put.put.put.put.put.put.put rfl)
          have s46_17 := m17 _ _ ((At.hit z15.put.put.put.put.put.put rfl).ne rfl)
          clear m17
          refine l_q rfl (q_assign _ _ rfl s46_17.ev ?_)
          refine l_end ?_
          refine e_fresh z17.put ?_
          intro a18 z18 m18
          have s0_18 := m18 _ _ (s0_17.ne rfl)
          have s1_18 := m18 _ _ (s1_17.ne rfl)
          have s2_18 := m18 _ _ (s2_17.ne rfl)
          have s7_18 := m18 _ _ (s7_17.ne rfl)
          have s8_18 := m18 _ _ (At.hit z17 rfl)
          have low18 := (low15.trans h16)
          clear m18
          refine e_then ?_
          refine c_seq ?_
          refine c_region ?_
          refine l_q rfl (q_move _ _ rfl s0_18.ev ?_)
          refine l_q rfl (q_move _ _ rfl (s0_18.ne rfl).ev ?_)
          refine l_q rfl (q_move _ _ rfl ((s2_18.ne rfl).ne rfl).ev ?_)
          refine l_call _ rfl rfl rfl Tryd.func8 rfl (args3 rfl (((At.hit z18 rfl).ne rfl).ne rfl).ev ((At.hit z18.put rfl).ne rfl).ev (At.hit z18.put.put rfl).ev) (Three.calls _ _ _ lb lb lt (by omega) (by omega) (by omega) sb st _ ovb_16 ovb_16 ovt_16) ?_
          rintro _ w19 ⟨p19, q19, rfl, o19, oo19, h19⟩
          replace o19 := o19.base low18.ge
          replace oo19 := oo19.base low18.ge
          have ovb_19 := ovb_16.low h19
          have ovo_19 := ovo_16.low h19
          have ovt_19 := ovt_16.low h19
          have ob16_19 := o16.low h19
          have oc16_19 := oo16.low h19
          replace o19 := OwnF.castL o19 (show outF lb lb lt = lt from (side_o (b := lb) rt nt at').1)
          replace oo19 := OwnF.castL oo19 (show badA lb lb lt = ([] : List ByteArray) from (side_o (b := lb) rt nt at').2)
          refine l_q rfl (q_move _ _ rfl (At.hit z18.put.put.put rfl).ev ?_)
          refine l_q rfl (q_extract rfl (At.hit z18.put.put.put.put rfl).ev rfl ?_)
          refine l_q rfl (q_extract rfl ((At.hit z18.put.put.put.put rfl).ne rfl).ev rfl ?_)
          refine l_q rfl (q_assign _ _ rfl ((At.hit z18.put.put.put.put.put rfl).ne rfl).ev ?_)
          refine l_fresh z18.put.put.put.put.put.put.put.put ?_
          intro a20 z20 m20
          have s0_20 := m20 _ _ ((((((((s0_18.ne rfl).ne rfl).ne rfl).ne rfl).ne rfl).ne rfl).ne rfl).ne rfl)
          have s1_20 := m20 _ _ ((((((((s1_18.ne rfl).ne rfl).ne rfl).ne rfl).ne rfl).ne rfl).ne rfl).ne rfl)
          have s2_20 := m20 _ _ ((((((((s2_18.ne rfl).ne rfl).ne rfl).ne rfl).ne rfl).ne rfl).ne rfl).ne rfl)
          have s7_20 := m20 _ _ ((((((((s7_18.ne rfl).ne rfl).ne rfl).ne rfl).ne rfl).ne rfl).ne rfl).ne rfl)
          have s8_20 := m20 _ _ ((((((((s8_18.ne rfl).ne rfl).ne rfl).ne rfl).ne rfl).ne rfl).ne rfl).ne rfl)
          have s9_20 := m20 _ _ (At.hit z18.put.put.put.put.put.put.put rfl)
          have s53_20 := m20 _ _ ((At.hit z18.put.put.put.put.put.put rfl).ne rfl)
          clear m20
          refine l_q rfl (q_assign _ _ rfl s53_20.ev ?_)
          refine l_end ?_
          refine e_fresh z20.put ?_
          intro a21 z21 m21
          have s0_21 := m21 _ _ (s0_20.ne rfl)
          have s1_21 := m21 _ _ (s1_20.ne rfl)
          have s2_21 := m21 _ _ (s2_20.ne rfl)
          have s7_21 := m21 _ _ (s7_20.ne rfl)
          have s8_21 := m21 _ _ (s8_20.ne rfl)
          have s9_21 := m21 _ _ (s9_20.ne rfl)
          have s10_21 := m21 _ _ (At.hit z20 rfl)
          have low21 := (low18.trans h19)
          clear m21
          refine e_then ?_
          refine c_seq ?_
          refine c_region ?_
          refine l_q rfl (q_move _ _ rfl s0_21.ev ?_)
          refine l_q rfl (q_move _ _ rfl (s1_21.ne rfl).ev ?_)
          refine l_q rfl (q_move _ _ rfl ((s1_21.ne rfl).ne rfl).ev ?_)
          refine l_call _ rfl rfl rfl Tryd.func8 rfl (args3 rfl (((At.hit z21 rfl).ne rfl).ne rfl).ev ((At.hit z21.put rfl).ne rfl).ev (At.hit z21.put.put rfl).ev) (Three.calls _ _ _ lb lo lo (by omega) (by omega) (by omega) so so _ ovb_19 ovo_19 ovo_19) ?_
          rintro _ w22 ⟨p22, q22, rfl, o22, oo22, h22⟩
          replace o22 := o22.base low21.ge
          replace oo22 := oo22.base low21.ge
          have ovb_22 := ovb_19.low h22
          have ovo_22 := ovo_19.low h22
          have ovt_22 := ovt_19.low h22
          have ob16_22 := ob16_19.low h22
          have oc16_22 := oc16_19.low h22
          have ob19_22 := o19.low h22
          have oc19_22 := oo19.low h22
          replace o22 := OwnF.castL o22 (show outF lb lo lo = lo from (side_same (b := lb) ro no ao).1)
          replace oo22 := OwnF.castL oo22 (show badA lb lo lo = ([] : List ByteArray) from (side_same (b := lb) ro no ao).2)
          refine l_q rfl (q_move _ _ rfl (At.hit z21.put.put.put rfl).ev ?_)
          refine l_q rfl (q_extract rfl (At.hit z21.put.put.put.put rfl).ev rfl ?_)
          refine l_q rfl (q_extract rfl ((At.hit z21.put.put.put.put rfl).ne rfl).ev rfl ?_)
          refine l_q rfl (q_assign _ _ rfl ((At.hit z21.put.put.put.put.put rfl).ne rfl).ev ?_)
          refine l_fresh z21.put.put.put.put.put.put.put.put ?_
          intro a23 z23 m23
          have s0_23 := m23 _ _ ((((((((s0_21.ne rfl).ne rfl).ne rfl).ne rfl).ne rfl).ne rfl).ne rfl).ne rfl)
          have s1_23 := m23 _ _ ((((((((s1_21.ne rfl).ne rfl).ne rfl).ne rfl).ne rfl).ne rfl).ne rfl).ne rfl)
          have s2_23 := m23 _ _ ((((((((s2_21.ne rfl).ne rfl).ne rfl).ne rfl).ne rfl).ne rfl).ne rfl).ne rfl)
          have s7_23 := m23 _ _ ((((((((s7_21.ne rfl).ne rfl).ne rfl).ne rfl).ne rfl).ne rfl).ne rfl).ne rfl)
          have s8_23 := m23 _ _ ((((((((s8_21.ne rfl).ne rfl).ne rfl).ne rfl).ne rfl).ne rfl).ne rfl).ne rfl)
          have s9_23 := m23 _ _ ((((((((s9_21.ne rfl).ne rfl).ne rfl).ne rfl).ne rfl).ne rfl).ne rfl).ne rfl)
          have s10_23 := m23 _ _ ((((((((s10_21.ne rfl).ne rfl).ne rfl).ne rfl).ne rfl).ne rfl).ne rfl).ne rfl)
          have s11_23 := m23 _ _ (At.hit z21.put.put.put.put.put.put.put rfl)
          have s60_23 := m23 _ _ ((At.hit z21.put.put.put.put.put.put rfl).ne rfl)
          clear m23
          refine l_q rfl (q_assign _ _ rfl s60_23.ev ?_)
          refine l_end ?_
          refine e_fresh z23.put ?_
          intro a24 z24 m24
          have s0_24 := m24 _ _ (s0_23.ne rfl)
          have s1_24 := m24 _ _ (s1_23.ne rfl)
          have s2_24 := m24 _ _ (s2_23.ne rfl)
          have s7_24 := m24 _ _ (s7_23.ne rfl)
          have s8_24 := m24 _ _ (s8_23.ne rfl)
          have s9_24 := m24 _ _ (s9_23.ne rfl)
          have s10_24 := m24 _ _ (s10_23.ne rfl)
          have s11_24 := m24 _ _ (s11_23.ne rfl)
          have s12_24 := m24 _ _ (At.hit z23 rfl)
          have low24 := (low21.trans h22)
          clear m24
          refine e_then ?_
          refine c_seq ?_
          refine c_seq ?_
          refine c_region ?_
          refine l_q rfl (q_move _ _ rfl s8_24.ev ?_)
          refine l_q rfl (q_lenF rfl rfl Tryd.underlying26 (At.hit z24 rfl).ev oc16_22.rd ?_)
          refine l_q rfl (q_move _ _ rfl ((s10_24.ne rfl).ne rfl).ev ?_)
          refine l_q rfl (q_lenF rfl rfl Tryd.underlying26 (At.hit z24.put.put rfl).ev oc19_22.rd ?_)
          refine l_q rfl (q_add (((2 * (([] : List ByteArray).length) : Nat) : Int)) rfl (((At.hit z24.put rfl).ne rfl).ne rfl).ev (At.hit z24.put.put.put rfl).ev (i64_is (by omega) (by omega) (by omega)) ?_)
          refine l_q rfl (q_move _ _ rfl (((((s12_24.ne rfl).ne rfl).ne rfl).ne rfl).ne rfl).ev ?_)
          refine l_q rfl (q_lenF rfl rfl Tryd.underlying26 (At.hit z24.put.put.put.put.put rfl).ev oo22.rd ?_)
          refine l_q rfl (q_add (((3 * (([] : List ByteArray).length) : Nat) : Int)) rfl (((At.hit z24.put.put.put.put rfl).ne rfl).ne rfl).ev (At.hit z24.put.put.put.put.put.put rfl).ev (i64_is (by omega) (by omega) (by omega)) ?_)
          refine l_fresh z24.put.put.put.put.put.put.put.put ?_
          intro a25 z25 m25
          have s0_25 := m25 _ _ ((((((((s0_24.ne rfl).ne rfl).ne rfl).ne rfl).ne rfl).ne rfl).ne rfl).ne rfl)
          have s1_25 := m25 _ _ ((((((((s1_24.ne rfl).ne rfl).ne rfl).ne rfl).ne rfl).ne rfl).ne rfl).ne rfl)
          have s2_25 := m25 _ _ ((((((((s2_24.ne rfl).ne rfl).ne rfl).ne rfl).ne rfl).ne rfl).ne rfl).ne rfl)
          have s7_25 := m25 _ _ ((((((((s7_24.ne rfl).ne rfl).ne rfl).ne rfl).ne rfl).ne rfl).ne rfl).ne rfl)
          have s9_25 := m25 _ _ ((((((((s9_24.ne rfl).ne rfl).ne rfl).ne rfl).ne rfl).ne rfl).ne rfl).ne rfl)
          have s11_25 := m25 _ _ ((((((((s11_24.ne rfl).ne rfl).ne rfl).ne rfl).ne rfl).ne rfl).ne rfl).ne rfl)
          have s68_25 := m25 _ _ (At.hit z24.put.put.put.put.put.put.put rfl)
          clear m25
          refine l_q rfl (q_gtr false rfl s68_25.ev rfl (decide_eq_false (by omega)) ?_)
          refine l_q rfl (q_move _ _ rfl (At.hit z25 rfl).ev ?_)
          refine l_qg (wanted_is (j := 9) (d := 70) (b := false) rfl rfl (At.hit z25.put rfl) rfl) (q_move _ _ rfl ((s7_25.ne rfl).ne rfl).ev ?_)
          refine l_callg _ (wanted_is (j := 9) (d := 70) (b := false) rfl rfl ((At.hit z25.put rfl).ne rfl) rfl) rfl rfl Tryd.func10 rfl (args1 rfl (At.hit z25.put.put rfl).ev) (Of.calls _ lo (by omega) _ ob16_22.rd) ?_
          rintro v26 w26 ⟨o26, h26⟩
          replace o26 := o26.base low24.ge
          have ovb_26 := ovb_22.low h26
          have ovo_26 := ovo_22.low h26
          have ovt_26 := ovt_22.low h26
          have ob16_26 := ob16_22.low h26
          have oc16_26 := oc16_22.low h26
          have ob19_26 := ob19_22.low h26
          have oc19_26 := oc19_22.low h26
          have ob22_26 := o22.low h26
          have oc22_26 := oo22.low h26
          refine l_qg (wanted_is (j := 9) (d := 70) (b := false) rfl rfl (((At.hit z25.put rfl).ne rfl).ne rfl) rfl) (q_move _ _ rfl ((((s1_25.ne rfl).ne rfl).ne rfl).ne rfl).ev ?_)
          refine l_callg _ (wanted_is (j := 9) (d := 70) (b := false) rfl rfl ((((At.hit z25.put rfl).ne rfl).ne rfl).ne rfl) rfl) rfl rfl Tryd.func10 rfl (args1 rfl (At.hit z25.put.put.put.put rfl).ev) (Of.calls _ lo (by omega) _ ovo_26) ?_
          rintro v27 w27 ⟨o27, h27⟩
          replace o27 := o27.base (low24.trans h26).ge
          have ovb_27 := ovb_26.low h27
          have ovo_27 := ovo_26.low h27
          have ovt_27 := ovt_26.low h27
          have ob16_27 := ob16_26.low h27
          have oc16_27 := oc16_26.low h27
          have ob19_27 := ob19_26.low h27
          have oc19_27 := oc19_26.low h27
          have ob22_27 := ob22_26.low h27
          have oc22_27 := oc22_26.low h27
          have ob26_27 := o26.low h27
          refine l_callg (fun v w' => v = .bool true ∧ Low w27 w') (wanted_is (j := 9) (d := 70) (b := false) rfl rfl (((((At.hit z25.put rfl).ne rfl).ne rfl).ne rfl).ne rfl) rfl) rfl rfl Tryd.func9 rfl (args2 rfl (((At.hit z25.put.put.put rfl).ne rfl).ne rfl).ev (At.hit z25.put.put.put.put.put rfl).ev) (((calls_bool (Same.calls _ _ (lo.map toR) (lo.map toR) (by rw [List.length_map]; omega) (by rw [List.length_map]; omega) _ ob26_27.rd o27.rd) (decide_eq_true rfl))).mono fun _ _ ⟨e, k⟩ => ⟨_, e, rfl, k⟩) ?_
          rintro _ w28 ⟨rfl, h28⟩
          have ovb_28 := ovb_27.low h28
          have ovo_28 := ovo_27.low h28
          have ovt_28 := ovt_27.low h28
          have ob16_28 := ob16_27.low h28
          have oc16_28 := oc16_27.low h28
          have ob19_28 := ob19_27.low h28
          have oc19_28 := oc19_27.low h28
          have ob22_28 := ob22_27.low h28
          have oc22_28 := oc22_27.low h28
          have ob26_28 := ob26_27.low h28
          have ob27_28 := o27.low h28
          refine l_qg (wanted_is (j := 9) (d := 70) (b := false) rfl rfl ((((((At.hit z25.put rfl).ne rfl).ne rfl).ne rfl).ne rfl).ne rfl) rfl) (q_not (b := true) rfl (At.hit z25.put.put.put.put.put.put rfl).ev ?_)
          refine l_fresh z25.put.put.put.put.put.put.put.put ?_
          intro a29 z29 m29
          have s0_29 := m29 _ _ ((((((((s0_25.ne rfl).ne rfl).ne rfl).ne rfl).ne rfl).ne rfl).ne rfl).ne rfl)
          have s1_29 := m29 _ _ ((((((((s1_25.ne rfl).ne rfl).ne rfl).ne rfl).ne rfl).ne rfl).ne rfl).ne rfl)
          have s2_29 := m29 _ _ ((((((((s2_25.ne rfl).ne rfl).ne rfl).ne rfl).ne rfl).ne rfl).ne rfl).ne rfl)
          have s9_29 := m29 _ _ ((((((((s9_25.ne rfl).ne rfl).ne rfl).ne rfl).ne rfl).ne rfl).ne rfl).ne rfl)
          have s11_29 := m29 _ _ ((((((((s11_25.ne rfl).ne rfl).ne rfl).ne rfl).ne rfl).ne rfl).ne rfl).ne rfl)
          have s70_29 := m29 _ _ (((((((At.hit z25.put rfl).ne rfl).ne rfl).ne rfl).ne rfl).ne rfl).ne rfl)
          have s76_29 := m29 _ _ (At.hit z25.put.put.put.put.put.put.put rfl)
          clear m29
          refine l_q rfl (q_pick (b := false) (.bool false) rfl s70_29.ev s76_29.ev ?_)
          refine l_q rfl (q_move _ _ rfl (At.hit z29 rfl).ev ?_)
          refine l_qg (wanted_is (j := 17) (d := 78) (b := false) rfl rfl (At.hit z29.put rfl) rfl) (q_move _ _ rfl ((s9_29.ne rfl).ne rfl).ev ?_)
          refine l_callg _ (wanted_is (j := 17) (d := 78) (b := false) rfl rfl ((At.hit z29.put rfl).ne rfl) rfl) rfl rfl Tryd.func10 rfl (args1 rfl (At.hit z29.put.put rfl).ev) (Of.calls _ lt (by omega) _ ob19_28.rd) ?_
          rintro v30 w30 ⟨o30, h30⟩
          replace o30 := o30.base (((low24.trans h26).trans h27).trans h28).ge
          have ovb_30 := ovb_28.low h30
          have ovo_30 := ovo_28.low h30
          have ovt_30 := ovt_28.low h30
          have ob16_30 := ob16_28.low h30
          have oc16_30 := oc16_28.low h30
          have ob19_30 := ob19_28.low h30
          have oc19_30 := oc19_28.low h30
          have ob22_30 := ob22_28.low h30
          have oc22_30 := oc22_28.low h30
          have ob26_30 := ob26_28.low h30
          have ob27_30 := ob27_28.low h30
          refine l_qg (wanted_is (j := 17) (d := 78) (b := false) rfl rfl (((At.hit z29.put rfl).ne rfl).ne rfl) rfl) (q_move _ _ rfl ((((s2_29.ne rfl).ne rfl).ne rfl).ne rfl).ev ?_)
          refine l_callg _ (wanted_is (j := 17) (d := 78) (b := false) rfl rfl ((((At.hit z29.put rfl).ne rfl).ne rfl).ne rfl) rfl) rfl rfl Tryd.func10 rfl (args1 rfl (At.hit z29.put.put.put.put rfl).ev) (Of.calls _ lt (by omega) _ ovt_30) ?_
          rintro v31 w31 ⟨o31, h31⟩
          replace o31 := o31.base ((((low24.trans h26).trans h27).trans h28).trans h30).ge
          have ovb_31 := ovb_30.low h31
          have ovo_31 := ovo_30.low h31
          have ovt_31 := ovt_30.low h31
          have ob16_31 := ob16_30.low h31
          have oc16_31 := oc16_30.low h31
          have ob19_31 := ob19_30.low h31
          have oc19_31 := oc19_30.low h31
          have ob22_31 := ob22_30.low h31
          have oc22_31 := oc22_30.low h31
          have ob26_31 := ob26_30.low h31
          have ob27_31 := ob27_30.low h31
          have ob30_31 := o30.low h31
          refine l_callg (fun v w' => v = .bool true ∧ Low w31 w') (wanted_is (j := 17) (d := 78) (b := false) rfl rfl (((((At.hit z29.put rfl).ne rfl).ne rfl).ne rfl).ne rfl) rfl) rfl rfl Tryd.func9 rfl (args2 rfl (((At.hit z29.put.put.put rfl).ne rfl).ne rfl).ev (At.hit z29.put.put.put.put.put rfl).ev) (((calls_bool (Same.calls _ _ (lt.map toR) (lt.map toR) (by rw [List.length_map]; omega) (by rw [List.length_map]; omega) _ ob30_31.rd o31.rd) (decide_eq_true rfl))).mono fun _ _ ⟨e, k⟩ => ⟨_, e, rfl, k⟩) ?_
          rintro _ w32 ⟨rfl, h32⟩
          have ovb_32 := ovb_31.low h32
          have ovo_32 := ovo_31.low h32
          have ovt_32 := ovt_31.low h32
          have ob16_32 := ob16_31.low h32
          have oc16_32 := oc16_31.low h32
          have ob19_32 := ob19_31.low h32
          have oc19_32 := oc19_31.low h32
          have ob22_32 := ob22_31.low h32
          have oc22_32 := oc22_31.low h32
          have ob26_32 := ob26_31.low h32
          have ob27_32 := ob27_31.low h32
          have ob30_32 := ob30_31.low h32
          have ob31_32 := o31.low h32
          refine l_qg (wanted_is (j := 17) (d := 78) (b := false) rfl rfl ((((((At.hit z29.put rfl).ne rfl).ne rfl).ne rfl).ne rfl).ne rfl) rfl) (q_not (b := true) rfl (At.hit z29.put.put.put.put.put.put rfl).ev ?_)
          refine l_fresh z29.put.put.put.put.put.put.put.put ?_
          intro a33 z33 m33
          have s0_33 := m33 _ _ ((((((((s0_29.ne rfl).ne rfl).ne rfl).ne rfl).ne rfl).ne rfl).ne rfl).ne rfl)
          have s1_33 := m33 _ _ ((((((((s1_29.ne rfl).ne rfl).ne rfl).ne rfl).ne rfl).ne rfl).ne rfl).ne rfl)
          have s2_33 := m33 _ _ ((((((((s2_29.ne rfl).ne rfl).ne rfl).ne rfl).ne rfl).ne rfl).ne rfl).ne rfl)
          have s11_33 := m33 _ _ ((((((((s11_29.ne rfl).ne rfl).ne rfl).ne rfl).ne rfl).ne rfl).ne rfl).ne rfl)
          have s78_33 := m33 _ _ (((((((At.hit z29.put rfl).ne rfl).ne rfl).ne rfl).ne rfl).ne rfl).ne rfl)
          have s84_33 := m33 _ _ (At.hit z29.put.put.put.put.put.put.put rfl)
          clear m33
          refine l_q rfl (q_pick (b := false) (.bool false) rfl s78_33.ev s84_33.ev ?_)
          refine l_q rfl (q_move _ _ rfl (At.hit z33 rfl).ev ?_)
          refine l_qg (wanted_is (j := 25) (d := 86) (b := false) rfl rfl (At.hit z33.put rfl) rfl) (q_move _ _ rfl ((s11_33.ne rfl).ne rfl).ev ?_)
          refine l_callg _ (wanted_is (j := 25) (d := 86) (b := false) rfl rfl ((At.hit z33.put rfl).ne rfl) rfl) rfl rfl Tryd.func10 rfl (args1 rfl (At.hit z33.put.put rfl).ev) (Of.calls _ lo (by omega) _ ob22_32.rd) ?_
          rintro v34 w34 ⟨o34, h34⟩
          replace o34 := o34.base ((((((low24.trans h26).trans h27).trans h28).trans h30).trans h31).trans h32).ge
          have ovb_34 := ovb_32.low h34
          have ovo_34 := ovo_32.low h34
          have ovt_34 := ovt_32.low h34
          have ob16_34 := ob16_32.low h34
          have oc16_34 := oc16_32.low h34
          have ob19_34 := ob19_32.low h34
          have oc19_34 := oc19_32.low h34
          have ob22_34 := ob22_32.low h34
          have oc22_34 := oc22_32.low h34
          have ob26_34 := ob26_32.low h34
          have ob27_34 := ob27_32.low h34
          have ob30_34 := ob30_32.low h34
          have ob31_34 := ob31_32.low h34
          refine l_qg (wanted_is (j := 25) (d := 86) (b := false) rfl rfl (((At.hit z33.put rfl).ne rfl).ne rfl) rfl) (q_move _ _ rfl ((((s1_33.ne rfl).ne rfl).ne rfl).ne rfl).ev ?_)
          refine l_callg _ (wanted_is (j := 25) (d := 86) (b := false) rfl rfl ((((At.hit z33.put rfl).ne rfl).ne rfl).ne rfl) rfl) rfl rfl Tryd.func10 rfl (args1 rfl (At.hit z33.put.put.put.put rfl).ev) (Of.calls _ lo (by omega) _ ovo_34) ?_
          rintro v35 w35 ⟨o35, h35⟩
          replace o35 := o35.base (((((((low24.trans h26).trans h27).trans h28).trans h30).trans h31).trans h32).trans h34).ge
          have ovb_35 := ovb_34.low h35
          have ovo_35 := ovo_34.low h35
          have ovt_35 := ovt_34.low h35
          have ob16_35 := ob16_34.low h35
          have oc16_35 := oc16_34.low h35
          have ob19_35 := ob19_34.low h35
          have oc19_35 := oc19_34.low h35
          have ob22_35 := ob22_34.low h35
          have oc22_35 := oc22_34.low h35
          have ob26_35 := ob26_34.low h35
          have ob27_35 := ob27_34.low h35
          have ob30_35 := ob30_34.low h35
          have ob31_35 := ob31_34.low h35
          have ob34_35 := o34.low h35
          refine l_callg (fun v w' => v = .bool true ∧ Low w35 w') (wanted_is (j := 25) (d := 86) (b := false) rfl rfl (((((At.hit z33.put rfl).ne rfl).ne rfl).ne rfl).ne rfl) rfl) rfl rfl Tryd.func9 rfl (args2 rfl (((At.hit z33.put.put.put rfl).ne rfl).ne rfl).ev (At.hit z33.put.put.put.put.put rfl).ev) (((calls_bool (Same.calls _ _ (lo.map toR) (lo.map toR) (by rw [List.length_map]; omega) (by rw [List.length_map]; omega) _ ob34_35.rd o35.rd) (decide_eq_true rfl))).mono fun _ _ ⟨e, k⟩ => ⟨_, e, rfl, k⟩) ?_
          rintro _ w36 ⟨rfl, h36⟩
          have ovb_36 := ovb_35.low h36
          have ovo_36 := ovo_35.low h36
          have ovt_36 := ovt_35.low h36
          have ob16_36 := ob16_35.low h36
          have oc16_36 := oc16_35.low h36
          have ob19_36 := ob19_35.low h36
          have oc19_36 := oc19_35.low h36
          have ob22_36 := ob22_35.low h36
          have oc22_36 := oc22_35.low h36
          have ob26_36 := ob26_35.low h36
          have ob27_36 := ob27_35.low h36
          have ob30_36 := ob30_35.low h36
          have ob31_36 := ob31_35.low h36
          have ob34_36 := ob34_35.low h36
          have ob35_36 := o35.low h36
          refine l_qg (wanted_is (j := 25) (d := 86) (b := false) rfl rfl ((((((At.hit z33.put rfl).ne rfl).ne rfl).ne rfl).ne rfl).ne rfl) rfl) (q_not (b := true) rfl (At.hit z33.put.put.put.put.put.put rfl).ev ?_)
          refine l_fresh z33.put.put.put.put.put.put.put.put ?_
          intro a37 z37 m37
          have s0_37 := m37 _ _ ((((((((s0_33.ne rfl).ne rfl).ne rfl).ne rfl).ne rfl).ne rfl).ne rfl).ne rfl)
          have s1_37 := m37 _ _ ((((((((s1_33.ne rfl).ne rfl).ne rfl).ne rfl).ne rfl).ne rfl).ne rfl).ne rfl)
          have s2_37 := m37 _ _ ((((((((s2_33.ne rfl).ne rfl).ne rfl).ne rfl).ne rfl).ne rfl).ne rfl).ne rfl)
          have s86_37 := m37 _ _ (((((((At.hit z33.put rfl).ne rfl).ne rfl).ne rfl).ne rfl).ne rfl).ne rfl)
          have s92_37 := m37 _ _ (At.hit z33.put.put.put.put.put.put.put rfl)
          clear m37
          refine l_q rfl (q_pick (b := false) (.bool false) rfl s86_37.ev s92_37.ev ?_)
          refine l_end ?_
          refine e_fresh z37.put ?_
          intro a38 z38 m38
          have s0_38 := m38 _ _ (s0_37.ne rfl)
          have s1_38 := m38 _ _ (s1_37.ne rfl)
          have s2_38 := m38 _ _ (s2_37.ne rfl)
          have s93_38 := m38 _ _ (At.hit z37 rfl)
          have low38 := (((((((((low24.trans h26).trans h27).trans h28).trans h30).trans h31).trans h32).trans h34).trans h35).trans h36)
          clear m38
          refine e_then ?_
          refine c_false s93_38 ?_
          refine wp_skip ?_
          refine e_then ?_
          refine c_seq ?_
          refine c_region ?_
          refine l_q rfl (q_move _ _ rfl s0_38.ev ?_)
          refine l_q rfl (q_move _ _ rfl (s1_38.ne rfl).ev ?_)
          refine l_q rfl (q_move _ _ rfl ((s2_38.ne rfl).ne rfl).ev ?_)
          refine l_call _ rfl rfl rfl Tryd.func8 rfl (args3 rfl (((At.hit z38 rfl).ne rfl).ne rfl).ev ((At.hit z38.put rfl).ne rfl).ev (At.hit z38.put.put rfl).ev) (Three.calls _ _ _ lb lo lt (by omega) (by omega) (by omega) so st _ ovb_36 ovo_36 ovt_36) ?_
          rintro _ w39 ⟨p39, q39, rfl, o39, oo39, h39⟩
          replace o39 := o39.base low38.ge
          replace oo39 := oo39.base low38.ge
          have ovb_39 := ovb_36.low h39
          have ovo_39 := ovo_36.low h39
          have ovt_39 := ovt_36.low h39
          refine l_q rfl (q_move _ _ rfl (At.hit z38.put.put.put rfl).ev ?_)
          refine l_q rfl (q_extract rfl (At.hit z38.put.put.put.put rfl).ev rfl ?_)
          refine l_q rfl (q_extract rfl ((At.hit z38.put.put.put.put rfl).ne rfl).ev rfl ?_)
          refine l_q rfl (q_assign _ _ rfl ((At.hit z38.put.put.put.put.put rfl).ne rfl).ev ?_)
          refine l_fresh z38.put.put.put.put.put.put.put.put ?_
          intro a40 z40 m40
          have s0_40 := m40 _ _ ((((((((s0_38.ne rfl).ne rfl).ne rfl).ne rfl).ne rfl).ne rfl).ne rfl).ne rfl)
          have s1_40 := m40 _ _ ((((((((s1_38.ne rfl).ne rfl).ne rfl).ne rfl).ne rfl).ne rfl).ne rfl).ne rfl)
          have s2_40 := m40 _ _ ((((((((s2_38.ne rfl).ne rfl).ne rfl).ne rfl).ne rfl).ne rfl).ne rfl).ne rfl)
          have s13_40 := m40 _ _ (At.hit z38.put.put.put.put.put.put.put rfl)
          have s100_40 := m40 _ _ ((At.hit z38.put.put.put.put.put.put rfl).ne rfl)
          clear m40
          refine l_q rfl (q_assign _ _ rfl s100_40.ev ?_)
          refine l_end ?_
          refine e_fresh z40.put ?_
          intro a41 z41 m41
          have s0_41 := m41 _ _ (s0_40.ne rfl)
          have s1_41 := m41 _ _ (s1_40.ne rfl)
          have s2_41 := m41 _ _ (s2_40.ne rfl)
          have s13_41 := m41 _ _ (s13_40.ne rfl)
          have s14_41 := m41 _ _ (At.hit z40 rfl)
          have low41 := (low38.trans h39)
          clear m41
          refine e_then ?_
          refine c_seq ?_
          refine c_region ?_
          refine l_q rfl (q_move _ _ rfl s0_41.ev ?_)
          refine l_q rfl (q_move _ _ rfl (s2_41.ne rfl).ev ?_)
          refine l_q rfl (q_move _ _ rfl ((s1_41.ne rfl).ne rfl).ev ?_)
          refine l_call _ rfl rfl rfl Tryd.func8 rfl (args3 rfl (((At.hit z41 rfl).ne rfl).ne rfl).ev ((At.hit z41.put rfl).ne rfl).ev (At.hit z41.put.put rfl).ev) (Three.calls _ _ _ lb lt lo (by omega) (by omega) (by omega) st so _ ovb_39 ovt_39 ovo_39) ?_
          rintro _ w42 ⟨p42, q42, rfl, o42, oo42, h42⟩
          replace o42 := o42.base low41.ge
          replace oo42 := oo42.base low41.ge
          have ovb_42 := ovb_39.low h42
          have ovo_42 := ovo_39.low h42
          have ovt_42 := ovt_39.low h42
          have ob39_42 := o39.low h42
          have oc39_42 := oo39.low h42
          refine l_q rfl (q_move _ _ rfl (At.hit z41.put.put.put rfl).ev ?_)
          refine l_q rfl (q_extract rfl (At.hit z41.put.put.put.put rfl).ev rfl ?_)
          refine l_q rfl (q_extract rfl ((At.hit z41.put.put.put.put rfl).ne rfl).ev rfl ?_)
          refine l_q rfl (q_assign _ _ rfl ((At.hit z41.put.put.put.put.put rfl).ne rfl).ev ?_)
          refine l_fresh z41.put.put.put.put.put.put.put.put ?_
          intro a43 z43 m43
          have s13_43 := m43 _ _ ((((((((s13_41.ne rfl).ne rfl).ne rfl).ne rfl).ne rfl).ne rfl).ne rfl).ne rfl)
          have s14_43 := m43 _ _ ((((((((s14_41.ne rfl).ne rfl).ne rfl).ne rfl).ne rfl).ne rfl).ne rfl).ne rfl)
          have s15_43 := m43 _ _ (At.hit z41.put.put.put.put.put.put.put rfl)
          have s107_43 := m43 _ _ ((At.hit z41.put.put.put.put.put.put rfl).ne rfl)
          clear m43
          refine l_q rfl (q_assign _ _ rfl s107_43.ev ?_)
          refine l_end ?_
          refine e_fresh z43.put ?_
          intro a44 z44 m44
          have s13_44 := m44 _ _ (s13_43.ne rfl)
          have s14_44 := m44 _ _ (s14_43.ne rfl)
          have s15_44 := m44 _ _ (s15_43.ne rfl)
          have s16_44 := m44 _ _ (At.hit z43 rfl)
          have low44 := (low41.trans h42)
          clear m44
          refine e_then ?_
          refine c_seq ?_
          refine c_seq ?_
          by_cases hb45 : badA lb lo lt = []
          · skip
            refine c_region ?_
            refine l_q rfl (q_move _ _ rfl s14_44.ev ?_)
            refine l_q rfl (q_lenF rfl rfl Tryd.underlying26 (At.hit z44 rfl).ev oc39_42.rd ?_)
            refine l_q rfl (q_eql true rfl (At.hit z44.put rfl).ev rfl (decide_eq_true (by rw [hb45]; rfl)) ?_)
            refine l_q rfl (q_move _ _ rfl (At.hit z44.put.put rfl).ev ?_)
            refine l_skip (wanted_is (j := 3) (d := 111) (b := true) rfl rfl (At.hit z44.put.put.put rfl) rfl) ?_
            refine l_skip (wanted_is (j := 3) (d := 111) (b := true) rfl rfl ((At.hit z44.put.put.put rfl).ne rfl) rfl) ?_
            refine l_skip (wanted_is (j := 3) (d := 111) (b := true) rfl rfl (((At.hit z44.put.put.put rfl).ne rfl).ne rfl) rfl) ?_
            refine l_q rfl (q_pick (b := true) (.bool true) rfl ((((At.hit z44.put.put.put rfl).ne rfl).ne rfl).ne rfl).ev rfl ?_)
            refine l_end ?_
            refine e_fresh z44.put.put.put.put.put.put.put.put ?_
            intro a46 z46 m46
            have s13_46 := m46 _ _ ((((((((s13_44.ne rfl).ne rfl).ne rfl).ne rfl).ne rfl).ne rfl).ne rfl).ne rfl)
            have s14_46 := m46 _ _ ((((((((s14_44.ne rfl).ne rfl).ne rfl).ne rfl).ne rfl).ne rfl).ne rfl).ne rfl)
            have s15_46 := m46 _ _ ((((((((s15_44.ne rfl).ne rfl).ne rfl).ne rfl).ne rfl).ne rfl).ne rfl).ne rfl)
            have s16_46 := m46 _ _ ((((((((s16_44.ne rfl).ne rfl).ne rfl).ne rfl).ne rfl).ne rfl).ne rfl).ne rfl)
            have s115_46 := m46 _ _ (At.hit z44.put.put.put.put.put.put.put rfl)
            clear m46
            refine e_then ?_
            refine c_true s115_46 ?_
            refine c_seq ?_
            obtain ⟨hp0, hq0, hxy⟩ : badA lb lo lt = [] ∧ badA lb lt lo = [] ∧ outF lb lo lt = outF lb lt lo := ⟨hb45, (swapped no nt hb45).1, (swapped no nt hb45).2.symm⟩
            have sx := out_short lb so st
            have hrx := right_out hb5 hb6 hp0 (by omega)
            refine c_region ?_
            refine l_q rfl (q_move _ _ rfl s14_46.ev ?_)
            refine l_q rfl (q_lenF rfl rfl Tryd.underlying26 (At.hit z46 rfl).ev oc39_42.rd ?_)
            refine l_q rfl (q_move _ _ rfl ((s16_46.ne rfl).ne rfl).ev ?_)
            refine l_q rfl (q_lenF rfl rfl Tryd.underlying26 (At.hit z46.put.put rfl).ev oo42.rd ?_)
            refine l_q rfl (q_eql true rfl (((At.hit z46.put rfl).ne rfl).ne rfl).ev (At.hit z46.put.put.put rfl).ev (decide_eq_true (by rw [hp0, hq0])) ?_)
            refine l_q rfl (q_move _ _ rfl (At.hit z46.put.put.put.put rfl).ev ?_)
            refine l_qg (wanted_is (j := 5) (d := 121) (b := true) rfl rfl (At.hit z46.put.put.put.put.put rfl) rfl) (q_move _ _ rfl ((((((s13_46.ne rfl).ne rfl).ne rfl).ne rfl).ne rfl).ne rfl).ev ?_)
            refine l_callg _ (wanted_is (j := 5) (d := 121) (b := true) rfl rfl ((At.hit z46.put.put.put.put.put rfl).ne rfl) rfl) rfl rfl Tryd.func10 rfl (args1 rfl (At.hit z46.put.put.put.put.put.put rfl).ev) (Of.calls _ (outF lb lo lt) (by omega) _ ob39_42.rd) ?_
            rintro v47 w47 ⟨o47, h47⟩
            replace o47 := o47.base low44.ge
            have ob39_47 := ob39_42.low h47
            have oc39_47 := oc39_42.low h47
            have ob42_47 := o42.low h47
            have oc42_47 := oo42.low h47
            refine l_fresh z46.put.put.put.put.put.put.put.put ?_
            intro a48 z48 m48
            have s13_48 := m48 _ _ ((((((((s13_46.ne rfl).ne rfl).ne rfl).ne rfl).ne rfl).ne rfl).ne rfl).ne rfl)
            have s15_48 := m48 _ _ ((((((((s15_46.ne rfl).ne rfl).ne rfl).ne rfl).ne rfl).ne rfl).ne rfl).ne rfl)
            have s121_48 := m48 _ _ (((At.hit z46.put.put.put.put.put rfl).ne rfl).ne rfl)
            have s123_48 := m48 _ _ (At.hit z46.put.put.put.put.put.put.put rfl)
            clear m48
            refine l_qg (wanted_is (j := 5) (d := 121) (b := true) rfl rfl s121_48 rfl) (q_move _ _ rfl s15_48.ev ?_)
            refine l_callg _ (wanted_is (j := 5) (d := 121) (b := true) rfl rfl (s121_48.ne rfl) rfl) rfl rfl Tryd.func10 rfl (args1 rfl (At.hit z48 rfl).ev) (Of.calls _ (outF lb lt lo) (by omega) _ ob42_47.rd) ?_
            rintro v49 w49 ⟨o49, h49⟩
            replace o49 := o49.base (low44.trans h47).ge
            have ob39_49 := ob39_47.low h49
            have oc39_49 := oc39_47.low h49
            have ob42_49 := ob42_47.low h49
            have oc42_49 := oc42_47.low h49
            have ob47_49 := o47.low h49
            refine l_callg (fun v w' => v = .bool true ∧ Low w49 w') (wanted_is (j := 5) (d := 121) (b := true) rfl rfl ((s121_48.ne rfl).ne rfl) rfl) rfl rfl Tryd.func9 rfl (args2 rfl ((s123_48.ne rfl).ne rfl).ev (At.hit z48.put rfl).ev) (((calls_bool (Same.calls _ _ ((outF lb lo lt).map toR) ((outF lb lt lo).map toR) (by rw [List.length_map]; omega) (by rw [List.length_map]; omega) _ ob47_49.rd o49.rd) (decide_eq_true (by rw [hxy])))).mono fun _ _ ⟨e, k⟩ => ⟨_, e, rfl, k⟩) ?_
            rintro _ w50 ⟨rfl, h50⟩
            have ob39_50 := ob39_49.low h50
            have oc39_50 := oc39_49.low h50
            have ob42_50 := ob42_49.low h50
            have oc42_50 := oc42_49.low h50
            have ob47_50 := ob47_49.low h50
            have ob49_50 := o49.low h50
            refine l_q rfl (q_pick (b := true) (.bool true) rfl (((s121_48.ne rfl).ne rfl).ne rfl).ev (At.hit z48.put.put rfl).ev ?_)
            refine l_q rfl (q_move _ _ rfl (At.hit z48.put.put.put rfl).ev ?_)
            refine l_qg (wanted_is (j := 12) (d := 128) (b := true) rfl rfl (At.hit z48.put.put.put.put rfl) rfl) (q_move _ _ rfl (((((s13_48.ne rfl).ne rfl).ne rfl).ne rfl).ne rfl).ev ?_)
            refine l_callg (fun v w' => v = .bool true ∧ Low w50 w') (wanted_is (j := 12) (d := 128) (b := true) rfl rfl ((At.hit z48.put.put.put.put rfl).ne rfl) rfl) rfl rfl Tryd.func7 rfl (args1 rfl (At.hit z48.put.put.put.put.put rfl).ev) (((calls_bool (Right.calls _ (outF lb lo lt) (by omega) sx _ ob39_50.rd (Gd.low hG (((low44.trans h47).trans h49).trans h50))) hrx)).mono fun _ _ ⟨e, k⟩ => ⟨_, e, rfl, k⟩) ?_
            rintro _ w51 ⟨rfl, h51⟩
            have ob39_51 := ob39_50.low h51
            have oc39_51 := oc39_50.low h51
            have ob42_51 := ob42_50.low h51
            have oc42_51 := oc42_50.low h51
            have ob47_51 := ob47_50.low h51
            have ob49_51 := ob49_50.low h51
            refine l_qg (wanted_is (j := 12) (d := 128) (b := true) rfl rfl (((At.hit z48.put.put.put.put rfl).ne rfl).ne rfl) rfl) (q_move _ _ rfl (((((((s13_48.ne rfl).ne rfl).ne rfl).ne rfl).ne rfl).ne rfl).ne rfl).ev ?_)
            refine l_fresh z48.put.put.put.put.put.put.put.put ?_
            intro a52 z52 m52
            have s128_52 := m52 _ _ ((((At.hit z48.put.put.put.put rfl).ne rfl).ne rfl).ne rfl)
            have s130_52 := m52 _ _ ((At.hit z48.put.put.put.put.put.put rfl).ne rfl)
            have s131_52 := m52 _ _ (At.hit z48.put.put.put.put.put.put.put rfl)
            clear m52
            refine l_qg (wanted_is (j := 12) (d := 128) (b := true) rfl rfl s128_52 rfl) (q_lenF rfl rfl Tryd.underlying22 s131_52.ev ob39_51.rd ?_)
            refine l_qg (wanted_is (j := 12) (d := 128) (b := true) rfl rfl (s128_52.ne rfl) rfl) (q_leq true rfl (At.hit z52 rfl).ev rfl (decide_eq_true (by omega)) ?_)
            refine l_qg (wanted_is (j := 12) (d := 128) (b := true) rfl rfl ((s128_52.ne rfl).ne rfl) rfl) (q_boolq true rfl Tryd.underlying4 ((s130_52.ne rfl).ne rfl).ev (At.hit z52.put rfl).ev rfl ?_)
            refine l_q rfl (q_pick (b := true) (.bool true) rfl (((s128_52.ne rfl).ne rfl).ne rfl).ev (At.hit z52.put.put rfl).ev ?_)
            refine l_q rfl (q_assign _ _ rfl (At.hit z52.put.put.put rfl).ev ?_)
            refine l_end ?_
            refine e_fresh z52.put.put.put.put.put ?_
            intro a53 z53 m53
            have s6_53 := m53 _ _ (At.hit z52.put.put.put.put rfl)
            have low53 := ((((low44.trans h47).trans h49).trans h50).trans h51)
            clear m53
            refine e_then ?_
            refine wp_ret ?_
            refine ret_then ?_
            refine r_tmp rfl z53.defers s6_53 ?_
            exact ⟨rfl, low53⟩
          · skip
            by_cases hb54 : badA lb lt lo = []
            · skip
              refine c_region ?_
              refine l_q rfl (q_move _ _ rfl s14_44.ev ?_)
              refine l_q rfl (q_lenF rfl rfl Tryd.underlying26 (At.hit z44 rfl).ev oc39_42.rd ?_)
              refine l_q rfl (q_eql false rfl (At.hit z44.put rfl).ev rfl (decide_eq_false (fun e => hb45 (List.eq_nil_of_length_eq_zero (by omega)))) ?_)
              refine l_q rfl (q_move _ _ rfl (At.hit z44.put.put rfl).ev ?_)
              refine l_qg (wanted_is (j := 3) (d := 111) (b := false) rfl rfl (At.hit z44.put.put.put rfl) rfl) (q_move _ _ rfl ((((s16_44.ne rfl).ne rfl).ne rfl).ne rfl).ev ?_)
              refine l_qg (wanted_is (j := 3) (d := 111) (b := false) rfl rfl ((At.hit z44.put.put.put rfl).ne rfl) rfl) (q_lenF rfl rfl Tryd.underlying26 (At.hit z44.put.put.put.put rfl).ev oo42.rd ?_)
              refine l_qg (wanted_is (j := 3) (d := 111) (b := false) rfl rfl (((At.hit z44.put.put.put rfl).ne rfl).ne rfl) rfl) (q_eql true rfl (At.hit z44.put.put.put.put.put rfl).ev rfl (decide_eq_true (by rw [hb54]; rfl)) ?_)
              refine l_q rfl (q_pick (b := false) (.bool true) rfl ((((At.hit z44.put.put.put rfl).ne rfl).ne rfl).ne rfl).ev (At.hit z44.put.put.put.put.put.put rfl).ev ?_)
              refine l_end ?_
              refine e_fresh z44.put.put.put.put.put.put.put.put ?_
              intro a55 z55 m55
              have s13_55 := m55 _ _ ((((((((s13_44.ne rfl).ne rfl).ne rfl).ne rfl).ne rfl).ne rfl).ne rfl).ne rfl)
              have s14_55 := m55 _ _ ((((((((s14_44.ne rfl).ne rfl).ne rfl).ne rfl).ne rfl).ne rfl).ne rfl).ne rfl)
              have s15_55 := m55 _ _ ((((((((s15_44.ne rfl).ne rfl).ne rfl).ne rfl).ne rfl).ne rfl).ne rfl).ne rfl)
              have s16_55 := m55 _ _ ((((((((s16_44.ne rfl).ne rfl).ne rfl).ne rfl).ne rfl).ne rfl).ne rfl).ne rfl)
              have s115_55 := m55 _ _ (At.hit z44.put.put.put.put.put.put.put rfl)
              clear m55
              refine e_then ?_
              refine c_true s115_55 ?_
              refine c_seq ?_
              obtain ⟨hp0, hq0, hxy⟩ : badA lb lo lt = [] ∧ badA lb lt lo = [] ∧ outF lb lo lt = outF lb lt lo := ⟨(swapped nt no hb54).1, hb54, (swapped nt no hb54).2⟩
              have sx := out_short lb so st
              have hrx := right_out hb5 hb6 hp0 (by omega)
              refine c_region ?_
              refine l_q rfl (q_move _ _ rfl s14_55.ev ?_)
              refine l_q rfl (q_lenF rfl rfl Tryd.underlying26 (At.hit z55 rfl).ev oc39_42.rd ?_)
              refine l_q rfl (q_move _ _ rfl ((s16_55.ne rfl).ne rfl).ev ?_)
              refine l_q rfl (q_lenF rfl rfl Tryd.underlying26 (At.hit z55.put.put rfl).ev oo42.rd ?_)
              refine l_q rfl (q_eql true rfl (((At.hit z55.put rfl).ne rfl).ne rfl).ev (At.hit z55.put.put.put rfl).ev (decide_eq_true (by rw [hp0, hq0])) ?_)
              refine l_q rfl (q_move _ _ rfl (At.hit z55.put.put.put.put rfl).ev ?_)
              refine l_qg (wanted_is (j := 5) (d := 121) (b := true) rfl rfl (At.hit z55.put.put.put.put.put rfl) rfl) (q_move _ _ rfl ((((((s13_55.ne rfl).ne rfl).ne rfl).ne rfl).ne rfl).ne rfl).ev ?_)
              refine l_callg _ (wanted_is (j := 5) (d := 121) (b := true) rfl rfl ((At.hit z55.put.put.put.put.put rfl).ne rfl) rfl) rfl rfl Tryd.func10 rfl (args1 rfl (At.hit z55.put.put.put.put.put.put rfl).ev) (Of.calls _ (outF lb lo lt) (by omega) _ ob39_42.rd) ?_
              rintro v56 w56 ⟨o56, h56⟩
              replace o56 := o56.base low44.ge
              have ob39_56 := ob39_42.low h56
              have oc39_56 := oc39_42.low h56
              have ob42_56 := o42.low h56
              have oc42_56 := oo42.low h56
              refine l_fresh z55.put.put.put.put.put.put.put.put ?_
              intro a57 z57 m57
              have s13_57 := m57 _ _ ((((((((s13_55.ne rfl).ne rfl).ne rfl).ne rfl).ne rfl).ne rfl).ne rfl).ne rfl)
              have s15_57 := m57 _ _ ((((((((s15_55.ne rfl).ne rfl).ne rfl).ne rfl).ne rfl).ne rfl).ne rfl).ne rfl)
              have s121_57 := m57 _ _ (((At.hit z55.put.put.put.put.put rfl).ne rfl).ne rfl)
              have s123_57 := m57 _ _ (At.hit z55.put.put.put.put.put.put.put rfl)
              clear m57
              refine l_qg (wanted_is (j := 5) (d := 121) (b := true) rfl rfl s121_57 rfl) (q_move _ _ rfl s15_57.ev ?_)
              refine l_callg _ (wanted_is (j := 5) (d := 121) (b := true) rfl rfl (s121_57.ne rfl) rfl) rfl rfl Tryd.func10 rfl (args1 rfl (At.hit z57 rfl).ev) (Of.calls _ (outF lb lt lo) (by omega) _ ob42_56.rd) ?_
              rintro v58 w58 ⟨o58, h58⟩
              replace o58 := o58.base (low44.trans h56).ge
              have ob39_58 := ob39_56.low h58
              have oc39_58 := oc39_56.low h58
              have ob42_58 := ob42_56.low h58
              have oc42_58 := oc42_56.low h58
              have ob56_58 := o56.low h58
              refine l_callg (fun v w' => v = .bool true ∧ Low w58 w') (wanted_is (j := 5) (d := 121) (b := true) rfl rfl ((s121_57.ne rfl).ne rfl) rfl) rfl rfl Tryd.func9 rfl (args2 rfl ((s123_57.ne rfl).ne rfl).ev (At.hit z57.put rfl).ev) (((calls_bool (Same.calls _ _ ((outF lb lo lt).map toR) ((outF lb lt lo).map toR) (by rw [List.length_map]; omega) (by rw [List.length_map]; omega) _ ob56_58.rd o58.rd) (decide_eq_true (by rw [hxy])))).mono fun _ _ ⟨e, k⟩ => ⟨_, e, rfl, k⟩) ?_
              rintro _ w59 ⟨rfl, h59⟩
              have ob39_59 := ob39_58.low h59
              have oc39_59 := oc39_58.low h59
              have ob42_59 := ob42_58.low h59
              have oc42_59 := oc42_58.low h59
              have ob56_59 := ob56_58.low h59
              have ob58_59 := o58.low h59
              refine l_q rfl (q_pick (b := true) (.bool true) rfl (((s121_57.ne rfl).ne rfl).ne rfl).ev (At.hit z57.put.put rfl).ev ?_)
              refine l_q rfl (q_move _ _ rfl (At.hit z57.put.put.put rfl).ev ?_)
              refine l_qg (wanted_is (j := 12) (d := 128) (b := true) rfl rfl (At.hit z57.put.put.put.put rfl) rfl) (q_move _ _ rfl (((((s13_57.ne rfl).ne rfl).ne rfl).ne rfl).ne rfl).ev ?_)
              refine l_callg (fun v w' => v = .bool true ∧ Low w59 w') (wanted_is (j := 12) (d := 128) (b := true) rfl rfl ((At.hit z57.put.put.put.put rfl).ne rfl) rfl) rfl rfl Tryd.func7 rfl (args1 rfl (At.hit z57.put.put.put.put.put rfl).ev) (((calls_bool (Right.calls _ (outF lb lo lt) (by omega) sx _ ob39_59.rd (Gd.low hG (((low44.trans h56).trans h58).trans h59))) hrx)).mono fun _ _ ⟨e, k⟩ => ⟨_, e, rfl, k⟩) ?_
              rintro _ w60 ⟨rfl, h60⟩
              have ob39_60 := ob39_59.low h60
              have oc39_60 := oc39_59.low h60
              have ob42_60 := ob42_59.low h60
              have oc42_60 := oc42_59.low h60
              have ob56_60 := ob56_59.low h60
              have ob58_60 := ob58_59.low h60
              refine l_qg (wanted_is (j := 12) (d := 128) (b := true) rfl rfl (((At.hit z57.put.put.put.put rfl).ne rfl).ne rfl) rfl) (q_move _ _ rfl (((((((s13_57.ne rfl).ne rfl).ne rfl).ne rfl).ne rfl).ne rfl).ne rfl).ev ?_)
              refine l_fresh z57.put.put.put.put.put.put.put.put ?_
              intro a61 z61 m61
              have s128_61 := m61 _ _ ((((At.hit z57.put.put.put.put rfl).ne rfl).ne rfl).ne rfl)
              have s130_61 := m61 _ _ ((At.hit z57.put.put.put.put.put.put rfl).ne rfl)
              have s131_61 := m61 _ _ (At.hit z57.put.put.put.put.put.put.put rfl)
              clear m61
              refine l_qg (wanted_is (j := 12) (d := 128) (b := true) rfl rfl s128_61 rfl) (q_lenF rfl rfl Tryd.underlying22 s131_61.ev ob39_60.rd ?_)
              refine l_qg (wanted_is (j := 12) (d := 128) (b := true) rfl rfl (s128_61.ne rfl) rfl) (q_leq true rfl (At.hit z61 rfl).ev rfl (decide_eq_true (by omega)) ?_)
              refine l_qg (wanted_is (j := 12) (d := 128) (b := true) rfl rfl ((s128_61.ne rfl).ne rfl) rfl) (q_boolq true rfl Tryd.underlying4 ((s130_61.ne rfl).ne rfl).ev (At.hit z61.put rfl).ev rfl ?_)
              refine l_q rfl (q_pick (b := true) (.bool true) rfl (((s128_61.ne rfl).ne rfl).ne rfl).ev (At.hit z61.put.put rfl).ev ?_)
              refine l_q rfl (q_assign _ _ rfl (At.hit z61.put.put.put rfl).ev ?_)
              refine l_end ?_
              refine e_fresh z61.put.put.put.put.put ?_
              intro a62 z62 m62
              have s6_62 := m62 _ _ (At.hit z61.put.put.put.put rfl)
              have low62 := ((((low44.trans h56).trans h58).trans h59).trans h60)
              clear m62
              refine e_then ?_
              refine wp_ret ?_
              refine ret_then ?_
              refine r_tmp rfl z62.defers s6_62 ?_
              exact ⟨rfl, low62⟩
            · skip
              refine c_region ?_
              refine l_q rfl (q_move _ _ rfl s14_44.ev ?_)
              refine l_q rfl (q_lenF rfl rfl Tryd.underlying26 (At.hit z44 rfl).ev oc39_42.rd ?_)
              refine l_q rfl (q_eql false rfl (At.hit z44.put rfl).ev rfl (decide_eq_false (fun e => hb45 (List.eq_nil_of_length_eq_zero (by omega)))) ?_)
              refine l_q rfl (q_move _ _ rfl (At.hit z44.put.put rfl).ev ?_)
              refine l_qg (wanted_is (j := 3) (d := 111) (b := false) rfl rfl (At.hit z44.put.put.put rfl) rfl) (q_move _ _ rfl ((((s16_44.ne rfl).ne rfl).ne rfl).ne rfl).ev ?_)
              refine l_qg (wanted_is (j := 3) (d := 111) (b := false) rfl rfl ((At.hit z44.put.put.put rfl).ne rfl) rfl) (q_lenF rfl rfl Tryd.underlying26 (At.hit z44.put.put.put.put rfl).ev oo42.rd ?_)
              refine l_qg (wanted_is (j := 3) (d := 111) (b := false) rfl rfl (((At.hit z44.put.put.put rfl).ne rfl).ne rfl) rfl) (q_eql false rfl (At.hit z44.put.put.put.put.put rfl).ev rfl (decide_eq_false (fun e => hb54 (List.eq_nil_of_length_eq_zero (by omega)))) ?_)
              refine l_q rfl (q_pick (b := false) (.bool false) rfl ((((At.hit z44.put.put.put rfl).ne rfl).ne rfl).ne rfl).ev (At.hit z44.put.put.put.put.put.put rfl).ev ?_)
              refine l_end ?_
              refine e_fresh z44.put.put.put.put.put.put.put.put ?_
              intro a63 z63 m63
              have s13_63 := m63 _ _ ((((((((s13_44.ne rfl).ne rfl).ne rfl).ne rfl).ne rfl).ne rfl).ne rfl).ne rfl)
              have s14_63 := m63 _ _ ((((((((s14_44.ne rfl).ne rfl).ne rfl).ne rfl).ne rfl).ne rfl).ne rfl).ne rfl)
              have s15_63 := m63 _ _ ((((((((s15_44.ne rfl).ne rfl).ne rfl).ne rfl).ne rfl).ne rfl).ne rfl).ne rfl)
              have s16_63 := m63 _ _ ((((((((s16_44.ne rfl).ne rfl).ne rfl).ne rfl).ne rfl).ne rfl).ne rfl).ne rfl)
              have s115_63 := m63 _ _ (At.hit z44.put.put.put.put.put.put.put rfl)
              clear m63
              refine e_then ?_
              refine c_false s115_63 ?_
              refine wp_skip ?_
              refine e_then ?_
              refine c_seq ?_
              refine c_region ?_
              refine l_q rfl (q_assign _ _ rfl rfl ?_)
              refine l_end ?_
              refine e_fresh z63.put ?_
              intro a64 z64 m64
              have s6_64 := m64 _ _ (At.hit z63 rfl)
              clear m64
              refine e_then ?_
              refine wp_ret ?_
              refine r_tmp rfl z64.defers s6_64 ?_
              exact ⟨rfl, low44⟩
        · skip
          refine c_region ?_
          refine l_q rfl (q_move _ _ rfl s0_3.ev ?_)
          refine l_q rfl (q_move _ _ rfl (s1_3.ne rfl).ev ?_)
          refine l_q rfl (q_move _ _ rfl ((s2_3.ne rfl).ne rfl).ev ?_)
          refine l_lit3 rfl rfl Tryd.underlying35 rec22 (((At.hit z3 rfl).ne rfl).ne rfl).ev ((At.hit z3.put rfl).ne rfl).ev (At.hit z3.put.put rfl).ev (RdF.one ovb_2) (RdF.one ovo_2) (RdF.one ovt_2) ?_
          intro g22_65 w65 hg65 k65 h65
          have geg22_65 := Nat.le_trans low3.ge hg65
          have ovb_65 := ovb_2.low h65
          have ovo_65 := ovo_2.low h65
          have ovt_65 := ovt_2.low h65
          have og22_65_65 := rdFF3 k65 ovb_65 ovo_65 ovt_65
          refine l_call (fun v w' => v = .bool true ∧ Low w65 w') rfl rfl rfl Tryd.func6 rfl (args1 rfl (At.hit z3.put.put.put rfl).ev) (((calls_bool (May.calls _ _ ([lb, lo, lt]) (by simp) _ og22_65_65) hb4)).mono fun _ _ ⟨e, k⟩ => ⟨_, e, rfl, k⟩) ?_
          rintro _ w66 ⟨rfl, h66⟩
          have kg22_65_66 := h66.blk k65
          have ovb_66 := ovb_65.low h66
          have ovo_66 := ovo_65.low h66
          have ovt_66 := ovt_65.low h66
          have oL65_66 := og22_65_65.low h66
          refine l_q rfl (q_not (b := true) rfl (At.hit z3.put.put.put.put rfl).ev ?_)
          refine l_q rfl (q_move _ _ rfl (At.hit z3.put.put.put.put.put rfl).ev ?_)
          refine l_qg (wanted_is (j := 6) (d := 25) (b := false) rfl rfl (At.hit z3.put.put.put.put.put.put rfl) rfl) (q_move _ _ rfl (((((((s1_3.ne rfl).ne rfl).ne rfl).ne rfl).ne rfl).ne rfl).ne rfl).ev ?_)
          refine l_fresh z3.put.put.put.put.put.put.put.put ?_
          intro a67 z67 m67
          have s0_67 := m67 _ _ ((((((((s0_3.ne rfl).ne rfl).ne rfl).ne rfl).ne rfl).ne rfl).ne rfl).ne rfl)
          have s1_67 := m67 _ _ ((((((((s1_3.ne rfl).ne rfl).ne rfl).ne rfl).ne rfl).ne rfl).ne rfl).ne rfl)
          have s2_67 := m67 _ _ ((((((((s2_3.ne rfl).ne rfl).ne rfl).ne rfl).ne rfl).ne rfl).ne rfl).ne rfl)
          have s25_67 := m67 _ _ ((At.hit z3.put.put.put.put.put.put rfl).ne rfl)
          have s26_67 := m67 _ _ (At.hit z3.put.put.put.put.put.put.put rfl)
          clear m67
          refine l_callg (fun v w' => v = .bool true ∧ Low w66 w') (wanted_is (j := 6) (d := 25) (b := false) rfl rfl s25_67 rfl) rfl rfl Tryd.func7 rfl (args1 rfl s26_67.ev) (((calls_bool (Right.calls _ lo (Nat.le_trans (okRow (may3 hb4).2.1).2.2.1 (by decide)) (okRow (may3 hb4).2.1).2.1 _ ovo_66 (Gd.low hG ((low3.trans h65).trans h66))) hb5)).mono fun _ _ ⟨e, k⟩ => ⟨_, e, rfl, k⟩) ?_
          rintro _ w68 ⟨rfl, h68⟩
          have kg22_65_68 := h68.blk kg22_65_66
          have ovb_68 := ovb_66.low h68
          have ovo_68 := ovo_66.low h68
          have ovt_68 := ovt_66.low h68
          have oL65_68 := oL65_66.low h68
          refine l_qg (wanted_is (j := 6) (d := 25) (b := false) rfl rfl (s25_67.ne rfl) rfl) (q_not (b := true) rfl (At.hit z67 rfl).ev ?_)
          refine l_q rfl (q_pick (b := false) (.bool false) rfl ((s25_67.ne rfl).ne rfl).ev (At.hit z67.put rfl).ev ?_)
          refine l_q rfl (q_move _ _ rfl (At.hit z67.put.put rfl).ev ?_)
          refine l_qg (wanted_is (j := 11) (d := 30) (b := false) rfl rfl (At.hit z67.put.put.put rfl) rfl) (q_move _ _ rfl ((((s2_67.ne rfl).ne rfl).ne rfl).ne rfl).ev ?_)
          refine l_callg (fun v w' => v = .bool true ∧ Low w68 w') (wanted_is (j := 11) (d := 30) (b := false) rfl rfl ((At.hit z67.put.put.put rfl).ne rfl) rfl) rfl rfl Tryd.func7 rfl (args1 rfl (At.hit z67.put.put.put.put rfl).ev) (((calls_bool (Right.calls _ lt (Nat.le_trans (okRow (may3 hb4).2.2).2.2.1 (by decide)) (okRow (may3 hb4).2.2).2.1 _ ovt_68 (Gd.low hG (((low3.trans h65).trans h66).trans h68))) hb6)).mono fun _ _ ⟨e, k⟩ => ⟨_, e, rfl, k⟩) ?_
          rintro _ w69 ⟨rfl, h69⟩
          have kg22_65_69 := h69.blk kg22_65_68
          have ovb_69 := ovb_68.low h69
          have ovo_69 := ovo_68.low h69
          have ovt_69 := ovt_68.low h69
          have oL65_69 := oL65_68.low h69
          refine l_qg (wanted_is (j := 11) (d := 30) (b := false) rfl rfl (((At.hit z67.put.put.put rfl).ne rfl).ne rfl) rfl) (q_not (b := true) rfl (At.hit z67.put.put.put.put.put rfl).ev ?_)
          refine l_q rfl (q_pick (b := false) (.bool false) rfl ((((At.hit z67.put.put.put rfl).ne rfl).ne rfl).ne rfl).ev (At.hit z67.put.put.put.put.put.put rfl).ev ?_)
          refine l_fresh z67.put.put.put.put.put.put.put.put ?_
          intro a70 z70 m70
          have s0_70 := m70 _ _ ((((((((s0_67.ne rfl).ne rfl).ne rfl).ne rfl).ne rfl).ne rfl).ne rfl).ne rfl)
          have s1_70 := m70 _ _ ((((((((s1_67.ne rfl).ne rfl).ne rfl).ne rfl).ne rfl).ne rfl).ne rfl).ne rfl)
          have s2_70 := m70 _ _ ((((((((s2_67.ne rfl).ne rfl).ne rfl).ne rfl).ne rfl).ne rfl).ne rfl).ne rfl)
          have s34_70 := m70 _ _ (At.hit z67.put.put.put.put.put.put.put rfl)
          clear m70
          refine l_q rfl (q_move _ _ rfl s34_70.ev ?_)
          refine l_qg (wanted_is (j := 16) (d := 35) (b := false) rfl rfl (At.hit z70 rfl) rfl) (q_move _ _ rfl (s0_70.ne rfl).ev ?_)
          refine l_callg (fun v w' => v = .bool false ∧ Low w69 w') (wanted_is (j := 16) (d := 35) (b := false) rfl rfl ((At.hit z70 rfl).ne rfl) rfl) rfl rfl Tryd.func7 rfl (args1 rfl (At.hit z70.put rfl).ev) (((calls_bool (Right.calls _ lb (Nat.le_trans (okRow (may3 hb4).1).2.2.1 (by decide)) (okRow (may3 hb4).1).2.1 _ ovb_69 (Gd.low hG ((((low3.trans h65).trans h66).trans h68).trans h69))) (eq_false_of_ne_true hb7))).mono fun _ _ ⟨e, k⟩ => ⟨_, e, rfl, k⟩) ?_
          rintro _ w71 ⟨rfl, h71⟩
          have kg22_65_71 := h71.blk kg22_65_69
          have ovb_71 := ovb_69.low h71
          have ovo_71 := ovo_69.low h71
          have ovt_71 := ovt_69.low h71
          have oL65_71 := oL65_69.low h71
          refine l_qg (wanted_is (j := 16) (d := 35) (b := false) rfl rfl (((At.hit z70 rfl).ne rfl).ne rfl) rfl) (q_not (b := false) rfl (At.hit z70.put.put rfl).ev ?_)
          refine l_q rfl (q_pick (b := false) (.bool true) rfl ((((At.hit z70 rfl).ne rfl).ne rfl).ne rfl).ev (At.hit z70.put.put.put rfl).ev ?_)
          refine l_end ?_
          refine e_fresh z70.put.put.put.put.put ?_
          intro a72 z72 m72
          have s0_72 := m72 _ _ (((((s0_70.ne rfl).ne rfl).ne rfl).ne rfl).ne rfl)
          have s1_72 := m72 _ _ (((((s1_70.ne rfl).ne rfl).ne rfl).ne rfl).ne rfl)
          have s2_72 := m72 _ _ (((((s2_70.ne rfl).ne rfl).ne rfl).ne rfl).ne rfl)
          have s39_72 := m72 _ _ (At.hit z70.put.put.put.put rfl)
          have low72 := (((((low3.trans h65).trans h66).trans h68).trans h69).trans h71)
          clear m72
          refine e_then ?_
          refine c_true s39_72 ?_
          refine c_seq ?_
          refine c_region ?_
          refine l_q rfl (q_assign _ _ rfl rfl ?_)
          refine l_end ?_
          refine e_fresh z72.put ?_
          intro a73 z73 m73
          have s6_73 := m73 _ _ (At.hit z72 rfl)
          clear m73
          refine e_then ?_
          refine wp_ret ?_
          refine ret_then ?_
          refine r_tmp rfl z73.defers s6_73 ?_
          exact ⟨rfl, low72⟩
      · skip
        refine c_region ?_
        refine l_q rfl (q_move _ _ rfl s0_3.ev ?_)
        refine l_q rfl (q_move _ _ rfl (s1_3.ne rfl).ev ?_)
        refine l_q rfl (q_move _ _ rfl ((s2_3.ne rfl).ne rfl).ev ?_)
        refine l_lit3 rfl rfl Tryd.underlying35 rec22 (((At.hit z3 rfl).ne rfl).ne rfl).ev ((At.hit z3.put rfl).ne rfl).ev (At.hit z3.put.put rfl).ev (RdF.one ovb_2) (RdF.one ovo_2) (RdF.one ovt_2) ?_
        intro g22_74 w74 hg74 k74 h74
        have geg22_74 := Nat.le_trans low3.ge hg74
        have ovb_74 := ovb_2.low h74
        have ovo_74 := ovo_2.low h74
        have ovt_74 := ovt_2.low h74
        have og22_74_74 := rdFF3 k74 ovb_74 ovo_74 ovt_74
        refine l_call (fun v w' => v = .bool true ∧ Low w74 w') rfl rfl rfl Tryd.func6 rfl (args1 rfl (At.hit z3.put.put.put rfl).ev) (((calls_bool (May.calls _ _ ([lb, lo, lt]) (by simp) _ og22_74_74) hb4)).mono fun _ _ ⟨e, k⟩ => ⟨_, e, rfl, k⟩) ?_
        rintro _ w75 ⟨rfl, h75⟩
        have kg22_74_75 := h75.blk k74
        have ovb_75 := ovb_74.low h75
        have ovo_75 := ovo_74.low h75
        have ovt_75 := ovt_74.low h75
        have oL74_75 := og22_74_74.low h75
        refine l_q rfl (q_not (b := true) rfl (At.hit z3.put.put.put.put rfl).ev ?_)
        refine l_q rfl (q_move _ _ rfl (At.hit z3.put.put.put.put.put rfl).ev ?_)
        refine l_qg (wanted_is (j := 6) (d := 25) (b := false) rfl rfl (At.hit z3.put.put.put.put.put.put rfl) rfl) (q_move _ _ rfl (((((((s1_3.ne rfl).ne rfl).ne rfl).ne rfl).ne rfl).ne rfl).ne rfl).ev ?_)
        refine l_fresh z3.put.put.put.put.put.put.put.put ?_
        intro a76 z76 m76
        have s0_76 := m76 _ _ ((((((((s0_3.ne rfl).ne rfl).ne rfl).ne rfl).ne rfl).ne rfl).ne rfl).ne rfl)
        have s1_76 := m76 _ _ ((((((((s1_3.ne rfl).ne rfl).ne rfl).ne rfl).ne rfl).ne rfl).ne rfl).ne rfl)
        have s2_76 := m76 _ _ ((((((((s2_3.ne rfl).ne rfl).ne rfl).ne rfl).ne rfl).ne rfl).ne rfl).ne rfl)
        have s25_76 := m76 _ _ ((At.hit z3.put.put.put.put.put.put rfl).ne rfl)
        have s26_76 := m76 _ _ (At.hit z3.put.put.put.put.put.put.put rfl)
        clear m76
        refine l_callg (fun v w' => v = .bool true ∧ Low w75 w') (wanted_is (j := 6) (d := 25) (b := false) rfl rfl s25_76 rfl) rfl rfl Tryd.func7 rfl (args1 rfl s26_76.ev) (((calls_bool (Right.calls _ lo (Nat.le_trans (okRow (may3 hb4).2.1).2.2.1 (by decide)) (okRow (may3 hb4).2.1).2.1 _ ovo_75 (Gd.low hG ((low3.trans h74).trans h75))) hb5)).mono fun _ _ ⟨e, k⟩ => ⟨_, e, rfl, k⟩) ?_
        rintro _ w77 ⟨rfl, h77⟩
        have kg22_74_77 := h77.blk kg22_74_75
        have ovb_77 := ovb_75.low h77
        have ovo_77 := ovo_75.low h77
        have ovt_77 := ovt_75.low h77
        have oL74_77 := oL74_75.low h77
        refine l_qg (wanted_is (j := 6) (d := 25) (b := false) rfl rfl (s25_76.ne rfl) rfl) (q_not (b := true) rfl (At.hit z76 rfl).ev ?_)
        refine l_q rfl (q_pick (b := false) (.bool false) rfl ((s25_76.ne rfl).ne rfl).ev (At.hit z76.put rfl).ev ?_)
        refine l_q rfl (q_move _ _ rfl (At.hit z76.put.put rfl).ev ?_)
        refine l_qg (wanted_is (j := 11) (d := 30) (b := false) rfl rfl (At.hit z76.put.put.put rfl) rfl) (q_move _ _ rfl ((((s2_76.ne rfl).ne rfl).ne rfl).ne rfl).ev ?_)
        refine l_callg (fun v w' => v = .bool false ∧ Low w77 w') (wanted_is (j := 11) (d := 30) (b := false) rfl rfl ((At.hit z76.put.put.put rfl).ne rfl) rfl) rfl rfl Tryd.func7 rfl (args1 rfl (At.hit z76.put.put.put.put rfl).ev) (((calls_bool (Right.calls _ lt (Nat.le_trans (okRow (may3 hb4).2.2).2.2.1 (by decide)) (okRow (may3 hb4).2.2).2.1 _ ovt_77 (Gd.low hG (((low3.trans h74).trans h75).trans h77))) (eq_false_of_ne_true hb6))).mono fun _ _ ⟨e, k⟩ => ⟨_, e, rfl, k⟩) ?_
        rintro _ w78 ⟨rfl, h78⟩
        have kg22_74_78 := h78.blk kg22_74_77
        have ovb_78 := ovb_77.low h78
        have ovo_78 := ovo_77.low h78
        have ovt_78 := ovt_77.low h78
        have oL74_78 := oL74_77.low h78
        refine l_qg (wanted_is (j := 11) (d := 30) (b := false) rfl rfl (((At.hit z76.put.put.put rfl).ne rfl).ne rfl) rfl) (q_not (b := false) rfl (At.hit z76.put.put.put.put.put rfl).ev ?_)
        refine l_q rfl (q_pick (b := false) (.bool true) rfl ((((At.hit z76.put.put.put rfl).ne rfl).ne rfl).ne rfl).ev (At.hit z76.put.put.put.put.put.put rfl).ev ?_)
        refine l_fresh z76.put.put.put.put.put.put.put.put ?_
        intro a79 z79 m79
        have s0_79 := m79 _ _ ((((((((s0_76.ne rfl).ne rfl).ne rfl).ne rfl).ne rfl).ne rfl).ne rfl).ne rfl)
        have s1_79 := m79 _ _ ((((((((s1_76.ne rfl).ne rfl).ne rfl).ne rfl).ne rfl).ne rfl).ne rfl).ne rfl)
        have s2_79 := m79 _ _ ((((((((s2_76.ne rfl).ne rfl).ne rfl).ne rfl).ne rfl).ne rfl).ne rfl).ne rfl)
        have s34_79 := m79 _ _ (At.hit z76.put.put.put.put.put.put.put rfl)
        clear m79
        refine l_q rfl (q_move _ _ rfl s34_79.ev ?_)
        refine l_skip (wanted_is (j := 16) (d := 35) (b := true) rfl rfl (At.hit z79 rfl) rfl) ?_
        refine l_skip (wanted_is (j := 16) (d := 35) (b := true) rfl rfl ((At.hit z79 rfl).ne rfl) rfl) ?_
        refine l_skip (wanted_is (j := 16) (d := 35) (b := true) rfl rfl (((At.hit z79 rfl).ne rfl).ne rfl) rfl) ?_
        refine l_q rfl (q_pick (b := true) (.bool true) rfl ((((At.hit z79 rfl).ne rfl).ne rfl).ne rfl).ev rfl ?_)
        refine l_end ?_
        refine e_fresh z79.put.put.put.put.put ?_
        intro a80 z80 m80
        have s0_80 := m80 _ _ (((((s0_79.ne rfl).ne rfl).ne rfl).ne rfl).ne rfl)
        have s1_80 := m80 _ _ (((((s1_79.ne rfl).ne rfl).ne rfl).ne rfl).ne rfl)
        have s2_80 := m80 _ _ (((((s2_79.ne rfl).ne rfl).ne rfl).ne rfl).ne rfl)
        have s39_80 := m80 _ _ (At.hit z79.put.put.put.put rfl)
        have low80 := ((((low3.trans h74).trans h75).trans h77).trans h78)
        clear m80
        refine e_then ?_
        refine c_true s39_80 ?_
        refine c_seq ?_
        refine c_region ?_
        refine l_q rfl (q_assign _ _ rfl rfl ?_)
        refine l_end ?_
        refine e_fresh z80.put ?_
        intro a81 z81 m81
        have s6_81 := m81 _ _ (At.hit z80 rfl)
        clear m81
        refine e_then ?_
        refine wp_ret ?_
        refine ret_then ?_
        refine r_tmp rfl z81.defers s6_81 ?_
        exact ⟨rfl, low80⟩
    · skip
      refine c_region ?_
      refine l_q rfl (q_move _ _ rfl s0_3.ev ?_)
      refine l_q rfl (q_move _ _ rfl (s1_3.ne rfl).ev ?_)
      refine l_q rfl (q_move _ _ rfl ((s2_3.ne rfl).ne rfl).ev ?_)
      refine l_lit3 rfl rfl Tryd.underlying35 rec22 (((At.hit z3 rfl).ne rfl).ne rfl).ev ((At.hit z3.put rfl).ne rfl).ev (At.hit z3.put.put rfl).ev (RdF.one ovb_2) (RdF.one ovo_2) (RdF.one ovt_2) ?_
      intro g22_82 w82 hg82 k82 h82
      have geg22_82 := Nat.le_trans low3.ge hg82
      have ovb_82 := ovb_2.low h82
      have ovo_82 := ovo_2.low h82
      have ovt_82 := ovt_2.low h82
      have og22_82_82 := rdFF3 k82 ovb_82 ovo_82 ovt_82
      refine l_call (fun v w' => v = .bool true ∧ Low w82 w') rfl rfl rfl Tryd.func6 rfl (args1 rfl (At.hit z3.put.put.put rfl).ev) (((calls_bool (May.calls _ _ ([lb, lo, lt]) (by simp) _ og22_82_82) hb4)).mono fun _ _ ⟨e, k⟩ => ⟨_, e, rfl, k⟩) ?_
      rintro _ w83 ⟨rfl, h83⟩
      have kg22_82_83 := h83.blk k82
      have ovb_83 := ovb_82.low h83
      have ovo_83 := ovo_82.low h83
      have ovt_83 := ovt_82.low h83
      have oL82_83 := og22_82_82.low h83
      refine l_q rfl (q_not (b := true) rfl (At.hit z3.put.put.put.put rfl).ev ?_)
      refine l_q rfl (q_move _ _ rfl (At.hit z3.put.put.put.put.put rfl).ev ?_)
      refine l_qg (wanted_is (j := 6) (d := 25) (b := false) rfl rfl (At.hit z3.put.put.put.put.put.put rfl) rfl) (q_move _ _ rfl (((((((s1_3.ne rfl).ne rfl).ne rfl).ne rfl).ne rfl).ne rfl).ne rfl).ev ?_)
      refine l_fresh z3.put.put.put.put.put.put.put.put ?_
      intro a84 z84 m84
      have s0_84 := m84 _ _ ((((((((s0_3.ne rfl).ne rfl).ne rfl).ne rfl).ne rfl).ne rfl).ne rfl).ne rfl)
      have s1_84 := m84 _ _ ((((((((s1_3.ne rfl).ne rfl).ne rfl).ne rfl).ne rfl).ne rfl).ne rfl).ne rfl)
      have s2_84 := m84 _ _ ((((((((s2_3.ne rfl).ne rfl).ne rfl).ne rfl).ne rfl).ne rfl).ne rfl).ne rfl)
      have s25_84 := m84 _ _ ((At.hit z3.put.put.put.put.put.put rfl).ne rfl)
      have s26_84 := m84 _ _ (At.hit z3.put.put.put.put.put.put.put rfl)
      clear m84
      refine l_callg (fun v w' => v = .bool false ∧ Low w83 w') (wanted_is (j := 6) (d := 25) (b := false) rfl rfl s25_84 rfl) rfl rfl Tryd.func7 rfl (args1 rfl s26_84.ev) (((calls_bool (Right.calls _ lo (Nat.le_trans (okRow (may3 hb4).2.1).2.2.1 (by decide)) (okRow (may3 hb4).2.1).2.1 _ ovo_83 (Gd.low hG ((low3.trans h82).trans h83))) (eq_false_of_ne_true hb5))).mono fun _ _ ⟨e, k⟩ => ⟨_, e, rfl, k⟩) ?_
      rintro _ w85 ⟨rfl, h85⟩
      have kg22_82_85 := h85.blk kg22_82_83
      have ovb_85 := ovb_83.low h85
      have ovo_85 := ovo_83.low h85
      have ovt_85 := ovt_83.low h85
      have oL82_85 := oL82_83.low h85
      refine l_qg (wanted_is (j := 6) (d := 25) (b := false) rfl rfl (s25_84.ne rfl) rfl) (q_not (b := false) rfl (At.hit z84 rfl).ev ?_)
      refine l_q rfl (q_pick (b := false) (.bool true) rfl ((s25_84.ne rfl).ne rfl).ev (At.hit z84.put rfl).ev ?_)
      refine l_q rfl (q_move _ _ rfl (At.hit z84.put.put rfl).ev ?_)
      refine l_skip (wanted_is (j := 11) (d := 30) (b := true) rfl rfl (At.hit z84.put.put.put rfl) rfl) ?_
      refine l_skip (wanted_is (j := 11) (d := 30) (b := true) rfl rfl ((At.hit z84.put.put.put rfl).ne rfl) rfl) ?_
      refine l_skip (wanted_is (j := 11) (d := 30) (b := true) rfl rfl (((At.hit z84.put.put.put rfl).ne rfl).ne rfl) rfl) ?_
      refine l_q rfl (q_pick (b := true) (.bool true) rfl ((((At.hit z84.put.put.put rfl).ne rfl).ne rfl).ne rfl).ev rfl ?_)
      refine l_fresh z84.put.put.put.put.put.put.put.put ?_
      intro a86 z86 m86
      have s0_86 := m86 _ _ ((((((((s0_84.ne rfl).ne rfl).ne rfl).ne rfl).ne rfl).ne rfl).ne rfl).ne rfl)
      have s1_86 := m86 _ _ ((((((((s1_84.ne rfl).ne rfl).ne rfl).ne rfl).ne rfl).ne rfl).ne rfl).ne rfl)
      have s2_86 := m86 _ _ ((((((((s2_84.ne rfl).ne rfl).ne rfl).ne rfl).ne rfl).ne rfl).ne rfl).ne rfl)
      have s34_86 := m86 _ _ (At.hit z84.put.put.put.put.put.put.put rfl)
      clear m86
      refine l_q rfl (q_move _ _ rfl s34_86.ev ?_)
      refine l_skip (wanted_is (j := 16) (d := 35) (b := true) rfl rfl (At.hit z86 rfl) rfl) ?_
      refine l_skip (wanted_is (j := 16) (d := 35) (b := true) rfl rfl ((At.hit z86 rfl).ne rfl) rfl) ?_
      refine l_skip (wanted_is (j := 16) (d := 35) (b := true) rfl rfl (((At.hit z86 rfl).ne rfl).ne rfl) rfl) ?_
      refine l_q rfl (q_pick (b := true) (.bool true) rfl ((((At.hit z86 rfl).ne rfl).ne rfl).ne rfl).ev rfl ?_)
      refine l_end ?_
      refine e_fresh z86.put.put.put.put.put ?_
      intro a87 z87 m87
      have s0_87 := m87 _ _ (((((s0_86.ne rfl).ne rfl).ne rfl).ne rfl).ne rfl)
      have s1_87 := m87 _ _ (((((s1_86.ne rfl).ne rfl).ne rfl).ne rfl).ne rfl)
      have s2_87 := m87 _ _ (((((s2_86.ne rfl).ne rfl).ne rfl).ne rfl).ne rfl)
      have s39_87 := m87 _ _ (At.hit z86.put.put.put.put rfl)
      have low87 := (((low3.trans h82).trans h83).trans h85)
      clear m87
      refine e_then ?_
      refine c_true s39_87 ?_
      refine c_seq ?_
      refine c_region ?_
      refine l_q rfl (q_assign _ _ rfl rfl ?_)
      refine l_end ?_
      refine e_fresh z87.put ?_
      intro a88 z88 m88
      have s6_88 := m88 _ _ (At.hit z87 rfl)
      clear m88
      refine e_then ?_
      refine wp_ret ?_
      refine ret_then ?_
      refine r_tmp rfl z88.defers s6_88 ?_
      exact ⟨rfl, low87⟩
  · skip
    refine c_region ?_
    refine l_q rfl (q_move _ _ rfl s0_3.ev ?_)
    refine l_q rfl (q_move _ _ rfl (s1_3.ne rfl).ev ?_)
    refine l_q rfl (q_move _ _ rfl ((s2_3.ne rfl).ne rfl).ev ?_)
    refine l_lit3 rfl rfl Tryd.underlying35 rec22 (((At.hit z3 rfl).ne rfl).ne rfl).ev ((At.hit z3.put rfl).ne rfl).ev (At.hit z3.put.put rfl).ev (RdF.one ovb_2) (RdF.one ovo_2) (RdF.one ovt_2) ?_
    intro g22_89 w89 hg89 k89 h89
    have geg22_89 := Nat.le_trans low3.ge hg89
    have ovb_89 := ovb_2.low h89
    have ovo_89 := ovo_2.low h89
    have ovt_89 := ovt_2.low h89
    have og22_89_89 := rdFF3 k89 ovb_89 ovo_89 ovt_89
    refine l_call (fun v w' => v = .bool false ∧ Low w89 w') rfl rfl rfl Tryd.func6 rfl (args1 rfl (At.hit z3.put.put.put rfl).ev) (((calls_bool (May.calls _ _ ([lb, lo, lt]) (by simp) _ og22_89_89) (eq_false_of_ne_true hb4))).mono fun _ _ ⟨e, k⟩ => ⟨_, e, rfl, k⟩) ?_
    rintro _ w90 ⟨rfl, h90⟩
    have kg22_89_90 := h90.blk k89
    have ovb_90 := ovb_89.low h90
    have ovo_90 := ovo_89.low h90
    have ovt_90 := ovt_89.low h90
    have oL89_90 := og22_89_89.low h90
    refine l_q rfl (q_not (b := false) rfl (At.hit z3.put.put.put.put rfl).ev ?_)
    refine l_q rfl (q_move _ _ rfl (At.hit z3.put.put.put.put.put rfl).ev ?_)
    refine l_skip (wanted_is (j := 6) (d := 25) (b := true) rfl rfl (At.hit z3.put.put.put.put.put.put rfl) rfl) ?_
    refine l_fresh z3.put.put.put.put.put.put.put.put ?_
    intro a91 z91 m91
    have s0_91 := m91 _ _ ((((((((s0_3.ne rfl).ne rfl).ne rfl).ne rfl).ne rfl).ne rfl).ne rfl).ne rfl)
    have s1_91 := m91 _ _ ((((((((s1_3.ne rfl).ne rfl).ne rfl).ne rfl).ne rfl).ne rfl).ne rfl).ne rfl)
    have s2_91 := m91 _ _ ((((((((s2_3.ne rfl).ne rfl).ne rfl).ne rfl).ne rfl).ne rfl).ne rfl).ne rfl)
    have s25_91 := m91 _ _ ((At.hit z3.put.put.put.put.put.put rfl).ne rfl)
    have s26_91 := m91 _ _ (At.hit z3.put.put.put.put.put.put.put rfl)
    clear m91
    refine l_skip (wanted_is (j := 6) (d := 25) (b := true) rfl rfl s25_91 rfl) ?_
    refine l_skip (wanted_is (j := 6) (d := 25) (b := true) rfl rfl (s25_91.ne rfl) rfl) ?_
    refine l_q rfl (q_pick (b := true) (.bool true) rfl ((s25_91.ne rfl).ne rfl).ev rfl ?_)
    refine l_q rfl (q_move _ _ rfl (At.hit z91.put.put rfl).ev ?_)
    refine l_skip (wanted_is (j := 11) (d := 30) (b := true) rfl rfl (At.hit z91.put.put.put rfl) rfl) ?_
    refine l_skip (wanted_is (j := 11) (d := 30) (b := true) rfl rfl ((At.hit z91.put.put.put rfl).ne rfl) rfl) ?_
    refine l_skip (wanted_is (j := 11) (d := 30) (b := true) rfl rfl (((At.hit z91.put.put.put rfl).ne rfl).ne rfl) rfl) ?_
    refine l_q rfl (q_pick (b := true) (.bool true) rfl ((((At.hit z91.put.put.put rfl).ne rfl).ne rfl).ne rfl).ev rfl ?_)
    refine l_fresh z91.put.put.put.put.put.put.put.put ?_
    intro a92 z92 m92
    have s0_92 := m92 _ _ ((((((((s0_91.ne rfl).ne rfl).ne rfl).ne rfl).ne rfl).ne rfl).ne rfl).ne rfl)
    have s1_92 := m92 _ _ ((((((((s1_91.ne rfl).ne rfl).ne rfl).ne rfl).ne rfl).ne rfl).ne rfl).ne rfl)
    have s2_92 := m92 _ _ ((((((((s2_91.ne rfl).ne rfl).ne rfl).ne rfl).ne rfl).ne rfl).ne rfl).ne rfl)
    have s34_92 := m92 _ _ (At.hit z91.put.put.put.put.put.put.put rfl)
    clear m92
    refine l_q rfl (q_move _ _ rfl s34_92.ev ?_)
    refine l_skip (wanted_is (j := 16) (d := 35) (b := true) rfl rfl (At.hit z92 rfl) rfl) ?_
    refine l_skip (wanted_is (j := 16) (d := 35) (b := true) rfl rfl ((At.hit z92 rfl).ne rfl) rfl) ?_
    refine l_skip (wanted_is (j := 16) (d := 35) (b := true) rfl rfl (((At.hit z92 rfl).ne rfl).ne rfl) rfl) ?_
    refine l_q rfl (q_pick (b := true) (.bool true) rfl ((((At.hit z92 rfl).ne rfl).ne rfl).ne rfl).ev rfl ?_)
    refine l_end ?_
    refine e_fresh z92.put.put.put.put.put ?_
    intro a93 z93 m93
    have s0_93 := m93 _ _ (((((s0_92.ne rfl).ne rfl).ne rfl).ne rfl).ne rfl)
    have s1_93 := m93 _ _ (((((s1_92.ne rfl).ne rfl).ne rfl).ne rfl).ne rfl)
    have s2_93 := m93 _ _ (((((s2_92.ne rfl).ne rfl).ne rfl).ne rfl).ne rfl)
    have s39_93 := m93 _ _ (At.hit z92.put.put.put.put rfl)
    have low93 := ((low3.trans h89).trans h90)
    clear m93
    refine e_then ?_
    refine c_true s39_93 ?_
    refine c_seq ?_
    refine c_region ?_
    refine l_q rfl (q_assign _ _ rfl rfl ?_)
    refine l_end ?_
    refine e_fresh z93.put ?_
    intro a94 z94 m94
    have s6_94 := m94 _ _ (At.hit z93 rfl)
    clear m94
    refine e_then ?_
    refine wp_ret ?_
    refine ret_then ?_
    refine r_tmp rfl z94.defers s6_94 ?_
    exact ⟨rfl, low93⟩
theorem MergeAgain.calls (vb vo vt : Value) (lb lo lt : List LfL) (w0 : World) (hvb : RdF w0 3 vb lb.length (lb.map encL).flatten) (hvo : RdF w0 3 vo lo.length (lo.map encL).flatten) (hvt : RdF w0 3 vt lt.length (lt.map encL).flatten) (hG : Gd w0) : Calls Tryd.prog 4 #[vb, vo, vt] w0 fun e w' => e = .returned (.bool true) ∧ Low w0 w' := by
  refine c_fun (R := _) Tryd.func4 rfl 117 rfl (Nat.le_of_ble_eq_true rfl) ?_
  intro a z hA
  have s0 := hA 0 _ rfl
  have s1 := hA 1 _ rfl
  have s2 := hA 2 _ rfl
  clear hA
  refine c_seq ?_
  refine c_region ?_
  refine l_q rfl (q_assign _ _ rfl rfl ?_)
  refine l_end ?_
  refine e_fresh z.put ?_
  intro a1 z1 m1
  have s0_1 := m1 _ _ (s0.ne rfl)
  have s1_1 := m1 _ _ (s1.ne rfl)
  have s2_1 := m1 _ _ (s2.ne rfl)
  clear m1
  refine e_then ?_
  refine c_seq ?_
  refine c_seq ?_
  refine c_region ?_
  refine l_call (fun v w' => v = .bool true ∧ Low w0 w') rfl rfl rfl Tryd.func5 rfl (show Array.map _ _ = (#[] : Array Value) from by simp) ((Awake.calls _).mono fun _ _ ⟨e, k⟩ => ⟨_, e, rfl, k⟩) ?_
  rintro _ w2 ⟨rfl, h2⟩
  have ovb_2 := hvb.low h2
  have ovo_2 := hvo.low h2
  have ovt_2 := hvt.low h2
  refine l_q rfl (q_not (b := true) rfl (At.hit z1 rfl).ev ?_)
  refine l_end ?_
  refine e_fresh z1.put.put ?_
  intro a3 z3 m3
  have s0_3 := m3 _ _ ((s0_1.ne rfl).ne rfl)
  have s1_3 := m3 _ _ ((s1_1.ne rfl).ne rfl)
  have s2_3 := m3 _ _ ((s2_1.ne rfl).ne rfl)
  have s19_3 := m3 _ _ (At.hit z1.put rfl)
  have low3 := h2
  clear m3
  refine e_then ?_
  refine c_false s19_3 ?_
  refine wp_skip ?_
  refine e_then ?_
  refine c_seq ?_
  refine c_seq ?_
  by_cases hb4 : mayB [lb, lo, lt] = true
  · skip
    by_cases hb5 : rightB lb = true
    · skip
      by_cases hb6 : rightB lo = true
      · skip
        by_cases hb7 : rightB lt = true
        · skip
          refine c_region ?_
          refine l_q rfl (q_move _ _ rfl s0_3.ev ?_)
          refine l_q rfl (q_move _ _ rfl (s1_3.ne rfl).ev ?_)
          refine l_q rfl (q_move _ _ rfl ((s2_3.ne rfl).ne rfl).ev ?_)
          refine l_lit3 rfl rfl Tryd.underlying35 rec22 (((At.hit z3 rfl).ne rfl).ne rfl).ev ((At.hit z3.put rfl).ne rfl).ev (At.hit z3.put.put rfl).ev (RdF.one ovb_2) (RdF.one ovo_2) (RdF.one ovt_2) ?_
          intro g23_8 w8 hg8 k8 h8
          have geg23_8 := Nat.le_trans low3.ge hg8
          have ovb_8 := ovb_2.low h8
          have ovo_8 := ovo_2.low h8
          have ovt_8 := ovt_2.low h8
          have og23_8_8 := rdFF3 k8 ovb_8 ovo_8 ovt_8
          refine l_call (fun v w' => v = .bool true ∧ Low w8 w') rfl rfl rfl Tryd.func6 rfl (args1 rfl (At.hit z3.put.put.put rfl).ev) (((calls_bool (May.calls _ _ ([lb, lo, lt]) (by simp) _ og23_8_8) hb4)).mono fun _ _ ⟨e, k⟩ => ⟨_, e, rfl, k⟩) ?_
          rintro _ w9 ⟨rfl, h9⟩
          have kg23_8_9 := h9.blk k8
          have ovb_9 := ovb_8.low h9
          have ovo_9 := ovo_8.low h9
          have ovt_9 := ovt_8.low h9
          have oL8_9 := og23_8_8.low h9
          refine l_q rfl (q_not (b := true) rfl (At.hit z3.put.put.put.put rfl).ev ?_)
          refine l_q rfl (q_move _ _ rfl (At.hit z3.put.put.put.put.put rfl).ev ?_)
          refine l_qg (wanted_is (j := 6) (d := 26) (b := false) rfl rfl (At.hit z3.put.put.put.put.put.put rfl) rfl) (q_move _ _ rfl (((((((s0_3.ne rfl).ne rfl).ne rfl).ne rfl).ne rfl).ne rfl).ne rfl).ev ?_)
          refine l_fresh z3.put.put.put.put.put.put.put.put ?_
          intro a10 z10 m10
          have s0_10 := m10 _ _ ((((((((s0_3.ne rfl).ne rfl).ne rfl).ne rfl).ne rfl).ne rfl).ne rfl).ne rfl)
          have s1_10 := m10 _ _ ((((((((s1_3.ne rfl).ne rfl).ne rfl).ne rfl).ne rfl).ne rfl).ne rfl).ne rfl)
          have s2_10 := m10 _ _ ((((((((s2_3.ne rfl).ne rfl).ne rfl).ne rfl).ne rfl).ne rfl).ne rfl).ne rfl)
          have s26_10 := m10 _ _ ((At.hit z3.put.put.put.put.put.put rfl).ne rfl)
          have s27_10 := m10 _ _ (At.hit z3.put.put.put.put.put.put.put rfl)
          clear m10
          refine l_callg (fun v w' => v = .bool true ∧ Low w9 w') (wanted_is (j := 6) (d := 26) (b := false) rfl rfl s26_10 rfl) rfl rfl Tryd.func7 rfl (args1 rfl s27_10.ev) (((calls_bool (Right.calls _ lb (Nat.le_trans (okRow (may3 hb4).1).2.2.1 (by decide)) (okRow (may3 hb4).1).2.1 _ ovb_9 (Gd.low hG ((low3.trans h8).trans h9))) hb5)).mono fun _ _ ⟨e, k⟩ => ⟨_, e, rfl, k⟩) ?_
          rintro _ w11 ⟨rfl, h11⟩
          have kg23_8_11 := h11.blk kg23_8_9
          have ovb_11 := ovb_9.low h11
          have ovo_11 := ovo_9.low h11
          have ovt_11 := ovt_9.low h11
          have oL8_11 := oL8_9.low h11
          refine l_qg (wanted_is (j := 6) (d := 26) (b := false) rfl rfl (s26_10.ne rfl) rfl) (q_not (b := true) rfl (At.hit z10 rfl).ev ?_)
          refine l_q rfl (q_pick (b := false) (.bool false) rfl ((s26_10.ne rfl).ne rfl).ev (At.hit z10.put rfl).ev ?_)
          refine l_q rfl (q_move _ _ rfl (At.hit z10.put.put rfl).ev ?_)
          refine l_qg (wanted_is (j := 11) (d := 31) (b := false) rfl rfl (At.hit z10.put.put.put rfl) rfl) (q_move _ _ rfl ((((s1_10.ne rfl).ne rfl).ne rfl).ne rfl).ev ?_)
          refine l_callg (fun v w' => v = .bool true ∧ Low w11 w') (wanted_is (j := 11) (d := 31) (b := false) rfl rfl ((At.hit z10.put.put.put rfl).ne rfl) rfl) rfl rfl Tryd.func7 rfl (args1 rfl (At.hit z10.put.put.put.put rfl).ev) (((calls_bool (Right.calls _ lo (Nat.le_trans (okRow (may3 hb4).2.1).2.2.1 (by decide)) (okRow (may3 hb4).2.1).2.1 _ ovo_11 (Gd.low hG (((low3.trans h8).trans h9).trans h11))) hb6)).mono fun _ _ ⟨e, k⟩ => ⟨_, e, rfl, k⟩) ?_
          rintro _ w12 ⟨rfl, h12⟩
          have kg23_8_12 := h12.blk kg23_8_11
          have ovb_12 := ovb_11.low h12
          have ovo_12 := ovo_11.low h12
          have ovt_12 := ovt_11.low h12
          have oL8_12 := oL8_11.low h12
          refine l_qg (wanted_is (j := 11) (d := 31) (b := false) rfl rfl (((At.hit z10.put.put.put rfl).ne rfl).ne rfl) rfl) (q_not (b := true) rfl (At.hit z10.put.put.put.put.put rfl).ev ?_)
          refine l_q rfl (q_pick (b := false) (.bool false) rfl ((((At.hit z10.put.put.put rfl).ne rfl).ne rfl).ne rfl).ev (At.hit z10.put.put.put.put.put.put rfl).ev ?_)
          refine l_fresh z10.put.put.put.put.put.put.put.put ?_
          intro a13 z13 m13
          have s0_13 := m13 _ _ ((((((((s0_10.ne rfl).ne rfl).ne rfl).ne rfl).ne rfl).ne rfl).ne rfl).ne rfl)
          have s1_13 := m13 _ _ ((((((((s1_10.ne rfl).ne rfl).ne rfl).ne rfl).ne rfl).ne rfl).ne rfl).ne rfl)
          have s2_13 := m13 _ _ ((((((((s2_10.ne rfl).ne rfl).ne rfl).ne rfl).ne rfl).ne rfl).ne rfl).ne rfl)
          have s35_13 := m13 _ _ (At.hit z10.put.put.put.put.put.put.put rfl)
          clear m13
          refine l_q rfl (q_move _ _ rfl s35_13.ev ?_)
          refine l_qg (wanted_is (j := 16) (d := 36) (b := false) rfl rfl (At.hit z13 rfl) rfl) (q_move _ _ rfl (s2_13.ne rfl).ev ?_)
          refine l_callg (fun v w' => v = .bool true ∧ Low w12 w') (wanted_is (j := 16) (d := 36) (b := false) rfl rfl ((At.hit z13 rfl).ne rfl) rfl) rfl rfl Tryd.func7 rfl (args1 rfl (At.hit z13.put rfl).ev) (((calls_bool (Right.calls _ lt (Nat.le_trans (okRow (may3 hb4).2.2).2.2.1 (by decide)) (okRow (may3 hb4).2.2).2.1 _ ovt_12 (Gd.low hG ((((low3.trans h8).trans h9).trans h11).trans h12))) hb7)).mono fun _ _ ⟨e, k⟩ => ⟨_, e, rfl, k⟩) ?_
          rintro _ w14 ⟨rfl, h14⟩
          have kg23_8_14 := h14.blk kg23_8_12
          have ovb_14 := ovb_12.low h14
          have ovo_14 := ovo_12.low h14
          have ovt_14 := ovt_12.low h14
          have oL8_14 := oL8_12.low h14
          refine l_qg (wanted_is (j := 16) (d := 36) (b := false) rfl rfl (((At.hit z13 rfl).ne rfl).ne rfl) rfl) (q_not (b := true) rfl (At.hit z13.put.put rfl).ev ?_)
          refine l_q rfl (q_pick (b := false) (.bool false) rfl ((((At.hit z13 rfl).ne rfl).ne rfl).ne rfl).ev (At.hit z13.put.put.put rfl).ev ?_)
          refine l_end ?_
          refine e_fresh z13.put.put.put.put.put ?_
          intro a15 z15 m15
          have s0_15 := m15 _ _ (((((s0_13.ne rfl).ne rfl).ne rfl).ne rfl).ne rfl)
          have s1_15 := m15 _ _ (((((s1_13.ne rfl).ne rfl).ne rfl).ne rfl).ne rfl)
          have s2_15 := m15 _ _ (((((s2_13.ne rfl).ne rfl).ne rfl).ne rfl).ne rfl)
          have s40_15 := m15 _ _ (At.hit z13.put.put.put.put rfl)
          have low15 := (((((low3.trans h8).trans h9).trans h11).trans h12).trans h14)
          clear m15
          refine e_then ?_
          refine c_false s40_15 ?_
          refine wp_skip ?_
          refine e_then ?_
          refine c_seq ?_
          obtain ⟨kb, ko, kt⟩ := may3 hb4
          obtain ⟨rb, sb, lnb, nb⟩ := okRow kb
          obtain ⟨ro, so, lno, no⟩ := okRow ko
          obtain ⟨rt, st, lnt, nt⟩ := okRow kt
          have ab := right_apart hb5
          have ao := right_apart hb6
          have at' := right_apart hb7
          have hnil : ([] : List ByteArray).length = 0 := rfl
          have hpllo := paths_len lb lo lt
          have hollo : (outF lb lo lt).length ≤ 180 := by rw [← out_end]; exact out_len lb lo lt _ _ 180 (by omega)
          have hbflo : (badF lb lo lt).length ≤ 180 := by rw [← bad_end]; exact bad_len lb lo lt _ _ 180 (by omega)
          have hbllo := badA_len lb lo lt
          refine c_region ?_
          refine l_q rfl (q_move _ _ rfl s0_15.ev ?_)
          refine l_q rfl (q_move _ _ rfl (s1_15.ne rfl).ev ?_)
          refine l_q rfl (q_move _ _ rfl ((s2_15.ne rfl).ne rfl).ev ?_)
          refine l_call _ rfl rfl rfl Tryd.func8 rfl (args3 rfl (((At.hit z15 rfl).ne rfl).ne rfl).ev ((At.hit z15.put rfl).ne rfl).ev (At.hit z15.put.put rfl).ev) (Three.calls _ _ _ lb lo lt (by omega) (by omega) (by omega) so st _ ovb_14 ovo_14 ovt_14) ?_
          rintro _ w16 ⟨p16, q16, rfl, o16, oo16, h16⟩
          replace o16 := o16.base low15.ge
          replace oo16 := oo16.base low15.ge
          have ovb_16 := ovb_14.low h16
          have ovo_16 := ovo_14.low h16
          have ovt_16 := ovt_14.low h16
          refine l_q rfl (q_move _ _ rfl (At.hit z15.put.put.put rfl).ev ?_)
          refine l_q rfl (q_extract rfl (At.hit z15.put.put.put.put rfl).ev rfl ?_)
          refine l_q rfl (q_extract rfl ((At.hit z15.put.put.put.put rfl).ne rfl).ev rfl ?_)
          refine l_q rfl (q_assign _ _ rfl ((At.hit z15.put.put.put.put.put rfl).ne rfl).ev ?_)
          refine l_fresh z15.put.put.put.put.put.put.put.put ?_
          intro a17 z17 m17
          have s0_17 := m17 _ _ ((((((((s0_15.ne rfl).ne rfl).ne rfl).ne rfl).ne rfl).ne rfl).ne rfl).ne rfl)
          have s1_17 := m17 _ _ ((((((((s1_15.ne rfl).ne rfl).ne rfl).ne rfl).ne rfl).ne rfl).ne rfl).ne rfl)
          have s2_17 := m17 _ _ ((((((((s2_15.ne rfl).ne rfl).ne rfl).ne rfl).ne rfl).ne rfl).ne rfl).ne rfl)
          have s7_17 := m17 _ _ (At.hit z15.put.put.put.put.put.put.put rfl)
          have s47_17 := m17 _ _ ((At.hit z15.put.put.put.put.put.put rfl).ne rfl)
          clear m17
          refine l_q rfl (q_assign _ _ rfl s47_17.ev ?_)
          refine l_end ?_
          refine e_fresh z17.put ?_
          intro a18 z18 m18
          have s0_18 := m18 _ _ (s0_17.ne rfl)
          have s1_18 := m18 _ _ (s1_17.ne rfl)
          have s2_18 := m18 _ _ (s2_17.ne rfl)
          have s7_18 := m18 _ _ (s7_17.ne rfl)
          have s8_18 := m18 _ _ (At.hit z17 rfl)
          have low18 := (low15.trans h16)
          clear m18
          refine e_then ?_
          refine c_seq ?_
          refine c_seq ?_
          by_cases hb19 : ¬ badA lb lo lt = []
          · skip
            refine c_region ?_
            refine l_q rfl (q_move _ _ rfl s8_18.ev ?_)
            refine l_q rfl (q_lenF rfl rfl Tryd.underlying26 (At.hit z18 rfl).ev oo16.rd ?_)
            refine l_q rfl (q_gtr true rfl (At.hit z18.put rfl).ev rfl (decide_eq_true (by have := List.length_pos_iff.2 hb19; omega)) ?_)
            refine l_end ?_
            refine e_fresh z18.put.put.put ?_
            intro a20 z20 m20
            have s0_20 := m20 _ _ (((s0_18.ne rfl).ne rfl).ne rfl)
            have s1_20 := m20 _ _ (((s1_18.ne rfl).ne rfl).ne rfl)
            have s2_20 := m20 _ _ (((s2_18.ne rfl).ne rfl).ne rfl)
            have s7_20 := m20 _ _ (((s7_18.ne rfl).ne rfl).ne rfl)
            have s50_20 := m20 _ _ (At.hit z18.put.put rfl)
            clear m20
            refine e_then ?_
            refine c_true s50_20 ?_
            refine c_seq ?_
            refine c_region ?_
            refine l_q rfl (q_assign _ _ rfl rfl ?_)
            refine l_end ?_
            refine e_fresh z20.put ?_
            intro a21 z21 m21
            have s6_21 := m21 _ _ (At.hit z20 rfl)
            clear m21
            refine e_then ?_
            refine wp_ret ?_
            refine ret_then ?_
            refine r_tmp rfl z21.defers s6_21 ?_
            exact ⟨rfl, low18⟩
          · skip
            refine c_region ?_
            refine l_q rfl (q_move _ _ rfl s8_18.ev ?_)
            refine l_q rfl (q_lenF rfl rfl Tryd.underlying26 (At.hit z18 rfl).ev oo16.rd ?_)
            refine l_q rfl (q_gtr false rfl (At.hit z18.put rfl).ev rfl (decide_eq_false (by rw [Classical.not_not.1 hb19]; decide)) ?_)
            refine l_end ?_
            refine e_fresh z18.put.put.put ?_
            intro a22 z22 m22
            have s0_22 := m22 _ _ (((s0_18.ne rfl).ne rfl).ne rfl)
            have s1_22 := m22 _ _ (((s1_18.ne rfl).ne rfl).ne rfl)
            have s2_22 := m22 _ _ (((s2_18.ne rfl).ne rfl).ne rfl)
            have s7_22 := m22 _ _ (((s7_18.ne rfl).ne rfl).ne rfl)
            have s50_22 := m22 _ _ (At.hit z18.put.put rfl)
            clear m22
            refine e_then ?_
            refine c_false s50_22 ?_
            refine wp_skip ?_
            refine e_then ?_
            refine c_seq ?_
            have hp0 := Classical.not_not.1 hb19
            have sx := out_short lb so st
            have rx := outF_rise lb lo lt
            have nx : NE (outF lb lo lt) := out_NE no nt
            have ax := (none_bad hp0).2
            refine c_region ?_
            refine l_q rfl (q_move _ _ rfl s1_22.ev ?_)
            refine l_q rfl (q_move _ _ rfl (s7_22.ne rfl).ev ?_)
            refine l_q rfl (q_move _ _ rfl ((s1_22.ne rfl).ne rfl).ev ?_)
            refine l_call _ rfl rfl rfl Tryd.func8 rfl (args3 rfl (((At.hit z22 rfl).ne rfl).ne rfl).ev ((At.hit z22.put rfl).ne rfl).ev (At.hit z22.put.put rfl).ev) (Three.calls _ _ _ lo (outF lb lo lt) lo (by omega) (by omega) (by omega) sx so _ ovo_16 o16.rd ovo_16) ?_
            rintro _ w23 ⟨p23, q23, rfl, o23, oo23, h23⟩
            replace o23 := o23.base low18.ge
            replace oo23 := oo23.base low18.ge
            have ovb_23 := ovb_16.low h23
            have ovo_23 := ovo_16.low h23
            have ovt_23 := ovt_16.low h23
            have ob16_23 := o16.low h23
            replace o23 := OwnF.castL o23 (show outF lo (outF lb lo lt) lo = outF lb lo lt from (side_t (b := lo) rx nx ax).1)
            replace oo23 := OwnF.castL oo23 (show badA lo (outF lb lo lt) lo = ([] : List ByteArray) from (side_t (b := lo) rx nx ax).2)
            refine l_q rfl (q_move _ _ rfl (At.hit z22.put.put.put rfl).ev ?_)
            refine l_q rfl (q_extract rfl (At.hit z22.put.put.put.put rfl).ev rfl ?_)
            refine l_q rfl (q_extract rfl ((At.hit z22.put.put.put.put rfl).ne rfl).ev rfl ?_)
            refine l_q rfl (q_assign _ _ rfl ((At.hit z22.put.put.put.put.put rfl).ne rfl).ev ?_)
            refine l_fresh z22.put.put.put.put.put.put.put.put ?_
            intro a24 z24 m24
            have s0_24 := m24 _ _ ((((((((s0_22.ne rfl).ne rfl).ne rfl).ne rfl).ne rfl).ne rfl).ne rfl).ne rfl)
            have s2_24 := m24 _ _ ((((((((s2_22.ne rfl).ne rfl).ne rfl).ne rfl).ne rfl).ne rfl).ne rfl).ne rfl)
            have s7_24 := m24 _ _ ((((((((s7_22.ne rfl).ne rfl).ne rfl).ne rfl).ne rfl).ne rfl).ne rfl).ne rfl)
            have s9_24 := m24 _ _ (At.hit z22.put.put.put.put.put.put.put rfl)
            have s57_24 := m24 _ _ ((At.hit z22.put.put.put.put.put.put rfl).ne rfl)
            clear m24
            refine l_q rfl (q_assign _ _ rfl s57_24.ev ?_)
            refine l_end ?_
            refine e_fresh z24.put ?_
            intro a25 z25 m25
            have s0_25 := m25 _ _ (s0_24.ne rfl)
            have s2_25 := m25 _ _ (s2_24.ne rfl)
            have s7_25 := m25 _ _ (s7_24.ne rfl)
            have s9_25 := m25 _ _ (s9_24.ne rfl)
            have s10_25 := m25 _ _ (At.hit z24 rfl)
            have low25 := (low18.trans h23)
            clear m25
            refine e_then ?_
            refine c_seq ?_
            refine c_region ?_
            refine l_q rfl (q_move _ _ rfl s2_25.ev ?_)
            refine l_q rfl (q_move _ _ rfl (s2_25.ne rfl).ev ?_)
            refine l_q rfl (q_move _ _ rfl ((s7_25.ne rfl).ne rfl).ev ?_)
            refine l_call _ rfl rfl rfl Tryd.func8 rfl (args3 rfl (((At.hit z25 rfl).ne rfl).ne rfl).ev ((At.hit z25.put rfl).ne rfl).ev (At.hit z25.put.put rfl).ev) (Three.calls _ _ _ lt lt (outF lb lo lt) (by omega) (by omega) (by omega) st sx _ ovt_23 ovt_23 ob16_23.rd) ?_
            rintro _ w26 ⟨p26, q26, rfl, o26, oo26, h26⟩
            replace o26 := o26.base low25.ge
            replace oo26 := oo26.base low25.ge
            have ovb_26 := ovb_23.low h26
            have ovt_26 := ovt_23.low h26
            have ob16_26 := ob16_23.low h26
            have ob23_26 := o23.low h26
            have oc23_26 := oo23.low h26
            replace o26 := OwnF.castL o26 (show outF lt lt (outF lb lo lt) = outF lb lo lt from (side_o (b := lt) rx nx ax).1)
            replace oo26 := OwnF.castL oo26 (show badA lt lt (outF lb lo lt) = ([] : List ByteArray) from (side_o (b := lt) rx nx ax).2)
            refine l_q rfl (q_move _ _ rfl (At.hit z25.put.put.put rfl).ev ?_)
            refine l_q rfl (q_extract rfl (At.hit z25.put.put.put.put rfl).ev rfl ?_)
            refine l_q rfl (q_extract rfl ((At.hit z25.put.put.put.put rfl).ne rfl).ev rfl ?_)
            refine l_q rfl (q_assign _ _ rfl ((At.hit z25.put.put.put.put.put rfl).ne rfl).ev ?_)
            refine l_fresh z25.put.put.put.put.put.put.put.put ?_
            intro a27 z27 m27
            have s0_27 := m27 _ _ ((((((((s0_25.ne rfl).ne rfl).ne rfl).ne rfl).ne rfl).ne rfl).ne rfl).ne rfl)
            have s7_27 := m27 _ _ ((((((((s7_25.ne rfl).ne rfl).ne rfl).ne rfl).ne rfl).ne rfl).ne rfl).ne rfl)
            have s9_27 := m27 _ _ ((((((((s9_25.ne rfl).ne rfl).ne rfl).ne rfl).ne rfl).ne rfl).ne rfl).ne rfl)
            have s10_27 := m27 _ _ ((((((((s10_25.ne rfl).ne rfl).ne rfl).ne rfl).ne rfl).ne rfl).ne rfl).ne rfl)
            have s11_27 := m27 _ _ (At.hit z25.put.put.put.put.put.put.put rfl)
            have s64_27 := m27 _ _ ((At.hit z25.put.put.put.put.put.put rfl).ne rfl)
            clear m27
            refine l_q rfl (q_assign _ _ rfl s64_27.ev ?_)
            refine l_end ?_
            refine e_fresh z27.put ?_
            intro a28 z28 m28
            have s0_28 := m28 _ _ (s0_27.ne rfl)
            have s7_28 := m28 _ _ (s7_27.ne rfl)
            have s9_28 := m28 _ _ (s9_27.ne rfl)
            have s10_28 := m28 _ _ (s10_27.ne rfl)
            have s11_28 := m28 _ _ (s11_27.ne rfl)
            have s12_28 := m28 _ _ (At.hit z27 rfl)
            have low28 := (low25.trans h26)
            clear m28
            refine e_then ?_
            refine c_seq ?_
            refine c_region ?_
            refine l_q rfl (q_move _ _ rfl s0_28.ev ?_)
            refine l_q rfl (q_move _ _ rfl (s7_28.ne rfl).ev ?_)
            refine l_q rfl (q_move _ _ rfl ((s7_28.ne rfl).ne rfl).ev ?_)
            refine l_call _ rfl rfl rfl Tryd.func8 rfl (args3 rfl (((At.hit z28 rfl).ne rfl).ne rfl).ev ((At.hit z28.put rfl).ne rfl).ev (At.hit z28.put.put rfl).ev) (Three.calls _ _ _ lb (outF lb lo lt) (outF lb lo lt) (by omega) (by omega) (by omega) sx sx _ ovb_26 ob16_26.rd ob16_26.rd) ?_
            rintro _ w29 ⟨p29, q29, rfl, o29, oo29, h29⟩
            replace o29 := o29.base low28.ge
            replace oo29 := oo29.base low28.ge
            have ovb_29 := ovb_26.low h29
            have ob16_29 := ob16_26.low h29
            have ob23_29 := ob23_26.low h29
            have oc23_29 := oc23_26.low h29
            have ob26_29 := o26.low h29
            have oc26_29 := oo26.low h29
            replace o29 := OwnF.castL o29 (show outF lb (outF lb lo lt) (outF lb lo lt) = outF lb lo lt from (side_same (b := lb) rx nx ax).1)
            replace oo29 := OwnF.castL oo29 (show badA lb (outF lb lo lt) (outF lb lo lt) = ([] : List ByteArray) from (side_same (b := lb) rx nx ax).2)
            refine l_q rfl (q_move _ _ rfl (At.hit z28.put.put.put rfl).ev ?_)
            refine l_q rfl (q_extract rfl (At.hit z28.put.put.put.put rfl).ev rfl ?_)
            refine l_q rfl (q_extract rfl ((At.hit z28.put.put.put.put rfl).ne rfl).ev rfl ?_)
            refine l_q rfl (q_assign _ _ rfl ((At.hit z28.put.put.put.put.put rfl).ne rfl).ev ?_)
            refine l_fresh z28.put.put.put.put.put.put.put.put ?_
            intro a30 z30 m30
            have s7_30 := m30 _ _ ((((((((s7_28.ne rfl).ne rfl).ne rfl).ne rfl).ne rfl).ne rfl).ne rfl).ne rfl)
            have s9_30 := m30 _ _ ((((((((s9_28.ne rfl).ne rfl).ne rfl).ne rfl).ne rfl).ne rfl).ne rfl).ne rfl)
            have s10_30 := m30 _ _ ((((((((s10_28.ne rfl).ne rfl).ne rfl).ne rfl).ne rfl).ne rfl).ne rfl).ne rfl)
            have s11_30 := m30 _ _ ((((((((s11_28.ne rfl).ne rfl).ne rfl).ne rfl).ne rfl).ne rfl).ne rfl).ne rfl)
            have s12_30 := m30 _ _ ((((((((s12_28.ne rfl).ne rfl).ne rfl).ne rfl).ne rfl).ne rfl).ne rfl).ne rfl)
            have s13_30 := m30 _ _ (At.hit z28.put.put.put.put.put.put.put rfl)
            have s71_30 := m30 _ _ ((At.hit z28.put.put.put.put.put.put rfl).ne rfl)
            clear m30
            refine l_q rfl (q_assign _ _ rfl s71_30.ev ?_)
            refine l_end ?_
            refine e_fresh z30.put ?_
            intro a31 z31 m31
            have s7_31 := m31 _ _ (s7_30.ne rfl)
            have s9_31 := m31 _ _ (s9_30.ne rfl)
            have s10_31 := m31 _ _ (s10_30.ne rfl)
            have s11_31 := m31 _ _ (s11_30.ne rfl)
            have s12_31 := m31 _ _ (s12_30.ne rfl)
            have s13_31 := m31 _ _ (s13_30.ne rfl)
            have s14_31 := m31 _ _ (At.hit z30 rfl)
            have low31 := (low28.trans h29)
            clear m31
            refine e_then ?_
            refine c_seq ?_
            refine c_region ?_
            refine l_q rfl (q_move _ _ rfl s7_31.ev ?_)
            refine l_q rfl (q_move _ _ rfl (s7_31.ne rfl).ev ?_)
            refine l_q rfl (q_move _ _ rfl ((s7_31.ne rfl).ne rfl).ev ?_)
            refine l_call _ rfl rfl rfl Tryd.func8 rfl (args3 rfl (((At.hit z31 rfl).ne rfl).ne rfl).ev ((At.hit z31.put rfl).ne rfl).ev (At.hit z31.put.put rfl).ev) (Three.calls _ _ _ (outF lb lo lt) (outF lb lo lt) (outF lb lo lt) (by omega) (by omega) (by omega) sx sx _ ob16_29.rd ob16_29.rd ob16_29.rd) ?_
            rintro _ w32 ⟨p32, q32, rfl, o32, oo32, h32⟩
            replace o32 := o32.base low31.ge
            replace oo32 := oo32.base low31.ge
            have ob16_32 := ob16_29.low h32
            have ob23_32 := ob23_29.low h32
            have oc23_32 := oc23_29.low h32
            have ob26_32 := ob26_29.low h32
            have oc26_32 := oc26_29.low h32
            have ob29_32 := o29.low h32
            have oc29_32 := oo29.low h32
            replace o32 := OwnF.castL o32 (show outF (outF lb lo lt) (outF lb lo lt) (outF lb lo lt) = outF lb lo lt from (side_same (b := (outF lb lo lt)) rx nx ax).1)
            replace oo32 := OwnF.castL oo32 (show badA (outF lb lo lt) (outF lb lo lt) (outF lb lo lt) = ([] : List ByteArray) from (side_same (b := (outF lb lo lt)) rx nx ax).2)
            refine l_q rfl (q_move _ _ rfl (At.hit z31.put.put.put rfl).ev ?_)
            refine l_q rfl (q_extract rfl (At.hit z31.put.put.put.put rfl).ev rfl ?_)
            refine l_q rfl (q_extract rfl ((At.hit z31.put.put.put.put rfl).ne rfl).ev rfl ?_)
            refine l_q rfl (q_assign _ _ rfl ((At.hit z31.put.put.put.put.put rfl).ne rfl).ev ?_)
            refine l_fresh z31.put.put.put.put.put.put.put.put ?_
            intro a33 z33 m33
            have s7_33 := m33 _ _ ((((((((s7_31.ne rfl).ne rfl).ne rfl).ne rfl).ne rfl).ne rfl).ne rfl).ne rfl)
            have s9_33 := m33 _ _ ((((((((s9_31.ne rfl).ne rfl).ne rfl).ne rfl).ne rfl).ne rfl).ne rfl).ne rfl)
            have s10_33 := m33 _ _ ((((((((s10_31.ne rfl).ne rfl).ne rfl).ne rfl).ne rfl).ne rfl).ne rfl).ne rfl)
            have s11_33 := m33 _ _ ((((((((s11_31.ne rfl).ne rfl).ne rfl).ne rfl).ne rfl).ne rfl).ne rfl).ne rfl)
            have s12_33 := m33 _ _ ((((((((s12_31.ne rfl).ne rfl).ne rfl).ne rfl).ne rfl).ne rfl).ne rfl).ne rfl)
            have s13_33 := m33 _ _ ((((((((s13_31.ne rfl).ne rfl).ne rfl).ne rfl).ne rfl).ne rfl).ne rfl).ne rfl)
            have s14_33 := m33 _ _ ((((((((s14_31.ne rfl).ne rfl).ne rfl).ne rfl).ne rfl).ne rfl).ne rfl).ne rfl)
            have s15_33 := m33 _ _ (At.hit z31.put.put.put.put.put.put.put rfl)
            have s78_33 := m33 _ _ ((At.hit z31.put.put.put.put.put.put rfl).ne rfl)
            clear m33
            refine l_q rfl (q_assign _ _ rfl s78_33.ev ?_)
            refine l_end ?_
            refine e_fresh z33.put ?_
            intro a34 z34 m34
            have s7_34 := m34 _ _ (s7_33.ne rfl)
            have s9_34 := m34 _ _ (s9_33.ne rfl)
            have s10_34 := m34 _ _ (s10_33.ne rfl)
            have s11_34 := m34 _ _ (s11_33.ne rfl)
            have s12_34 := m34 _ _ (s12_33.ne rfl)
            have s13_34 := m34 _ _ (s13_33.ne rfl)
            have s14_34 := m34 _ _ (s14_33.ne rfl)
            have s15_34 := m34 _ _ (s15_33.ne rfl)
            have s16_34 := m34 _ _ (At.hit z33 rfl)
            have low34 := (low31.trans h32)
            clear m34
            refine e_then ?_
            refine c_seq ?_
            refine c_region ?_
            refine l_q rfl (q_move _ _ rfl s7_34.ev ?_)
            refine l_call _ rfl rfl rfl Tryd.func10 rfl (args1 rfl (At.hit z34 rfl).ev) (Of.calls _ (outF lb lo lt) (by omega) _ ob16_32.rd) ?_
            rintro v35 w35 ⟨o35, h35⟩
            replace o35 := o35.base low34.ge
            have ob16_35 := ob16_32.low h35
            have ob23_35 := ob23_32.low h35
            have oc23_35 := oc23_32.low h35
            have ob26_35 := ob26_32.low h35
            have oc26_35 := oc26_32.low h35
            have ob29_35 := ob29_32.low h35
            have oc29_35 := oc29_32.low h35
            have ob32_35 := o32.low h35
            have oc32_35 := oo32.low h35
            refine l_q rfl (q_assign _ _ rfl (At.hit z34.put rfl).ev ?_)
            refine l_end ?_
            refine e_fresh z34.put.put.put ?_
            intro a36 z36 m36
            have s9_36 := m36 _ _ (((s9_34.ne rfl).ne rfl).ne rfl)
            have s10_36 := m36 _ _ (((s10_34.ne rfl).ne rfl).ne rfl)
            have s11_36 := m36 _ _ (((s11_34.ne rfl).ne rfl).ne rfl)
            have s12_36 := m36 _ _ (((s12_34.ne rfl).ne rfl).ne rfl)
            have s13_36 := m36 _ _ (((s13_34.ne rfl).ne rfl).ne rfl)
            have s14_36 := m36 _ _ (((s14_34.ne rfl).ne rfl).ne rfl)
            have s15_36 := m36 _ _ (((s15_34.ne rfl).ne rfl).ne rfl)
            have s16_36 := m36 _ _ (((s16_34.ne rfl).ne rfl).ne rfl)
            have s17_36 := m36 _ _ (At.hit z34.put.put rfl)
            have low36 := (low34.trans h35)
            clear m36
            refine e_then ?_
            refine c_seq ?_
            refine c_region ?_
            refine l_q rfl (q_move _ _ rfl s10_36.ev ?_)
            refine l_q rfl (q_lenF rfl rfl Tryd.underlying26 (At.hit z36 rfl).ev oc23_35.rd ?_)
            refine l_q rfl (q_move _ _ rfl ((s12_36.ne rfl).ne rfl).ev ?_)
            refine l_q rfl (q_lenF rfl rfl Tryd.underlying26 (At.hit z36.put.put rfl).ev oc26_35.rd ?_)
            refine l_q rfl (q_add (((2 * (([] : List ByteArray).length) : Nat) : Int)) rfl (((At.hit z36.put rfl).ne rfl).ne rfl).ev (At.hit z36.put.put.put rfl).ev (i64_is (by omega) (by omega) (by omega)) ?_)
            refine l_q rfl (q_move _ _ rfl (((((s14_36.ne rfl).ne rfl).ne rfl).ne rfl).ne rfl).ev ?_)
            refine l_q rfl (q_lenF rfl rfl Tryd.underlying26 (At.hit z36.put.put.put.put.put rfl).ev oc29_35.rd ?_)
            refine l_q rfl (q_add (((3 * (([] : List ByteArray).length) : Nat) : Int)) rfl (((At.hit z36.put.put.put.put rfl).ne rfl).ne rfl).ev (At.hit z36.put.put.put.put.put.put rfl).ev (i64_is (by omega) (by omega) (by omega)) ?_)
            refine l_fresh z36.put.put.put.put.put.put.put.put ?_
            intro a37 z37 m37
            have s9_37 := m37 _ _ ((((((((s9_36.ne rfl).ne rfl).ne rfl).ne rfl).ne rfl).ne rfl).ne rfl).ne rfl)
            have s11_37 := m37 _ _ ((((((((s11_36.ne rfl).ne rfl).ne rfl).ne rfl).ne rfl).ne rfl).ne rfl).ne rfl)
            have s13_37 := m37 _ _ ((((((((s13_36.ne rfl).ne rfl).ne rfl).ne rfl).ne rfl).ne rfl).ne rfl).ne rfl)
            have s15_37 := m37 _ _ ((((((((s15_36.ne rfl).ne rfl).ne rfl).ne rfl).ne rfl).ne rfl).ne rfl).ne rfl)
            have s16_37 := m37 _ _ ((((((((s16_36.ne rfl).ne rfl).ne rfl).ne rfl).ne rfl).ne rfl).ne rfl).ne rfl)
            have s17_37 := m37 _ _ ((((((((s17_36.ne rfl).ne rfl).ne rfl).ne rfl).ne rfl).ne rfl).ne rfl).ne rfl)
            have s88_37 := m37 _ _ (At.hit z36.put.put.put.put.put.put.put rfl)
            clear m37
            refine l_q rfl (q_move _ _ rfl s16_37.ev ?_)
            refine l_q rfl (q_lenF rfl rfl Tryd.underlying26 (At.hit z37 rfl).ev oc32_35.rd ?_)
            refine l_q rfl (q_add (((4 * (([] : List ByteArray).length) : Nat) : Int)) rfl ((s88_37.ne rfl).ne rfl).ev (At.hit z37.put rfl).ev (i64_is (by omega) (by omega) (by omega)) ?_)
            refine l_q rfl (q_eql true rfl (At.hit z37.put.put rfl).ev rfl (decide_eq_true (by omega)) ?_)
            refine l_q rfl (q_move _ _ rfl (At.hit z37.put.put.put rfl).ev ?_)
            refine l_qg (wanted_is (j := 12) (d := 93) (b := true) rfl rfl (At.hit z37.put.put.put.put rfl) rfl) (q_move _ _ rfl (((((s9_37.ne rfl).ne rfl).ne rfl).ne rfl).ne rfl).ev ?_)
            refine l_callg _ (wanted_is (j := 12) (d := 93) (b := true) rfl rfl ((At.hit z37.put.put.put.put rfl).ne rfl) rfl) rfl rfl Tryd.func10 rfl (args1 rfl (At.hit z37.put.put.put.put.put rfl).ev) (Of.calls _ (outF lb lo lt) (by omega) _ ob23_35.rd) ?_
            rintro v38 w38 ⟨o38, h38⟩
            replace o38 := o38.base low36.ge
            have ob23_38 := ob23_35.low h38
            have oc23_38 := oc23_35.low h38
            have ob26_38 := ob26_35.low h38
            have oc26_38 := oc26_35.low h38
            have ob29_38 := ob29_35.low h38
            have oc29_38 := oc29_35.low h38
            have ob32_38 := ob32_35.low h38
            have oc32_38 := oc32_35.low h38
            have ob35_38 := o35.low h38
            refine l_qg (wanted_is (j := 12) (d := 93) (b := true) rfl rfl (((At.hit z37.put.put.put.put rfl).ne rfl).ne rfl) rfl) (q_move _ _ rfl (((((((s17_37.ne rfl).ne rfl).ne rfl).ne rfl).ne rfl).ne rfl).ne rfl).ev ?_)
            refine l_fresh z37.put.put.put.put.put.put.put.put ?_
            intro a39 z39 m39
            have s11_39 := m39 _ _ ((((((((s11_37.ne rfl).ne rfl).ne rfl).ne rfl).ne rfl).ne rfl).ne rfl).ne rfl)
            have s13_39 := m39 _ _ ((((((((s13_37.ne rfl).ne rfl).ne rfl).ne rfl).ne rfl).ne rfl).ne rfl).ne rfl)
            have s15_39 := m39 _ _ ((((((((s15_37.ne rfl).ne rfl).ne rfl).ne rfl).ne rfl).ne rfl).ne rfl).ne rfl)
            have s17_39 := m39 _ _ ((((((((s17_37.ne rfl).ne rfl).ne rfl).ne rfl).ne rfl).ne rfl).ne rfl).ne rfl)
            have s93_39 := m39 _ _ ((((At.hit z37.put.put.put.put rfl).ne rfl).ne rfl).ne rfl)
            have s95_39 := m39 _ _ ((At.hit z37.put.put.put.put.put.put rfl).ne rfl)
            have s96_39 := m39 _ _ (At.hit z37.put.put.put.put.put.put.put rfl)
            clear m39
            refine l_callg (fun v w' => v = .bool true ∧ Low w38 w') (wanted_is (j := 12) (d := 93) (b := true) rfl rfl s93_39 rfl) rfl rfl Tryd.func9 rfl (args2 rfl s95_39.ev s96_39.ev) (((calls_bool (Same.calls _ _ ((outF lb lo lt).map toR) ((outF lb lo lt).map toR) (by rw [List.length_map]; omega) (by rw [List.length_map]; omega) _ o38.rd ob35_38.rd) (decide_eq_true rfl))).mono fun _ _ ⟨e, k⟩ => ⟨_, e, rfl, k⟩) ?_
            rintro _ w40 ⟨rfl, h40⟩
            have ob23_40 := ob23_38.low h40
            have oc23_40 := oc23_38.low h40
            have ob26_40 := ob26_38.low h40
            have oc26_40 := oc26_38.low h40
            have ob29_40 := ob29_38.low h40
            have oc29_40 := oc29_38.low h40
            have ob32_40 := ob32_38.low h40
            have oc32_40 := oc32_38.low h40
            have ob35_40 := ob35_38.low h40
            have ob38_40 := o38.low h40
            refine l_q rfl (q_pick (b := true) (.bool true) rfl (s93_39.ne rfl).ev (At.hit z39 rfl).ev ?_)
            refine l_q rfl (q_move _ _ rfl (At.hit z39.put rfl).ev ?_)
            refine l_qg (wanted_is (j := 18) (d := 99) (b := true) rfl rfl (At.hit z39.put.put rfl) rfl) (q_move _ _ rfl (((s11_39.ne rfl).ne rfl).ne rfl).ev ?_)
            refine l_callg _ (wanted_is (j := 18) (d := 99) (b := true) rfl rfl ((At.hit z39.put.put rfl).ne rfl) rfl) rfl rfl Tryd.func10 rfl (args1 rfl (At.hit z39.put.put.put rfl).ev) (Of.calls _ (outF lb lo lt) (by omega) _ ob26_40.rd) ?_
            rintro v41 w41 ⟨o41, h41⟩
            replace o41 := o41.base ((low36.trans h38).trans h40).ge
            have ob23_41 := ob23_40.low h41
            have oc23_41 := oc23_40.low h41
            have ob26_41 := ob26_40.low h41
            have oc26_41 := oc26_40.low h41
            have ob29_41 := ob29_40.low h41
            have oc29_41 := oc29_40.low h41
            have ob32_41 := ob32_40.low h41
            have oc32_41 := oc32_40.low h41
            have ob35_41 := ob35_40.low h41
            have ob38_41 := ob38_40.low h41
            refine l_qg (wanted_is (j := 18) (d := 99) (b := true) rfl rfl (((At.hit z39.put.put rfl).ne rfl).ne rfl) rfl) (q_move _ _ rfl (((((s17_39.ne rfl).ne rfl).ne rfl).ne rfl).ne rfl).ev ?_)
            refine l_callg (fun v w' => v = .bool true ∧ Low w41 w') (wanted_is (j := 18) (d := 99) (b := true) rfl rfl ((((At.hit z39.put.put rfl).ne rfl).ne rfl).ne rfl) rfl) rfl rfl Tryd.func9 rfl (args2 rfl ((At.hit z39.put.put.put.put rfl).ne rfl).ev (At.hit z39.put.put.put.put.put rfl).ev) (((calls_bool (Same.calls _ _ ((outF lb lo lt).map toR) ((outF lb lo lt).map toR) (by rw [List.length_map]; omega) (by rw [List.length_map]; omega) _ o41.rd ob35_41.rd) (decide_eq_true rfl))).mono fun _ _ ⟨e, k⟩ => ⟨_, e, rfl, k⟩) ?_
            rintro _ w42 ⟨rfl, h42⟩
            have ob23_42 := ob23_41.low h42
            have oc23_42 := oc23_41.low h42
            have ob26_42 := ob26_41.low h42
            have oc26_42 := oc26_41.low h42
            have ob29_42 := ob29_41.low h42
            have oc29_42 := oc29_41.low h42
            have ob32_42 := ob32_41.low h42
            have oc32_42 := oc32_41.low h42
            have ob35_42 := ob35_41.low h42
            have ob38_42 := ob38_41.low h42
            have ob41_42 := o41.low h42
            refine l_q rfl (q_pick (b := true) (.bool true) rfl (((((At.hit z39.put.put rfl).ne rfl).ne rfl).ne rfl).ne rfl).ev (At.hit z39.put.put.put.put.put.put rfl).ev ?_)
            refine l_fresh z39.put.put.put.put.put.put.put.put ?_
            intro a43 z43 m43
            have s13_43 := m43 _ _ ((((((((s13_39.ne rfl).ne rfl).ne rfl).ne rfl).ne rfl).ne rfl).ne rfl).ne rfl)
            have s15_43 := m43 _ _ ((((((((s15_39.ne rfl).ne rfl).ne rfl).ne rfl).ne rfl).ne rfl).ne rfl).ne rfl)
            have s17_43 := m43 _ _ ((((((((s17_39.ne rfl).ne rfl).ne rfl).ne rfl).ne rfl).ne rfl).ne rfl).ne rfl)
            have s104_43 := m43 _ _ (At.hit z39.put.put.put.put.put.put.put rfl)
            clear m43
            refine l_q rfl (q_move _ _ rfl s104_43.ev ?_)
            refine l_qg (wanted_is (j := 24) (d := 105) (b := true) rfl rfl (At.hit z43 rfl) rfl) (q_move _ _ rfl (s13_43.ne rfl).ev ?_)
            refine l_callg _ (wanted_is (j := 24) (d := 105) (b := true) rfl rfl ((At.hit z43 rfl).ne rfl) rfl) rfl rfl Tryd.func10 rfl (args1 rfl (At.hit z43.put rfl).ev) (Of.calls _ (outF lb lo lt) (by omega) _ ob29_42.rd) ?_
            rintro v44 w44 ⟨o44, h44⟩
            replace o44 := o44.base ((((low36.trans h38).trans h40).trans h41).trans h42).ge
            have ob23_44 := ob23_42.low h44
            have oc23_44 := oc23_42.low h44
            have ob26_44 := ob26_42.low h44
            have oc26_44 := oc26_42.low h44
            have ob29_44 := ob29_42.low h44
            have oc29_44 := oc29_42.low h44
            have ob32_44 := ob32_42.low h44
            have oc32_44 := oc32_42.low h44
            have ob35_44 := ob35_42.low h44
            have ob38_44 := ob38_42.low h44
            have ob41_44 := ob41_42.low h44
            refine l_qg (wanted_is (j := 24) (d := 105) (b := true) rfl rfl (((At.hit z43 rfl).ne rfl).ne rfl) rfl) (q_move _ _ rfl (((s17_43.ne rfl).ne rfl).ne rfl).ev ?_)
            refine l_callg (fun v w' => v = .bool true ∧ Low w44 w') (wanted_is (j := 24) (d := 105) (b := true) rfl rfl ((((At.hit z43 rfl).ne rfl).ne rfl).ne rfl) rfl) rfl rfl Tryd.func9 rfl (args2 rfl ((At.hit z43.put.put rfl).ne rfl).ev (At.hit z43.put.put.put rfl).ev) (((calls_bool (Same.calls _ _ ((outF lb lo lt).map toR) ((outF lb lo lt).map toR) (by rw [List.length_map]; omega) (by rw [List.length_map]; omega) _ o44.rd ob35_44.rd) (decide_eq_true rfl))).mono fun _ _ ⟨e, k⟩ => ⟨_, e, rfl, k⟩) ?_
            rintro _ w45 ⟨rfl, h45⟩
            have ob23_45 := ob23_44.low h45
            have oc23_45 := oc23_44.low h45
            have ob26_45 := ob26_44.low h45
            have oc26_45 := oc26_44.low h45
            have ob29_45 := ob29_44.low h45
            have oc29_45 := oc29_44.low h45
            have ob32_45 := ob32_44.low h45
            have oc32_45 := oc32_44.low h45
            have ob35_45 := ob35_44.low h45
            have ob38_45 := ob38_44.low h45
            have ob41_45 := ob41_44.low h45
            have ob44_45 := o44.low h45
            refine l_q rfl (q_pick (b := true) (.bool true) rfl (((((At.hit z43 rfl).ne rfl).ne rfl).ne rfl).ne rfl).ev (At.hit z43.put.put.put.put rfl).ev ?_)
            refine l_q rfl (q_move _ _ rfl (At.hit z43.put.put.put.put.put rfl).ev ?_)
            refine l_qg (wanted_is (j := 30) (d := 111) (b := true) rfl rfl (At.hit z43.put.put.put.put.put.put rfl) rfl) (q_move _ _ rfl (((((((s15_43.ne rfl).ne rfl).ne rfl).ne rfl).ne rfl).ne rfl).ne rfl).ev ?_)
            refine l_fresh z43.put.put.put.put.put.put.put.put ?_
            intro a46 z46 m46
            have s17_46 := m46 _ _ ((((((((s17_43.ne rfl).ne rfl).ne rfl).ne rfl).ne rfl).ne rfl).ne rfl).ne rfl)
            have s111_46 := m46 _ _ ((At.hit z43.put.put.put.put.put.put rfl).ne rfl)
            have s112_46 := m46 _ _ (At.hit z43.put.put.put.put.put.put.put rfl)
            clear m46
            refine l_callg _ (wanted_is (j := 30) (d := 111) (b := true) rfl rfl s111_46 rfl) rfl rfl Tryd.func10 rfl (args1 rfl s112_46.ev) (Of.calls _ (outF lb lo lt) (by omega) _ ob32_45.rd) ?_
            rintro v47 w47 ⟨o47, h47⟩
            replace o47 := o47.base ((((((low36.trans h38).trans h40).trans h41).trans h42).trans h44).trans h45).ge
            have ob23_47 := ob23_45.low h47
            have oc23_47 := oc23_45.low h47
            have ob26_47 := ob26_45.low h47
            have oc26_47 := oc26_45.low h47
            have ob29_47 := ob29_45.low h47
            have oc29_47 := oc29_45.low h47
            have ob32_47 := ob32_45.low h47
            have oc32_47 := oc32_45.low h47
            have ob35_47 := ob35_45.low h47
            have ob38_47 := ob38_45.low h47
            have ob41_47 := ob41_45.low h47
            have ob44_47 := ob44_45.low h47
            refine l_qg (wanted_is (j := 30) (d := 111) (b := true) rfl rfl (s111_46.ne rfl) rfl) (q_move _ _ rfl (s17_46.ne rfl).ev ?_)
            refine l_callg (fun v w' => v = .bool true ∧ Low w47 w') (wanted_is (j := 30) (d := 111) (b := true) rfl rfl ((s111_46.ne rfl).ne rfl) rfl) rfl rfl Tryd.func9 rfl (args2 rfl ((At.hit z46 rfl).ne rfl).ev (At.hit z46.put rfl).ev) (((calls_bool (Same.calls _ _ ((outF lb lo lt).map toR) ((outF lb lo lt).map toR) (by rw [List.length_map]; omega) (by rw [List.length_map]; omega) _ o47.rd ob35_47.rd) (decide_eq_true rfl))).mono fun _ _ ⟨e, k⟩ => ⟨_, e, rfl, k⟩) ?_
            rintro _ w48 ⟨rfl, h48⟩
            have ob23_48 := ob23_47.low h48
            have oc23_48 := oc23_47.low h48
            have ob26_48 := ob26_47.low h48
            have oc26_48 := oc26_47.low h48
            have ob29_48 := ob29_47.low h48
            have oc29_48 := oc29_47.low h48
            have ob32_48 := ob32_47.low h48
            have oc32_48 := oc32_47.low h48
            have ob35_48 := ob35_47.low h48
            have ob38_48 := ob38_47.low h48
            have ob41_48 := ob41_47.low h48
            have ob44_48 := ob44_47.low h48
            have ob47_48 := o47.low h48
            refine l_q rfl (q_pick (b := true) (.bool true) rfl (((s111_46.ne rfl).ne rfl).ne rfl).ev (At.hit z46.put.put rfl).ev ?_)
            refine l_q rfl (q_assign _ _ rfl (At.hit z46.put.put.put rfl).ev ?_)
            refine l_end ?_
            refine e_fresh z46.put.put.put.put.put ?_
            intro a49 z49 m49
            have s6_49 := m49 _ _ (At.hit z46.put.put.put.put rfl)
            have low49 := ((((((((low36.trans h38).trans h40).trans h41).trans h42).trans h44).trans h45).trans h47).trans h48)
            clear m49
            refine e_then ?_
            refine wp_ret ?_
            refine r_tmp rfl z49.defers s6_49 ?_
            exact ⟨rfl, low49⟩
        · skip
          refine c_region ?_
          refine l_q rfl (q_move _ _ rfl s0_3.ev ?_)
          refine l_q rfl (q_move _ _ rfl (s1_3.ne rfl).ev ?_)
          refine l_q rfl (q_move _ _ rfl ((s2_3.ne rfl).ne rfl).ev ?_)
          refine l_lit3 rfl rfl Tryd.underlying35 rec22 (((At.hit z3 rfl).ne rfl).ne rfl).ev ((At.hit z3.put rfl).ne rfl).ev (At.hit z3.put.put rfl).ev (RdF.one ovb_2) (RdF.one ovo_2) (RdF.one ovt_2) ?_
          intro g23_50 w50 hg50 k50 h50
          have geg23_50 := Nat.le_trans low3.ge hg50
          have ovb_50 := ovb_2.low h50
          have ovo_50 := ovo_2.low h50
          have ovt_50 := ovt_2.low h50
          have og23_50_50 := rdFF3 k50 ovb_50 ovo_50 ovt_50
          refine l_call (fun v w' => v = .bool true ∧ Low w50 w') rfl rfl rfl Tryd.func6 rfl (args1 rfl (At.hit z3.put.put.put rfl).ev) (((calls_bool (May.calls _ _ ([lb, lo, lt]) (by simp) _ og23_50_50) hb4)).mono fun _ _ ⟨e, k⟩ => ⟨_, e, rfl, k⟩) ?_
          rintro _ w51 ⟨rfl, h51⟩
          have kg23_50_51 := h51.blk k50
          have ovb_51 := ovb_50.low h51
          have ovo_51 := ovo_50.low h51
          have ovt_51 := ovt_50.low h51
          have oL50_51 := og23_50_50.low h51
          refine l_q rfl (q_not (b := true) rfl (At.hit z3.put.put.put.put rfl).ev ?_)
          refine l_q rfl (q_move _ _ rfl (At.hit z3.put.put.put.put.put rfl).ev ?_)
          refine l_qg (wanted_is (j := 6) (d := 26) (b := false) rfl rfl (At.hit z3.put.put.put.put.put.put rfl) rfl) (q_move _ _ rfl (((((((s0_3.ne rfl).ne rfl).ne rfl).ne rfl).ne rfl).ne rfl).ne rfl).ev ?_)
          refine l_fresh z3.put.put.put.put.put.put.put.put ?_
          intro a52 z52 m52
          have s0_52 := m52 _ _ ((((((((s0_3.ne rfl).ne rfl).ne rfl).ne rfl).ne rfl).ne rfl).ne rfl).ne rfl)
          have s1_52 := m52 _ _ ((((((((s1_3.ne rfl).ne rfl).ne rfl).ne rfl).ne rfl).ne rfl).ne rfl).ne rfl)
          have s2_52 := m52 _ _ ((((((((s2_3.ne rfl).ne rfl).ne rfl).ne rfl).ne rfl).ne rfl).ne rfl).ne rfl)
          have s26_52 := m52 _ _ ((At.hit z3.put.put.put.put.put.put rfl).ne rfl)
          have s27_52 := m52 _ _ (At.hit z3.put.put.put.put.put.put.put rfl)
          clear m52
          refine l_callg (fun v w' => v = .bool true ∧ Low w51 w') (wanted_is (j := 6) (d := 26) (b := false) rfl rfl s26_52 rfl) rfl rfl Tryd.func7 rfl (args1 rfl s27_52.ev) (((calls_bool (Right.calls _ lb (Nat.le_trans (okRow (may3 hb4).1).2.2.1 (by decide)) (okRow (may3 hb4).1).2.1 _ ovb_51 (Gd.low hG ((low3.trans h50).trans h51))) hb5)).mono fun _ _ ⟨e, k⟩ => ⟨_, e, rfl, k⟩) ?_
          rintro _ w53 ⟨rfl, h53⟩
          have kg23_50_53 := h53.blk kg23_50_51
          have ovb_53 := ovb_51.low h53
          have ovo_53 := ovo_51.low h53
          have ovt_53 := ovt_51.low h53
          have oL50_53 := oL50_51.low h53
          refine l_qg (wanted_is (j := 6) (d := 26) (b := false) rfl rfl (s26_52.ne rfl) rfl) (q_not (b := true) rfl (At.hit z52 rfl).ev ?_)
          refine l_q rfl (q_pick (b := false) (.bool false) rfl ((s26_52.ne rfl).ne rfl).ev (At.hit z52.put rfl).ev ?_)
          refine l_q rfl (q_move _ _ rfl (At.hit z52.put.put rfl).ev ?_)
          refine l_qg (wanted_is (j := 11) (d := 31) (b := false) rfl rfl (At.hit z52.put.put.put rfl) rfl) (q_move _ _ rfl ((((s1_52.ne rfl).ne rfl).ne rfl).ne rfl).ev ?_)
          refine l_callg (fun v w' => v = .bool true ∧ Low w53 w') (wanted_is (j := 11) (d := 31) (b := false) rfl rfl ((At.hit z52.put.put.put rfl).ne rfl) rfl) rfl rfl Tryd.func7 rfl (args1 rfl (At.hit z52.put.put.put.put rfl).ev) (((calls_bool (Right.calls _ lo (Nat.le_trans (okRow (may3 hb4).2.1).2.2.1 (by decide)) (okRow (may3 hb4).2.1).2.1 _ ovo_53 (Gd.low hG (((low3.trans h50).trans h51).trans h53))) hb6)).mono fun _ _ ⟨e, k⟩ => ⟨_, e, rfl, k⟩) ?_
          rintro _ w54 ⟨rfl, h54⟩
          have kg23_50_54 := h54.blk kg23_50_53
          have ovb_54 := ovb_53.low h54
          have ovo_54 := ovo_53.low h54
          have ovt_54 := ovt_53.low h54
          have oL50_54 := oL50_53.low h54
          refine l_qg (wanted_is (j := 11) (d := 31) (b := false) rfl rfl (((At.hit z52.put.put.put rfl).ne rfl).ne rfl) rfl) (q_not (b := true) rfl (At.hit z52.put.put.put.put.put rfl).ev ?_)
          refine l_q rfl (q_pick (b := false) (.bool false) rfl ((((At.hit z52.put.put.put rfl).ne rfl).ne rfl).ne rfl).ev (At.hit z52.put.put.put.put.put.put rfl).ev ?_)
          refine l_fresh z52.put.put.put.put.put.put.put.put ?_
          intro a55 z55 m55
          have s0_55 := m55 _ _ ((((((((s0_52.ne rfl).ne rfl).ne rfl).ne rfl).ne rfl).ne rfl).ne rfl).ne rfl)
          have s1_55 := m55 _ _ ((((((((s1_52.ne rfl).ne rfl).ne rfl).ne rfl).ne rfl).ne rfl).ne rfl).ne rfl)
          have s2_55 := m55 _ _ ((((((((s2_52.ne rfl).ne rfl).ne rfl).ne rfl).ne rfl).ne rfl).ne rfl).ne rfl)
          have s35_55 := m55 _ _ (At.hit z52.put.put.put.put.put.put.put rfl)
          clear m55
          refine l_q rfl (q_move _ _ rfl s35_55.ev ?_)
          refine l_qg (wanted_is (j := 16) (d := 36) (b := false) rfl rfl (At.hit z55 rfl) rfl) (q_move _ _ rfl (s2_55.ne rfl).ev ?_)
          refine l_callg (fun v w' => v = .bool false ∧ Low w54 w') (wanted_is (j := 16) (d := 36) (b := false) rfl rfl ((At.hit z55 rfl).ne rfl) rfl) rfl rfl Tryd.func7 rfl (args1 rfl (At.hit z55.put rfl).ev) (((calls_bool (Right.calls _ lt (Nat.le_trans (okRow (may3 hb4).2.2).2.2.1 (by decide)) (okRow (may3 hb4).2.2).2.1 _ ovt_54 (Gd.low hG ((((low3.trans h50).trans h51).trans h53).trans h54))) (eq_false_of_ne_true hb7))).mono fun _ _ ⟨e, k⟩ => ⟨_, e, rfl, k⟩) ?_
          rintro _ w56 ⟨rfl, h56⟩
          have kg23_50_56 := h56.blk kg23_50_54
          have ovb_56 := ovb_54.low h56
          have ovo_56 := ovo_54.low h56
          have ovt_56 := ovt_54.low h56
          have oL50_56 := oL50_54.low h56
          refine l_qg (wanted_is (j := 16) (d := 36) (b := false) rfl rfl (((At.hit z55 rfl).ne rfl).ne rfl) rfl) (q_not (b := false) rfl (At.hit z55.put.put rfl).ev ?_)
          refine l_q rfl (q_pick (b := false) (.bool true) rfl ((((At.hit z55 rfl).ne rfl).ne rfl).ne rfl).ev (At.hit z55.put.put.put rfl).ev ?_)
          refine l_end ?_
          refine e_fresh z55.put.put.put.put.put ?_
          intro a57 z57 m57
          have s0_57 := m57 _ _ (((((s0_55.ne rfl).ne rfl).ne rfl).ne rfl).ne rfl)
          have s1_57 := m57 _ _ (((((s1_55.ne rfl).ne rfl).ne rfl).ne rfl).ne rfl)
          have s2_57 := m57 _ _ (((((s2_55.ne rfl).ne rfl).ne rfl).ne rfl).ne rfl)
          have s40_57 := m57 _ _ (At.hit z55.put.put.put.put rfl)
          have low57 := (((((low3.trans h50).trans h51).trans h53).trans h54).trans h56)
          clear m57
          refine e_then ?_
          refine c_true s40_57 ?_
          refine c_seq ?_
          refine c_region ?_
          refine l_q rfl (q_assign _ _ rfl rfl ?_)
          refine l_end ?_
          refine e_fresh z57.put ?_
          intro a58 z58 m58
          have s6_58 := m58 _ _ (At.hit z57 rfl)
          clear m58
          refine e_then ?_
          refine wp_ret ?_
          refine ret_then ?_
          refine r_tmp rfl z58.defers s6_58 ?_
          exact ⟨rfl, low57⟩
      · skip
        refine c_region ?_
        refine l_q rfl (q_move _ _ rfl s0_3.ev ?_)
        refine l_q rfl (q_move _ _ rfl (s1_3.ne rfl).ev ?_)
        refine l_q rfl (q_move _ _ rfl ((s2_3.ne rfl).ne rfl).ev ?_)
        refine l_lit3 rfl rfl Tryd.underlying35 rec22 (((At.hit z3 rfl).ne rfl).ne rfl).ev ((At.hit z3.put rfl).ne rfl).ev (At.hit z3.put.put rfl).ev (RdF.one ovb_2) (RdF.one ovo_2) (RdF.one ovt_2) ?_
        intro g23_59 w59 hg59 k59 h59
        have geg23_59 := Nat.le_trans low3.ge hg59
        have ovb_59 := ovb_2.low h59
        have ovo_59 := ovo_2.low h59
        have ovt_59 := ovt_2.low h59
        have og23_59_59 := rdFF3 k59 ovb_59 ovo_59 ovt_59
        refine l_call (fun v w' => v = .bool true ∧ Low w59 w') rfl rfl rfl Tryd.func6 rfl (args1 rfl (At.hit z3.put.put.put rfl).ev) (((calls_bool (May.calls _ _ ([lb, lo, lt]) (by simp) _ og23_59_59) hb4)).mono fun _ _ ⟨e, k⟩ => ⟨_, e, rfl, k⟩) ?_
        rintro _ w60 ⟨rfl, h60⟩
        have kg23_59_60 := h60.blk k59
        have ovb_60 := ovb_59.low h60
        have ovo_60 := ovo_59.low h60
        have ovt_60 := ovt_59.low h60
        have oL59_60 := og23_59_59.low h60
        refine l_q rfl (q_not (b := true) rfl (At.hit z3.put.put.put.put rfl).ev ?_)
        refine l_q rfl (q_move _ _ rfl (At.hit z3.put.put.put.put.put rfl).ev ?_)
        refine l_qg (wanted_is (j := 6) (d := 26) (b := false) rfl rfl (At.hit z3.put.put.put.put.put.put rfl) rfl) (q_move _ _ rfl (((((((s0_3.ne rfl).ne rfl).ne rfl).ne rfl).ne rfl).ne rfl).ne rfl).ev ?_)
        refine l_fresh z3.put.put.put.put.put.put.put.put ?_
        intro a61 z61 m61
        have s0_61 := m61 _ _ ((((((((s0_3.ne rfl).ne rfl).ne rfl).ne rfl).ne rfl).ne rfl).ne rfl).ne rfl)
        have s1_61 := m61 _ _ ((((((((s1_3.ne rfl).ne rfl).ne rfl).ne rfl).ne rfl).ne rfl).ne rfl).ne rfl)
        have s2_61 := m61 _ _ ((((((((s2_3.ne rfl).ne rfl).ne rfl).ne rfl).ne rfl).ne rfl).ne rfl).ne rfl)
        have s26_61 := m61 _ _ ((At.hit z3.put.put.put.put.put.put rfl).ne rfl)
        have s27_61 := m61 _ _ (At.hit z3.put.put.put.put.put.put.put rfl)
        clear m61
        refine l_callg (fun v w' => v = .bool true ∧ Low w60 w') (wanted_is (j := 6) (d := 26) (b := false) rfl rfl s26_61 rfl) rfl rfl Tryd.func7 rfl (args1 rfl s27_61.ev) (((calls_bool (Right.calls _ lb (Nat.le_trans (okRow (may3 hb4).1).2.2.1 (by decide)) (okRow (may3 hb4).1).2.1 _ ovb_60 (Gd.low hG ((low3.trans h59).trans h60))) hb5)).mono fun _ _ ⟨e, k⟩ => ⟨_, e, rfl, k⟩) ?_
        rintro _ w62 ⟨rfl, h62⟩
        have kg23_59_62 := h62.blk kg23_59_60
        have ovb_62 := ovb_60.low h62
        have ovo_62 := ovo_60.low h62
        have ovt_62 := ovt_60.low h62
        have oL59_62 := oL59_60.low h62
        refine l_qg (wanted_is (j := 6) (d := 26) (b := false) rfl rfl (s26_61.ne rfl) rfl) (q_not (b := true) rfl (At.hit z61 rfl).ev ?_)
        refine l_q rfl (q_pick (b := false) (.bool false) rfl ((s26_61.ne rfl).ne rfl).ev (At.hit z61.put rfl).ev ?_)
        refine l_q rfl (q_move _ _ rfl (At.hit z61.put.put rfl).ev ?_)
        refine l_qg (wanted_is (j := 11) (d := 31) (b := false) rfl rfl (At.hit z61.put.put.put rfl) rfl) (q_move _ _ rfl ((((s1_61.ne rfl).ne rfl).ne rfl).ne rfl).ev ?_)
        refine l_callg (fun v w' => v = .bool false ∧ Low w62 w') (wanted_is (j := 11) (d := 31) (b := false) rfl rfl ((At.hit z61.put.put.put rfl).ne rfl) rfl) rfl rfl Tryd.func7 rfl (args1 rfl (At.hit z61.put.put.put.put rfl).ev) (((calls_bool (Right.calls _ lo (Nat.le_trans (okRow (may3 hb4).2.1).2.2.1 (by decide)) (okRow (may3 hb4).2.1).2.1 _ ovo_62 (Gd.low hG (((low3.trans h59).trans h60).trans h62))) (eq_false_of_ne_true hb6))).mono fun _ _ ⟨e, k⟩ => ⟨_, e, rfl, k⟩) ?_
        rintro _ w63 ⟨rfl, h63⟩
        have kg23_59_63 := h63.blk kg23_59_62
        have ovb_63 := ovb_62.low h63
        have ovo_63 := ovo_62.low h63
        have ovt_63 := ovt_62.low h63
        have oL59_63 := oL59_62.low h63
        refine l_qg (wanted_is (j := 11) (d := 31) (b := false) rfl rfl (((At.hit z61.put.put.put rfl).ne rfl).ne rfl) rfl) (q_not (b := false) rfl (At.hit z61.put.put.put.put.put rfl).ev ?_)
        refine l_q rfl (q_pick (b := false) (.bool true) rfl ((((At.hit z61.put.put.put rfl).ne rfl).ne rfl).ne rfl).ev (At.hit z61.put.put.put.put.put.put rfl).ev ?_)
        refine l_fresh z61.put.put.put.put.put.put.put.put ?_
        intro a64 z64 m64
        have s0_64 := m64 _ _ ((((((((s0_61.ne rfl).ne rfl).ne rfl).ne rfl).ne rfl).ne rfl).ne rfl).ne rfl)
        have s1_64 := m64 _ _ ((((((((s1_61.ne rfl).ne rfl).ne rfl).ne rfl).ne rfl).ne rfl).ne rfl).ne rfl)
        have s2_64 := m64 _ _ ((((((((s2_61.ne rfl).ne rfl).ne rfl).ne rfl).ne rfl).ne rfl).ne rfl).ne rfl)
        have s35_64 := m64 _ _ (At.hit z61.put.put.put.put.put.put.put rfl)
        clear m64
        refine l_q rfl (q_move _ _ rfl s35_64.ev ?_)
        refine l_skip (wanted_is (j := 16) (d := 36) (b := true) rfl rfl (At.hit z64 rfl) rfl) ?_
        refine l_skip (wanted_is (j := 16) (d := 36) (b := true) rfl rfl ((At.hit z64 rfl).ne rfl) rfl) ?_
        refine l_skip (wanted_is (j := 16) (d := 36) (b := true) rfl rfl (((At.hit z64 rfl).ne rfl).ne rfl) rfl) ?_
        refine l_q rfl (q_pick (b := true) (.bool true) rfl ((((At.hit z64 rfl).ne rfl).ne rfl).ne rfl).ev rfl ?_)
        refine l_end ?_
        refine e_fresh z64.put.put.put.put.put ?_
        intro a65 z65 m65
        have s0_65 := m65 _ _ (((((s0_64.ne rfl).ne rfl).ne rfl).ne rfl).ne rfl)
        have s1_65 := m65 _ _ (((((s1_64.ne rfl).ne rfl).ne rfl).ne rfl).ne rfl)
        have s2_65 := m65 _ _ (((((s2_64.ne rfl).ne rfl).ne rfl).ne rfl).ne rfl)
        have s40_65 := m65 _ _ (At.hit z64.put.put.put.put rfl)
        have low65 := ((((low3.trans h59).trans h60).trans h62).trans h63)
        clear m65
        refine e_then ?_
        refine c_true s40_65 ?_
        refine c_seq ?_
        refine c_region ?_
        refine l_q rfl (q_assign _ _ rfl rfl ?_)
        refine l_end ?_
        refine e_fresh z65.put ?_
        intro a66 z66 m66
        have s6_66 := m66 _ _ (At.hit z65 rfl)
        clear m66
        refine e_then ?_
        refine wp_ret ?_
        refine ret_then ?_
        refine r_tmp rfl z66.defers s6_66 ?_
        exact ⟨rfl, low65⟩
    · skip
      refine c_region ?_
      refine l_q rfl (q_move _ _ rfl s0_3.ev ?_)
      refine l_q rfl (q_move _ _ rfl (s1_3.ne rfl).ev ?_)
      refine l_q rfl (q_move _ _ rfl ((s2_3.ne rfl).ne rfl).ev ?_)
      refine l_lit3 rfl rfl Tryd.underlying35 rec22 (((At.hit z3 rfl).ne rfl).ne rfl).ev ((At.hit z3.put rfl).ne rfl).ev (At.hit z3.put.put rfl).ev (RdF.one ovb_2) (RdF.one ovo_2) (RdF.one ovt_2) ?_
      intro g23_67 w67 hg67 k67 h67
      have geg23_67 := Nat.le_trans low3.ge hg67
      have ovb_67 := ovb_2.low h67
      have ovo_67 := ovo_2.low h67
      have ovt_67 := ovt_2.low h67
      have og23_67_67 := rdFF3 k67 ovb_67 ovo_67 ovt_67
      refine l_call (fun v w' => v = .bool true ∧ Low w67 w') rfl rfl rfl Tryd.func6 rfl (args1 rfl (At.hit z3.put.put.put rfl).ev) (((calls_bool (May.calls _ _ ([lb, lo, lt]) (by simp) _ og23_67_67) hb4)).mono fun _ _ ⟨e, k⟩ => ⟨_, e, rfl, k⟩) ?_
      rintro _ w68 ⟨rfl, h68⟩
      have kg23_67_68 := h68.blk k67
      have ovb_68 := ovb_67.low h68
      have ovo_68 := ovo_67.low h68
      have ovt_68 := ovt_67.low h68
      have oL67_68 := og23_67_67.low h68
      refine l_q rfl (q_not (b := true) rfl (At.hit z3.put.put.put.put rfl).ev ?_)
      refine l_q rfl (q_move _ _ rfl (At.hit z3.put.put.put.put.put rfl).ev ?_)
      refine l_qg (wanted_is (j := 6) (d := 26) (b := false) rfl rfl (At.hit z3.put.put.put.put.put.put rfl) rfl) (q_move _ _ rfl (((((((s0_3.ne rfl).ne rfl).ne rfl).ne rfl).ne rfl).ne rfl).ne rfl).ev ?_)
      refine l_fresh z3.put.put.put.put.put.put.put.put ?_
      intro a69 z69 m69
      have s0_69 := m69 _ _ ((((((((s0_3.ne rfl).ne rfl).ne rfl).ne rfl).ne rfl).ne rfl).ne rfl).ne rfl)
      have s1_69 := m69 _ _ ((((((((s1_3.ne rfl).ne rfl).ne rfl).ne rfl).ne rfl).ne rfl).ne rfl).ne rfl)
      have s2_69 := m69 _ _ ((((((((s2_3.ne rfl).ne rfl).ne rfl).ne rfl).ne rfl).ne rfl).ne rfl).ne rfl)
      have s26_69 := m69 _ _ ((At.hit z3.put.put.put.put.put.put rfl).ne rfl)
      have s27_69 := m69 _ _ (At.hit z3.put.put.put.put.put.put.put rfl)
      clear m69
      refine l_callg (fun v w' => v = .bool false ∧ Low w68 w') (wanted_is (j := 6) (d := 26) (b := false) rfl rfl s26_69 rfl) rfl rfl Tryd.func7 rfl (args1 rfl s27_69.ev) (((calls_bool (Right.calls _ lb (Nat.le_trans (okRow (may3 hb4).1).2.2.1 (by decide)) (okRow (may3 hb4).1).2.1 _ ovb_68 (Gd.low hG ((low3.trans h67).trans h68))) (eq_false_of_ne_true hb5))).mono fun _ _ ⟨e, k⟩ => ⟨_, e, rfl, k⟩) ?_
      rintro _ w70 ⟨rfl, h70⟩
      have kg23_67_70 := h70.blk kg23_67_68
      have ovb_70 := ovb_68.low h70
      have ovo_70 := ovo_68.low h70
      have ovt_70 := ovt_68.low h70
      have oL67_70 := oL67_68.low h70
      refine l_qg (wanted_is (j := 6) (d := 26) (b := false) rfl rfl (s26_69.ne rfl) rfl) (q_not (b := false) rfl (At.hit z69 rfl).ev ?_)
      refine l_q rfl (q_pick (b := false) (.bool true) rfl ((s26_69.ne rfl).ne rfl).ev (At.hit z69.put rfl).ev ?_)
      refine l_q rfl (q_move _ _ rfl (At.hit z69.put.put rfl).ev ?_)
      refine l_skip (wanted_is (j := 11) (d := 31) (b := true) rfl rfl (At.hit z69.put.put.put rfl) rfl) ?_
      refine l_skip (wanted_is (j := 11) (d := 31) (b := true) rfl rfl ((At.hit z69.put.put.put rfl).ne rfl) rfl) ?_
      refine l_skip (wanted_is (j := 11) (d := 31) (b := true) rfl rfl (((At.hit z69.put.put.put rfl).ne rfl).ne rfl) rfl) ?_
      refine l_q rfl (q_pick (b := true) (.bool true) rfl ((((At.hit z69.put.put.put rfl).ne rfl).ne rfl).ne rfl).ev rfl ?_)
      refine l_fresh z69.put.put.put.put.put.put.put.put ?_
      intro a71 z71 m71
      have s0_71 := m71 _ _ ((((((((s0_69.ne rfl).ne rfl).ne rfl).ne rfl).ne rfl).ne rfl).ne rfl).ne rfl)
      have s1_71 := m71 _ _ ((((((((s1_69.ne rfl).ne rfl).ne rfl).ne rfl).ne rfl).ne rfl).ne rfl).ne rfl)
      have s2_71 := m71 _ _ ((((((((s2_69.ne rfl).ne rfl).ne rfl).ne rfl).ne rfl).ne rfl).ne rfl).ne rfl)
      have s35_71 := m71 _ _ (At.hit z69.put.put.put.put.put.put.put rfl)
      clear m71
      refine l_q rfl (q_move _ _ rfl s35_71.ev ?_)
      refine l_skip (wanted_is (j := 16) (d := 36) (b := true) rfl rfl (At.hit z71 rfl) rfl) ?_
      refine l_skip (wanted_is (j := 16) (d := 36) (b := true) rfl rfl ((At.hit z71 rfl).ne rfl) rfl) ?_
      refine l_skip (wanted_is (j := 16) (d := 36) (b := true) rfl rfl (((At.hit z71 rfl).ne rfl).ne rfl) rfl) ?_
      refine l_q rfl (q_pick (b := true) (.bool true) rfl ((((At.hit z71 rfl).ne rfl).ne rfl).ne rfl).ev rfl ?_)
      refine l_end ?_
      refine e_fresh z71.put.put.put.put.put ?_
      intro a72 z72 m72
      have s0_72 := m72 _ _ (((((s0_71.ne rfl).ne rfl).ne rfl).ne rfl).ne rfl)
      have s1_72 := m72 _ _ (((((s1_71.ne rfl).ne rfl).ne rfl).ne rfl).ne rfl)
      have s2_72 := m72 _ _ (((((s2_71.ne rfl).ne rfl).ne rfl).ne rfl).ne rfl)
      have s40_72 := m72 _ _ (At.hit z71.put.put.put.put rfl)
      have low72 := (((low3.trans h67).trans h68).trans h70)
      clear m72
      refine e_then ?_
      refine c_true s40_72 ?_
      refine c_seq ?_
      refine c_region ?_
      refine l_q rfl (q_assign _ _ rfl rfl ?_)
      refine l_end ?_
      refine e_fresh z72.put ?_
      intro a73 z73 m73
      have s6_73 := m73 _ _ (At.hit z72 rfl)
      clear m73
      refine e_then ?_
      refine wp_ret ?_
      refine ret_then ?_
      refine r_tmp rfl z73.defers s6_73 ?_
      exact ⟨rfl, low72⟩
  · skip
    refine c_region ?_
    refine l_q rfl (q_move _ _ rfl s0_3.ev ?_)
    refine l_q rfl (q_move _ _ rfl (s1_3.ne rfl).ev ?_)
    refine l_q rfl (q_move _ _ rfl ((s2_3.ne rfl).ne rfl).ev ?_)
    refine l_lit3 rfl rfl Tryd.underlying35 rec22 (((At.hit z3 rfl).ne rfl).ne rfl).ev ((At.hit z3.put rfl).ne rfl).ev (At.hit z3.put.put rfl).ev (RdF.one ovb_2) (RdF.one ovo_2) (RdF.one ovt_2) ?_
    intro g23_74 w74 hg74 k74 h74
    have geg23_74 := Nat.le_trans low3.ge hg74
    have ovb_74 := ovb_2.low h74
    have ovo_74 := ovo_2.low h74
    have ovt_74 := ovt_2.low h74
    have og23_74_74 := rdFF3 k74 ovb_74 ovo_74 ovt_74
    refine l_call (fun v w' => v = .bool false ∧ Low w74 w') rfl rfl rfl Tryd.func6 rfl (args1 rfl (At.hit z3.put.put.put rfl).ev) (((calls_bool (May.calls _ _ ([lb, lo, lt]) (by simp) _ og23_74_74) (eq_false_of_ne_true hb4))).mono fun _ _ ⟨e, k⟩ => ⟨_, e, rfl, k⟩) ?_
    rintro _ w75 ⟨rfl, h75⟩
    have kg23_74_75 := h75.blk k74
    have ovb_75 := ovb_74.low h75
    have ovo_75 := ovo_74.low h75
    have ovt_75 := ovt_74.low h75
    have oL74_75 := og23_74_74.low h75
    refine l_q rfl (q_not (b := false) rfl (At.hit z3.put.put.put.put rfl).ev ?_)
    refine l_q rfl (q_move _ _ rfl (At.hit z3.put.put.put.put.put rfl).ev ?_)
    refine l_skip (wanted_is (j := 6) (d := 26) (b := true) rfl rfl (At.hit z3.put.put.put.put.put.put rfl) rfl) ?_
    refine l_fresh z3.put.put.put.put.put.put.put.put ?_
    intro a76 z76 m76
    have s0_76 := m76 _ _ ((((((((s0_3.ne rfl).ne rfl).ne rfl).ne rfl).ne rfl).ne rfl).ne rfl).ne rfl)
    have s1_76 := m76 _ _ ((((((((s1_3.ne rfl).ne rfl).ne rfl).ne rfl).ne rfl).ne rfl).ne rfl).ne rfl)
    have s2_76 := m76 _ _ ((((((((s2_3.ne rfl).ne rfl).ne rfl).ne rfl).ne rfl).ne rfl).ne rfl).ne rfl)
    have s26_76 := m76 _ _ ((At.hit z3.put.put.put.put.put.put rfl).ne rfl)
    have s27_76 := m76 _ _ (At.hit z3.put.put.put.put.put.put.put rfl)
    clear m76
    refine l_skip (wanted_is (j := 6) (d := 26) (b := true) rfl rfl s26_76 rfl) ?_
    refine l_skip (wanted_is (j := 6) (d := 26) (b := true) rfl rfl (s26_76.ne rfl) rfl) ?_
    refine l_q rfl (q_pick (b := true) (.bool true) rfl ((s26_76.ne rfl).ne rfl).ev rfl ?_)
    refine l_q rfl (q_move _ _ rfl (At.hit z76.put.put rfl).ev ?_)
    refine l_skip (wanted_is (j := 11) (d := 31) (b := true) rfl rfl (At.hit z76.put.put.put rfl) rfl) ?_
    refine l_skip (wanted_is (j := 11) (d := 31) (b := true) rfl rfl ((At.hit z76.put.put.put rfl).ne rfl) rfl) ?_
    refine l_skip (wanted_is (j := 11) (d := 31) (b := true) rfl rfl (((At.hit z76.put.put.put rfl).ne rfl).ne rfl) rfl) ?_
    refine l_q rfl (q_pick (b := true) (.bool true) rfl ((((At.hit z76.put.put.put rfl).ne rfl).ne rfl).ne rfl).ev rfl ?_)
    refine l_fresh z76.put.put.put.put.put.put.put.put ?_
    intro a77 z77 m77
    have s0_77 := m77 _ _ ((((((((s0_76.ne rfl).ne rfl).ne rfl).ne rfl).ne rfl).ne rfl).ne rfl).ne rfl)
    have s1_77 := m77 _ _ ((((((((s1_76.ne rfl).ne rfl).ne rfl).ne rfl).ne rfl).ne rfl).ne rfl).ne rfl)
    have s2_77 := m77 _ _ ((((((((s2_76.ne rfl).ne rfl).ne rfl).ne rfl).ne rfl).ne rfl).ne rfl).ne rfl)
    have s35_77 := m77 _ _ (At.hit z76.put.put.put.put.put.put.put rfl)
    clear m77
    refine l_q rfl (q_move _ _ rfl s35_77.ev ?_)
    refine l_skip (wanted_is (j := 16) (d := 36) (b := true) rfl rfl (At.hit z77 rfl) rfl) ?_
    refine l_skip (wanted_is (j := 16) (d := 36) (b := true) rfl rfl ((At.hit z77 rfl).ne rfl) rfl) ?_
    refine l_skip (wanted_is (j := 16) (d := 36) (b := true) rfl rfl (((At.hit z77 rfl).ne rfl).ne rfl) rfl) ?_
    refine l_q rfl (q_pick (b := true) (.bool true) rfl ((((At.hit z77 rfl).ne rfl).ne rfl).ne rfl).ev rfl ?_)
    refine l_end ?_
    refine e_fresh z77.put.put.put.put.put ?_
    intro a78 z78 m78
    have s0_78 := m78 _ _ (((((s0_77.ne rfl).ne rfl).ne rfl).ne rfl).ne rfl)
    have s1_78 := m78 _ _ (((((s1_77.ne rfl).ne rfl).ne rfl).ne rfl).ne rfl)
    have s2_78 := m78 _ _ (((((s2_77.ne rfl).ne rfl).ne rfl).ne rfl).ne rfl)
    have s40_78 := m78 _ _ (At.hit z77.put.put.put.put rfl)
    have low78 := ((low3.trans h74).trans h75)
    clear m78
    refine e_then ?_
    refine c_true s40_78 ?_
    refine c_seq ?_
    refine c_region ?_
    refine l_q rfl (q_assign _ _ rfl rfl ?_)
    refine l_end ?_
    refine e_fresh z78.put ?_
    intro a79 z79 m79
    have s6_79 := m79 _ _ (At.hit z78 rfl)
    clear m79
    refine e_then ?_
    refine wp_ret ?_
    refine ret_then ?_
    refine r_tmp rfl z79.defers s6_79 ?_
    exact ⟨rfl, low78⟩
end Go.Proofs.YtenbgnlkkmnmhaaDoor.Q
end
/-! R0 -/
section
namespace Go.Proofs.YtenbgnlkkmnmhaaDoor.R
open Go.ChangeShapes Go.WideShapes Go.RowKit Go.Proofs.YtenbgnlkkmnmhaaDoorW.PrintWords
end Go.Proofs.YtenbgnlkkmnmhaaDoor.R
end
/-! R4 -/
section
namespace Go.Proofs.YtenbgnlkkmnmhaaDoor.R
open Go.ChangeShapes Go.WideShapes Go.RowKit Go.Joins Go.Deep Go.WideElems Go.Maps Go.Proofs.YtenbgnlkkmnmhaaDoor.Q
theorem open_leaves {H : Type} {enc : TypeId × Value → H} {P : Program} {W : World} {base : Nat} {spare : Nat → Bool} {held : Bool} {t e : TypeId} {f0 f1 f2 : Field} {a : Option Addr} {len cap : Nat} {d : DataW H} {ps : List MemPlace}
    (hu : P.underlying t = some (.slice e)) (hs : P.underlying e = some (.struct #[f0, f1, f2])) (hone : oneCellFields P #[f0, f1, f2] = true) (hC : P.cellsOf e = 3)
    (h0 : P.underlying f0.type = some .string) (h1 : P.underlying f1.type = some (.int .i64)) (h2 : P.underlying f2.type = some .string)
    (h : DataW.Trod enc P W base spare held t (.slice a len cap) d ps) :
    ∃ l : List LfL, RdF W 3 (.slice a len cap) l.length (l.map encL).flatten := by
  obtain ⟨fuel, hf⟩ := h
  rcases DataW.trod_slice hu hf with ⟨hcs, _⟩ | ⟨x, n, c, elems, rest, m, _, hcs, _, _, hl, hm, hlen, hel, _⟩
  · simp [Value.cells] at hcs
    obtain ⟨rfl, rfl, rfl⟩ := hcs
    exact ⟨[], (OwnF.nil W 0 0 3).rd⟩
  · simp [Value.cells] at hcs
    obtain ⟨rfl, rfl, rfl⟩ := hcs
    have each : ∀ i, i < len → ∃ y : LfL, ∀ k u, (encL y)[k]? = some u → W.cell? (x.add (i * 3 + k)) = some u := by
      intro i hi
      have hx : elems[i]? = some (elems[i]'(by omega)) := List.getElem?_eq_getElem (by omega)
      have hb := hel i hi
      rw [hx, Option.bind_eq_some_iff] at hb
      obtain ⟨cs, hcells, hd⟩ := hb
      obtain ⟨_, hln, hcell⟩ := World.cells?_some hcells
      rw [hC] at hln hcell
      match cs, hln with
      | [c0, c1, c2], _ =>
        obtain ⟨y0, y1, y2, q, _, _, g0, g1, g2⟩ := trod_struct3 hs hd
        obtain ⟨o0, k0⟩ := hone_of hone 0 f0 rfl
        obtain ⟨o1, k1⟩ := hone_of hone 1 f1 rfl
        obtain ⟨o2, k2⟩ := hone_of hone 2 f2 rfl
        obtain ⟨s0, e0, _, _⟩ := DataW.trod_string h0 (by simpa [o0, k0] using g0 : DataW.trod enc P W base spare held q f0.type [c0] = some y0)
        obtain ⟨s1, e1, _, _⟩ := DataW.trod_int h1 (by simpa [o1, k1] using g1 : DataW.trod enc P W base spare held q f1.type [c1] = some y1)
        obtain ⟨s2, e2, _, _⟩ := DataW.trod_string h2 (by simpa [o2, k2] using g2 : DataW.trod enc P W base spare held q f2.type [c2] = some y2)
        injection e0 with e0; injection e1 with e1; injection e2 with e2
        subst e0; subst e1; subst e2
        refine ⟨⟨s0, s1, s2⟩, fun k u hk => ?_⟩
        have hk3 : k < 3 := (List.getElem?_eq_some_iff.1 hk).1
        have := hcell k hk3
        rw [Addr.add_add] at this
        rw [this]
        exact hk
    let f : Fin len → LfL := fun i => Classical.choose (each i.val i.isLt)
    have hfs : ∀ i : Fin len, ∀ k u, (encL (f i))[k]? = some u → W.cell? (x.add (i.val * 3 + k)) = some u := fun i => Classical.choose_spec (each i.val i.isLt)
    have hlL : (List.ofFn f).length = len := by simp
    have hg : ∀ i, (hi : i < len) → (List.ofFn f).getD i zL = f ⟨i, hi⟩ := fun i hi => by simp [List.getD_eq_getElem?_getD, hi]
    have hall : ∀ j u, ((List.ofFn f).map encL).flatten[j]? = some u → W.cell? (x.add j) = some u := by
      intro j u hj
      have hlt : j < len * 3 := by
        have := (List.getElem?_eq_some_iff.1 hj).1
        rw [flat_len encL_len, hlL] at this
        exact this
      have hq : j / 3 < len := by omega
      have e : j = j / 3 * 3 + j % 3 := by omega
      rw [e, flat_at encL_len zL _ _ _ (by rw [hlL]; exact hq) (by omega), hg _ hq] at hj
      rw [e]
      exact hfs ⟨j / 3, hq⟩ _ _ hj
    refine ⟨List.ofFn f, ?_⟩
    rw [hlL]
    refine ⟨by rw [flat_len encL_len, hlL], some x, cap, rfl, hl, fun hp => ?_⟩
    have hc0 := hall 0 (.string ((List.ofFn f).getD 0 zL).f0) (by
      have := flat_at encL_len zL (List.ofFn f) 0 0 (by rw [hlL]; exact hp) (by decide)
      rw [Nat.zero_mul, Nat.add_zero] at this
      rw [this]
      rfl)
    have hx0 : x.add 0 = x := by simp [Addr.add]
    rw [hx0] at hc0
    have hsp := World.cell?_spot hc0
    obtain ⟨xb, xo, xs⟩ := x
    cases hsp
    exact ⟨xb, xo, rfl, World.block_lt_of_cell? _ _ hc0, fun j u hj => by rw [← Addr.add_mid]; exact hall j u hj⟩
end Go.Proofs.YtenbgnlkkmnmhaaDoor.R
end
/-! R5 -/
section
namespace Go.Proofs.YtenbgnlkkmnmhaaDoor.R
open Go.ChangeShapes Go.WideShapes Go.RowKit Go.Joins Go.Deep Go.WideElems Go.Maps Go.Proofs.YtenbgnlkkmnmhaaDoor.Q
theorem handed_and_shaped {H : Type} {enc : TypeId × Value → H} {a : Assume} {C : Checked} {os : Os} {f : FuncId} {fn : Func} {s : ChangeSpec} {conds : List PathCond} {apart fresh handsOn again : Bool} {X : World → Array Value → Prop}
    (hX : ∀ (w w' : World) (args : Array Value), w.heap = w'.heap → X w args → X w' args)
    (own : ownKnob C.prog.godebug = none) (started : os.Started) (noInit : C.prog.inits.idxOf? f = none) (hfn : C.prog.funcs[f]? = some fn)
    (witness : ∃ (w : World) (tape : Tape) (i : Input), w.os = os ∧ (w.forCall tape i).Shaped C.prog ∧ i.vars = [] ∧ Input.okWide C.prog (w.forCall tape i) .any w.heap.size f i ∧
      ((s.pre enc C.prog fn conds apart (w.forCall tape i).memory i.args ∧ X (w.forCall tape i).memory i.args) ∧ sizedMet enc C.prog fn (OpenSpec.ofChange s) apart (w.forCall tape i).memory i.args) ∧ a.holds C.prog (lone (Frame.enter C.prog f i.args .normal) [] (w.forCall tape i)))
    (contract : ∀ (W : World) (base : Nat) (args : Array Value) (ds gs : List (DataW H)) (before : List MemPlace),
      (∀ (j : Nat) t v, fn.params[j]? = some t → args[j]? = some v → Value.okWide C.prog W .any base t v) →
      DataW.Whole enc C.prog fn.params.toList s.vars apart W args.toList ds gs before →
      conds.all (PathCond.test C.prog ⟨fn.params.toList, ds, s.plain.varTypes C.prog, gs⟩) = true →
      (DataW.weightsEach C.prog (fn.params.toList ++ s.plain.varTypes C.prog) (ds ++ gs)).all (· ≤ reachBytes) = true → X W args → W.ShapedOpen C.prog →
      a.holds C.prog (lone (Frame.enter C.prog f args .normal) [] W) →
      Calls C.prog f args W fun e W' => ∃ v, e = .returned v ∧ s.post enc C.prog fn apart fresh handsOn again W args v W') :
    ReturnsInHanded a C os f .any (fun w args => (s.pre enc C.prog fn conds apart w args ∧ X w args) ∧ sizedMet enc C.prog fn (OpenSpec.ofChange s) apart w args) (s.post enc C.prog fn apart fresh handsOn again) := by
  refine returnsInHanded_of_calls own started noInit witness ?_
  intro w tape i _ hsh _ hok hpre hholds
  obtain ⟨_, _, _, fn', hfn', _, _, _, _, hval⟩ := hok
  have e : fn' = fn := Option.some.inj (hfn'.symm.trans hfn)
  subst e
  obtain ⟨⟨⟨ds, gs, before, hw, hc⟩, hx⟩, hz⟩ := hpre
  have hw' := DataW.Whole.of_heap (w' := w.forCall tape i) (by rfl) hw
  refine (contract (w.forCall tape i) w.heap.size i.args ds gs before hval hw' hc (hz.weights hw) (hX _ _ _ (by rfl) hx) hsh hholds).mono fun e W' ⟨v, he, hp⟩ => ?_
  subst he
  exact ChangeSpec.post_blind hp
theorem gd_shape {W : World} (h : W.ShapedOpen Tryd.prog) : Q.Gd W :=
  cell_of_shapedOpen_int (g := 0) (t := 3) (zero := #[.int .i64 0]) (k := .i64) h (of_decide_eq_true (by kernel_rfl)) (by kernel_rfl) rfl (by kernel_rfl) (by kernel_rfl) Tryd.underlying3
end Go.Proofs.YtenbgnlkkmnmhaaDoor.R
end
