/- Merged out of this session's texts by a program (wip/gen/merge.py): declarations that this claim doesn't name are left out. -/
import Derived.Test.YtnhchnlgleokoaaDoorMRefsOnce4
import Derived.ProofKit
import Derived.OpenShut
import Derived.SliceStrings
import Derived.SizedLaws
import Derived.Test.YtnhchnlgleokoaaDoorRows
import Derived.Handed
import Derived.Shelf.Vars
set_option linter.unusedVariables false
set_option linter.unusedSimpArgs false
/-! E8 -/
section
namespace Go.Proofs.YtnhchnlgleokoaaDoor.Q
open Go.RowKit
open Go.Proofs.YtnhchnlgleokoaaDoorW.PrintWords (bytesOf bytesOf_length)
set_option linter.unusedVariables false
set_option linter.unusedSimpArgs false
set_option maxRecDepth 100000
set_option maxHeartbeats 4000000
attribute [local irreducible] wpList wpQuiet qch Code.wp Oper.quiet Act.put At Region.wanted yielded
theorem RefsOnce_.calls (hd : ByteArray) (v : Value) (l : List Rf) (n xa xb : ByteArray) (vw : Value) (ws : List Sw) (w0 : World) (hv : RdF w0 2 v l.length (l.map encP).flatten) (hvw : RdF w0 3 vw ws.length (ws.map encW).flatten) (hG : Gd w0) : Calls Tryd.prog 5 #[.agg #[.string hd, v], .string n, .string xa, .string xb, vw] w0 fun e w' => e = .returned (.bool true) ∧ Low w0 w' := by
 refine c_fun (R := _) Tryd.func5 rfl 146 rfl (Nat.le_of_ble_eq_true rfl) ?_
 intro a z hA
 have s0 := hA 0 _ rfl
 have s1 := hA 1 _ rfl
 have s2 := hA 2 _ rfl
 have s3 := hA 3 _ rfl
 have s4 := hA 4 _ rfl
 clear hA
 refine c_seq (c_region (l_box rfl rfl s0.ev ?_))
 intro g5 w1 hg1 k1 h1
 have geg5 := Nat.le_trans (Low.refl _).ge hg1
 have ov_1 := hv.low h1
 have ovw_1 := hvw.low h1
 refine l_q rfl (q_assign _ _ rfl rfl ?_)
 refine l_end (e_fresh z.p2 ?_)
 intro a2 z2 m2
 have s1_2 := m2 _ _ (s1.n2)
 have s2_2 := m2 _ _ (s2.n2)
 have s3_2 := m2 _ _ (s3.n2)
 have s4_2 := m2 _ _ (s4.n2)
 have s5_2 := m2 _ _ ((At.hit z rfl).n1)
 have low2 := h1
 clear m2
 refine e_then (c_seq (c_seq (c_region (l_call (fun v w' => v = .bool true ∧ Low w1 w') rfl rfl rfl Tryd.func7 rfl (show Array.map _ _ = (#[] : Array Value) from by simp) ((Awake.calls _ (Gd.low hG low2)).mono fun _ _ ⟨e, k⟩ => ⟨_, e, rfl, k⟩) ?_))))
 rintro _ w3 ⟨rfl, h3⟩
 have kg5_3 := h3.blk k1
 have ov_3 := ov_1.low h3
 have ovw_3 := ovw_1.low h3
 refine l_q rfl (q_not (b := true) rfl (At.hit z2 rfl).ev ?_)
 refine l_end (e_fresh z2.p2 ?_)
 intro a4 z4 m4
 have s1_4 := m4 _ _ (s1_2.n2)
 have s2_4 := m4 _ _ (s2_2.n2)
 have s3_4 := m4 _ _ (s3_2.n2)
 have s4_4 := m4 _ _ (s4_2.n2)
 have s5_4 := m4 _ _ (s5_2.n2)
 have s25_4 := m4 _ _ (At.hit z2.put rfl)
 have low4 := (low2.trans h3)
 clear m4
 refine e_then (c_false s25_4 ?_)
 refine wp_skip (e_then (c_seq (c_seq ?_)))
 by_cases hb5 : fewB hd l = true
 ·
  skip
  by_cases hb6 : rightS hd l 1 = true
  ·
   skip
   by_cases hb7 : 50 < ws.length
   ·
    skip
    refine c_region ?_
    refine l_q rfl (q_row rfl Tryd.underlying24 rfl (sz24.trans (congrArg some rfl.symm)) s5_4.ev (fun _ e => by rw [e]; exact kg5_3) ?_)
    refine l_call (fun v w' => v = .bool true ∧ Low w3 w') rfl rfl rfl Tryd.func8 rfl (args1 rfl (At.hit z4 rfl).ev) (((calls_bool (Few.calls hd (v) l _ ov_3) hb5)).mono fun _ _ ⟨e, k⟩ => ⟨_, e, rfl, k⟩) ?_
    rintro _ w8 ⟨rfl, h8⟩
    have kg5_8 := h8.blk kg5_3
    have ov_8 := ov_3.low h8
    have ovw_8 := ovw_3.low h8
    refine l_q rfl (q_not (b := true) rfl (At.hit z4.put rfl).ev ?_)
    refine l_q rfl (q_move _ _ rfl (At.hit z4.p2 rfl).ev ?_)
    refine l_qg (wanted_is (j := 3) (d := 29) (b := false) rfl rfl (At.hit z4.p3 rfl) rfl) (q_row rfl Tryd.underlying24 rfl (sz24.trans (congrArg some rfl.symm)) (s5_4.n4).ev (fun _ e => by rw [e]; exact kg5_8) ?_)
    refine l_callg (fun v w' => v = .bool true ∧ Low w8 w') (wanted_is (j := 3) (d := 29) (b := false) rfl rfl ((At.hit z4.p3 rfl).n1) rfl) rfl rfl Tryd.func17 rfl (args2 rfl (At.hit z4.p4 rfl).ev rfl) (((calls_bool (RightS.calls hd (v) l (by have := (few_of hb5).1; omega) 1 _ ov_8 (Gd.low hG (low4.trans h8))) hb6)).mono fun _ _ ⟨e, k⟩ => ⟨_, e, rfl, k⟩) ?_
    rintro _ w9 ⟨rfl, h9⟩
    have kg5_9 := h9.blk kg5_8
    have ov_9 := ov_8.low h9
    have ovw_9 := ovw_8.low h9
    refine l_qg (wanted_is (j := 3) (d := 29) (b := false) rfl rfl ((At.hit z4.p3 rfl).n2) rfl) (q_not (b := true) rfl (At.hit z4.p5 rfl).ev ?_)
    refine l_q rfl (q_pick (b := false) (.bool false) rfl ((At.hit z4.p3 rfl).n3).ev (At.hit z4.p6 rfl).ev ?_)
    refine l_fresh z4.p8 ?_
    intro a10 z10 m10
    have s1_10 := m10 _ _ (s1_4.n8)
    have s2_10 := m10 _ _ (s2_4.n8)
    have s3_10 := m10 _ _ (s3_4.n8)
    have s4_10 := m10 _ _ (s4_4.n8)
    have s5_10 := m10 _ _ (s5_4.n8)
    have s33_10 := m10 _ _ (At.hit z4.p7 rfl)
    clear m10
    refine l_q rfl (q_move _ _ rfl s33_10.ev ?_)
    refine l_qg (wanted_is (j := 8) (d := 34) (b := false) rfl rfl (At.hit z10 rfl) rfl) (q_move _ _ rfl (s4_10.n1).ev ?_)
    refine l_qg (wanted_is (j := 8) (d := 34) (b := false) rfl rfl ((At.hit z10 rfl).n1) rfl) (q_lenF rfl rfl Tryd.underlying25 (At.hit z10.put rfl).ev ovw_9 ?_)
    refine l_qg (wanted_is (j := 8) (d := 34) (b := false) rfl rfl ((At.hit z10 rfl).n2) rfl) (q_gtr true rfl (At.hit z10.p2 rfl).ev rfl (decide_eq_true (by omega)) ?_)
    refine l_q rfl (q_pick (b := false) (.bool true) rfl ((At.hit z10 rfl).n3).ev (At.hit z10.p3 rfl).ev ?_)
    refine l_q rfl (q_move _ _ rfl (At.hit z10.p4 rfl).ev ?_)
    refine l_skip (wanted_is (j := 13) (d := 39) (b := true) rfl rfl (At.hit z10.p5 rfl) rfl) ?_
    refine l_skip (wanted_is (j := 13) (d := 39) (b := true) rfl rfl ((At.hit z10.p5 rfl).n1) rfl) ?_
    refine l_fresh z10.p8 ?_
    intro a11 z11 m11
    have s1_11 := m11 _ _ (s1_10.n8)
    have s2_11 := m11 _ _ (s2_10.n8)
    have s3_11 := m11 _ _ (s3_10.n8)
    have s4_11 := m11 _ _ (s4_10.n8)
    have s5_11 := m11 _ _ (s5_10.n8)
    have s39_11 := m11 _ _ ((At.hit z10.p5 rfl).n2)
    have s41_11 := m11 _ _ (At.hit z10.p7 rfl)
    clear m11
    refine l_skip (wanted_is (j := 13) (d := 39) (b := true) rfl rfl s39_11 rfl) ?_
    refine l_q rfl (q_pick (b := true) (.bool true) rfl (s39_11.n1).ev rfl ?_)
    refine l_end (e_fresh z11.p2 ?_)
    intro a12 z12 m12
    have s1_12 := m12 _ _ (s1_11.n2)
    have s2_12 := m12 _ _ (s2_11.n2)
    have s3_12 := m12 _ _ (s3_11.n2)
    have s4_12 := m12 _ _ (s4_11.n2)
    have s5_12 := m12 _ _ (s5_11.n2)
    have s43_12 := m12 _ _ (At.hit z11.put rfl)
    have low12 := ((low4.trans h8).trans h9)
    clear m12
    refine e_then (c_true s43_12 ?_)
    refine c_seq (c_region ?_)
    refine l_q rfl (q_assign _ _ rfl rfl ?_)
    refine l_end (e_fresh z12.put ?_)
    intro a13 z13 m13
    have s10_13 := m13 _ _ (At.hit z12 rfl)
    clear m13
    refine e_then (wp_ret (ret_then (r_tmp rfl z13.defers s10_13 ?_)))
    exact ⟨rfl, low12⟩
   ·
    skip
    by_cases hb14 : 200 < n.size
    ·
     skip
     refine c_region ?_
     refine l_q rfl (q_row rfl Tryd.underlying24 rfl (sz24.trans (congrArg some rfl.symm)) s5_4.ev (fun _ e => by rw [e]; exact kg5_3) ?_)
     refine l_call (fun v w' => v = .bool true ∧ Low w3 w') rfl rfl rfl Tryd.func8 rfl (args1 rfl (At.hit z4 rfl).ev) (((calls_bool (Few.calls hd (v) l _ ov_3) hb5)).mono fun _ _ ⟨e, k⟩ => ⟨_, e, rfl, k⟩) ?_
     rintro _ w15 ⟨rfl, h15⟩
     have kg5_15 := h15.blk kg5_3
     have ov_15 := ov_3.low h15
     have ovw_15 := ovw_3.low h15
     refine l_q rfl (q_not (b := true) rfl (At.hit z4.put rfl).ev ?_)
     refine l_q rfl (q_move _ _ rfl (At.hit z4.p2 rfl).ev ?_)
     refine l_qg (wanted_is (j := 3) (d := 29) (b := false) rfl rfl (At.hit z4.p3 rfl) rfl) (q_row rfl Tryd.underlying24 rfl (sz24.trans (congrArg some rfl.symm)) (s5_4.n4).ev (fun _ e => by rw [e]; exact kg5_15) ?_)
     refine l_callg (fun v w' => v = .bool true ∧ Low w15 w') (wanted_is (j := 3) (d := 29) (b := false) rfl rfl ((At.hit z4.p3 rfl).n1) rfl) rfl rfl Tryd.func17 rfl (args2 rfl (At.hit z4.p4 rfl).ev rfl) (((calls_bool (RightS.calls hd (v) l (by have := (few_of hb5).1; omega) 1 _ ov_15 (Gd.low hG (low4.trans h15))) hb6)).mono fun _ _ ⟨e, k⟩ => ⟨_, e, rfl, k⟩) ?_
     rintro _ w16 ⟨rfl, h16⟩
     have kg5_16 := h16.blk kg5_15
     have ov_16 := ov_15.low h16
     have ovw_16 := ovw_15.low h16
     refine l_qg (wanted_is (j := 3) (d := 29) (b := false) rfl rfl ((At.hit z4.p3 rfl).n2) rfl) (q_not (b := true) rfl (At.hit z4.p5 rfl).ev ?_)
     refine l_q rfl (q_pick (b := false) (.bool false) rfl ((At.hit z4.p3 rfl).n3).ev (At.hit z4.p6 rfl).ev ?_)
     refine l_fresh z4.p8 ?_
     intro a17 z17 m17
     have s1_17 := m17 _ _ (s1_4.n8)
     have s2_17 := m17 _ _ (s2_4.n8)
     have s3_17 := m17 _ _ (s3_4.n8)
     have s4_17 := m17 _ _ (s4_4.n8)
     have s5_17 := m17 _ _ (s5_4.n8)
     have s33_17 := m17 _ _ (At.hit z4.p7 rfl)
     clear m17
     refine l_q rfl (q_move _ _ rfl s33_17.ev ?_)
     refine l_qg (wanted_is (j := 8) (d := 34) (b := false) rfl rfl (At.hit z17 rfl) rfl) (q_move _ _ rfl (s4_17.n1).ev ?_)
     refine l_qg (wanted_is (j := 8) (d := 34) (b := false) rfl rfl ((At.hit z17 rfl).n1) rfl) (q_lenF rfl rfl Tryd.underlying25 (At.hit z17.put rfl).ev ovw_16 ?_)
     refine l_qg (wanted_is (j := 8) (d := 34) (b := false) rfl rfl ((At.hit z17 rfl).n2) rfl) (q_gtr false rfl (At.hit z17.p2 rfl).ev rfl (decide_eq_false (by omega)) ?_)
     refine l_q rfl (q_pick (b := false) (.bool false) rfl ((At.hit z17 rfl).n3).ev (At.hit z17.p3 rfl).ev ?_)
     refine l_q rfl (q_move _ _ rfl (At.hit z17.p4 rfl).ev ?_)
     refine l_qg (wanted_is (j := 13) (d := 39) (b := false) rfl rfl (At.hit z17.p5 rfl) rfl) (q_move _ _ rfl (s1_17.n6).ev ?_)
     refine l_qg (wanted_is (j := 13) (d := 39) (b := false) rfl rfl ((At.hit z17.p5 rfl).n1) rfl) (q_len rfl rfl Tryd.underlying9 (At.hit z17.p6 rfl).ev ?_)
     refine l_fresh z17.p8 ?_
     intro a18 z18 m18
     have s1_18 := m18 _ _ (s1_17.n8)
     have s2_18 := m18 _ _ (s2_17.n8)
     have s3_18 := m18 _ _ (s3_17.n8)
     have s4_18 := m18 _ _ (s4_17.n8)
     have s5_18 := m18 _ _ (s5_17.n8)
     have s39_18 := m18 _ _ ((At.hit z17.p5 rfl).n2)
     have s41_18 := m18 _ _ (At.hit z17.p7 rfl)
     clear m18
     refine l_qg (wanted_is (j := 13) (d := 39) (b := false) rfl rfl s39_18 rfl) (q_gtr true rfl s41_18.ev rfl (decide_eq_true (by omega)) ?_)
     refine l_q rfl (q_pick (b := false) (.bool true) rfl (s39_18.n1).ev (At.hit z18 rfl).ev ?_)
     refine l_end (e_fresh z18.p2 ?_)
     intro a19 z19 m19
     have s1_19 := m19 _ _ (s1_18.n2)
     have s2_19 := m19 _ _ (s2_18.n2)
     have s3_19 := m19 _ _ (s3_18.n2)
     have s4_19 := m19 _ _ (s4_18.n2)
     have s5_19 := m19 _ _ (s5_18.n2)
     have s43_19 := m19 _ _ (At.hit z18.put rfl)
     have low19 := ((low4.trans h15).trans h16)
     clear m19
     refine e_then (c_true s43_19 ?_)
     refine c_seq (c_region ?_)
     refine l_q rfl (q_assign _ _ rfl rfl ?_)
     refine l_end (e_fresh z19.put ?_)
     intro a20 z20 m20
     have s10_20 := m20 _ _ (At.hit z19 rfl)
     clear m20
     refine e_then (wp_ret (ret_then (r_tmp rfl z20.defers s10_20 ?_)))
     exact ⟨rfl, low19⟩
    ·
     skip
     refine c_region ?_
     refine l_q rfl (q_row rfl Tryd.underlying24 rfl (sz24.trans (congrArg some rfl.symm)) s5_4.ev (fun _ e => by rw [e]; exact kg5_3) ?_)
     refine l_call (fun v w' => v = .bool true ∧ Low w3 w') rfl rfl rfl Tryd.func8 rfl (args1 rfl (At.hit z4 rfl).ev) (((calls_bool (Few.calls hd (v) l _ ov_3) hb5)).mono fun _ _ ⟨e, k⟩ => ⟨_, e, rfl, k⟩) ?_
     rintro _ w21 ⟨rfl, h21⟩
     have kg5_21 := h21.blk kg5_3
     have ov_21 := ov_3.low h21
     have ovw_21 := ovw_3.low h21
     refine l_q rfl (q_not (b := true) rfl (At.hit z4.put rfl).ev ?_)
     refine l_q rfl (q_move _ _ rfl (At.hit z4.p2 rfl).ev ?_)
     refine l_qg (wanted_is (j := 3) (d := 29) (b := false) rfl rfl (At.hit z4.p3 rfl) rfl) (q_row rfl Tryd.underlying24 rfl (sz24.trans (congrArg some rfl.symm)) (s5_4.n4).ev (fun _ e => by rw [e]; exact kg5_21) ?_)
     refine l_callg (fun v w' => v = .bool true ∧ Low w21 w') (wanted_is (j := 3) (d := 29) (b := false) rfl rfl ((At.hit z4.p3 rfl).n1) rfl) rfl rfl Tryd.func17 rfl (args2 rfl (At.hit z4.p4 rfl).ev rfl) (((calls_bool (RightS.calls hd (v) l (by have := (few_of hb5).1; omega) 1 _ ov_21 (Gd.low hG (low4.trans h21))) hb6)).mono fun _ _ ⟨e, k⟩ => ⟨_, e, rfl, k⟩) ?_
     rintro _ w22 ⟨rfl, h22⟩
     have kg5_22 := h22.blk kg5_21
     have ov_22 := ov_21.low h22
     have ovw_22 := ovw_21.low h22
     refine l_qg (wanted_is (j := 3) (d := 29) (b := false) rfl rfl ((At.hit z4.p3 rfl).n2) rfl) (q_not (b := true) rfl (At.hit z4.p5 rfl).ev ?_)
     refine l_q rfl (q_pick (b := false) (.bool false) rfl ((At.hit z4.p3 rfl).n3).ev (At.hit z4.p6 rfl).ev ?_)
     refine l_fresh z4.p8 ?_
     intro a23 z23 m23
     have s1_23 := m23 _ _ (s1_4.n8)
     have s2_23 := m23 _ _ (s2_4.n8)
     have s3_23 := m23 _ _ (s3_4.n8)
     have s4_23 := m23 _ _ (s4_4.n8)
     have s5_23 := m23 _ _ (s5_4.n8)
     have s33_23 := m23 _ _ (At.hit z4.p7 rfl)
     clear m23
     refine l_q rfl (q_move _ _ rfl s33_23.ev ?_)
     refine l_qg (wanted_is (j := 8) (d := 34) (b := false) rfl rfl (At.hit z23 rfl) rfl) (q_move _ _ rfl (s4_23.n1).ev ?_)
     refine l_qg (wanted_is (j := 8) (d := 34) (b := false) rfl rfl ((At.hit z23 rfl).n1) rfl) (q_lenF rfl rfl Tryd.underlying25 (At.hit z23.put rfl).ev ovw_22 ?_)
     refine l_qg (wanted_is (j := 8) (d := 34) (b := false) rfl rfl ((At.hit z23 rfl).n2) rfl) (q_gtr false rfl (At.hit z23.p2 rfl).ev rfl (decide_eq_false (by omega)) ?_)
     refine l_q rfl (q_pick (b := false) (.bool false) rfl ((At.hit z23 rfl).n3).ev (At.hit z23.p3 rfl).ev ?_)
     refine l_q rfl (q_move _ _ rfl (At.hit z23.p4 rfl).ev ?_)
     refine l_qg (wanted_is (j := 13) (d := 39) (b := false) rfl rfl (At.hit z23.p5 rfl) rfl) (q_move _ _ rfl (s1_23.n6).ev ?_)
     refine l_qg (wanted_is (j := 13) (d := 39) (b := false) rfl rfl ((At.hit z23.p5 rfl).n1) rfl) (q_len rfl rfl Tryd.underlying9 (At.hit z23.p6 rfl).ev ?_)
     refine l_fresh z23.p8 ?_
     intro a24 z24 m24
     have s1_24 := m24 _ _ (s1_23.n8)
     have s2_24 := m24 _ _ (s2_23.n8)
     have s3_24 := m24 _ _ (s3_23.n8)
     have s4_24 := m24 _ _ (s4_23.n8)
     have s5_24 := m24 _ _ (s5_23.n8)
     have s39_24 := m24 _ _ ((At.hit z23.p5 rfl).n2)
     have s41_24 := m24 _ _ (At.hit z23.p7 rfl)
     clear m24
     refine l_qg (wanted_is (j := 13) (d := 39) (b := false) rfl rfl s39_24 rfl) (q_gtr false rfl s41_24.ev rfl (decide_eq_false (by omega)) ?_)
     refine l_q rfl (q_pick (b := false) (.bool false) rfl (s39_24.n1).ev (At.hit z24 rfl).ev ?_)
     refine l_end (e_fresh z24.p2 ?_)
     intro a25 z25 m25
     have s1_25 := m25 _ _ (s1_24.n2)
     have s2_25 := m25 _ _ (s2_24.n2)
     have s3_25 := m25 _ _ (s3_24.n2)
     have s4_25 := m25 _ _ (s4_24.n2)
     have s5_25 := m25 _ _ (s5_24.n2)
     have s43_25 := m25 _ _ (At.hit z24.put rfl)
     have low25 := ((low4.trans h21).trans h22)
     clear m25
     refine e_then (c_false s43_25 ?_)
     refine wp_skip (e_then (c_seq ?_))
     obtain ⟨hl60, hh2, hfw⟩ := few_of hb5
     obtain ⟨_, hhn, hl1k, hok⟩ := rightS_iff.1 hb6
     have hok : OkP l (nsize 1) := hok
     have hr := ok_rise hok
     have hf := ok_full hok (by decide)
     refine c_region ?_
     refine l_q rfl (q_row rfl Tryd.underlying24 rfl (sz24.trans (congrArg some rfl.symm)) s5_25.ev (fun _ e => by rw [e]; exact kg5_22) ?_)
     refine l_q rfl (q_move _ _ rfl (s1_25.n1).ev ?_)
     refine l_call (fun v w' => v = .string (getL l n) ∧ Low w22 w') rfl rfl rfl Tryd.func15 rfl (args2 rfl ((At.hit z25 rfl).n1).ev (At.hit z25.put rfl).ev) ((Get.calls hd (v) l (by have := setP_len l n xa; omega) n _ ov_22).mono fun _ _ ⟨e, k⟩ => ⟨_, e, rfl, k⟩) ?_
     rintro _ w26 ⟨rfl, h26⟩
     have kg5_26 := h26.blk kg5_22
     have ov_26 := ov_22.low h26
     have ovw_26 := ovw_22.low h26
     refine l_q rfl (q_assign _ _ rfl (At.hit z25.p2 rfl).ev ?_)
     refine l_end (e_fresh z25.p4 ?_)
     intro a27 z27 m27
     have s1_27 := m27 _ _ (s1_25.n4)
     have s2_27 := m27 _ _ (s2_25.n4)
     have s3_27 := m27 _ _ (s3_25.n4)
     have s4_27 := m27 _ _ (s4_25.n4)
     have s5_27 := m27 _ _ (s5_25.n4)
     have s11_27 := m27 _ _ (At.hit z25.p3 rfl)
     have low27 := (low25.trans h26)
     clear m27
     refine e_then (c_seq ?_)
     by_cases hb28 : errP (nsize 1) l ⟨n, getL l n, xa⟩ = 0
     ·
      skip
      refine c_region ?_
      refine l_q rfl (q_row rfl Tryd.underlying24 rfl (sz24.trans (congrArg some rfl.symm)) s5_27.ev (fun _ e => by rw [e]; exact kg5_26) ?_)
      refine l_q rfl (q_move _ _ rfl (s1_27.n1).ev ?_)
      refine l_q rfl (q_move _ _ rfl (s11_27.n2).ev ?_)
      refine l_q rfl (q_move _ _ rfl (s2_27.n3).ev ?_)
      refine l_q rfl (q_build (ps := #[(0, .string n), (1, .string (getL l n)), (2, .string xa)]) rfl (parts3 ((At.hit z27.put rfl).n2).ev ((At.hit z27.p2 rfl).n1).ev (At.hit z27.p3 rfl).ev) (built32_012 n (getL l n) xa) ?_)
      refine l_buildF (vs := [.string n, .string (getL l n), .string xa]) rfl rfl Tryd.underlying25 rec32 (At.hit z27.p4 rfl).ev rfl rfl (by decide) (by decide) ?_
      intro g53_29 w29 hg29 k29 h29
      have lt_g5_g53_29 := Nat.lt_of_lt_of_le (heap_lt kg5_26) hg29
      have geg53_29 := Nat.le_trans low27.ge hg29
      have kg5_29 := h29.blk kg5_26
      have ov_29 := ov_26.low h29
      have ovw_29 := ovw_26.low h29
      have ol29 : RdF w29 3 (.slice (some ⟨g53_29, 0, none⟩) 1 1) ([(⟨n, getL l n, xa⟩ : Sw)]).length ([(⟨n, getL l n, xa⟩ : Sw)].map encW).flatten := rdF_rec k29 rfl
      refine l_call _ rfl rfl rfl Tryd.func11 rfl (args3 rfl ((At.hit z27 rfl).n5).ev rfl (At.hit z27.p5 rfl).ev) (ApplyR.calls hd (v) l 1 (.slice (some ⟨g53_29, 0, none⟩) 1 1) ([(⟨n, getL l n, xa⟩ : Sw)]) (by have := setP_len l n xa; simp; omega) (H := hd) (L := (setP l n xa)) (E := 0) (ap1_ok hd hb28) _ ov_29 ol29 (Gd.low hG (low27.trans h29))) ?_
      rintro _ w30 ⟨⟨x30, rfl, o30⟩, h30⟩
      replace o30 := o30.base (low27.trans h29).ge
      have kg5_30 := h30.blk kg5_29
      have kg53_29_30 := h30.blk k29
      have ov_30 := ov_29.low h30
      have ovw_30 := ovw_29.low h30
      have oL29_30 := ol29.low h30
      refine l_q rfl (q_move _ _ rfl (At.hit z27.p6 rfl).ev ?_)
      refine l_fresh z27.p8 ?_
      intro a31 z31 m31
      have s1_31 := m31 _ _ (s1_27.n8)
      have s2_31 := m31 _ _ (s2_27.n8)
      have s3_31 := m31 _ _ (s3_27.n8)
      have s4_31 := m31 _ _ (s4_27.n8)
      have s5_31 := m31 _ _ (s5_27.n8)
      have s11_31 := m31 _ _ (s11_27.n8)
      have s47_31 := m31 _ _ (At.hit z27.p7 rfl)
      clear m31
      refine l_q rfl (q_extract rfl s47_31.ev rfl ?_)
      refine l_q rfl (q_extract rfl (s47_31.n1).ev rfl ?_)
      refine l_alloc rfl rfl zero24 ?_
      intro g12 w32 hg32 k32 h32
      have lt_g5_g12 := Nat.lt_of_lt_of_le (heap_lt kg5_30) hg32
      have lt_g53_29_g12 := Nat.lt_of_lt_of_le (heap_lt kg53_29_30) hg32
      have geg12 := Nat.le_trans ((low27.trans h29).trans h30).ge hg32
      have kg5_32 := h32.blk kg5_30
      have kg53_29_32 := h32.blk kg53_29_30
      have ov_32 := ov_30.low h32
      have ovw_32 := ovw_30.low h32
      have oL29_32 := oL29_30.low h32
      have oz30_32 := o30.low h32
      refine l_row rfl rfl rfl (sz24.trans (congrArg some rfl)) (At.hit z31.p2 rfl).ev ((At.hit z31 rfl).n2).ev (one2 _ (RdF.one oz30_32.rd)) k32 rfl ?_
      intro w33 k33 u33
      have oz30_33 := oz30_32.upd u33 k32 rfl
      have kg5_33 := u33.blk kg5_32 (by omega)
      have kg53_29_33 := u33.blk kg53_29_32 (by omega)
      refine l_q rfl (q_assign _ _ rfl ((At.hit z31.put rfl).n1).ev ?_)
      refine l_end (e_fresh z31.p4 ?_)
      intro a34 z34 m34
      have s1_34 := m34 _ _ (s1_31.n4)
      have s2_34 := m34 _ _ (s2_31.n4)
      have s3_34 := m34 _ _ (s3_31.n4)
      have s4_34 := m34 _ _ (s4_31.n4)
      have s5_34 := m34 _ _ (s5_31.n4)
      have s11_34 := m34 _ _ (s11_31.n4)
      have s12_34 := m34 _ _ ((At.hit z31.p2 rfl).n1)
      have s13_34 := m34 _ _ (At.hit z31.p3 rfl)
      have low34 := ((((low27.trans h29).trans h30).trans h32).upd u33 geg12)
      clear m34
      refine e_then (c_seq (c_seq (c_region ?_)))
      refine l_q rfl (q_move _ _ rfl s13_34.ev ?_)
      refine l_q rfl (q_eql true rfl (At.hit z34 rfl).ev rfl (decide_eq_true rfl) ?_)
      refine l_end (e_fresh z34.p2 ?_)
      intro a35 z35 m35
      have s1_35 := m35 _ _ (s1_34.n2)
      have s2_35 := m35 _ _ (s2_34.n2)
      have s3_35 := m35 _ _ (s3_34.n2)
      have s4_35 := m35 _ _ (s4_34.n2)
      have s5_35 := m35 _ _ (s5_34.n2)
      have s11_35 := m35 _ _ (s11_34.n2)
      have s12_35 := m35 _ _ (s12_34.n2)
      have s58_35 := m35 _ _ (At.hit z34.put rfl)
      clear m35
      refine e_then (c_true s58_35 ?_)
      refine c_seq (c_seq ?_)
      obtain ⟨hn1, hx1, _⟩ := errP_0 hb28
      have hback : errP (nsize 1) (setP l n xa) ⟨n, xa, getL l n⟩ = 0 := errP_ok hn1 (fun c => (ok_get hok c).2) (get_set hr n xa)
      refine c_region ?_
      refine l_q rfl (q_row rfl Tryd.underlying24 rfl (sz24.trans (congrArg some rfl.symm)) s12_35.ev (fun _ e => by rw [e]; exact k33) ?_)
      refine l_q rfl (q_move _ _ rfl (s1_35.n1).ev ?_)
      refine l_call (fun v w' => v = .string (getL (setP l n xa) n) ∧ Low w33 w') rfl rfl rfl Tryd.func15 rfl (args2 rfl ((At.hit z35 rfl).n1).ev (At.hit z35.put rfl).ev) ((Get.calls hd (x30) (setP l n xa) (by have := setP_len l n xa; omega) n _ oz30_33.rd).mono fun _ _ ⟨e, k⟩ => ⟨_, e, rfl, k⟩) ?_
      rintro _ w36 ⟨rfl, h36⟩
      have kg5_36 := h36.blk kg5_33
      have kg12_36 := h36.blk k33
      have ov_36 := (hv.low ((((low27.trans h29).trans h30).trans h32).upd u33 geg12)).low h36
      have ovw_36 := (hvw.low ((((low27.trans h29).trans h30).trans h32).upd u33 geg12)).low h36
      have oz30_36 := oz30_33.low h36
      refine l_q rfl (q_move _ _ rfl (s2_35.n3).ev ?_)
      refine l_q rfl (q_strne false rfl ((At.hit z35.p2 rfl).n1).ev (At.hit z35.p3 rfl).ev (neF (get_set hr n xa)) ?_)
      refine l_q rfl (q_move _ _ rfl (At.hit z35.p4 rfl).ev ?_)
      refine l_qg (wanted_is (j := 5) (d := 64) (b := false) rfl rfl (At.hit z35.p5 rfl) rfl) (q_fld 0 rfl (by kernel_rfl) (s12_35.n6).ev ?_)
      refine l_qg (wanted_is (j := 5) (d := 64) (b := false) rfl rfl ((At.hit z35.p5 rfl).n1) rfl) (q_cellT (.string hd) rfl Tryd.underlying9 (At.hit z35.p6 rfl).ev (fun _ e => by rw [e]; exact (cells_at kg12_36 0).trans rfl) ?_)
      refine l_fresh z35.p8 ?_
      intro a37 z37 m37
      have s1_37 := m37 _ _ (s1_35.n8)
      have s2_37 := m37 _ _ (s2_35.n8)
      have s3_37 := m37 _ _ (s3_35.n8)
      have s4_37 := m37 _ _ (s4_35.n8)
      have s5_37 := m37 _ _ (s5_35.n8)
      have s11_37 := m37 _ _ (s11_35.n8)
      have s12_37 := m37 _ _ (s12_35.n8)
      have s64_37 := m37 _ _ ((At.hit z35.p5 rfl).n2)
      have s66_37 := m37 _ _ (At.hit z35.p7 rfl)
      clear m37
      refine l_qg (wanted_is (j := 5) (d := 64) (b := false) rfl rfl s64_37 rfl) (q_fld 0 rfl (by kernel_rfl) s5_37.ev ?_)
      refine l_qg (wanted_is (j := 5) (d := 64) (b := false) rfl rfl (s64_37.n1) rfl) (q_cellT (.string hd) rfl Tryd.underlying9 (At.hit z37 rfl).ev (fun _ e => by rw [e]; exact (cells_at kg5_36 0).trans rfl) ?_)
      refine l_qg (wanted_is (j := 5) (d := 64) (b := false) rfl rfl (s64_37.n2) rfl) (q_strne false rfl (s66_37.n2).ev (At.hit z37.put rfl).ev (neF rfl) ?_)
      refine l_q rfl (q_pick (b := false) (.bool false) rfl (s64_37.n3).ev (At.hit z37.p2 rfl).ev ?_)
      refine l_end (e_fresh z37.p4 ?_)
      intro a38 z38 m38
      have s1_38 := m38 _ _ (s1_37.n4)
      have s2_38 := m38 _ _ (s2_37.n4)
      have s3_38 := m38 _ _ (s3_37.n4)
      have s4_38 := m38 _ _ (s4_37.n4)
      have s5_38 := m38 _ _ (s5_37.n4)
      have s11_38 := m38 _ _ (s11_37.n4)
      have s12_38 := m38 _ _ (s12_37.n4)
      have s70_38 := m38 _ _ (At.hit z37.p3 rfl)
      have low38 := (low34.trans h36)
      clear m38
      refine e_then (c_false s70_38 ?_)
      refine wp_skip (e_then (c_seq (c_seq ?_)))
      by_cases hb39 : errP (nsize 1) (setP l n xa) ⟨n, getL l n, xb⟩ = 0
      ·
       skip
       refine c_region ?_
       refine l_q rfl (q_row rfl Tryd.underlying24 rfl (sz24.trans (congrArg some rfl.symm)) s12_38.ev (fun _ e => by rw [e]; exact kg12_36) ?_)
       refine l_q rfl (q_move _ _ rfl (s1_38.n1).ev ?_)
       refine l_q rfl (q_move _ _ rfl (s11_38.n2).ev ?_)
       refine l_q rfl (q_move _ _ rfl (s3_38.n3).ev ?_)
       refine l_q rfl (q_build (ps := #[(0, .string n), (1, .string (getL l n)), (2, .string xb)]) rfl (parts3 ((At.hit z38.put rfl).n2).ev ((At.hit z38.p2 rfl).n1).ev (At.hit z38.p3 rfl).ev) (built32_012 n (getL l n) xb) ?_)
       refine l_buildF (vs := [.string n, .string (getL l n), .string xb]) rfl rfl Tryd.underlying25 rec32 (At.hit z38.p4 rfl).ev rfl rfl (by decide) (by decide) ?_
       intro g77_40 w40 hg40 k40 h40
       have lt_g5_g77_40 := Nat.lt_of_lt_of_le (heap_lt kg5_36) hg40
       have lt_g12_g77_40 := Nat.lt_of_lt_of_le (heap_lt kg12_36) hg40
       have geg77_40 := Nat.le_trans low38.ge hg40
       have kg5_40 := h40.blk kg5_36
       have kg12_40 := h40.blk kg12_36
       have ov_40 := ov_36.low h40
       have ovw_40 := ovw_36.low h40
       have oz30_40 := oz30_36.low h40
       have ol40 : RdF w40 3 (.slice (some ⟨g77_40, 0, none⟩) 1 1) ([(⟨n, getL l n, xb⟩ : Sw)]).length ([(⟨n, getL l n, xb⟩ : Sw)].map encW).flatten := rdF_rec k40 rfl
       refine l_call _ rfl rfl rfl Tryd.func11 rfl (args3 rfl ((At.hit z38 rfl).n5).ev rfl (At.hit z38.p5 rfl).ev) (ApplyR.calls hd (x30) (setP l n xa) 1 (.slice (some ⟨g77_40, 0, none⟩) 1 1) ([(⟨n, getL l n, xb⟩ : Sw)]) (by have := setP_len l n xa; simp; omega) (H := hd) (L := (setP (setP l n xa) n xb)) (E := 0) (ap1_ok hd hb39) _ oz30_40.rd ol40 (Gd.low hG (low38.trans h40))) ?_
       rintro _ w41 ⟨⟨x41, rfl, o41⟩, h41⟩
       replace o41 := o41.base (low38.trans h40).ge
       have kg5_41 := h41.blk kg5_40
       have kg12_41 := h41.blk kg12_40
       have kg77_40_41 := h41.blk k40
       have ov_41 := ov_40.low h41
       have ovw_41 := ovw_40.low h41
       have oz30_41 := oz30_40.low h41
       have oL40_41 := ol40.low h41
       refine l_q rfl (q_move _ _ rfl (At.hit z38.p6 rfl).ev ?_)
       refine l_fresh z38.p8 ?_
       intro a42 z42 m42
       have s1_42 := m42 _ _ (s1_38.n8)
       have s2_42 := m42 _ _ (s2_38.n8)
       have s4_42 := m42 _ _ (s4_38.n8)
       have s5_42 := m42 _ _ (s5_38.n8)
       have s11_42 := m42 _ _ (s11_38.n8)
       have s12_42 := m42 _ _ (s12_38.n8)
       have s71_42 := m42 _ _ (At.hit z38.p7 rfl)
       clear m42
       refine l_q rfl (q_extract rfl s71_42.ev rfl ?_)
       refine l_q rfl (q_extract rfl (s71_42.n1).ev rfl ?_)
       refine l_alloc rfl rfl zero24 ?_
       intro g14 w43 hg43 k43 h43
       have lt_g5_g14 := Nat.lt_of_lt_of_le (heap_lt kg5_41) hg43
       have lt_g12_g14 := Nat.lt_of_lt_of_le (heap_lt kg12_41) hg43
       have lt_g77_40_g14 := Nat.lt_of_lt_of_le (heap_lt kg77_40_41) hg43
       have geg14 := Nat.le_trans ((low38.trans h40).trans h41).ge hg43
       have kg5_43 := h43.blk kg5_41
       have kg12_43 := h43.blk kg12_41
       have kg77_40_43 := h43.blk kg77_40_41
       have ov_43 := ov_41.low h43
       have ovw_43 := ovw_41.low h43
       have oz30_43 := oz30_41.low h43
       have oL40_43 := oL40_41.low h43
       have oz41_43 := o41.low h43
       refine l_row rfl rfl rfl (sz24.trans (congrArg some rfl)) (At.hit z42.p2 rfl).ev ((At.hit z42 rfl).n2).ev (one2 _ (RdF.one oz41_43.rd)) k43 rfl ?_
       intro w44 k44 u44
       have oz30_44 := oz30_43.upd u44 k43 rfl
       have oz41_44 := oz41_43.upd u44 k43 rfl
       have kg5_44 := u44.blk kg5_43 (by omega)
       have kg12_44 := u44.blk kg12_43 (by omega)
       have kg77_40_44 := u44.blk kg77_40_43 (by omega)
       refine l_q rfl (q_assign _ _ rfl ((At.hit z42.put rfl).n1).ev ?_)
       refine l_end (e_fresh z42.p4 ?_)
       intro a45 z45 m45
       have s1_45 := m45 _ _ (s1_42.n4)
       have s2_45 := m45 _ _ (s2_42.n4)
       have s4_45 := m45 _ _ (s4_42.n4)
       have s5_45 := m45 _ _ (s5_42.n4)
       have s11_45 := m45 _ _ (s11_42.n4)
       have s12_45 := m45 _ _ (s12_42.n4)
       have s15_45 := m45 _ _ (At.hit z42.p3 rfl)
       have low45 := ((((low38.trans h40).trans h41).trans h43).upd u44 geg14)
       clear m45
       refine e_then (c_seq (c_region ?_))
       refine l_q rfl (q_move _ _ rfl s15_45.ev ?_)
       refine l_q rfl (q_eql true rfl (At.hit z45 rfl).ev rfl (decide_eq_true rfl) ?_)
       refine l_q rfl (q_move _ _ rfl (At.hit z45.put rfl).ev ?_)
       refine l_qg (wanted_is (j := 2) (d := 83) (b := true) rfl rfl (At.hit z45.p2 rfl) rfl) (q_move _ _ rfl (s2_45.n3).ev ?_)
       refine l_qg (wanted_is (j := 2) (d := 83) (b := true) rfl rfl ((At.hit z45.p2 rfl).n1) rfl) (q_move _ _ rfl (s11_45.n4).ev ?_)
       refine l_qg (wanted_is (j := 2) (d := 83) (b := true) rfl rfl ((At.hit z45.p2 rfl).n2) rfl) (q_strne false rfl ((At.hit z45.p3 rfl).n1).ev (At.hit z45.p4 rfl).ev (neF (by have := (errP_0 hb39).2.2; rw [get_set hr n xa] at this; exact this)) ?_)
       refine l_q rfl (q_pick (b := true) (.bool false) rfl ((At.hit z45.p2 rfl).n3).ev (At.hit z45.p5 rfl).ev ?_)
       refine l_end (e_fresh z45.p7 ?_)
       intro a46 z46 m46
       have s1_46 := m46 _ _ (s1_45.n7)
       have s2_46 := m46 _ _ (s2_45.n7)
       have s4_46 := m46 _ _ (s4_45.n7)
       have s5_46 := m46 _ _ (s5_45.n7)
       have s11_46 := m46 _ _ (s11_45.n7)
       have s12_46 := m46 _ _ (s12_45.n7)
       have s87_46 := m46 _ _ (At.hit z45.p6 rfl)
       clear m46
       refine e_then (c_false s87_46 ?_)
       refine wp_skip (e_then (c_seq (c_region ?_)))
       refine l_q rfl (q_row rfl Tryd.underlying24 rfl (sz24.trans (congrArg some rfl.symm)) s12_46.ev (fun _ e => by rw [e]; exact kg12_44) ?_)
       refine l_q rfl (q_move _ _ rfl (s1_46.n1).ev ?_)
       refine l_q rfl (q_move _ _ rfl (s2_46.n2).ev ?_)
       refine l_q rfl (q_move _ _ rfl (s11_46.n3).ev ?_)
       refine l_q rfl (q_build (ps := #[(0, .string n), (1, .string xa), (2, .string (getL l n))]) rfl (parts3 ((At.hit z46.put rfl).n2).ev ((At.hit z46.p2 rfl).n1).ev (At.hit z46.p3 rfl).ev) (built32_012 n xa (getL l n)) ?_)
       refine l_buildF (vs := [.string n, .string xa, .string (getL l n)]) rfl rfl Tryd.underlying25 rec32 (At.hit z46.p4 rfl).ev rfl rfl (by decide) (by decide) ?_
       intro g94_47 w47 hg47 k47 h47
       have lt_g5_g94_47 := Nat.lt_of_lt_of_le (heap_lt kg5_44) hg47
       have lt_g12_g94_47 := Nat.lt_of_lt_of_le (heap_lt kg12_44) hg47
       have geg94_47 := Nat.le_trans low45.ge hg47
       have kg5_47 := h47.blk kg5_44
       have kg12_47 := h47.blk kg12_44
       have ov_47 := (hv.low ((((low38.trans h40).trans h41).trans h43).upd u44 geg14)).low h47
       have ovw_47 := (hvw.low ((((low38.trans h40).trans h41).trans h43).upd u44 geg14)).low h47
       have oz30_47 := oz30_44.low h47
       have ol47 : RdF w47 3 (.slice (some ⟨g94_47, 0, none⟩) 1 1) ([(⟨n, xa, getL l n⟩ : Sw)]).length ([(⟨n, xa, getL l n⟩ : Sw)].map encW).flatten := rdF_rec k47 rfl
       refine l_call _ rfl rfl rfl Tryd.func11 rfl (args3 rfl ((At.hit z46 rfl).n5).ev rfl (At.hit z46.p5 rfl).ev) (ApplyR.calls hd (x30) (setP l n xa) 1 (.slice (some ⟨g94_47, 0, none⟩) 1 1) ([(⟨n, xa, getL l n⟩ : Sw)]) (by have := setP_len l n xa; simp; omega) (H := hd) (L := l) (E := 0) ⟨(ap1_ok hd hback).1, (ap1_ok hd hback).2.1.trans (set_back hr hf n xa), (ap1_ok hd hback).2.2⟩ _ oz30_47.rd ol47 (Gd.low hG (low45.trans h47))) ?_
       rintro _ w48 ⟨⟨x48, rfl, o48⟩, h48⟩
       replace o48 := o48.base (low45.trans h47).ge
       have kg5_48 := h48.blk kg5_47
       have kg12_48 := h48.blk kg12_47
       have kg94_47_48 := h48.blk k47
       have ov_48 := ov_47.low h48
       have ovw_48 := ovw_47.low h48
       have oz30_48 := oz30_47.low h48
       have oL47_48 := ol47.low h48
       refine l_q rfl (q_move _ _ rfl (At.hit z46.p6 rfl).ev ?_)
       refine l_fresh z46.p8 ?_
       intro a49 z49 m49
       have s4_49 := m49 _ _ (s4_46.n8)
       have s5_49 := m49 _ _ (s5_46.n8)
       have s88_49 := m49 _ _ (At.hit z46.p7 rfl)
       clear m49
       refine l_q rfl (q_extract rfl s88_49.ev rfl ?_)
       refine l_q rfl (q_extract rfl (s88_49.n1).ev rfl ?_)
       refine l_alloc rfl rfl zero24 ?_
       intro g16 w50 hg50 k50 h50
       have lt_g5_g16 := Nat.lt_of_lt_of_le (heap_lt kg5_48) hg50
       have lt_g12_g16 := Nat.lt_of_lt_of_le (heap_lt kg12_48) hg50
       have lt_g94_47_g16 := Nat.lt_of_lt_of_le (heap_lt kg94_47_48) hg50
       have geg16 := Nat.le_trans ((low45.trans h47).trans h48).ge hg50
       have kg5_50 := h50.blk kg5_48
       have kg12_50 := h50.blk kg12_48
       have kg94_47_50 := h50.blk kg94_47_48
       have ov_50 := ov_48.low h50
       have ovw_50 := ovw_48.low h50
       have oz30_50 := oz30_48.low h50
       have oL47_50 := oL47_48.low h50
       have oz48_50 := o48.low h50
       refine l_row rfl rfl rfl (sz24.trans (congrArg some rfl)) (At.hit z49.p2 rfl).ev ((At.hit z49 rfl).n2).ev (one2 _ (RdF.one oz48_50.rd)) k50 rfl ?_
       intro w51 k51 u51
       have oz30_51 := oz30_50.upd u51 k50 rfl
       have oz48_51 := oz48_50.upd u51 k50 rfl
       have kg5_51 := u51.blk kg5_50 (by omega)
       have kg12_51 := u51.blk kg12_50 (by omega)
       have kg94_47_51 := u51.blk kg94_47_50 (by omega)
       refine l_q rfl (q_assign _ _ rfl ((At.hit z49.put rfl).n1).ev ?_)
       refine l_end (e_fresh z49.p4 ?_)
       intro a52 z52 m52
       have s4_52 := m52 _ _ (s4_49.n4)
       have s5_52 := m52 _ _ (s5_49.n4)
       have s16_52 := m52 _ _ ((At.hit z49.p2 rfl).n1)
       have s17_52 := m52 _ _ (At.hit z49.p3 rfl)
       have low52 := ((((low45.trans h47).trans h48).trans h50).upd u51 geg16)
       clear m52
       refine e_then (c_seq (c_region ?_))
       refine l_q rfl (q_move _ _ rfl s17_52.ev ?_)
       refine l_q rfl (q_neq false rfl (At.hit z52 rfl).ev rfl (decide_eq_false (by omega)) ?_)
       refine l_q rfl (q_move _ _ rfl (At.hit z52.put rfl).ev ?_)
       refine l_qg (wanted_is (j := 2) (d := 100) (b := false) rfl rfl (At.hit z52.p2 rfl) rfl) (q_row rfl Tryd.underlying24 rfl (sz24.trans (congrArg some rfl.symm)) (s16_52.n3).ev (fun _ e => by rw [e]; exact k51) ?_)
       refine l_qg (wanted_is (j := 2) (d := 100) (b := false) rfl rfl ((At.hit z52.p2 rfl).n1) rfl) (q_row rfl Tryd.underlying24 rfl (sz24.trans (congrArg some rfl.symm)) (s5_52.n4).ev (fun _ e => by rw [e]; exact kg5_51) ?_)
       refine l_callg (fun v w' => v = .bool true ∧ Low w51 w') (wanted_is (j := 2) (d := 100) (b := false) rfl rfl ((At.hit z52.p2 rfl).n2) rfl) rfl rfl Tryd.func22 rfl (args2 rfl ((At.hit z52.p3 rfl).n1).ev (At.hit z52.p4 rfl).ev) (((calls_bool (Same.calls hd hd (x48) (v) l l (by have := setP_len l n xa; omega) (by have := setP_len l n xa; omega) _ oz48_51.rd (hv.low ((((low45.trans h47).trans h48).trans h50).upd u51 geg16))) (by unfold sameS; rw [decide_eq_true rfl, decide_eq_true rfl]; rfl))).mono fun _ _ ⟨e, k⟩ => ⟨_, e, rfl, k⟩) ?_
       rintro _ w53 ⟨rfl, h53⟩
       have kg5_53 := h53.blk kg5_51
       have kg16_53 := h53.blk k51
       have ov_53 := (hv.low ((((low45.trans h47).trans h48).trans h50).upd u51 geg16)).low h53
       have ovw_53 := (hvw.low ((((low45.trans h47).trans h48).trans h50).upd u51 geg16)).low h53
       have oz48_53 := oz48_51.low h53
       refine l_qg (wanted_is (j := 2) (d := 100) (b := false) rfl rfl ((At.hit z52.p2 rfl).n3) rfl) (q_not (b := true) rfl (At.hit z52.p5 rfl).ev ?_)
       refine l_q rfl (q_pick (b := false) (.bool false) rfl ((At.hit z52.p2 rfl).n4).ev (At.hit z52.p6 rfl).ev ?_)
       refine l_end (e_fresh z52.p8 ?_)
       intro a54 z54 m54
       have s4_54 := m54 _ _ (s4_52.n8)
       have s5_54 := m54 _ _ (s5_52.n8)
       have s105_54 := m54 _ _ (At.hit z52.p7 rfl)
       have low54 := (low52.trans h53)
       clear m54
       refine e_then (c_false s105_54 ?_)
       refine wp_skip (e_then (c_seq ?_))
       by_cases hb55 : apN (nsize 1) l ws < ws.length
       ·
        skip
        refine c_region ?_
        refine l_q rfl (q_row rfl Tryd.underlying24 rfl (sz24.trans (congrArg some rfl.symm)) s5_54.ev (fun _ e => by rw [e]; exact kg5_53) ?_)
        refine l_q rfl (q_move _ _ rfl (s4_54.n1).ev ?_)
        refine l_call _ rfl rfl rfl Tryd.func11 rfl (args3 rfl ((At.hit z54 rfl).n1).ev rfl (At.hit z54.put rfl).ev) (ApplyR.calls hd (v) l 1 vw ws (by have := setP_len l n xa; simp; omega) (H := nilB) (L := ([] : List Rf)) (E := (apE (nsize 1) l ws)) ⟨if_pos hb55, if_pos hb55, rfl⟩ _ ov_53 ovw_53 (Gd.low hG low54)) ?_
        rintro _ w56 ⟨⟨x56, rfl, o56⟩, h56⟩
        replace o56 := o56.base low54.ge
        have kg5_56 := h56.blk kg5_53
        have ov_56 := ov_53.low h56
        have ovw_56 := ovw_53.low h56
        refine l_q rfl (q_move _ _ rfl (At.hit z54.p2 rfl).ev ?_)
        refine l_q rfl (q_extract rfl (At.hit z54.p3 rfl).ev rfl ?_)
        refine l_q rfl (q_extract rfl ((At.hit z54.p3 rfl).n1).ev rfl ?_)
        refine l_alloc rfl rfl zero24 ?_
        intro g18 w57 hg57 k57 h57
        have lt_g5_g18 := Nat.lt_of_lt_of_le (heap_lt kg5_56) hg57
        have geg18 := Nat.le_trans (low54.trans h56).ge hg57
        have kg5_57 := h57.blk kg5_56
        have ov_57 := ov_56.low h57
        have ovw_57 := ovw_56.low h57
        have oz56_57 := o56.low h57
        refine l_row rfl rfl rfl (sz24.trans (congrArg some rfl)) (At.hit z54.p6 rfl).ev ((At.hit z54.p4 rfl).n2).ev (one2 _ (RdF.one oz56_57.rd)) k57 rfl ?_
        intro w58 k58 u58
        have oz56_58 := oz56_57.upd u58 k57 rfl
        have kg5_58 := u58.blk kg5_57 (by omega)
        refine l_q rfl (q_assign _ _ rfl ((At.hit z54.p5 rfl).n1).ev ?_)
        refine l_end (e_fresh z54.p8 ?_)
        intro a59 z59 m59
        have s4_59 := m59 _ _ (s4_54.n8)
        have s5_59 := m59 _ _ (s5_54.n8)
        have s18_59 := m59 _ _ ((At.hit z54.p6 rfl).n1)
        have s19_59 := m59 _ _ (At.hit z54.p7 rfl)
        have low59 := (((low54.trans h56).trans h57).upd u58 geg18)
        clear m59
        refine e_then (c_seq (c_seq (c_region ?_)))
        refine l_q rfl (q_move _ _ rfl s19_59.ev ?_)
        refine l_q rfl (q_neq true rfl (At.hit z59 rfl).ev rfl (decide_eq_true (fun h => apN_stop hb55 (by have h2 := (ap_bad (sz := nsize 1) hd hb55 rfl).2.2; rw [h] at h2; exact h2.symm))) ?_)
        refine l_end (e_fresh z59.p2 ?_)
        intro a60 z60 m60
        have s4_60 := m60 _ _ (s4_59.n2)
        have s5_60 := m60 _ _ (s5_59.n2)
        have s18_60 := m60 _ _ (s18_59.n2)
        have s113_60 := m60 _ _ (At.hit z59.put rfl)
        clear m60
        refine e_then (c_true s113_60 ?_)
        refine c_seq (c_region ?_)
        refine l_q rfl (q_fld 1 rfl (by kernel_rfl) s18_60.ev ?_)
        refine l_q rfl (q_cellS (x56) rfl Tryd.underlying22 (At.hit z60 rfl).ev (fun _ e => by rw [e]; exact (cells_at k58 1).trans rfl) ?_)
        refine l_q rfl (q_lenF rfl rfl Tryd.underlying22 (At.hit z60.put rfl).ev oz56_58.rd ?_)
        refine l_q rfl (q_eql true rfl (At.hit z60.p2 rfl).ev rfl (decide_eq_true rfl) ?_)
        refine l_q rfl (q_move _ _ rfl (At.hit z60.p3 rfl).ev ?_)
        refine l_qg (wanted_is (j := 4) (d := 118) (b := true) rfl rfl (At.hit z60.p4 rfl) rfl) (q_fld 0 rfl (by kernel_rfl) (s18_60.n5).ev ?_)
        refine l_qg (wanted_is (j := 4) (d := 118) (b := true) rfl rfl ((At.hit z60.p4 rfl).n1) rfl) (q_cellT (.string nilB) rfl Tryd.underlying9 (At.hit z60.p5 rfl).ev (fun _ e => by rw [e]; exact (cells_at k58 0).trans rfl) ?_)
        refine l_qg (wanted_is (j := 4) (d := 118) (b := true) rfl rfl ((At.hit z60.p4 rfl).n2) rfl) (q_streq true rfl (At.hit z60.p6 rfl).ev rfl (strT rfl) ?_)
        refine l_fresh z60.p8 ?_
        intro a61 z61 m61
        have s118_61 := m61 _ _ ((At.hit z60.p4 rfl).n3)
        have s121_61 := m61 _ _ (At.hit z60.p7 rfl)
        clear m61
        refine l_q rfl (q_pick (b := true) (.bool true) rfl s118_61.ev s121_61.ev ?_)
        refine l_q rfl (q_assign _ _ rfl (At.hit z61 rfl).ev ?_)
        refine l_end (e_fresh z61.p2 ?_)
        intro a62 z62 m62
        have s10_62 := m62 _ _ (At.hit z61.put rfl)
        clear m62
        refine e_then (wp_ret (ret_then (r_tmp rfl z62.defers s10_62 ?_)))
        exact ⟨rfl, low59⟩
       ·
        skip
        refine c_region ?_
        refine l_q rfl (q_row rfl Tryd.underlying24 rfl (sz24.trans (congrArg some rfl.symm)) s5_54.ev (fun _ e => by rw [e]; exact kg5_53) ?_)
        refine l_q rfl (q_move _ _ rfl (s4_54.n1).ev ?_)
        refine l_call _ rfl rfl rfl Tryd.func11 rfl (args3 rfl ((At.hit z54 rfl).n1).ev rfl (At.hit z54.put rfl).ev) (ApplyR.calls hd (v) l 1 vw ws (by have := setP_len l n xa; simp; omega) (H := hd) (L := (stP l ws ws.length)) (E := 0) ⟨if_neg hb55, if_neg hb55, if_neg hb55⟩ _ ov_53 ovw_53 (Gd.low hG low54)) ?_
        rintro _ w63 ⟨⟨x63, rfl, o63⟩, h63⟩
        replace o63 := o63.base low54.ge
        have kg5_63 := h63.blk kg5_53
        have ov_63 := ov_53.low h63
        have ovw_63 := ovw_53.low h63
        refine l_q rfl (q_move _ _ rfl (At.hit z54.p2 rfl).ev ?_)
        refine l_q rfl (q_extract rfl (At.hit z54.p3 rfl).ev rfl ?_)
        refine l_q rfl (q_extract rfl ((At.hit z54.p3 rfl).n1).ev rfl ?_)
        refine l_alloc rfl rfl zero24 ?_
        intro g18 w64 hg64 k64 h64
        have lt_g5_g18 := Nat.lt_of_lt_of_le (heap_lt kg5_63) hg64
        have geg18 := Nat.le_trans (low54.trans h63).ge hg64
        have kg5_64 := h64.blk kg5_63
        have ov_64 := ov_63.low h64
        have ovw_64 := ovw_63.low h64
        have oz63_64 := o63.low h64
        refine l_row rfl rfl rfl (sz24.trans (congrArg some rfl)) (At.hit z54.p6 rfl).ev ((At.hit z54.p4 rfl).n2).ev (one2 _ (RdF.one oz63_64.rd)) k64 rfl ?_
        intro w65 k65 u65
        have oz63_65 := oz63_64.upd u65 k64 rfl
        have kg5_65 := u65.blk kg5_64 (by omega)
        refine l_q rfl (q_assign _ _ rfl ((At.hit z54.p5 rfl).n1).ev ?_)
        refine l_end (e_fresh z54.p8 ?_)
        intro a66 z66 m66
        have s4_66 := m66 _ _ (s4_54.n8)
        have s5_66 := m66 _ _ (s5_54.n8)
        have s18_66 := m66 _ _ ((At.hit z54.p6 rfl).n1)
        have s19_66 := m66 _ _ (At.hit z54.p7 rfl)
        have low66 := (((low54.trans h63).trans h64).upd u65 geg18)
        clear m66
        refine e_then (c_seq (c_seq (c_region ?_)))
        refine l_q rfl (q_move _ _ rfl s19_66.ev ?_)
        refine l_q rfl (q_neq false rfl (At.hit z66 rfl).ev rfl (decide_eq_false (by omega)) ?_)
        refine l_end (e_fresh z66.p2 ?_)
        intro a67 z67 m67
        have s4_67 := m67 _ _ (s4_66.n2)
        have s5_67 := m67 _ _ (s5_66.n2)
        have s18_67 := m67 _ _ (s18_66.n2)
        have s113_67 := m67 _ _ (At.hit z66.put rfl)
        clear m67
        refine e_then (c_false s113_67 ?_)
        refine wp_skip (e_then (c_seq (c_region ?_)))
        refine l_q rfl (q_row rfl Tryd.underlying24 rfl (sz24.trans (congrArg some rfl.symm)) s5_67.ev (fun _ e => by rw [e]; exact kg5_65) ?_)
        refine l_alloc rfl rfl zero24 ?_
        intro g20 w68 hg68 k68 h68
        have lt_g5_g20 := Nat.lt_of_lt_of_le (heap_lt kg5_65) hg68
        have lt_g18_g20 := Nat.lt_of_lt_of_le (heap_lt k65) hg68
        have geg20 := Nat.le_trans low66.ge hg68
        have kg5_68 := h68.blk kg5_65
        have kg18_68 := h68.blk k65
        have ov_68 := (hv.low (((low54.trans h63).trans h64).upd u65 geg18)).low h68
        have ovw_68 := (hvw.low (((low54.trans h63).trans h64).upd u65 geg18)).low h68
        have oz63_68 := oz63_65.low h68
        refine l_row rfl rfl rfl (sz24.trans (congrArg some rfl)) (At.hit z67.put rfl).ev ((At.hit z67 rfl).n1).ev (one2 _ (RdF.one ov_68)) k68 rfl ?_
        intro w69 k69 u69
        have oz63_69 := oz63_68.upd u69 k68 rfl
        have kg5_69 := u69.blk kg5_68 (by omega)
        have kg18_69 := u69.blk kg18_68 (by omega)
        refine l_end (e_fresh z67.p2 ?_)
        intro a70 z70 m70
        have s4_70 := m70 _ _ (s4_67.n2)
        have s18_70 := m70 _ _ (s18_67.n2)
        have s20_70 := m70 _ _ (At.hit z67.put rfl)
        have low70 := ((low66.trans h68).upd u69 geg20)
        clear m70
        refine e_then (c_seq (c_seq (c_region ?_)))
        refine l_q rfl (q_assign _ _ rfl rfl ?_)
        refine l_end (e_fresh z70.put ?_)
        intro a71 z71 m71
        have s4_71 := m71 _ _ (s4_70.n1)
        have s18_71 := m71 _ _ (s18_70.n1)
        have s20_71 := m71 _ _ (s20_70.n1)
        have s21_71 := m71 _ _ (At.hit z70 rfl)
        clear m71
        refine e_then (wp_block ?_)
        have hall : apN (nsize 1) l ws = ws.length := Nat.le_antisymm (apN_le _ _ _) (Nat.le_of_not_lt hb55)
        obtain ⟨vs72, hvs72⟩ : ∃ vs, vs = v := ⟨_, rfl⟩
        refine c_loop ws.length (fun k a w => ∃ vg20 : Value, Fr 146 a ∧ At a 4 (vw) ∧ At a 18 (.pointer (some ⟨g18, 0, none⟩)) ∧ At a 20 (.pointer (some ⟨g20, 0, none⟩)) ∧ At a 21 (.int .i64 ((k : Nat) : Int)) ∧ w.heap[g18]? = some (.cells (#[.string hd, x63]) 24) ∧ w.heap[g20]? = some (.cells (#[.string hd, vg20]) 24) ∧ RdF w 2 vg20 (stP l ws k).length (((stP l ws k).map encP).flatten) ∧ OwnF w w0.heap.size 55 2 x63 (stP l ws ws.length).length (((stP l ws ws.length).map encP).flatten) ∧ Low w0 w) ?_ ?_ ?_
        ·
         exact ⟨v, z71, s4_71, s18_71, s20_71, s21_71, kg18_69, k69, (hv.low ((low66.trans h68).upd u69 geg20)), oz63_69, low70⟩
        ·
         intro k a73 w73 hk73 h
         obtain ⟨vg20_73, z73, s4_73, s18_73, s20_73, s21_73, kg18_73, kg20_73, oxg20_73, oz63_73, low73⟩ := h
         clear k69 kg18_69 low70 s18_71 s20_71 s21_71 s4_71 z71
         have hkk : k < apN (nsize 1) l ws := by rw [hall]; assumption
         refine c_seq (c_seq (c_region ?_))
         refine l_q rfl (q_move _ _ rfl s21_73.ev ?_)
         refine l_q rfl (q_move _ _ rfl (s4_73.n1).ev ?_)
         refine l_q rfl (q_lenF rfl rfl Tryd.underlying25 (At.hit z73.put rfl).ev (hvw.low low73) ?_)
         refine l_q rfl (q_lss true rfl ((At.hit z73 rfl).n2).ev (At.hit z73.p2 rfl).ev (decide_eq_true (by omega)) ?_)
         refine l_end (e_fresh z73.p4 ?_)
         intro a74 z74 m74
         have s4_74 := m74 _ _ (s4_73.n4)
         have s18_74 := m74 _ _ (s18_73.n4)
         have s20_74 := m74 _ _ (s20_73.n4)
         have s21_74 := m74 _ _ (s21_73.n4)
         have s127_74 := m74 _ _ (At.hit z73.p3 rfl)
         clear m74
         refine e_then (c_true s127_74 ?_)
         refine wp_skip (e_then (c_seq (wp_block (c_seq (region_laid_tail 12 11 10 8 22 138 2 24 (TL [Is (.agg (#[.string hd, vg20_73])), Is (vw), Is (.int .i64 ((k : Nat) : Int)), Is (pAt vw (k * 3)), Is (.agg (#[.string ((ws.getD k zW).f0), .string ((ws.getD k zW).f1), .string ((ws.getD k zW).f2)])), RwT 32 [(ws.getD k zW)], ZT w73.heap.size hd (stP l ws (k + 1)) 0, ZT w73.heap.size hd (stP l ws (k + 1)) 0, StT w73.heap.size hd (stP l ws (k + 1)), Is (.int .i64 0), AlX w73.heap.size 24 2, Tr]) hm (by kernel_rfl) (by kernel_rfl) z74 rfl rfl rfl rfl rfl al_x st_x (TL_cons ?_ (TL_cons ?_ (TL_cons ?_ (TL_cons ?_ (TL_cons ?_ (TL_cons ?_ (TL_cons ?_ (TL_cons ?_ (TL_cons ?_ (TL_cons ?_ (TL_cons ?_ (TL_cons ?_ TL_nil)))))))))))) (TU_cons ?_ (TU_cons ?_ (TU_cons ?_ (TU_cons ?_ (TU_cons ?_ (TU_cons ?_ (TU_cons ?_ (TU_cons ?_ (TU_cons ?_ (TU_cons ?_ (TU_cons ?_ (TU_cons ?_ TU_nil)))))))))))) (allM_cons ?_ (allM_cons ?_ (allM_cons ?_ (allM_cons ?_ (allM_cons ?_ (allM_cons ?_ (allM_cons ?_ (allM_cons ?_ (allM_cons ?_ (allM_cons ?_ (allM_cons ?_ (allM_skip rfl allM_nil)))))))))))) ?_)))))
         ·
          exact StL_is _
         ·
          exact StL_is _
         ·
          exact StL_is _
         ·
          exact StL_is _
         ·
          exact StL_is _
         ·
          exact StL_rw _ _
         ·
          exact StL_z _ _ _ _
         ·
          exact StL_z _ _ _ _
         ·
          exact StL_st _ _ _
         ·
          exact StL_is _
         ·
          exact StL_ax _ _ _
         ·
          exact StL_tr
         ·
          exact StU_is _ _
         ·
          exact StU_is _ _
         ·
          exact StU_is _ _
         ·
          exact StU_is _ _
         ·
          exact StU_is _ _
         ·
          exact StU_rw _ (by decide)
         ·
          exact StU_z _ _ _ _ (by decide)
         ·
          exact StU_z _ _ _ _ (by decide)
         ·
          exact StU_st _ _ _ (by decide)
         ·
          exact StU_is _ _
         ·
          exact StU_ax _ _ _
         ·
          exact StU_tr _
         ·
          exact (stepS_val (.agg (#[.string hd, vg20_73])) _ rfl rfl rfl Low.refl (fun _ => rfl) fun a w z lw kp kn => q_row rfl Tryd.underlying24 rfl (sz24.trans (congrArg some rfl.symm)) (kp _ _ rfl s20_74).ev (fun _ e => by rw [e]; exact (lw.blk kg20_73)) rfl)
         ·
          exact (stepS_val (vw) _ rfl rfl rfl Low.refl (fun _ => rfl) fun a w z lw kp kn => q_move _ _ rfl (kp _ _ rfl s4_74).ev rfl)
         ·
          exact (stepS_val (.int .i64 ((k : Nat) : Int)) _ rfl rfl rfl Low.refl (fun _ => rfl) fun a w z lw kp kn => q_move _ _ rfl (kp _ _ rfl s21_74).ev rfl)
         ·
          exact (stepS_val (pAt vw (k * 3)) _ rfl rfl rfl Low.refl (fun _ => rfl) fun a w z lw kp kn => q_idxF (j := k) rfl Tryd.underlying25 sz32 (at_is (u := vw) (w := w) (kn 1 _ rfl rfl)).ev (RdF.low (hvw.low low73) lw) (at_is (u := .int .i64 ((k : Nat) : Int)) (w := w) (kn 2 _ rfl rfl)).ev (by omega) rfl)
         ·
          exact (stepS_val (.agg (#[.string ((ws.getD k zW).f0), .string ((ws.getD k zW).f1), .string ((ws.getD k zW).f2)])) _ rfl rfl rfl Low.refl (fun _ => rfl) fun a w z lw kp kn => q_ldR (vs := [.string ((ws.getD k zW).f0), .string ((ws.getD k zW).f1), .string ((ws.getD k zW).f2)]) rfl Tryd.underlying32 rfl sz32 (at_is (u := pAt vw (k * 3)) (w := w) (kn 3 _ rfl rfl)).ev (fun _ e => by rw [e]; exact (RdF.low (hvw.low low73) lw)) (by omega) rfl (flat_part encW_len zW _ k (by omega)) rfl)
         ·
          exact (stepS _ rfl rfl fun a w z lw kp kn => l_buildF (vs := [.string ((ws.getD k zW).f0), .string ((ws.getD k zW).f1), .string ((ws.getD k zW).f2)]) rfl rfl Tryd.underlying25 rec32 (at_is (u := .agg (#[.string ((ws.getD k zW).f0), .string ((ws.getD k zW).f1), .string ((ws.getD k zW).f2)])) (w := w) (kn 4 _ rfl rfl)).ev rfl rfl (by decide) (by decide) (fun g w' hg k h => l_end ⟨_, rfl, h, g, rfl, k⟩))
         ·
          exact (stepS _ rfl rfl fun a w z lw kp kn => Exists.elim (kn 5 _ rfl rfl) fun u hu => l_call (fun z w' => ZT w.heap.size hd (stP l ws (k + 1)) 0 z w' ∧ Low w w') rfl rfl rfl Tryd.func11 rfl (args3 rfl (at_is (u := .agg (#[.string hd, vg20_73])) (w := w) (kn 0 _ rfl rfl)).ev rfl hu.1.ev) ((ApplyR.calls hd (vg20_73) (stP l ws k) 1 u ([(ws.getD k zW)]) (by have := stP_len l ws k; simp; omega) (H := hd) (L := (stP l ws (k + 1))) (E := 0) (ap1_ok hd (firstN_round (p := okP (nsize 1) l ws) hkk)) w (RdF.low oxg20_73 lw) (RwT.rd hu.2) (Gd.low hG (Low.trans low73 lw))).mono fun _ _ ⟨z, e, hz, k⟩ => ⟨z, e, hz, k⟩) fun _ _ hv => l_end ⟨_, rfl, hv.2, ZT.base hv.1 lw.ge⟩)
         ·
          exact (stepS _ rfl rfl fun a w z lw kp kn => Exists.elim (kn 6 _ rfl rfl) fun u hu => l_q rfl (q_move _ _ rfl hu.1.ev (l_end ⟨_, rfl, Low.refl _, hu.2⟩)))
         ·
          exact (stepS _ rfl rfl fun a w z lw kp kn => Exists.elim (kn 7 _ rfl rfl) fun u hu => Exists.elim hu.2 fun x hx => l_q rfl (q_extract rfl (hu.1.same hx.1).ev rfl (l_end ⟨_, rfl, Low.refl _, x, rfl, hx.2⟩)))
         ·
          exact (stepS _ rfl rfl fun a w z lw kp kn => Exists.elim (kn 7 _ rfl rfl) fun u hu => Exists.elim hu.2 fun x hx => l_q rfl (q_extract rfl (hu.1.same hx.1).ev rfl (l_end ⟨_, rfl, Low.refl _, rfl⟩)))
         ·
          exact (stepS _ rfl rfl fun a w z lw kp kn => l_alloc rfl rfl zero24 (fun g w' hg k h => l_end ⟨_, rfl, h, g, _, rfl, Nat.le_trans lw.ge hg, k, rfl⟩))
         intro a75 w75 z75 h75 kp kn kl
         have s4_75 := kp _ _ rfl s4_74
         have s18_75 := kp _ _ rfl s18_74
         have s20_75 := kp _ _ rfl s20_74
         have s21_75 := kp _ _ rfl s21_74
         have s127_75 := kp _ _ rfl s127_74
         have s139_75 := at_is (u := .int .i64 0) (w := w75) (kn 9 _ rfl)
         obtain ⟨u75, su75, v75, rfl, o75⟩ := kn 8 _ rfl
         obtain ⟨g75, x75, sp75, sx75, hg75, k75⟩ := kl
         replace k75 := At.agg_at sx75 su75 k75
         clear kp kn
         have lt_g18_g75 := Nat.lt_of_lt_of_le (heap_lt kg18_73) hg75
         have lt_g20_g75 := Nat.lt_of_lt_of_le (heap_lt kg20_73) hg75
         have geg75 := Nat.le_trans low73.ge hg75
         have kg18_75 := h75.blk kg18_73
         have kg20_75 := h75.blk kg20_73
         have oxg20_75 := oxg20_73.low h75
         have oz63_75 := oz63_73.low h75
         have ovw_75 := (hvw.low low73).low h75
         replace o75 := o75.base low73.ge
         simp only [List.drop_succ_cons, List.drop_zero]
         refine l_q rfl (q_assign _ _ rfl s139_75.ev ?_)
         refine l_end (e_fresh z75.put ?_)
         intro a76 z76 m76
         have s4_76 := m76 _ _ (s4_75.n1)
         have s18_76 := m76 _ _ (s18_75.n1)
         have s20_76 := m76 _ _ (s20_75.n1)
         have s21_76 := m76 _ _ (s21_75.n1)
         have s22_76 := m76 _ _ (sp75.n1)
         have s23_76 := m76 _ _ (At.hit z75 rfl)
         have low76 := (low73.trans h75)
         clear m76
         refine e_then (c_seq (c_seq (c_region ?_)))
         refine l_q rfl (q_move _ _ rfl s23_76.ev ?_)
         refine l_q rfl (q_neq false rfl (At.hit z76 rfl).ev rfl (decide_eq_false (by omega)) ?_)
         refine l_end (e_fresh z76.p2 ?_)
         intro a77 z77 m77
         have s4_77 := m77 _ _ (s4_76.n2)
         have s18_77 := m77 _ _ (s18_76.n2)
         have s20_77 := m77 _ _ (s20_76.n2)
         have s21_77 := m77 _ _ (s21_76.n2)
         have s22_77 := m77 _ _ (s22_76.n2)
         have s141_77 := m77 _ _ (At.hit z76.put rfl)
         clear m77
         refine e_then (c_false s141_77 ?_)
         refine wp_skip (e_then (c_region ?_))
         refine l_q rfl (q_row rfl Tryd.underlying24 rfl (sz24.trans (congrArg some rfl.symm)) s22_77.ev (fun _ e => by rw [e]; exact k75) ?_)
         refine l_row rfl rfl rfl (sz24.trans (congrArg some rfl)) (s20_77.n1).ev (At.hit z77 rfl).ev (one2 _ (RdF.one o75.rd)) kg20_75 rfl ?_
         intro w78 k78 u78
         have oz63_78 := oz63_75.upd u78 kg20_75 rfl
         have ob75_78 := o75.upd u78 kg20_75 rfl
         have kg18_78 := u78.blk kg18_75 (by omega)
         have kg75_78 := u78.blk k75 (by omega)
         refine l_end (e_fresh z77.put ?_)
         intro a79 z79 m79
         have s4_79 := m79 _ _ (s4_77.n1)
         have s18_79 := m79 _ _ (s18_77.n1)
         have s20_79 := m79 _ _ (s20_77.n1)
         have s21_79 := m79 _ _ (s21_77.n1)
         have low79 := (low76.upd u78 geg20)
         clear m79
         refine e_in (e_then (c_region ?_))
         refine l_q rfl (q_move _ _ rfl s21_79.ev ?_)
         refine l_q rfl (q_add (((k + 1 : Nat) : Int)) rfl (At.hit z79 rfl).ev rfl (i64_is (by omega) (by omega) (by omega)) ?_)
         refine l_q rfl (q_assign _ _ rfl (At.hit z79.put rfl).ev ?_)
         refine l_end (e_fresh z79.p3 ?_)
         intro a80 z80 m80
         have s4_80 := m80 _ _ (s4_79.n3)
         have s18_80 := m80 _ _ (s18_79.n3)
         have s20_80 := m80 _ _ (s20_79.n3)
         have s21_80 := m80 _ _ (At.hit z79.p2 rfl)
         clear m80
         exact ⟨v75, z80, s4_80, s18_80, s20_80, s21_80, kg18_78, k78, (ob75_78.rd), oz63_78, low79⟩
        ·
         intro a81 w81 h
         obtain ⟨vg20_81, z81, s4_81, s18_81, s20_81, s21_81, kg18_81, kg20_81, oxg20_81, oz63_81, low81⟩ := h
         clear k69 kg18_69 low70 s18_71 s20_71 s21_71 s4_71 z71
         refine c_seq (c_seq (c_region ?_))
         refine l_q rfl (q_move _ _ rfl s21_81.ev ?_)
         refine l_q rfl (q_move _ _ rfl (s4_81.n1).ev ?_)
         refine l_q rfl (q_lenF rfl rfl Tryd.underlying25 (At.hit z81.put rfl).ev (hvw.low low81) ?_)
         refine l_q rfl (q_lss false rfl ((At.hit z81 rfl).n2).ev (At.hit z81.p2 rfl).ev (decide_eq_false (by omega)) ?_)
         refine l_end (e_fresh z81.p4 ?_)
         intro a82 z82 m82
         have s4_82 := m82 _ _ (s4_81.n4)
         have s18_82 := m82 _ _ (s18_81.n4)
         have s20_82 := m82 _ _ (s20_81.n4)
         have s21_82 := m82 _ _ (s21_81.n4)
         have s127_82 := m82 _ _ (At.hit z81.p3 rfl)
         clear m82
         refine e_then (c_false s127_82 ?_)
         refine wp_exit (x_then (x_then (in_exit (e_then (c_seq (c_region ?_))))))
         refine l_q rfl (q_row rfl Tryd.underlying24 rfl (sz24.trans (congrArg some rfl.symm)) s20_82.ev (fun _ e => by rw [e]; exact kg20_81) ?_)
         refine l_q rfl (q_row rfl Tryd.underlying24 rfl (sz24.trans (congrArg some rfl.symm)) (s18_82.n1).ev (fun _ e => by rw [e]; exact kg18_81) ?_)
         refine l_call (fun v w' => v = .bool true ∧ Low w81 w') rfl rfl rfl Tryd.func22 rfl (args2 rfl ((At.hit z82 rfl).n1).ev (At.hit z82.put rfl).ev) (((calls_bool (Same.calls hd hd (vg20_81) (x63) (stP l ws ws.length) (stP l ws ws.length) (by have := stP_len l ws ws.length; omega) (by have := stP_len l ws ws.length; omega) _ oxg20_81 oz63_81.rd) (by unfold sameS; rw [decide_eq_true rfl, decide_eq_true rfl]; rfl))).mono fun _ _ ⟨e, k⟩ => ⟨_, e, rfl, k⟩) ?_
         rintro _ w83 ⟨rfl, h83⟩
         have kg18_83 := h83.blk kg18_81
         have kg20_83 := h83.blk kg20_81
         have oxg20_83 := oxg20_81.low h83
         have oz63_83 := oz63_81.low h83
         have ovw_83 := (hvw.low low81).low h83
         refine l_q rfl (q_assign _ _ rfl (At.hit z82.p2 rfl).ev ?_)
         refine l_end (e_fresh z82.p4 ?_)
         intro a84 z84 m84
         have s10_84 := m84 _ _ (At.hit z82.p3 rfl)
         have low84 := (low81.trans h83)
         clear m84
         refine e_then (wp_ret (r_tmp rfl z84.defers s10_84 ?_))
         exact ⟨rfl, low84⟩
      ·
       skip
       refine c_region ?_
       refine l_q rfl (q_row rfl Tryd.underlying24 rfl (sz24.trans (congrArg some rfl.symm)) s12_38.ev (fun _ e => by rw [e]; exact kg12_36) ?_)
       refine l_q rfl (q_move _ _ rfl (s1_38.n1).ev ?_)
       refine l_q rfl (q_move _ _ rfl (s11_38.n2).ev ?_)
       refine l_q rfl (q_move _ _ rfl (s3_38.n3).ev ?_)
       refine l_q rfl (q_build (ps := #[(0, .string n), (1, .string (getL l n)), (2, .string xb)]) rfl (parts3 ((At.hit z38.put rfl).n2).ev ((At.hit z38.p2 rfl).n1).ev (At.hit z38.p3 rfl).ev) (built32_012 n (getL l n) xb) ?_)
       refine l_buildF (vs := [.string n, .string (getL l n), .string xb]) rfl rfl Tryd.underlying25 rec32 (At.hit z38.p4 rfl).ev rfl rfl (by decide) (by decide) ?_
       intro g77_85 w85 hg85 k85 h85
       have lt_g5_g77_85 := Nat.lt_of_lt_of_le (heap_lt kg5_36) hg85
       have lt_g12_g77_85 := Nat.lt_of_lt_of_le (heap_lt kg12_36) hg85
       have geg77_85 := Nat.le_trans low38.ge hg85
       have kg5_85 := h85.blk kg5_36
       have kg12_85 := h85.blk kg12_36
       have ov_85 := ov_36.low h85
       have ovw_85 := ovw_36.low h85
       have oz30_85 := oz30_36.low h85
       have ol85 : RdF w85 3 (.slice (some ⟨g77_85, 0, none⟩) 1 1) ([(⟨n, getL l n, xb⟩ : Sw)]).length ([(⟨n, getL l n, xb⟩ : Sw)].map encW).flatten := rdF_rec k85 rfl
       refine l_call _ rfl rfl rfl Tryd.func11 rfl (args3 rfl ((At.hit z38 rfl).n5).ev rfl (At.hit z38.p5 rfl).ev) (ApplyR.calls hd (x30) (setP l n xa) 1 (.slice (some ⟨g77_85, 0, none⟩) 1 1) ([(⟨n, getL l n, xb⟩ : Sw)]) (by have := setP_len l n xa; simp; omega) (H := nilB) (L := ([] : List Rf)) (E := (errP (nsize 1) (setP l n xa) (⟨n, getL l n, xb⟩ : Sw))) (ap1_bad hd hb39) _ oz30_85.rd ol85 (Gd.low hG (low38.trans h85))) ?_
       rintro _ w86 ⟨⟨x86, rfl, o86⟩, h86⟩
       replace o86 := o86.base (low38.trans h85).ge
       have kg5_86 := h86.blk kg5_85
       have kg12_86 := h86.blk kg12_85
       have kg77_85_86 := h86.blk k85
       have ov_86 := ov_85.low h86
       have ovw_86 := ovw_85.low h86
       have oz30_86 := oz30_85.low h86
       have oL85_86 := ol85.low h86
       refine l_q rfl (q_move _ _ rfl (At.hit z38.p6 rfl).ev ?_)
       refine l_fresh z38.p8 ?_
       intro a87 z87 m87
       have s1_87 := m87 _ _ (s1_38.n8)
       have s2_87 := m87 _ _ (s2_38.n8)
       have s4_87 := m87 _ _ (s4_38.n8)
       have s5_87 := m87 _ _ (s5_38.n8)
       have s11_87 := m87 _ _ (s11_38.n8)
       have s12_87 := m87 _ _ (s12_38.n8)
       have s71_87 := m87 _ _ (At.hit z38.p7 rfl)
       clear m87
       refine l_q rfl (q_extract rfl s71_87.ev rfl ?_)
       refine l_q rfl (q_extract rfl (s71_87.n1).ev rfl ?_)
       refine l_alloc rfl rfl zero24 ?_
       intro g14 w88 hg88 k88 h88
       have lt_g5_g14 := Nat.lt_of_lt_of_le (heap_lt kg5_86) hg88
       have lt_g12_g14 := Nat.lt_of_lt_of_le (heap_lt kg12_86) hg88
       have lt_g77_85_g14 := Nat.lt_of_lt_of_le (heap_lt kg77_85_86) hg88
       have geg14 := Nat.le_trans ((low38.trans h85).trans h86).ge hg88
       have kg5_88 := h88.blk kg5_86
       have kg12_88 := h88.blk kg12_86
       have kg77_85_88 := h88.blk kg77_85_86
       have ov_88 := ov_86.low h88
       have ovw_88 := ovw_86.low h88
       have oz30_88 := oz30_86.low h88
       have oL85_88 := oL85_86.low h88
       have oz86_88 := o86.low h88
       refine l_row rfl rfl rfl (sz24.trans (congrArg some rfl)) (At.hit z87.p2 rfl).ev ((At.hit z87 rfl).n2).ev (one2 _ (RdF.one oz86_88.rd)) k88 rfl ?_
       intro w89 k89 u89
       have oz30_89 := oz30_88.upd u89 k88 rfl
       have oz86_89 := oz86_88.upd u89 k88 rfl
       have kg5_89 := u89.blk kg5_88 (by omega)
       have kg12_89 := u89.blk kg12_88 (by omega)
       have kg77_85_89 := u89.blk kg77_85_88 (by omega)
       refine l_q rfl (q_assign _ _ rfl ((At.hit z87.put rfl).n1).ev ?_)
       refine l_end (e_fresh z87.p4 ?_)
       intro a90 z90 m90
       have s1_90 := m90 _ _ (s1_87.n4)
       have s2_90 := m90 _ _ (s2_87.n4)
       have s4_90 := m90 _ _ (s4_87.n4)
       have s5_90 := m90 _ _ (s5_87.n4)
       have s11_90 := m90 _ _ (s11_87.n4)
       have s12_90 := m90 _ _ (s12_87.n4)
       have s15_90 := m90 _ _ (At.hit z87.p3 rfl)
       have low90 := ((((low38.trans h85).trans h86).trans h88).upd u89 geg14)
       clear m90
       refine e_then (c_seq (c_region ?_))
       refine l_q rfl (q_move _ _ rfl s15_90.ev ?_)
       refine l_q rfl (q_eql false rfl (At.hit z90 rfl).ev rfl (decide_eq_false hb39) ?_)
       refine l_q rfl (q_move _ _ rfl (At.hit z90.put rfl).ev ?_)
       refine l_skip (wanted_is (j := 2) (d := 83) (b := false) rfl rfl (At.hit z90.p2 rfl) rfl) ?_
       refine l_skip (wanted_is (j := 2) (d := 83) (b := false) rfl rfl ((At.hit z90.p2 rfl).n1) rfl) ?_
       refine l_skip (wanted_is (j := 2) (d := 83) (b := false) rfl rfl ((At.hit z90.p2 rfl).n2) rfl) ?_
       refine l_q rfl (q_pick (b := false) (.bool false) rfl ((At.hit z90.p2 rfl).n3).ev rfl ?_)
       refine l_end (e_fresh z90.p7 ?_)
       intro a91 z91 m91
       have s1_91 := m91 _ _ (s1_90.n7)
       have s2_91 := m91 _ _ (s2_90.n7)
       have s4_91 := m91 _ _ (s4_90.n7)
       have s5_91 := m91 _ _ (s5_90.n7)
       have s11_91 := m91 _ _ (s11_90.n7)
       have s12_91 := m91 _ _ (s12_90.n7)
       have s87_91 := m91 _ _ (At.hit z90.p6 rfl)
       clear m91
       refine e_then (c_false s87_91 ?_)
       refine wp_skip (e_then (c_seq (c_region ?_)))
       refine l_q rfl (q_row rfl Tryd.underlying24 rfl (sz24.trans (congrArg some rfl.symm)) s12_91.ev (fun _ e => by rw [e]; exact kg12_89) ?_)
       refine l_q rfl (q_move _ _ rfl (s1_91.n1).ev ?_)
       refine l_q rfl (q_move _ _ rfl (s2_91.n2).ev ?_)
       refine l_q rfl (q_move _ _ rfl (s11_91.n3).ev ?_)
       refine l_q rfl (q_build (ps := #[(0, .string n), (1, .string xa), (2, .string (getL l n))]) rfl (parts3 ((At.hit z91.put rfl).n2).ev ((At.hit z91.p2 rfl).n1).ev (At.hit z91.p3 rfl).ev) (built32_012 n xa (getL l n)) ?_)
       refine l_buildF (vs := [.string n, .string xa, .string (getL l n)]) rfl rfl Tryd.underlying25 rec32 (At.hit z91.p4 rfl).ev rfl rfl (by decide) (by decide) ?_
       intro g94_92 w92 hg92 k92 h92
       have lt_g5_g94_92 := Nat.lt_of_lt_of_le (heap_lt kg5_89) hg92
       have lt_g12_g94_92 := Nat.lt_of_lt_of_le (heap_lt kg12_89) hg92
       have geg94_92 := Nat.le_trans low90.ge hg92
       have kg5_92 := h92.blk kg5_89
       have kg12_92 := h92.blk kg12_89
       have ov_92 := (hv.low ((((low38.trans h85).trans h86).trans h88).upd u89 geg14)).low h92
       have ovw_92 := (hvw.low ((((low38.trans h85).trans h86).trans h88).upd u89 geg14)).low h92
       have oz30_92 := oz30_89.low h92
       have ol92 : RdF w92 3 (.slice (some ⟨g94_92, 0, none⟩) 1 1) ([(⟨n, xa, getL l n⟩ : Sw)]).length ([(⟨n, xa, getL l n⟩ : Sw)].map encW).flatten := rdF_rec k92 rfl
       refine l_call _ rfl rfl rfl Tryd.func11 rfl (args3 rfl ((At.hit z91 rfl).n5).ev rfl (At.hit z91.p5 rfl).ev) (ApplyR.calls hd (x30) (setP l n xa) 1 (.slice (some ⟨g94_92, 0, none⟩) 1 1) ([(⟨n, xa, getL l n⟩ : Sw)]) (by have := setP_len l n xa; simp; omega) (H := hd) (L := l) (E := 0) ⟨(ap1_ok hd hback).1, (ap1_ok hd hback).2.1.trans (set_back hr hf n xa), (ap1_ok hd hback).2.2⟩ _ oz30_92.rd ol92 (Gd.low hG (low90.trans h92))) ?_
       rintro _ w93 ⟨⟨x93, rfl, o93⟩, h93⟩
       replace o93 := o93.base (low90.trans h92).ge
       have kg5_93 := h93.blk kg5_92
       have kg12_93 := h93.blk kg12_92
       have kg94_92_93 := h93.blk k92
       have ov_93 := ov_92.low h93
       have ovw_93 := ovw_92.low h93
       have oz30_93 := oz30_92.low h93
       have oL92_93 := ol92.low h93
       refine l_q rfl (q_move _ _ rfl (At.hit z91.p6 rfl).ev ?_)
       refine l_fresh z91.p8 ?_
       intro a94 z94 m94
       have s4_94 := m94 _ _ (s4_91.n8)
       have s5_94 := m94 _ _ (s5_91.n8)
       have s88_94 := m94 _ _ (At.hit z91.p7 rfl)
       clear m94
       refine l_q rfl (q_extract rfl s88_94.ev rfl ?_)
       refine l_q rfl (q_extract rfl (s88_94.n1).ev rfl ?_)
       refine l_alloc rfl rfl zero24 ?_
       intro g16 w95 hg95 k95 h95
       have lt_g5_g16 := Nat.lt_of_lt_of_le (heap_lt kg5_93) hg95
       have lt_g12_g16 := Nat.lt_of_lt_of_le (heap_lt kg12_93) hg95
       have lt_g94_92_g16 := Nat.lt_of_lt_of_le (heap_lt kg94_92_93) hg95
       have geg16 := Nat.le_trans ((low90.trans h92).trans h93).ge hg95
       have kg5_95 := h95.blk kg5_93
       have kg12_95 := h95.blk kg12_93
       have kg94_92_95 := h95.blk kg94_92_93
       have ov_95 := ov_93.low h95
       have ovw_95 := ovw_93.low h95
       have oz30_95 := oz30_93.low h95
       have oL92_95 := oL92_93.low h95
       have oz93_95 := o93.low h95
       refine l_row rfl rfl rfl (sz24.trans (congrArg some rfl)) (At.hit z94.p2 rfl).ev ((At.hit z94 rfl).n2).ev (one2 _ (RdF.one oz93_95.rd)) k95 rfl ?_
       intro w96 k96 u96
       have oz30_96 := oz30_95.upd u96 k95 rfl
       have oz93_96 := oz93_95.upd u96 k95 rfl
       have kg5_96 := u96.blk kg5_95 (by omega)
       have kg12_96 := u96.blk kg12_95 (by omega)
       have kg94_92_96 := u96.blk kg94_92_95 (by omega)
       refine l_q rfl (q_assign _ _ rfl ((At.hit z94.put rfl).n1).ev ?_)
       refine l_end (e_fresh z94.p4 ?_)
       intro a97 z97 m97
       have s4_97 := m97 _ _ (s4_94.n4)
       have s5_97 := m97 _ _ (s5_94.n4)
       have s16_97 := m97 _ _ ((At.hit z94.p2 rfl).n1)
       have s17_97 := m97 _ _ (At.hit z94.p3 rfl)
       have low97 := ((((low90.trans h92).trans h93).trans h95).upd u96 geg16)
       clear m97
       refine e_then (c_seq (c_region ?_))
       refine l_q rfl (q_move _ _ rfl s17_97.ev ?_)
       refine l_q rfl (q_neq false rfl (At.hit z97 rfl).ev rfl (decide_eq_false (by omega)) ?_)
       refine l_q rfl (q_move _ _ rfl (At.hit z97.put rfl).ev ?_)
       refine l_qg (wanted_is (j := 2) (d := 100) (b := false) rfl rfl (At.hit z97.p2 rfl) rfl) (q_row rfl Tryd.underlying24 rfl (sz24.trans (congrArg some rfl.symm)) (s16_97.n3).ev (fun _ e => by rw [e]; exact k96) ?_)
       refine l_qg (wanted_is (j := 2) (d := 100) (b := false) rfl rfl ((At.hit z97.p2 rfl).n1) rfl) (q_row rfl Tryd.underlying24 rfl (sz24.trans (congrArg some rfl.symm)) (s5_97.n4).ev (fun _ e => by rw [e]; exact kg5_96) ?_)
       refine l_callg (fun v w' => v = .bool true ∧ Low w96 w') (wanted_is (j := 2) (d := 100) (b := false) rfl rfl ((At.hit z97.p2 rfl).n2) rfl) rfl rfl Tryd.func22 rfl (args2 rfl ((At.hit z97.p3 rfl).n1).ev (At.hit z97.p4 rfl).ev) (((calls_bool (Same.calls hd hd (x93) (v) l l (by have := setP_len l n xa; omega) (by have := setP_len l n xa; omega) _ oz93_96.rd (hv.low ((((low90.trans h92).trans h93).trans h95).upd u96 geg16))) (by unfold sameS; rw [decide_eq_true rfl, decide_eq_true rfl]; rfl))).mono fun _ _ ⟨e, k⟩ => ⟨_, e, rfl, k⟩) ?_
       rintro _ w98 ⟨rfl, h98⟩
       have kg5_98 := h98.blk kg5_96
       have kg16_98 := h98.blk k96
       have ov_98 := (hv.low ((((low90.trans h92).trans h93).trans h95).upd u96 geg16)).low h98
       have ovw_98 := (hvw.low ((((low90.trans h92).trans h93).trans h95).upd u96 geg16)).low h98
       have oz93_98 := oz93_96.low h98
       refine l_qg (wanted_is (j := 2) (d := 100) (b := false) rfl rfl ((At.hit z97.p2 rfl).n3) rfl) (q_not (b := true) rfl (At.hit z97.p5 rfl).ev ?_)
       refine l_q rfl (q_pick (b := false) (.bool false) rfl ((At.hit z97.p2 rfl).n4).ev (At.hit z97.p6 rfl).ev ?_)
       refine l_end (e_fresh z97.p8 ?_)
       intro a99 z99 m99
       have s4_99 := m99 _ _ (s4_97.n8)
       have s5_99 := m99 _ _ (s5_97.n8)
       have s105_99 := m99 _ _ (At.hit z97.p7 rfl)
       have low99 := (low97.trans h98)
       clear m99
       refine e_then (c_false s105_99 ?_)
       refine wp_skip (e_then (c_seq ?_))
       by_cases hb100 : apN (nsize 1) l ws < ws.length
       ·
        skip
        refine c_region ?_
        refine l_q rfl (q_row rfl Tryd.underlying24 rfl (sz24.trans (congrArg some rfl.symm)) s5_99.ev (fun _ e => by rw [e]; exact kg5_98) ?_)
        refine l_q rfl (q_move _ _ rfl (s4_99.n1).ev ?_)
        refine l_call _ rfl rfl rfl Tryd.func11 rfl (args3 rfl ((At.hit z99 rfl).n1).ev rfl (At.hit z99.put rfl).ev) (ApplyR.calls hd (v) l 1 vw ws (by have := setP_len l n xa; simp; omega) (H := nilB) (L := ([] : List Rf)) (E := (apE (nsize 1) l ws)) ⟨if_pos hb100, if_pos hb100, rfl⟩ _ ov_98 ovw_98 (Gd.low hG low99)) ?_
        rintro _ w101 ⟨⟨x101, rfl, o101⟩, h101⟩
        replace o101 := o101.base low99.ge
        have kg5_101 := h101.blk kg5_98
        have ov_101 := ov_98.low h101
        have ovw_101 := ovw_98.low h101
        refine l_q rfl (q_move _ _ rfl (At.hit z99.p2 rfl).ev ?_)
        refine l_q rfl (q_extract rfl (At.hit z99.p3 rfl).ev rfl ?_)
        refine l_q rfl (q_extract rfl ((At.hit z99.p3 rfl).n1).ev rfl ?_)
        refine l_alloc rfl rfl zero24 ?_
        intro g18 w102 hg102 k102 h102
        have lt_g5_g18 := Nat.lt_of_lt_of_le (heap_lt kg5_101) hg102
        have geg18 := Nat.le_trans (low99.trans h101).ge hg102
        have kg5_102 := h102.blk kg5_101
        have ov_102 := ov_101.low h102
        have ovw_102 := ovw_101.low h102
        have oz101_102 := o101.low h102
        refine l_row rfl rfl rfl (sz24.trans (congrArg some rfl)) (At.hit z99.p6 rfl).ev ((At.hit z99.p4 rfl).n2).ev (one2 _ (RdF.one oz101_102.rd)) k102 rfl ?_
        intro w103 k103 u103
        have oz101_103 := oz101_102.upd u103 k102 rfl
        have kg5_103 := u103.blk kg5_102 (by omega)
        refine l_q rfl (q_assign _ _ rfl ((At.hit z99.p5 rfl).n1).ev ?_)
        refine l_end (e_fresh z99.p8 ?_)
        intro a104 z104 m104
        have s4_104 := m104 _ _ (s4_99.n8)
        have s5_104 := m104 _ _ (s5_99.n8)
        have s18_104 := m104 _ _ ((At.hit z99.p6 rfl).n1)
        have s19_104 := m104 _ _ (At.hit z99.p7 rfl)
        have low104 := (((low99.trans h101).trans h102).upd u103 geg18)
        clear m104
        refine e_then (c_seq (c_seq (c_region ?_)))
        refine l_q rfl (q_move _ _ rfl s19_104.ev ?_)
        refine l_q rfl (q_neq true rfl (At.hit z104 rfl).ev rfl (decide_eq_true (fun h => apN_stop hb100 (by have h2 := (ap_bad (sz := nsize 1) hd hb100 rfl).2.2; rw [h] at h2; exact h2.symm))) ?_)
        refine l_end (e_fresh z104.p2 ?_)
        intro a105 z105 m105
        have s4_105 := m105 _ _ (s4_104.n2)
        have s5_105 := m105 _ _ (s5_104.n2)
        have s18_105 := m105 _ _ (s18_104.n2)
        have s113_105 := m105 _ _ (At.hit z104.put rfl)
        clear m105
        refine e_then (c_true s113_105 ?_)
        refine c_seq (c_region ?_)
        refine l_q rfl (q_fld 1 rfl (by kernel_rfl) s18_105.ev ?_)
        refine l_q rfl (q_cellS (x101) rfl Tryd.underlying22 (At.hit z105 rfl).ev (fun _ e => by rw [e]; exact (cells_at k103 1).trans rfl) ?_)
        refine l_q rfl (q_lenF rfl rfl Tryd.underlying22 (At.hit z105.put rfl).ev oz101_103.rd ?_)
        refine l_q rfl (q_eql true rfl (At.hit z105.p2 rfl).ev rfl (decide_eq_true rfl) ?_)
        refine l_q rfl (q_move _ _ rfl (At.hit z105.p3 rfl).ev ?_)
        refine l_qg (wanted_is (j := 4) (d := 118) (b := true) rfl rfl (At.hit z105.p4 rfl) rfl) (q_fld 0 rfl (by kernel_rfl) (s18_105.n5).ev ?_)
        refine l_qg (wanted_is (j := 4) (d := 118) (b := true) rfl rfl ((At.hit z105.p4 rfl).n1) rfl) (q_cellT (.string nilB) rfl Tryd.underlying9 (At.hit z105.p5 rfl).ev (fun _ e => by rw [e]; exact (cells_at k103 0).trans rfl) ?_)
        refine l_qg (wanted_is (j := 4) (d := 118) (b := true) rfl rfl ((At.hit z105.p4 rfl).n2) rfl) (q_streq true rfl (At.hit z105.p6 rfl).ev rfl (strT rfl) ?_)
        refine l_fresh z105.p8 ?_
        intro a106 z106 m106
        have s118_106 := m106 _ _ ((At.hit z105.p4 rfl).n3)
        have s121_106 := m106 _ _ (At.hit z105.p7 rfl)
        clear m106
        refine l_q rfl (q_pick (b := true) (.bool true) rfl s118_106.ev s121_106.ev ?_)
        refine l_q rfl (q_assign _ _ rfl (At.hit z106 rfl).ev ?_)
        refine l_end (e_fresh z106.p2 ?_)
        intro a107 z107 m107
        have s10_107 := m107 _ _ (At.hit z106.put rfl)
        clear m107
        refine e_then (wp_ret (ret_then (r_tmp rfl z107.defers s10_107 ?_)))
        exact ⟨rfl, low104⟩
       ·
        skip
        refine c_region ?_
        refine l_q rfl (q_row rfl Tryd.underlying24 rfl (sz24.trans (congrArg some rfl.symm)) s5_99.ev (fun _ e => by rw [e]; exact kg5_98) ?_)
        refine l_q rfl (q_move _ _ rfl (s4_99.n1).ev ?_)
        refine l_call _ rfl rfl rfl Tryd.func11 rfl (args3 rfl ((At.hit z99 rfl).n1).ev rfl (At.hit z99.put rfl).ev) (ApplyR.calls hd (v) l 1 vw ws (by have := setP_len l n xa; simp; omega) (H := hd) (L := (stP l ws ws.length)) (E := 0) ⟨if_neg hb100, if_neg hb100, if_neg hb100⟩ _ ov_98 ovw_98 (Gd.low hG low99)) ?_
        rintro _ w108 ⟨⟨x108, rfl, o108⟩, h108⟩
        replace o108 := o108.base low99.ge
        have kg5_108 := h108.blk kg5_98
        have ov_108 := ov_98.low h108
        have ovw_108 := ovw_98.low h108
        refine l_q rfl (q_move _ _ rfl (At.hit z99.p2 rfl).ev ?_)
        refine l_q rfl (q_extract rfl (At.hit z99.p3 rfl).ev rfl ?_)
        refine l_q rfl (q_extract rfl ((At.hit z99.p3 rfl).n1).ev rfl ?_)
        refine l_alloc rfl rfl zero24 ?_
        intro g18 w109 hg109 k109 h109
        have lt_g5_g18 := Nat.lt_of_lt_of_le (heap_lt kg5_108) hg109
        have geg18 := Nat.le_trans (low99.trans h108).ge hg109
        have kg5_109 := h109.blk kg5_108
        have ov_109 := ov_108.low h109
        have ovw_109 := ovw_108.low h109
        have oz108_109 := o108.low h109
        refine l_row rfl rfl rfl (sz24.trans (congrArg some rfl)) (At.hit z99.p6 rfl).ev ((At.hit z99.p4 rfl).n2).ev (one2 _ (RdF.one oz108_109.rd)) k109 rfl ?_
        intro w110 k110 u110
        have oz108_110 := oz108_109.upd u110 k109 rfl
        have kg5_110 := u110.blk kg5_109 (by omega)
        refine l_q rfl (q_assign _ _ rfl ((At.hit z99.p5 rfl).n1).ev ?_)
        refine l_end (e_fresh z99.p8 ?_)
        intro a111 z111 m111
        have s4_111 := m111 _ _ (s4_99.n8)
        have s5_111 := m111 _ _ (s5_99.n8)
        have s18_111 := m111 _ _ ((At.hit z99.p6 rfl).n1)
        have s19_111 := m111 _ _ (At.hit z99.p7 rfl)
        have low111 := (((low99.trans h108).trans h109).upd u110 geg18)
        clear m111
        refine e_then (c_seq (c_seq (c_region ?_)))
        refine l_q rfl (q_move _ _ rfl s19_111.ev ?_)
        refine l_q rfl (q_neq false rfl (At.hit z111 rfl).ev rfl (decide_eq_false (by omega)) ?_)
        refine l_end (e_fresh z111.p2 ?_)
        intro a112 z112 m112
        have s4_112 := m112 _ _ (s4_111.n2)
        have s5_112 := m112 _ _ (s5_111.n2)
        have s18_112 := m112 _ _ (s18_111.n2)
        have s113_112 := m112 _ _ (At.hit z111.put rfl)
        clear m112
        refine e_then (c_false s113_112 ?_)
        refine wp_skip (e_then (c_seq (c_region ?_)))
        refine l_q rfl (q_row rfl Tryd.underlying24 rfl (sz24.trans (congrArg some rfl.symm)) s5_112.ev (fun _ e => by rw [e]; exact kg5_110) ?_)
        refine l_alloc rfl rfl zero24 ?_
        intro g20 w113 hg113 k113 h113
        have lt_g5_g20 := Nat.lt_of_lt_of_le (heap_lt kg5_110) hg113
        have lt_g18_g20 := Nat.lt_of_lt_of_le (heap_lt k110) hg113
        have geg20 := Nat.le_trans low111.ge hg113
        have kg5_113 := h113.blk kg5_110
        have kg18_113 := h113.blk k110
        have ov_113 := (hv.low (((low99.trans h108).trans h109).upd u110 geg18)).low h113
        have ovw_113 := (hvw.low (((low99.trans h108).trans h109).upd u110 geg18)).low h113
        have oz108_113 := oz108_110.low h113
        refine l_row rfl rfl rfl (sz24.trans (congrArg some rfl)) (At.hit z112.put rfl).ev ((At.hit z112 rfl).n1).ev (one2 _ (RdF.one ov_113)) k113 rfl ?_
        intro w114 k114 u114
        have oz108_114 := oz108_113.upd u114 k113 rfl
        have kg5_114 := u114.blk kg5_113 (by omega)
        have kg18_114 := u114.blk kg18_113 (by omega)
        refine l_end (e_fresh z112.p2 ?_)
        intro a115 z115 m115
        have s4_115 := m115 _ _ (s4_112.n2)
        have s18_115 := m115 _ _ (s18_112.n2)
        have s20_115 := m115 _ _ (At.hit z112.put rfl)
        have low115 := ((low111.trans h113).upd u114 geg20)
        clear m115
        refine e_then (c_seq (c_seq (c_region ?_)))
        refine l_q rfl (q_assign _ _ rfl rfl ?_)
        refine l_end (e_fresh z115.put ?_)
        intro a116 z116 m116
        have s4_116 := m116 _ _ (s4_115.n1)
        have s18_116 := m116 _ _ (s18_115.n1)
        have s20_116 := m116 _ _ (s20_115.n1)
        have s21_116 := m116 _ _ (At.hit z115 rfl)
        clear m116
        refine e_then (wp_block ?_)
        have hall : apN (nsize 1) l ws = ws.length := Nat.le_antisymm (apN_le _ _ _) (Nat.le_of_not_lt hb100)
        obtain ⟨vs117, hvs117⟩ : ∃ vs, vs = v := ⟨_, rfl⟩
        refine c_loop ws.length (fun k a w => ∃ vg20 : Value, Fr 146 a ∧ At a 4 (vw) ∧ At a 18 (.pointer (some ⟨g18, 0, none⟩)) ∧ At a 20 (.pointer (some ⟨g20, 0, none⟩)) ∧ At a 21 (.int .i64 ((k : Nat) : Int)) ∧ w.heap[g18]? = some (.cells (#[.string hd, x108]) 24) ∧ w.heap[g20]? = some (.cells (#[.string hd, vg20]) 24) ∧ RdF w 2 vg20 (stP l ws k).length (((stP l ws k).map encP).flatten) ∧ OwnF w w0.heap.size 55 2 x108 (stP l ws ws.length).length (((stP l ws ws.length).map encP).flatten) ∧ Low w0 w) ?_ ?_ ?_
        ·
         exact ⟨v, z116, s4_116, s18_116, s20_116, s21_116, kg18_114, k114, (hv.low ((low111.trans h113).upd u114 geg20)), oz108_114, low115⟩
        ·
         intro k a118 w118 hk118 h
         obtain ⟨vg20_118, z118, s4_118, s18_118, s20_118, s21_118, kg18_118, kg20_118, oxg20_118, oz108_118, low118⟩ := h
         clear k114 kg18_114 low115 s18_116 s20_116 s21_116 s4_116 z116
         have hkk : k < apN (nsize 1) l ws := by rw [hall]; assumption
         refine c_seq (c_seq (c_region ?_))
         refine l_q rfl (q_move _ _ rfl s21_118.ev ?_)
         refine l_q rfl (q_move _ _ rfl (s4_118.n1).ev ?_)
         refine l_q rfl (q_lenF rfl rfl Tryd.underlying25 (At.hit z118.put rfl).ev (hvw.low low118) ?_)
         refine l_q rfl (q_lss true rfl ((At.hit z118 rfl).n2).ev (At.hit z118.p2 rfl).ev (decide_eq_true (by omega)) ?_)
         refine l_end (e_fresh z118.p4 ?_)
         intro a119 z119 m119
         have s4_119 := m119 _ _ (s4_118.n4)
         have s18_119 := m119 _ _ (s18_118.n4)
         have s20_119 := m119 _ _ (s20_118.n4)
         have s21_119 := m119 _ _ (s21_118.n4)
         have s127_119 := m119 _ _ (At.hit z118.p3 rfl)
         clear m119
         refine e_then (c_true s127_119 ?_)
         refine wp_skip (e_then (c_seq (wp_block (c_seq (region_laid_tail 12 11 10 8 22 138 2 24 (TL [Is (.agg (#[.string hd, vg20_118])), Is (vw), Is (.int .i64 ((k : Nat) : Int)), Is (pAt vw (k * 3)), Is (.agg (#[.string ((ws.getD k zW).f0), .string ((ws.getD k zW).f1), .string ((ws.getD k zW).f2)])), RwT 32 [(ws.getD k zW)], ZT w118.heap.size hd (stP l ws (k + 1)) 0, ZT w118.heap.size hd (stP l ws (k + 1)) 0, StT w118.heap.size hd (stP l ws (k + 1)), Is (.int .i64 0), AlX w118.heap.size 24 2, Tr]) hm (by kernel_rfl) (by kernel_rfl) z119 rfl rfl rfl rfl rfl al_x st_x (TL_cons ?_ (TL_cons ?_ (TL_cons ?_ (TL_cons ?_ (TL_cons ?_ (TL_cons ?_ (TL_cons ?_ (TL_cons ?_ (TL_cons ?_ (TL_cons ?_ (TL_cons ?_ (TL_cons ?_ TL_nil)))))))))))) (TU_cons ?_ (TU_cons ?_ (TU_cons ?_ (TU_cons ?_ (TU_cons ?_ (TU_cons ?_ (TU_cons ?_ (TU_cons ?_ (TU_cons ?_ (TU_cons ?_ (TU_cons ?_ (TU_cons ?_ TU_nil)))))))))))) (allM_cons ?_ (allM_cons ?_ (allM_cons ?_ (allM_cons ?_ (allM_cons ?_ (allM_cons ?_ (allM_cons ?_ (allM_cons ?_ (allM_cons ?_ (allM_cons ?_ (allM_cons ?_ (allM_skip rfl allM_nil)))))))))))) ?_)))))
         ·
          exact StL_is _
         ·
          exact StL_is _
         ·
          exact StL_is _
         ·
          exact StL_is _
         ·
          exact StL_is _
         ·
          exact StL_rw _ _
         ·
          exact StL_z _ _ _ _
         ·
          exact StL_z _ _ _ _
         ·
          exact StL_st _ _ _
         ·
          exact StL_is _
         ·
          exact StL_ax _ _ _
         ·
          exact StL_tr
         ·
          exact StU_is _ _
         ·
          exact StU_is _ _
         ·
          exact StU_is _ _
         ·
          exact StU_is _ _
         ·
          exact StU_is _ _
         ·
          exact StU_rw _ (by decide)
         ·
          exact StU_z _ _ _ _ (by decide)
         ·
          exact StU_z _ _ _ _ (by decide)
         ·
          exact StU_st _ _ _ (by decide)
         ·
          exact StU_is _ _
         ·
          exact StU_ax _ _ _
         ·
          exact StU_tr _
         ·
          exact (stepS_val (.agg (#[.string hd, vg20_118])) _ rfl rfl rfl Low.refl (fun _ => rfl) fun a w z lw kp kn => q_row rfl Tryd.underlying24 rfl (sz24.trans (congrArg some rfl.symm)) (kp _ _ rfl s20_119).ev (fun _ e => by rw [e]; exact (lw.blk kg20_118)) rfl)
         ·
          exact (stepS_val (vw) _ rfl rfl rfl Low.refl (fun _ => rfl) fun a w z lw kp kn => q_move _ _ rfl (kp _ _ rfl s4_119).ev rfl)
         ·
          exact (stepS_val (.int .i64 ((k : Nat) : Int)) _ rfl rfl rfl Low.refl (fun _ => rfl) fun a w z lw kp kn => q_move _ _ rfl (kp _ _ rfl s21_119).ev rfl)
         ·
          exact (stepS_val (pAt vw (k * 3)) _ rfl rfl rfl Low.refl (fun _ => rfl) fun a w z lw kp kn => q_idxF (j := k) rfl Tryd.underlying25 sz32 (at_is (u := vw) (w := w) (kn 1 _ rfl rfl)).ev (RdF.low (hvw.low low118) lw) (at_is (u := .int .i64 ((k : Nat) : Int)) (w := w) (kn 2 _ rfl rfl)).ev (by omega) rfl)
         ·
          exact (stepS_val (.agg (#[.string ((ws.getD k zW).f0), .string ((ws.getD k zW).f1), .string ((ws.getD k zW).f2)])) _ rfl rfl rfl Low.refl (fun _ => rfl) fun a w z lw kp kn => q_ldR (vs := [.string ((ws.getD k zW).f0), .string ((ws.getD k zW).f1), .string ((ws.getD k zW).f2)]) rfl Tryd.underlying32 rfl sz32 (at_is (u := pAt vw (k * 3)) (w := w) (kn 3 _ rfl rfl)).ev (fun _ e => by rw [e]; exact (RdF.low (hvw.low low118) lw)) (by omega) rfl (flat_part encW_len zW _ k (by omega)) rfl)
         ·
          exact (stepS _ rfl rfl fun a w z lw kp kn => l_buildF (vs := [.string ((ws.getD k zW).f0), .string ((ws.getD k zW).f1), .string ((ws.getD k zW).f2)]) rfl rfl Tryd.underlying25 rec32 (at_is (u := .agg (#[.string ((ws.getD k zW).f0), .string ((ws.getD k zW).f1), .string ((ws.getD k zW).f2)])) (w := w) (kn 4 _ rfl rfl)).ev rfl rfl (by decide) (by decide) (fun g w' hg k h => l_end ⟨_, rfl, h, g, rfl, k⟩))
         ·
          exact (stepS _ rfl rfl fun a w z lw kp kn => Exists.elim (kn 5 _ rfl rfl) fun u hu => l_call (fun z w' => ZT w.heap.size hd (stP l ws (k + 1)) 0 z w' ∧ Low w w') rfl rfl rfl Tryd.func11 rfl (args3 rfl (at_is (u := .agg (#[.string hd, vg20_118])) (w := w) (kn 0 _ rfl rfl)).ev rfl hu.1.ev) ((ApplyR.calls hd (vg20_118) (stP l ws k) 1 u ([(ws.getD k zW)]) (by have := stP_len l ws k; simp; omega) (H := hd) (L := (stP l ws (k + 1))) (E := 0) (ap1_ok hd (firstN_round (p := okP (nsize 1) l ws) hkk)) w (RdF.low oxg20_118 lw) (RwT.rd hu.2) (Gd.low hG (Low.trans low118 lw))).mono fun _ _ ⟨z, e, hz, k⟩ => ⟨z, e, hz, k⟩) fun _ _ hv => l_end ⟨_, rfl, hv.2, ZT.base hv.1 lw.ge⟩)
         ·
          exact (stepS _ rfl rfl fun a w z lw kp kn => Exists.elim (kn 6 _ rfl rfl) fun u hu => l_q rfl (q_move _ _ rfl hu.1.ev (l_end ⟨_, rfl, Low.refl _, hu.2⟩)))
         ·
          exact (stepS _ rfl rfl fun a w z lw kp kn => Exists.elim (kn 7 _ rfl rfl) fun u hu => Exists.elim hu.2 fun x hx => l_q rfl (q_extract rfl (hu.1.same hx.1).ev rfl (l_end ⟨_, rfl, Low.refl _, x, rfl, hx.2⟩)))
         ·
          exact (stepS _ rfl rfl fun a w z lw kp kn => Exists.elim (kn 7 _ rfl rfl) fun u hu => Exists.elim hu.2 fun x hx => l_q rfl (q_extract rfl (hu.1.same hx.1).ev rfl (l_end ⟨_, rfl, Low.refl _, rfl⟩)))
         ·
          exact (stepS _ rfl rfl fun a w z lw kp kn => l_alloc rfl rfl zero24 (fun g w' hg k h => l_end ⟨_, rfl, h, g, _, rfl, Nat.le_trans lw.ge hg, k, rfl⟩))
         intro a120 w120 z120 h120 kp kn kl
         have s4_120 := kp _ _ rfl s4_119
         have s18_120 := kp _ _ rfl s18_119
         have s20_120 := kp _ _ rfl s20_119
         have s21_120 := kp _ _ rfl s21_119
         have s127_120 := kp _ _ rfl s127_119
         have s139_120 := at_is (u := .int .i64 0) (w := w120) (kn 9 _ rfl)
         obtain ⟨u120, su120, v120, rfl, o120⟩ := kn 8 _ rfl
         obtain ⟨g120, x120, sp120, sx120, hg120, k120⟩ := kl
         replace k120 := At.agg_at sx120 su120 k120
         clear kp kn
         have lt_g18_g120 := Nat.lt_of_lt_of_le (heap_lt kg18_118) hg120
         have lt_g20_g120 := Nat.lt_of_lt_of_le (heap_lt kg20_118) hg120
         have geg120 := Nat.le_trans low118.ge hg120
         have kg18_120 := h120.blk kg18_118
         have kg20_120 := h120.blk kg20_118
         have oxg20_120 := oxg20_118.low h120
         have oz108_120 := oz108_118.low h120
         have ovw_120 := (hvw.low low118).low h120
         replace o120 := o120.base low118.ge
         simp only [List.drop_succ_cons, List.drop_zero]
         refine l_q rfl (q_assign _ _ rfl s139_120.ev ?_)
         refine l_end (e_fresh z120.put ?_)
         intro a121 z121 m121
         have s4_121 := m121 _ _ (s4_120.n1)
         have s18_121 := m121 _ _ (s18_120.n1)
         have s20_121 := m121 _ _ (s20_120.n1)
         have s21_121 := m121 _ _ (s21_120.n1)
         have s22_121 := m121 _ _ (sp120.n1)
         have s23_121 := m121 _ _ (At.hit z120 rfl)
         have low121 := (low118.trans h120)
         clear m121
         refine e_then (c_seq (c_seq (c_region ?_)))
         refine l_q rfl (q_move _ _ rfl s23_121.ev ?_)
         refine l_q rfl (q_neq false rfl (At.hit z121 rfl).ev rfl (decide_eq_false (by omega)) ?_)
         refine l_end (e_fresh z121.p2 ?_)
         intro a122 z122 m122
         have s4_122 := m122 _ _ (s4_121.n2)
         have s18_122 := m122 _ _ (s18_121.n2)
         have s20_122 := m122 _ _ (s20_121.n2)
         have s21_122 := m122 _ _ (s21_121.n2)
         have s22_122 := m122 _ _ (s22_121.n2)
         have s141_122 := m122 _ _ (At.hit z121.put rfl)
         clear m122
         refine e_then (c_false s141_122 ?_)
         refine wp_skip (e_then (c_region ?_))
         refine l_q rfl (q_row rfl Tryd.underlying24 rfl (sz24.trans (congrArg some rfl.symm)) s22_122.ev (fun _ e => by rw [e]; exact k120) ?_)
         refine l_row rfl rfl rfl (sz24.trans (congrArg some rfl)) (s20_122.n1).ev (At.hit z122 rfl).ev (one2 _ (RdF.one o120.rd)) kg20_120 rfl ?_
         intro w123 k123 u123
         have oz108_123 := oz108_120.upd u123 kg20_120 rfl
         have ob120_123 := o120.upd u123 kg20_120 rfl
         have kg18_123 := u123.blk kg18_120 (by omega)
         have kg120_123 := u123.blk k120 (by omega)
         refine l_end (e_fresh z122.put ?_)
         intro a124 z124 m124
         have s4_124 := m124 _ _ (s4_122.n1)
         have s18_124 := m124 _ _ (s18_122.n1)
         have s20_124 := m124 _ _ (s20_122.n1)
         have s21_124 := m124 _ _ (s21_122.n1)
         have low124 := (low121.upd u123 geg20)
         clear m124
         refine e_in (e_then (c_region ?_))
         refine l_q rfl (q_move _ _ rfl s21_124.ev ?_)
         refine l_q rfl (q_add (((k + 1 : Nat) : Int)) rfl (At.hit z124 rfl).ev rfl (i64_is (by omega) (by omega) (by omega)) ?_)
         refine l_q rfl (q_assign _ _ rfl (At.hit z124.put rfl).ev ?_)
         refine l_end (e_fresh z124.p3 ?_)
         intro a125 z125 m125
         have s4_125 := m125 _ _ (s4_124.n3)
         have s18_125 := m125 _ _ (s18_124.n3)
         have s20_125 := m125 _ _ (s20_124.n3)
         have s21_125 := m125 _ _ (At.hit z124.p2 rfl)
         clear m125
         exact ⟨v120, z125, s4_125, s18_125, s20_125, s21_125, kg18_123, k123, (ob120_123.rd), oz108_123, low124⟩
        ·
         intro a126 w126 h
         obtain ⟨vg20_126, z126, s4_126, s18_126, s20_126, s21_126, kg18_126, kg20_126, oxg20_126, oz108_126, low126⟩ := h
         clear k114 kg18_114 low115 s18_116 s20_116 s21_116 s4_116 z116
         refine c_seq (c_seq (c_region ?_))
         refine l_q rfl (q_move _ _ rfl s21_126.ev ?_)
         refine l_q rfl (q_move _ _ rfl (s4_126.n1).ev ?_)
         refine l_q rfl (q_lenF rfl rfl Tryd.underlying25 (At.hit z126.put rfl).ev (hvw.low low126) ?_)
         refine l_q rfl (q_lss false rfl ((At.hit z126 rfl).n2).ev (At.hit z126.p2 rfl).ev (decide_eq_false (by omega)) ?_)
         refine l_end (e_fresh z126.p4 ?_)
         intro a127 z127 m127
         have s4_127 := m127 _ _ (s4_126.n4)
         have s18_127 := m127 _ _ (s18_126.n4)
         have s20_127 := m127 _ _ (s20_126.n4)
         have s21_127 := m127 _ _ (s21_126.n4)
         have s127_127 := m127 _ _ (At.hit z126.p3 rfl)
         clear m127
         refine e_then (c_false s127_127 ?_)
         refine wp_exit (x_then (x_then (in_exit (e_then (c_seq (c_region ?_))))))
         refine l_q rfl (q_row rfl Tryd.underlying24 rfl (sz24.trans (congrArg some rfl.symm)) s20_127.ev (fun _ e => by rw [e]; exact kg20_126) ?_)
         refine l_q rfl (q_row rfl Tryd.underlying24 rfl (sz24.trans (congrArg some rfl.symm)) (s18_127.n1).ev (fun _ e => by rw [e]; exact kg18_126) ?_)
         refine l_call (fun v w' => v = .bool true ∧ Low w126 w') rfl rfl rfl Tryd.func22 rfl (args2 rfl ((At.hit z127 rfl).n1).ev (At.hit z127.put rfl).ev) (((calls_bool (Same.calls hd hd (vg20_126) (x108) (stP l ws ws.length) (stP l ws ws.length) (by have := stP_len l ws ws.length; omega) (by have := stP_len l ws ws.length; omega) _ oxg20_126 oz108_126.rd) (by unfold sameS; rw [decide_eq_true rfl, decide_eq_true rfl]; rfl))).mono fun _ _ ⟨e, k⟩ => ⟨_, e, rfl, k⟩) ?_
         rintro _ w128 ⟨rfl, h128⟩
         have kg18_128 := h128.blk kg18_126
         have kg20_128 := h128.blk kg20_126
         have oxg20_128 := oxg20_126.low h128
         have oz108_128 := oz108_126.low h128
         have ovw_128 := (hvw.low low126).low h128
         refine l_q rfl (q_assign _ _ rfl (At.hit z127.p2 rfl).ev ?_)
         refine l_end (e_fresh z127.p4 ?_)
         intro a129 z129 m129
         have s10_129 := m129 _ _ (At.hit z127.p3 rfl)
         have low129 := (low126.trans h128)
         clear m129
         refine e_then (wp_ret (r_tmp rfl z129.defers s10_129 ?_))
         exact ⟨rfl, low129⟩
     ·
      skip
      refine c_region ?_
      refine l_q rfl (q_row rfl Tryd.underlying24 rfl (sz24.trans (congrArg some rfl.symm)) s5_27.ev (fun _ e => by rw [e]; exact kg5_26) ?_)
      refine l_q rfl (q_move _ _ rfl (s1_27.n1).ev ?_)
      refine l_q rfl (q_move _ _ rfl (s11_27.n2).ev ?_)
      refine l_q rfl (q_move _ _ rfl (s2_27.n3).ev ?_)
      refine l_q rfl (q_build (ps := #[(0, .string n), (1, .string (getL l n)), (2, .string xa)]) rfl (parts3 ((At.hit z27.put rfl).n2).ev ((At.hit z27.p2 rfl).n1).ev (At.hit z27.p3 rfl).ev) (built32_012 n (getL l n) xa) ?_)
      refine l_buildF (vs := [.string n, .string (getL l n), .string xa]) rfl rfl Tryd.underlying25 rec32 (At.hit z27.p4 rfl).ev rfl rfl (by decide) (by decide) ?_
      intro g53_130 w130 hg130 k130 h130
      have lt_g5_g53_130 := Nat.lt_of_lt_of_le (heap_lt kg5_26) hg130
      have geg53_130 := Nat.le_trans low27.ge hg130
      have kg5_130 := h130.blk kg5_26
      have ov_130 := ov_26.low h130
      have ovw_130 := ovw_26.low h130
      have ol130 : RdF w130 3 (.slice (some ⟨g53_130, 0, none⟩) 1 1) ([(⟨n, getL l n, xa⟩ : Sw)]).length ([(⟨n, getL l n, xa⟩ : Sw)].map encW).flatten := rdF_rec k130 rfl
      refine l_call _ rfl rfl rfl Tryd.func11 rfl (args3 rfl ((At.hit z27 rfl).n5).ev rfl (At.hit z27.p5 rfl).ev) (ApplyR.calls hd (v) l 1 (.slice (some ⟨g53_130, 0, none⟩) 1 1) ([(⟨n, getL l n, xa⟩ : Sw)]) (by have := setP_len l n xa; simp; omega) (H := nilB) (L := ([] : List Rf)) (E := (errP (nsize 1) l (⟨n, getL l n, xa⟩ : Sw))) (ap1_bad hd hb28) _ ov_130 ol130 (Gd.low hG (low27.trans h130))) ?_
      rintro _ w131 ⟨⟨x131, rfl, o131⟩, h131⟩
      replace o131 := o131.base (low27.trans h130).ge
      have kg5_131 := h131.blk kg5_130
      have kg53_130_131 := h131.blk k130
      have ov_131 := ov_130.low h131
      have ovw_131 := ovw_130.low h131
      have oL130_131 := ol130.low h131
      refine l_q rfl (q_move _ _ rfl (At.hit z27.p6 rfl).ev ?_)
      refine l_fresh z27.p8 ?_
      intro a132 z132 m132
      have s1_132 := m132 _ _ (s1_27.n8)
      have s2_132 := m132 _ _ (s2_27.n8)
      have s3_132 := m132 _ _ (s3_27.n8)
      have s4_132 := m132 _ _ (s4_27.n8)
      have s5_132 := m132 _ _ (s5_27.n8)
      have s11_132 := m132 _ _ (s11_27.n8)
      have s47_132 := m132 _ _ (At.hit z27.p7 rfl)
      clear m132
      refine l_q rfl (q_extract rfl s47_132.ev rfl ?_)
      refine l_q rfl (q_extract rfl (s47_132.n1).ev rfl ?_)
      refine l_alloc rfl rfl zero24 ?_
      intro g12 w133 hg133 k133 h133
      have lt_g5_g12 := Nat.lt_of_lt_of_le (heap_lt kg5_131) hg133
      have lt_g53_130_g12 := Nat.lt_of_lt_of_le (heap_lt kg53_130_131) hg133
      have geg12 := Nat.le_trans ((low27.trans h130).trans h131).ge hg133
      have kg5_133 := h133.blk kg5_131
      have kg53_130_133 := h133.blk kg53_130_131
      have ov_133 := ov_131.low h133
      have ovw_133 := ovw_131.low h133
      have oL130_133 := oL130_131.low h133
      have oz131_133 := o131.low h133
      refine l_row rfl rfl rfl (sz24.trans (congrArg some rfl)) (At.hit z132.p2 rfl).ev ((At.hit z132 rfl).n2).ev (one2 _ (RdF.one oz131_133.rd)) k133 rfl ?_
      intro w134 k134 u134
      have oz131_134 := oz131_133.upd u134 k133 rfl
      have kg5_134 := u134.blk kg5_133 (by omega)
      have kg53_130_134 := u134.blk kg53_130_133 (by omega)
      refine l_q rfl (q_assign _ _ rfl ((At.hit z132.put rfl).n1).ev ?_)
      refine l_end (e_fresh z132.p4 ?_)
      intro a135 z135 m135
      have s1_135 := m135 _ _ (s1_132.n4)
      have s2_135 := m135 _ _ (s2_132.n4)
      have s3_135 := m135 _ _ (s3_132.n4)
      have s4_135 := m135 _ _ (s4_132.n4)
      have s5_135 := m135 _ _ (s5_132.n4)
      have s11_135 := m135 _ _ (s11_132.n4)
      have s12_135 := m135 _ _ ((At.hit z132.p2 rfl).n1)
      have s13_135 := m135 _ _ (At.hit z132.p3 rfl)
      have low135 := ((((low27.trans h130).trans h131).trans h133).upd u134 geg12)
      clear m135
      refine e_then (c_seq (c_seq (c_region ?_)))
      refine l_q rfl (q_move _ _ rfl s13_135.ev ?_)
      refine l_q rfl (q_eql false rfl (At.hit z135 rfl).ev rfl (decide_eq_false hb28) ?_)
      refine l_end (e_fresh z135.p2 ?_)
      intro a136 z136 m136
      have s1_136 := m136 _ _ (s1_135.n2)
      have s2_136 := m136 _ _ (s2_135.n2)
      have s3_136 := m136 _ _ (s3_135.n2)
      have s4_136 := m136 _ _ (s4_135.n2)
      have s5_136 := m136 _ _ (s5_135.n2)
      have s11_136 := m136 _ _ (s11_135.n2)
      have s12_136 := m136 _ _ (s12_135.n2)
      have s58_136 := m136 _ _ (At.hit z135.put rfl)
      clear m136
      refine e_then (c_false s58_136 ?_)
      refine wp_skip (e_then (c_seq ?_))
      by_cases hb137 : apN (nsize 1) l ws < ws.length
      ·
       skip
       refine c_region ?_
       refine l_q rfl (q_row rfl Tryd.underlying24 rfl (sz24.trans (congrArg some rfl.symm)) s5_136.ev (fun _ e => by rw [e]; exact kg5_134) ?_)
       refine l_q rfl (q_move _ _ rfl (s4_136.n1).ev ?_)
       refine l_call _ rfl rfl rfl Tryd.func11 rfl (args3 rfl ((At.hit z136 rfl).n1).ev rfl (At.hit z136.put rfl).ev) (ApplyR.calls hd (v) l 1 vw ws (by have := setP_len l n xa; simp; omega) (H := nilB) (L := ([] : List Rf)) (E := (apE (nsize 1) l ws)) ⟨if_pos hb137, if_pos hb137, rfl⟩ _ (hv.low ((((low27.trans h130).trans h131).trans h133).upd u134 geg12)) (hvw.low ((((low27.trans h130).trans h131).trans h133).upd u134 geg12)) (Gd.low hG low135)) ?_
       rintro _ w138 ⟨⟨x138, rfl, o138⟩, h138⟩
       replace o138 := o138.base low135.ge
       have kg5_138 := h138.blk kg5_134
       have kg12_138 := h138.blk k134
       have ov_138 := (hv.low ((((low27.trans h130).trans h131).trans h133).upd u134 geg12)).low h138
       have ovw_138 := (hvw.low ((((low27.trans h130).trans h131).trans h133).upd u134 geg12)).low h138
       have oz131_138 := oz131_134.low h138
       refine l_q rfl (q_move _ _ rfl (At.hit z136.p2 rfl).ev ?_)
       refine l_q rfl (q_extract rfl (At.hit z136.p3 rfl).ev rfl ?_)
       refine l_q rfl (q_extract rfl ((At.hit z136.p3 rfl).n1).ev rfl ?_)
       refine l_alloc rfl rfl zero24 ?_
       intro g18 w139 hg139 k139 h139
       have lt_g5_g18 := Nat.lt_of_lt_of_le (heap_lt kg5_138) hg139
       have lt_g12_g18 := Nat.lt_of_lt_of_le (heap_lt kg12_138) hg139
       have geg18 := Nat.le_trans (low135.trans h138).ge hg139
       have kg5_139 := h139.blk kg5_138
       have kg12_139 := h139.blk kg12_138
       have ov_139 := ov_138.low h139
       have ovw_139 := ovw_138.low h139
       have oz131_139 := oz131_138.low h139
       have oz138_139 := o138.low h139
       refine l_row rfl rfl rfl (sz24.trans (congrArg some rfl)) (At.hit z136.p6 rfl).ev ((At.hit z136.p4 rfl).n2).ev (one2 _ (RdF.one oz138_139.rd)) k139 rfl ?_
       intro w140 k140 u140
       have oz131_140 := oz131_139.upd u140 k139 rfl
       have oz138_140 := oz138_139.upd u140 k139 rfl
       have kg5_140 := u140.blk kg5_139 (by omega)
       have kg12_140 := u140.blk kg12_139 (by omega)
       refine l_q rfl (q_assign _ _ rfl ((At.hit z136.p5 rfl).n1).ev ?_)
       refine l_end (e_fresh z136.p8 ?_)
       intro a141 z141 m141
       have s4_141 := m141 _ _ (s4_136.n8)
       have s5_141 := m141 _ _ (s5_136.n8)
       have s18_141 := m141 _ _ ((At.hit z136.p6 rfl).n1)
       have s19_141 := m141 _ _ (At.hit z136.p7 rfl)
       have low141 := (((low135.trans h138).trans h139).upd u140 geg18)
       clear m141
       refine e_then (c_seq (c_seq (c_region ?_)))
       refine l_q rfl (q_move _ _ rfl s19_141.ev ?_)
       refine l_q rfl (q_neq true rfl (At.hit z141 rfl).ev rfl (decide_eq_true (fun h => apN_stop hb137 (by have h2 := (ap_bad (sz := nsize 1) hd hb137 rfl).2.2; rw [h] at h2; exact h2.symm))) ?_)
       refine l_end (e_fresh z141.p2 ?_)
       intro a142 z142 m142
       have s4_142 := m142 _ _ (s4_141.n2)
       have s5_142 := m142 _ _ (s5_141.n2)
       have s18_142 := m142 _ _ (s18_141.n2)
       have s113_142 := m142 _ _ (At.hit z141.put rfl)
       clear m142
       refine e_then (c_true s113_142 ?_)
       refine c_seq (c_region ?_)
       refine l_q rfl (q_fld 1 rfl (by kernel_rfl) s18_142.ev ?_)
       refine l_q rfl (q_cellS (x138) rfl Tryd.underlying22 (At.hit z142 rfl).ev (fun _ e => by rw [e]; exact (cells_at k140 1).trans rfl) ?_)
       refine l_q rfl (q_lenF rfl rfl Tryd.underlying22 (At.hit z142.put rfl).ev oz138_140.rd ?_)
       refine l_q rfl (q_eql true rfl (At.hit z142.p2 rfl).ev rfl (decide_eq_true rfl) ?_)
       refine l_q rfl (q_move _ _ rfl (At.hit z142.p3 rfl).ev ?_)
       refine l_qg (wanted_is (j := 4) (d := 118) (b := true) rfl rfl (At.hit z142.p4 rfl) rfl) (q_fld 0 rfl (by kernel_rfl) (s18_142.n5).ev ?_)
       refine l_qg (wanted_is (j := 4) (d := 118) (b := true) rfl rfl ((At.hit z142.p4 rfl).n1) rfl) (q_cellT (.string nilB) rfl Tryd.underlying9 (At.hit z142.p5 rfl).ev (fun _ e => by rw [e]; exact (cells_at k140 0).trans rfl) ?_)
       refine l_qg (wanted_is (j := 4) (d := 118) (b := true) rfl rfl ((At.hit z142.p4 rfl).n2) rfl) (q_streq true rfl (At.hit z142.p6 rfl).ev rfl (strT rfl) ?_)
       refine l_fresh z142.p8 ?_
       intro a143 z143 m143
       have s118_143 := m143 _ _ ((At.hit z142.p4 rfl).n3)
       have s121_143 := m143 _ _ (At.hit z142.p7 rfl)
       clear m143
       refine l_q rfl (q_pick (b := true) (.bool true) rfl s118_143.ev s121_143.ev ?_)
       refine l_q rfl (q_assign _ _ rfl (At.hit z143 rfl).ev ?_)
       refine l_end (e_fresh z143.p2 ?_)
       intro a144 z144 m144
       have s10_144 := m144 _ _ (At.hit z143.put rfl)
       clear m144
       refine e_then (wp_ret (ret_then (r_tmp rfl z144.defers s10_144 ?_)))
       exact ⟨rfl, low141⟩
      ·
       skip
       refine c_region ?_
       refine l_q rfl (q_row rfl Tryd.underlying24 rfl (sz24.trans (congrArg some rfl.symm)) s5_136.ev (fun _ e => by rw [e]; exact kg5_134) ?_)
       refine l_q rfl (q_move _ _ rfl (s4_136.n1).ev ?_)
       refine l_call _ rfl rfl rfl Tryd.func11 rfl (args3 rfl ((At.hit z136 rfl).n1).ev rfl (At.hit z136.put rfl).ev) (ApplyR.calls hd (v) l 1 vw ws (by have := setP_len l n xa; simp; omega) (H := hd) (L := (stP l ws ws.length)) (E := 0) ⟨if_neg hb137, if_neg hb137, if_neg hb137⟩ _ (hv.low ((((low27.trans h130).trans h131).trans h133).upd u134 geg12)) (hvw.low ((((low27.trans h130).trans h131).trans h133).upd u134 geg12)) (Gd.low hG low135)) ?_
       rintro _ w145 ⟨⟨x145, rfl, o145⟩, h145⟩
       replace o145 := o145.base low135.ge
       have kg5_145 := h145.blk kg5_134
       have kg12_145 := h145.blk k134
       have ov_145 := (hv.low ((((low27.trans h130).trans h131).trans h133).upd u134 geg12)).low h145
       have ovw_145 := (hvw.low ((((low27.trans h130).trans h131).trans h133).upd u134 geg12)).low h145
       have oz131_145 := oz131_134.low h145
       refine l_q rfl (q_move _ _ rfl (At.hit z136.p2 rfl).ev ?_)
       refine l_q rfl (q_extract rfl (At.hit z136.p3 rfl).ev rfl ?_)
       refine l_q rfl (q_extract rfl ((At.hit z136.p3 rfl).n1).ev rfl ?_)
       refine l_alloc rfl rfl zero24 ?_
       intro g18 w146 hg146 k146 h146
       have lt_g5_g18 := Nat.lt_of_lt_of_le (heap_lt kg5_145) hg146
       have lt_g12_g18 := Nat.lt_of_lt_of_le (heap_lt kg12_145) hg146
       have geg18 := Nat.le_trans (low135.trans h145).ge hg146
       have kg5_146 := h146.blk kg5_145
       have kg12_146 := h146.blk kg12_145
       have ov_146 := ov_145.low h146
       have ovw_146 := ovw_145.low h146
       have oz131_146 := oz131_145.low h146
       have oz145_146 := o145.low h146
       refine l_row rfl rfl rfl (sz24.trans (congrArg some rfl)) (At.hit z136.p6 rfl).ev ((At.hit z136.p4 rfl).n2).ev (one2 _ (RdF.one oz145_146.rd)) k146 rfl ?_
       intro w147 k147 u147
       have oz131_147 := oz131_146.upd u147 k146 rfl
       have oz145_147 := oz145_146.upd u147 k146 rfl
       have kg5_147 := u147.blk kg5_146 (by omega)
       have kg12_147 := u147.blk kg12_146 (by omega)
       refine l_q rfl (q_assign _ _ rfl ((At.hit z136.p5 rfl).n1).ev ?_)
       refine l_end (e_fresh z136.p8 ?_)
       intro a148 z148 m148
       have s4_148 := m148 _ _ (s4_136.n8)
       have s5_148 := m148 _ _ (s5_136.n8)
       have s18_148 := m148 _ _ ((At.hit z136.p6 rfl).n1)
       have s19_148 := m148 _ _ (At.hit z136.p7 rfl)
       have low148 := (((low135.trans h145).trans h146).upd u147 geg18)
       clear m148
       refine e_then (c_seq (c_seq (c_region ?_)))
       refine l_q rfl (q_move _ _ rfl s19_148.ev ?_)
       refine l_q rfl (q_neq false rfl (At.hit z148 rfl).ev rfl (decide_eq_false (by omega)) ?_)
       refine l_end (e_fresh z148.p2 ?_)
       intro a149 z149 m149
       have s4_149 := m149 _ _ (s4_148.n2)
       have s5_149 := m149 _ _ (s5_148.n2)
       have s18_149 := m149 _ _ (s18_148.n2)
       have s113_149 := m149 _ _ (At.hit z148.put rfl)
       clear m149
       refine e_then (c_false s113_149 ?_)
       refine wp_skip (e_then (c_seq (c_region ?_)))
       refine l_q rfl (q_row rfl Tryd.underlying24 rfl (sz24.trans (congrArg some rfl.symm)) s5_149.ev (fun _ e => by rw [e]; exact kg5_147) ?_)
       refine l_alloc rfl rfl zero24 ?_
       intro g20 w150 hg150 k150 h150
       have lt_g5_g20 := Nat.lt_of_lt_of_le (heap_lt kg5_147) hg150
       have lt_g18_g20 := Nat.lt_of_lt_of_le (heap_lt k147) hg150
       have geg20 := Nat.le_trans low148.ge hg150
       have kg5_150 := h150.blk kg5_147
       have kg18_150 := h150.blk k147
       have ov_150 := (hv.low (((low135.trans h145).trans h146).upd u147 geg18)).low h150
       have ovw_150 := (hvw.low (((low135.trans h145).trans h146).upd u147 geg18)).low h150
       have oz145_150 := oz145_147.low h150
       refine l_row rfl rfl rfl (sz24.trans (congrArg some rfl)) (At.hit z149.put rfl).ev ((At.hit z149 rfl).n1).ev (one2 _ (RdF.one ov_150)) k150 rfl ?_
       intro w151 k151 u151
       have oz145_151 := oz145_150.upd u151 k150 rfl
       have kg5_151 := u151.blk kg5_150 (by omega)
       have kg18_151 := u151.blk kg18_150 (by omega)
       refine l_end (e_fresh z149.p2 ?_)
       intro a152 z152 m152
       have s4_152 := m152 _ _ (s4_149.n2)
       have s18_152 := m152 _ _ (s18_149.n2)
       have s20_152 := m152 _ _ (At.hit z149.put rfl)
       have low152 := ((low148.trans h150).upd u151 geg20)
       clear m152
       refine e_then (c_seq (c_seq (c_region ?_)))
       refine l_q rfl (q_assign _ _ rfl rfl ?_)
       refine l_end (e_fresh z152.put ?_)
       intro a153 z153 m153
       have s4_153 := m153 _ _ (s4_152.n1)
       have s18_153 := m153 _ _ (s18_152.n1)
       have s20_153 := m153 _ _ (s20_152.n1)
       have s21_153 := m153 _ _ (At.hit z152 rfl)
       clear m153
       refine e_then (wp_block ?_)
       have hall : apN (nsize 1) l ws = ws.length := Nat.le_antisymm (apN_le _ _ _) (Nat.le_of_not_lt hb137)
       obtain ⟨vs154, hvs154⟩ : ∃ vs, vs = v := ⟨_, rfl⟩
       refine c_loop ws.length (fun k a w => ∃ vg20 : Value, Fr 146 a ∧ At a 4 (vw) ∧ At a 18 (.pointer (some ⟨g18, 0, none⟩)) ∧ At a 20 (.pointer (some ⟨g20, 0, none⟩)) ∧ At a 21 (.int .i64 ((k : Nat) : Int)) ∧ w.heap[g18]? = some (.cells (#[.string hd, x145]) 24) ∧ w.heap[g20]? = some (.cells (#[.string hd, vg20]) 24) ∧ RdF w 2 vg20 (stP l ws k).length (((stP l ws k).map encP).flatten) ∧ OwnF w w0.heap.size 55 2 x145 (stP l ws ws.length).length (((stP l ws ws.length).map encP).flatten) ∧ Low w0 w) ?_ ?_ ?_
       ·
        exact ⟨v, z153, s4_153, s18_153, s20_153, s21_153, kg18_151, k151, (hv.low ((low148.trans h150).upd u151 geg20)), oz145_151, low152⟩
       ·
        intro k a155 w155 hk155 h
        obtain ⟨vg20_155, z155, s4_155, s18_155, s20_155, s21_155, kg18_155, kg20_155, oxg20_155, oz145_155, low155⟩ := h
        clear k151 kg18_151 low152 s18_153 s20_153 s21_153 s4_153 z153
        have hkk : k < apN (nsize 1) l ws := by rw [hall]; assumption
        refine c_seq (c_seq (c_region ?_))
        refine l_q rfl (q_move _ _ rfl s21_155.ev ?_)
        refine l_q rfl (q_move _ _ rfl (s4_155.n1).ev ?_)
        refine l_q rfl (q_lenF rfl rfl Tryd.underlying25 (At.hit z155.put rfl).ev (hvw.low low155) ?_)
        refine l_q rfl (q_lss true rfl ((At.hit z155 rfl).n2).ev (At.hit z155.p2 rfl).ev (decide_eq_true (by omega)) ?_)
        refine l_end (e_fresh z155.p4 ?_)
        intro a156 z156 m156
        have s4_156 := m156 _ _ (s4_155.n4)
        have s18_156 := m156 _ _ (s18_155.n4)
        have s20_156 := m156 _ _ (s20_155.n4)
        have s21_156 := m156 _ _ (s21_155.n4)
        have s127_156 := m156 _ _ (At.hit z155.p3 rfl)
        clear m156
        refine e_then (c_true s127_156 ?_)
        refine wp_skip (e_then (c_seq (wp_block (c_seq (region_laid_tail 12 11 10 8 22 138 2 24 (TL [Is (.agg (#[.string hd, vg20_155])), Is (vw), Is (.int .i64 ((k : Nat) : Int)), Is (pAt vw (k * 3)), Is (.agg (#[.string ((ws.getD k zW).f0), .string ((ws.getD k zW).f1), .string ((ws.getD k zW).f2)])), RwT 32 [(ws.getD k zW)], ZT w155.heap.size hd (stP l ws (k + 1)) 0, ZT w155.heap.size hd (stP l ws (k + 1)) 0, StT w155.heap.size hd (stP l ws (k + 1)), Is (.int .i64 0), AlX w155.heap.size 24 2, Tr]) hm (by kernel_rfl) (by kernel_rfl) z156 rfl rfl rfl rfl rfl al_x st_x (TL_cons ?_ (TL_cons ?_ (TL_cons ?_ (TL_cons ?_ (TL_cons ?_ (TL_cons ?_ (TL_cons ?_ (TL_cons ?_ (TL_cons ?_ (TL_cons ?_ (TL_cons ?_ (TL_cons ?_ TL_nil)))))))))))) (TU_cons ?_ (TU_cons ?_ (TU_cons ?_ (TU_cons ?_ (TU_cons ?_ (TU_cons ?_ (TU_cons ?_ (TU_cons ?_ (TU_cons ?_ (TU_cons ?_ (TU_cons ?_ (TU_cons ?_ TU_nil)))))))))))) (allM_cons ?_ (allM_cons ?_ (allM_cons ?_ (allM_cons ?_ (allM_cons ?_ (allM_cons ?_ (allM_cons ?_ (allM_cons ?_ (allM_cons ?_ (allM_cons ?_ (allM_cons ?_ (allM_skip rfl allM_nil)))))))))))) ?_)))))
        ·
         exact StL_is _
        ·
         exact StL_is _
        ·
         exact StL_is _
        ·
         exact StL_is _
        ·
         exact StL_is _
        ·
         exact StL_rw _ _
        ·
         exact StL_z _ _ _ _
        ·
         exact StL_z _ _ _ _
        ·
         exact StL_st _ _ _
        ·
         exact StL_is _
        ·
         exact StL_ax _ _ _
        ·
         exact StL_tr
        ·
         exact StU_is _ _
        ·
         exact StU_is _ _
        ·
         exact StU_is _ _
        ·
         exact StU_is _ _
        ·
         exact StU_is _ _
        ·
         exact StU_rw _ (by decide)
        ·
         exact StU_z _ _ _ _ (by decide)
        ·
         exact StU_z _ _ _ _ (by decide)
        ·
         exact StU_st _ _ _ (by decide)
        ·
         exact StU_is _ _
        ·
         exact StU_ax _ _ _
        ·
         exact StU_tr _
        ·
         exact (stepS_val (.agg (#[.string hd, vg20_155])) _ rfl rfl rfl Low.refl (fun _ => rfl) fun a w z lw kp kn => q_row rfl Tryd.underlying24 rfl (sz24.trans (congrArg some rfl.symm)) (kp _ _ rfl s20_156).ev (fun _ e => by rw [e]; exact (lw.blk kg20_155)) rfl)
        ·
         exact (stepS_val (vw) _ rfl rfl rfl Low.refl (fun _ => rfl) fun a w z lw kp kn => q_move _ _ rfl (kp _ _ rfl s4_156).ev rfl)
        ·
         exact (stepS_val (.int .i64 ((k : Nat) : Int)) _ rfl rfl rfl Low.refl (fun _ => rfl) fun a w z lw kp kn => q_move _ _ rfl (kp _ _ rfl s21_156).ev rfl)
        ·
         exact (stepS_val (pAt vw (k * 3)) _ rfl rfl rfl Low.refl (fun _ => rfl) fun a w z lw kp kn => q_idxF (j := k) rfl Tryd.underlying25 sz32 (at_is (u := vw) (w := w) (kn 1 _ rfl rfl)).ev (RdF.low (hvw.low low155) lw) (at_is (u := .int .i64 ((k : Nat) : Int)) (w := w) (kn 2 _ rfl rfl)).ev (by omega) rfl)
        ·
         exact (stepS_val (.agg (#[.string ((ws.getD k zW).f0), .string ((ws.getD k zW).f1), .string ((ws.getD k zW).f2)])) _ rfl rfl rfl Low.refl (fun _ => rfl) fun a w z lw kp kn => q_ldR (vs := [.string ((ws.getD k zW).f0), .string ((ws.getD k zW).f1), .string ((ws.getD k zW).f2)]) rfl Tryd.underlying32 rfl sz32 (at_is (u := pAt vw (k * 3)) (w := w) (kn 3 _ rfl rfl)).ev (fun _ e => by rw [e]; exact (RdF.low (hvw.low low155) lw)) (by omega) rfl (flat_part encW_len zW _ k (by omega)) rfl)
        ·
         exact (stepS _ rfl rfl fun a w z lw kp kn => l_buildF (vs := [.string ((ws.getD k zW).f0), .string ((ws.getD k zW).f1), .string ((ws.getD k zW).f2)]) rfl rfl Tryd.underlying25 rec32 (at_is (u := .agg (#[.string ((ws.getD k zW).f0), .string ((ws.getD k zW).f1), .string ((ws.getD k zW).f2)])) (w := w) (kn 4 _ rfl rfl)).ev rfl rfl (by decide) (by decide) (fun g w' hg k h => l_end ⟨_, rfl, h, g, rfl, k⟩))
        ·
         exact (stepS _ rfl rfl fun a w z lw kp kn => Exists.elim (kn 5 _ rfl rfl) fun u hu => l_call (fun z w' => ZT w.heap.size hd (stP l ws (k + 1)) 0 z w' ∧ Low w w') rfl rfl rfl Tryd.func11 rfl (args3 rfl (at_is (u := .agg (#[.string hd, vg20_155])) (w := w) (kn 0 _ rfl rfl)).ev rfl hu.1.ev) ((ApplyR.calls hd (vg20_155) (stP l ws k) 1 u ([(ws.getD k zW)]) (by have := stP_len l ws k; simp; omega) (H := hd) (L := (stP l ws (k + 1))) (E := 0) (ap1_ok hd (firstN_round (p := okP (nsize 1) l ws) hkk)) w (RdF.low oxg20_155 lw) (RwT.rd hu.2) (Gd.low hG (Low.trans low155 lw))).mono fun _ _ ⟨z, e, hz, k⟩ => ⟨z, e, hz, k⟩) fun _ _ hv => l_end ⟨_, rfl, hv.2, ZT.base hv.1 lw.ge⟩)
        ·
         exact (stepS _ rfl rfl fun a w z lw kp kn => Exists.elim (kn 6 _ rfl rfl) fun u hu => l_q rfl (q_move _ _ rfl hu.1.ev (l_end ⟨_, rfl, Low.refl _, hu.2⟩)))
        ·
         exact (stepS _ rfl rfl fun a w z lw kp kn => Exists.elim (kn 7 _ rfl rfl) fun u hu => Exists.elim hu.2 fun x hx => l_q rfl (q_extract rfl (hu.1.same hx.1).ev rfl (l_end ⟨_, rfl, Low.refl _, x, rfl, hx.2⟩)))
        ·
         exact (stepS _ rfl rfl fun a w z lw kp kn => Exists.elim (kn 7 _ rfl rfl) fun u hu => Exists.elim hu.2 fun x hx => l_q rfl (q_extract rfl (hu.1.same hx.1).ev rfl (l_end ⟨_, rfl, Low.refl _, rfl⟩)))
        ·
         exact (stepS _ rfl rfl fun a w z lw kp kn => l_alloc rfl rfl zero24 (fun g w' hg k h => l_end ⟨_, rfl, h, g, _, rfl, Nat.le_trans lw.ge hg, k, rfl⟩))
        intro a157 w157 z157 h157 kp kn kl
        have s4_157 := kp _ _ rfl s4_156
        have s18_157 := kp _ _ rfl s18_156
        have s20_157 := kp _ _ rfl s20_156
        have s21_157 := kp _ _ rfl s21_156
        have s127_157 := kp _ _ rfl s127_156
        have s139_157 := at_is (u := .int .i64 0) (w := w157) (kn 9 _ rfl)
        obtain ⟨u157, su157, v157, rfl, o157⟩ := kn 8 _ rfl
        obtain ⟨g157, x157, sp157, sx157, hg157, k157⟩ := kl
        replace k157 := At.agg_at sx157 su157 k157
        clear kp kn
        have lt_g18_g157 := Nat.lt_of_lt_of_le (heap_lt kg18_155) hg157
        have lt_g20_g157 := Nat.lt_of_lt_of_le (heap_lt kg20_155) hg157
        have geg157 := Nat.le_trans low155.ge hg157
        have kg18_157 := h157.blk kg18_155
        have kg20_157 := h157.blk kg20_155
        have oxg20_157 := oxg20_155.low h157
        have oz145_157 := oz145_155.low h157
        have ovw_157 := (hvw.low low155).low h157
        replace o157 := o157.base low155.ge
        simp only [List.drop_succ_cons, List.drop_zero]
        refine l_q rfl (q_assign _ _ rfl s139_157.ev ?_)
        refine l_end (e_fresh z157.put ?_)
        intro a158 z158 m158
        have s4_158 := m158 _ _ (s4_157.n1)
        have s18_158 := m158 _ _ (s18_157.n1)
        have s20_158 := m158 _ _ (s20_157.n1)
        have s21_158 := m158 _ _ (s21_157.n1)
        have s22_158 := m158 _ _ (sp157.n1)
        have s23_158 := m158 _ _ (At.hit z157 rfl)
        have low158 := (low155.trans h157)
        clear m158
        refine e_then (c_seq (c_seq (c_region ?_)))
        refine l_q rfl (q_move _ _ rfl s23_158.ev ?_)
        refine l_q rfl (q_neq false rfl (At.hit z158 rfl).ev rfl (decide_eq_false (by omega)) ?_)
        refine l_end (e_fresh z158.p2 ?_)
        intro a159 z159 m159
        have s4_159 := m159 _ _ (s4_158.n2)
        have s18_159 := m159 _ _ (s18_158.n2)
        have s20_159 := m159 _ _ (s20_158.n2)
        have s21_159 := m159 _ _ (s21_158.n2)
        have s22_159 := m159 _ _ (s22_158.n2)
        have s141_159 := m159 _ _ (At.hit z158.put rfl)
        clear m159
        refine e_then (c_false s141_159 ?_)
        refine wp_skip (e_then (c_region ?_))
        refine l_q rfl (q_row rfl Tryd.underlying24 rfl (sz24.trans (congrArg some rfl.symm)) s22_159.ev (fun _ e => by rw [e]; exact k157) ?_)
        refine l_row rfl rfl rfl (sz24.trans (congrArg some rfl)) (s20_159.n1).ev (At.hit z159 rfl).ev (one2 _ (RdF.one o157.rd)) kg20_157 rfl ?_
        intro w160 k160 u160
        have oz145_160 := oz145_157.upd u160 kg20_157 rfl
        have ob157_160 := o157.upd u160 kg20_157 rfl
        have kg18_160 := u160.blk kg18_157 (by omega)
        have kg157_160 := u160.blk k157 (by omega)
        refine l_end (e_fresh z159.put ?_)
        intro a161 z161 m161
        have s4_161 := m161 _ _ (s4_159.n1)
        have s18_161 := m161 _ _ (s18_159.n1)
        have s20_161 := m161 _ _ (s20_159.n1)
        have s21_161 := m161 _ _ (s21_159.n1)
        have low161 := (low158.upd u160 geg20)
        clear m161
        refine e_in (e_then (c_region ?_))
        refine l_q rfl (q_move _ _ rfl s21_161.ev ?_)
        refine l_q rfl (q_add (((k + 1 : Nat) : Int)) rfl (At.hit z161 rfl).ev rfl (i64_is (by omega) (by omega) (by omega)) ?_)
        refine l_q rfl (q_assign _ _ rfl (At.hit z161.put rfl).ev ?_)
        refine l_end (e_fresh z161.p3 ?_)
        intro a162 z162 m162
        have s4_162 := m162 _ _ (s4_161.n3)
        have s18_162 := m162 _ _ (s18_161.n3)
        have s20_162 := m162 _ _ (s20_161.n3)
        have s21_162 := m162 _ _ (At.hit z161.p2 rfl)
        clear m162
        exact ⟨v157, z162, s4_162, s18_162, s20_162, s21_162, kg18_160, k160, (ob157_160.rd), oz145_160, low161⟩
       ·
        intro a163 w163 h
        obtain ⟨vg20_163, z163, s4_163, s18_163, s20_163, s21_163, kg18_163, kg20_163, oxg20_163, oz145_163, low163⟩ := h
        clear k151 kg18_151 low152 s18_153 s20_153 s21_153 s4_153 z153
        refine c_seq (c_seq (c_region ?_))
        refine l_q rfl (q_move _ _ rfl s21_163.ev ?_)
        refine l_q rfl (q_move _ _ rfl (s4_163.n1).ev ?_)
        refine l_q rfl (q_lenF rfl rfl Tryd.underlying25 (At.hit z163.put rfl).ev (hvw.low low163) ?_)
        refine l_q rfl (q_lss false rfl ((At.hit z163 rfl).n2).ev (At.hit z163.p2 rfl).ev (decide_eq_false (by omega)) ?_)
        refine l_end (e_fresh z163.p4 ?_)
        intro a164 z164 m164
        have s4_164 := m164 _ _ (s4_163.n4)
        have s18_164 := m164 _ _ (s18_163.n4)
        have s20_164 := m164 _ _ (s20_163.n4)
        have s21_164 := m164 _ _ (s21_163.n4)
        have s127_164 := m164 _ _ (At.hit z163.p3 rfl)
        clear m164
        refine e_then (c_false s127_164 ?_)
        refine wp_exit (x_then (x_then (in_exit (e_then (c_seq (c_region ?_))))))
        refine l_q rfl (q_row rfl Tryd.underlying24 rfl (sz24.trans (congrArg some rfl.symm)) s20_164.ev (fun _ e => by rw [e]; exact kg20_163) ?_)
        refine l_q rfl (q_row rfl Tryd.underlying24 rfl (sz24.trans (congrArg some rfl.symm)) (s18_164.n1).ev (fun _ e => by rw [e]; exact kg18_163) ?_)
        refine l_call (fun v w' => v = .bool true ∧ Low w163 w') rfl rfl rfl Tryd.func22 rfl (args2 rfl ((At.hit z164 rfl).n1).ev (At.hit z164.put rfl).ev) (((calls_bool (Same.calls hd hd (vg20_163) (x145) (stP l ws ws.length) (stP l ws ws.length) (by have := stP_len l ws ws.length; omega) (by have := stP_len l ws ws.length; omega) _ oxg20_163 oz145_163.rd) (by unfold sameS; rw [decide_eq_true rfl, decide_eq_true rfl]; rfl))).mono fun _ _ ⟨e, k⟩ => ⟨_, e, rfl, k⟩) ?_
        rintro _ w165 ⟨rfl, h165⟩
        have kg18_165 := h165.blk kg18_163
        have kg20_165 := h165.blk kg20_163
        have oxg20_165 := oxg20_163.low h165
        have oz145_165 := oz145_163.low h165
        have ovw_165 := (hvw.low low163).low h165
        refine l_q rfl (q_assign _ _ rfl (At.hit z164.p2 rfl).ev ?_)
        refine l_end (e_fresh z164.p4 ?_)
        intro a166 z166 m166
        have s10_166 := m166 _ _ (At.hit z164.p3 rfl)
        have low166 := (low163.trans h165)
        clear m166
        refine e_then (wp_ret (r_tmp rfl z166.defers s10_166 ?_))
        exact ⟨rfl, low166⟩
  ·
   skip
   refine c_region ?_
   refine l_q rfl (q_row rfl Tryd.underlying24 rfl (sz24.trans (congrArg some rfl.symm)) s5_4.ev (fun _ e => by rw [e]; exact kg5_3) ?_)
   refine l_call (fun v w' => v = .bool true ∧ Low w3 w') rfl rfl rfl Tryd.func8 rfl (args1 rfl (At.hit z4 rfl).ev) (((calls_bool (Few.calls hd (v) l _ ov_3) hb5)).mono fun _ _ ⟨e, k⟩ => ⟨_, e, rfl, k⟩) ?_
   rintro _ w167 ⟨rfl, h167⟩
   have kg5_167 := h167.blk kg5_3
   have ov_167 := ov_3.low h167
   have ovw_167 := ovw_3.low h167
   refine l_q rfl (q_not (b := true) rfl (At.hit z4.put rfl).ev ?_)
   refine l_q rfl (q_move _ _ rfl (At.hit z4.p2 rfl).ev ?_)
   refine l_qg (wanted_is (j := 3) (d := 29) (b := false) rfl rfl (At.hit z4.p3 rfl) rfl) (q_row rfl Tryd.underlying24 rfl (sz24.trans (congrArg some rfl.symm)) (s5_4.n4).ev (fun _ e => by rw [e]; exact kg5_167) ?_)
   refine l_callg (fun v w' => v = .bool false ∧ Low w167 w') (wanted_is (j := 3) (d := 29) (b := false) rfl rfl ((At.hit z4.p3 rfl).n1) rfl) rfl rfl Tryd.func17 rfl (args2 rfl (At.hit z4.p4 rfl).ev rfl) (((calls_bool (RightS.calls hd (v) l (by have := (few_of hb5).1; omega) 1 _ ov_167 (Gd.low hG (low4.trans h167))) (eq_false_of_ne_true hb6))).mono fun _ _ ⟨e, k⟩ => ⟨_, e, rfl, k⟩) ?_
   rintro _ w168 ⟨rfl, h168⟩
   have kg5_168 := h168.blk kg5_167
   have ov_168 := ov_167.low h168
   have ovw_168 := ovw_167.low h168
   refine l_qg (wanted_is (j := 3) (d := 29) (b := false) rfl rfl ((At.hit z4.p3 rfl).n2) rfl) (q_not (b := false) rfl (At.hit z4.p5 rfl).ev ?_)
   refine l_q rfl (q_pick (b := false) (.bool true) rfl ((At.hit z4.p3 rfl).n3).ev (At.hit z4.p6 rfl).ev ?_)
   refine l_fresh z4.p8 ?_
   intro a169 z169 m169
   have s1_169 := m169 _ _ (s1_4.n8)
   have s2_169 := m169 _ _ (s2_4.n8)
   have s3_169 := m169 _ _ (s3_4.n8)
   have s4_169 := m169 _ _ (s4_4.n8)
   have s5_169 := m169 _ _ (s5_4.n8)
   have s33_169 := m169 _ _ (At.hit z4.p7 rfl)
   clear m169
   refine l_q rfl (q_move _ _ rfl s33_169.ev ?_)
   refine l_skip (wanted_is (j := 8) (d := 34) (b := true) rfl rfl (At.hit z169 rfl) rfl) ?_
   refine l_skip (wanted_is (j := 8) (d := 34) (b := true) rfl rfl ((At.hit z169 rfl).n1) rfl) ?_
   refine l_skip (wanted_is (j := 8) (d := 34) (b := true) rfl rfl ((At.hit z169 rfl).n2) rfl) ?_
   refine l_q rfl (q_pick (b := true) (.bool true) rfl ((At.hit z169 rfl).n3).ev rfl ?_)
   refine l_q rfl (q_move _ _ rfl (At.hit z169.p4 rfl).ev ?_)
   refine l_skip (wanted_is (j := 13) (d := 39) (b := true) rfl rfl (At.hit z169.p5 rfl) rfl) ?_
   refine l_skip (wanted_is (j := 13) (d := 39) (b := true) rfl rfl ((At.hit z169.p5 rfl).n1) rfl) ?_
   refine l_fresh z169.p8 ?_
   intro a170 z170 m170
   have s1_170 := m170 _ _ (s1_169.n8)
   have s2_170 := m170 _ _ (s2_169.n8)
   have s3_170 := m170 _ _ (s3_169.n8)
   have s4_170 := m170 _ _ (s4_169.n8)
   have s5_170 := m170 _ _ (s5_169.n8)
   have s39_170 := m170 _ _ ((At.hit z169.p5 rfl).n2)
   have s41_170 := m170 _ _ (At.hit z169.p7 rfl)
   clear m170
   refine l_skip (wanted_is (j := 13) (d := 39) (b := true) rfl rfl s39_170 rfl) ?_
   refine l_q rfl (q_pick (b := true) (.bool true) rfl (s39_170.n1).ev rfl ?_)
   refine l_end (e_fresh z170.p2 ?_)
   intro a171 z171 m171
   have s1_171 := m171 _ _ (s1_170.n2)
   have s2_171 := m171 _ _ (s2_170.n2)
   have s3_171 := m171 _ _ (s3_170.n2)
   have s4_171 := m171 _ _ (s4_170.n2)
   have s5_171 := m171 _ _ (s5_170.n2)
   have s43_171 := m171 _ _ (At.hit z170.put rfl)
   have low171 := ((low4.trans h167).trans h168)
   clear m171
   refine e_then (c_true s43_171 ?_)
   refine c_seq (c_region ?_)
   refine l_q rfl (q_assign _ _ rfl rfl ?_)
   refine l_end (e_fresh z171.put ?_)
   intro a172 z172 m172
   have s10_172 := m172 _ _ (At.hit z171 rfl)
   clear m172
   refine e_then (wp_ret (ret_then (r_tmp rfl z172.defers s10_172 ?_)))
   exact ⟨rfl, low171⟩
 ·
  skip
  refine c_region ?_
  refine l_q rfl (q_row rfl Tryd.underlying24 rfl (sz24.trans (congrArg some rfl.symm)) s5_4.ev (fun _ e => by rw [e]; exact kg5_3) ?_)
  refine l_call (fun v w' => v = .bool false ∧ Low w3 w') rfl rfl rfl Tryd.func8 rfl (args1 rfl (At.hit z4 rfl).ev) (((calls_bool (Few.calls hd (v) l _ ov_3) (eq_false_of_ne_true hb5))).mono fun _ _ ⟨e, k⟩ => ⟨_, e, rfl, k⟩) ?_
  rintro _ w173 ⟨rfl, h173⟩
  have kg5_173 := h173.blk kg5_3
  have ov_173 := ov_3.low h173
  have ovw_173 := ovw_3.low h173
  refine l_q rfl (q_not (b := false) rfl (At.hit z4.put rfl).ev ?_)
  refine l_q rfl (q_move _ _ rfl (At.hit z4.p2 rfl).ev ?_)
  refine l_skip (wanted_is (j := 3) (d := 29) (b := true) rfl rfl (At.hit z4.p3 rfl) rfl) ?_
  refine l_skip (wanted_is (j := 3) (d := 29) (b := true) rfl rfl ((At.hit z4.p3 rfl).n1) rfl) ?_
  refine l_skip (wanted_is (j := 3) (d := 29) (b := true) rfl rfl ((At.hit z4.p3 rfl).n2) rfl) ?_
  refine l_q rfl (q_pick (b := true) (.bool true) rfl ((At.hit z4.p3 rfl).n3).ev rfl ?_)
  refine l_fresh z4.p8 ?_
  intro a174 z174 m174
  have s1_174 := m174 _ _ (s1_4.n8)
  have s2_174 := m174 _ _ (s2_4.n8)
  have s3_174 := m174 _ _ (s3_4.n8)
  have s4_174 := m174 _ _ (s4_4.n8)
  have s5_174 := m174 _ _ (s5_4.n8)
  have s33_174 := m174 _ _ (At.hit z4.p7 rfl)
  clear m174
  refine l_q rfl (q_move _ _ rfl s33_174.ev ?_)
  refine l_skip (wanted_is (j := 8) (d := 34) (b := true) rfl rfl (At.hit z174 rfl) rfl) ?_
  refine l_skip (wanted_is (j := 8) (d := 34) (b := true) rfl rfl ((At.hit z174 rfl).n1) rfl) ?_
  refine l_skip (wanted_is (j := 8) (d := 34) (b := true) rfl rfl ((At.hit z174 rfl).n2) rfl) ?_
  refine l_q rfl (q_pick (b := true) (.bool true) rfl ((At.hit z174 rfl).n3).ev rfl ?_)
  refine l_q rfl (q_move _ _ rfl (At.hit z174.p4 rfl).ev ?_)
  refine l_skip (wanted_is (j := 13) (d := 39) (b := true) rfl rfl (At.hit z174.p5 rfl) rfl) ?_
  refine l_skip (wanted_is (j := 13) (d := 39) (b := true) rfl rfl ((At.hit z174.p5 rfl).n1) rfl) ?_
  refine l_fresh z174.p8 ?_
  intro a175 z175 m175
  have s1_175 := m175 _ _ (s1_174.n8)
  have s2_175 := m175 _ _ (s2_174.n8)
  have s3_175 := m175 _ _ (s3_174.n8)
  have s4_175 := m175 _ _ (s4_174.n8)
  have s5_175 := m175 _ _ (s5_174.n8)
  have s39_175 := m175 _ _ ((At.hit z174.p5 rfl).n2)
  have s41_175 := m175 _ _ (At.hit z174.p7 rfl)
  clear m175
  refine l_skip (wanted_is (j := 13) (d := 39) (b := true) rfl rfl s39_175 rfl) ?_
  refine l_q rfl (q_pick (b := true) (.bool true) rfl (s39_175.n1).ev rfl ?_)
  refine l_end (e_fresh z175.p2 ?_)
  intro a176 z176 m176
  have s1_176 := m176 _ _ (s1_175.n2)
  have s2_176 := m176 _ _ (s2_175.n2)
  have s3_176 := m176 _ _ (s3_175.n2)
  have s4_176 := m176 _ _ (s4_175.n2)
  have s5_176 := m176 _ _ (s5_175.n2)
  have s43_176 := m176 _ _ (At.hit z175.put rfl)
  have low176 := (low4.trans h173)
  clear m176
  refine e_then (c_true s43_176 ?_)
  refine c_seq (c_region ?_)
  refine l_q rfl (q_assign _ _ rfl rfl ?_)
  refine l_end (e_fresh z176.put ?_)
  intro a177 z177 m177
  have s10_177 := m177 _ _ (At.hit z176 rfl)
  clear m177
  refine e_then (wp_ret (ret_then (r_tmp rfl z177.defers s10_177 ?_)))
  exact ⟨rfl, low176⟩
end Go.Proofs.YtnhchnlgleokoaaDoor.Q
end
/-! R0 -/
section
namespace Go.Proofs.YtnhchnlgleokoaaDoor.R
open Go.ChangeShapes Go.WideShapes Go.RowKit Go.Proofs.YtnhchnlgleokoaaDoorW.PrintWords
end Go.Proofs.YtnhchnlgleokoaaDoor.R
end
/-! R6 -/
section
namespace Go.Proofs.YtnhchnlgleokoaaDoor.R
open Go.ChangeShapes Go.WideShapes Go.RowKit Go.Joins Go.Deep Go.WideElems Go.Maps Go.Proofs.YtnhchnlgleokoaaDoor.Q
theorem open_recs {H : Type} {enc : TypeId × Value → H} {P : Program} {W : World} {base : Nat} {spare : Nat → Bool} {held : Bool} {t e : TypeId} {a : Option Addr} {len cap sz : Nat} {d : DataW H × List MemPlace} {fuel : Nat} {α : Type} {en : α → List Value} (z : α)
    (he : ∀ x, (en x).length = sz) (hp : 0 < sz) (hu : P.underlying t = some (.slice e)) (hC : P.cellsOf e = sz)
    (each : ∀ (n : Nat) (cs : List Value) (y : DataW H × List MemPlace), cs.length = sz → DataW.trod enc P W base spare held n e cs = some y → ∃ x : α, en x = cs)
    (hf : DataW.trod enc P W base spare held fuel t [.slice a len cap] = some d) :
    ∃ l : List α, len = l.length ∧ RdF W sz (.slice a len cap) l.length (l.map en).flatten := by
  rcases DataW.trod_slice hu hf with ⟨hcs, _⟩ | ⟨x, n, c, elems, rest, m, _, hcs, _, _, hl, hm, hlen, hel, _⟩
  · simp at hcs
    obtain ⟨rfl, rfl, rfl⟩ := hcs
    exact ⟨[], rfl, (OwnF.nil W 0 0 sz).rd⟩
  · simp at hcs
    obtain ⟨rfl, rfl, rfl⟩ := hcs
    have each' : ∀ i, i < len → ∃ y : α, ∀ k u, (en y)[k]? = some u → W.cell? (x.add (i * sz + k)) = some u := by
      intro i hi
      have hx : elems[i]? = some (elems[i]'(by omega)) := List.getElem?_eq_getElem (by omega)
      have hb := hel i hi
      rw [hx, Option.bind_eq_some_iff] at hb
      obtain ⟨cs, hcells, hd⟩ := hb
      obtain ⟨_, hln, hcell⟩ := World.cells?_some hcells
      rw [hC] at hln hcell
      obtain ⟨y, hy⟩ := each _ cs _ hln hd
      refine ⟨y, fun k u hk => ?_⟩
      rw [hy] at hk
      have hk3 : k < sz := by rw [← hln]; exact (List.getElem?_eq_some_iff.1 hk).1
      have := hcell k hk3
      rw [Addr.add_add] at this
      rw [this]
      exact hk
    let f : Fin len → α := fun i => Classical.choose (each' i.val i.isLt)
    have hfs : ∀ i : Fin len, ∀ k u, (en (f i))[k]? = some u → W.cell? (x.add (i.val * sz + k)) = some u := fun i => Classical.choose_spec (each' i.val i.isLt)
    have hlL : (List.ofFn f).length = len := by simp
    have hg : ∀ i, (hi : i < len) → (List.ofFn f).getD i z = f ⟨i, hi⟩ := fun i hi => by simp [List.getD_eq_getElem?_getD, hi]
    have hall : ∀ j u, ((List.ofFn f).map en).flatten[j]? = some u → W.cell? (x.add j) = some u := by
      intro j u hj
      have hlt : j < len * sz := by
        have := (List.getElem?_eq_some_iff.1 hj).1
        rw [flat_len he, hlL] at this
        exact this
      have hq : j / sz < len := (Nat.div_lt_iff_lt_mul hp).2 hlt
      have e : j = j / sz * sz + j % sz := by rw [Nat.mul_comm]; exact (Nat.div_add_mod j sz).symm
      rw [e, flat_at he z _ _ _ (by rw [hlL]; exact hq) (Nat.mod_lt _ hp), hg _ hq] at hj
      rw [e]
      exact hfs ⟨j / sz, hq⟩ _ _ hj
    refine ⟨List.ofFn f, hlL.symm, ?_⟩
    rw [hlL]
    refine ⟨by rw [flat_len he, hlL], some x, cap, rfl, hl, fun hp' => ?_⟩
    have hu0 : ∃ u, (en ((List.ofFn f).getD 0 z))[0]? = some u := ⟨_, List.getElem?_eq_getElem (by rw [he]; exact hp)⟩
    obtain ⟨u0, hu0⟩ := hu0
    have hc0 := hall 0 u0 (by
      have := flat_at he z (List.ofFn f) 0 0 (by rw [hlL]; exact hp') hp
      rw [Nat.zero_mul, Nat.add_zero] at this
      rw [this]
      exact hu0)
    have hx0 : x.add 0 = x := by simp [Addr.add]
    rw [hx0] at hc0
    have hsp := World.cell?_spot hc0
    obtain ⟨xb, xo, xs⟩ := x
    cases hsp
    exact ⟨xb, xo, rfl, World.block_lt_of_cell? _ _ hc0, fun j u hj => by rw [← Addr.add_mid]; exact hall j u hj⟩
theorem each_two {H : Type} {enc : TypeId × Value → H} {P : Program} {W : World} {base : Nat} {spare : Nat → Bool} {held : Bool} {e : TypeId} {f0 f1 : Field} (hs : P.underlying e = some (.struct #[f0, f1])) (hone : oneCellFields P #[f0, f1] = true)
    (h0 : P.underlying f0.type = some .string) (h1 : P.underlying f1.type = some .string) (n : Nat) (cs : List Value) (y : DataW H × List MemPlace) (hl : cs.length = 2) (hd : DataW.trod enc P W base spare held n e cs = some y) : ∃ x : Rf, encP x = cs := by
  match cs, hl with
  | [c0, c1], _ =>
    obtain ⟨y0, y1, q, _, _, g0, g1⟩ := trod_struct2 hs hd
    obtain ⟨o0, k0⟩ := hone_of hone 0 f0 rfl
    obtain ⟨o1, k1⟩ := hone_of hone 1 f1 rfl
    obtain ⟨s0, e0, _, _⟩ := DataW.trod_string h0 (by simpa [o0, k0] using g0 : DataW.trod enc P W base spare held q f0.type [c0] = some y0)
    obtain ⟨s1, e1, _, _⟩ := DataW.trod_string h1 (by simpa [o1, k1] using g1 : DataW.trod enc P W base spare held q f1.type [c1] = some y1)
    injection e0 with e0; injection e1 with e1
    subst e0; subst e1
    exact ⟨⟨s0, s1⟩, rfl⟩
theorem each_three {H : Type} {enc : TypeId × Value → H} {P : Program} {W : World} {base : Nat} {spare : Nat → Bool} {held : Bool} {e : TypeId} {f0 f1 f2 : Field} (hs : P.underlying e = some (.struct #[f0, f1, f2])) (hone : oneCellFields P #[f0, f1, f2] = true)
    (h0 : P.underlying f0.type = some .string) (h1 : P.underlying f1.type = some .string) (h2 : P.underlying f2.type = some .string) (n : Nat) (cs : List Value) (y : DataW H × List MemPlace) (hl : cs.length = 3) (hd : DataW.trod enc P W base spare held n e cs = some y) : ∃ x : Sw, encW x = cs := by
  match cs, hl with
  | [c0, c1, c2], _ =>
    obtain ⟨y0, y1, y2, q, _, _, g0, g1, g2⟩ := trod_struct3 hs hd
    obtain ⟨o0, k0⟩ := hone_of hone 0 f0 rfl
    obtain ⟨o1, k1⟩ := hone_of hone 1 f1 rfl
    obtain ⟨o2, k2⟩ := hone_of hone 2 f2 rfl
    obtain ⟨s0, e0, _, _⟩ := DataW.trod_string h0 (by simpa [o0, k0] using g0 : DataW.trod enc P W base spare held q f0.type [c0] = some y0)
    obtain ⟨s1, e1, _, _⟩ := DataW.trod_string h1 (by simpa [o1, k1] using g1 : DataW.trod enc P W base spare held q f1.type [c1] = some y1)
    obtain ⟨s2, e2, _, _⟩ := DataW.trod_string h2 (by simpa [o2, k2] using g2 : DataW.trod enc P W base spare held q f2.type [c2] = some y2)
    injection e0 with e0; injection e1 with e1; injection e2 with e2
    subst e0; subst e1; subst e2
    exact ⟨⟨s0, s1, s2⟩, rfl⟩
/-- a row of swaps -/
theorem open_swaps {H : Type} {enc : TypeId × Value → H} {P : Program} {W : World} {base : Nat} {spare : Nat → Bool} {held : Bool} {t e : TypeId} {f0 f1 f2 : Field} {a : Option Addr} {len cap : Nat} {d : DataW H} {ps : List MemPlace}
    (hu : P.underlying t = some (.slice e)) (hs : P.underlying e = some (.struct #[f0, f1, f2])) (hone : oneCellFields P #[f0, f1, f2] = true) (hC : P.cellsOf e = 3)
    (h0 : P.underlying f0.type = some .string) (h1 : P.underlying f1.type = some .string) (h2 : P.underlying f2.type = some .string)
    (h : DataW.Trod enc P W base spare held t (.slice a len cap) d ps) :
    ∃ l : List Sw, RdF W 3 (.slice a len cap) l.length (l.map encW).flatten := by
  obtain ⟨fuel, hf⟩ := h
  obtain ⟨l, _, h⟩ := open_recs (⟨nilB, nilB, nilB⟩ : Sw) encW_len (by decide) hu hC (each_three hs hone h0 h1 h2) hf
  exact ⟨l, h⟩
/-- a state -/
theorem open_state {H : Type} {enc : TypeId × Value → H} {P : Program} {W : World} {base : Nat} {spare : Nat → Bool} {held : Bool} {r : Reach} {b0 : Nat} {t e : TypeId} {g0 g1 f0 f1 : Field} {v : Value} {d : DataW H} {p : List MemPlace}
    (hs : P.underlying t = some (.struct #[g0, g1])) (hone : oneCellFields P #[g0, g1] = true) (hC : P.cellsOf t = 2)
    (k0 : P.underlying g0.type = some .string) (k1 : P.underlying g1.type = some (.slice e)) (he : P.underlying e = some (.struct #[f0, f1])) (hone' : oneCellFields P #[f0, f1] = true) (hC' : P.cellsOf e = 2)
    (h0 : P.underlying f0.type = some .string) (h1 : P.underlying f1.type = some .string)
    (hv : Value.okWide P W r b0 t v) (h : DataW.Trod enc P W base spare held t v d p) :
    ∃ (x : ByteArray) (u : Value) (l : List Rf), v = .agg #[.string x, u] ∧ RdF W 2 u l.length (l.map encP).flatten := by
  obtain ⟨v0, v1, y0, y1, n, rfl, -, -, q0, q1⟩ := open_agg2 hs hone hC hv h
  obtain ⟨x, hx, -, -⟩ := DataW.trod_string k0 q0
  obtain ⟨A, len, cap, hA⟩ := slice_form k1 q1
  obtain rfl := (List.cons.inj hx).1
  obtain rfl := (List.cons.inj hA).1
  obtain ⟨l, _, hl⟩ := open_recs (⟨nilB, nilB⟩ : Rf) encP_len (by decide) k1 hC' (each_two he hone' h0 h1) q1
  exact ⟨x, _, l, rfl, hl⟩
theorem handed_and_shaped {H : Type} {enc : TypeId × Value → H} {a : Assume} {C : Checked} {os : Os} {f : FuncId} {fn : Func} {s : ChangeSpec} {conds : List PathCond} {apart fresh handsOn again : Bool} {X : World → Array Value → Prop}
    (hX : ∀ (w w' : World) (args : Array Value), w.heap = w'.heap → X w args → X w' args)
    (own : ownKnob C.prog.godebug = none) (started : os.Started) (noInit : C.prog.inits.idxOf? f = none) (hfn : C.prog.funcs[f]? = some fn)
    (witness : ∃ (w : World) (tape : Tape) (i : Input), w.os = os ∧ (w.forCall tape i).Shaped C.prog ∧ i.vars = [] ∧ Input.okWide C.prog (w.forCall tape i) .any w.heap.size f i ∧
      ((s.pre enc C.prog fn conds apart (w.forCall tape i).memory i.args ∧ X (w.forCall tape i).memory i.args) ∧ sizedMet enc C.prog fn (OpenSpec.ofChange s) apart (w.forCall tape i).memory i.args) ∧ a.holds C.prog (lone (Frame.enter C.prog f i.args .normal) [] (w.forCall tape i)))
    (contract : ∀ (W : World) (base : Nat) (args : Array Value) (ds gs : List (DataW H)) (before : List MemPlace),
      (∀ (j : Nat) t v, fn.params[j]? = some t → args[j]? = some v → Value.okWide C.prog W .any base t v) →
      DataW.Whole enc C.prog fn.params.toList s.vars apart W args.toList ds gs before →
      conds.all (PathCond.test C.prog ⟨fn.params.toList, ds, s.plain.varTypes C.prog, gs⟩) = true →
      (DataW.weightsEach C.prog (fn.params.toList ++ s.plain.varTypes C.prog) (ds ++ gs)).all (· ≤ reachBytes) = true → X W args → W.ShapedOpen C.prog →
      a.holds C.prog (lone (Frame.enter C.prog f args .normal) [] W) →
      Calls C.prog f args W fun e W' => ∃ v, e = .returned v ∧ s.post enc C.prog fn apart fresh handsOn again W args v W') :
    ReturnsInHanded a C os f .any (fun w args => (s.pre enc C.prog fn conds apart w args ∧ X w args) ∧ sizedMet enc C.prog fn (OpenSpec.ofChange s) apart w args) (s.post enc C.prog fn apart fresh handsOn again) := by
  refine returnsInHanded_of_calls own started noInit witness ?_
  intro w tape i _ hsh _ hok hpre hholds
  obtain ⟨_, _, _, fn', hfn', _, _, _, _, hval⟩ := hok
  have e : fn' = fn := Option.some.inj (hfn'.symm.trans hfn)
  subst e
  obtain ⟨⟨⟨ds, gs, before, hw, hc⟩, hx⟩, hz⟩ := hpre
  have hw' := DataW.Whole.of_heap (w' := w.forCall tape i) (by rfl) hw
  refine (contract (w.forCall tape i) w.heap.size i.args ds gs before hval hw' hc (hz.weights hw) (hX _ _ _ (by rfl) hx) hsh hholds).mono fun e W' ⟨v, he, hp⟩ => ?_
  subst he
  exact ChangeSpec.post_blind hp
theorem gd_shape {W : World} (h : W.ShapedOpen Tryd.prog) : Q.Gd W :=
  cell_of_shapedOpen_int (g := 0) (t := 3) (zero := #[.int .i64 0]) (k := .i64) h (of_decide_eq_true (by kernel_rfl)) (by kernel_rfl) rfl (by kernel_rfl) (by kernel_rfl) Tryd.underlying3
end Go.Proofs.YtnhchnlgleokoaaDoor.R
end
