/- Merged out of this session's texts by a program (wip/gen/merge.py): declarations that this claim doesn't name are left out. -/
import Derived.Test.YtnhchnlgleokoaaDoorMRefsOthers4
import Derived.ProofKit
import Derived.OpenShut
import Derived.SliceStrings
import Derived.SizedLaws
import Derived.Test.YtnhchnlgleokoaaDoorRows
import Derived.Handed
import Derived.Shelf.Vars
set_option linter.unusedVariables false
set_option linter.unusedSimpArgs false
/-! E9 -/
section
namespace Go.Proofs.YtnhchnlgleokoaaDoor.Q
open Go.RowKit
open Go.Proofs.YtnhchnlgleokoaaDoorW.PrintWords (bytesOf bytesOf_length)
set_option linter.unusedVariables false
set_option linter.unusedSimpArgs false
set_option maxRecDepth 100000
set_option maxHeartbeats 4000000
attribute [local irreducible] wpList wpQuiet qch Code.wp Oper.quiet Act.put At Region.wanted yielded
theorem RefsOthers_.calls (hd : ByteArray) (v : Value) (l : List Rf) (n m xa xb : ByteArray) (w0 : World) (hv : RdF w0 2 v l.length (l.map encP).flatten) (hG : Gd w0) : Calls Tryd.prog 6 #[.agg #[.string hd, v], .string n, .string m, .string xa, .string xb] w0 fun e w' => e = .returned (.bool true) ∧ Low w0 w' := by
 refine c_fun (R := _) Tryd.func6 rfl 163 rfl (Nat.le_of_ble_eq_true rfl) ?_
 intro a z hA
 have s0 := hA 0 _ rfl
 have s1 := hA 1 _ rfl
 have s2 := hA 2 _ rfl
 have s3 := hA 3 _ rfl
 have s4 := hA 4 _ rfl
 clear hA
 refine c_seq (c_region (l_box rfl rfl s0.ev ?_))
 intro g5 w1 hg1 k1 h1
 have geg5 := Nat.le_trans (Low.refl _).ge hg1
 have ov_1 := hv.low h1
 refine l_q rfl (q_assign _ _ rfl rfl ?_)
 refine l_end (e_fresh z.p2 ?_)
 intro a2 z2 m2
 have s1_2 := m2 _ _ (s1.n2)
 have s2_2 := m2 _ _ (s2.n2)
 have s3_2 := m2 _ _ (s3.n2)
 have s4_2 := m2 _ _ (s4.n2)
 have s5_2 := m2 _ _ ((At.hit z rfl).n1)
 have low2 := h1
 clear m2
 refine e_then (c_seq (c_seq (c_region (l_call (fun v w' => v = .bool true ∧ Low w1 w') rfl rfl rfl Tryd.func7 rfl (show Array.map _ _ = (#[] : Array Value) from by simp) ((Awake.calls _ (Gd.low hG low2)).mono fun _ _ ⟨e, k⟩ => ⟨_, e, rfl, k⟩) ?_))))
 rintro _ w3 ⟨rfl, h3⟩
 have kg5_3 := h3.blk k1
 have ov_3 := ov_1.low h3
 refine l_q rfl (q_not (b := true) rfl (At.hit z2 rfl).ev ?_)
 refine l_end (e_fresh z2.p2 ?_)
 intro a4 z4 m4
 have s1_4 := m4 _ _ (s1_2.n2)
 have s2_4 := m4 _ _ (s2_2.n2)
 have s3_4 := m4 _ _ (s3_2.n2)
 have s4_4 := m4 _ _ (s4_2.n2)
 have s5_4 := m4 _ _ (s5_2.n2)
 have s24_4 := m4 _ _ (At.hit z2.put rfl)
 have low4 := (low2.trans h3)
 clear m4
 refine e_then (c_false s24_4 ?_)
 refine wp_skip (e_then (c_seq (c_seq ?_)))
 by_cases hb5 : fewB hd l = true
 ·
  skip
  by_cases hb6 : rightS hd l 1 = true
  ·
   skip
   by_cases hb7 : 200 < n.size
   ·
    skip
    refine c_region ?_
    refine l_q rfl (q_row rfl Tryd.underlying24 rfl (sz24.trans (congrArg some rfl.symm)) s5_4.ev (fun _ e => by rw [e]; exact kg5_3) ?_)
    refine l_call (fun v w' => v = .bool true ∧ Low w3 w') rfl rfl rfl Tryd.func8 rfl (args1 rfl (At.hit z4 rfl).ev) (((calls_bool (Few.calls hd (v) l _ ov_3) hb5)).mono fun _ _ ⟨e, k⟩ => ⟨_, e, rfl, k⟩) ?_
    rintro _ w8 ⟨rfl, h8⟩
    have kg5_8 := h8.blk kg5_3
    have ov_8 := ov_3.low h8
    refine l_q rfl (q_not (b := true) rfl (At.hit z4.put rfl).ev ?_)
    refine l_q rfl (q_move _ _ rfl (At.hit z4.p2 rfl).ev ?_)
    refine l_qg (wanted_is (j := 3) (d := 28) (b := false) rfl rfl (At.hit z4.p3 rfl) rfl) (q_row rfl Tryd.underlying24 rfl (sz24.trans (congrArg some rfl.symm)) (s5_4.n4).ev (fun _ e => by rw [e]; exact kg5_8) ?_)
    refine l_callg (fun v w' => v = .bool true ∧ Low w8 w') (wanted_is (j := 3) (d := 28) (b := false) rfl rfl ((At.hit z4.p3 rfl).n1) rfl) rfl rfl Tryd.func17 rfl (args2 rfl (At.hit z4.p4 rfl).ev rfl) (((calls_bool (RightS.calls hd (v) l (by have := (few_of hb5).1; omega) 1 _ ov_8 (Gd.low hG (low4.trans h8))) hb6)).mono fun _ _ ⟨e, k⟩ => ⟨_, e, rfl, k⟩) ?_
    rintro _ w9 ⟨rfl, h9⟩
    have kg5_9 := h9.blk kg5_8
    have ov_9 := ov_8.low h9
    refine l_qg (wanted_is (j := 3) (d := 28) (b := false) rfl rfl ((At.hit z4.p3 rfl).n2) rfl) (q_not (b := true) rfl (At.hit z4.p5 rfl).ev ?_)
    refine l_q rfl (q_pick (b := false) (.bool false) rfl ((At.hit z4.p3 rfl).n3).ev (At.hit z4.p6 rfl).ev ?_)
    refine l_fresh z4.p8 ?_
    intro a10 z10 m10
    have s1_10 := m10 _ _ (s1_4.n8)
    have s2_10 := m10 _ _ (s2_4.n8)
    have s3_10 := m10 _ _ (s3_4.n8)
    have s4_10 := m10 _ _ (s4_4.n8)
    have s5_10 := m10 _ _ (s5_4.n8)
    have s32_10 := m10 _ _ (At.hit z4.p7 rfl)
    clear m10
    refine l_q rfl (q_move _ _ rfl s32_10.ev ?_)
    refine l_qg (wanted_is (j := 8) (d := 33) (b := false) rfl rfl (At.hit z10 rfl) rfl) (q_move _ _ rfl (s1_10.n1).ev ?_)
    refine l_qg (wanted_is (j := 8) (d := 33) (b := false) rfl rfl ((At.hit z10 rfl).n1) rfl) (q_len rfl rfl Tryd.underlying9 (At.hit z10.put rfl).ev ?_)
    refine l_qg (wanted_is (j := 8) (d := 33) (b := false) rfl rfl ((At.hit z10 rfl).n2) rfl) (q_gtr true rfl (At.hit z10.p2 rfl).ev rfl (decide_eq_true (by omega)) ?_)
    refine l_q rfl (q_pick (b := false) (.bool true) rfl ((At.hit z10 rfl).n3).ev (At.hit z10.p3 rfl).ev ?_)
    refine l_q rfl (q_move _ _ rfl (At.hit z10.p4 rfl).ev ?_)
    refine l_skip (wanted_is (j := 13) (d := 38) (b := true) rfl rfl (At.hit z10.p5 rfl) rfl) ?_
    refine l_skip (wanted_is (j := 13) (d := 38) (b := true) rfl rfl ((At.hit z10.p5 rfl).n1) rfl) ?_
    refine l_fresh z10.p8 ?_
    intro a11 z11 m11
    have s1_11 := m11 _ _ (s1_10.n8)
    have s2_11 := m11 _ _ (s2_10.n8)
    have s3_11 := m11 _ _ (s3_10.n8)
    have s4_11 := m11 _ _ (s4_10.n8)
    have s5_11 := m11 _ _ (s5_10.n8)
    have s38_11 := m11 _ _ ((At.hit z10.p5 rfl).n2)
    have s40_11 := m11 _ _ (At.hit z10.p7 rfl)
    clear m11
    refine l_skip (wanted_is (j := 13) (d := 38) (b := true) rfl rfl s38_11 rfl) ?_
    refine l_q rfl (q_pick (b := true) (.bool true) rfl (s38_11.n1).ev rfl ?_)
    refine l_q rfl (q_move _ _ rfl (At.hit z11.put rfl).ev ?_)
    refine l_skip (wanted_is (j := 18) (d := 43) (b := true) rfl rfl (At.hit z11.p2 rfl) rfl) ?_
    refine l_skip (wanted_is (j := 18) (d := 43) (b := true) rfl rfl ((At.hit z11.p2 rfl).n1) rfl) ?_
    refine l_skip (wanted_is (j := 18) (d := 43) (b := true) rfl rfl ((At.hit z11.p2 rfl).n2) rfl) ?_
    refine l_q rfl (q_pick (b := true) (.bool true) rfl ((At.hit z11.p2 rfl).n3).ev rfl ?_)
    refine l_end (e_fresh z11.p7 ?_)
    intro a12 z12 m12
    have s1_12 := m12 _ _ (s1_11.n7)
    have s2_12 := m12 _ _ (s2_11.n7)
    have s3_12 := m12 _ _ (s3_11.n7)
    have s4_12 := m12 _ _ (s4_11.n7)
    have s5_12 := m12 _ _ (s5_11.n7)
    have s47_12 := m12 _ _ (At.hit z11.p6 rfl)
    have low12 := ((low4.trans h8).trans h9)
    clear m12
    refine e_then (c_true s47_12 ?_)
    refine c_seq (c_region ?_)
    refine l_q rfl (q_assign _ _ rfl rfl ?_)
    refine l_end (e_fresh z12.put ?_)
    intro a13 z13 m13
    have s10_13 := m13 _ _ (At.hit z12 rfl)
    clear m13
    refine e_then (wp_ret (ret_then (r_tmp rfl z13.defers s10_13 ?_)))
    exact ⟨rfl, low12⟩
   ·
    skip
    by_cases hb14 : 200 < m.size
    ·
     skip
     refine c_region ?_
     refine l_q rfl (q_row rfl Tryd.underlying24 rfl (sz24.trans (congrArg some rfl.symm)) s5_4.ev (fun _ e => by rw [e]; exact kg5_3) ?_)
     refine l_call (fun v w' => v = .bool true ∧ Low w3 w') rfl rfl rfl Tryd.func8 rfl (args1 rfl (At.hit z4 rfl).ev) (((calls_bool (Few.calls hd (v) l _ ov_3) hb5)).mono fun _ _ ⟨e, k⟩ => ⟨_, e, rfl, k⟩) ?_
     rintro _ w15 ⟨rfl, h15⟩
     have kg5_15 := h15.blk kg5_3
     have ov_15 := ov_3.low h15
     refine l_q rfl (q_not (b := true) rfl (At.hit z4.put rfl).ev ?_)
     refine l_q rfl (q_move _ _ rfl (At.hit z4.p2 rfl).ev ?_)
     refine l_qg (wanted_is (j := 3) (d := 28) (b := false) rfl rfl (At.hit z4.p3 rfl) rfl) (q_row rfl Tryd.underlying24 rfl (sz24.trans (congrArg some rfl.symm)) (s5_4.n4).ev (fun _ e => by rw [e]; exact kg5_15) ?_)
     refine l_callg (fun v w' => v = .bool true ∧ Low w15 w') (wanted_is (j := 3) (d := 28) (b := false) rfl rfl ((At.hit z4.p3 rfl).n1) rfl) rfl rfl Tryd.func17 rfl (args2 rfl (At.hit z4.p4 rfl).ev rfl) (((calls_bool (RightS.calls hd (v) l (by have := (few_of hb5).1; omega) 1 _ ov_15 (Gd.low hG (low4.trans h15))) hb6)).mono fun _ _ ⟨e, k⟩ => ⟨_, e, rfl, k⟩) ?_
     rintro _ w16 ⟨rfl, h16⟩
     have kg5_16 := h16.blk kg5_15
     have ov_16 := ov_15.low h16
     refine l_qg (wanted_is (j := 3) (d := 28) (b := false) rfl rfl ((At.hit z4.p3 rfl).n2) rfl) (q_not (b := true) rfl (At.hit z4.p5 rfl).ev ?_)
     refine l_q rfl (q_pick (b := false) (.bool false) rfl ((At.hit z4.p3 rfl).n3).ev (At.hit z4.p6 rfl).ev ?_)
     refine l_fresh z4.p8 ?_
     intro a17 z17 m17
     have s1_17 := m17 _ _ (s1_4.n8)
     have s2_17 := m17 _ _ (s2_4.n8)
     have s3_17 := m17 _ _ (s3_4.n8)
     have s4_17 := m17 _ _ (s4_4.n8)
     have s5_17 := m17 _ _ (s5_4.n8)
     have s32_17 := m17 _ _ (At.hit z4.p7 rfl)
     clear m17
     refine l_q rfl (q_move _ _ rfl s32_17.ev ?_)
     refine l_qg (wanted_is (j := 8) (d := 33) (b := false) rfl rfl (At.hit z17 rfl) rfl) (q_move _ _ rfl (s1_17.n1).ev ?_)
     refine l_qg (wanted_is (j := 8) (d := 33) (b := false) rfl rfl ((At.hit z17 rfl).n1) rfl) (q_len rfl rfl Tryd.underlying9 (At.hit z17.put rfl).ev ?_)
     refine l_qg (wanted_is (j := 8) (d := 33) (b := false) rfl rfl ((At.hit z17 rfl).n2) rfl) (q_gtr false rfl (At.hit z17.p2 rfl).ev rfl (decide_eq_false (by omega)) ?_)
     refine l_q rfl (q_pick (b := false) (.bool false) rfl ((At.hit z17 rfl).n3).ev (At.hit z17.p3 rfl).ev ?_)
     refine l_q rfl (q_move _ _ rfl (At.hit z17.p4 rfl).ev ?_)
     refine l_qg (wanted_is (j := 13) (d := 38) (b := false) rfl rfl (At.hit z17.p5 rfl) rfl) (q_move _ _ rfl (s2_17.n6).ev ?_)
     refine l_qg (wanted_is (j := 13) (d := 38) (b := false) rfl rfl ((At.hit z17.p5 rfl).n1) rfl) (q_len rfl rfl Tryd.underlying9 (At.hit z17.p6 rfl).ev ?_)
     refine l_fresh z17.p8 ?_
     intro a18 z18 m18
     have s1_18 := m18 _ _ (s1_17.n8)
     have s2_18 := m18 _ _ (s2_17.n8)
     have s3_18 := m18 _ _ (s3_17.n8)
     have s4_18 := m18 _ _ (s4_17.n8)
     have s5_18 := m18 _ _ (s5_17.n8)
     have s38_18 := m18 _ _ ((At.hit z17.p5 rfl).n2)
     have s40_18 := m18 _ _ (At.hit z17.p7 rfl)
     clear m18
     refine l_qg (wanted_is (j := 13) (d := 38) (b := false) rfl rfl s38_18 rfl) (q_gtr true rfl s40_18.ev rfl (decide_eq_true (by omega)) ?_)
     refine l_q rfl (q_pick (b := false) (.bool true) rfl (s38_18.n1).ev (At.hit z18 rfl).ev ?_)
     refine l_q rfl (q_move _ _ rfl (At.hit z18.put rfl).ev ?_)
     refine l_skip (wanted_is (j := 18) (d := 43) (b := true) rfl rfl (At.hit z18.p2 rfl) rfl) ?_
     refine l_skip (wanted_is (j := 18) (d := 43) (b := true) rfl rfl ((At.hit z18.p2 rfl).n1) rfl) ?_
     refine l_skip (wanted_is (j := 18) (d := 43) (b := true) rfl rfl ((At.hit z18.p2 rfl).n2) rfl) ?_
     refine l_q rfl (q_pick (b := true) (.bool true) rfl ((At.hit z18.p2 rfl).n3).ev rfl ?_)
     refine l_end (e_fresh z18.p7 ?_)
     intro a19 z19 m19
     have s1_19 := m19 _ _ (s1_18.n7)
     have s2_19 := m19 _ _ (s2_18.n7)
     have s3_19 := m19 _ _ (s3_18.n7)
     have s4_19 := m19 _ _ (s4_18.n7)
     have s5_19 := m19 _ _ (s5_18.n7)
     have s47_19 := m19 _ _ (At.hit z18.p6 rfl)
     have low19 := ((low4.trans h15).trans h16)
     clear m19
     refine e_then (c_true s47_19 ?_)
     refine c_seq (c_region ?_)
     refine l_q rfl (q_assign _ _ rfl rfl ?_)
     refine l_end (e_fresh z19.put ?_)
     intro a20 z20 m20
     have s10_20 := m20 _ _ (At.hit z19 rfl)
     clear m20
     refine e_then (wp_ret (ret_then (r_tmp rfl z20.defers s10_20 ?_)))
     exact ⟨rfl, low19⟩
    ·
     skip
     by_cases hb21 : n = m
     ·
      skip
      refine c_region ?_
      refine l_q rfl (q_row rfl Tryd.underlying24 rfl (sz24.trans (congrArg some rfl.symm)) s5_4.ev (fun _ e => by rw [e]; exact kg5_3) ?_)
      refine l_call (fun v w' => v = .bool true ∧ Low w3 w') rfl rfl rfl Tryd.func8 rfl (args1 rfl (At.hit z4 rfl).ev) (((calls_bool (Few.calls hd (v) l _ ov_3) hb5)).mono fun _ _ ⟨e, k⟩ => ⟨_, e, rfl, k⟩) ?_
      rintro _ w22 ⟨rfl, h22⟩
      have kg5_22 := h22.blk kg5_3
      have ov_22 := ov_3.low h22
      refine l_q rfl (q_not (b := true) rfl (At.hit z4.put rfl).ev ?_)
      refine l_q rfl (q_move _ _ rfl (At.hit z4.p2 rfl).ev ?_)
      refine l_qg (wanted_is (j := 3) (d := 28) (b := false) rfl rfl (At.hit z4.p3 rfl) rfl) (q_row rfl Tryd.underlying24 rfl (sz24.trans (congrArg some rfl.symm)) (s5_4.n4).ev (fun _ e => by rw [e]; exact kg5_22) ?_)
      refine l_callg (fun v w' => v = .bool true ∧ Low w22 w') (wanted_is (j := 3) (d := 28) (b := false) rfl rfl ((At.hit z4.p3 rfl).n1) rfl) rfl rfl Tryd.func17 rfl (args2 rfl (At.hit z4.p4 rfl).ev rfl) (((calls_bool (RightS.calls hd (v) l (by have := (few_of hb5).1; omega) 1 _ ov_22 (Gd.low hG (low4.trans h22))) hb6)).mono fun _ _ ⟨e, k⟩ => ⟨_, e, rfl, k⟩) ?_
      rintro _ w23 ⟨rfl, h23⟩
      have kg5_23 := h23.blk kg5_22
      have ov_23 := ov_22.low h23
      refine l_qg (wanted_is (j := 3) (d := 28) (b := false) rfl rfl ((At.hit z4.p3 rfl).n2) rfl) (q_not (b := true) rfl (At.hit z4.p5 rfl).ev ?_)
      refine l_q rfl (q_pick (b := false) (.bool false) rfl ((At.hit z4.p3 rfl).n3).ev (At.hit z4.p6 rfl).ev ?_)
      refine l_fresh z4.p8 ?_
      intro a24 z24 m24
      have s1_24 := m24 _ _ (s1_4.n8)
      have s2_24 := m24 _ _ (s2_4.n8)
      have s3_24 := m24 _ _ (s3_4.n8)
      have s4_24 := m24 _ _ (s4_4.n8)
      have s5_24 := m24 _ _ (s5_4.n8)
      have s32_24 := m24 _ _ (At.hit z4.p7 rfl)
      clear m24
      refine l_q rfl (q_move _ _ rfl s32_24.ev ?_)
      refine l_qg (wanted_is (j := 8) (d := 33) (b := false) rfl rfl (At.hit z24 rfl) rfl) (q_move _ _ rfl (s1_24.n1).ev ?_)
      refine l_qg (wanted_is (j := 8) (d := 33) (b := false) rfl rfl ((At.hit z24 rfl).n1) rfl) (q_len rfl rfl Tryd.underlying9 (At.hit z24.put rfl).ev ?_)
      refine l_qg (wanted_is (j := 8) (d := 33) (b := false) rfl rfl ((At.hit z24 rfl).n2) rfl) (q_gtr false rfl (At.hit z24.p2 rfl).ev rfl (decide_eq_false (by omega)) ?_)
      refine l_q rfl (q_pick (b := false) (.bool false) rfl ((At.hit z24 rfl).n3).ev (At.hit z24.p3 rfl).ev ?_)
      refine l_q rfl (q_move _ _ rfl (At.hit z24.p4 rfl).ev ?_)
      refine l_qg (wanted_is (j := 13) (d := 38) (b := false) rfl rfl (At.hit z24.p5 rfl) rfl) (q_move _ _ rfl (s2_24.n6).ev ?_)
      refine l_qg (wanted_is (j := 13) (d := 38) (b := false) rfl rfl ((At.hit z24.p5 rfl).n1) rfl) (q_len rfl rfl Tryd.underlying9 (At.hit z24.p6 rfl).ev ?_)
      refine l_fresh z24.p8 ?_
      intro a25 z25 m25
      have s1_25 := m25 _ _ (s1_24.n8)
      have s2_25 := m25 _ _ (s2_24.n8)
      have s3_25 := m25 _ _ (s3_24.n8)
      have s4_25 := m25 _ _ (s4_24.n8)
      have s5_25 := m25 _ _ (s5_24.n8)
      have s38_25 := m25 _ _ ((At.hit z24.p5 rfl).n2)
      have s40_25 := m25 _ _ (At.hit z24.p7 rfl)
      clear m25
      refine l_qg (wanted_is (j := 13) (d := 38) (b := false) rfl rfl s38_25 rfl) (q_gtr false rfl s40_25.ev rfl (decide_eq_false (by omega)) ?_)
      refine l_q rfl (q_pick (b := false) (.bool false) rfl (s38_25.n1).ev (At.hit z25 rfl).ev ?_)
      refine l_q rfl (q_move _ _ rfl (At.hit z25.put rfl).ev ?_)
      refine l_qg (wanted_is (j := 18) (d := 43) (b := false) rfl rfl (At.hit z25.p2 rfl) rfl) (q_move _ _ rfl (s1_25.n3).ev ?_)
      refine l_qg (wanted_is (j := 18) (d := 43) (b := false) rfl rfl ((At.hit z25.p2 rfl).n1) rfl) (q_move _ _ rfl (s2_25.n4).ev ?_)
      refine l_qg (wanted_is (j := 18) (d := 43) (b := false) rfl rfl ((At.hit z25.p2 rfl).n2) rfl) (q_streq true rfl ((At.hit z25.p3 rfl).n1).ev (At.hit z25.p4 rfl).ev (strT hb21) ?_)
      refine l_q rfl (q_pick (b := false) (.bool true) rfl ((At.hit z25.p2 rfl).n3).ev (At.hit z25.p5 rfl).ev ?_)
      refine l_end (e_fresh z25.p7 ?_)
      intro a26 z26 m26
      have s1_26 := m26 _ _ (s1_25.n7)
      have s2_26 := m26 _ _ (s2_25.n7)
      have s3_26 := m26 _ _ (s3_25.n7)
      have s4_26 := m26 _ _ (s4_25.n7)
      have s5_26 := m26 _ _ (s5_25.n7)
      have s47_26 := m26 _ _ (At.hit z25.p6 rfl)
      have low26 := ((low4.trans h22).trans h23)
      clear m26
      refine e_then (c_true s47_26 ?_)
      refine c_seq (c_region ?_)
      refine l_q rfl (q_assign _ _ rfl rfl ?_)
      refine l_end (e_fresh z26.put ?_)
      intro a27 z27 m27
      have s10_27 := m27 _ _ (At.hit z26 rfl)
      clear m27
      refine e_then (wp_ret (ret_then (r_tmp rfl z27.defers s10_27 ?_)))
      exact ⟨rfl, low26⟩
     ·
      skip
      refine c_region ?_
      refine l_q rfl (q_row rfl Tryd.underlying24 rfl (sz24.trans (congrArg some rfl.symm)) s5_4.ev (fun _ e => by rw [e]; exact kg5_3) ?_)
      refine l_call (fun v w' => v = .bool true ∧ Low w3 w') rfl rfl rfl Tryd.func8 rfl (args1 rfl (At.hit z4 rfl).ev) (((calls_bool (Few.calls hd (v) l _ ov_3) hb5)).mono fun _ _ ⟨e, k⟩ => ⟨_, e, rfl, k⟩) ?_
      rintro _ w28 ⟨rfl, h28⟩
      have kg5_28 := h28.blk kg5_3
      have ov_28 := ov_3.low h28
      refine l_q rfl (q_not (b := true) rfl (At.hit z4.put rfl).ev ?_)
      refine l_q rfl (q_move _ _ rfl (At.hit z4.p2 rfl).ev ?_)
      refine l_qg (wanted_is (j := 3) (d := 28) (b := false) rfl rfl (At.hit z4.p3 rfl) rfl) (q_row rfl Tryd.underlying24 rfl (sz24.trans (congrArg some rfl.symm)) (s5_4.n4).ev (fun _ e => by rw [e]; exact kg5_28) ?_)
      refine l_callg (fun v w' => v = .bool true ∧ Low w28 w') (wanted_is (j := 3) (d := 28) (b := false) rfl rfl ((At.hit z4.p3 rfl).n1) rfl) rfl rfl Tryd.func17 rfl (args2 rfl (At.hit z4.p4 rfl).ev rfl) (((calls_bool (RightS.calls hd (v) l (by have := (few_of hb5).1; omega) 1 _ ov_28 (Gd.low hG (low4.trans h28))) hb6)).mono fun _ _ ⟨e, k⟩ => ⟨_, e, rfl, k⟩) ?_
      rintro _ w29 ⟨rfl, h29⟩
      have kg5_29 := h29.blk kg5_28
      have ov_29 := ov_28.low h29
      refine l_qg (wanted_is (j := 3) (d := 28) (b := false) rfl rfl ((At.hit z4.p3 rfl).n2) rfl) (q_not (b := true) rfl (At.hit z4.p5 rfl).ev ?_)
      refine l_q rfl (q_pick (b := false) (.bool false) rfl ((At.hit z4.p3 rfl).n3).ev (At.hit z4.p6 rfl).ev ?_)
      refine l_fresh z4.p8 ?_
      intro a30 z30 m30
      have s1_30 := m30 _ _ (s1_4.n8)
      have s2_30 := m30 _ _ (s2_4.n8)
      have s3_30 := m30 _ _ (s3_4.n8)
      have s4_30 := m30 _ _ (s4_4.n8)
      have s5_30 := m30 _ _ (s5_4.n8)
      have s32_30 := m30 _ _ (At.hit z4.p7 rfl)
      clear m30
      refine l_q rfl (q_move _ _ rfl s32_30.ev ?_)
      refine l_qg (wanted_is (j := 8) (d := 33) (b := false) rfl rfl (At.hit z30 rfl) rfl) (q_move _ _ rfl (s1_30.n1).ev ?_)
      refine l_qg (wanted_is (j := 8) (d := 33) (b := false) rfl rfl ((At.hit z30 rfl).n1) rfl) (q_len rfl rfl Tryd.underlying9 (At.hit z30.put rfl).ev ?_)
      refine l_qg (wanted_is (j := 8) (d := 33) (b := false) rfl rfl ((At.hit z30 rfl).n2) rfl) (q_gtr false rfl (At.hit z30.p2 rfl).ev rfl (decide_eq_false (by omega)) ?_)
      refine l_q rfl (q_pick (b := false) (.bool false) rfl ((At.hit z30 rfl).n3).ev (At.hit z30.p3 rfl).ev ?_)
      refine l_q rfl (q_move _ _ rfl (At.hit z30.p4 rfl).ev ?_)
      refine l_qg (wanted_is (j := 13) (d := 38) (b := false) rfl rfl (At.hit z30.p5 rfl) rfl) (q_move _ _ rfl (s2_30.n6).ev ?_)
      refine l_qg (wanted_is (j := 13) (d := 38) (b := false) rfl rfl ((At.hit z30.p5 rfl).n1) rfl) (q_len rfl rfl Tryd.underlying9 (At.hit z30.p6 rfl).ev ?_)
      refine l_fresh z30.p8 ?_
      intro a31 z31 m31
      have s1_31 := m31 _ _ (s1_30.n8)
      have s2_31 := m31 _ _ (s2_30.n8)
      have s3_31 := m31 _ _ (s3_30.n8)
      have s4_31 := m31 _ _ (s4_30.n8)
      have s5_31 := m31 _ _ (s5_30.n8)
      have s38_31 := m31 _ _ ((At.hit z30.p5 rfl).n2)
      have s40_31 := m31 _ _ (At.hit z30.p7 rfl)
      clear m31
      refine l_qg (wanted_is (j := 13) (d := 38) (b := false) rfl rfl s38_31 rfl) (q_gtr false rfl s40_31.ev rfl (decide_eq_false (by omega)) ?_)
      refine l_q rfl (q_pick (b := false) (.bool false) rfl (s38_31.n1).ev (At.hit z31 rfl).ev ?_)
      refine l_q rfl (q_move _ _ rfl (At.hit z31.put rfl).ev ?_)
      refine l_qg (wanted_is (j := 18) (d := 43) (b := false) rfl rfl (At.hit z31.p2 rfl) rfl) (q_move _ _ rfl (s1_31.n3).ev ?_)
      refine l_qg (wanted_is (j := 18) (d := 43) (b := false) rfl rfl ((At.hit z31.p2 rfl).n1) rfl) (q_move _ _ rfl (s2_31.n4).ev ?_)
      refine l_qg (wanted_is (j := 18) (d := 43) (b := false) rfl rfl ((At.hit z31.p2 rfl).n2) rfl) (q_streq false rfl ((At.hit z31.p3 rfl).n1).ev (At.hit z31.p4 rfl).ev (strF hb21) ?_)
      refine l_q rfl (q_pick (b := false) (.bool false) rfl ((At.hit z31.p2 rfl).n3).ev (At.hit z31.p5 rfl).ev ?_)
      refine l_end (e_fresh z31.p7 ?_)
      intro a32 z32 m32
      have s1_32 := m32 _ _ (s1_31.n7)
      have s2_32 := m32 _ _ (s2_31.n7)
      have s3_32 := m32 _ _ (s3_31.n7)
      have s4_32 := m32 _ _ (s4_31.n7)
      have s5_32 := m32 _ _ (s5_31.n7)
      have s47_32 := m32 _ _ (At.hit z31.p6 rfl)
      have low32 := ((low4.trans h28).trans h29)
      clear m32
      refine e_then (c_false s47_32 ?_)
      refine wp_skip (e_then (c_seq ?_))
      obtain ⟨hl60, hh2, hfw⟩ := few_of hb5
      obtain ⟨_, hhn, hl1k, hok⟩ := rightS_iff.1 hb6
      have hok : OkP l (nsize 1) := hok
      have hr := ok_rise hok
      have hf := ok_full hok (by decide)
      refine c_region ?_
      refine l_q rfl (q_move _ _ rfl s1_32.ev ?_)
      refine l_q rfl (q_row rfl Tryd.underlying24 rfl (sz24.trans (congrArg some rfl.symm)) (s5_32.n1).ev (fun _ e => by rw [e]; exact kg5_29) ?_)
      refine l_q rfl (q_move _ _ rfl (s1_32.n2).ev ?_)
      refine l_call (fun v w' => v = .string (getL l n) ∧ Low w29 w') rfl rfl rfl Tryd.func15 rfl (args2 rfl ((At.hit z32.put rfl).n1).ev (At.hit z32.p2 rfl).ev) ((Get.calls hd (v) l (by have := setP_len l n xa; have := setP_len l m xb; have := setP_len (setP l n xa) m xb; have := setP_len (setP l m xb) n xa; omega) n _ ov_29).mono fun _ _ ⟨e, k⟩ => ⟨_, e, rfl, k⟩) ?_
      rintro _ w33 ⟨rfl, h33⟩
      have kg5_33 := h33.blk kg5_29
      have ov_33 := ov_29.low h33
      refine l_q rfl (q_move _ _ rfl (s3_32.n4).ev ?_)
      refine l_q rfl (q_build (ps := #[(0, .string n), (1, .string (getL l n)), (2, .string xa)]) rfl (parts3 ((At.hit z32 rfl).n4).ev ((At.hit z32.p3 rfl).n1).ev (At.hit z32.p4 rfl).ev) (built32_012 n (getL l n) xa) ?_)
      refine l_alloc rfl rfl zero32 ?_
      intro g11 w34 hg34 k34 h34
      have lt_g5_g11 := Nat.lt_of_lt_of_le (heap_lt kg5_33) hg34
      have geg11 := Nat.le_trans (low32.trans h33).ge hg34
      have kg5_34 := h34.blk kg5_33
      have ov_34 := ov_33.low h34
      refine l_row rfl rfl rfl (sz32.trans (congrArg some rfl.symm)) (At.hit z32.p6 rfl).ev ((At.hit z32.p5 rfl).n1).ev (by simp [Value.oneCell']) k34 (rfl.trans rfl.symm) ?_
      intro w35 k35 u35
      have kg5_35 := u35.blk kg5_34 (by omega)
      refine l_end (e_fresh z32.p7 ?_)
      intro a36 z36 m36
      have s1_36 := m36 _ _ (s1_32.n7)
      have s2_36 := m36 _ _ (s2_32.n7)
      have s4_36 := m36 _ _ (s4_32.n7)
      have s5_36 := m36 _ _ (s5_32.n7)
      have s11_36 := m36 _ _ (At.hit z32.p6 rfl)
      have low36 := (((low32.trans h33).trans h34).upd u35 geg11)
      clear m36
      refine e_then (c_seq (c_region ?_))
      refine l_q rfl (q_move _ _ rfl s2_36.ev ?_)
      refine l_q rfl (q_row rfl Tryd.underlying24 rfl (sz24.trans (congrArg some rfl.symm)) (s5_36.n1).ev (fun _ e => by rw [e]; exact kg5_35) ?_)
      refine l_q rfl (q_move _ _ rfl (s2_36.n2).ev ?_)
      refine l_call (fun v w' => v = .string (getL l m) ∧ Low w35 w') rfl rfl rfl Tryd.func15 rfl (args2 rfl ((At.hit z36.put rfl).n1).ev (At.hit z36.p2 rfl).ev) ((Get.calls hd (v) l (by have := setP_len l n xa; have := setP_len l m xb; have := setP_len (setP l n xa) m xb; have := setP_len (setP l m xb) n xa; omega) m _ (hv.low (((low32.trans h33).trans h34).upd u35 geg11))).mono fun _ _ ⟨e, k⟩ => ⟨_, e, rfl, k⟩) ?_
      rintro _ w37 ⟨rfl, h37⟩
      have kg5_37 := h37.blk kg5_35
      have kg11_37 := h37.blk k35
      have ov_37 := (hv.low (((low32.trans h33).trans h34).upd u35 geg11)).low h37
      refine l_q rfl (q_move _ _ rfl (s4_36.n4).ev ?_)
      refine l_q rfl (q_build (ps := #[(0, .string m), (1, .string (getL l m)), (2, .string xb)]) rfl (parts3 ((At.hit z36 rfl).n4).ev ((At.hit z36.p3 rfl).n1).ev (At.hit z36.p4 rfl).ev) (built32_012 m (getL l m) xb) ?_)
      refine l_alloc rfl rfl zero32 ?_
      intro g12 w38 hg38 k38 h38
      have lt_g5_g12 := Nat.lt_of_lt_of_le (heap_lt kg5_37) hg38
      have lt_g11_g12 := Nat.lt_of_lt_of_le (heap_lt kg11_37) hg38
      have geg12 := Nat.le_trans (low36.trans h37).ge hg38
      have kg5_38 := h38.blk kg5_37
      have kg11_38 := h38.blk kg11_37
      have ov_38 := ov_37.low h38
      refine l_row rfl rfl rfl (sz32.trans (congrArg some rfl.symm)) (At.hit z36.p6 rfl).ev ((At.hit z36.p5 rfl).n1).ev (by simp [Value.oneCell']) k38 (rfl.trans rfl.symm) ?_
      intro w39 k39 u39
      have kg5_39 := u39.blk kg5_38 (by omega)
      have kg11_39 := u39.blk kg11_38 (by omega)
      refine l_end (e_fresh z36.p7 ?_)
      intro a40 z40 m40
      have s1_40 := m40 _ _ (s1_36.n7)
      have s2_40 := m40 _ _ (s2_36.n7)
      have s5_40 := m40 _ _ (s5_36.n7)
      have s11_40 := m40 _ _ (s11_36.n7)
      have s12_40 := m40 _ _ (At.hit z36.p6 rfl)
      have low40 := (((low36.trans h37).trans h38).upd u39 geg12)
      clear m40
      refine e_then (c_seq ?_)
      by_cases hb41 : errP (nsize 1) l (⟨n, getL l n, xa⟩ : Sw) = 0
      ·
       skip
       refine c_region ?_
       refine l_q rfl (q_row rfl Tryd.underlying24 rfl (sz24.trans (congrArg some rfl.symm)) s5_40.ev (fun _ e => by rw [e]; exact kg5_39) ?_)
       refine l_q rfl (q_row rfl Tryd.underlying32 rfl (sz32.trans (congrArg some rfl.symm)) (s11_40.n1).ev (fun _ e => by rw [e]; exact kg11_39) ?_)
       refine l_buildF (vs := [.string n, .string (getL l n), .string xa]) rfl rfl Tryd.underlying25 rec32 (At.hit z40.put rfl).ev rfl rfl (by decide) (by decide) ?_
       intro g63_42 w42 hg42 k42 h42
       have lt_g5_g63_42 := Nat.lt_of_lt_of_le (heap_lt kg5_39) hg42
       have lt_g11_g63_42 := Nat.lt_of_lt_of_le (heap_lt kg11_39) hg42
       have lt_g12_g63_42 := Nat.lt_of_lt_of_le (heap_lt k39) hg42
       have geg63_42 := Nat.le_trans low40.ge hg42
       have kg5_42 := h42.blk kg5_39
       have kg11_42 := h42.blk kg11_39
       have kg12_42 := h42.blk k39
       have ov_42 := (hv.low (((low36.trans h37).trans h38).upd u39 geg12)).low h42
       have ol42 : RdF w42 3 (.slice (some ⟨g63_42, 0, none⟩) 1 1) ([(⟨n, getL l n, xa⟩ : Sw)]).length ([(⟨n, getL l n, xa⟩ : Sw)].map encW).flatten := rdF_rec k42 rfl
       refine l_call _ rfl rfl rfl Tryd.func11 rfl (args3 rfl ((At.hit z40 rfl).n2).ev rfl (At.hit z40.p2 rfl).ev) (ApplyR.calls hd (v) l 1 (.slice (some ⟨g63_42, 0, none⟩) 1 1) ([(⟨n, getL l n, xa⟩ : Sw)]) (by simp; omega) (H := hd) (L := (setP l n xa)) (E := 0) (ap1_ok hd hb41) _ ov_42 ol42 (Gd.low hG (low40.trans h42))) ?_
       rintro _ w43 ⟨⟨x43, rfl, o43⟩, h43⟩
       replace o43 := o43.base (low40.trans h42).ge
       have kg5_43 := h43.blk kg5_42
       have kg11_43 := h43.blk kg11_42
       have kg12_43 := h43.blk kg12_42
       have kg63_42_43 := h43.blk k42
       have ov_43 := ov_42.low h43
       have oL42_43 := ol42.low h43
       refine l_q rfl (q_move _ _ rfl (At.hit z40.p3 rfl).ev ?_)
       refine l_q rfl (q_extract rfl (At.hit z40.p4 rfl).ev rfl ?_)
       refine l_q rfl (q_extract rfl ((At.hit z40.p4 rfl).n1).ev rfl ?_)
       refine l_alloc rfl rfl zero24 ?_
       intro g13 w44 hg44 k44 h44
       have lt_g5_g13 := Nat.lt_of_lt_of_le (heap_lt kg5_43) hg44
       have lt_g11_g13 := Nat.lt_of_lt_of_le (heap_lt kg11_43) hg44
       have lt_g12_g13 := Nat.lt_of_lt_of_le (heap_lt kg12_43) hg44
       have lt_g63_42_g13 := Nat.lt_of_lt_of_le (heap_lt kg63_42_43) hg44
       have geg13 := Nat.le_trans ((low40.trans h42).trans h43).ge hg44
       have kg5_44 := h44.blk kg5_43
       have kg11_44 := h44.blk kg11_43
       have kg12_44 := h44.blk kg12_43
       have kg63_42_44 := h44.blk kg63_42_43
       have ov_44 := ov_43.low h44
       have oL42_44 := oL42_43.low h44
       have oz43_44 := o43.low h44
       refine l_fresh z40.p8 ?_
       intro a45 z45 m45
       have s1_45 := m45 _ _ (s1_40.n8)
       have s2_45 := m45 _ _ (s2_40.n8)
       have s5_45 := m45 _ _ (s5_40.n8)
       have s11_45 := m45 _ _ (s11_40.n8)
       have s12_45 := m45 _ _ (s12_40.n8)
       have s13_45 := m45 _ _ (At.hit z40.p7 rfl)
       have s65_45 := m45 _ _ ((At.hit z40.p5 rfl).n2)
       have s66_45 := m45 _ _ ((At.hit z40.p6 rfl).n1)
       clear m45
       refine l_row rfl rfl rfl (sz24.trans (congrArg some rfl)) s13_45.ev s65_45.ev (one2 _ (RdF.one oz43_44.rd)) k44 rfl ?_
       intro w46 k46 u46
       have oz43_46 := oz43_44.upd u46 k44 rfl
       have kg5_46 := u46.blk kg5_44 (by omega)
       have kg11_46 := u46.blk kg11_44 (by omega)
       have kg12_46 := u46.blk kg12_44 (by omega)
       have kg63_42_46 := u46.blk kg63_42_44 (by omega)
       refine l_q rfl (q_assign _ _ rfl s66_45.ev ?_)
       refine l_end (e_fresh z45.put ?_)
       intro a47 z47 m47
       have s1_47 := m47 _ _ (s1_45.n1)
       have s2_47 := m47 _ _ (s2_45.n1)
       have s5_47 := m47 _ _ (s5_45.n1)
       have s11_47 := m47 _ _ (s11_45.n1)
       have s12_47 := m47 _ _ (s12_45.n1)
       have s13_47 := m47 _ _ (s13_45.n1)
       have s14_47 := m47 _ _ (At.hit z45 rfl)
       have low47 := ((((low40.trans h42).trans h43).trans h44).upd u46 geg13)
       clear m47
       refine e_then (c_seq (c_seq (c_region ?_)))
       refine l_q rfl (q_move _ _ rfl s14_47.ev ?_)
       refine l_q rfl (q_eql true rfl (At.hit z47 rfl).ev rfl (decide_eq_true rfl) ?_)
       refine l_end (e_fresh z47.p2 ?_)
       intro a48 z48 m48
       have s1_48 := m48 _ _ (s1_47.n2)
       have s2_48 := m48 _ _ (s2_47.n2)
       have s5_48 := m48 _ _ (s5_47.n2)
       have s11_48 := m48 _ _ (s11_47.n2)
       have s12_48 := m48 _ _ (s12_47.n2)
       have s13_48 := m48 _ _ (s13_47.n2)
       have s68_48 := m48 _ _ (At.hit z47.put rfl)
       clear m48
       refine e_then (c_true s68_48 ?_)
       refine c_seq (c_seq (region_lowg hm (by kernel_rfl) ?_))
       refine gs rfl (q_row rfl Tryd.underlying24 rfl (sz24.trans (congrArg some rfl.symm)) s13_48.ev (fun _ h => h.blk k46) ?_)
       refine gs rfl (q_move _ _ rfl (s2_48.n1).ev ?_)
       refine gs rfl (q_call (.string (getL (setP l n xa) m)) rfl rfl Tryd.func15 rfl (args2 rfl ((At.hit z48 rfl).n1).ev (At.hit z48.put rfl).ev) (fun _ h => (Get.calls hd (x43) (setP l n xa) (by have := setP_len l n xa; have := setP_len l m xb; have := setP_len (setP l n xa) m xb; have := setP_len (setP l m xb) n xa; omega) m _ (oz43_46.low h).rd).mono fun _ _ ⟨e, k⟩ => ⟨e, h.trans k⟩) ?_)
       refine gs rfl (q_row rfl Tryd.underlying24 rfl (sz24.trans (congrArg some rfl.symm)) (s5_48.n3).ev (fun _ h => h.blk kg5_46) ?_)
       refine gs rfl (q_move _ _ rfl (s2_48.n4).ev ?_)
       refine gs rfl (q_call (.string (getL l m)) rfl rfl Tryd.func15 rfl (args2 rfl ((At.hit z48.p3 rfl).n1).ev (At.hit z48.p4 rfl).ev) (fun _ h => (Get.calls hd (v) l (by have := setP_len l n xa; have := setP_len l m xb; have := setP_len (setP l n xa) m xb; have := setP_len (setP l m xb) n xa; omega) m _ ((hv.low ((((low40.trans h42).trans h43).trans h44).upd u46 geg13)).low h)).mono fun _ _ ⟨e, k⟩ => ⟨e, h.trans k⟩) ?_)
       refine gs rfl (q_strne false rfl ((At.hit z48.p2 rfl).n3).ev (At.hit z48.p5 rfl).ev (neF (get_other hr xa (fun e => hb21 e.symm))) ?_)
       refine gs rfl (q_move _ _ rfl (At.hit z48.p6 rfl).ev ?_)
       refine g_fresh z48.p8 ?_
       intro a49 z49 m49
       have s1_49 := m49 _ _ (s1_48.n8)
       have s5_49 := m49 _ _ (s5_48.n8)
       have s11_49 := m49 _ _ (s11_48.n8)
       have s12_49 := m49 _ _ (s12_48.n8)
       have s13_49 := m49 _ _ (s13_48.n8)
       have s76_49 := m49 _ _ (At.hit z48.p7 rfl)
       clear m49
       refine gsg (wanted_is (j := 7) (d := 76) (b := false) rfl rfl s76_49 rfl) (q_fld 0 rfl (by kernel_rfl) s13_49.ev ?_)
       refine gsg (wanted_is (j := 7) (d := 76) (b := false) rfl rfl (s76_49.n1) rfl) (q_cellT (.string hd) rfl Tryd.underlying9 (At.hit z49 rfl).ev (fun _ h => (cells_at (h.blk k46) 0).trans rfl) ?_)
       refine gsg (wanted_is (j := 7) (d := 76) (b := false) rfl rfl (s76_49.n2) rfl) (q_fld 0 rfl (by kernel_rfl) (s5_49.n2).ev ?_)
       refine gsg (wanted_is (j := 7) (d := 76) (b := false) rfl rfl (s76_49.n3) rfl) (q_cellT (.string hd) rfl Tryd.underlying9 (At.hit z49.p2 rfl).ev (fun _ h => (cells_at (h.blk kg5_46) 0).trans rfl) ?_)
       refine gsg (wanted_is (j := 7) (d := 76) (b := false) rfl rfl (s76_49.n4) rfl) (q_strne false rfl ((At.hit z49.put rfl).n2).ev (At.hit z49.p3 rfl).ev (neF rfl) ?_)
       refine gs rfl (q_pick (b := false) (.bool false) rfl (s76_49.n5).ev (At.hit z49.p4 rfl).ev ?_)
       refine gz ?_
       intro w50 h50
       have kg5_50 := h50.blk kg5_46
       have kg11_50 := h50.blk kg11_46
       have kg12_50 := h50.blk kg12_46
       have kg13_50 := h50.blk k46
       have ov_50 := (hv.low ((((low40.trans h42).trans h43).trans h44).upd u46 geg13)).low h50
       have oz43_50 := oz43_46.low h50
       refine e_id (e_fresh z49.p6 ?_)
       intro a51 z51 m51
       have s1_51 := m51 _ _ (s1_49.n6)
       have s5_51 := m51 _ _ (s5_49.n6)
       have s11_51 := m51 _ _ (s11_49.n6)
       have s12_51 := m51 _ _ (s12_49.n6)
       have s13_51 := m51 _ _ (s13_49.n6)
       have s82_51 := m51 _ _ (At.hit z49.p5 rfl)
       have low51 := (low47.trans h50)
       clear m51
       refine e_then (c_false s82_51 ?_)
       refine wp_skip (e_then (c_seq (c_region ?_)))
       refine l_q rfl (q_assign _ _ rfl rfl ?_)
       refine l_end (e_fresh z51.put ?_)
       intro a52 z52 m52
       have s1_52 := m52 _ _ (s1_51.n1)
       have s5_52 := m52 _ _ (s5_51.n1)
       have s11_52 := m52 _ _ (s11_51.n1)
       have s12_52 := m52 _ _ (s12_51.n1)
       have s13_52 := m52 _ _ (s13_51.n1)
       have s15_52 := m52 _ _ (At.hit z51 rfl)
       clear m52
       refine e_then (wp_block (c_loop l.length (fun k a w => Fr 163 a ∧ At a 1 (.string n) ∧ At a 5 (.pointer (some ⟨g5, 0, none⟩)) ∧ At a 11 (.pointer (some ⟨g11, 0, none⟩)) ∧ At a 12 (.pointer (some ⟨g12, 0, none⟩)) ∧ At a 13 (.pointer (some ⟨g13, 0, none⟩)) ∧ At a 15 (.int .i64 ((k : Nat) : Int)) ∧ w.heap[g11]? = some (.cells (#[.string n, .string (getL l n), .string xa]) 32) ∧ w.heap[g12]? = some (.cells (#[.string m, .string (getL l m), .string xb]) 32) ∧ w.heap[g13]? = some (.cells (#[.string hd, x43]) 24) ∧ w.heap[g5]? = some (.cells (#[.string hd, v]) 24) ∧ OwnF w w0.heap.size 55 2 x43 (setP l n xa).length (((setP l n xa).map encP).flatten) ∧ Low w0 w) ?_ ?_ ?_))
       ·
        exact ⟨z52, s1_52, s5_52, s11_52, s12_52, s13_52, s15_52, kg11_50, kg12_50, kg13_50, kg5_50, oz43_50, low51⟩
       ·
        intro k a53 w53 hk53 h
        obtain ⟨z53, s1_53, s5_53, s11_53, s12_53, s13_53, s15_53, kg11_53, kg12_53, kg13_53, kg5_53, oz43_53, low53⟩ := h
        clear kg11_50 kg12_50 kg13_50 kg5_50 low51 s11_52 s12_52 s13_52 s15_52 s1_52 s5_52 z52
        have hkk : k < l.length := by assumption
        refine c_seq (c_seq (c_region ?_))
        refine l_q rfl (q_move _ _ rfl s15_53.ev ?_)
        refine l_q rfl (q_fld 1 rfl (by kernel_rfl) (s5_53.n1).ev ?_)
        refine l_q rfl (q_cellS (v) rfl Tryd.underlying22 (At.hit z53.put rfl).ev (fun _ e => by rw [e]; exact (cells_at kg5_53 1).trans rfl) ?_)
        refine l_q rfl (q_lenF rfl rfl Tryd.underlying22 (At.hit z53.p2 rfl).ev (hv.low low53) ?_)
        refine l_q rfl (q_lss true rfl ((At.hit z53 rfl).n3).ev (At.hit z53.p3 rfl).ev (decide_eq_true (by omega)) ?_)
        refine l_end (e_fresh z53.p5 ?_)
        intro a54 z54 m54
        have s1_54 := m54 _ _ (s1_53.n5)
        have s5_54 := m54 _ _ (s5_53.n5)
        have s11_54 := m54 _ _ (s11_53.n5)
        have s12_54 := m54 _ _ (s12_53.n5)
        have s13_54 := m54 _ _ (s13_53.n5)
        have s15_54 := m54 _ _ (s15_53.n5)
        have s87_54 := m54 _ _ (At.hit z53.p4 rfl)
        clear m54
        refine e_then (c_true s87_54 ?_)
        refine wp_skip (e_then (c_seq (wp_block (c_seq (c_region ?_)))))
        refine l_q rfl (q_fld 1 rfl (by kernel_rfl) s5_54.ev ?_)
        refine l_q rfl (q_cellS (v) rfl Tryd.underlying22 (At.hit z54 rfl).ev (fun _ e => by rw [e]; exact (cells_at kg5_53 1).trans rfl) ?_)
        refine l_q rfl (q_move _ _ rfl (s15_54.n2).ev ?_)
        refine l_q rfl (q_idxF (j := k) rfl Tryd.underlying22 sz55 ((At.hit z54.put rfl).n1).ev (hv.low low53) (At.hit z54.p2 rfl).ev (by omega) ?_)
        refine l_q rfl (q_fldF 0 rfl fld55_0 (At.hit z54.p3 rfl).ev ((hv.low low53).form (by omega)) ?_)
        refine l_q rfl (q_ld1 (u := .string ((l.getD k zP).f0)) rfl Tryd.underlying9 rfl (At.hit z54.p4 rfl).ev (fun _ e => by rw [e]; exact (hv.low low53)) (by omega) ((flat_at encP_len zP _ k 0 (by omega) (by decide)).trans rfl) ?_)
        refine l_q rfl (q_assign _ _ rfl (At.hit z54.p5 rfl).ev ?_)
        refine l_end (e_fresh z54.p7 ?_)
        intro a55 z55 m55
        have s1_55 := m55 _ _ (s1_54.n7)
        have s5_55 := m55 _ _ (s5_54.n7)
        have s11_55 := m55 _ _ (s11_54.n7)
        have s12_55 := m55 _ _ (s12_54.n7)
        have s13_55 := m55 _ _ (s13_54.n7)
        have s15_55 := m55 _ _ (s15_54.n7)
        have s16_55 := m55 _ _ (At.hit z54.p6 rfl)
        clear m55
        refine e_then (c_seq ?_)
        by_cases hb56 : ¬ (l.getD k zP).f0 = n
        ·
         skip
         refine region_lowg hm (by kernel_rfl) ?_
         refine gs rfl (q_move _ _ rfl s16_55.ev ?_)
         refine gs rfl (q_move _ _ rfl (s1_55.n1).ev ?_)
         refine gs rfl (q_strne true rfl ((At.hit z55 rfl).n1).ev (At.hit z55.put rfl).ev (neT hb56) ?_)
         refine gs rfl (q_move _ _ rfl (At.hit z55.p2 rfl).ev ?_)
         refine gsg (wanted_is (j := 3) (d := 99) (b := true) rfl rfl (At.hit z55.p3 rfl) rfl) (q_row rfl Tryd.underlying24 rfl (sz24.trans (congrArg some rfl.symm)) (s13_55.n4).ev (fun _ h => h.blk kg13_53) ?_)
         refine gsg (wanted_is (j := 3) (d := 99) (b := true) rfl rfl ((At.hit z55.p3 rfl).n1) rfl) (q_move _ _ rfl (s16_55.n5).ev ?_)
         refine gsg (wanted_is (j := 3) (d := 99) (b := true) rfl rfl ((At.hit z55.p3 rfl).n2) rfl) (q_call (.string (getL (setP l n xa) ((l.getD k zP).f0))) rfl rfl Tryd.func15 rfl (args2 rfl ((At.hit z55.p4 rfl).n1).ev (At.hit z55.p5 rfl).ev) (fun _ h => (Get.calls hd (x43) (setP l n xa) (by have := setP_len l n xa; have := setP_len l m xb; have := setP_len (setP l n xa) m xb; have := setP_len (setP l m xb) n xa; omega) ((l.getD k zP).f0) _ (oz43_53.low h).rd).mono fun _ _ ⟨e, k⟩ => ⟨e, h.trans k⟩) ?_)
         refine gsg (wanted_is (j := 3) (d := 99) (b := true) rfl rfl ((At.hit z55.p3 rfl).n3) rfl) (q_fld 1 rfl (by kernel_rfl) (s5_55.n7).ev ?_)
         refine g_fresh z55.p8 ?_
         intro a57 z57 m57
         have s1_57 := m57 _ _ (s1_55.n8)
         have s5_57 := m57 _ _ (s5_55.n8)
         have s11_57 := m57 _ _ (s11_55.n8)
         have s12_57 := m57 _ _ (s12_55.n8)
         have s13_57 := m57 _ _ (s13_55.n8)
         have s15_57 := m57 _ _ (s15_55.n8)
         have s99_57 := m57 _ _ ((At.hit z55.p3 rfl).n4)
         have s102_57 := m57 _ _ ((At.hit z55.p6 rfl).n1)
         have s103_57 := m57 _ _ (At.hit z55.p7 rfl)
         clear m57
         refine gsg (wanted_is (j := 3) (d := 99) (b := true) rfl rfl s99_57 rfl) (q_cellS (v) rfl Tryd.underlying22 s103_57.ev (fun _ h => (cells_at (h.blk kg5_53) 1).trans rfl) ?_)
         refine gsg (wanted_is (j := 3) (d := 99) (b := true) rfl rfl (s99_57.n1) rfl) (q_move _ _ rfl (s15_57.n1).ev ?_)
         refine gsg (wanted_is (j := 3) (d := 99) (b := true) rfl rfl (s99_57.n2) rfl) (q_idxF (j := k) rfl Tryd.underlying22 sz55 ((At.hit z57 rfl).n1).ev (hv.low low53) (At.hit z57.put rfl).ev (by omega) ?_)
         refine gsg (wanted_is (j := 3) (d := 99) (b := true) rfl rfl (s99_57.n3) rfl) (q_fldF 1 rfl fld55_1 (At.hit z57.p2 rfl).ev ((hv.low low53).form (by omega)) ?_)
         refine gsg (wanted_is (j := 3) (d := 99) (b := true) rfl rfl (s99_57.n4) rfl) (q_ld1 (u := .string ((l.getD k zP).f1)) rfl Tryd.underlying9 rfl (At.hit z57.p3 rfl).ev (fun _ h => ((hv.low low53).low h)) (by omega) ((flat_at encP_len zP _ k 1 (by omega) (by decide)).trans rfl) ?_)
         refine gsg (wanted_is (j := 3) (d := 99) (b := true) rfl rfl (s99_57.n5) rfl) (q_strne false rfl (s102_57.n5).ev (At.hit z57.p4 rfl).ev (neF ((get_other hr xa hb56).trans (getL_mem hr (getD_mem hkk)))) ?_)
         refine gs rfl (q_pick (b := true) (.bool false) rfl (s99_57.n6).ev (At.hit z57.p5 rfl).ev ?_)
         refine gz ?_
         intro w58 h58
         have kg11_58 := h58.blk kg11_53
         have kg12_58 := h58.blk kg12_53
         have kg13_58 := h58.blk kg13_53
         have kg5_58 := h58.blk kg5_53
         have oz43_58 := oz43_53.low h58
         have ov_58 := (hv.low low53).low h58
         refine e_id (e_fresh z57.p7 ?_)
         intro a59 z59 m59
         have s1_59 := m59 _ _ (s1_57.n7)
         have s5_59 := m59 _ _ (s5_57.n7)
         have s11_59 := m59 _ _ (s11_57.n7)
         have s12_59 := m59 _ _ (s12_57.n7)
         have s13_59 := m59 _ _ (s13_57.n7)
         have s15_59 := m59 _ _ (s15_57.n7)
         have s110_59 := m59 _ _ (At.hit z57.p6 rfl)
         have low59 := (low53.trans h58)
         clear m59
         refine e_then (c_false s110_59 ?_)
         refine wp_skip (e_in (e_then (c_region ?_)))
         refine l_q rfl (q_move _ _ rfl s15_59.ev ?_)
         refine l_q rfl (q_add (((k + 1 : Nat) : Int)) rfl (At.hit z59 rfl).ev rfl (i64_is (by omega) (by omega) (by omega)) ?_)
         refine l_q rfl (q_assign _ _ rfl (At.hit z59.put rfl).ev ?_)
         refine l_end (e_fresh z59.p3 ?_)
         intro a60 z60 m60
         have s1_60 := m60 _ _ (s1_59.n3)
         have s5_60 := m60 _ _ (s5_59.n3)
         have s11_60 := m60 _ _ (s11_59.n3)
         have s12_60 := m60 _ _ (s12_59.n3)
         have s13_60 := m60 _ _ (s13_59.n3)
         have s15_60 := m60 _ _ (At.hit z59.p2 rfl)
         clear m60
         exact ⟨z60, s1_60, s5_60, s11_60, s12_60, s13_60, s15_60, kg11_58, kg12_58, kg13_58, kg5_58, oz43_58, low59⟩
        ·
         skip
         refine region_lowg hm (by kernel_rfl) ?_
         refine gs rfl (q_move _ _ rfl s16_55.ev ?_)
         refine gs rfl (q_move _ _ rfl (s1_55.n1).ev ?_)
         refine gs rfl (q_strne false rfl ((At.hit z55 rfl).n1).ev (At.hit z55.put rfl).ev (neF (Classical.not_not.1 hb56)) ?_)
         refine gs rfl (q_move _ _ rfl (At.hit z55.p2 rfl).ev ?_)
         refine gsk (wanted_is (j := 3) (d := 99) (b := false) rfl rfl (At.hit z55.p3 rfl) rfl) ?_
         refine gsk (wanted_is (j := 3) (d := 99) (b := false) rfl rfl ((At.hit z55.p3 rfl).n1) rfl) ?_
         refine gsk (wanted_is (j := 3) (d := 99) (b := false) rfl rfl ((At.hit z55.p3 rfl).n2) rfl) ?_
         refine gsk (wanted_is (j := 3) (d := 99) (b := false) rfl rfl ((At.hit z55.p3 rfl).n3) rfl) ?_
         refine g_fresh z55.p8 ?_
         intro a61 z61 m61
         have s1_61 := m61 _ _ (s1_55.n8)
         have s5_61 := m61 _ _ (s5_55.n8)
         have s11_61 := m61 _ _ (s11_55.n8)
         have s12_61 := m61 _ _ (s12_55.n8)
         have s13_61 := m61 _ _ (s13_55.n8)
         have s15_61 := m61 _ _ (s15_55.n8)
         have s99_61 := m61 _ _ ((At.hit z55.p3 rfl).n4)
         have s102_61 := m61 _ _ ((At.hit z55.p6 rfl).n1)
         have s103_61 := m61 _ _ (At.hit z55.p7 rfl)
         clear m61
         refine gsk (wanted_is (j := 3) (d := 99) (b := false) rfl rfl s99_61 rfl) ?_
         refine gsk (wanted_is (j := 3) (d := 99) (b := false) rfl rfl (s99_61.n1) rfl) ?_
         refine gsk (wanted_is (j := 3) (d := 99) (b := false) rfl rfl (s99_61.n2) rfl) ?_
         refine gsk (wanted_is (j := 3) (d := 99) (b := false) rfl rfl (s99_61.n3) rfl) ?_
         refine gsk (wanted_is (j := 3) (d := 99) (b := false) rfl rfl (s99_61.n4) rfl) ?_
         refine gsk (wanted_is (j := 3) (d := 99) (b := false) rfl rfl (s99_61.n5) rfl) ?_
         refine gs rfl (q_pick (b := false) (.bool false) rfl (s99_61.n6).ev rfl ?_)
         refine gz ?_
         intro w62 h62
         have kg11_62 := h62.blk kg11_53
         have kg12_62 := h62.blk kg12_53
         have kg13_62 := h62.blk kg13_53
         have kg5_62 := h62.blk kg5_53
         have oz43_62 := oz43_53.low h62
         have ov_62 := (hv.low low53).low h62
         refine e_id (e_fresh z61.p7 ?_)
         intro a63 z63 m63
         have s1_63 := m63 _ _ (s1_61.n7)
         have s5_63 := m63 _ _ (s5_61.n7)
         have s11_63 := m63 _ _ (s11_61.n7)
         have s12_63 := m63 _ _ (s12_61.n7)
         have s13_63 := m63 _ _ (s13_61.n7)
         have s15_63 := m63 _ _ (s15_61.n7)
         have s110_63 := m63 _ _ (At.hit z61.p6 rfl)
         have low63 := (low53.trans h62)
         clear m63
         refine e_then (c_false s110_63 ?_)
         refine wp_skip (e_in (e_then (c_region ?_)))
         refine l_q rfl (q_move _ _ rfl s15_63.ev ?_)
         refine l_q rfl (q_add (((k + 1 : Nat) : Int)) rfl (At.hit z63 rfl).ev rfl (i64_is (by omega) (by omega) (by omega)) ?_)
         refine l_q rfl (q_assign _ _ rfl (At.hit z63.put rfl).ev ?_)
         refine l_end (e_fresh z63.p3 ?_)
         intro a64 z64 m64
         have s1_64 := m64 _ _ (s1_63.n3)
         have s5_64 := m64 _ _ (s5_63.n3)
         have s11_64 := m64 _ _ (s11_63.n3)
         have s12_64 := m64 _ _ (s12_63.n3)
         have s13_64 := m64 _ _ (s13_63.n3)
         have s15_64 := m64 _ _ (At.hit z63.p2 rfl)
         clear m64
         exact ⟨z64, s1_64, s5_64, s11_64, s12_64, s13_64, s15_64, kg11_62, kg12_62, kg13_62, kg5_62, oz43_62, low63⟩
       ·
        intro a65 w65 h
        obtain ⟨z65, s1_65, s5_65, s11_65, s12_65, s13_65, s15_65, kg11_65, kg12_65, kg13_65, kg5_65, oz43_65, low65⟩ := h
        clear kg11_50 kg12_50 kg13_50 kg5_50 low51 s11_52 s12_52 s13_52 s15_52 s1_52 s5_52 z52
        refine c_seq (c_seq (c_region ?_))
        refine l_q rfl (q_move _ _ rfl s15_65.ev ?_)
        refine l_q rfl (q_fld 1 rfl (by kernel_rfl) (s5_65.n1).ev ?_)
        refine l_q rfl (q_cellS (v) rfl Tryd.underlying22 (At.hit z65.put rfl).ev (fun _ e => by rw [e]; exact (cells_at kg5_65 1).trans rfl) ?_)
        refine l_q rfl (q_lenF rfl rfl Tryd.underlying22 (At.hit z65.p2 rfl).ev (hv.low low65) ?_)
        refine l_q rfl (q_lss false rfl ((At.hit z65 rfl).n3).ev (At.hit z65.p3 rfl).ev (decide_eq_false (by omega)) ?_)
        refine l_end (e_fresh z65.p5 ?_)
        intro a66 z66 m66
        have s1_66 := m66 _ _ (s1_65.n5)
        have s5_66 := m66 _ _ (s5_65.n5)
        have s11_66 := m66 _ _ (s11_65.n5)
        have s12_66 := m66 _ _ (s12_65.n5)
        have s13_66 := m66 _ _ (s13_65.n5)
        have s15_66 := m66 _ _ (s15_65.n5)
        have s87_66 := m66 _ _ (At.hit z65.p4 rfl)
        clear m66
        refine e_then (c_false s87_66 ?_)
        refine wp_exit (x_then (x_then (in_exit (e_then (c_seq ?_)))))
        by_cases hb67 : errP (nsize 1) l (⟨m, getL l m, xb⟩ : Sw) = 0
        ·
         skip
         refine c_region ?_
         refine l_q rfl (q_row rfl Tryd.underlying24 rfl (sz24.trans (congrArg some rfl.symm)) s5_66.ev (fun _ e => by rw [e]; exact kg5_65) ?_)
         refine l_q rfl (q_row rfl Tryd.underlying32 rfl (sz32.trans (congrArg some rfl.symm)) (s11_66.n1).ev (fun _ e => by rw [e]; exact kg11_65) ?_)
         refine l_q rfl (q_row rfl Tryd.underlying32 rfl (sz32.trans (congrArg some rfl.symm)) (s12_66.n2).ev (fun _ e => by rw [e]; exact kg12_65) ?_)
         refine l_two3 rfl rfl Tryd.underlying25 rec32 ((At.hit z66.put rfl).n1).ev (At.hit z66.p2 rfl).ev ?_
         intro g115_68 w68 hg68 k68 h68
         have lt_g11_g115_68 := Nat.lt_of_lt_of_le (heap_lt kg11_65) hg68
         have lt_g12_g115_68 := Nat.lt_of_lt_of_le (heap_lt kg12_65) hg68
         have lt_g13_g115_68 := Nat.lt_of_lt_of_le (heap_lt kg13_65) hg68
         have lt_g5_g115_68 := Nat.lt_of_lt_of_le (heap_lt kg5_65) hg68
         have geg115_68 := Nat.le_trans low65.ge hg68
         have kg11_68 := h68.blk kg11_65
         have kg12_68 := h68.blk kg12_65
         have kg13_68 := h68.blk kg13_65
         have kg5_68 := h68.blk kg5_65
         have oz43_68 := oz43_65.low h68
         have ov_68 := (hv.low low65).low h68
         have ol68 : RdF w68 3 (.slice (some ⟨g115_68, 0, none⟩) 2 2) ([(⟨n, getL l n, xa⟩ : Sw), (⟨m, getL l m, xb⟩ : Sw)]).length ([(⟨n, getL l n, xa⟩ : Sw), (⟨m, getL l m, xb⟩ : Sw)].map encW).flatten := rdF_rec k68 rfl
         refine l_call _ rfl rfl rfl Tryd.func11 rfl (args3 rfl ((At.hit z66 rfl).n3).ev rfl (At.hit z66.p3 rfl).ev) (ApplyR.calls hd (v) l 1 (.slice (some ⟨g115_68, 0, none⟩) 2 2) ([(⟨n, getL l n, xa⟩ : Sw), (⟨m, getL l m, xb⟩ : Sw)]) (by simp; omega) (H := hd) (L := (setP (setP l n xa) m xb)) (E := 0) (ap2_ok hd hr (fun e => hb21 e.symm) hb41 hb67) _ ov_68 ol68 (Gd.low hG (low65.trans h68))) ?_
         rintro _ w69 ⟨⟨x69, rfl, o69⟩, h69⟩
         replace o69 := o69.base (low65.trans h68).ge
         have kg11_69 := h69.blk kg11_68
         have kg12_69 := h69.blk kg12_68
         have kg13_69 := h69.blk kg13_68
         have kg5_69 := h69.blk kg5_68
         have kg115_68_69 := h69.blk k68
         have oz43_69 := oz43_68.low h69
         have ov_69 := ov_68.low h69
         have oL68_69 := ol68.low h69
         refine l_q rfl (q_move _ _ rfl (At.hit z66.p4 rfl).ev ?_)
         refine l_q rfl (q_extract rfl (At.hit z66.p5 rfl).ev rfl ?_)
         refine l_q rfl (q_extract rfl ((At.hit z66.p5 rfl).n1).ev rfl ?_)
         refine l_fresh z66.p8 ?_
         intro a70 z70 m70
         have s1_70 := m70 _ _ (s1_66.n8)
         have s5_70 := m70 _ _ (s5_66.n8)
         have s11_70 := m70 _ _ (s11_66.n8)
         have s12_70 := m70 _ _ (s12_66.n8)
         have s117_70 := m70 _ _ ((At.hit z66.p6 rfl).n1)
         have s118_70 := m70 _ _ (At.hit z66.p7 rfl)
         clear m70
         refine l_alloc rfl rfl zero24 ?_
         intro g17 w71 hg71 k71 h71
         have lt_g11_g17 := Nat.lt_of_lt_of_le (heap_lt kg11_69) hg71
         have lt_g12_g17 := Nat.lt_of_lt_of_le (heap_lt kg12_69) hg71
         have lt_g13_g17 := Nat.lt_of_lt_of_le (heap_lt kg13_69) hg71
         have lt_g5_g17 := Nat.lt_of_lt_of_le (heap_lt kg5_69) hg71
         have lt_g115_68_g17 := Nat.lt_of_lt_of_le (heap_lt kg115_68_69) hg71
         have geg17 := Nat.le_trans ((low65.trans h68).trans h69).ge hg71
         have kg11_71 := h71.blk kg11_69
         have kg12_71 := h71.blk kg12_69
         have kg13_71 := h71.blk kg13_69
         have kg5_71 := h71.blk kg5_69
         have kg115_68_71 := h71.blk kg115_68_69
         have oz43_71 := oz43_69.low h71
         have ov_71 := ov_69.low h71
         have oL68_71 := oL68_69.low h71
         have oz69_71 := o69.low h71
         refine l_row rfl rfl rfl (sz24.trans (congrArg some rfl)) (At.hit z70 rfl).ev (s117_70.n1).ev (one2 _ (RdF.one oz69_71.rd)) k71 rfl ?_
         intro w72 k72 u72
         have oz43_72 := oz43_71.upd u72 k71 rfl
         have oz69_72 := oz69_71.upd u72 k71 rfl
         have kg11_72 := u72.blk kg11_71 (by omega)
         have kg12_72 := u72.blk kg12_71 (by omega)
         have kg13_72 := u72.blk kg13_71 (by omega)
         have kg5_72 := u72.blk kg5_71 (by omega)
         have kg115_68_72 := u72.blk kg115_68_71 (by omega)
         refine l_q rfl (q_assign _ _ rfl (s118_70.n1).ev ?_)
         refine l_end (e_fresh z70.p2 ?_)
         intro a73 z73 m73
         have s1_73 := m73 _ _ (s1_70.n2)
         have s5_73 := m73 _ _ (s5_70.n2)
         have s11_73 := m73 _ _ (s11_70.n2)
         have s12_73 := m73 _ _ (s12_70.n2)
         have s17_73 := m73 _ _ ((At.hit z70 rfl).n1)
         have s18_73 := m73 _ _ (At.hit z70.put rfl)
         have low73 := ((((low65.trans h68).trans h69).trans h71).upd u72 geg17)
         clear m73
         refine e_then (c_seq (c_region ?_))
         refine l_q rfl (q_row rfl Tryd.underlying24 rfl (sz24.trans (congrArg some rfl.symm)) s5_73.ev (fun _ e => by rw [e]; exact kg5_72) ?_)
         refine l_q rfl (q_row rfl Tryd.underlying32 rfl (sz32.trans (congrArg some rfl.symm)) (s12_73.n1).ev (fun _ e => by rw [e]; exact kg12_72) ?_)
         refine l_q rfl (q_row rfl Tryd.underlying32 rfl (sz32.trans (congrArg some rfl.symm)) (s11_73.n2).ev (fun _ e => by rw [e]; exact kg11_72) ?_)
         refine l_two3 rfl rfl Tryd.underlying25 rec32 ((At.hit z73.put rfl).n1).ev (At.hit z73.p2 rfl).ev ?_
         intro g123_74 w74 hg74 k74 h74
         have lt_g11_g123_74 := Nat.lt_of_lt_of_le (heap_lt kg11_72) hg74
         have lt_g12_g123_74 := Nat.lt_of_lt_of_le (heap_lt kg12_72) hg74
         have lt_g5_g123_74 := Nat.lt_of_lt_of_le (heap_lt kg5_72) hg74
         have lt_g17_g123_74 := Nat.lt_of_lt_of_le (heap_lt k72) hg74
         have geg123_74 := Nat.le_trans low73.ge hg74
         have kg11_74 := h74.blk kg11_72
         have kg12_74 := h74.blk kg12_72
         have kg5_74 := h74.blk kg5_72
         have kg17_74 := h74.blk k72
         have ov_74 := (hv.low ((((low65.trans h68).trans h69).trans h71).upd u72 geg17)).low h74
         have oz69_74 := oz69_72.low h74
         have ol74 : RdF w74 3 (.slice (some ⟨g123_74, 0, none⟩) 2 2) ([(⟨m, getL l m, xb⟩ : Sw), (⟨n, getL l n, xa⟩ : Sw)]).length ([(⟨m, getL l m, xb⟩ : Sw), (⟨n, getL l n, xa⟩ : Sw)].map encW).flatten := rdF_rec k74 rfl
         refine l_call _ rfl rfl rfl Tryd.func11 rfl (args3 rfl ((At.hit z73 rfl).n3).ev rfl (At.hit z73.p3 rfl).ev) (ApplyR.calls hd (v) l 1 (.slice (some ⟨g123_74, 0, none⟩) 2 2) ([(⟨m, getL l m, xb⟩ : Sw), (⟨n, getL l n, xa⟩ : Sw)]) (by simp; omega) (H := hd) (L := (setP (setP l m xb) n xa)) (E := 0) (ap2_ok hd hr hb21 hb67 hb41) _ ov_74 ol74 (Gd.low hG (low73.trans h74))) ?_
         rintro _ w75 ⟨⟨x75, rfl, o75⟩, h75⟩
         replace o75 := o75.base (low73.trans h74).ge
         have kg11_75 := h75.blk kg11_74
         have kg12_75 := h75.blk kg12_74
         have kg5_75 := h75.blk kg5_74
         have kg17_75 := h75.blk kg17_74
         have kg123_74_75 := h75.blk k74
         have ov_75 := ov_74.low h75
         have oz69_75 := oz69_74.low h75
         have oL74_75 := ol74.low h75
         refine l_q rfl (q_move _ _ rfl (At.hit z73.p4 rfl).ev ?_)
         refine l_q rfl (q_extract rfl (At.hit z73.p5 rfl).ev rfl ?_)
         refine l_q rfl (q_extract rfl ((At.hit z73.p5 rfl).n1).ev rfl ?_)
         refine l_fresh z73.p8 ?_
         intro a76 z76 m76
         have s1_76 := m76 _ _ (s1_73.n8)
         have s5_76 := m76 _ _ (s5_73.n8)
         have s17_76 := m76 _ _ (s17_73.n8)
         have s18_76 := m76 _ _ (s18_73.n8)
         have s125_76 := m76 _ _ ((At.hit z73.p6 rfl).n1)
         have s126_76 := m76 _ _ (At.hit z73.p7 rfl)
         clear m76
         refine l_alloc rfl rfl zero24 ?_
         intro g19 w77 hg77 k77 h77
         have lt_g11_g19 := Nat.lt_of_lt_of_le (heap_lt kg11_75) hg77
         have lt_g12_g19 := Nat.lt_of_lt_of_le (heap_lt kg12_75) hg77
         have lt_g5_g19 := Nat.lt_of_lt_of_le (heap_lt kg5_75) hg77
         have lt_g17_g19 := Nat.lt_of_lt_of_le (heap_lt kg17_75) hg77
         have lt_g123_74_g19 := Nat.lt_of_lt_of_le (heap_lt kg123_74_75) hg77
         have geg19 := Nat.le_trans ((low73.trans h74).trans h75).ge hg77
         have kg11_77 := h77.blk kg11_75
         have kg12_77 := h77.blk kg12_75
         have kg5_77 := h77.blk kg5_75
         have kg17_77 := h77.blk kg17_75
         have kg123_74_77 := h77.blk kg123_74_75
         have ov_77 := ov_75.low h77
         have oz69_77 := oz69_75.low h77
         have oL74_77 := oL74_75.low h77
         have oz75_77 := o75.low h77
         refine l_row rfl rfl rfl (sz24.trans (congrArg some rfl)) (At.hit z76 rfl).ev (s125_76.n1).ev (one2 _ (RdF.one oz75_77.rd)) k77 rfl ?_
         intro w78 k78 u78
         have oz69_78 := oz69_77.upd u78 k77 rfl
         have oz75_78 := oz75_77.upd u78 k77 rfl
         have kg11_78 := u78.blk kg11_77 (by omega)
         have kg12_78 := u78.blk kg12_77 (by omega)
         have kg5_78 := u78.blk kg5_77 (by omega)
         have kg17_78 := u78.blk kg17_77 (by omega)
         have kg123_74_78 := u78.blk kg123_74_77 (by omega)
         refine l_q rfl (q_assign _ _ rfl (s126_76.n1).ev ?_)
         refine l_end (e_fresh z76.p2 ?_)
         intro a79 z79 m79
         have s1_79 := m79 _ _ (s1_76.n2)
         have s5_79 := m79 _ _ (s5_76.n2)
         have s17_79 := m79 _ _ (s17_76.n2)
         have s18_79 := m79 _ _ (s18_76.n2)
         have s19_79 := m79 _ _ ((At.hit z76 rfl).n1)
         have s20_79 := m79 _ _ (At.hit z76.put rfl)
         have low79 := ((((low73.trans h74).trans h75).trans h77).upd u78 geg19)
         clear m79
         refine e_then (c_seq (c_seq (c_region ?_)))
         refine l_q rfl (q_move _ _ rfl s18_79.ev ?_)
         refine l_q rfl (q_eql true rfl (At.hit z79 rfl).ev rfl (decide_eq_true rfl) ?_)
         refine l_q rfl (q_move _ _ rfl (s20_79.n2).ev ?_)
         refine l_q rfl (q_eql true rfl (At.hit z79.p2 rfl).ev rfl (decide_eq_true rfl) ?_)
         refine l_q rfl (q_boolne false rfl Tryd.underlying4 ((At.hit z79.put rfl).n2).ev (At.hit z79.p3 rfl).ev rfl ?_)
         refine l_q rfl (q_move _ _ rfl (At.hit z79.p4 rfl).ev ?_)
         refine l_qg (wanted_is (j := 5) (d := 132) (b := false) rfl rfl (At.hit z79.p5 rfl) rfl) (q_move _ _ rfl (s18_79.n6).ev ?_)
         refine l_qg (wanted_is (j := 5) (d := 132) (b := false) rfl rfl ((At.hit z79.p5 rfl).n1) rfl) (q_eql true rfl (At.hit z79.p6 rfl).ev rfl (decide_eq_true rfl) ?_)
         refine l_fresh z79.p8 ?_
         intro a80 z80 m80
         have s1_80 := m80 _ _ (s1_79.n8)
         have s5_80 := m80 _ _ (s5_79.n8)
         have s17_80 := m80 _ _ (s17_79.n8)
         have s19_80 := m80 _ _ (s19_79.n8)
         have s132_80 := m80 _ _ ((At.hit z79.p5 rfl).n2)
         have s134_80 := m80 _ _ (At.hit z79.p7 rfl)
         clear m80
         refine l_qg (wanted_is (j := 5) (d := 132) (b := false) rfl rfl s132_80 rfl) (q_move _ _ rfl s134_80.ev ?_)
         refine l_qg (wanted_is (j := 8) (d := 135) (b := true) rfl rfl (At.hit z80 rfl) rfl) (q_row rfl Tryd.underlying24 rfl (sz24.trans (congrArg some rfl.symm)) (s17_80.n1).ev (fun _ e => by rw [e]; exact kg17_78) ?_)
         refine l_qg (wanted_is (j := 8) (d := 135) (b := true) rfl rfl ((At.hit z80 rfl).n1) rfl) (q_row rfl Tryd.underlying24 rfl (sz24.trans (congrArg some rfl.symm)) (s19_80.n2).ev (fun _ e => by rw [e]; exact k78) ?_)
         refine l_callg (fun v w' => v = .bool true ∧ Low w78 w') (wanted_is (j := 8) (d := 135) (b := true) rfl rfl ((At.hit z80 rfl).n2) rfl) rfl rfl Tryd.func22 rfl (args2 rfl ((At.hit z80.put rfl).n1).ev (At.hit z80.p2 rfl).ev) (((calls_bool (Same.calls hd hd (x69) (x75) (setP (setP l n xa) m xb) (setP (setP l m xb) n xa) (by have := setP_len l n xa; have := setP_len l m xb; have := setP_len (setP l n xa) m xb; have := setP_len (setP l m xb) n xa; omega) (by have := setP_len l n xa; have := setP_len l m xb; have := setP_len (setP l n xa) m xb; have := setP_len (setP l m xb) n xa; omega) _ oz69_78.rd oz75_78.rd) (by unfold sameS; rw [decide_eq_true rfl, decide_eq_true (set_comm hr hf xa xb hb21)]; rfl))).mono fun _ _ ⟨e, k⟩ => ⟨_, e, rfl, k⟩) ?_
         rintro _ w81 ⟨rfl, h81⟩
         have kg5_81 := h81.blk kg5_78
         have kg17_81 := h81.blk kg17_78
         have kg19_81 := h81.blk k78
         have ov_81 := (hv.low ((((low73.trans h74).trans h75).trans h77).upd u78 geg19)).low h81
         have oz69_81 := oz69_78.low h81
         have oz75_81 := oz75_78.low h81
         refine l_qg (wanted_is (j := 8) (d := 135) (b := true) rfl rfl ((At.hit z80 rfl).n3) rfl) (q_not (b := true) rfl (At.hit z80.p3 rfl).ev ?_)
         refine l_qg (wanted_is (j := 5) (d := 132) (b := false) rfl rfl (s132_80.n5) rfl) (q_pick (b := true) (.bool false) rfl ((At.hit z80 rfl).n4).ev (At.hit z80.p4 rfl).ev ?_)
         refine l_q rfl (q_pick (b := false) (.bool false) rfl (s132_80.n6).ev (At.hit z80.p5 rfl).ev ?_)
         refine l_end (e_fresh z80.p7 ?_)
         intro a82 z82 m82
         have s1_82 := m82 _ _ (s1_80.n7)
         have s5_82 := m82 _ _ (s5_80.n7)
         have s141_82 := m82 _ _ (At.hit z80.p6 rfl)
         have low82 := (low79.trans h81)
         clear m82
         refine e_then (c_false s141_82 ?_)
         refine wp_skip (e_then (c_seq ?_))
         by_cases hb83 : errP (nsize 1) l (⟨n, getL l n, getL l n⟩ : Sw) = 0
         ·
          skip
          refine region_laid_tail 16 15 14 12 21 154 2 24 (TL [Is (.agg (#[.string hd, v])), Is (.string n), Is (.agg (#[.string hd, v])), Is (.string n), Is (.string (getL l n)), Is (.agg (#[.string hd, v])), Is (.string n), Is (.string (getL l n)), Is (.agg (#[.string n, .string (getL l n), .string (getL l n)])), RwT 32 [(⟨n, getL l n, getL l n⟩ : Sw)], ZT w81.heap.size hd l 0, ZT w81.heap.size hd l 0, StT w81.heap.size hd l, Is (.int .i64 0), AlX w81.heap.size 24 2, Tr]) hm (by kernel_rfl) (by kernel_rfl) z82 rfl rfl rfl rfl rfl al_x st_x (TL_cons ?_ (TL_cons ?_ (TL_cons ?_ (TL_cons ?_ (TL_cons ?_ (TL_cons ?_ (TL_cons ?_ (TL_cons ?_ (TL_cons ?_ (TL_cons ?_ (TL_cons ?_ (TL_cons ?_ (TL_cons ?_ (TL_cons ?_ (TL_cons ?_ (TL_cons ?_ TL_nil)))))))))))))))) (TU_cons ?_ (TU_cons ?_ (TU_cons ?_ (TU_cons ?_ (TU_cons ?_ (TU_cons ?_ (TU_cons ?_ (TU_cons ?_ (TU_cons ?_ (TU_cons ?_ (TU_cons ?_ (TU_cons ?_ (TU_cons ?_ (TU_cons ?_ (TU_cons ?_ (TU_cons ?_ TU_nil)))))))))))))))) (allM_cons ?_ (allM_cons ?_ (allM_cons ?_ (allM_cons ?_ (allM_cons ?_ (allM_cons ?_ (allM_cons ?_ (allM_cons ?_ (allM_cons ?_ (allM_cons ?_ (allM_cons ?_ (allM_cons ?_ (allM_cons ?_ (allM_cons ?_ (allM_cons ?_ (allM_skip rfl allM_nil)))))))))))))))) ?_
          ·
           exact StL_is _
          ·
           exact StL_is _
          ·
           exact StL_is _
          ·
           exact StL_is _
          ·
           exact StL_is _
          ·
           exact StL_is _
          ·
           exact StL_is _
          ·
           exact StL_is _
          ·
           exact StL_is _
          ·
           exact StL_rw _ _
          ·
           exact StL_z _ _ _ _
          ·
           exact StL_z _ _ _ _
          ·
           exact StL_st _ _ _
          ·
           exact StL_is _
          ·
           exact StL_ax _ _ _
          ·
           exact StL_tr
          ·
           exact StU_is _ _
          ·
           exact StU_is _ _
          ·
           exact StU_is _ _
          ·
           exact StU_is _ _
          ·
           exact StU_is _ _
          ·
           exact StU_is _ _
          ·
           exact StU_is _ _
          ·
           exact StU_is _ _
          ·
           exact StU_is _ _
          ·
           exact StU_rw _ (by decide)
          ·
           exact StU_z _ _ _ _ (by decide)
          ·
           exact StU_z _ _ _ _ (by decide)
          ·
           exact StU_st _ _ _ (by decide)
          ·
           exact StU_is _ _
          ·
           exact StU_ax _ _ _
          ·
           exact StU_tr _
          ·
           exact (stepS_val (.agg (#[.string hd, v])) _ rfl rfl rfl Low.refl (fun _ => rfl) fun a w z lw kp kn => q_row rfl Tryd.underlying24 rfl (sz24.trans (congrArg some rfl.symm)) (kp _ _ rfl s5_82).ev (fun _ e => by rw [e]; exact (lw.blk kg5_81)) rfl)
          ·
           exact (stepS_val (.string n) _ rfl rfl rfl Low.refl (fun _ => rfl) fun a w z lw kp kn => q_move _ _ rfl (kp _ _ rfl s1_82).ev rfl)
          ·
           exact (stepS_val (.agg (#[.string hd, v])) _ rfl rfl rfl Low.refl (fun _ => rfl) fun a w z lw kp kn => q_row rfl Tryd.underlying24 rfl (sz24.trans (congrArg some rfl.symm)) (kp _ _ rfl s5_82).ev (fun _ e => by rw [e]; exact (lw.blk kg5_81)) rfl)
          ·
           exact (stepS_val (.string n) _ rfl rfl rfl Low.refl (fun _ => rfl) fun a w z lw kp kn => q_move _ _ rfl (kp _ _ rfl s1_82).ev rfl)
          ·
           exact (stepS _ rfl rfl fun a w z lw kp kn => l_call (fun v w' => v = .string (getL l n) ∧ Low w w') rfl rfl rfl Tryd.func15 rfl (args2 rfl (at_is (u := .agg (#[.string hd, v])) (w := w) (kn 2 _ rfl rfl)).ev (at_is (u := .string n) (w := w) (kn 3 _ rfl rfl)).ev) ((Get.calls hd (v) l (by have := setP_len l n xa; have := setP_len l m xb; have := setP_len (setP l n xa) m xb; have := setP_len (setP l m xb) n xa; omega) n _ (RdF.low ov_81 lw)).mono fun _ _ ⟨e, k⟩ => ⟨_, e, rfl, k⟩) fun _ _ hv => l_end ⟨_, rfl, hv.2, hv.1⟩)
          ·
           exact (stepS_val (.agg (#[.string hd, v])) _ rfl rfl rfl Low.refl (fun _ => rfl) fun a w z lw kp kn => q_row rfl Tryd.underlying24 rfl (sz24.trans (congrArg some rfl.symm)) (kp _ _ rfl s5_82).ev (fun _ e => by rw [e]; exact (lw.blk kg5_81)) rfl)
          ·
           exact (stepS_val (.string n) _ rfl rfl rfl Low.refl (fun _ => rfl) fun a w z lw kp kn => q_move _ _ rfl (kp _ _ rfl s1_82).ev rfl)
          ·
           exact (stepS _ rfl rfl fun a w z lw kp kn => l_call (fun v w' => v = .string (getL l n) ∧ Low w w') rfl rfl rfl Tryd.func15 rfl (args2 rfl (at_is (u := .agg (#[.string hd, v])) (w := w) (kn 5 _ rfl rfl)).ev (at_is (u := .string n) (w := w) (kn 6 _ rfl rfl)).ev) ((Get.calls hd (v) l (by have := setP_len l n xa; have := setP_len l m xb; have := setP_len (setP l n xa) m xb; have := setP_len (setP l m xb) n xa; omega) n _ (RdF.low ov_81 lw)).mono fun _ _ ⟨e, k⟩ => ⟨_, e, rfl, k⟩) fun _ _ hv => l_end ⟨_, rfl, hv.2, hv.1⟩)
          ·
           exact (stepS_val (.agg (#[.string n, .string (getL l n), .string (getL l n)])) _ rfl rfl rfl Low.refl (fun _ => rfl) fun a w z lw kp kn => q_build (ps := #[(0, .string n), (1, .string (getL l n)), (2, .string (getL l n))]) rfl (parts3 (at_is (u := .string n) (w := w) (kn 1 _ rfl rfl)).ev (at_is (u := .string (getL l n)) (w := w) (kn 4 _ rfl rfl)).ev (at_is (u := .string (getL l n)) (w := w) (kn 7 _ rfl rfl)).ev) (built32_012 n (getL l n) (getL l n)) rfl)
          ·
           exact (stepS _ rfl rfl fun a w z lw kp kn => l_buildF (vs := [.string n, .string (getL l n), .string (getL l n)]) rfl rfl Tryd.underlying25 rec32 (at_is (u := .agg (#[.string n, .string (getL l n), .string (getL l n)])) (w := w) (kn 8 _ rfl rfl)).ev rfl rfl (by decide) (by decide) (fun g w' hg k h => l_end ⟨_, rfl, h, g, rfl, k⟩))
          ·
           exact (stepS _ rfl rfl fun a w z lw kp kn => Exists.elim (kn 9 _ rfl rfl) fun u hu => l_call (fun z w' => ZT w.heap.size hd l 0 z w' ∧ Low w w') rfl rfl rfl Tryd.func11 rfl (args3 rfl (at_is (u := .agg (#[.string hd, v])) (w := w) (kn 0 _ rfl rfl)).ev rfl hu.1.ev) ((ApplyR.calls hd (v) l 1 u ([(⟨n, getL l n, getL l n⟩ : Sw)]) (by simp; omega) (H := hd) (L := l) (E := 0) ⟨(ap1_ok hd hb83).1, (ap1_ok hd hb83).2.1.trans (set_same hr hf n), (ap1_ok hd hb83).2.2⟩ w (RdF.low ov_81 lw) (RwT.rd hu.2) (Gd.low hG (Low.trans low82 lw))).mono fun _ _ ⟨z, e, hz, k⟩ => ⟨z, e, hz, k⟩) fun _ _ hv => l_end ⟨_, rfl, hv.2, ZT.base hv.1 lw.ge⟩)
          ·
           exact (stepS _ rfl rfl fun a w z lw kp kn => Exists.elim (kn 10 _ rfl rfl) fun u hu => l_q rfl (q_move _ _ rfl hu.1.ev (l_end ⟨_, rfl, Low.refl _, hu.2⟩)))
          ·
           exact (stepS _ rfl rfl fun a w z lw kp kn => Exists.elim (kn 11 _ rfl rfl) fun u hu => Exists.elim hu.2 fun x hx => l_q rfl (q_extract rfl (hu.1.same hx.1).ev rfl (l_end ⟨_, rfl, Low.refl _, x, rfl, hx.2⟩)))
          ·
           exact (stepS _ rfl rfl fun a w z lw kp kn => Exists.elim (kn 11 _ rfl rfl) fun u hu => Exists.elim hu.2 fun x hx => l_q rfl (q_extract rfl (hu.1.same hx.1).ev rfl (l_end ⟨_, rfl, Low.refl _, rfl⟩)))
          ·
           exact (stepS _ rfl rfl fun a w z lw kp kn => l_alloc rfl rfl zero24 (fun g w' hg k h => l_end ⟨_, rfl, h, g, _, rfl, Nat.le_trans lw.ge hg, k, rfl⟩))
          intro a84 w84 z84 h84 kp kn kl
          have s1_84 := kp _ _ rfl s1_82
          have s5_84 := kp _ _ rfl s5_82
          have s141_84 := kp _ _ rfl s141_82
          have s155_84 := at_is (u := .int .i64 0) (w := w84) (kn 13 _ rfl)
          obtain ⟨u84, su84, v84, rfl, o84⟩ := kn 12 _ rfl
          obtain ⟨g84, x84, sp84, sx84, hg84, k84⟩ := kl
          replace k84 := At.agg_at sx84 su84 k84
          clear kp kn
          have lt_g5_g84 := Nat.lt_of_lt_of_le (heap_lt kg5_81) hg84
          have geg84 := Nat.le_trans low82.ge hg84
          have kg5_84 := h84.blk kg5_81
          have ov_84 := ov_81.low h84
          replace o84 := o84.base low82.ge
          simp only [List.drop_succ_cons, List.drop_zero]
          refine l_q rfl (q_assign _ _ rfl s155_84.ev ?_)
          refine l_end (e_fresh z84.put ?_)
          intro a85 z85 m85
          have s5_85 := m85 _ _ (s5_84.n1)
          have s21_85 := m85 _ _ (sp84.n1)
          have s22_85 := m85 _ _ (At.hit z84 rfl)
          have low85 := (low82.trans h84)
          clear m85
          refine e_then (c_seq (c_region ?_))
          refine l_q rfl (q_move _ _ rfl s22_85.ev ?_)
          refine l_q rfl (q_neq false rfl (At.hit z85 rfl).ev rfl (decide_eq_false (by omega)) ?_)
          refine l_q rfl (q_move _ _ rfl (At.hit z85.put rfl).ev ?_)
          refine l_qg (wanted_is (j := 2) (d := 158) (b := false) rfl rfl (At.hit z85.p2 rfl) rfl) (q_row rfl Tryd.underlying24 rfl (sz24.trans (congrArg some rfl.symm)) (s21_85.n3).ev (fun _ e => by rw [e]; exact k84) ?_)
          refine l_qg (wanted_is (j := 2) (d := 158) (b := false) rfl rfl ((At.hit z85.p2 rfl).n1) rfl) (q_row rfl Tryd.underlying24 rfl (sz24.trans (congrArg some rfl.symm)) (s5_85.n4).ev (fun _ e => by rw [e]; exact kg5_84) ?_)
          refine l_callg (fun v w' => v = .bool true ∧ Low w84 w') (wanted_is (j := 2) (d := 158) (b := false) rfl rfl ((At.hit z85.p2 rfl).n2) rfl) rfl rfl Tryd.func22 rfl (args2 rfl ((At.hit z85.p3 rfl).n1).ev (At.hit z85.p4 rfl).ev) (((calls_bool (Same.calls hd hd (v84) (v) l l (by have := setP_len l n xa; have := setP_len l m xb; have := setP_len (setP l n xa) m xb; have := setP_len (setP l m xb) n xa; omega) (by have := setP_len l n xa; have := setP_len l m xb; have := setP_len (setP l n xa) m xb; have := setP_len (setP l m xb) n xa; omega) _ o84.rd ov_84) (by unfold sameS; rw [decide_eq_true rfl, decide_eq_true rfl]; rfl))).mono fun _ _ ⟨e, k⟩ => ⟨_, e, rfl, k⟩) ?_
          rintro _ w86 ⟨rfl, h86⟩
          have kg5_86 := h86.blk kg5_84
          have kg84_86 := h86.blk k84
          have ov_86 := ov_84.low h86
          have ob84_86 := o84.low h86
          refine l_q rfl (q_pick (b := false) (.bool true) rfl ((At.hit z85.p2 rfl).n3).ev (At.hit z85.p5 rfl).ev ?_)
          refine l_q rfl (q_assign _ _ rfl (At.hit z85.p6 rfl).ev ?_)
          refine l_end (e_fresh z85.p8 ?_)
          intro a87 z87 m87
          have s10_87 := m87 _ _ (At.hit z85.p7 rfl)
          have low87 := (low85.trans h86)
          clear m87
          refine e_then (wp_ret (r_tmp rfl z87.defers s10_87 ?_))
          exact ⟨rfl, low87⟩
         ·
          skip
          refine region_laid_tail 16 15 14 12 21 154 2 24 (TL [Is (.agg (#[.string hd, v])), Is (.string n), Is (.agg (#[.string hd, v])), Is (.string n), Is (.string (getL l n)), Is (.agg (#[.string hd, v])), Is (.string n), Is (.string (getL l n)), Is (.agg (#[.string n, .string (getL l n), .string (getL l n)])), RwT 32 [(⟨n, getL l n, getL l n⟩ : Sw)], ZT w81.heap.size nilB ([] : List Rf) (errP (nsize 1) l (⟨n, getL l n, getL l n⟩ : Sw)), ZT w81.heap.size nilB ([] : List Rf) (errP (nsize 1) l (⟨n, getL l n, getL l n⟩ : Sw)), StT w81.heap.size nilB ([] : List Rf), Is (.int .i64 (errP (nsize 1) l (⟨n, getL l n, getL l n⟩ : Sw))), AlX w81.heap.size 24 2, Tr]) hm (by kernel_rfl) (by kernel_rfl) z82 rfl rfl rfl rfl rfl al_x st_x (TL_cons ?_ (TL_cons ?_ (TL_cons ?_ (TL_cons ?_ (TL_cons ?_ (TL_cons ?_ (TL_cons ?_ (TL_cons ?_ (TL_cons ?_ (TL_cons ?_ (TL_cons ?_ (TL_cons ?_ (TL_cons ?_ (TL_cons ?_ (TL_cons ?_ (TL_cons ?_ TL_nil)))))))))))))))) (TU_cons ?_ (TU_cons ?_ (TU_cons ?_ (TU_cons ?_ (TU_cons ?_ (TU_cons ?_ (TU_cons ?_ (TU_cons ?_ (TU_cons ?_ (TU_cons ?_ (TU_cons ?_ (TU_cons ?_ (TU_cons ?_ (TU_cons ?_ (TU_cons ?_ (TU_cons ?_ TU_nil)))))))))))))))) (allM_cons ?_ (allM_cons ?_ (allM_cons ?_ (allM_cons ?_ (allM_cons ?_ (allM_cons ?_ (allM_cons ?_ (allM_cons ?_ (allM_cons ?_ (allM_cons ?_ (allM_cons ?_ (allM_cons ?_ (allM_cons ?_ (allM_cons ?_ (allM_cons ?_ (allM_skip rfl allM_nil)))))))))))))))) ?_
          ·
           exact StL_is _
          ·
           exact StL_is _
          ·
           exact StL_is _
          ·
           exact StL_is _
          ·
           exact StL_is _
          ·
           exact StL_is _
          ·
           exact StL_is _
          ·
           exact StL_is _
          ·
           exact StL_is _
          ·
           exact StL_rw _ _
          ·
           exact StL_z _ _ _ _
          ·
           exact StL_z _ _ _ _
          ·
           exact StL_st _ _ _
          ·
           exact StL_is _
          ·
           exact StL_ax _ _ _
          ·
           exact StL_tr
          ·
           exact StU_is _ _
          ·
           exact StU_is _ _
          ·
           exact StU_is _ _
          ·
           exact StU_is _ _
          ·
           exact StU_is _ _
          ·
           exact StU_is _ _
          ·
           exact StU_is _ _
          ·
           exact StU_is _ _
          ·
           exact StU_is _ _
          ·
           exact StU_rw _ (by decide)
          ·
           exact StU_z _ _ _ _ (by decide)
          ·
           exact StU_z _ _ _ _ (by decide)
          ·
           exact StU_st _ _ _ (by decide)
          ·
           exact StU_is _ _
          ·
           exact StU_ax _ _ _
          ·
           exact StU_tr _
          ·
           exact (stepS_val (.agg (#[.string hd, v])) _ rfl rfl rfl Low.refl (fun _ => rfl) fun a w z lw kp kn => q_row rfl Tryd.underlying24 rfl (sz24.trans (congrArg some rfl.symm)) (kp _ _ rfl s5_82).ev (fun _ e => by rw [e]; exact (lw.blk kg5_81)) rfl)
          ·
           exact (stepS_val (.string n) _ rfl rfl rfl Low.refl (fun _ => rfl) fun a w z lw kp kn => q_move _ _ rfl (kp _ _ rfl s1_82).ev rfl)
          ·
           exact (stepS_val (.agg (#[.string hd, v])) _ rfl rfl rfl Low.refl (fun _ => rfl) fun a w z lw kp kn => q_row rfl Tryd.underlying24 rfl (sz24.trans (congrArg some rfl.symm)) (kp _ _ rfl s5_82).ev (fun _ e => by rw [e]; exact (lw.blk kg5_81)) rfl)
          ·
           exact (stepS_val (.string n) _ rfl rfl rfl Low.refl (fun _ => rfl) fun a w z lw kp kn => q_move _ _ rfl (kp _ _ rfl s1_82).ev rfl)
          ·
           exact (stepS _ rfl rfl fun a w z lw kp kn => l_call (fun v w' => v = .string (getL l n) ∧ Low w w') rfl rfl rfl Tryd.func15 rfl (args2 rfl (at_is (u := .agg (#[.string hd, v])) (w := w) (kn 2 _ rfl rfl)).ev (at_is (u := .string n) (w := w) (kn 3 _ rfl rfl)).ev) ((Get.calls hd (v) l (by have := setP_len l n xa; have := setP_len l m xb; have := setP_len (setP l n xa) m xb; have := setP_len (setP l m xb) n xa; omega) n _ (RdF.low ov_81 lw)).mono fun _ _ ⟨e, k⟩ => ⟨_, e, rfl, k⟩) fun _ _ hv => l_end ⟨_, rfl, hv.2, hv.1⟩)
          ·
           exact (stepS_val (.agg (#[.string hd, v])) _ rfl rfl rfl Low.refl (fun _ => rfl) fun a w z lw kp kn => q_row rfl Tryd.underlying24 rfl (sz24.trans (congrArg some rfl.symm)) (kp _ _ rfl s5_82).ev (fun _ e => by rw [e]; exact (lw.blk kg5_81)) rfl)
          ·
           exact (stepS_val (.string n) _ rfl rfl rfl Low.refl (fun _ => rfl) fun a w z lw kp kn => q_move _ _ rfl (kp _ _ rfl s1_82).ev rfl)
          ·
           exact (stepS _ rfl rfl fun a w z lw kp kn => l_call (fun v w' => v = .string (getL l n) ∧ Low w w') rfl rfl rfl Tryd.func15 rfl (args2 rfl (at_is (u := .agg (#[.string hd, v])) (w := w) (kn 5 _ rfl rfl)).ev (at_is (u := .string n) (w := w) (kn 6 _ rfl rfl)).ev) ((Get.calls hd (v) l (by have := setP_len l n xa; have := setP_len l m xb; have := setP_len (setP l n xa) m xb; have := setP_len (setP l m xb) n xa; omega) n _ (RdF.low ov_81 lw)).mono fun _ _ ⟨e, k⟩ => ⟨_, e, rfl, k⟩) fun _ _ hv => l_end ⟨_, rfl, hv.2, hv.1⟩)
          ·
           exact (stepS_val (.agg (#[.string n, .string (getL l n), .string (getL l n)])) _ rfl rfl rfl Low.refl (fun _ => rfl) fun a w z lw kp kn => q_build (ps := #[(0, .string n), (1, .string (getL l n)), (2, .string (getL l n))]) rfl (parts3 (at_is (u := .string n) (w := w) (kn 1 _ rfl rfl)).ev (at_is (u := .string (getL l n)) (w := w) (kn 4 _ rfl rfl)).ev (at_is (u := .string (getL l n)) (w := w) (kn 7 _ rfl rfl)).ev) (built32_012 n (getL l n) (getL l n)) rfl)
          ·
           exact (stepS _ rfl rfl fun a w z lw kp kn => l_buildF (vs := [.string n, .string (getL l n), .string (getL l n)]) rfl rfl Tryd.underlying25 rec32 (at_is (u := .agg (#[.string n, .string (getL l n), .string (getL l n)])) (w := w) (kn 8 _ rfl rfl)).ev rfl rfl (by decide) (by decide) (fun g w' hg k h => l_end ⟨_, rfl, h, g, rfl, k⟩))
          ·
           exact (stepS _ rfl rfl fun a w z lw kp kn => Exists.elim (kn 9 _ rfl rfl) fun u hu => l_call (fun z w' => ZT w.heap.size nilB ([] : List Rf) (errP (nsize 1) l (⟨n, getL l n, getL l n⟩ : Sw)) z w' ∧ Low w w') rfl rfl rfl Tryd.func11 rfl (args3 rfl (at_is (u := .agg (#[.string hd, v])) (w := w) (kn 0 _ rfl rfl)).ev rfl hu.1.ev) ((ApplyR.calls hd (v) l 1 u ([(⟨n, getL l n, getL l n⟩ : Sw)]) (by simp; omega) (H := nilB) (L := ([] : List Rf)) (E := (errP (nsize 1) l (⟨n, getL l n, getL l n⟩ : Sw))) (ap1_bad hd hb83) w (RdF.low ov_81 lw) (RwT.rd hu.2) (Gd.low hG (Low.trans low82 lw))).mono fun _ _ ⟨z, e, hz, k⟩ => ⟨z, e, hz, k⟩) fun _ _ hv => l_end ⟨_, rfl, hv.2, ZT.base hv.1 lw.ge⟩)
          ·
           exact (stepS _ rfl rfl fun a w z lw kp kn => Exists.elim (kn 10 _ rfl rfl) fun u hu => l_q rfl (q_move _ _ rfl hu.1.ev (l_end ⟨_, rfl, Low.refl _, hu.2⟩)))
          ·
           exact (stepS _ rfl rfl fun a w z lw kp kn => Exists.elim (kn 11 _ rfl rfl) fun u hu => Exists.elim hu.2 fun x hx => l_q rfl (q_extract rfl (hu.1.same hx.1).ev rfl (l_end ⟨_, rfl, Low.refl _, x, rfl, hx.2⟩)))
          ·
           exact (stepS _ rfl rfl fun a w z lw kp kn => Exists.elim (kn 11 _ rfl rfl) fun u hu => Exists.elim hu.2 fun x hx => l_q rfl (q_extract rfl (hu.1.same hx.1).ev rfl (l_end ⟨_, rfl, Low.refl _, rfl⟩)))
          ·
           exact (stepS _ rfl rfl fun a w z lw kp kn => l_alloc rfl rfl zero24 (fun g w' hg k h => l_end ⟨_, rfl, h, g, _, rfl, Nat.le_trans lw.ge hg, k, rfl⟩))
          intro a88 w88 z88 h88 kp kn kl
          have s1_88 := kp _ _ rfl s1_82
          have s5_88 := kp _ _ rfl s5_82
          have s141_88 := kp _ _ rfl s141_82
          have s155_88 := at_is (u := .int .i64 (errP (nsize 1) l (⟨n, getL l n, getL l n⟩ : Sw))) (w := w88) (kn 13 _ rfl)
          obtain ⟨u88, su88, v88, rfl, o88⟩ := kn 12 _ rfl
          obtain ⟨g88, x88, sp88, sx88, hg88, k88⟩ := kl
          replace k88 := At.agg_at sx88 su88 k88
          clear kp kn
          have lt_g5_g88 := Nat.lt_of_lt_of_le (heap_lt kg5_81) hg88
          have geg88 := Nat.le_trans low82.ge hg88
          have kg5_88 := h88.blk kg5_81
          have ov_88 := ov_81.low h88
          replace o88 := o88.base low82.ge
          simp only [List.drop_succ_cons, List.drop_zero]
          refine l_q rfl (q_assign _ _ rfl s155_88.ev ?_)
          refine l_end (e_fresh z88.put ?_)
          intro a89 z89 m89
          have s5_89 := m89 _ _ (s5_88.n1)
          have s21_89 := m89 _ _ (sp88.n1)
          have s22_89 := m89 _ _ (At.hit z88 rfl)
          have low89 := (low82.trans h88)
          clear m89
          refine e_then (c_seq (c_region ?_))
          refine l_q rfl (q_move _ _ rfl s22_89.ev ?_)
          refine l_q rfl (q_neq true rfl (At.hit z89 rfl).ev rfl (decide_eq_true hb83) ?_)
          refine l_q rfl (q_move _ _ rfl (At.hit z89.put rfl).ev ?_)
          refine l_skip (wanted_is (j := 2) (d := 158) (b := true) rfl rfl (At.hit z89.p2 rfl) rfl) ?_
          refine l_skip (wanted_is (j := 2) (d := 158) (b := true) rfl rfl ((At.hit z89.p2 rfl).n1) rfl) ?_
          refine l_skip (wanted_is (j := 2) (d := 158) (b := true) rfl rfl ((At.hit z89.p2 rfl).n2) rfl) ?_
          refine l_q rfl (q_pick (b := true) (.bool true) rfl ((At.hit z89.p2 rfl).n3).ev rfl ?_)
          refine l_q rfl (q_assign _ _ rfl (At.hit z89.p6 rfl).ev ?_)
          refine l_end (e_fresh z89.p8 ?_)
          intro a90 z90 m90
          have s10_90 := m90 _ _ (At.hit z89.p7 rfl)
          clear m90
          refine e_then (wp_ret (r_tmp rfl z90.defers s10_90 ?_))
          exact ⟨rfl, low89⟩
        ·
         skip
         refine c_region ?_
         refine l_q rfl (q_row rfl Tryd.underlying24 rfl (sz24.trans (congrArg some rfl.symm)) s5_66.ev (fun _ e => by rw [e]; exact kg5_65) ?_)
         refine l_q rfl (q_row rfl Tryd.underlying32 rfl (sz32.trans (congrArg some rfl.symm)) (s11_66.n1).ev (fun _ e => by rw [e]; exact kg11_65) ?_)
         refine l_q rfl (q_row rfl Tryd.underlying32 rfl (sz32.trans (congrArg some rfl.symm)) (s12_66.n2).ev (fun _ e => by rw [e]; exact kg12_65) ?_)
         refine l_two3 rfl rfl Tryd.underlying25 rec32 ((At.hit z66.put rfl).n1).ev (At.hit z66.p2 rfl).ev ?_
         intro g115_91 w91 hg91 k91 h91
         have lt_g11_g115_91 := Nat.lt_of_lt_of_le (heap_lt kg11_65) hg91
         have lt_g12_g115_91 := Nat.lt_of_lt_of_le (heap_lt kg12_65) hg91
         have lt_g13_g115_91 := Nat.lt_of_lt_of_le (heap_lt kg13_65) hg91
         have lt_g5_g115_91 := Nat.lt_of_lt_of_le (heap_lt kg5_65) hg91
         have geg115_91 := Nat.le_trans low65.ge hg91
         have kg11_91 := h91.blk kg11_65
         have kg12_91 := h91.blk kg12_65
         have kg13_91 := h91.blk kg13_65
         have kg5_91 := h91.blk kg5_65
         have oz43_91 := oz43_65.low h91
         have ov_91 := (hv.low low65).low h91
         have ol91 : RdF w91 3 (.slice (some ⟨g115_91, 0, none⟩) 2 2) ([(⟨n, getL l n, xa⟩ : Sw), (⟨m, getL l m, xb⟩ : Sw)]).length ([(⟨n, getL l n, xa⟩ : Sw), (⟨m, getL l m, xb⟩ : Sw)].map encW).flatten := rdF_rec k91 rfl
         refine l_call _ rfl rfl rfl Tryd.func11 rfl (args3 rfl ((At.hit z66 rfl).n3).ev rfl (At.hit z66.p3 rfl).ev) (ApplyR.calls hd (v) l 1 (.slice (some ⟨g115_91, 0, none⟩) 2 2) ([(⟨n, getL l n, xa⟩ : Sw), (⟨m, getL l m, xb⟩ : Sw)]) (by simp; omega) (H := nilB) (L := ([] : List Rf)) (E := (apE (nsize 1) l [⟨n, getL l n, xa⟩, ⟨m, getL l m, xb⟩])) (ap2_bad hd hr (fun e => hb21 e.symm) (fun c => hb67 c.2)).1 _ ov_91 ol91 (Gd.low hG (low65.trans h91))) ?_
         rintro _ w92 ⟨⟨x92, rfl, o92⟩, h92⟩
         replace o92 := o92.base (low65.trans h91).ge
         have kg11_92 := h92.blk kg11_91
         have kg12_92 := h92.blk kg12_91
         have kg13_92 := h92.blk kg13_91
         have kg5_92 := h92.blk kg5_91
         have kg115_91_92 := h92.blk k91
         have oz43_92 := oz43_91.low h92
         have ov_92 := ov_91.low h92
         have oL91_92 := ol91.low h92
         refine l_q rfl (q_move _ _ rfl (At.hit z66.p4 rfl).ev ?_)
         refine l_q rfl (q_extract rfl (At.hit z66.p5 rfl).ev rfl ?_)
         refine l_q rfl (q_extract rfl ((At.hit z66.p5 rfl).n1).ev rfl ?_)
         refine l_fresh z66.p8 ?_
         intro a93 z93 m93
         have s1_93 := m93 _ _ (s1_66.n8)
         have s5_93 := m93 _ _ (s5_66.n8)
         have s11_93 := m93 _ _ (s11_66.n8)
         have s12_93 := m93 _ _ (s12_66.n8)
         have s117_93 := m93 _ _ ((At.hit z66.p6 rfl).n1)
         have s118_93 := m93 _ _ (At.hit z66.p7 rfl)
         clear m93
         refine l_alloc rfl rfl zero24 ?_
         intro g17 w94 hg94 k94 h94
         have lt_g11_g17 := Nat.lt_of_lt_of_le (heap_lt kg11_92) hg94
         have lt_g12_g17 := Nat.lt_of_lt_of_le (heap_lt kg12_92) hg94
         have lt_g13_g17 := Nat.lt_of_lt_of_le (heap_lt kg13_92) hg94
         have lt_g5_g17 := Nat.lt_of_lt_of_le (heap_lt kg5_92) hg94
         have lt_g115_91_g17 := Nat.lt_of_lt_of_le (heap_lt kg115_91_92) hg94
         have geg17 := Nat.le_trans ((low65.trans h91).trans h92).ge hg94
         have kg11_94 := h94.blk kg11_92
         have kg12_94 := h94.blk kg12_92
         have kg13_94 := h94.blk kg13_92
         have kg5_94 := h94.blk kg5_92
         have kg115_91_94 := h94.blk kg115_91_92
         have oz43_94 := oz43_92.low h94
         have ov_94 := ov_92.low h94
         have oL91_94 := oL91_92.low h94
         have oz92_94 := o92.low h94
         refine l_row rfl rfl rfl (sz24.trans (congrArg some rfl)) (At.hit z93 rfl).ev (s117_93.n1).ev (one2 _ (RdF.one oz92_94.rd)) k94 rfl ?_
         intro w95 k95 u95
         have oz43_95 := oz43_94.upd u95 k94 rfl
         have oz92_95 := oz92_94.upd u95 k94 rfl
         have kg11_95 := u95.blk kg11_94 (by omega)
         have kg12_95 := u95.blk kg12_94 (by omega)
         have kg13_95 := u95.blk kg13_94 (by omega)
         have kg5_95 := u95.blk kg5_94 (by omega)
         have kg115_91_95 := u95.blk kg115_91_94 (by omega)
         refine l_q rfl (q_assign _ _ rfl (s118_93.n1).ev ?_)
         refine l_end (e_fresh z93.p2 ?_)
         intro a96 z96 m96
         have s1_96 := m96 _ _ (s1_93.n2)
         have s5_96 := m96 _ _ (s5_93.n2)
         have s11_96 := m96 _ _ (s11_93.n2)
         have s12_96 := m96 _ _ (s12_93.n2)
         have s17_96 := m96 _ _ ((At.hit z93 rfl).n1)
         have s18_96 := m96 _ _ (At.hit z93.put rfl)
         have low96 := ((((low65.trans h91).trans h92).trans h94).upd u95 geg17)
         clear m96
         refine e_then (c_seq (c_region ?_))
         refine l_q rfl (q_row rfl Tryd.underlying24 rfl (sz24.trans (congrArg some rfl.symm)) s5_96.ev (fun _ e => by rw [e]; exact kg5_95) ?_)
         refine l_q rfl (q_row rfl Tryd.underlying32 rfl (sz32.trans (congrArg some rfl.symm)) (s12_96.n1).ev (fun _ e => by rw [e]; exact kg12_95) ?_)
         refine l_q rfl (q_row rfl Tryd.underlying32 rfl (sz32.trans (congrArg some rfl.symm)) (s11_96.n2).ev (fun _ e => by rw [e]; exact kg11_95) ?_)
         refine l_two3 rfl rfl Tryd.underlying25 rec32 ((At.hit z96.put rfl).n1).ev (At.hit z96.p2 rfl).ev ?_
         intro g123_97 w97 hg97 k97 h97
         have lt_g11_g123_97 := Nat.lt_of_lt_of_le (heap_lt kg11_95) hg97
         have lt_g12_g123_97 := Nat.lt_of_lt_of_le (heap_lt kg12_95) hg97
         have lt_g5_g123_97 := Nat.lt_of_lt_of_le (heap_lt kg5_95) hg97
         have lt_g17_g123_97 := Nat.lt_of_lt_of_le (heap_lt k95) hg97
         have geg123_97 := Nat.le_trans low96.ge hg97
         have kg11_97 := h97.blk kg11_95
         have kg12_97 := h97.blk kg12_95
         have kg5_97 := h97.blk kg5_95
         have kg17_97 := h97.blk k95
         have ov_97 := (hv.low ((((low65.trans h91).trans h92).trans h94).upd u95 geg17)).low h97
         have oz92_97 := oz92_95.low h97
         have ol97 : RdF w97 3 (.slice (some ⟨g123_97, 0, none⟩) 2 2) ([(⟨m, getL l m, xb⟩ : Sw), (⟨n, getL l n, xa⟩ : Sw)]).length ([(⟨m, getL l m, xb⟩ : Sw), (⟨n, getL l n, xa⟩ : Sw)].map encW).flatten := rdF_rec k97 rfl
         refine l_call _ rfl rfl rfl Tryd.func11 rfl (args3 rfl ((At.hit z96 rfl).n3).ev rfl (At.hit z96.p3 rfl).ev) (ApplyR.calls hd (v) l 1 (.slice (some ⟨g123_97, 0, none⟩) 2 2) ([(⟨m, getL l m, xb⟩ : Sw), (⟨n, getL l n, xa⟩ : Sw)]) (by simp; omega) (H := nilB) (L := ([] : List Rf)) (E := (apE (nsize 1) l [⟨m, getL l m, xb⟩, ⟨n, getL l n, xa⟩])) (ap2_bad hd hr hb21 (fun c => hb67 c.1)).1 _ ov_97 ol97 (Gd.low hG (low96.trans h97))) ?_
         rintro _ w98 ⟨⟨x98, rfl, o98⟩, h98⟩
         replace o98 := o98.base (low96.trans h97).ge
         have kg11_98 := h98.blk kg11_97
         have kg12_98 := h98.blk kg12_97
         have kg5_98 := h98.blk kg5_97
         have kg17_98 := h98.blk kg17_97
         have kg123_97_98 := h98.blk k97
         have ov_98 := ov_97.low h98
         have oz92_98 := oz92_97.low h98
         have oL97_98 := ol97.low h98
         refine l_q rfl (q_move _ _ rfl (At.hit z96.p4 rfl).ev ?_)
         refine l_q rfl (q_extract rfl (At.hit z96.p5 rfl).ev rfl ?_)
         refine l_q rfl (q_extract rfl ((At.hit z96.p5 rfl).n1).ev rfl ?_)
         refine l_fresh z96.p8 ?_
         intro a99 z99 m99
         have s1_99 := m99 _ _ (s1_96.n8)
         have s5_99 := m99 _ _ (s5_96.n8)
         have s17_99 := m99 _ _ (s17_96.n8)
         have s18_99 := m99 _ _ (s18_96.n8)
         have s125_99 := m99 _ _ ((At.hit z96.p6 rfl).n1)
         have s126_99 := m99 _ _ (At.hit z96.p7 rfl)
         clear m99
         refine l_alloc rfl rfl zero24 ?_
         intro g19 w100 hg100 k100 h100
         have lt_g11_g19 := Nat.lt_of_lt_of_le (heap_lt kg11_98) hg100
         have lt_g12_g19 := Nat.lt_of_lt_of_le (heap_lt kg12_98) hg100
         have lt_g5_g19 := Nat.lt_of_lt_of_le (heap_lt kg5_98) hg100
         have lt_g17_g19 := Nat.lt_of_lt_of_le (heap_lt kg17_98) hg100
         have lt_g123_97_g19 := Nat.lt_of_lt_of_le (heap_lt kg123_97_98) hg100
         have geg19 := Nat.le_trans ((low96.trans h97).trans h98).ge hg100
         have kg11_100 := h100.blk kg11_98
         have kg12_100 := h100.blk kg12_98
         have kg5_100 := h100.blk kg5_98
         have kg17_100 := h100.blk kg17_98
         have kg123_97_100 := h100.blk kg123_97_98
         have ov_100 := ov_98.low h100
         have oz92_100 := oz92_98.low h100
         have oL97_100 := oL97_98.low h100
         have oz98_100 := o98.low h100
         refine l_row rfl rfl rfl (sz24.trans (congrArg some rfl)) (At.hit z99 rfl).ev (s125_99.n1).ev (one2 _ (RdF.one oz98_100.rd)) k100 rfl ?_
         intro w101 k101 u101
         have oz92_101 := oz92_100.upd u101 k100 rfl
         have oz98_101 := oz98_100.upd u101 k100 rfl
         have kg11_101 := u101.blk kg11_100 (by omega)
         have kg12_101 := u101.blk kg12_100 (by omega)
         have kg5_101 := u101.blk kg5_100 (by omega)
         have kg17_101 := u101.blk kg17_100 (by omega)
         have kg123_97_101 := u101.blk kg123_97_100 (by omega)
         refine l_q rfl (q_assign _ _ rfl (s126_99.n1).ev ?_)
         refine l_end (e_fresh z99.p2 ?_)
         intro a102 z102 m102
         have s1_102 := m102 _ _ (s1_99.n2)
         have s5_102 := m102 _ _ (s5_99.n2)
         have s17_102 := m102 _ _ (s17_99.n2)
         have s18_102 := m102 _ _ (s18_99.n2)
         have s19_102 := m102 _ _ ((At.hit z99 rfl).n1)
         have s20_102 := m102 _ _ (At.hit z99.put rfl)
         have low102 := ((((low96.trans h97).trans h98).trans h100).upd u101 geg19)
         clear m102
         refine e_then (c_seq (c_seq (c_region ?_)))
         refine l_q rfl (q_move _ _ rfl s18_102.ev ?_)
         refine l_q rfl (q_eql false rfl (At.hit z102 rfl).ev rfl (decide_eq_false (ap2_bad hd hr (fun e => hb21 e.symm) (fun c => hb67 c.2)).2) ?_)
         refine l_q rfl (q_move _ _ rfl (s20_102.n2).ev ?_)
         refine l_q rfl (q_eql false rfl (At.hit z102.p2 rfl).ev rfl (decide_eq_false (ap2_bad hd hr hb21 (fun c => hb67 c.1)).2) ?_)
         refine l_q rfl (q_boolne false rfl Tryd.underlying4 ((At.hit z102.put rfl).n2).ev (At.hit z102.p3 rfl).ev rfl ?_)
         refine l_q rfl (q_move _ _ rfl (At.hit z102.p4 rfl).ev ?_)
         refine l_qg (wanted_is (j := 5) (d := 132) (b := false) rfl rfl (At.hit z102.p5 rfl) rfl) (q_move _ _ rfl (s18_102.n6).ev ?_)
         refine l_qg (wanted_is (j := 5) (d := 132) (b := false) rfl rfl ((At.hit z102.p5 rfl).n1) rfl) (q_eql false rfl (At.hit z102.p6 rfl).ev rfl (decide_eq_false (ap2_bad hd hr (fun e => hb21 e.symm) (fun c => hb67 c.2)).2) ?_)
         refine l_fresh z102.p8 ?_
         intro a103 z103 m103
         have s1_103 := m103 _ _ (s1_102.n8)
         have s5_103 := m103 _ _ (s5_102.n8)
         have s17_103 := m103 _ _ (s17_102.n8)
         have s19_103 := m103 _ _ (s19_102.n8)
         have s132_103 := m103 _ _ ((At.hit z102.p5 rfl).n2)
         have s134_103 := m103 _ _ (At.hit z102.p7 rfl)
         clear m103
         refine l_qg (wanted_is (j := 5) (d := 132) (b := false) rfl rfl s132_103 rfl) (q_move _ _ rfl s134_103.ev ?_)
         refine l_skip (wanted_is (j := 8) (d := 135) (b := false) rfl rfl (At.hit z103 rfl) rfl) ?_
         refine l_skip (wanted_is (j := 8) (d := 135) (b := false) rfl rfl ((At.hit z103 rfl).n1) rfl) ?_
         refine l_skip (wanted_is (j := 8) (d := 135) (b := false) rfl rfl ((At.hit z103 rfl).n2) rfl) ?_
         refine l_skip (wanted_is (j := 8) (d := 135) (b := false) rfl rfl ((At.hit z103 rfl).n3) rfl) ?_
         refine l_qg (wanted_is (j := 5) (d := 132) (b := false) rfl rfl (s132_103.n5) rfl) (q_pick (b := false) (.bool false) rfl ((At.hit z103 rfl).n4).ev rfl ?_)
         refine l_q rfl (q_pick (b := false) (.bool false) rfl (s132_103.n6).ev (At.hit z103.p5 rfl).ev ?_)
         refine l_end (e_fresh z103.p7 ?_)
         intro a104 z104 m104
         have s1_104 := m104 _ _ (s1_103.n7)
         have s5_104 := m104 _ _ (s5_103.n7)
         have s141_104 := m104 _ _ (At.hit z103.p6 rfl)
         clear m104
         refine e_then (c_false s141_104 ?_)
         refine wp_skip (e_then (c_seq ?_))
         by_cases hb105 : errP (nsize 1) l (⟨n, getL l n, getL l n⟩ : Sw) = 0
         ·
          skip
          refine region_laid_tail 16 15 14 12 21 154 2 24 (TL [Is (.agg (#[.string hd, v])), Is (.string n), Is (.agg (#[.string hd, v])), Is (.string n), Is (.string (getL l n)), Is (.agg (#[.string hd, v])), Is (.string n), Is (.string (getL l n)), Is (.agg (#[.string n, .string (getL l n), .string (getL l n)])), RwT 32 [(⟨n, getL l n, getL l n⟩ : Sw)], ZT w101.heap.size hd l 0, ZT w101.heap.size hd l 0, StT w101.heap.size hd l, Is (.int .i64 0), AlX w101.heap.size 24 2, Tr]) hm (by kernel_rfl) (by kernel_rfl) z104 rfl rfl rfl rfl rfl al_x st_x (TL_cons ?_ (TL_cons ?_ (TL_cons ?_ (TL_cons ?_ (TL_cons ?_ (TL_cons ?_ (TL_cons ?_ (TL_cons ?_ (TL_cons ?_ (TL_cons ?_ (TL_cons ?_ (TL_cons ?_ (TL_cons ?_ (TL_cons ?_ (TL_cons ?_ (TL_cons ?_ TL_nil)))))))))))))))) (TU_cons ?_ (TU_cons ?_ (TU_cons ?_ (TU_cons ?_ (TU_cons ?_ (TU_cons ?_ (TU_cons ?_ (TU_cons ?_ (TU_cons ?_ (TU_cons ?_ (TU_cons ?_ (TU_cons ?_ (TU_cons ?_ (TU_cons ?_ (TU_cons ?_ (TU_cons ?_ TU_nil)))))))))))))))) (allM_cons ?_ (allM_cons ?_ (allM_cons ?_ (allM_cons ?_ (allM_cons ?_ (allM_cons ?_ (allM_cons ?_ (allM_cons ?_ (allM_cons ?_ (allM_cons ?_ (allM_cons ?_ (allM_cons ?_ (allM_cons ?_ (allM_cons ?_ (allM_cons ?_ (allM_skip rfl allM_nil)))))))))))))))) ?_
          ·
           exact StL_is _
          ·
           exact StL_is _
          ·
           exact StL_is _
          ·
           exact StL_is _
          ·
           exact StL_is _
          ·
           exact StL_is _
          ·
           exact StL_is _
          ·
           exact StL_is _
          ·
           exact StL_is _
          ·
           exact StL_rw _ _
          ·
           exact StL_z _ _ _ _
          ·
           exact StL_z _ _ _ _
          ·
           exact StL_st _ _ _
          ·
           exact StL_is _
          ·
           exact StL_ax _ _ _
          ·
           exact StL_tr
          ·
           exact StU_is _ _
          ·
           exact StU_is _ _
          ·
           exact StU_is _ _
          ·
           exact StU_is _ _
          ·
           exact StU_is _ _
          ·
           exact StU_is _ _
          ·
           exact StU_is _ _
          ·
           exact StU_is _ _
          ·
           exact StU_is _ _
          ·
           exact StU_rw _ (by decide)
          ·
           exact StU_z _ _ _ _ (by decide)
          ·
           exact StU_z _ _ _ _ (by decide)
          ·
           exact StU_st _ _ _ (by decide)
          ·
           exact StU_is _ _
          ·
           exact StU_ax _ _ _
          ·
           exact StU_tr _
          ·
           exact (stepS_val (.agg (#[.string hd, v])) _ rfl rfl rfl Low.refl (fun _ => rfl) fun a w z lw kp kn => q_row rfl Tryd.underlying24 rfl (sz24.trans (congrArg some rfl.symm)) (kp _ _ rfl s5_104).ev (fun _ e => by rw [e]; exact (lw.blk kg5_101)) rfl)
          ·
           exact (stepS_val (.string n) _ rfl rfl rfl Low.refl (fun _ => rfl) fun a w z lw kp kn => q_move _ _ rfl (kp _ _ rfl s1_104).ev rfl)
          ·
           exact (stepS_val (.agg (#[.string hd, v])) _ rfl rfl rfl Low.refl (fun _ => rfl) fun a w z lw kp kn => q_row rfl Tryd.underlying24 rfl (sz24.trans (congrArg some rfl.symm)) (kp _ _ rfl s5_104).ev (fun _ e => by rw [e]; exact (lw.blk kg5_101)) rfl)
          ·
           exact (stepS_val (.string n) _ rfl rfl rfl Low.refl (fun _ => rfl) fun a w z lw kp kn => q_move _ _ rfl (kp _ _ rfl s1_104).ev rfl)
          ·
           exact (stepS _ rfl rfl fun a w z lw kp kn => l_call (fun v w' => v = .string (getL l n) ∧ Low w w') rfl rfl rfl Tryd.func15 rfl (args2 rfl (at_is (u := .agg (#[.string hd, v])) (w := w) (kn 2 _ rfl rfl)).ev (at_is (u := .string n) (w := w) (kn 3 _ rfl rfl)).ev) ((Get.calls hd (v) l (by have := setP_len l n xa; have := setP_len l m xb; have := setP_len (setP l n xa) m xb; have := setP_len (setP l m xb) n xa; omega) n _ (RdF.low (hv.low ((((low96.trans h97).trans h98).trans h100).upd u101 geg19)) lw)).mono fun _ _ ⟨e, k⟩ => ⟨_, e, rfl, k⟩) fun _ _ hv => l_end ⟨_, rfl, hv.2, hv.1⟩)
          ·
           exact (stepS_val (.agg (#[.string hd, v])) _ rfl rfl rfl Low.refl (fun _ => rfl) fun a w z lw kp kn => q_row rfl Tryd.underlying24 rfl (sz24.trans (congrArg some rfl.symm)) (kp _ _ rfl s5_104).ev (fun _ e => by rw [e]; exact (lw.blk kg5_101)) rfl)
          ·
           exact (stepS_val (.string n) _ rfl rfl rfl Low.refl (fun _ => rfl) fun a w z lw kp kn => q_move _ _ rfl (kp _ _ rfl s1_104).ev rfl)
          ·
           exact (stepS _ rfl rfl fun a w z lw kp kn => l_call (fun v w' => v = .string (getL l n) ∧ Low w w') rfl rfl rfl Tryd.func15 rfl (args2 rfl (at_is (u := .agg (#[.string hd, v])) (w := w) (kn 5 _ rfl rfl)).ev (at_is (u := .string n) (w := w) (kn 6 _ rfl rfl)).ev) ((Get.calls hd (v) l (by have := setP_len l n xa; have := setP_len l m xb; have := setP_len (setP l n xa) m xb; have := setP_len (setP l m xb) n xa; omega) n _ (RdF.low (hv.low ((((low96.trans h97).trans h98).trans h100).upd u101 geg19)) lw)).mono fun _ _ ⟨e, k⟩ => ⟨_, e, rfl, k⟩) fun _ _ hv => l_end ⟨_, rfl, hv.2, hv.1⟩)
          ·
           exact (stepS_val (.agg (#[.string n, .string (getL l n), .string (getL l n)])) _ rfl rfl rfl Low.refl (fun _ => rfl) fun a w z lw kp kn => q_build (ps := #[(0, .string n), (1, .string (getL l n)), (2, .string (getL l n))]) rfl (parts3 (at_is (u := .string n) (w := w) (kn 1 _ rfl rfl)).ev (at_is (u := .string (getL l n)) (w := w) (kn 4 _ rfl rfl)).ev (at_is (u := .string (getL l n)) (w := w) (kn 7 _ rfl rfl)).ev) (built32_012 n (getL l n) (getL l n)) rfl)
          ·
           exact (stepS _ rfl rfl fun a w z lw kp kn => l_buildF (vs := [.string n, .string (getL l n), .string (getL l n)]) rfl rfl Tryd.underlying25 rec32 (at_is (u := .agg (#[.string n, .string (getL l n), .string (getL l n)])) (w := w) (kn 8 _ rfl rfl)).ev rfl rfl (by decide) (by decide) (fun g w' hg k h => l_end ⟨_, rfl, h, g, rfl, k⟩))
          ·
           exact (stepS _ rfl rfl fun a w z lw kp kn => Exists.elim (kn 9 _ rfl rfl) fun u hu => l_call (fun z w' => ZT w.heap.size hd l 0 z w' ∧ Low w w') rfl rfl rfl Tryd.func11 rfl (args3 rfl (at_is (u := .agg (#[.string hd, v])) (w := w) (kn 0 _ rfl rfl)).ev rfl hu.1.ev) ((ApplyR.calls hd (v) l 1 u ([(⟨n, getL l n, getL l n⟩ : Sw)]) (by simp; omega) (H := hd) (L := l) (E := 0) ⟨(ap1_ok hd hb105).1, (ap1_ok hd hb105).2.1.trans (set_same hr hf n), (ap1_ok hd hb105).2.2⟩ w (RdF.low (hv.low ((((low96.trans h97).trans h98).trans h100).upd u101 geg19)) lw) (RwT.rd hu.2) (Gd.low hG (Low.trans low102 lw))).mono fun _ _ ⟨z, e, hz, k⟩ => ⟨z, e, hz, k⟩) fun _ _ hv => l_end ⟨_, rfl, hv.2, ZT.base hv.1 lw.ge⟩)
          ·
           exact (stepS _ rfl rfl fun a w z lw kp kn => Exists.elim (kn 10 _ rfl rfl) fun u hu => l_q rfl (q_move _ _ rfl hu.1.ev (l_end ⟨_, rfl, Low.refl _, hu.2⟩)))
          ·
           exact (stepS _ rfl rfl fun a w z lw kp kn => Exists.elim (kn 11 _ rfl rfl) fun u hu => Exists.elim hu.2 fun x hx => l_q rfl (q_extract rfl (hu.1.same hx.1).ev rfl (l_end ⟨_, rfl, Low.refl _, x, rfl, hx.2⟩)))
          ·
           exact (stepS _ rfl rfl fun a w z lw kp kn => Exists.elim (kn 11 _ rfl rfl) fun u hu => Exists.elim hu.2 fun x hx => l_q rfl (q_extract rfl (hu.1.same hx.1).ev rfl (l_end ⟨_, rfl, Low.refl _, rfl⟩)))
          ·
           exact (stepS _ rfl rfl fun a w z lw kp kn => l_alloc rfl rfl zero24 (fun g w' hg k h => l_end ⟨_, rfl, h, g, _, rfl, Nat.le_trans lw.ge hg, k, rfl⟩))
          intro a106 w106 z106 h106 kp kn kl
          have s1_106 := kp _ _ rfl s1_104
          have s5_106 := kp _ _ rfl s5_104
          have s141_106 := kp _ _ rfl s141_104
          have s155_106 := at_is (u := .int .i64 0) (w := w106) (kn 13 _ rfl)
          obtain ⟨u106, su106, v106, rfl, o106⟩ := kn 12 _ rfl
          obtain ⟨g106, x106, sp106, sx106, hg106, k106⟩ := kl
          replace k106 := At.agg_at sx106 su106 k106
          clear kp kn
          have lt_g5_g106 := Nat.lt_of_lt_of_le (heap_lt kg5_101) hg106
          have geg106 := Nat.le_trans low102.ge hg106
          have kg5_106 := h106.blk kg5_101
          have ov_106 := (hv.low ((((low96.trans h97).trans h98).trans h100).upd u101 geg19)).low h106
          replace o106 := o106.base low102.ge
          simp only [List.drop_succ_cons, List.drop_zero]
          refine l_q rfl (q_assign _ _ rfl s155_106.ev ?_)
          refine l_end (e_fresh z106.put ?_)
          intro a107 z107 m107
          have s5_107 := m107 _ _ (s5_106.n1)
          have s21_107 := m107 _ _ (sp106.n1)
          have s22_107 := m107 _ _ (At.hit z106 rfl)
          have low107 := (low102.trans h106)
          clear m107
          refine e_then (c_seq (c_region ?_))
          refine l_q rfl (q_move _ _ rfl s22_107.ev ?_)
          refine l_q rfl (q_neq false rfl (At.hit z107 rfl).ev rfl (decide_eq_false (by omega)) ?_)
          refine l_q rfl (q_move _ _ rfl (At.hit z107.put rfl).ev ?_)
          refine l_qg (wanted_is (j := 2) (d := 158) (b := false) rfl rfl (At.hit z107.p2 rfl) rfl) (q_row rfl Tryd.underlying24 rfl (sz24.trans (congrArg some rfl.symm)) (s21_107.n3).ev (fun _ e => by rw [e]; exact k106) ?_)
          refine l_qg (wanted_is (j := 2) (d := 158) (b := false) rfl rfl ((At.hit z107.p2 rfl).n1) rfl) (q_row rfl Tryd.underlying24 rfl (sz24.trans (congrArg some rfl.symm)) (s5_107.n4).ev (fun _ e => by rw [e]; exact kg5_106) ?_)
          refine l_callg (fun v w' => v = .bool true ∧ Low w106 w') (wanted_is (j := 2) (d := 158) (b := false) rfl rfl ((At.hit z107.p2 rfl).n2) rfl) rfl rfl Tryd.func22 rfl (args2 rfl ((At.hit z107.p3 rfl).n1).ev (At.hit z107.p4 rfl).ev) (((calls_bool (Same.calls hd hd (v106) (v) l l (by have := setP_len l n xa; have := setP_len l m xb; have := setP_len (setP l n xa) m xb; have := setP_len (setP l m xb) n xa; omega) (by have := setP_len l n xa; have := setP_len l m xb; have := setP_len (setP l n xa) m xb; have := setP_len (setP l m xb) n xa; omega) _ o106.rd ov_106) (by unfold sameS; rw [decide_eq_true rfl, decide_eq_true rfl]; rfl))).mono fun _ _ ⟨e, k⟩ => ⟨_, e, rfl, k⟩) ?_
          rintro _ w108 ⟨rfl, h108⟩
          have kg5_108 := h108.blk kg5_106
          have kg106_108 := h108.blk k106
          have ov_108 := ov_106.low h108
          have ob106_108 := o106.low h108
          refine l_q rfl (q_pick (b := false) (.bool true) rfl ((At.hit z107.p2 rfl).n3).ev (At.hit z107.p5 rfl).ev ?_)
          refine l_q rfl (q_assign _ _ rfl (At.hit z107.p6 rfl).ev ?_)
          refine l_end (e_fresh z107.p8 ?_)
          intro a109 z109 m109
          have s10_109 := m109 _ _ (At.hit z107.p7 rfl)
          have low109 := (low107.trans h108)
          clear m109
          refine e_then (wp_ret (r_tmp rfl z109.defers s10_109 ?_))
          exact ⟨rfl, low109⟩
         ·
          skip
          refine region_laid_tail 16 15 14 12 21 154 2 24 (TL [Is (.agg (#[.string hd, v])), Is (.string n), Is (.agg (#[.string hd, v])), Is (.string n), Is (.string (getL l n)), Is (.agg (#[.string hd, v])), Is (.string n), Is (.string (getL l n)), Is (.agg (#[.string n, .string (getL l n), .string (getL l n)])), RwT 32 [(⟨n, getL l n, getL l n⟩ : Sw)], ZT w101.heap.size nilB ([] : List Rf) (errP (nsize 1) l (⟨n, getL l n, getL l n⟩ : Sw)), ZT w101.heap.size nilB ([] : List Rf) (errP (nsize 1) l (⟨n, getL l n, getL l n⟩ : Sw)), StT w101.heap.size nilB ([] : List Rf), Is (.int .i64 (errP (nsize 1) l (⟨n, getL l n, getL l n⟩ : Sw))), AlX w101.heap.size 24 2, Tr]) hm (by kernel_rfl) (by kernel_rfl) z104 rfl rfl rfl rfl rfl al_x st_x (TL_cons ?_ (TL_cons ?_ (TL_cons ?_ (TL_cons ?_ (TL_cons ?_ (TL_cons ?_ (TL_cons ?_ (TL_cons ?_ (TL_cons ?_ (TL_cons ?_ (TL_cons ?_ (TL_cons ?_ (TL_cons ?_ (TL_cons ?_ (TL_cons ?_ (TL_cons ?_ TL_nil)))))))))))))))) (TU_cons ?_ (TU_cons ?_ (TU_cons ?_ (TU_cons ?_ (TU_cons ?_ (TU_cons ?_ (TU_cons ?_ (TU_cons ?_ (TU_cons ?_ (TU_cons ?_ (TU_cons ?_ (TU_cons ?_ (TU_cons ?_ (TU_cons ?_ (TU_cons ?_ (TU_cons ?_ TU_nil)))))))))))))))) (allM_cons ?_ (allM_cons ?_ (allM_cons ?_ (allM_cons ?_ (allM_cons ?_ (allM_cons ?_ (allM_cons ?_ (allM_cons ?_ (allM_cons ?_ (allM_cons ?_ (allM_cons ?_ (allM_cons ?_ (allM_cons ?_ (allM_cons ?_ (allM_cons ?_ (allM_skip rfl allM_nil)))))))))))))))) ?_
          ·
           exact StL_is _
          ·
           exact StL_is _
          ·
           exact StL_is _
          ·
           exact StL_is _
          ·
           exact StL_is _
          ·
           exact StL_is _
          ·
           exact StL_is _
          ·
           exact StL_is _
          ·
           exact StL_is _
          ·
           exact StL_rw _ _
          ·
           exact StL_z _ _ _ _
          ·
           exact StL_z _ _ _ _
          ·
           exact StL_st _ _ _
          ·
           exact StL_is _
          ·
           exact StL_ax _ _ _
          ·
           exact StL_tr
          ·
           exact StU_is _ _
          ·
           exact StU_is _ _
          ·
           exact StU_is _ _
          ·
           exact StU_is _ _
          ·
           exact StU_is _ _
          ·
           exact StU_is _ _
          ·
           exact StU_is _ _
          ·
           exact StU_is _ _
          ·
           exact StU_is _ _
          ·
           exact StU_rw _ (by decide)
          ·
           exact StU_z _ _ _ _ (by decide)
          ·
           exact StU_z _ _ _ _ (by decide)
          ·
           exact StU_st _ _ _ (by decide)
          ·
           exact StU_is _ _
          ·
           exact StU_ax _ _ _
          ·
           exact StU_tr _
          ·
           exact (stepS_val (.agg (#[.string hd, v])) _ rfl rfl rfl Low.refl (fun _ => rfl) fun a w z lw kp kn => q_row rfl Tryd.underlying24 rfl (sz24.trans (congrArg some rfl.symm)) (kp _ _ rfl s5_104).ev (fun _ e => by rw [e]; exact (lw.blk kg5_101)) rfl)
          ·
           exact (stepS_val (.string n) _ rfl rfl rfl Low.refl (fun _ => rfl) fun a w z lw kp kn => q_move _ _ rfl (kp _ _ rfl s1_104).ev rfl)
          ·
           exact (stepS_val (.agg (#[.string hd, v])) _ rfl rfl rfl Low.refl (fun _ => rfl) fun a w z lw kp kn => q_row rfl Tryd.underlying24 rfl (sz24.trans (congrArg some rfl.symm)) (kp _ _ rfl s5_104).ev (fun _ e => by rw [e]; exact (lw.blk kg5_101)) rfl)
          ·
           exact (stepS_val (.string n) _ rfl rfl rfl Low.refl (fun _ => rfl) fun a w z lw kp kn => q_move _ _ rfl (kp _ _ rfl s1_104).ev rfl)
          ·
           exact (stepS _ rfl rfl fun a w z lw kp kn => l_call (fun v w' => v = .string (getL l n) ∧ Low w w') rfl rfl rfl Tryd.func15 rfl (args2 rfl (at_is (u := .agg (#[.string hd, v])) (w := w) (kn 2 _ rfl rfl)).ev (at_is (u := .string n) (w := w) (kn 3 _ rfl rfl)).ev) ((Get.calls hd (v) l (by have := setP_len l n xa; have := setP_len l m xb; have := setP_len (setP l n xa) m xb; have := setP_len (setP l m xb) n xa; omega) n _ (RdF.low (hv.low ((((low96.trans h97).trans h98).trans h100).upd u101 geg19)) lw)).mono fun _ _ ⟨e, k⟩ => ⟨_, e, rfl, k⟩) fun _ _ hv => l_end ⟨_, rfl, hv.2, hv.1⟩)
          ·
           exact (stepS_val (.agg (#[.string hd, v])) _ rfl rfl rfl Low.refl (fun _ => rfl) fun a w z lw kp kn => q_row rfl Tryd.underlying24 rfl (sz24.trans (congrArg some rfl.symm)) (kp _ _ rfl s5_104).ev (fun _ e => by rw [e]; exact (lw.blk kg5_101)) rfl)
          ·
           exact (stepS_val (.string n) _ rfl rfl rfl Low.refl (fun _ => rfl) fun a w z lw kp kn => q_move _ _ rfl (kp _ _ rfl s1_104).ev rfl)
          ·
           exact (stepS _ rfl rfl fun a w z lw kp kn => l_call (fun v w' => v = .string (getL l n) ∧ Low w w') rfl rfl rfl Tryd.func15 rfl (args2 rfl (at_is (u := .agg (#[.string hd, v])) (w := w) (kn 5 _ rfl rfl)).ev (at_is (u := .string n) (w := w) (kn 6 _ rfl rfl)).ev) ((Get.calls hd (v) l (by have := setP_len l n xa; have := setP_len l m xb; have := setP_len (setP l n xa) m xb; have := setP_len (setP l m xb) n xa; omega) n _ (RdF.low (hv.low ((((low96.trans h97).trans h98).trans h100).upd u101 geg19)) lw)).mono fun _ _ ⟨e, k⟩ => ⟨_, e, rfl, k⟩) fun _ _ hv => l_end ⟨_, rfl, hv.2, hv.1⟩)
          ·
           exact (stepS_val (.agg (#[.string n, .string (getL l n), .string (getL l n)])) _ rfl rfl rfl Low.refl (fun _ => rfl) fun a w z lw kp kn => q_build (ps := #[(0, .string n), (1, .string (getL l n)), (2, .string (getL l n))]) rfl (parts3 (at_is (u := .string n) (w := w) (kn 1 _ rfl rfl)).ev (at_is (u := .string (getL l n)) (w := w) (kn 4 _ rfl rfl)).ev (at_is (u := .string (getL l n)) (w := w) (kn 7 _ rfl rfl)).ev) (built32_012 n (getL l n) (getL l n)) rfl)
          ·
           exact (stepS _ rfl rfl fun a w z lw kp kn => l_buildF (vs := [.string n, .string (getL l n), .string (getL l n)]) rfl rfl Tryd.underlying25 rec32 (at_is (u := .agg (#[.string n, .string (getL l n), .string (getL l n)])) (w := w) (kn 8 _ rfl rfl)).ev rfl rfl (by decide) (by decide) (fun g w' hg k h => l_end ⟨_, rfl, h, g, rfl, k⟩))
          ·
           exact (stepS _ rfl rfl fun a w z lw kp kn => Exists.elim (kn 9 _ rfl rfl) fun u hu => l_call (fun z w' => ZT w.heap.size nilB ([] : List Rf) (errP (nsize 1) l (⟨n, getL l n, getL l n⟩ : Sw)) z w' ∧ Low w w') rfl rfl rfl Tryd.func11 rfl (args3 rfl (at_is (u := .agg (#[.string hd, v])) (w := w) (kn 0 _ rfl rfl)).ev rfl hu.1.ev) ((ApplyR.calls hd (v) l 1 u ([(⟨n, getL l n, getL l n⟩ : Sw)]) (by simp; omega) (H := nilB) (L := ([] : List Rf)) (E := (errP (nsize 1) l (⟨n, getL l n, getL l n⟩ : Sw))) (ap1_bad hd hb105) w (RdF.low (hv.low ((((low96.trans h97).trans h98).trans h100).upd u101 geg19)) lw) (RwT.rd hu.2) (Gd.low hG (Low.trans low102 lw))).mono fun _ _ ⟨z, e, hz, k⟩ => ⟨z, e, hz, k⟩) fun _ _ hv => l_end ⟨_, rfl, hv.2, ZT.base hv.1 lw.ge⟩)
          ·
           exact (stepS _ rfl rfl fun a w z lw kp kn => Exists.elim (kn 10 _ rfl rfl) fun u hu => l_q rfl (q_move _ _ rfl hu.1.ev (l_end ⟨_, rfl, Low.refl _, hu.2⟩)))
          ·
           exact (stepS _ rfl rfl fun a w z lw kp kn => Exists.elim (kn 11 _ rfl rfl) fun u hu => Exists.elim hu.2 fun x hx => l_q rfl (q_extract rfl (hu.1.same hx.1).ev rfl (l_end ⟨_, rfl, Low.refl _, x, rfl, hx.2⟩)))
          ·
           exact (stepS _ rfl rfl fun a w z lw kp kn => Exists.elim (kn 11 _ rfl rfl) fun u hu => Exists.elim hu.2 fun x hx => l_q rfl (q_extract rfl (hu.1.same hx.1).ev rfl (l_end ⟨_, rfl, Low.refl _, rfl⟩)))
          ·
           exact (stepS _ rfl rfl fun a w z lw kp kn => l_alloc rfl rfl zero24 (fun g w' hg k h => l_end ⟨_, rfl, h, g, _, rfl, Nat.le_trans lw.ge hg, k, rfl⟩))
          intro a110 w110 z110 h110 kp kn kl
          have s1_110 := kp _ _ rfl s1_104
          have s5_110 := kp _ _ rfl s5_104
          have s141_110 := kp _ _ rfl s141_104
          have s155_110 := at_is (u := .int .i64 (errP (nsize 1) l (⟨n, getL l n, getL l n⟩ : Sw))) (w := w110) (kn 13 _ rfl)
          obtain ⟨u110, su110, v110, rfl, o110⟩ := kn 12 _ rfl
          obtain ⟨g110, x110, sp110, sx110, hg110, k110⟩ := kl
          replace k110 := At.agg_at sx110 su110 k110
          clear kp kn
          have lt_g5_g110 := Nat.lt_of_lt_of_le (heap_lt kg5_101) hg110
          have geg110 := Nat.le_trans low102.ge hg110
          have kg5_110 := h110.blk kg5_101
          have ov_110 := (hv.low ((((low96.trans h97).trans h98).trans h100).upd u101 geg19)).low h110
          replace o110 := o110.base low102.ge
          simp only [List.drop_succ_cons, List.drop_zero]
          refine l_q rfl (q_assign _ _ rfl s155_110.ev ?_)
          refine l_end (e_fresh z110.put ?_)
          intro a111 z111 m111
          have s5_111 := m111 _ _ (s5_110.n1)
          have s21_111 := m111 _ _ (sp110.n1)
          have s22_111 := m111 _ _ (At.hit z110 rfl)
          have low111 := (low102.trans h110)
          clear m111
          refine e_then (c_seq (c_region ?_))
          refine l_q rfl (q_move _ _ rfl s22_111.ev ?_)
          refine l_q rfl (q_neq true rfl (At.hit z111 rfl).ev rfl (decide_eq_true hb105) ?_)
          refine l_q rfl (q_move _ _ rfl (At.hit z111.put rfl).ev ?_)
          refine l_skip (wanted_is (j := 2) (d := 158) (b := true) rfl rfl (At.hit z111.p2 rfl) rfl) ?_
          refine l_skip (wanted_is (j := 2) (d := 158) (b := true) rfl rfl ((At.hit z111.p2 rfl).n1) rfl) ?_
          refine l_skip (wanted_is (j := 2) (d := 158) (b := true) rfl rfl ((At.hit z111.p2 rfl).n2) rfl) ?_
          refine l_q rfl (q_pick (b := true) (.bool true) rfl ((At.hit z111.p2 rfl).n3).ev rfl ?_)
          refine l_q rfl (q_assign _ _ rfl (At.hit z111.p6 rfl).ev ?_)
          refine l_end (e_fresh z111.p8 ?_)
          intro a112 z112 m112
          have s10_112 := m112 _ _ (At.hit z111.p7 rfl)
          clear m112
          refine e_then (wp_ret (r_tmp rfl z112.defers s10_112 ?_))
          exact ⟨rfl, low111⟩
      ·
       skip
       refine c_region ?_
       refine l_q rfl (q_row rfl Tryd.underlying24 rfl (sz24.trans (congrArg some rfl.symm)) s5_40.ev (fun _ e => by rw [e]; exact kg5_39) ?_)
       refine l_q rfl (q_row rfl Tryd.underlying32 rfl (sz32.trans (congrArg some rfl.symm)) (s11_40.n1).ev (fun _ e => by rw [e]; exact kg11_39) ?_)
       refine l_buildF (vs := [.string n, .string (getL l n), .string xa]) rfl rfl Tryd.underlying25 rec32 (At.hit z40.put rfl).ev rfl rfl (by decide) (by decide) ?_
       intro g63_113 w113 hg113 k113 h113
       have lt_g5_g63_113 := Nat.lt_of_lt_of_le (heap_lt kg5_39) hg113
       have lt_g11_g63_113 := Nat.lt_of_lt_of_le (heap_lt kg11_39) hg113
       have lt_g12_g63_113 := Nat.lt_of_lt_of_le (heap_lt k39) hg113
       have geg63_113 := Nat.le_trans low40.ge hg113
       have kg5_113 := h113.blk kg5_39
       have kg11_113 := h113.blk kg11_39
       have kg12_113 := h113.blk k39
       have ov_113 := (hv.low (((low36.trans h37).trans h38).upd u39 geg12)).low h113
       have ol113 : RdF w113 3 (.slice (some ⟨g63_113, 0, none⟩) 1 1) ([(⟨n, getL l n, xa⟩ : Sw)]).length ([(⟨n, getL l n, xa⟩ : Sw)].map encW).flatten := rdF_rec k113 rfl
       refine l_call _ rfl rfl rfl Tryd.func11 rfl (args3 rfl ((At.hit z40 rfl).n2).ev rfl (At.hit z40.p2 rfl).ev) (ApplyR.calls hd (v) l 1 (.slice (some ⟨g63_113, 0, none⟩) 1 1) ([(⟨n, getL l n, xa⟩ : Sw)]) (by simp; omega) (H := nilB) (L := ([] : List Rf)) (E := (errP (nsize 1) l (⟨n, getL l n, xa⟩ : Sw))) (ap1_bad hd hb41) _ ov_113 ol113 (Gd.low hG (low40.trans h113))) ?_
       rintro _ w114 ⟨⟨x114, rfl, o114⟩, h114⟩
       replace o114 := o114.base (low40.trans h113).ge
       have kg5_114 := h114.blk kg5_113
       have kg11_114 := h114.blk kg11_113
       have kg12_114 := h114.blk kg12_113
       have kg63_113_114 := h114.blk k113
       have ov_114 := ov_113.low h114
       have oL113_114 := ol113.low h114
       refine l_q rfl (q_move _ _ rfl (At.hit z40.p3 rfl).ev ?_)
       refine l_q rfl (q_extract rfl (At.hit z40.p4 rfl).ev rfl ?_)
       refine l_q rfl (q_extract rfl ((At.hit z40.p4 rfl).n1).ev rfl ?_)
       refine l_alloc rfl rfl zero24 ?_
       intro g13 w115 hg115 k115 h115
       have lt_g5_g13 := Nat.lt_of_lt_of_le (heap_lt kg5_114) hg115
       have lt_g11_g13 := Nat.lt_of_lt_of_le (heap_lt kg11_114) hg115
       have lt_g12_g13 := Nat.lt_of_lt_of_le (heap_lt kg12_114) hg115
       have lt_g63_113_g13 := Nat.lt_of_lt_of_le (heap_lt kg63_113_114) hg115
       have geg13 := Nat.le_trans ((low40.trans h113).trans h114).ge hg115
       have kg5_115 := h115.blk kg5_114
       have kg11_115 := h115.blk kg11_114
       have kg12_115 := h115.blk kg12_114
       have kg63_113_115 := h115.blk kg63_113_114
       have ov_115 := ov_114.low h115
       have oL113_115 := oL113_114.low h115
       have oz114_115 := o114.low h115
       refine l_fresh z40.p8 ?_
       intro a116 z116 m116
       have s1_116 := m116 _ _ (s1_40.n8)
       have s2_116 := m116 _ _ (s2_40.n8)
       have s5_116 := m116 _ _ (s5_40.n8)
       have s11_116 := m116 _ _ (s11_40.n8)
       have s12_116 := m116 _ _ (s12_40.n8)
       have s13_116 := m116 _ _ (At.hit z40.p7 rfl)
       have s65_116 := m116 _ _ ((At.hit z40.p5 rfl).n2)
       have s66_116 := m116 _ _ ((At.hit z40.p6 rfl).n1)
       clear m116
       refine l_row rfl rfl rfl (sz24.trans (congrArg some rfl)) s13_116.ev s65_116.ev (one2 _ (RdF.one oz114_115.rd)) k115 rfl ?_
       intro w117 k117 u117
       have oz114_117 := oz114_115.upd u117 k115 rfl
       have kg5_117 := u117.blk kg5_115 (by omega)
       have kg11_117 := u117.blk kg11_115 (by omega)
       have kg12_117 := u117.blk kg12_115 (by omega)
       have kg63_113_117 := u117.blk kg63_113_115 (by omega)
       refine l_q rfl (q_assign _ _ rfl s66_116.ev ?_)
       refine l_end (e_fresh z116.put ?_)
       intro a118 z118 m118
       have s1_118 := m118 _ _ (s1_116.n1)
       have s2_118 := m118 _ _ (s2_116.n1)
       have s5_118 := m118 _ _ (s5_116.n1)
       have s11_118 := m118 _ _ (s11_116.n1)
       have s12_118 := m118 _ _ (s12_116.n1)
       have s13_118 := m118 _ _ (s13_116.n1)
       have s14_118 := m118 _ _ (At.hit z116 rfl)
       have low118 := ((((low40.trans h113).trans h114).trans h115).upd u117 geg13)
       clear m118
       refine e_then (c_seq (c_seq (c_region ?_)))
       refine l_q rfl (q_move _ _ rfl s14_118.ev ?_)
       refine l_q rfl (q_eql false rfl (At.hit z118 rfl).ev rfl (decide_eq_false hb41) ?_)
       refine l_end (e_fresh z118.p2 ?_)
       intro a119 z119 m119
       have s1_119 := m119 _ _ (s1_118.n2)
       have s2_119 := m119 _ _ (s2_118.n2)
       have s5_119 := m119 _ _ (s5_118.n2)
       have s11_119 := m119 _ _ (s11_118.n2)
       have s12_119 := m119 _ _ (s12_118.n2)
       have s13_119 := m119 _ _ (s13_118.n2)
       have s68_119 := m119 _ _ (At.hit z118.put rfl)
       clear m119
       refine e_then (c_false s68_119 ?_)
       refine wp_skip (e_then (c_seq ?_))
       by_cases hb120 : errP (nsize 1) l (⟨m, getL l m, xb⟩ : Sw) = 0
       ·
        skip
        refine c_region ?_
        refine l_q rfl (q_row rfl Tryd.underlying24 rfl (sz24.trans (congrArg some rfl.symm)) s5_119.ev (fun _ e => by rw [e]; exact kg5_117) ?_)
        refine l_q rfl (q_row rfl Tryd.underlying32 rfl (sz32.trans (congrArg some rfl.symm)) (s11_119.n1).ev (fun _ e => by rw [e]; exact kg11_117) ?_)
        refine l_q rfl (q_row rfl Tryd.underlying32 rfl (sz32.trans (congrArg some rfl.symm)) (s12_119.n2).ev (fun _ e => by rw [e]; exact kg12_117) ?_)
        refine l_two3 rfl rfl Tryd.underlying25 rec32 ((At.hit z119.put rfl).n1).ev (At.hit z119.p2 rfl).ev ?_
        intro g115_121 w121 hg121 k121 h121
        have lt_g5_g115_121 := Nat.lt_of_lt_of_le (heap_lt kg5_117) hg121
        have lt_g11_g115_121 := Nat.lt_of_lt_of_le (heap_lt kg11_117) hg121
        have lt_g12_g115_121 := Nat.lt_of_lt_of_le (heap_lt kg12_117) hg121
        have lt_g13_g115_121 := Nat.lt_of_lt_of_le (heap_lt k117) hg121
        have geg115_121 := Nat.le_trans low118.ge hg121
        have kg5_121 := h121.blk kg5_117
        have kg11_121 := h121.blk kg11_117
        have kg12_121 := h121.blk kg12_117
        have kg13_121 := h121.blk k117
        have ov_121 := (hv.low ((((low40.trans h113).trans h114).trans h115).upd u117 geg13)).low h121
        have oz114_121 := oz114_117.low h121
        have ol121 : RdF w121 3 (.slice (some ⟨g115_121, 0, none⟩) 2 2) ([(⟨n, getL l n, xa⟩ : Sw), (⟨m, getL l m, xb⟩ : Sw)]).length ([(⟨n, getL l n, xa⟩ : Sw), (⟨m, getL l m, xb⟩ : Sw)].map encW).flatten := rdF_rec k121 rfl
        refine l_call _ rfl rfl rfl Tryd.func11 rfl (args3 rfl ((At.hit z119 rfl).n3).ev rfl (At.hit z119.p3 rfl).ev) (ApplyR.calls hd (v) l 1 (.slice (some ⟨g115_121, 0, none⟩) 2 2) ([(⟨n, getL l n, xa⟩ : Sw), (⟨m, getL l m, xb⟩ : Sw)]) (by simp; omega) (H := nilB) (L := ([] : List Rf)) (E := (apE (nsize 1) l [⟨n, getL l n, xa⟩, ⟨m, getL l m, xb⟩])) (ap2_bad hd hr (fun e => hb21 e.symm) (fun c => hb41 c.1)).1 _ ov_121 ol121 (Gd.low hG (low118.trans h121))) ?_
        rintro _ w122 ⟨⟨x122, rfl, o122⟩, h122⟩
        replace o122 := o122.base (low118.trans h121).ge
        have kg5_122 := h122.blk kg5_121
        have kg11_122 := h122.blk kg11_121
        have kg12_122 := h122.blk kg12_121
        have kg13_122 := h122.blk kg13_121
        have kg115_121_122 := h122.blk k121
        have ov_122 := ov_121.low h122
        have oz114_122 := oz114_121.low h122
        have oL121_122 := ol121.low h122
        refine l_q rfl (q_move _ _ rfl (At.hit z119.p4 rfl).ev ?_)
        refine l_q rfl (q_extract rfl (At.hit z119.p5 rfl).ev rfl ?_)
        refine l_q rfl (q_extract rfl ((At.hit z119.p5 rfl).n1).ev rfl ?_)
        refine l_fresh z119.p8 ?_
        intro a123 z123 m123
        have s1_123 := m123 _ _ (s1_119.n8)
        have s5_123 := m123 _ _ (s5_119.n8)
        have s11_123 := m123 _ _ (s11_119.n8)
        have s12_123 := m123 _ _ (s12_119.n8)
        have s117_123 := m123 _ _ ((At.hit z119.p6 rfl).n1)
        have s118_123 := m123 _ _ (At.hit z119.p7 rfl)
        clear m123
        refine l_alloc rfl rfl zero24 ?_
        intro g17 w124 hg124 k124 h124
        have lt_g5_g17 := Nat.lt_of_lt_of_le (heap_lt kg5_122) hg124
        have lt_g11_g17 := Nat.lt_of_lt_of_le (heap_lt kg11_122) hg124
        have lt_g12_g17 := Nat.lt_of_lt_of_le (heap_lt kg12_122) hg124
        have lt_g13_g17 := Nat.lt_of_lt_of_le (heap_lt kg13_122) hg124
        have lt_g115_121_g17 := Nat.lt_of_lt_of_le (heap_lt kg115_121_122) hg124
        have geg17 := Nat.le_trans ((low118.trans h121).trans h122).ge hg124
        have kg5_124 := h124.blk kg5_122
        have kg11_124 := h124.blk kg11_122
        have kg12_124 := h124.blk kg12_122
        have kg13_124 := h124.blk kg13_122
        have kg115_121_124 := h124.blk kg115_121_122
        have ov_124 := ov_122.low h124
        have oz114_124 := oz114_122.low h124
        have oL121_124 := oL121_122.low h124
        have oz122_124 := o122.low h124
        refine l_row rfl rfl rfl (sz24.trans (congrArg some rfl)) (At.hit z123 rfl).ev (s117_123.n1).ev (one2 _ (RdF.one oz122_124.rd)) k124 rfl ?_
        intro w125 k125 u125
        have oz114_125 := oz114_124.upd u125 k124 rfl
        have oz122_125 := oz122_124.upd u125 k124 rfl
        have kg5_125 := u125.blk kg5_124 (by omega)
        have kg11_125 := u125.blk kg11_124 (by omega)
        have kg12_125 := u125.blk kg12_124 (by omega)
        have kg13_125 := u125.blk kg13_124 (by omega)
        have kg115_121_125 := u125.blk kg115_121_124 (by omega)
        refine l_q rfl (q_assign _ _ rfl (s118_123.n1).ev ?_)
        refine l_end (e_fresh z123.p2 ?_)
        intro a126 z126 m126
        have s1_126 := m126 _ _ (s1_123.n2)
        have s5_126 := m126 _ _ (s5_123.n2)
        have s11_126 := m126 _ _ (s11_123.n2)
        have s12_126 := m126 _ _ (s12_123.n2)
        have s17_126 := m126 _ _ ((At.hit z123 rfl).n1)
        have s18_126 := m126 _ _ (At.hit z123.put rfl)
        have low126 := ((((low118.trans h121).trans h122).trans h124).upd u125 geg17)
        clear m126
        refine e_then (c_seq (c_region ?_))
        refine l_q rfl (q_row rfl Tryd.underlying24 rfl (sz24.trans (congrArg some rfl.symm)) s5_126.ev (fun _ e => by rw [e]; exact kg5_125) ?_)
        refine l_q rfl (q_row rfl Tryd.underlying32 rfl (sz32.trans (congrArg some rfl.symm)) (s12_126.n1).ev (fun _ e => by rw [e]; exact kg12_125) ?_)
        refine l_q rfl (q_row rfl Tryd.underlying32 rfl (sz32.trans (congrArg some rfl.symm)) (s11_126.n2).ev (fun _ e => by rw [e]; exact kg11_125) ?_)
        refine l_two3 rfl rfl Tryd.underlying25 rec32 ((At.hit z126.put rfl).n1).ev (At.hit z126.p2 rfl).ev ?_
        intro g123_127 w127 hg127 k127 h127
        have lt_g5_g123_127 := Nat.lt_of_lt_of_le (heap_lt kg5_125) hg127
        have lt_g11_g123_127 := Nat.lt_of_lt_of_le (heap_lt kg11_125) hg127
        have lt_g12_g123_127 := Nat.lt_of_lt_of_le (heap_lt kg12_125) hg127
        have lt_g17_g123_127 := Nat.lt_of_lt_of_le (heap_lt k125) hg127
        have geg123_127 := Nat.le_trans low126.ge hg127
        have kg5_127 := h127.blk kg5_125
        have kg11_127 := h127.blk kg11_125
        have kg12_127 := h127.blk kg12_125
        have kg17_127 := h127.blk k125
        have ov_127 := (hv.low ((((low118.trans h121).trans h122).trans h124).upd u125 geg17)).low h127
        have oz122_127 := oz122_125.low h127
        have ol127 : RdF w127 3 (.slice (some ⟨g123_127, 0, none⟩) 2 2) ([(⟨m, getL l m, xb⟩ : Sw), (⟨n, getL l n, xa⟩ : Sw)]).length ([(⟨m, getL l m, xb⟩ : Sw), (⟨n, getL l n, xa⟩ : Sw)].map encW).flatten := rdF_rec k127 rfl
        refine l_call _ rfl rfl rfl Tryd.func11 rfl (args3 rfl ((At.hit z126 rfl).n3).ev rfl (At.hit z126.p3 rfl).ev) (ApplyR.calls hd (v) l 1 (.slice (some ⟨g123_127, 0, none⟩) 2 2) ([(⟨m, getL l m, xb⟩ : Sw), (⟨n, getL l n, xa⟩ : Sw)]) (by simp; omega) (H := nilB) (L := ([] : List Rf)) (E := (apE (nsize 1) l [⟨m, getL l m, xb⟩, ⟨n, getL l n, xa⟩])) (ap2_bad hd hr hb21 (fun c => hb41 c.2)).1 _ ov_127 ol127 (Gd.low hG (low126.trans h127))) ?_
        rintro _ w128 ⟨⟨x128, rfl, o128⟩, h128⟩
        replace o128 := o128.base (low126.trans h127).ge
        have kg5_128 := h128.blk kg5_127
        have kg11_128 := h128.blk kg11_127
        have kg12_128 := h128.blk kg12_127
        have kg17_128 := h128.blk kg17_127
        have kg123_127_128 := h128.blk k127
        have ov_128 := ov_127.low h128
        have oz122_128 := oz122_127.low h128
        have oL127_128 := ol127.low h128
        refine l_q rfl (q_move _ _ rfl (At.hit z126.p4 rfl).ev ?_)
        refine l_q rfl (q_extract rfl (At.hit z126.p5 rfl).ev rfl ?_)
        refine l_q rfl (q_extract rfl ((At.hit z126.p5 rfl).n1).ev rfl ?_)
        refine l_fresh z126.p8 ?_
        intro a129 z129 m129
        have s1_129 := m129 _ _ (s1_126.n8)
        have s5_129 := m129 _ _ (s5_126.n8)
        have s17_129 := m129 _ _ (s17_126.n8)
        have s18_129 := m129 _ _ (s18_126.n8)
        have s125_129 := m129 _ _ ((At.hit z126.p6 rfl).n1)
        have s126_129 := m129 _ _ (At.hit z126.p7 rfl)
        clear m129
        refine l_alloc rfl rfl zero24 ?_
        intro g19 w130 hg130 k130 h130
        have lt_g5_g19 := Nat.lt_of_lt_of_le (heap_lt kg5_128) hg130
        have lt_g11_g19 := Nat.lt_of_lt_of_le (heap_lt kg11_128) hg130
        have lt_g12_g19 := Nat.lt_of_lt_of_le (heap_lt kg12_128) hg130
        have lt_g17_g19 := Nat.lt_of_lt_of_le (heap_lt kg17_128) hg130
        have lt_g123_127_g19 := Nat.lt_of_lt_of_le (heap_lt kg123_127_128) hg130
        have geg19 := Nat.le_trans ((low126.trans h127).trans h128).ge hg130
        have kg5_130 := h130.blk kg5_128
        have kg11_130 := h130.blk kg11_128
        have kg12_130 := h130.blk kg12_128
        have kg17_130 := h130.blk kg17_128
        have kg123_127_130 := h130.blk kg123_127_128
        have ov_130 := ov_128.low h130
        have oz122_130 := oz122_128.low h130
        have oL127_130 := oL127_128.low h130
        have oz128_130 := o128.low h130
        refine l_row rfl rfl rfl (sz24.trans (congrArg some rfl)) (At.hit z129 rfl).ev (s125_129.n1).ev (one2 _ (RdF.one oz128_130.rd)) k130 rfl ?_
        intro w131 k131 u131
        have oz122_131 := oz122_130.upd u131 k130 rfl
        have oz128_131 := oz128_130.upd u131 k130 rfl
        have kg5_131 := u131.blk kg5_130 (by omega)
        have kg11_131 := u131.blk kg11_130 (by omega)
        have kg12_131 := u131.blk kg12_130 (by omega)
        have kg17_131 := u131.blk kg17_130 (by omega)
        have kg123_127_131 := u131.blk kg123_127_130 (by omega)
        refine l_q rfl (q_assign _ _ rfl (s126_129.n1).ev ?_)
        refine l_end (e_fresh z129.p2 ?_)
        intro a132 z132 m132
        have s1_132 := m132 _ _ (s1_129.n2)
        have s5_132 := m132 _ _ (s5_129.n2)
        have s17_132 := m132 _ _ (s17_129.n2)
        have s18_132 := m132 _ _ (s18_129.n2)
        have s19_132 := m132 _ _ ((At.hit z129 rfl).n1)
        have s20_132 := m132 _ _ (At.hit z129.put rfl)
        have low132 := ((((low126.trans h127).trans h128).trans h130).upd u131 geg19)
        clear m132
        refine e_then (c_seq (c_seq (c_region ?_)))
        refine l_q rfl (q_move _ _ rfl s18_132.ev ?_)
        refine l_q rfl (q_eql false rfl (At.hit z132 rfl).ev rfl (decide_eq_false (ap2_bad hd hr (fun e => hb21 e.symm) (fun c => hb41 c.1)).2) ?_)
        refine l_q rfl (q_move _ _ rfl (s20_132.n2).ev ?_)
        refine l_q rfl (q_eql false rfl (At.hit z132.p2 rfl).ev rfl (decide_eq_false (ap2_bad hd hr hb21 (fun c => hb41 c.2)).2) ?_)
        refine l_q rfl (q_boolne false rfl Tryd.underlying4 ((At.hit z132.put rfl).n2).ev (At.hit z132.p3 rfl).ev rfl ?_)
        refine l_q rfl (q_move _ _ rfl (At.hit z132.p4 rfl).ev ?_)
        refine l_qg (wanted_is (j := 5) (d := 132) (b := false) rfl rfl (At.hit z132.p5 rfl) rfl) (q_move _ _ rfl (s18_132.n6).ev ?_)
        refine l_qg (wanted_is (j := 5) (d := 132) (b := false) rfl rfl ((At.hit z132.p5 rfl).n1) rfl) (q_eql false rfl (At.hit z132.p6 rfl).ev rfl (decide_eq_false (ap2_bad hd hr (fun e => hb21 e.symm) (fun c => hb41 c.1)).2) ?_)
        refine l_fresh z132.p8 ?_
        intro a133 z133 m133
        have s1_133 := m133 _ _ (s1_132.n8)
        have s5_133 := m133 _ _ (s5_132.n8)
        have s17_133 := m133 _ _ (s17_132.n8)
        have s19_133 := m133 _ _ (s19_132.n8)
        have s132_133 := m133 _ _ ((At.hit z132.p5 rfl).n2)
        have s134_133 := m133 _ _ (At.hit z132.p7 rfl)
        clear m133
        refine l_qg (wanted_is (j := 5) (d := 132) (b := false) rfl rfl s132_133 rfl) (q_move _ _ rfl s134_133.ev ?_)
        refine l_skip (wanted_is (j := 8) (d := 135) (b := false) rfl rfl (At.hit z133 rfl) rfl) ?_
        refine l_skip (wanted_is (j := 8) (d := 135) (b := false) rfl rfl ((At.hit z133 rfl).n1) rfl) ?_
        refine l_skip (wanted_is (j := 8) (d := 135) (b := false) rfl rfl ((At.hit z133 rfl).n2) rfl) ?_
        refine l_skip (wanted_is (j := 8) (d := 135) (b := false) rfl rfl ((At.hit z133 rfl).n3) rfl) ?_
        refine l_qg (wanted_is (j := 5) (d := 132) (b := false) rfl rfl (s132_133.n5) rfl) (q_pick (b := false) (.bool false) rfl ((At.hit z133 rfl).n4).ev rfl ?_)
        refine l_q rfl (q_pick (b := false) (.bool false) rfl (s132_133.n6).ev (At.hit z133.p5 rfl).ev ?_)
        refine l_end (e_fresh z133.p7 ?_)
        intro a134 z134 m134
        have s1_134 := m134 _ _ (s1_133.n7)
        have s5_134 := m134 _ _ (s5_133.n7)
        have s141_134 := m134 _ _ (At.hit z133.p6 rfl)
        clear m134
        refine e_then (c_false s141_134 ?_)
        refine wp_skip (e_then (c_seq ?_))
        by_cases hb135 : errP (nsize 1) l (⟨n, getL l n, getL l n⟩ : Sw) = 0
        ·
         skip
         refine region_laid_tail 16 15 14 12 21 154 2 24 (TL [Is (.agg (#[.string hd, v])), Is (.string n), Is (.agg (#[.string hd, v])), Is (.string n), Is (.string (getL l n)), Is (.agg (#[.string hd, v])), Is (.string n), Is (.string (getL l n)), Is (.agg (#[.string n, .string (getL l n), .string (getL l n)])), RwT 32 [(⟨n, getL l n, getL l n⟩ : Sw)], ZT w131.heap.size hd l 0, ZT w131.heap.size hd l 0, StT w131.heap.size hd l, Is (.int .i64 0), AlX w131.heap.size 24 2, Tr]) hm (by kernel_rfl) (by kernel_rfl) z134 rfl rfl rfl rfl rfl al_x st_x (TL_cons ?_ (TL_cons ?_ (TL_cons ?_ (TL_cons ?_ (TL_cons ?_ (TL_cons ?_ (TL_cons ?_ (TL_cons ?_ (TL_cons ?_ (TL_cons ?_ (TL_cons ?_ (TL_cons ?_ (TL_cons ?_ (TL_cons ?_ (TL_cons ?_ (TL_cons ?_ TL_nil)))))))))))))))) (TU_cons ?_ (TU_cons ?_ (TU_cons ?_ (TU_cons ?_ (TU_cons ?_ (TU_cons ?_ (TU_cons ?_ (TU_cons ?_ (TU_cons ?_ (TU_cons ?_ (TU_cons ?_ (TU_cons ?_ (TU_cons ?_ (TU_cons ?_ (TU_cons ?_ (TU_cons ?_ TU_nil)))))))))))))))) (allM_cons ?_ (allM_cons ?_ (allM_cons ?_ (allM_cons ?_ (allM_cons ?_ (allM_cons ?_ (allM_cons ?_ (allM_cons ?_ (allM_cons ?_ (allM_cons ?_ (allM_cons ?_ (allM_cons ?_ (allM_cons ?_ (allM_cons ?_ (allM_cons ?_ (allM_skip rfl allM_nil)))))))))))))))) ?_
         ·
          exact StL_is _
         ·
          exact StL_is _
         ·
          exact StL_is _
         ·
          exact StL_is _
         ·
          exact StL_is _
         ·
          exact StL_is _
         ·
          exact StL_is _
         ·
          exact StL_is _
         ·
          exact StL_is _
         ·
          exact StL_rw _ _
         ·
          exact StL_z _ _ _ _
         ·
          exact StL_z _ _ _ _
         ·
          exact StL_st _ _ _
         ·
          exact StL_is _
         ·
          exact StL_ax _ _ _
         ·
          exact StL_tr
         ·
          exact StU_is _ _
         ·
          exact StU_is _ _
         ·
          exact StU_is _ _
         ·
          exact StU_is _ _
         ·
          exact StU_is _ _
         ·
          exact StU_is _ _
         ·
          exact StU_is _ _
         ·
          exact StU_is _ _
         ·
          exact StU_is _ _
         ·
          exact StU_rw _ (by decide)
         ·
          exact StU_z _ _ _ _ (by decide)
         ·
          exact StU_z _ _ _ _ (by decide)
         ·
          exact StU_st _ _ _ (by decide)
         ·
          exact StU_is _ _
         ·
          exact StU_ax _ _ _
         ·
          exact StU_tr _
         ·
          exact (stepS_val (.agg (#[.string hd, v])) _ rfl rfl rfl Low.refl (fun _ => rfl) fun a w z lw kp kn => q_row rfl Tryd.underlying24 rfl (sz24.trans (congrArg some rfl.symm)) (kp _ _ rfl s5_134).ev (fun _ e => by rw [e]; exact (lw.blk kg5_131)) rfl)
         ·
          exact (stepS_val (.string n) _ rfl rfl rfl Low.refl (fun _ => rfl) fun a w z lw kp kn => q_move _ _ rfl (kp _ _ rfl s1_134).ev rfl)
         ·
          exact (stepS_val (.agg (#[.string hd, v])) _ rfl rfl rfl Low.refl (fun _ => rfl) fun a w z lw kp kn => q_row rfl Tryd.underlying24 rfl (sz24.trans (congrArg some rfl.symm)) (kp _ _ rfl s5_134).ev (fun _ e => by rw [e]; exact (lw.blk kg5_131)) rfl)
         ·
          exact (stepS_val (.string n) _ rfl rfl rfl Low.refl (fun _ => rfl) fun a w z lw kp kn => q_move _ _ rfl (kp _ _ rfl s1_134).ev rfl)
         ·
          exact (stepS _ rfl rfl fun a w z lw kp kn => l_call (fun v w' => v = .string (getL l n) ∧ Low w w') rfl rfl rfl Tryd.func15 rfl (args2 rfl (at_is (u := .agg (#[.string hd, v])) (w := w) (kn 2 _ rfl rfl)).ev (at_is (u := .string n) (w := w) (kn 3 _ rfl rfl)).ev) ((Get.calls hd (v) l (by have := setP_len l n xa; have := setP_len l m xb; have := setP_len (setP l n xa) m xb; have := setP_len (setP l m xb) n xa; omega) n _ (RdF.low (hv.low ((((low126.trans h127).trans h128).trans h130).upd u131 geg19)) lw)).mono fun _ _ ⟨e, k⟩ => ⟨_, e, rfl, k⟩) fun _ _ hv => l_end ⟨_, rfl, hv.2, hv.1⟩)
         ·
          exact (stepS_val (.agg (#[.string hd, v])) _ rfl rfl rfl Low.refl (fun _ => rfl) fun a w z lw kp kn => q_row rfl Tryd.underlying24 rfl (sz24.trans (congrArg some rfl.symm)) (kp _ _ rfl s5_134).ev (fun _ e => by rw [e]; exact (lw.blk kg5_131)) rfl)
         ·
          exact (stepS_val (.string n) _ rfl rfl rfl Low.refl (fun _ => rfl) fun a w z lw kp kn => q_move _ _ rfl (kp _ _ rfl s1_134).ev rfl)
         ·
          exact (stepS _ rfl rfl fun a w z lw kp kn => l_call (fun v w' => v = .string (getL l n) ∧ Low w w') rfl rfl rfl Tryd.func15 rfl (args2 rfl (at_is (u := .agg (#[.string hd, v])) (w := w) (kn 5 _ rfl rfl)).ev (at_is (u := .string n) (w := w) (kn 6 _ rfl rfl)).ev) ((Get.calls hd (v) l (by have := setP_len l n xa; have := setP_len l m xb; have := setP_len (setP l n xa) m xb; have := setP_len (setP l m xb) n xa; omega) n _ (RdF.low (hv.low ((((low126.trans h127).trans h128).trans h130).upd u131 geg19)) lw)).mono fun _ _ ⟨e, k⟩ => ⟨_, e, rfl, k⟩) fun _ _ hv => l_end ⟨_, rfl, hv.2, hv.1⟩)
         ·
          exact (stepS_val (.agg (#[.string n, .string (getL l n), .string (getL l n)])) _ rfl rfl rfl Low.refl (fun _ => rfl) fun a w z lw kp kn => q_build (ps := #[(0, .string n), (1, .string (getL l n)), (2, .string (getL l n))]) rfl (parts3 (at_is (u := .string n) (w := w) (kn 1 _ rfl rfl)).ev (at_is (u := .string (getL l n)) (w := w) (kn 4 _ rfl rfl)).ev (at_is (u := .string (getL l n)) (w := w) (kn 7 _ rfl rfl)).ev) (built32_012 n (getL l n) (getL l n)) rfl)
         ·
          exact (stepS _ rfl rfl fun a w z lw kp kn => l_buildF (vs := [.string n, .string (getL l n), .string (getL l n)]) rfl rfl Tryd.underlying25 rec32 (at_is (u := .agg (#[.string n, .string (getL l n), .string (getL l n)])) (w := w) (kn 8 _ rfl rfl)).ev rfl rfl (by decide) (by decide) (fun g w' hg k h => l_end ⟨_, rfl, h, g, rfl, k⟩))
         ·
          exact (stepS _ rfl rfl fun a w z lw kp kn => Exists.elim (kn 9 _ rfl rfl) fun u hu => l_call (fun z w' => ZT w.heap.size hd l 0 z w' ∧ Low w w') rfl rfl rfl Tryd.func11 rfl (args3 rfl (at_is (u := .agg (#[.string hd, v])) (w := w) (kn 0 _ rfl rfl)).ev rfl hu.1.ev) ((ApplyR.calls hd (v) l 1 u ([(⟨n, getL l n, getL l n⟩ : Sw)]) (by simp; omega) (H := hd) (L := l) (E := 0) ⟨(ap1_ok hd hb135).1, (ap1_ok hd hb135).2.1.trans (set_same hr hf n), (ap1_ok hd hb135).2.2⟩ w (RdF.low (hv.low ((((low126.trans h127).trans h128).trans h130).upd u131 geg19)) lw) (RwT.rd hu.2) (Gd.low hG (Low.trans low132 lw))).mono fun _ _ ⟨z, e, hz, k⟩ => ⟨z, e, hz, k⟩) fun _ _ hv => l_end ⟨_, rfl, hv.2, ZT.base hv.1 lw.ge⟩)
         ·
          exact (stepS _ rfl rfl fun a w z lw kp kn => Exists.elim (kn 10 _ rfl rfl) fun u hu => l_q rfl (q_move _ _ rfl hu.1.ev (l_end ⟨_, rfl, Low.refl _, hu.2⟩)))
         ·
          exact (stepS _ rfl rfl fun a w z lw kp kn => Exists.elim (kn 11 _ rfl rfl) fun u hu => Exists.elim hu.2 fun x hx => l_q rfl (q_extract rfl (hu.1.same hx.1).ev rfl (l_end ⟨_, rfl, Low.refl _, x, rfl, hx.2⟩)))
         ·
          exact (stepS _ rfl rfl fun a w z lw kp kn => Exists.elim (kn 11 _ rfl rfl) fun u hu => Exists.elim hu.2 fun x hx => l_q rfl (q_extract rfl (hu.1.same hx.1).ev rfl (l_end ⟨_, rfl, Low.refl _, rfl⟩)))
         ·
          exact (stepS _ rfl rfl fun a w z lw kp kn => l_alloc rfl rfl zero24 (fun g w' hg k h => l_end ⟨_, rfl, h, g, _, rfl, Nat.le_trans lw.ge hg, k, rfl⟩))
         intro a136 w136 z136 h136 kp kn kl
         have s1_136 := kp _ _ rfl s1_134
         have s5_136 := kp _ _ rfl s5_134
         have s141_136 := kp _ _ rfl s141_134
         have s155_136 := at_is (u := .int .i64 0) (w := w136) (kn 13 _ rfl)
         obtain ⟨u136, su136, v136, rfl, o136⟩ := kn 12 _ rfl
         obtain ⟨g136, x136, sp136, sx136, hg136, k136⟩ := kl
         replace k136 := At.agg_at sx136 su136 k136
         clear kp kn
         have lt_g5_g136 := Nat.lt_of_lt_of_le (heap_lt kg5_131) hg136
         have geg136 := Nat.le_trans low132.ge hg136
         have kg5_136 := h136.blk kg5_131
         have ov_136 := (hv.low ((((low126.trans h127).trans h128).trans h130).upd u131 geg19)).low h136
         replace o136 := o136.base low132.ge
         simp only [List.drop_succ_cons, List.drop_zero]
         refine l_q rfl (q_assign _ _ rfl s155_136.ev ?_)
         refine l_end (e_fresh z136.put ?_)
         intro a137 z137 m137
         have s5_137 := m137 _ _ (s5_136.n1)
         have s21_137 := m137 _ _ (sp136.n1)
         have s22_137 := m137 _ _ (At.hit z136 rfl)
         have low137 := (low132.trans h136)
         clear m137
         refine e_then (c_seq (c_region ?_))
         refine l_q rfl (q_move _ _ rfl s22_137.ev ?_)
         refine l_q rfl (q_neq false rfl (At.hit z137 rfl).ev rfl (decide_eq_false (by omega)) ?_)
         refine l_q rfl (q_move _ _ rfl (At.hit z137.put rfl).ev ?_)
         refine l_qg (wanted_is (j := 2) (d := 158) (b := false) rfl rfl (At.hit z137.p2 rfl) rfl) (q_row rfl Tryd.underlying24 rfl (sz24.trans (congrArg some rfl.symm)) (s21_137.n3).ev (fun _ e => by rw [e]; exact k136) ?_)
         refine l_qg (wanted_is (j := 2) (d := 158) (b := false) rfl rfl ((At.hit z137.p2 rfl).n1) rfl) (q_row rfl Tryd.underlying24 rfl (sz24.trans (congrArg some rfl.symm)) (s5_137.n4).ev (fun _ e => by rw [e]; exact kg5_136) ?_)
         refine l_callg (fun v w' => v = .bool true ∧ Low w136 w') (wanted_is (j := 2) (d := 158) (b := false) rfl rfl ((At.hit z137.p2 rfl).n2) rfl) rfl rfl Tryd.func22 rfl (args2 rfl ((At.hit z137.p3 rfl).n1).ev (At.hit z137.p4 rfl).ev) (((calls_bool (Same.calls hd hd (v136) (v) l l (by have := setP_len l n xa; have := setP_len l m xb; have := setP_len (setP l n xa) m xb; have := setP_len (setP l m xb) n xa; omega) (by have := setP_len l n xa; have := setP_len l m xb; have := setP_len (setP l n xa) m xb; have := setP_len (setP l m xb) n xa; omega) _ o136.rd ov_136) (by unfold sameS; rw [decide_eq_true rfl, decide_eq_true rfl]; rfl))).mono fun _ _ ⟨e, k⟩ => ⟨_, e, rfl, k⟩) ?_
         rintro _ w138 ⟨rfl, h138⟩
         have kg5_138 := h138.blk kg5_136
         have kg136_138 := h138.blk k136
         have ov_138 := ov_136.low h138
         have ob136_138 := o136.low h138
         refine l_q rfl (q_pick (b := false) (.bool true) rfl ((At.hit z137.p2 rfl).n3).ev (At.hit z137.p5 rfl).ev ?_)
         refine l_q rfl (q_assign _ _ rfl (At.hit z137.p6 rfl).ev ?_)
         refine l_end (e_fresh z137.p8 ?_)
         intro a139 z139 m139
         have s10_139 := m139 _ _ (At.hit z137.p7 rfl)
         have low139 := (low137.trans h138)
         clear m139
         refine e_then (wp_ret (r_tmp rfl z139.defers s10_139 ?_))
         exact ⟨rfl, low139⟩
        ·
         skip
         refine region_laid_tail 16 15 14 12 21 154 2 24 (TL [Is (.agg (#[.string hd, v])), Is (.string n), Is (.agg (#[.string hd, v])), Is (.string n), Is (.string (getL l n)), Is (.agg (#[.string hd, v])), Is (.string n), Is (.string (getL l n)), Is (.agg (#[.string n, .string (getL l n), .string (getL l n)])), RwT 32 [(⟨n, getL l n, getL l n⟩ : Sw)], ZT w131.heap.size nilB ([] : List Rf) (errP (nsize 1) l (⟨n, getL l n, getL l n⟩ : Sw)), ZT w131.heap.size nilB ([] : List Rf) (errP (nsize 1) l (⟨n, getL l n, getL l n⟩ : Sw)), StT w131.heap.size nilB ([] : List Rf), Is (.int .i64 (errP (nsize 1) l (⟨n, getL l n, getL l n⟩ : Sw))), AlX w131.heap.size 24 2, Tr]) hm (by kernel_rfl) (by kernel_rfl) z134 rfl rfl rfl rfl rfl al_x st_x (TL_cons ?_ (TL_cons ?_ (TL_cons ?_ (TL_cons ?_ (TL_cons ?_ (TL_cons ?_ (TL_cons ?_ (TL_cons ?_ (TL_cons ?_ (TL_cons ?_ (TL_cons ?_ (TL_cons ?_ (TL_cons ?_ (TL_cons ?_ (TL_cons ?_ (TL_cons ?_ TL_nil)))))))))))))))) (TU_cons ?_ (TU_cons ?_ (TU_cons ?_ (TU_cons ?_ (TU_cons ?_ (TU_cons ?_ (TU_cons ?_ (TU_cons ?_ (TU_cons ?_ (TU_cons ?_ (TU_cons ?_ (TU_cons ?_ (TU_cons ?_ (TU_cons ?_ (TU_cons ?_ (TU_cons ?_ TU_nil)))))))))))))))) (allM_cons ?_ (allM_cons ?_ (allM_cons ?_ (allM_cons ?_ (allM_cons ?_ (allM_cons ?_ (allM_cons ?_ (allM_cons ?_ (allM_cons ?_ (allM_cons ?_ (allM_cons ?_ (allM_cons ?_ (allM_cons ?_ (allM_cons ?_ (allM_cons ?_ (allM_skip rfl allM_nil)))))))))))))))) ?_
         ·
          exact StL_is _
         ·
          exact StL_is _
         ·
          exact StL_is _
         ·
          exact StL_is _
         ·
          exact StL_is _
         ·
          exact StL_is _
         ·
          exact StL_is _
         ·
          exact StL_is _
         ·
          exact StL_is _
         ·
          exact StL_rw _ _
         ·
          exact StL_z _ _ _ _
         ·
          exact StL_z _ _ _ _
         ·
          exact StL_st _ _ _
         ·
          exact StL_is _
         ·
          exact StL_ax _ _ _
         ·
          exact StL_tr
         ·
          exact StU_is _ _
         ·
          exact StU_is _ _
         ·
          exact StU_is _ _
         ·
          exact StU_is _ _
         ·
          exact StU_is _ _
         ·
          exact StU_is _ _
         ·
          exact StU_is _ _
         ·
          exact StU_is _ _
         ·
          exact StU_is _ _
         ·
          exact StU_rw _ (by decide)
         ·
          exact StU_z _ _ _ _ (by decide)
         ·
          exact StU_z _ _ _ _ (by decide)
         ·
          exact StU_st _ _ _ (by decide)
         ·
          exact StU_is _ _
         ·
          exact StU_ax _ _ _
         ·
          exact StU_tr _
         ·
          exact (stepS_val (.agg (#[.string hd, v])) _ rfl rfl rfl Low.refl (fun _ => rfl) fun a w z lw kp kn => q_row rfl Tryd.underlying24 rfl (sz24.trans (congrArg some rfl.symm)) (kp _ _ rfl s5_134).ev (fun _ e => by rw [e]; exact (lw.blk kg5_131)) rfl)
         ·
          exact (stepS_val (.string n) _ rfl rfl rfl Low.refl (fun _ => rfl) fun a w z lw kp kn => q_move _ _ rfl (kp _ _ rfl s1_134).ev rfl)
         ·
          exact (stepS_val (.agg (#[.string hd, v])) _ rfl rfl rfl Low.refl (fun _ => rfl) fun a w z lw kp kn => q_row rfl Tryd.underlying24 rfl (sz24.trans (congrArg some rfl.symm)) (kp _ _ rfl s5_134).ev (fun _ e => by rw [e]; exact (lw.blk kg5_131)) rfl)
         ·
          exact (stepS_val (.string n) _ rfl rfl rfl Low.refl (fun _ => rfl) fun a w z lw kp kn => q_move _ _ rfl (kp _ _ rfl s1_134).ev rfl)
         ·
          exact (stepS _ rfl rfl fun a w z lw kp kn => l_call (fun v w' => v = .string (getL l n) ∧ Low w w') rfl rfl rfl Tryd.func15 rfl (args2 rfl (at_is (u := .agg (#[.string hd, v])) (w := w) (kn 2 _ rfl rfl)).ev (at_is (u := .string n) (w := w) (kn 3 _ rfl rfl)).ev) ((Get.calls hd (v) l (by have := setP_len l n xa; have := setP_len l m xb; have := setP_len (setP l n xa) m xb; have := setP_len (setP l m xb) n xa; omega) n _ (RdF.low (hv.low ((((low126.trans h127).trans h128).trans h130).upd u131 geg19)) lw)).mono fun _ _ ⟨e, k⟩ => ⟨_, e, rfl, k⟩) fun _ _ hv => l_end ⟨_, rfl, hv.2, hv.1⟩)
         ·
          exact (stepS_val (.agg (#[.string hd, v])) _ rfl rfl rfl Low.refl (fun _ => rfl) fun a w z lw kp kn => q_row rfl Tryd.underlying24 rfl (sz24.trans (congrArg some rfl.symm)) (kp _ _ rfl s5_134).ev (fun _ e => by rw [e]; exact (lw.blk kg5_131)) rfl)
         ·
          exact (stepS_val (.string n) _ rfl rfl rfl Low.refl (fun _ => rfl) fun a w z lw kp kn => q_move _ _ rfl (kp _ _ rfl s1_134).ev rfl)
         ·
          exact (stepS _ rfl rfl fun a w z lw kp kn => l_call (fun v w' => v = .string (getL l n) ∧ Low w w') rfl rfl rfl Tryd.func15 rfl (args2 rfl (at_is (u := .agg (#[.string hd, v])) (w := w) (kn 5 _ rfl rfl)).ev (at_is (u := .string n) (w := w) (kn 6 _ rfl rfl)).ev) ((Get.calls hd (v) l (by have := setP_len l n xa; have := setP_len l m xb; have := setP_len (setP l n xa) m xb; have := setP_len (setP l m xb) n xa; omega) n _ (RdF.low (hv.low ((((low126.trans h127).trans h128).trans h130).upd u131 geg19)) lw)).mono fun _ _ ⟨e, k⟩ => ⟨_, e, rfl, k⟩) fun _ _ hv => l_end ⟨_, rfl, hv.2, hv.1⟩)
         ·
          exact (stepS_val (.agg (#[.string n, .string (getL l n), .string (getL l n)])) _ rfl rfl rfl Low.refl (fun _ => rfl) fun a w z lw kp kn => q_build (ps := #[(0, .string n), (1, .string (getL l n)), (2, .string (getL l n))]) rfl (parts3 (at_is (u := .string n) (w := w) (kn 1 _ rfl rfl)).ev (at_is (u := .string (getL l n)) (w := w) (kn 4 _ rfl rfl)).ev (at_is (u := .string (getL l n)) (w := w) (kn 7 _ rfl rfl)).ev) (built32_012 n (getL l n) (getL l n)) rfl)
         ·
          exact (stepS _ rfl rfl fun a w z lw kp kn => l_buildF (vs := [.string n, .string (getL l n), .string (getL l n)]) rfl rfl Tryd.underlying25 rec32 (at_is (u := .agg (#[.string n, .string (getL l n), .string (getL l n)])) (w := w) (kn 8 _ rfl rfl)).ev rfl rfl (by decide) (by decide) (fun g w' hg k h => l_end ⟨_, rfl, h, g, rfl, k⟩))
         ·
          exact (stepS _ rfl rfl fun a w z lw kp kn => Exists.elim (kn 9 _ rfl rfl) fun u hu => l_call (fun z w' => ZT w.heap.size nilB ([] : List Rf) (errP (nsize 1) l (⟨n, getL l n, getL l n⟩ : Sw)) z w' ∧ Low w w') rfl rfl rfl Tryd.func11 rfl (args3 rfl (at_is (u := .agg (#[.string hd, v])) (w := w) (kn 0 _ rfl rfl)).ev rfl hu.1.ev) ((ApplyR.calls hd (v) l 1 u ([(⟨n, getL l n, getL l n⟩ : Sw)]) (by simp; omega) (H := nilB) (L := ([] : List Rf)) (E := (errP (nsize 1) l (⟨n, getL l n, getL l n⟩ : Sw))) (ap1_bad hd hb135) w (RdF.low (hv.low ((((low126.trans h127).trans h128).trans h130).upd u131 geg19)) lw) (RwT.rd hu.2) (Gd.low hG (Low.trans low132 lw))).mono fun _ _ ⟨z, e, hz, k⟩ => ⟨z, e, hz, k⟩) fun _ _ hv => l_end ⟨_, rfl, hv.2, ZT.base hv.1 lw.ge⟩)
         ·
          exact (stepS _ rfl rfl fun a w z lw kp kn => Exists.elim (kn 10 _ rfl rfl) fun u hu => l_q rfl (q_move _ _ rfl hu.1.ev (l_end ⟨_, rfl, Low.refl _, hu.2⟩)))
         ·
          exact (stepS _ rfl rfl fun a w z lw kp kn => Exists.elim (kn 11 _ rfl rfl) fun u hu => Exists.elim hu.2 fun x hx => l_q rfl (q_extract rfl (hu.1.same hx.1).ev rfl (l_end ⟨_, rfl, Low.refl _, x, rfl, hx.2⟩)))
         ·
          exact (stepS _ rfl rfl fun a w z lw kp kn => Exists.elim (kn 11 _ rfl rfl) fun u hu => Exists.elim hu.2 fun x hx => l_q rfl (q_extract rfl (hu.1.same hx.1).ev rfl (l_end ⟨_, rfl, Low.refl _, rfl⟩)))
         ·
          exact (stepS _ rfl rfl fun a w z lw kp kn => l_alloc rfl rfl zero24 (fun g w' hg k h => l_end ⟨_, rfl, h, g, _, rfl, Nat.le_trans lw.ge hg, k, rfl⟩))
         intro a140 w140 z140 h140 kp kn kl
         have s1_140 := kp _ _ rfl s1_134
         have s5_140 := kp _ _ rfl s5_134
         have s141_140 := kp _ _ rfl s141_134
         have s155_140 := at_is (u := .int .i64 (errP (nsize 1) l (⟨n, getL l n, getL l n⟩ : Sw))) (w := w140) (kn 13 _ rfl)
         obtain ⟨u140, su140, v140, rfl, o140⟩ := kn 12 _ rfl
         obtain ⟨g140, x140, sp140, sx140, hg140, k140⟩ := kl
         replace k140 := At.agg_at sx140 su140 k140
         clear kp kn
         have lt_g5_g140 := Nat.lt_of_lt_of_le (heap_lt kg5_131) hg140
         have geg140 := Nat.le_trans low132.ge hg140
         have kg5_140 := h140.blk kg5_131
         have ov_140 := (hv.low ((((low126.trans h127).trans h128).trans h130).upd u131 geg19)).low h140
         replace o140 := o140.base low132.ge
         simp only [List.drop_succ_cons, List.drop_zero]
         refine l_q rfl (q_assign _ _ rfl s155_140.ev ?_)
         refine l_end (e_fresh z140.put ?_)
         intro a141 z141 m141
         have s5_141 := m141 _ _ (s5_140.n1)
         have s21_141 := m141 _ _ (sp140.n1)
         have s22_141 := m141 _ _ (At.hit z140 rfl)
         have low141 := (low132.trans h140)
         clear m141
         refine e_then (c_seq (c_region ?_))
         refine l_q rfl (q_move _ _ rfl s22_141.ev ?_)
         refine l_q rfl (q_neq true rfl (At.hit z141 rfl).ev rfl (decide_eq_true hb135) ?_)
         refine l_q rfl (q_move _ _ rfl (At.hit z141.put rfl).ev ?_)
         refine l_skip (wanted_is (j := 2) (d := 158) (b := true) rfl rfl (At.hit z141.p2 rfl) rfl) ?_
         refine l_skip (wanted_is (j := 2) (d := 158) (b := true) rfl rfl ((At.hit z141.p2 rfl).n1) rfl) ?_
         refine l_skip (wanted_is (j := 2) (d := 158) (b := true) rfl rfl ((At.hit z141.p2 rfl).n2) rfl) ?_
         refine l_q rfl (q_pick (b := true) (.bool true) rfl ((At.hit z141.p2 rfl).n3).ev rfl ?_)
         refine l_q rfl (q_assign _ _ rfl (At.hit z141.p6 rfl).ev ?_)
         refine l_end (e_fresh z141.p8 ?_)
         intro a142 z142 m142
         have s10_142 := m142 _ _ (At.hit z141.p7 rfl)
         clear m142
         refine e_then (wp_ret (r_tmp rfl z142.defers s10_142 ?_))
         exact ⟨rfl, low141⟩
       ·
        skip
        refine c_region ?_
        refine l_q rfl (q_row rfl Tryd.underlying24 rfl (sz24.trans (congrArg some rfl.symm)) s5_119.ev (fun _ e => by rw [e]; exact kg5_117) ?_)
        refine l_q rfl (q_row rfl Tryd.underlying32 rfl (sz32.trans (congrArg some rfl.symm)) (s11_119.n1).ev (fun _ e => by rw [e]; exact kg11_117) ?_)
        refine l_q rfl (q_row rfl Tryd.underlying32 rfl (sz32.trans (congrArg some rfl.symm)) (s12_119.n2).ev (fun _ e => by rw [e]; exact kg12_117) ?_)
        refine l_two3 rfl rfl Tryd.underlying25 rec32 ((At.hit z119.put rfl).n1).ev (At.hit z119.p2 rfl).ev ?_
        intro g115_143 w143 hg143 k143 h143
        have lt_g5_g115_143 := Nat.lt_of_lt_of_le (heap_lt kg5_117) hg143
        have lt_g11_g115_143 := Nat.lt_of_lt_of_le (heap_lt kg11_117) hg143
        have lt_g12_g115_143 := Nat.lt_of_lt_of_le (heap_lt kg12_117) hg143
        have lt_g13_g115_143 := Nat.lt_of_lt_of_le (heap_lt k117) hg143
        have geg115_143 := Nat.le_trans low118.ge hg143
        have kg5_143 := h143.blk kg5_117
        have kg11_143 := h143.blk kg11_117
        have kg12_143 := h143.blk kg12_117
        have kg13_143 := h143.blk k117
        have ov_143 := (hv.low ((((low40.trans h113).trans h114).trans h115).upd u117 geg13)).low h143
        have oz114_143 := oz114_117.low h143
        have ol143 : RdF w143 3 (.slice (some ⟨g115_143, 0, none⟩) 2 2) ([(⟨n, getL l n, xa⟩ : Sw), (⟨m, getL l m, xb⟩ : Sw)]).length ([(⟨n, getL l n, xa⟩ : Sw), (⟨m, getL l m, xb⟩ : Sw)].map encW).flatten := rdF_rec k143 rfl
        refine l_call _ rfl rfl rfl Tryd.func11 rfl (args3 rfl ((At.hit z119 rfl).n3).ev rfl (At.hit z119.p3 rfl).ev) (ApplyR.calls hd (v) l 1 (.slice (some ⟨g115_143, 0, none⟩) 2 2) ([(⟨n, getL l n, xa⟩ : Sw), (⟨m, getL l m, xb⟩ : Sw)]) (by simp; omega) (H := nilB) (L := ([] : List Rf)) (E := (apE (nsize 1) l [⟨n, getL l n, xa⟩, ⟨m, getL l m, xb⟩])) (ap2_bad hd hr (fun e => hb21 e.symm) (fun c => hb41 c.1)).1 _ ov_143 ol143 (Gd.low hG (low118.trans h143))) ?_
        rintro _ w144 ⟨⟨x144, rfl, o144⟩, h144⟩
        replace o144 := o144.base (low118.trans h143).ge
        have kg5_144 := h144.blk kg5_143
        have kg11_144 := h144.blk kg11_143
        have kg12_144 := h144.blk kg12_143
        have kg13_144 := h144.blk kg13_143
        have kg115_143_144 := h144.blk k143
        have ov_144 := ov_143.low h144
        have oz114_144 := oz114_143.low h144
        have oL143_144 := ol143.low h144
        refine l_q rfl (q_move _ _ rfl (At.hit z119.p4 rfl).ev ?_)
        refine l_q rfl (q_extract rfl (At.hit z119.p5 rfl).ev rfl ?_)
        refine l_q rfl (q_extract rfl ((At.hit z119.p5 rfl).n1).ev rfl ?_)
        refine l_fresh z119.p8 ?_
        intro a145 z145 m145
        have s1_145 := m145 _ _ (s1_119.n8)
        have s5_145 := m145 _ _ (s5_119.n8)
        have s11_145 := m145 _ _ (s11_119.n8)
        have s12_145 := m145 _ _ (s12_119.n8)
        have s117_145 := m145 _ _ ((At.hit z119.p6 rfl).n1)
        have s118_145 := m145 _ _ (At.hit z119.p7 rfl)
        clear m145
        refine l_alloc rfl rfl zero24 ?_
        intro g17 w146 hg146 k146 h146
        have lt_g5_g17 := Nat.lt_of_lt_of_le (heap_lt kg5_144) hg146
        have lt_g11_g17 := Nat.lt_of_lt_of_le (heap_lt kg11_144) hg146
        have lt_g12_g17 := Nat.lt_of_lt_of_le (heap_lt kg12_144) hg146
        have lt_g13_g17 := Nat.lt_of_lt_of_le (heap_lt kg13_144) hg146
        have lt_g115_143_g17 := Nat.lt_of_lt_of_le (heap_lt kg115_143_144) hg146
        have geg17 := Nat.le_trans ((low118.trans h143).trans h144).ge hg146
        have kg5_146 := h146.blk kg5_144
        have kg11_146 := h146.blk kg11_144
        have kg12_146 := h146.blk kg12_144
        have kg13_146 := h146.blk kg13_144
        have kg115_143_146 := h146.blk kg115_143_144
        have ov_146 := ov_144.low h146
        have oz114_146 := oz114_144.low h146
        have oL143_146 := oL143_144.low h146
        have oz144_146 := o144.low h146
        refine l_row rfl rfl rfl (sz24.trans (congrArg some rfl)) (At.hit z145 rfl).ev (s117_145.n1).ev (one2 _ (RdF.one oz144_146.rd)) k146 rfl ?_
        intro w147 k147 u147
        have oz114_147 := oz114_146.upd u147 k146 rfl
        have oz144_147 := oz144_146.upd u147 k146 rfl
        have kg5_147 := u147.blk kg5_146 (by omega)
        have kg11_147 := u147.blk kg11_146 (by omega)
        have kg12_147 := u147.blk kg12_146 (by omega)
        have kg13_147 := u147.blk kg13_146 (by omega)
        have kg115_143_147 := u147.blk kg115_143_146 (by omega)
        refine l_q rfl (q_assign _ _ rfl (s118_145.n1).ev ?_)
        refine l_end (e_fresh z145.p2 ?_)
        intro a148 z148 m148
        have s1_148 := m148 _ _ (s1_145.n2)
        have s5_148 := m148 _ _ (s5_145.n2)
        have s11_148 := m148 _ _ (s11_145.n2)
        have s12_148 := m148 _ _ (s12_145.n2)
        have s17_148 := m148 _ _ ((At.hit z145 rfl).n1)
        have s18_148 := m148 _ _ (At.hit z145.put rfl)
        have low148 := ((((low118.trans h143).trans h144).trans h146).upd u147 geg17)
        clear m148
        refine e_then (c_seq (c_region ?_))
        refine l_q rfl (q_row rfl Tryd.underlying24 rfl (sz24.trans (congrArg some rfl.symm)) s5_148.ev (fun _ e => by rw [e]; exact kg5_147) ?_)
        refine l_q rfl (q_row rfl Tryd.underlying32 rfl (sz32.trans (congrArg some rfl.symm)) (s12_148.n1).ev (fun _ e => by rw [e]; exact kg12_147) ?_)
        refine l_q rfl (q_row rfl Tryd.underlying32 rfl (sz32.trans (congrArg some rfl.symm)) (s11_148.n2).ev (fun _ e => by rw [e]; exact kg11_147) ?_)
        refine l_two3 rfl rfl Tryd.underlying25 rec32 ((At.hit z148.put rfl).n1).ev (At.hit z148.p2 rfl).ev ?_
        intro g123_149 w149 hg149 k149 h149
        have lt_g5_g123_149 := Nat.lt_of_lt_of_le (heap_lt kg5_147) hg149
        have lt_g11_g123_149 := Nat.lt_of_lt_of_le (heap_lt kg11_147) hg149
        have lt_g12_g123_149 := Nat.lt_of_lt_of_le (heap_lt kg12_147) hg149
        have lt_g17_g123_149 := Nat.lt_of_lt_of_le (heap_lt k147) hg149
        have geg123_149 := Nat.le_trans low148.ge hg149
        have kg5_149 := h149.blk kg5_147
        have kg11_149 := h149.blk kg11_147
        have kg12_149 := h149.blk kg12_147
        have kg17_149 := h149.blk k147
        have ov_149 := (hv.low ((((low118.trans h143).trans h144).trans h146).upd u147 geg17)).low h149
        have oz144_149 := oz144_147.low h149
        have ol149 : RdF w149 3 (.slice (some ⟨g123_149, 0, none⟩) 2 2) ([(⟨m, getL l m, xb⟩ : Sw), (⟨n, getL l n, xa⟩ : Sw)]).length ([(⟨m, getL l m, xb⟩ : Sw), (⟨n, getL l n, xa⟩ : Sw)].map encW).flatten := rdF_rec k149 rfl
        refine l_call _ rfl rfl rfl Tryd.func11 rfl (args3 rfl ((At.hit z148 rfl).n3).ev rfl (At.hit z148.p3 rfl).ev) (ApplyR.calls hd (v) l 1 (.slice (some ⟨g123_149, 0, none⟩) 2 2) ([(⟨m, getL l m, xb⟩ : Sw), (⟨n, getL l n, xa⟩ : Sw)]) (by simp; omega) (H := nilB) (L := ([] : List Rf)) (E := (apE (nsize 1) l [⟨m, getL l m, xb⟩, ⟨n, getL l n, xa⟩])) (ap2_bad hd hr hb21 (fun c => hb41 c.2)).1 _ ov_149 ol149 (Gd.low hG (low148.trans h149))) ?_
        rintro _ w150 ⟨⟨x150, rfl, o150⟩, h150⟩
        replace o150 := o150.base (low148.trans h149).ge
        have kg5_150 := h150.blk kg5_149
        have kg11_150 := h150.blk kg11_149
        have kg12_150 := h150.blk kg12_149
        have kg17_150 := h150.blk kg17_149
        have kg123_149_150 := h150.blk k149
        have ov_150 := ov_149.low h150
        have oz144_150 := oz144_149.low h150
        have oL149_150 := ol149.low h150
        refine l_q rfl (q_move _ _ rfl (At.hit z148.p4 rfl).ev ?_)
        refine l_q rfl (q_extract rfl (At.hit z148.p5 rfl).ev rfl ?_)
        refine l_q rfl (q_extract rfl ((At.hit z148.p5 rfl).n1).ev rfl ?_)
        refine l_fresh z148.p8 ?_
        intro a151 z151 m151
        have s1_151 := m151 _ _ (s1_148.n8)
        have s5_151 := m151 _ _ (s5_148.n8)
        have s17_151 := m151 _ _ (s17_148.n8)
        have s18_151 := m151 _ _ (s18_148.n8)
        have s125_151 := m151 _ _ ((At.hit z148.p6 rfl).n1)
        have s126_151 := m151 _ _ (At.hit z148.p7 rfl)
        clear m151
        refine l_alloc rfl rfl zero24 ?_
        intro g19 w152 hg152 k152 h152
        have lt_g5_g19 := Nat.lt_of_lt_of_le (heap_lt kg5_150) hg152
        have lt_g11_g19 := Nat.lt_of_lt_of_le (heap_lt kg11_150) hg152
        have lt_g12_g19 := Nat.lt_of_lt_of_le (heap_lt kg12_150) hg152
        have lt_g17_g19 := Nat.lt_of_lt_of_le (heap_lt kg17_150) hg152
        have lt_g123_149_g19 := Nat.lt_of_lt_of_le (heap_lt kg123_149_150) hg152
        have geg19 := Nat.le_trans ((low148.trans h149).trans h150).ge hg152
        have kg5_152 := h152.blk kg5_150
        have kg11_152 := h152.blk kg11_150
        have kg12_152 := h152.blk kg12_150
        have kg17_152 := h152.blk kg17_150
        have kg123_149_152 := h152.blk kg123_149_150
        have ov_152 := ov_150.low h152
        have oz144_152 := oz144_150.low h152
        have oL149_152 := oL149_150.low h152
        have oz150_152 := o150.low h152
        refine l_row rfl rfl rfl (sz24.trans (congrArg some rfl)) (At.hit z151 rfl).ev (s125_151.n1).ev (one2 _ (RdF.one oz150_152.rd)) k152 rfl ?_
        intro w153 k153 u153
        have oz144_153 := oz144_152.upd u153 k152 rfl
        have oz150_153 := oz150_152.upd u153 k152 rfl
        have kg5_153 := u153.blk kg5_152 (by omega)
        have kg11_153 := u153.blk kg11_152 (by omega)
        have kg12_153 := u153.blk kg12_152 (by omega)
        have kg17_153 := u153.blk kg17_152 (by omega)
        have kg123_149_153 := u153.blk kg123_149_152 (by omega)
        refine l_q rfl (q_assign _ _ rfl (s126_151.n1).ev ?_)
        refine l_end (e_fresh z151.p2 ?_)
        intro a154 z154 m154
        have s1_154 := m154 _ _ (s1_151.n2)
        have s5_154 := m154 _ _ (s5_151.n2)
        have s17_154 := m154 _ _ (s17_151.n2)
        have s18_154 := m154 _ _ (s18_151.n2)
        have s19_154 := m154 _ _ ((At.hit z151 rfl).n1)
        have s20_154 := m154 _ _ (At.hit z151.put rfl)
        have low154 := ((((low148.trans h149).trans h150).trans h152).upd u153 geg19)
        clear m154
        refine e_then (c_seq (c_seq (c_region ?_)))
        refine l_q rfl (q_move _ _ rfl s18_154.ev ?_)
        refine l_q rfl (q_eql false rfl (At.hit z154 rfl).ev rfl (decide_eq_false (ap2_bad hd hr (fun e => hb21 e.symm) (fun c => hb41 c.1)).2) ?_)
        refine l_q rfl (q_move _ _ rfl (s20_154.n2).ev ?_)
        refine l_q rfl (q_eql false rfl (At.hit z154.p2 rfl).ev rfl (decide_eq_false (ap2_bad hd hr hb21 (fun c => hb41 c.2)).2) ?_)
        refine l_q rfl (q_boolne false rfl Tryd.underlying4 ((At.hit z154.put rfl).n2).ev (At.hit z154.p3 rfl).ev rfl ?_)
        refine l_q rfl (q_move _ _ rfl (At.hit z154.p4 rfl).ev ?_)
        refine l_qg (wanted_is (j := 5) (d := 132) (b := false) rfl rfl (At.hit z154.p5 rfl) rfl) (q_move _ _ rfl (s18_154.n6).ev ?_)
        refine l_qg (wanted_is (j := 5) (d := 132) (b := false) rfl rfl ((At.hit z154.p5 rfl).n1) rfl) (q_eql false rfl (At.hit z154.p6 rfl).ev rfl (decide_eq_false (ap2_bad hd hr (fun e => hb21 e.symm) (fun c => hb41 c.1)).2) ?_)
        refine l_fresh z154.p8 ?_
        intro a155 z155 m155
        have s1_155 := m155 _ _ (s1_154.n8)
        have s5_155 := m155 _ _ (s5_154.n8)
        have s17_155 := m155 _ _ (s17_154.n8)
        have s19_155 := m155 _ _ (s19_154.n8)
        have s132_155 := m155 _ _ ((At.hit z154.p5 rfl).n2)
        have s134_155 := m155 _ _ (At.hit z154.p7 rfl)
        clear m155
        refine l_qg (wanted_is (j := 5) (d := 132) (b := false) rfl rfl s132_155 rfl) (q_move _ _ rfl s134_155.ev ?_)
        refine l_skip (wanted_is (j := 8) (d := 135) (b := false) rfl rfl (At.hit z155 rfl) rfl) ?_
        refine l_skip (wanted_is (j := 8) (d := 135) (b := false) rfl rfl ((At.hit z155 rfl).n1) rfl) ?_
        refine l_skip (wanted_is (j := 8) (d := 135) (b := false) rfl rfl ((At.hit z155 rfl).n2) rfl) ?_
        refine l_skip (wanted_is (j := 8) (d := 135) (b := false) rfl rfl ((At.hit z155 rfl).n3) rfl) ?_
        refine l_qg (wanted_is (j := 5) (d := 132) (b := false) rfl rfl (s132_155.n5) rfl) (q_pick (b := false) (.bool false) rfl ((At.hit z155 rfl).n4).ev rfl ?_)
        refine l_q rfl (q_pick (b := false) (.bool false) rfl (s132_155.n6).ev (At.hit z155.p5 rfl).ev ?_)
        refine l_end (e_fresh z155.p7 ?_)
        intro a156 z156 m156
        have s1_156 := m156 _ _ (s1_155.n7)
        have s5_156 := m156 _ _ (s5_155.n7)
        have s141_156 := m156 _ _ (At.hit z155.p6 rfl)
        clear m156
        refine e_then (c_false s141_156 ?_)
        refine wp_skip (e_then (c_seq ?_))
        by_cases hb157 : errP (nsize 1) l (⟨n, getL l n, getL l n⟩ : Sw) = 0
        ·
         skip
         refine region_laid_tail 16 15 14 12 21 154 2 24 (TL [Is (.agg (#[.string hd, v])), Is (.string n), Is (.agg (#[.string hd, v])), Is (.string n), Is (.string (getL l n)), Is (.agg (#[.string hd, v])), Is (.string n), Is (.string (getL l n)), Is (.agg (#[.string n, .string (getL l n), .string (getL l n)])), RwT 32 [(⟨n, getL l n, getL l n⟩ : Sw)], ZT w153.heap.size hd l 0, ZT w153.heap.size hd l 0, StT w153.heap.size hd l, Is (.int .i64 0), AlX w153.heap.size 24 2, Tr]) hm (by kernel_rfl) (by kernel_rfl) z156 rfl rfl rfl rfl rfl al_x st_x (TL_cons ?_ (TL_cons ?_ (TL_cons ?_ (TL_cons ?_ (TL_cons ?_ (TL_cons ?_ (TL_cons ?_ (TL_cons ?_ (TL_cons ?_ (TL_cons ?_ (TL_cons ?_ (TL_cons ?_ (TL_cons ?_ (TL_cons ?_ (TL_cons ?_ (TL_cons ?_ TL_nil)))))))))))))))) (TU_cons ?_ (TU_cons ?_ (TU_cons ?_ (TU_cons ?_ (TU_cons ?_ (TU_cons ?_ (TU_cons ?_ (TU_cons ?_ (TU_cons ?_ (TU_cons ?_ (TU_cons ?_ (TU_cons ?_ (TU_cons ?_ (TU_cons ?_ (TU_cons ?_ (TU_cons ?_ TU_nil)))))))))))))))) (allM_cons ?_ (allM_cons ?_ (allM_cons ?_ (allM_cons ?_ (allM_cons ?_ (allM_cons ?_ (allM_cons ?_ (allM_cons ?_ (allM_cons ?_ (allM_cons ?_ (allM_cons ?_ (allM_cons ?_ (allM_cons ?_ (allM_cons ?_ (allM_cons ?_ (allM_skip rfl allM_nil)))))))))))))))) ?_
         ·
          exact StL_is _
         ·
          exact StL_is _
         ·
          exact StL_is _
         ·
          exact StL_is _
         ·
          exact StL_is _
         ·
          exact StL_is _
         ·
          exact StL_is _
         ·
          exact StL_is _
         ·
          exact StL_is _
         ·
          exact StL_rw _ _
         ·
          exact StL_z _ _ _ _
         ·
          exact StL_z _ _ _ _
         ·
          exact StL_st _ _ _
         ·
          exact StL_is _
         ·
          exact StL_ax _ _ _
         ·
          exact StL_tr
         ·
          exact StU_is _ _
         ·
          exact StU_is _ _
         ·
          exact StU_is _ _
         ·
          exact StU_is _ _
         ·
          exact StU_is _ _
         ·
          exact StU_is _ _
         ·
          exact StU_is _ _
         ·
          exact StU_is _ _
         ·
          exact StU_is _ _
         ·
          exact StU_rw _ (by decide)
         ·
          exact StU_z _ _ _ _ (by decide)
         ·
          exact StU_z _ _ _ _ (by decide)
         ·
          exact StU_st _ _ _ (by decide)
         ·
          exact StU_is _ _
         ·
          exact StU_ax _ _ _
         ·
          exact StU_tr _
         ·
          exact (stepS_val (.agg (#[.string hd, v])) _ rfl rfl rfl Low.refl (fun _ => rfl) fun a w z lw kp kn => q_row rfl Tryd.underlying24 rfl (sz24.trans (congrArg some rfl.symm)) (kp _ _ rfl s5_156).ev (fun _ e => by rw [e]; exact (lw.blk kg5_153)) rfl)
         ·
          exact (stepS_val (.string n) _ rfl rfl rfl Low.refl (fun _ => rfl) fun a w z lw kp kn => q_move _ _ rfl (kp _ _ rfl s1_156).ev rfl)
         ·
          exact (stepS_val (.agg (#[.string hd, v])) _ rfl rfl rfl Low.refl (fun _ => rfl) fun a w z lw kp kn => q_row rfl Tryd.underlying24 rfl (sz24.trans (congrArg some rfl.symm)) (kp _ _ rfl s5_156).ev (fun _ e => by rw [e]; exact (lw.blk kg5_153)) rfl)
         ·
          exact (stepS_val (.string n) _ rfl rfl rfl Low.refl (fun _ => rfl) fun a w z lw kp kn => q_move _ _ rfl (kp _ _ rfl s1_156).ev rfl)
         ·
          exact (stepS _ rfl rfl fun a w z lw kp kn => l_call (fun v w' => v = .string (getL l n) ∧ Low w w') rfl rfl rfl Tryd.func15 rfl (args2 rfl (at_is (u := .agg (#[.string hd, v])) (w := w) (kn 2 _ rfl rfl)).ev (at_is (u := .string n) (w := w) (kn 3 _ rfl rfl)).ev) ((Get.calls hd (v) l (by have := setP_len l n xa; have := setP_len l m xb; have := setP_len (setP l n xa) m xb; have := setP_len (setP l m xb) n xa; omega) n _ (RdF.low (hv.low ((((low148.trans h149).trans h150).trans h152).upd u153 geg19)) lw)).mono fun _ _ ⟨e, k⟩ => ⟨_, e, rfl, k⟩) fun _ _ hv => l_end ⟨_, rfl, hv.2, hv.1⟩)
         ·
          exact (stepS_val (.agg (#[.string hd, v])) _ rfl rfl rfl Low.refl (fun _ => rfl) fun a w z lw kp kn => q_row rfl Tryd.underlying24 rfl (sz24.trans (congrArg some rfl.symm)) (kp _ _ rfl s5_156).ev (fun _ e => by rw [e]; exact (lw.blk kg5_153)) rfl)
         ·
          exact (stepS_val (.string n) _ rfl rfl rfl Low.refl (fun _ => rfl) fun a w z lw kp kn => q_move _ _ rfl (kp _ _ rfl s1_156).ev rfl)
         ·
          exact (stepS _ rfl rfl fun a w z lw kp kn => l_call (fun v w' => v = .string (getL l n) ∧ Low w w') rfl rfl rfl Tryd.func15 rfl (args2 rfl (at_is (u := .agg (#[.string hd, v])) (w := w) (kn 5 _ rfl rfl)).ev (at_is (u := .string n) (w := w) (kn 6 _ rfl rfl)).ev) ((Get.calls hd (v) l (by have := setP_len l n xa; have := setP_len l m xb; have := setP_len (setP l n xa) m xb; have := setP_len (setP l m xb) n xa; omega) n _ (RdF.low (hv.low ((((low148.trans h149).trans h150).trans h152).upd u153 geg19)) lw)).mono fun _ _ ⟨e, k⟩ => ⟨_, e, rfl, k⟩) fun _ _ hv => l_end ⟨_, rfl, hv.2, hv.1⟩)
         ·
          exact (stepS_val (.agg (#[.string n, .string (getL l n), .string (getL l n)])) _ rfl rfl rfl Low.refl (fun _ => rfl) fun a w z lw kp kn => q_build (ps := #[(0, .string n), (1, .string (getL l n)), (2, .string (getL l n))]) rfl (parts3 (at_is (u := .string n) (w := w) (kn 1 _ rfl rfl)).ev (at_is (u := .string (getL l n)) (w := w) (kn 4 _ rfl rfl)).ev (at_is (u := .string (getL l n)) (w := w) (kn 7 _ rfl rfl)).ev) (built32_012 n (getL l n) (getL l n)) rfl)
         ·
          exact (stepS _ rfl rfl fun a w z lw kp kn => l_buildF (vs := [.string n, .string (getL l n), .string (getL l n)]) rfl rfl Tryd.underlying25 rec32 (at_is (u := .agg (#[.string n, .string (getL l n), .string (getL l n)])) (w := w) (kn 8 _ rfl rfl)).ev rfl rfl (by decide) (by decide) (fun g w' hg k h => l_end ⟨_, rfl, h, g, rfl, k⟩))
         ·
          exact (stepS _ rfl rfl fun a w z lw kp kn => Exists.elim (kn 9 _ rfl rfl) fun u hu => l_call (fun z w' => ZT w.heap.size hd l 0 z w' ∧ Low w w') rfl rfl rfl Tryd.func11 rfl (args3 rfl (at_is (u := .agg (#[.string hd, v])) (w := w) (kn 0 _ rfl rfl)).ev rfl hu.1.ev) ((ApplyR.calls hd (v) l 1 u ([(⟨n, getL l n, getL l n⟩ : Sw)]) (by simp; omega) (H := hd) (L := l) (E := 0) ⟨(ap1_ok hd hb157).1, (ap1_ok hd hb157).2.1.trans (set_same hr hf n), (ap1_ok hd hb157).2.2⟩ w (RdF.low (hv.low ((((low148.trans h149).trans h150).trans h152).upd u153 geg19)) lw) (RwT.rd hu.2) (Gd.low hG (Low.trans low154 lw))).mono fun _ _ ⟨z, e, hz, k⟩ => ⟨z, e, hz, k⟩) fun _ _ hv => l_end ⟨_, rfl, hv.2, ZT.base hv.1 lw.ge⟩)
         ·
          exact (stepS _ rfl rfl fun a w z lw kp kn => Exists.elim (kn 10 _ rfl rfl) fun u hu => l_q rfl (q_move _ _ rfl hu.1.ev (l_end ⟨_, rfl, Low.refl _, hu.2⟩)))
         ·
          exact (stepS _ rfl rfl fun a w z lw kp kn => Exists.elim (kn 11 _ rfl rfl) fun u hu => Exists.elim hu.2 fun x hx => l_q rfl (q_extract rfl (hu.1.same hx.1).ev rfl (l_end ⟨_, rfl, Low.refl _, x, rfl, hx.2⟩)))
         ·
          exact (stepS _ rfl rfl fun a w z lw kp kn => Exists.elim (kn 11 _ rfl rfl) fun u hu => Exists.elim hu.2 fun x hx => l_q rfl (q_extract rfl (hu.1.same hx.1).ev rfl (l_end ⟨_, rfl, Low.refl _, rfl⟩)))
         ·
          exact (stepS _ rfl rfl fun a w z lw kp kn => l_alloc rfl rfl zero24 (fun g w' hg k h => l_end ⟨_, rfl, h, g, _, rfl, Nat.le_trans lw.ge hg, k, rfl⟩))
         intro a158 w158 z158 h158 kp kn kl
         have s1_158 := kp _ _ rfl s1_156
         have s5_158 := kp _ _ rfl s5_156
         have s141_158 := kp _ _ rfl s141_156
         have s155_158 := at_is (u := .int .i64 0) (w := w158) (kn 13 _ rfl)
         obtain ⟨u158, su158, v158, rfl, o158⟩ := kn 12 _ rfl
         obtain ⟨g158, x158, sp158, sx158, hg158, k158⟩ := kl
         replace k158 := At.agg_at sx158 su158 k158
         clear kp kn
         have lt_g5_g158 := Nat.lt_of_lt_of_le (heap_lt kg5_153) hg158
         have geg158 := Nat.le_trans low154.ge hg158
         have kg5_158 := h158.blk kg5_153
         have ov_158 := (hv.low ((((low148.trans h149).trans h150).trans h152).upd u153 geg19)).low h158
         replace o158 := o158.base low154.ge
         simp only [List.drop_succ_cons, List.drop_zero]
         refine l_q rfl (q_assign _ _ rfl s155_158.ev ?_)
         refine l_end (e_fresh z158.put ?_)
         intro a159 z159 m159
         have s5_159 := m159 _ _ (s5_158.n1)
         have s21_159 := m159 _ _ (sp158.n1)
         have s22_159 := m159 _ _ (At.hit z158 rfl)
         have low159 := (low154.trans h158)
         clear m159
         refine e_then (c_seq (c_region ?_))
         refine l_q rfl (q_move _ _ rfl s22_159.ev ?_)
         refine l_q rfl (q_neq false rfl (At.hit z159 rfl).ev rfl (decide_eq_false (by omega)) ?_)
         refine l_q rfl (q_move _ _ rfl (At.hit z159.put rfl).ev ?_)
         refine l_qg (wanted_is (j := 2) (d := 158) (b := false) rfl rfl (At.hit z159.p2 rfl) rfl) (q_row rfl Tryd.underlying24 rfl (sz24.trans (congrArg some rfl.symm)) (s21_159.n3).ev (fun _ e => by rw [e]; exact k158) ?_)
         refine l_qg (wanted_is (j := 2) (d := 158) (b := false) rfl rfl ((At.hit z159.p2 rfl).n1) rfl) (q_row rfl Tryd.underlying24 rfl (sz24.trans (congrArg some rfl.symm)) (s5_159.n4).ev (fun _ e => by rw [e]; exact kg5_158) ?_)
         refine l_callg (fun v w' => v = .bool true ∧ Low w158 w') (wanted_is (j := 2) (d := 158) (b := false) rfl rfl ((At.hit z159.p2 rfl).n2) rfl) rfl rfl Tryd.func22 rfl (args2 rfl ((At.hit z159.p3 rfl).n1).ev (At.hit z159.p4 rfl).ev) (((calls_bool (Same.calls hd hd (v158) (v) l l (by have := setP_len l n xa; have := setP_len l m xb; have := setP_len (setP l n xa) m xb; have := setP_len (setP l m xb) n xa; omega) (by have := setP_len l n xa; have := setP_len l m xb; have := setP_len (setP l n xa) m xb; have := setP_len (setP l m xb) n xa; omega) _ o158.rd ov_158) (by unfold sameS; rw [decide_eq_true rfl, decide_eq_true rfl]; rfl))).mono fun _ _ ⟨e, k⟩ => ⟨_, e, rfl, k⟩) ?_
         rintro _ w160 ⟨rfl, h160⟩
         have kg5_160 := h160.blk kg5_158
         have kg158_160 := h160.blk k158
         have ov_160 := ov_158.low h160
         have ob158_160 := o158.low h160
         refine l_q rfl (q_pick (b := false) (.bool true) rfl ((At.hit z159.p2 rfl).n3).ev (At.hit z159.p5 rfl).ev ?_)
         refine l_q rfl (q_assign _ _ rfl (At.hit z159.p6 rfl).ev ?_)
         refine l_end (e_fresh z159.p8 ?_)
         intro a161 z161 m161
         have s10_161 := m161 _ _ (At.hit z159.p7 rfl)
         have low161 := (low159.trans h160)
         clear m161
         refine e_then (wp_ret (r_tmp rfl z161.defers s10_161 ?_))
         exact ⟨rfl, low161⟩
        ·
         skip
         refine region_laid_tail 16 15 14 12 21 154 2 24 (TL [Is (.agg (#[.string hd, v])), Is (.string n), Is (.agg (#[.string hd, v])), Is (.string n), Is (.string (getL l n)), Is (.agg (#[.string hd, v])), Is (.string n), Is (.string (getL l n)), Is (.agg (#[.string n, .string (getL l n), .string (getL l n)])), RwT 32 [(⟨n, getL l n, getL l n⟩ : Sw)], ZT w153.heap.size nilB ([] : List Rf) (errP (nsize 1) l (⟨n, getL l n, getL l n⟩ : Sw)), ZT w153.heap.size nilB ([] : List Rf) (errP (nsize 1) l (⟨n, getL l n, getL l n⟩ : Sw)), StT w153.heap.size nilB ([] : List Rf), Is (.int .i64 (errP (nsize 1) l (⟨n, getL l n, getL l n⟩ : Sw))), AlX w153.heap.size 24 2, Tr]) hm (by kernel_rfl) (by kernel_rfl) z156 rfl rfl rfl rfl rfl al_x st_x (TL_cons ?_ (TL_cons ?_ (TL_cons ?_ (TL_cons ?_ (TL_cons ?_ (TL_cons ?_ (TL_cons ?_ (TL_cons ?_ (TL_cons ?_ (TL_cons ?_ (TL_cons ?_ (TL_cons ?_ (TL_cons ?_ (TL_cons ?_ (TL_cons ?_ (TL_cons ?_ TL_nil)))))))))))))))) (TU_cons ?_ (TU_cons ?_ (TU_cons ?_ (TU_cons ?_ (TU_cons ?_ (TU_cons ?_ (TU_cons ?_ (TU_cons ?_ (TU_cons ?_ (TU_cons ?_ (TU_cons ?_ (TU_cons ?_ (TU_cons ?_ (TU_cons ?_ (TU_cons ?_ (TU_cons ?_ TU_nil)))))))))))))))) (allM_cons ?_ (allM_cons ?_ (allM_cons ?_ (allM_cons ?_ (allM_cons ?_ (allM_cons ?_ (allM_cons ?_ (allM_cons ?_ (allM_cons ?_ (allM_cons ?_ (allM_cons ?_ (allM_cons ?_ (allM_cons ?_ (allM_cons ?_ (allM_cons ?_ (allM_skip rfl allM_nil)))))))))))))))) ?_
         ·
          exact StL_is _
         ·
          exact StL_is _
         ·
          exact StL_is _
         ·
          exact StL_is _
         ·
          exact StL_is _
         ·
          exact StL_is _
         ·
          exact StL_is _
         ·
          exact StL_is _
         ·
          exact StL_is _
         ·
          exact StL_rw _ _
         ·
          exact StL_z _ _ _ _
         ·
          exact StL_z _ _ _ _
         ·
          exact StL_st _ _ _
         ·
          exact StL_is _
         ·
          exact StL_ax _ _ _
         ·
          exact StL_tr
         ·
          exact StU_is _ _
         ·
          exact StU_is _ _
         ·
          exact StU_is _ _
         ·
          exact StU_is _ _
         ·
          exact StU_is _ _
         ·
          exact StU_is _ _
         ·
          exact StU_is _ _
         ·
          exact StU_is _ _
         ·
          exact StU_is _ _
         ·
          exact StU_rw _ (by decide)
         ·
          exact StU_z _ _ _ _ (by decide)
         ·
          exact StU_z _ _ _ _ (by decide)
         ·
          exact StU_st _ _ _ (by decide)
         ·
          exact StU_is _ _
         ·
          exact StU_ax _ _ _
         ·
          exact StU_tr _
         ·
          exact (stepS_val (.agg (#[.string hd, v])) _ rfl rfl rfl Low.refl (fun _ => rfl) fun a w z lw kp kn => q_row rfl Tryd.underlying24 rfl (sz24.trans (congrArg some rfl.symm)) (kp _ _ rfl s5_156).ev (fun _ e => by rw [e]; exact (lw.blk kg5_153)) rfl)
         ·
          exact (stepS_val (.string n) _ rfl rfl rfl Low.refl (fun _ => rfl) fun a w z lw kp kn => q_move _ _ rfl (kp _ _ rfl s1_156).ev rfl)
         ·
          exact (stepS_val (.agg (#[.string hd, v])) _ rfl rfl rfl Low.refl (fun _ => rfl) fun a w z lw kp kn => q_row rfl Tryd.underlying24 rfl (sz24.trans (congrArg some rfl.symm)) (kp _ _ rfl s5_156).ev (fun _ e => by rw [e]; exact (lw.blk kg5_153)) rfl)
         ·
          exact (stepS_val (.string n) _ rfl rfl rfl Low.refl (fun _ => rfl) fun a w z lw kp kn => q_move _ _ rfl (kp _ _ rfl s1_156).ev rfl)
         ·
          exact (stepS _ rfl rfl fun a w z lw kp kn => l_call (fun v w' => v = .string (getL l n) ∧ Low w w') rfl rfl rfl Tryd.func15 rfl (args2 rfl (at_is (u := .agg (#[.string hd, v])) (w := w) (kn 2 _ rfl rfl)).ev (at_is (u := .string n) (w := w) (kn 3 _ rfl rfl)).ev) ((Get.calls hd (v) l (by have := setP_len l n xa; have := setP_len l m xb; have := setP_len (setP l n xa) m xb; have := setP_len (setP l m xb) n xa; omega) n _ (RdF.low (hv.low ((((low148.trans h149).trans h150).trans h152).upd u153 geg19)) lw)).mono fun _ _ ⟨e, k⟩ => ⟨_, e, rfl, k⟩) fun _ _ hv => l_end ⟨_, rfl, hv.2, hv.1⟩)
         ·
          exact (stepS_val (.agg (#[.string hd, v])) _ rfl rfl rfl Low.refl (fun _ => rfl) fun a w z lw kp kn => q_row rfl Tryd.underlying24 rfl (sz24.trans (congrArg some rfl.symm)) (kp _ _ rfl s5_156).ev (fun _ e => by rw [e]; exact (lw.blk kg5_153)) rfl)
         ·
          exact (stepS_val (.string n) _ rfl rfl rfl Low.refl (fun _ => rfl) fun a w z lw kp kn => q_move _ _ rfl (kp _ _ rfl s1_156).ev rfl)
         ·
          exact (stepS _ rfl rfl fun a w z lw kp kn => l_call (fun v w' => v = .string (getL l n) ∧ Low w w') rfl rfl rfl Tryd.func15 rfl (args2 rfl (at_is (u := .agg (#[.string hd, v])) (w := w) (kn 5 _ rfl rfl)).ev (at_is (u := .string n) (w := w) (kn 6 _ rfl rfl)).ev) ((Get.calls hd (v) l (by have := setP_len l n xa; have := setP_len l m xb; have := setP_len (setP l n xa) m xb; have := setP_len (setP l m xb) n xa; omega) n _ (RdF.low (hv.low ((((low148.trans h149).trans h150).trans h152).upd u153 geg19)) lw)).mono fun _ _ ⟨e, k⟩ => ⟨_, e, rfl, k⟩) fun _ _ hv => l_end ⟨_, rfl, hv.2, hv.1⟩)
         ·
          exact (stepS_val (.agg (#[.string n, .string (getL l n), .string (getL l n)])) _ rfl rfl rfl Low.refl (fun _ => rfl) fun a w z lw kp kn => q_build (ps := #[(0, .string n), (1, .string (getL l n)), (2, .string (getL l n))]) rfl (parts3 (at_is (u := .string n) (w := w) (kn 1 _ rfl rfl)).ev (at_is (u := .string (getL l n)) (w := w) (kn 4 _ rfl rfl)).ev (at_is (u := .string (getL l n)) (w := w) (kn 7 _ rfl rfl)).ev) (built32_012 n (getL l n) (getL l n)) rfl)
         ·
          exact (stepS _ rfl rfl fun a w z lw kp kn => l_buildF (vs := [.string n, .string (getL l n), .string (getL l n)]) rfl rfl Tryd.underlying25 rec32 (at_is (u := .agg (#[.string n, .string (getL l n), .string (getL l n)])) (w := w) (kn 8 _ rfl rfl)).ev rfl rfl (by decide) (by decide) (fun g w' hg k h => l_end ⟨_, rfl, h, g, rfl, k⟩))
         ·
          exact (stepS _ rfl rfl fun a w z lw kp kn => Exists.elim (kn 9 _ rfl rfl) fun u hu => l_call (fun z w' => ZT w.heap.size nilB ([] : List Rf) (errP (nsize 1) l (⟨n, getL l n, getL l n⟩ : Sw)) z w' ∧ Low w w') rfl rfl rfl Tryd.func11 rfl (args3 rfl (at_is (u := .agg (#[.string hd, v])) (w := w) (kn 0 _ rfl rfl)).ev rfl hu.1.ev) ((ApplyR.calls hd (v) l 1 u ([(⟨n, getL l n, getL l n⟩ : Sw)]) (by simp; omega) (H := nilB) (L := ([] : List Rf)) (E := (errP (nsize 1) l (⟨n, getL l n, getL l n⟩ : Sw))) (ap1_bad hd hb157) w (RdF.low (hv.low ((((low148.trans h149).trans h150).trans h152).upd u153 geg19)) lw) (RwT.rd hu.2) (Gd.low hG (Low.trans low154 lw))).mono fun _ _ ⟨z, e, hz, k⟩ => ⟨z, e, hz, k⟩) fun _ _ hv => l_end ⟨_, rfl, hv.2, ZT.base hv.1 lw.ge⟩)
         ·
          exact (stepS _ rfl rfl fun a w z lw kp kn => Exists.elim (kn 10 _ rfl rfl) fun u hu => l_q rfl (q_move _ _ rfl hu.1.ev (l_end ⟨_, rfl, Low.refl _, hu.2⟩)))
         ·
          exact (stepS _ rfl rfl fun a w z lw kp kn => Exists.elim (kn 11 _ rfl rfl) fun u hu => Exists.elim hu.2 fun x hx => l_q rfl (q_extract rfl (hu.1.same hx.1).ev rfl (l_end ⟨_, rfl, Low.refl _, x, rfl, hx.2⟩)))
         ·
          exact (stepS _ rfl rfl fun a w z lw kp kn => Exists.elim (kn 11 _ rfl rfl) fun u hu => Exists.elim hu.2 fun x hx => l_q rfl (q_extract rfl (hu.1.same hx.1).ev rfl (l_end ⟨_, rfl, Low.refl _, rfl⟩)))
         ·
          exact (stepS _ rfl rfl fun a w z lw kp kn => l_alloc rfl rfl zero24 (fun g w' hg k h => l_end ⟨_, rfl, h, g, _, rfl, Nat.le_trans lw.ge hg, k, rfl⟩))
         intro a162 w162 z162 h162 kp kn kl
         have s1_162 := kp _ _ rfl s1_156
         have s5_162 := kp _ _ rfl s5_156
         have s141_162 := kp _ _ rfl s141_156
         have s155_162 := at_is (u := .int .i64 (errP (nsize 1) l (⟨n, getL l n, getL l n⟩ : Sw))) (w := w162) (kn 13 _ rfl)
         obtain ⟨u162, su162, v162, rfl, o162⟩ := kn 12 _ rfl
         obtain ⟨g162, x162, sp162, sx162, hg162, k162⟩ := kl
         replace k162 := At.agg_at sx162 su162 k162
         clear kp kn
         have lt_g5_g162 := Nat.lt_of_lt_of_le (heap_lt kg5_153) hg162
         have geg162 := Nat.le_trans low154.ge hg162
         have kg5_162 := h162.blk kg5_153
         have ov_162 := (hv.low ((((low148.trans h149).trans h150).trans h152).upd u153 geg19)).low h162
         replace o162 := o162.base low154.ge
         simp only [List.drop_succ_cons, List.drop_zero]
         refine l_q rfl (q_assign _ _ rfl s155_162.ev ?_)
         refine l_end (e_fresh z162.put ?_)
         intro a163 z163 m163
         have s5_163 := m163 _ _ (s5_162.n1)
         have s21_163 := m163 _ _ (sp162.n1)
         have s22_163 := m163 _ _ (At.hit z162 rfl)
         have low163 := (low154.trans h162)
         clear m163
         refine e_then (c_seq (c_region ?_))
         refine l_q rfl (q_move _ _ rfl s22_163.ev ?_)
         refine l_q rfl (q_neq true rfl (At.hit z163 rfl).ev rfl (decide_eq_true hb157) ?_)
         refine l_q rfl (q_move _ _ rfl (At.hit z163.put rfl).ev ?_)
         refine l_skip (wanted_is (j := 2) (d := 158) (b := true) rfl rfl (At.hit z163.p2 rfl) rfl) ?_
         refine l_skip (wanted_is (j := 2) (d := 158) (b := true) rfl rfl ((At.hit z163.p2 rfl).n1) rfl) ?_
         refine l_skip (wanted_is (j := 2) (d := 158) (b := true) rfl rfl ((At.hit z163.p2 rfl).n2) rfl) ?_
         refine l_q rfl (q_pick (b := true) (.bool true) rfl ((At.hit z163.p2 rfl).n3).ev rfl ?_)
         refine l_q rfl (q_assign _ _ rfl (At.hit z163.p6 rfl).ev ?_)
         refine l_end (e_fresh z163.p8 ?_)
         intro a164 z164 m164
         have s10_164 := m164 _ _ (At.hit z163.p7 rfl)
         clear m164
         refine e_then (wp_ret (r_tmp rfl z164.defers s10_164 ?_))
         exact ⟨rfl, low163⟩
  ·
   skip
   refine c_region ?_
   refine l_q rfl (q_row rfl Tryd.underlying24 rfl (sz24.trans (congrArg some rfl.symm)) s5_4.ev (fun _ e => by rw [e]; exact kg5_3) ?_)
   refine l_call (fun v w' => v = .bool true ∧ Low w3 w') rfl rfl rfl Tryd.func8 rfl (args1 rfl (At.hit z4 rfl).ev) (((calls_bool (Few.calls hd (v) l _ ov_3) hb5)).mono fun _ _ ⟨e, k⟩ => ⟨_, e, rfl, k⟩) ?_
   rintro _ w165 ⟨rfl, h165⟩
   have kg5_165 := h165.blk kg5_3
   have ov_165 := ov_3.low h165
   refine l_q rfl (q_not (b := true) rfl (At.hit z4.put rfl).ev ?_)
   refine l_q rfl (q_move _ _ rfl (At.hit z4.p2 rfl).ev ?_)
   refine l_qg (wanted_is (j := 3) (d := 28) (b := false) rfl rfl (At.hit z4.p3 rfl) rfl) (q_row rfl Tryd.underlying24 rfl (sz24.trans (congrArg some rfl.symm)) (s5_4.n4).ev (fun _ e => by rw [e]; exact kg5_165) ?_)
   refine l_callg (fun v w' => v = .bool false ∧ Low w165 w') (wanted_is (j := 3) (d := 28) (b := false) rfl rfl ((At.hit z4.p3 rfl).n1) rfl) rfl rfl Tryd.func17 rfl (args2 rfl (At.hit z4.p4 rfl).ev rfl) (((calls_bool (RightS.calls hd (v) l (by have := (few_of hb5).1; omega) 1 _ ov_165 (Gd.low hG (low4.trans h165))) (eq_false_of_ne_true hb6))).mono fun _ _ ⟨e, k⟩ => ⟨_, e, rfl, k⟩) ?_
   rintro _ w166 ⟨rfl, h166⟩
   have kg5_166 := h166.blk kg5_165
   have ov_166 := ov_165.low h166
   refine l_qg (wanted_is (j := 3) (d := 28) (b := false) rfl rfl ((At.hit z4.p3 rfl).n2) rfl) (q_not (b := false) rfl (At.hit z4.p5 rfl).ev ?_)
   refine l_q rfl (q_pick (b := false) (.bool true) rfl ((At.hit z4.p3 rfl).n3).ev (At.hit z4.p6 rfl).ev ?_)
   refine l_fresh z4.p8 ?_
   intro a167 z167 m167
   have s1_167 := m167 _ _ (s1_4.n8)
   have s2_167 := m167 _ _ (s2_4.n8)
   have s3_167 := m167 _ _ (s3_4.n8)
   have s4_167 := m167 _ _ (s4_4.n8)
   have s5_167 := m167 _ _ (s5_4.n8)
   have s32_167 := m167 _ _ (At.hit z4.p7 rfl)
   clear m167
   refine l_q rfl (q_move _ _ rfl s32_167.ev ?_)
   refine l_skip (wanted_is (j := 8) (d := 33) (b := true) rfl rfl (At.hit z167 rfl) rfl) ?_
   refine l_skip (wanted_is (j := 8) (d := 33) (b := true) rfl rfl ((At.hit z167 rfl).n1) rfl) ?_
   refine l_skip (wanted_is (j := 8) (d := 33) (b := true) rfl rfl ((At.hit z167 rfl).n2) rfl) ?_
   refine l_q rfl (q_pick (b := true) (.bool true) rfl ((At.hit z167 rfl).n3).ev rfl ?_)
   refine l_q rfl (q_move _ _ rfl (At.hit z167.p4 rfl).ev ?_)
   refine l_skip (wanted_is (j := 13) (d := 38) (b := true) rfl rfl (At.hit z167.p5 rfl) rfl) ?_
   refine l_skip (wanted_is (j := 13) (d := 38) (b := true) rfl rfl ((At.hit z167.p5 rfl).n1) rfl) ?_
   refine l_fresh z167.p8 ?_
   intro a168 z168 m168
   have s1_168 := m168 _ _ (s1_167.n8)
   have s2_168 := m168 _ _ (s2_167.n8)
   have s3_168 := m168 _ _ (s3_167.n8)
   have s4_168 := m168 _ _ (s4_167.n8)
   have s5_168 := m168 _ _ (s5_167.n8)
   have s38_168 := m168 _ _ ((At.hit z167.p5 rfl).n2)
   have s40_168 := m168 _ _ (At.hit z167.p7 rfl)
   clear m168
   refine l_skip (wanted_is (j := 13) (d := 38) (b := true) rfl rfl s38_168 rfl) ?_
   refine l_q rfl (q_pick (b := true) (.bool true) rfl (s38_168.n1).ev rfl ?_)
   refine l_q rfl (q_move _ _ rfl (At.hit z168.put rfl).ev ?_)
   refine l_skip (wanted_is (j := 18) (d := 43) (b := true) rfl rfl (At.hit z168.p2 rfl) rfl) ?_
   refine l_skip (wanted_is (j := 18) (d := 43) (b := true) rfl rfl ((At.hit z168.p2 rfl).n1) rfl) ?_
   refine l_skip (wanted_is (j := 18) (d := 43) (b := true) rfl rfl ((At.hit z168.p2 rfl).n2) rfl) ?_
   refine l_q rfl (q_pick (b := true) (.bool true) rfl ((At.hit z168.p2 rfl).n3).ev rfl ?_)
   refine l_end (e_fresh z168.p7 ?_)
   intro a169 z169 m169
   have s1_169 := m169 _ _ (s1_168.n7)
   have s2_169 := m169 _ _ (s2_168.n7)
   have s3_169 := m169 _ _ (s3_168.n7)
   have s4_169 := m169 _ _ (s4_168.n7)
   have s5_169 := m169 _ _ (s5_168.n7)
   have s47_169 := m169 _ _ (At.hit z168.p6 rfl)
   have low169 := ((low4.trans h165).trans h166)
   clear m169
   refine e_then (c_true s47_169 ?_)
   refine c_seq (c_region ?_)
   refine l_q rfl (q_assign _ _ rfl rfl ?_)
   refine l_end (e_fresh z169.put ?_)
   intro a170 z170 m170
   have s10_170 := m170 _ _ (At.hit z169 rfl)
   clear m170
   refine e_then (wp_ret (ret_then (r_tmp rfl z170.defers s10_170 ?_)))
   exact ⟨rfl, low169⟩
 ·
  skip
  refine c_region ?_
  refine l_q rfl (q_row rfl Tryd.underlying24 rfl (sz24.trans (congrArg some rfl.symm)) s5_4.ev (fun _ e => by rw [e]; exact kg5_3) ?_)
  refine l_call (fun v w' => v = .bool false ∧ Low w3 w') rfl rfl rfl Tryd.func8 rfl (args1 rfl (At.hit z4 rfl).ev) (((calls_bool (Few.calls hd (v) l _ ov_3) (eq_false_of_ne_true hb5))).mono fun _ _ ⟨e, k⟩ => ⟨_, e, rfl, k⟩) ?_
  rintro _ w171 ⟨rfl, h171⟩
  have kg5_171 := h171.blk kg5_3
  have ov_171 := ov_3.low h171
  refine l_q rfl (q_not (b := false) rfl (At.hit z4.put rfl).ev ?_)
  refine l_q rfl (q_move _ _ rfl (At.hit z4.p2 rfl).ev ?_)
  refine l_skip (wanted_is (j := 3) (d := 28) (b := true) rfl rfl (At.hit z4.p3 rfl) rfl) ?_
  refine l_skip (wanted_is (j := 3) (d := 28) (b := true) rfl rfl ((At.hit z4.p3 rfl).n1) rfl) ?_
  refine l_skip (wanted_is (j := 3) (d := 28) (b := true) rfl rfl ((At.hit z4.p3 rfl).n2) rfl) ?_
  refine l_q rfl (q_pick (b := true) (.bool true) rfl ((At.hit z4.p3 rfl).n3).ev rfl ?_)
  refine l_fresh z4.p8 ?_
  intro a172 z172 m172
  have s1_172 := m172 _ _ (s1_4.n8)
  have s2_172 := m172 _ _ (s2_4.n8)
  have s3_172 := m172 _ _ (s3_4.n8)
  have s4_172 := m172 _ _ (s4_4.n8)
  have s5_172 := m172 _ _ (s5_4.n8)
  have s32_172 := m172 _ _ (At.hit z4.p7 rfl)
  clear m172
  refine l_q rfl (q_move _ _ rfl s32_172.ev ?_)
  refine l_skip (wanted_is (j := 8) (d := 33) (b := true) rfl rfl (At.hit z172 rfl) rfl) ?_
  refine l_skip (wanted_is (j := 8) (d := 33) (b := true) rfl rfl ((At.hit z172 rfl).n1) rfl) ?_
  refine l_skip (wanted_is (j := 8) (d := 33) (b := true) rfl rfl ((At.hit z172 rfl).n2) rfl) ?_
  refine l_q rfl (q_pick (b := true) (.bool true) rfl ((At.hit z172 rfl).n3).ev rfl ?_)
  refine l_q rfl (q_move _ _ rfl (At.hit z172.p4 rfl).ev ?_)
  refine l_skip (wanted_is (j := 13) (d := 38) (b := true) rfl rfl (At.hit z172.p5 rfl) rfl) ?_
  refine l_skip (wanted_is (j := 13) (d := 38) (b := true) rfl rfl ((At.hit z172.p5 rfl).n1) rfl) ?_
  refine l_fresh z172.p8 ?_
  intro a173 z173 m173
  have s1_173 := m173 _ _ (s1_172.n8)
  have s2_173 := m173 _ _ (s2_172.n8)
  have s3_173 := m173 _ _ (s3_172.n8)
  have s4_173 := m173 _ _ (s4_172.n8)
  have s5_173 := m173 _ _ (s5_172.n8)
  have s38_173 := m173 _ _ ((At.hit z172.p5 rfl).n2)
  have s40_173 := m173 _ _ (At.hit z172.p7 rfl)
  clear m173
  refine l_skip (wanted_is (j := 13) (d := 38) (b := true) rfl rfl s38_173 rfl) ?_
  refine l_q rfl (q_pick (b := true) (.bool true) rfl (s38_173.n1).ev rfl ?_)
  refine l_q rfl (q_move _ _ rfl (At.hit z173.put rfl).ev ?_)
  refine l_skip (wanted_is (j := 18) (d := 43) (b := true) rfl rfl (At.hit z173.p2 rfl) rfl) ?_
  refine l_skip (wanted_is (j := 18) (d := 43) (b := true) rfl rfl ((At.hit z173.p2 rfl).n1) rfl) ?_
  refine l_skip (wanted_is (j := 18) (d := 43) (b := true) rfl rfl ((At.hit z173.p2 rfl).n2) rfl) ?_
  refine l_q rfl (q_pick (b := true) (.bool true) rfl ((At.hit z173.p2 rfl).n3).ev rfl ?_)
  refine l_end (e_fresh z173.p7 ?_)
  intro a174 z174 m174
  have s1_174 := m174 _ _ (s1_173.n7)
  have s2_174 := m174 _ _ (s2_173.n7)
  have s3_174 := m174 _ _ (s3_173.n7)
  have s4_174 := m174 _ _ (s4_173.n7)
  have s5_174 := m174 _ _ (s5_173.n7)
  have s47_174 := m174 _ _ (At.hit z173.p6 rfl)
  have low174 := (low4.trans h171)
  clear m174
  refine e_then (c_true s47_174 ?_)
  refine c_seq (c_region ?_)
  refine l_q rfl (q_assign _ _ rfl rfl ?_)
  refine l_end (e_fresh z174.put ?_)
  intro a175 z175 m175
  have s10_175 := m175 _ _ (At.hit z174 rfl)
  clear m175
  refine e_then (wp_ret (ret_then (r_tmp rfl z175.defers s10_175 ?_)))
  exact ⟨rfl, low174⟩
end Go.Proofs.YtnhchnlgleokoaaDoor.Q
end
/-! R0 -/
section
namespace Go.Proofs.YtnhchnlgleokoaaDoor.R
open Go.ChangeShapes Go.WideShapes Go.RowKit Go.Proofs.YtnhchnlgleokoaaDoorW.PrintWords
end Go.Proofs.YtnhchnlgleokoaaDoor.R
end
/-! R6 -/
section
namespace Go.Proofs.YtnhchnlgleokoaaDoor.R
open Go.ChangeShapes Go.WideShapes Go.RowKit Go.Joins Go.Deep Go.WideElems Go.Maps Go.Proofs.YtnhchnlgleokoaaDoor.Q
theorem open_recs {H : Type} {enc : TypeId × Value → H} {P : Program} {W : World} {base : Nat} {spare : Nat → Bool} {held : Bool} {t e : TypeId} {a : Option Addr} {len cap sz : Nat} {d : DataW H × List MemPlace} {fuel : Nat} {α : Type} {en : α → List Value} (z : α)
    (he : ∀ x, (en x).length = sz) (hp : 0 < sz) (hu : P.underlying t = some (.slice e)) (hC : P.cellsOf e = sz)
    (each : ∀ (n : Nat) (cs : List Value) (y : DataW H × List MemPlace), cs.length = sz → DataW.trod enc P W base spare held n e cs = some y → ∃ x : α, en x = cs)
    (hf : DataW.trod enc P W base spare held fuel t [.slice a len cap] = some d) :
    ∃ l : List α, len = l.length ∧ RdF W sz (.slice a len cap) l.length (l.map en).flatten := by
  rcases DataW.trod_slice hu hf with ⟨hcs, _⟩ | ⟨x, n, c, elems, rest, m, _, hcs, _, _, hl, hm, hlen, hel, _⟩
  · simp at hcs
    obtain ⟨rfl, rfl, rfl⟩ := hcs
    exact ⟨[], rfl, (OwnF.nil W 0 0 sz).rd⟩
  · simp at hcs
    obtain ⟨rfl, rfl, rfl⟩ := hcs
    have each' : ∀ i, i < len → ∃ y : α, ∀ k u, (en y)[k]? = some u → W.cell? (x.add (i * sz + k)) = some u := by
      intro i hi
      have hx : elems[i]? = some (elems[i]'(by omega)) := List.getElem?_eq_getElem (by omega)
      have hb := hel i hi
      rw [hx, Option.bind_eq_some_iff] at hb
      obtain ⟨cs, hcells, hd⟩ := hb
      obtain ⟨_, hln, hcell⟩ := World.cells?_some hcells
      rw [hC] at hln hcell
      obtain ⟨y, hy⟩ := each _ cs _ hln hd
      refine ⟨y, fun k u hk => ?_⟩
      rw [hy] at hk
      have hk3 : k < sz := by rw [← hln]; exact (List.getElem?_eq_some_iff.1 hk).1
      have := hcell k hk3
      rw [Addr.add_add] at this
      rw [this]
      exact hk
    let f : Fin len → α := fun i => Classical.choose (each' i.val i.isLt)
    have hfs : ∀ i : Fin len, ∀ k u, (en (f i))[k]? = some u → W.cell? (x.add (i.val * sz + k)) = some u := fun i => Classical.choose_spec (each' i.val i.isLt)
    have hlL : (List.ofFn f).length = len := by simp
    have hg : ∀ i, (hi : i < len) → (List.ofFn f).getD i z = f ⟨i, hi⟩ := fun i hi => by simp [List.getD_eq_getElem?_getD, hi]
    have hall : ∀ j u, ((List.ofFn f).map en).flatten[j]? = some u → W.cell? (x.add j) = some u := by
      intro j u hj
      have hlt : j < len * sz := by
        have := (List.getElem?_eq_some_iff.1 hj).1
        rw [flat_len he, hlL] at this
        exact this
      have hq : j / sz < len := (Nat.div_lt_iff_lt_mul hp).2 hlt
      have e : j = j / sz * sz + j % sz := by rw [Nat.mul_comm]; exact (Nat.div_add_mod j sz).symm
      rw [e, flat_at he z _ _ _ (by rw [hlL]; exact hq) (Nat.mod_lt _ hp), hg _ hq] at hj
      rw [e]
      exact hfs ⟨j / sz, hq⟩ _ _ hj
    refine ⟨List.ofFn f, hlL.symm, ?_⟩
    rw [hlL]
    refine ⟨by rw [flat_len he, hlL], some x, cap, rfl, hl, fun hp' => ?_⟩
    have hu0 : ∃ u, (en ((List.ofFn f).getD 0 z))[0]? = some u := ⟨_, List.getElem?_eq_getElem (by rw [he]; exact hp)⟩
    obtain ⟨u0, hu0⟩ := hu0
    have hc0 := hall 0 u0 (by
      have := flat_at he z (List.ofFn f) 0 0 (by rw [hlL]; exact hp') hp
      rw [Nat.zero_mul, Nat.add_zero] at this
      rw [this]
      exact hu0)
    have hx0 : x.add 0 = x := by simp [Addr.add]
    rw [hx0] at hc0
    have hsp := World.cell?_spot hc0
    obtain ⟨xb, xo, xs⟩ := x
    cases hsp
    exact ⟨xb, xo, rfl, World.block_lt_of_cell? _ _ hc0, fun j u hj => by rw [← Addr.add_mid]; exact hall j u hj⟩
theorem each_two {H : Type} {enc : TypeId × Value → H} {P : Program} {W : World} {base : Nat} {spare : Nat → Bool} {held : Bool} {e : TypeId} {f0 f1 : Field} (hs : P.underlying e = some (.struct #[f0, f1])) (hone : oneCellFields P #[f0, f1] = true)
    (h0 : P.underlying f0.type = some .string) (h1 : P.underlying f1.type = some .string) (n : Nat) (cs : List Value) (y : DataW H × List MemPlace) (hl : cs.length = 2) (hd : DataW.trod enc P W base spare held n e cs = some y) : ∃ x : Rf, encP x = cs := by
  match cs, hl with
  | [c0, c1], _ =>
    obtain ⟨y0, y1, q, _, _, g0, g1⟩ := trod_struct2 hs hd
    obtain ⟨o0, k0⟩ := hone_of hone 0 f0 rfl
    obtain ⟨o1, k1⟩ := hone_of hone 1 f1 rfl
    obtain ⟨s0, e0, _, _⟩ := DataW.trod_string h0 (by simpa [o0, k0] using g0 : DataW.trod enc P W base spare held q f0.type [c0] = some y0)
    obtain ⟨s1, e1, _, _⟩ := DataW.trod_string h1 (by simpa [o1, k1] using g1 : DataW.trod enc P W base spare held q f1.type [c1] = some y1)
    injection e0 with e0; injection e1 with e1
    subst e0; subst e1
    exact ⟨⟨s0, s1⟩, rfl⟩
/-- a state -/
theorem open_state {H : Type} {enc : TypeId × Value → H} {P : Program} {W : World} {base : Nat} {spare : Nat → Bool} {held : Bool} {r : Reach} {b0 : Nat} {t e : TypeId} {g0 g1 f0 f1 : Field} {v : Value} {d : DataW H} {p : List MemPlace}
    (hs : P.underlying t = some (.struct #[g0, g1])) (hone : oneCellFields P #[g0, g1] = true) (hC : P.cellsOf t = 2)
    (k0 : P.underlying g0.type = some .string) (k1 : P.underlying g1.type = some (.slice e)) (he : P.underlying e = some (.struct #[f0, f1])) (hone' : oneCellFields P #[f0, f1] = true) (hC' : P.cellsOf e = 2)
    (h0 : P.underlying f0.type = some .string) (h1 : P.underlying f1.type = some .string)
    (hv : Value.okWide P W r b0 t v) (h : DataW.Trod enc P W base spare held t v d p) :
    ∃ (x : ByteArray) (u : Value) (l : List Rf), v = .agg #[.string x, u] ∧ RdF W 2 u l.length (l.map encP).flatten := by
  obtain ⟨v0, v1, y0, y1, n, rfl, -, -, q0, q1⟩ := open_agg2 hs hone hC hv h
  obtain ⟨x, hx, -, -⟩ := DataW.trod_string k0 q0
  obtain ⟨A, len, cap, hA⟩ := slice_form k1 q1
  obtain rfl := (List.cons.inj hx).1
  obtain rfl := (List.cons.inj hA).1
  obtain ⟨l, _, hl⟩ := open_recs (⟨nilB, nilB⟩ : Rf) encP_len (by decide) k1 hC' (each_two he hone' h0 h1) q1
  exact ⟨x, _, l, rfl, hl⟩
theorem handed_and_shaped {H : Type} {enc : TypeId × Value → H} {a : Assume} {C : Checked} {os : Os} {f : FuncId} {fn : Func} {s : ChangeSpec} {conds : List PathCond} {apart fresh handsOn again : Bool} {X : World → Array Value → Prop}
    (hX : ∀ (w w' : World) (args : Array Value), w.heap = w'.heap → X w args → X w' args)
    (own : ownKnob C.prog.godebug = none) (started : os.Started) (noInit : C.prog.inits.idxOf? f = none) (hfn : C.prog.funcs[f]? = some fn)
    (witness : ∃ (w : World) (tape : Tape) (i : Input), w.os = os ∧ (w.forCall tape i).Shaped C.prog ∧ i.vars = [] ∧ Input.okWide C.prog (w.forCall tape i) .any w.heap.size f i ∧
      ((s.pre enc C.prog fn conds apart (w.forCall tape i).memory i.args ∧ X (w.forCall tape i).memory i.args) ∧ sizedMet enc C.prog fn (OpenSpec.ofChange s) apart (w.forCall tape i).memory i.args) ∧ a.holds C.prog (lone (Frame.enter C.prog f i.args .normal) [] (w.forCall tape i)))
    (contract : ∀ (W : World) (base : Nat) (args : Array Value) (ds gs : List (DataW H)) (before : List MemPlace),
      (∀ (j : Nat) t v, fn.params[j]? = some t → args[j]? = some v → Value.okWide C.prog W .any base t v) →
      DataW.Whole enc C.prog fn.params.toList s.vars apart W args.toList ds gs before →
      conds.all (PathCond.test C.prog ⟨fn.params.toList, ds, s.plain.varTypes C.prog, gs⟩) = true →
      (DataW.weightsEach C.prog (fn.params.toList ++ s.plain.varTypes C.prog) (ds ++ gs)).all (· ≤ reachBytes) = true → X W args → W.ShapedOpen C.prog →
      a.holds C.prog (lone (Frame.enter C.prog f args .normal) [] W) →
      Calls C.prog f args W fun e W' => ∃ v, e = .returned v ∧ s.post enc C.prog fn apart fresh handsOn again W args v W') :
    ReturnsInHanded a C os f .any (fun w args => (s.pre enc C.prog fn conds apart w args ∧ X w args) ∧ sizedMet enc C.prog fn (OpenSpec.ofChange s) apart w args) (s.post enc C.prog fn apart fresh handsOn again) := by
  refine returnsInHanded_of_calls own started noInit witness ?_
  intro w tape i _ hsh _ hok hpre hholds
  obtain ⟨_, _, _, fn', hfn', _, _, _, _, hval⟩ := hok
  have e : fn' = fn := Option.some.inj (hfn'.symm.trans hfn)
  subst e
  obtain ⟨⟨⟨ds, gs, before, hw, hc⟩, hx⟩, hz⟩ := hpre
  have hw' := DataW.Whole.of_heap (w' := w.forCall tape i) (by rfl) hw
  refine (contract (w.forCall tape i) w.heap.size i.args ds gs before hval hw' hc (hz.weights hw) (hX _ _ _ (by rfl) hx) hsh hholds).mono fun e W' ⟨v, he, hp⟩ => ?_
  subst he
  exact ChangeSpec.post_blind hp
theorem gd_shape {W : World} (h : W.ShapedOpen Tryd.prog) : Q.Gd W :=
  cell_of_shapedOpen_int (g := 0) (t := 3) (zero := #[.int .i64 0]) (k := .i64) h (of_decide_eq_true (by kernel_rfl)) (by kernel_rfl) rfl (by kernel_rfl) (by kernel_rfl) Tryd.underlying3
end Go.Proofs.YtnhchnlgleokoaaDoor.R
end
