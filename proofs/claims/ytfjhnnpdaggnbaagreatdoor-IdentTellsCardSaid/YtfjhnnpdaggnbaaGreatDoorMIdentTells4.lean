/- Merged out of this session's texts by a program (wip/gen/merge.py): declarations that this claim doesn't name are left out. -/
import Derived.Test.YtfjhnnpdaggnbaaGreatDoorMIdentTells3
import Derived.Lib.LaidTab
import Derived.Lib.SmallJoins
import Derived.Lib.ItoaLen
import Derived.Lib.AppendIntMem
import Derived.WalkSmall
import Derived.WalkSpells
set_option linter.unusedVariables false
set_option linter.unusedSimpArgs false
/-! G2 -/
section
namespace Go.Proofs.YtfjhnnpdaggnbaaGreatDoor.Q
open Go.Proofs.YtfjhnnpdaggnbaaGreatDoorW.PrintWords (bytesOf bytesOf_length)
open Go.RowKit Go.Proofs.YtfjhnnpdaggnbaaGreatDoor.P
set_option linter.unusedVariables false
set_option linter.unusedSimpArgs false
set_option maxRecDepth 100000
set_option maxHeartbeats 4000000
attribute [local irreducible] wpList wpQuiet qch Code.wp Oper.quiet Act.put At Region.wanted yielded
theorem made_32 : madeCells #[.int .u8 0] 32 = nums .u8 (List.replicate 32 0) := by kernel_rfl
def lit80 : ByteArray := ⟨#[128]⟩
def lit0 : ByteArray := ⟨#[0]⟩
def nW (n : Int) (x : ByteArray) : Int := IntKind.u64.wrap (n + IntKind.u64.wrap ((x.size : Nat) : Int))
def zN (T : ByteArray) : Nat := (119 - T.size % 64) % 64
def TZ (T : ByteArray) : Nat → ByteArray
  | 0 => T ++ lit80
  | k + 1 => TZ T k ++ lit0
theorem TZ_size (T : ByteArray) : ∀ k, (TZ T k).size = T.size + 1 + k
  | 0 => by rw [TZ, ByteArray.size_append]; rfl
  | k + 1 => by rw [TZ, ByteArray.size_append, TZ_size T k]; rfl
theorem zN_yes (T : ByteArray) (k : Nat) (h : k < zN T) : ((TZ T k).size % 64 : Nat) ≠ 56 := by rw [TZ_size]; unfold zN at h; omega
theorem zN_no (T : ByteArray) : ((TZ T (zN T)).size % 64 : Nat) = 56 := by rw [TZ_size]; unfold zN; omega
def nZ (n : Int) : Nat → Int
  | 0 => nW n lit80
  | k + 1 => nW (nZ n k) lit0
def lenS (n : Int) (k : Nat) : ByteArray := strOfNums [lenB n k]
def TLn (T : ByteArray) (n : Int) : Nat → ByteArray
  | 0 => TZ T (zN T)
  | k + 1 => TLn T n k ++ lenS n k
def nL (T : ByteArray) (n : Int) : Nat → Int
  | 0 => nZ n (zN T)
  | k + 1 => nW (nL T n k) (lenS n k)
def outI (x : Int) (l : List Int) : Nat → List Int
  | 0 => l
  | i + 1 => outI x l i ++ [IntKind.u8.wrap (x.fdiv (2 ^ min (24 - 8 * ((i : Nat) : Int)).toNat 32))]
theorem outI_len (x : Int) (l : List Int) (m : Nat) (h : l.length = m) : ∀ i, (outI x l i).length = m + i
  | 0 => h
  | i + 1 => by rw [outI, List.length_append, outI_len x l m h i]; rfl
def out8 (c : List Int) : Nat → List Int
  | 0 => []
  | k + 1 => outI (c.getD k 0) (out8 c k) 4
theorem out8_len (c : List Int) : ∀ k, (out8 c k).length = 4 * k
  | 0 => rfl
  | k + 1 => (outI_len _ _ _ (out8_len c k) 4).trans (by omega)
def sum2 (T : ByteArray) (n : Int) : ByteArray := strOfNums (out8 (chTx (TLn T n 8)) 8)
theorem sum2_size (T : ByteArray) (n : Int) : (sum2 T n).size = 32 := by rw [sum2, strOfNums_size, out8_len]
theorem New2.calls (w0 : World) : Calls Tryz.prog 38 #[] w0 fun e w' => ∃ v, e = .returned v ∧ ∃ g, v = .pointer (some ⟨g, 0, none⟩) ∧ w0.heap.size ≤ g ∧ w'.heap[g]? = some (.cells (s2C (chTx (⟨#[]⟩ : ByteArray)) (blkOf (⟨#[]⟩ : ByteArray)) ((((⟨#[]⟩ : ByteArray).size % 64) : Nat) : Int) 0) 89) ∧ Low w0 w' := by
 refine c_fun (R := _) Tryz.func38 rfl 4 rfl (Nat.le_of_ble_eq_true rfl) ?_
 intro a z hA
 clear hA
 refine c_seq (c_region ?_)
 refine l_q rfl (q_assign _ _ rfl rfl ?_)
 refine l_end (e_fresh z.put ?_)
 intro a1 z1 m1
 clear m1
 refine e_then (c_seq (c_region ?_))
 refine l_q rfl (q_build (cs := nums .u32 ch256) rfl rfl (by kernel_rfl) ?_)
 refine l_q rfl (q_build rfl (parts1 (At.hit z1 rfl).ev) (cs := s2C ch256 (List.replicate 64 0) 0 0) (by kernel_rfl) ?_)
 refine l_box rfl rfl (At.hit z1.put rfl).ev ?_
 intro g3 w2 hg2 k2 h2
 have geg3 := Nat.le_trans (Low.refl _).ge hg2
 refine l_q rfl (q_assign _ _ rfl (At.hit z1.p2 rfl).ev ?_)
 refine l_end (e_fresh z1.p4 ?_)
 intro a3 z3 m3
 have s0_3 := m3 _ _ (At.hit z1.p3 rfl)
 have low3 := h2
 clear m3
 refine e_then (wp_ret (r_tmp rfl z3.defers s0_3 ?_))
 exact ⟨_, rfl, _, rfl, geg3, k2, low3⟩
theorem Copy2.calls (c b : List Int) (hc : c.length = 8) (hb : b.length = 64) (f n : Int) (gs : Nat) (w0 : World) (ks : w0.heap[gs]? = some (.cells (s2C c b f n) 89)) : Calls Tryz.prog 59 #[.pointer (some ⟨gs, 0, none⟩)] w0 fun e w' => ∃ v, e = .returned v ∧ ∃ g, v = .pointer (some ⟨g, 0, none⟩) ∧ w0.heap.size ≤ g ∧ w'.heap[g]? = some (.cells (s2C c b f n) 89) ∧ Low w0 w' := by
 refine c_fun (R := _) Tryz.func59 rfl 7 rfl (Nat.le_of_ble_eq_true rfl) ?_
 intro a z hA
 have s0 := hA 0 _ rfl
 clear hA
 refine c_seq (c_region ?_)
 refine l_q rfl (q_assign _ _ rfl rfl ?_)
 refine l_end (e_fresh z.put ?_)
 intro a1 z1 m1
 have s0_1 := m1 _ _ (s0.n1)
 clear m1
 refine e_then (c_seq (c_region ?_))
 refine l_q rfl (q_move _ _ rfl s0_1.ev ?_)
 refine l_q rfl (q_nil rfl (At.hit z1 rfl).ev ?_)
 refine l_q rfl (q_row rfl Tryz.underlying89 rfl (sz89.trans (congrArg some (s2C_size hc hb).symm)) (At.hit z1.put rfl).ev (fun _ e => by rw [e]; exact ks) ?_)
 refine l_alloc rfl rfl zero89 ?_
 intro g3 w2 hg2 k2 h2
 have ngs_g3 := Nat.ne_of_lt (Nat.lt_of_lt_of_le (heap_lt ks) hg2)
 have geg3 := Nat.le_trans (Low.refl _).ge hg2
 have kgs_2 := h2.blk ks
 refine l_row rfl rfl rfl (sz89.trans (congrArg some (s2C_size hc hb).symm)) (At.hit z1.p3 rfl).ev ((At.hit z1.p2 rfl).n1).ev s2C_one k2 ((s2C_size List.length_replicate List.length_replicate).trans (s2C_size hc hb).symm) ?_
 intro w3 k3 u3
 have kgs_3 := u3.blk kgs_2 (by omega)
 refine l_end (e_fresh z1.p4 ?_)
 intro a4 z4 m4
 have s3_4 := m4 _ _ (At.hit z1.p3 rfl)
 have low4 := (h2.upd u3 geg3)
 clear m4
 refine e_then (c_seq (c_region ?_))
 refine l_q rfl (q_assign _ _ rfl s3_4.ev ?_)
 refine l_end (e_fresh z4.put ?_)
 intro a5 z5 m5
 have s2_5 := m5 _ _ (At.hit z4 rfl)
 clear m5
 refine e_then (wp_ret (r_tmp rfl z5.defers s2_5 ?_))
 exact ⟨_, rfl, _, rfl, geg3, k3, low4⟩
theorem Write2.calls (T : ByteArray) (n : Int) (x : ByteArray) (hx : x.size ≤ 140737488350000) (gs gp : Nat) (hne : gp ≠ gs) (w0 wi : World) (low : Low w0 wi) (hge : w0.heap.size ≤ gs) (ks : wi.heap[gs]? = some (.cells (s2C (chTx T) (blkOf T) (((T.size % 64) : Nat) : Int) n) 89)) (kp : wi.heap[gp]? = some (.cells #[.string x] 9)) : Calls Tryz.prog 39 #[.pointer (some ⟨gs, 0, none⟩), .slice (some ⟨gp, 0, none⟩) 1 1] wi fun e w' => ∃ v', e = .returned v' ∧ w'.heap[gs]? = some (.cells (s2C (chTx (T ++ x)) (blkOf (T ++ x)) ((((T ++ x).size % 64) : Nat) : Int) (nW n x)) 89) ∧ Low w0 w' := by
 refine c_fun (R := _) Tryz.func39 rfl 55 rfl (Nat.le_of_ble_eq_true rfl) ?_
 intro a z hA
 have s0 := hA 0 _ rfl
 have s1 := hA 1 _ rfl
 clear hA
 refine c_seq (c_region ?_)
 refine l_q rfl (q_move _ _ rfl s1.ev ?_)
 refine l_q rfl (q_lenL rfl rfl Tryz.underlying51 (At.hit z rfl).ev ?_)
 refine l_q rfl (q_move _ _ rfl rfl ?_)
 refine l_end (e_fresh z.p3 ?_)
 intro a1 z1 m1
 have s0_1 := m1 _ _ (s0.n3)
 have s7_1 := m1 _ _ ((At.hit z rfl).n2)
 have s8_1 := m1 _ _ ((At.hit z.put rfl).n1)
 have s9_1 := m1 _ _ (At.hit z.p2 rfl)
 have low1 := low
 clear m1
 refine e_then (wp_block (c_loop 1 (fun k a w => match k with | 0 => a = a1 ∧ w = wi | _ + 1 => Fr 55 a ∧ At a 0 (.pointer (some ⟨gs, 0, none⟩)) ∧ At a 7 (.slice (some ⟨gp, 0, none⟩) 1 1) ∧ At a 8 (.int .i64 1) ∧ At a 9 (.int .i64 1) ∧ w.heap[gs]? = some (.cells (s2C (chTx (TX T x (nX T x))) (blkOf (TX T x (nX T x))) ((((TX T x (nX T x)).size % 64) : Nat) : Int) (nW n x)) 89) ∧ Low w0 w) ?_ ?_ ?_))
 ·
  exact ⟨rfl, rfl⟩
 ·
  intro k a w hk h
  obtain rfl : k = 0 := by omega
  obtain ⟨ha, hw⟩ := h
  rw [ha, hw]
  clear ha hw a w hk
  refine c_seq (c_region ?_)
  refine l_q rfl (q_lss true rfl s9_1.ev s8_1.ev (decide_eq_true (by omega)) ?_)
  refine l_end (e_fresh z1.put ?_)
  intro a3 z3 m3
  have s0_3 := m3 _ _ (s0_1.n1)
  have s7_3 := m3 _ _ (s7_1.n1)
  have s8_3 := m3 _ _ (s8_1.n1)
  have s9_3 := m3 _ _ (s9_1.n1)
  have s10_3 := m3 _ _ (At.hit z1 rfl)
  clear m3
  refine e_then (c_seq (c_true s10_3 ?_))
  refine wp_skip (e_then (c_seq (wp_block (c_seq (c_region ?_)))))
  refine l_q rfl (q_idxS0 (j := 0) rfl Tryz.underlying51 sz9 s7_3.ev s9_3.ev (by omega) ?_)
  refine l_q rfl (q_cellT (.string x) rfl Tryz.underlying9 (At.hit z3 rfl).ev (fun _ e => by rw [e]; exact (cells_at kp 0).trans rfl) ?_)
  refine l_q rfl (q_assign _ _ rfl (At.hit z3.put rfl).ev ?_)
  refine l_end (e_fresh z3.p3 ?_)
  intro a4 z4 m4
  have s0_4 := m4 _ _ (s0_3.n3)
  have s5_4 := m4 _ _ (At.hit z3.p2 rfl)
  have s7_4 := m4 _ _ (s7_3.n3)
  have s8_4 := m4 _ _ (s8_3.n3)
  have s9_4 := m4 _ _ (s9_3.n3)
  clear m4
  refine e_then (c_seq (c_region ?_))
  refine l_q rfl (q_move _ _ rfl s0_4.ev ?_)
  refine l_q rfl (q_nil rfl (At.hit z4 rfl).ev ?_)
  refine l_q rfl (q_fld 73 rfl (by kernel_rfl) (At.hit z4.put rfl).ev ?_)
  refine l_q rfl (q_cell (.int .u64 n) rfl Tryz.underlying87 (At.hit z4.p2 rfl).ev (fun _ e => by rw [e]; exact (cells_at ks 73).trans (s2C_n (chTx_len _) (blkOf_len _))) ?_)
  refine l_q rfl (q_move _ _ rfl (s5_4.n4).ev ?_)
  refine l_q rfl (q_len rfl rfl Tryz.underlying9 (At.hit z4.p4 rfl).ev ?_)
  refine l_q rfl (q_conv _ rfl (At.hit z4.p5 rfl).ev Tryz.underlying3 Tryz.underlying87 rfl ?_)
  refine l_q rfl (q_add _ rfl ((At.hit z4.p3 rfl).n3).ev (At.hit z4.p6 rfl).ev rfl ?_)
  refine l_fresh z4.p8 ?_
  intro a5 z5 m5
  have s0_5 := m5 _ _ (s0_4.n8)
  have s5_5 := m5 _ _ (s5_4.n8)
  have s7_5 := m5 _ _ (s7_4.n8)
  have s8_5 := m5 _ _ (s8_4.n8)
  have s9_5 := m5 _ _ (s9_4.n8)
  have s13_5 := m5 _ _ ((At.hit z4 rfl).n7)
  have s20_5 := m5 _ _ (At.hit z4.p7 rfl)
  clear m5
  refine l_q rfl (q_nil rfl s13_5.ev ?_)
  refine l_q rfl (q_fld 73 rfl (by kernel_rfl) (At.hit z5 rfl).ev ?_)
  refine l_cell (j := 73) (v := .int .u64 (IntKind.u64.wrap (n + (IntKind.u64.wrap ((x.size : Nat) : Int))))) rfl rfl rfl sz87 (At.hit z5.put rfl).ev (s20_5.n2).ev rfl ks (by rw [s2C_size (chTx_len _) (blkOf_len _)]; omega) ?_
  intro w6 k6 u6
  rw [s2C_setn (chTx_len _) (blkOf_len _)] at k6
  have kgp_6 := u6.blk kp (by omega)
  refine l_end (e_fresh z5.p2 ?_)
  intro a7 z7 m7
  have s0_7 := m7 _ _ (s0_5.n2)
  have s5_7 := m7 _ _ (s5_5.n2)
  have s7_7 := m7 _ _ (s7_5.n2)
  have s8_7 := m7 _ _ (s8_5.n2)
  have s9_7 := m7 _ _ (s9_5.n2)
  have low7 := (low1.upd u6 hge)
  clear m7
  refine e_then (wp_block ?_)
  have kt8 : w6.heap[gs]? = some (.cells (s2C (chTx (TX T x 0)) (blkOf (TX T x 0)) ((((TX T x 0).size % 64) : Nat) : Int) (nW n x)) 89) := by rw [TX_zero]; exact k6
  refine c_loop (nX T x) (fun k a w => Fr 55 a ∧ At a 0 (.pointer (some ⟨gs, 0, none⟩)) ∧ At a 5 (.string (XX T x k)) ∧ At a 7 (.slice (some ⟨gp, 0, none⟩) 1 1) ∧ At a 8 (.int .i64 1) ∧ At a 9 (.int .i64 0) ∧ w.heap[gs]? = some (.cells (s2C (chTx (TX T x k)) (blkOf (TX T x k)) ((((TX T x k).size % 64) : Nat) : Int) (nW n x)) 89) ∧ Low w0 w) ?_ ?_ ?_
  ·
   exact ⟨z7, s0_7, (s5_7.same (congrArg Value.string (XX_zero T x).symm)), s7_7, s8_7, s9_7, kt8, low7⟩
  ·
   intro k a9 w9 hk9 h
   obtain ⟨z9, s0_9, s5_9, s7_9, s8_9, s9_9, kgs_9, low9⟩ := h
   clear kt8 low7 s0_7 s7_7 s8_7 s9_7 z7
   have hkk : k < nX T x := by assumption
   have hmx := mX_le T x k
   have hmy : mX T x k ≤ (XX T x k).size := Nat.min_le_left _ _
   refine c_seq (c_seq (c_region ?_))
   refine l_q rfl (q_move _ _ rfl s5_9.ev ?_)
   refine l_q rfl (q_len rfl rfl Tryz.underlying9 (At.hit z9 rfl).ev ?_)
   refine l_q rfl (q_gtr true rfl (At.hit z9.put rfl).ev rfl (decide_eq_true (by have := XX_pos T x k hkk; omega)) ?_)
   refine l_end (e_fresh z9.p3 ?_)
   intro a10 z10 m10
   have s0_10 := m10 _ _ (s0_9.n3)
   have s5_10 := m10 _ _ (s5_9.n3)
   have s7_10 := m10 _ _ (s7_9.n3)
   have s8_10 := m10 _ _ (s8_9.n3)
   have s9_10 := m10 _ _ (s9_9.n3)
   have s25_10 := m10 _ _ (At.hit z9.p2 rfl)
   clear m10
   refine e_then (c_true s25_10 ?_)
   refine wp_skip (e_then (wp_block (c_seq (region_some_tail 9 (TL [Is (.pointer (some ⟨gs, 0, none⟩)), Is (.pointer (some ⟨gs, 0, none⟩)), Is (.pointer (some ⟨gs, 8, none⟩)), Is (.pointer (some ⟨gs, 0, none⟩)), Is (.pointer (some ⟨gs, 0, none⟩)), Is (.pointer (some ⟨gs, 72, none⟩)), Is (.int .i64 ((((TX T x k).size % 64) : Nat) : Int)), Is (.slice (some ⟨gs, 8 + ((TX T x k).size % 64), none⟩) (64 - ((TX T x k).size % 64)) (64 - ((TX T x k).size % 64))), Is (.string (XX T x k))]) Low hm (by kernel_rfl) z10 (low_drawn _) (fun _ _ _ h k => Low.trans h k) (TL_cons ?_ (TL_cons ?_ (TL_cons ?_ (TL_cons ?_ (TL_cons ?_ (TL_cons ?_ (TL_cons ?_ (TL_cons ?_ (TL_cons ?_ TL_nil))))))))) (allS_cons ?_ (allS_cons ?_ (allS_cons ?_ (allS_cons ?_ (allS_cons ?_ (allS_cons ?_ (allS_cons ?_ (allS_cons ?_ (allS_cons ?_ allS_nil))))))))) ?_))))
   ·
    exact StL_is _
   ·
    exact StL_is _
   ·
    exact StL_is _
   ·
    exact StL_is _
   ·
    exact StL_is _
   ·
    exact StL_is _
   ·
    exact StL_is _
   ·
    exact StL_is _
   ·
    exact StL_is _
   ·
    exact (stepS_val (.pointer (some ⟨gs, 0, none⟩)) _ rfl rfl rfl Low.refl (fun _ => rfl) fun a w z lw kp kn => q_move _ _ rfl (kp _ _ rfl s0_10).ev rfl)
   ·
    exact (stepS_val (.pointer (some ⟨gs, 0, none⟩)) _ rfl rfl rfl Low.refl (fun _ => rfl) fun a w z lw kp kn => q_nil rfl (at_is (u := .pointer (some ⟨gs, 0, none⟩)) (w := w) (kn 0 _ rfl rfl)).ev rfl)
   ·
    exact (stepS_val (.pointer (some ⟨gs, 8, none⟩)) _ rfl rfl rfl Low.refl (fun _ => rfl) fun a w z lw kp kn => q_fld 8 rfl (by kernel_rfl) (at_is (u := .pointer (some ⟨gs, 0, none⟩)) (w := w) (kn 1 _ rfl rfl)).ev rfl)
   ·
    exact (stepS_val (.pointer (some ⟨gs, 0, none⟩)) _ rfl rfl rfl Low.refl (fun _ => rfl) fun a w z lw kp kn => q_move _ _ rfl (kp _ _ rfl s0_10).ev rfl)
   ·
    exact (stepS_val (.pointer (some ⟨gs, 0, none⟩)) _ rfl rfl rfl Low.refl (fun _ => rfl) fun a w z lw kp kn => q_nil rfl (at_is (u := .pointer (some ⟨gs, 0, none⟩)) (w := w) (kn 3 _ rfl rfl)).ev rfl)
   ·
    exact (stepS_val (.pointer (some ⟨gs, 72, none⟩)) _ rfl rfl rfl Low.refl (fun _ => rfl) fun a w z lw kp kn => q_fld 72 rfl (by kernel_rfl) (at_is (u := .pointer (some ⟨gs, 0, none⟩)) (w := w) (kn 4 _ rfl rfl)).ev rfl)
   ·
    exact (stepS_val (.int .i64 ((((TX T x k).size % 64) : Nat) : Int)) _ rfl rfl rfl Low.refl (fun _ => rfl) fun a w z lw kp kn => q_cell (.int .i64 ((((TX T x k).size % 64) : Nat) : Int)) rfl Tryz.underlying3 (at_is (u := .pointer (some ⟨gs, 72, none⟩)) (w := w) (kn 5 _ rfl rfl)).ev (fun _ e => by rw [e]; exact (cells_at (lw.blk kgs_9) 72).trans (s2C_f (chTx_len _) (blkOf_len _))) rfl)
   ·
    exact (stepS_val (.slice (some ⟨gs, 8 + ((TX T x k).size % 64), none⟩) (64 - ((TX T x k).size % 64)) (64 - ((TX T x k).size % 64))) _ rfl rfl rfl Low.refl (fun _ => rfl) fun a w z lw kp kn => q_arrFrom (i := 8) (j := ((TX T x k).size % 64)) rfl Tryz.underlying86 sz5 (at_is (u := .pointer (some ⟨gs, 8, none⟩)) (w := w) (kn 2 _ rfl rfl)).ev (at_is (u := .int .i64 ((((TX T x k).size % 64) : Nat) : Int)) (w := w) (kn 6 _ rfl rfl)).ev (by omega) rfl)
   ·
    exact (stepS_val (.string (XX T x k)) _ rfl rfl rfl Low.refl (fun _ => rfl) fun a w z lw kp kn => q_move _ _ rfl (kp _ _ rfl s5_10).ev rfl)
   intro a11 w11 z11 h11 kp kn
   have s0_11 := kp _ _ rfl s0_10
   have s5_11 := kp _ _ rfl s5_10
   have s7_11 := kp _ _ rfl s7_10
   have s8_11 := kp _ _ rfl s8_10
   have s9_11 := kp _ _ rfl s9_10
   have s25_11 := kp _ _ rfl s25_10
   have s33_11 := at_is (u := .slice (some ⟨gs, 8 + ((TX T x k).size % 64), none⟩) (64 - ((TX T x k).size % 64)) (64 - ((TX T x k).size % 64))) (w := w11) (kn 7 _ rfl)
   have s34_11 := at_is (u := .string (XX T x k)) (w := w11) (kn 8 _ rfl)
   have kgs_11 := h11.blk kgs_9
   clear kp kn
   simp only [List.drop_succ_cons, List.drop_zero]
   refine l_copyS (n := mX T x k) rfl rfl Tryz.underlying54 sz5 s33_11.ev s34_11.ev kgs_11 rfl (by rw [s2C_size (chTx_len _) (blkOf_len _)]; have := (mX_le T x k); omega) (s2C_copy (chTx_len _) (blkOf_len _) ((bytesOf (XX T x k)).take (mX T x k)) ((TX T x k).size % 64) (mX T x k) (by rw [List.length_take, bytesOf_length]; exact Nat.min_eq_left (Nat.min_le_left _ _)) (mX_le T x k)) ?_
   intro w12 k12 u12
   refine l_q rfl (q_assign _ _ rfl (At.hit z11 rfl).ev ?_)
   refine l_end (e_fresh z11.p2 ?_)
   intro a13 z13 m13
   have s0_13 := m13 _ _ (s0_11.n2)
   have s5_13 := m13 _ _ (s5_11.n2)
   have s6_13 := m13 _ _ (At.hit z11.put rfl)
   have s7_13 := m13 _ _ (s7_11.n2)
   have s8_13 := m13 _ _ (s8_11.n2)
   have s9_13 := m13 _ _ (s9_11.n2)
   have low13 := ((low9.trans h11).upd u12 hge)
   clear m13
   refine e_then (c_seq ?_)
   rw [blk_next T x k hkk] at k12
   refine c_region ?_
   refine l_q rfl (q_move _ _ rfl s0_13.ev ?_)
   refine l_q rfl (q_nil rfl (At.hit z13 rfl).ev ?_)
   refine l_q rfl (q_fld 72 rfl (by kernel_rfl) (At.hit z13.put rfl).ev ?_)
   refine l_q rfl (q_cell (.int .i64 ((((TX T x k).size % 64) : Nat) : Int)) rfl Tryz.underlying3 (At.hit z13.p2 rfl).ev (fun _ e => by rw [e]; exact (cells_at k12 72).trans (s2C_f (chTx_len _) (blkOf_len _))) ?_)
   refine l_q rfl (q_move _ _ rfl (s6_13.n4).ev ?_)
   refine l_q rfl (q_add (((((TX T x k).size % 64) + (mX T x k) : Nat) : Int)) rfl ((At.hit z13.p3 rfl).n1).ev (At.hit z13.p4 rfl).ev (i64_is (by omega) (by omega) (by omega)) ?_)
   refine l_q rfl (q_nil rfl ((At.hit z13 rfl).n5).ev ?_)
   refine l_q rfl (q_fld 72 rfl (by kernel_rfl) (At.hit z13.p6 rfl).ev ?_)
   refine l_fresh z13.p8 ?_
   intro a14 z14 m14
   have s0_14 := m14 _ _ (s0_13.n8)
   have s5_14 := m14 _ _ (s5_13.n8)
   have s6_14 := m14 _ _ (s6_13.n8)
   have s7_14 := m14 _ _ (s7_13.n8)
   have s8_14 := m14 _ _ (s8_13.n8)
   have s9_14 := m14 _ _ (s9_13.n8)
   have s41_14 := m14 _ _ ((At.hit z13.p5 rfl).n2)
   have s43_14 := m14 _ _ (At.hit z13.p7 rfl)
   clear m14
   refine l_cell (j := 72) (v := .int .i64 ((((TX T x k).size % 64) + (mX T x k) : Nat) : Int)) rfl rfl rfl sz3 s43_14.ev s41_14.ev rfl k12 (by rw [s2C_size (chTx_len _) (blkOf_len _)]; omega) ?_
   intro w15 k15 u15
   rw [s2C_setf (chTx_len _) (blkOf_len _)] at k15
   refine l_end (e_fresh z14 ?_)
   intro a16 z16 m16
   have s0_16 := m16 _ _ s0_14
   have s5_16 := m16 _ _ s5_14
   have s6_16 := m16 _ _ s6_14
   have s7_16 := m16 _ _ s7_14
   have s8_16 := m16 _ _ s8_14
   have s9_16 := m16 _ _ s9_14
   have low16 := (low13.upd u15 hge)
   clear m16
   refine e_then (c_seq (c_region ?_))
   refine l_q rfl (q_move _ _ rfl s5_16.ev ?_)
   refine l_q rfl (q_move _ _ rfl (s6_16.n1).ev ?_)
   refine l_q rfl (q_cutlo (j := (mX T x k)) rfl Tryz.underlying9 ((At.hit z16 rfl).n1).ev (At.hit z16.put rfl).ev (by omega) ?_)
   refine l_q rfl (q_assign _ _ rfl (At.hit z16.p2 rfl).ev ?_)
   refine l_end (e_fresh z16.p4 ?_)
   intro a17 z17 m17
   have s0_17 := m17 _ _ (s0_16.n4)
   have s5_17 := m17 _ _ (At.hit z16.p3 rfl)
   have s7_17 := m17 _ _ (s7_16.n4)
   have s8_17 := m17 _ _ (s8_16.n4)
   have s9_17 := m17 _ _ (s9_16.n4)
   clear m17
   refine e_then (c_seq ?_)
   by_cases hb18 : (TX T x k).size % 64 + mX T x k = 64
   ·
    skip
    refine c_region ?_
    refine l_q rfl (q_move _ _ rfl s0_17.ev ?_)
    refine l_q rfl (q_nil rfl (At.hit z17 rfl).ev ?_)
    refine l_q rfl (q_fld 72 rfl (by kernel_rfl) (At.hit z17.put rfl).ev ?_)
    refine l_q rfl (q_cell (.int .i64 ((((TX T x k).size % 64) + (mX T x k) : Nat) : Int)) rfl Tryz.underlying3 (At.hit z17.p2 rfl).ev (fun _ e => by rw [e]; exact (cells_at k15 72).trans (s2C_f (chTx_len _) (blkOf_len _))) ?_)
    refine l_q rfl (q_eql true rfl (At.hit z17.p3 rfl).ev rfl (decide_eq_true (by omega)) ?_)
    refine l_end (e_fresh z17.p5 ?_)
    intro a19 z19 m19
    have s0_19 := m19 _ _ (s0_17.n5)
    have s5_19 := m19 _ _ (s5_17.n5)
    have s7_19 := m19 _ _ (s7_17.n5)
    have s8_19 := m19 _ _ (s8_17.n5)
    have s9_19 := m19 _ _ (s9_17.n5)
    have s51_19 := m19 _ _ (At.hit z17.p4 rfl)
    clear m19
    refine e_then (c_true s51_19 ?_)
    refine c_region ?_
    refine l_q rfl (q_move _ _ rfl s0_19.ev ?_)
    refine l_call _ rfl rfl rfl Tryz.func58 rfl (args1 rfl (At.hit z19 rfl).ev) (Press2.calls (chTx (TX T x k)) (blkOf (TX T x (k + 1))) (chTx_len _) (blkOf_len _) _ (nW n x) gs w0 _ low16 hge k15) ?_
    rintro _ w20 ⟨k20, low20⟩
    refine l_end (e_fresh z19.p2 ?_)
    intro a21 z21 m21
    have s0_21 := m21 _ _ (s0_19.n2)
    have s5_21 := m21 _ _ (s5_19.n2)
    have s7_21 := m21 _ _ (s7_19.n2)
    have s8_21 := m21 _ _ (s8_19.n2)
    have s9_21 := m21 _ _ (s9_19.n2)
    clear m21
    refine e_in ?_
    rw [full_next T x k hkk hb18] at k20
    exact ⟨z21, s0_21, (s5_21.same (congrArg Value.string (XX_next T x k hkk))), s7_21, s8_21, s9_21, k20, low20⟩
   ·
    skip
    refine c_region ?_
    refine l_q rfl (q_move _ _ rfl s0_17.ev ?_)
    refine l_q rfl (q_nil rfl (At.hit z17 rfl).ev ?_)
    refine l_q rfl (q_fld 72 rfl (by kernel_rfl) (At.hit z17.put rfl).ev ?_)
    refine l_q rfl (q_cell (.int .i64 ((((TX T x k).size % 64) + (mX T x k) : Nat) : Int)) rfl Tryz.underlying3 (At.hit z17.p2 rfl).ev (fun _ e => by rw [e]; exact (cells_at k15 72).trans (s2C_f (chTx_len _) (blkOf_len _))) ?_)
    refine l_q rfl (q_eql false rfl (At.hit z17.p3 rfl).ev rfl (decide_eq_false (by omega)) ?_)
    refine l_end (e_fresh z17.p5 ?_)
    intro a22 z22 m22
    have s0_22 := m22 _ _ (s0_17.n5)
    have s5_22 := m22 _ _ (s5_17.n5)
    have s7_22 := m22 _ _ (s7_17.n5)
    have s8_22 := m22 _ _ (s8_17.n5)
    have s9_22 := m22 _ _ (s9_17.n5)
    have s51_22 := m22 _ _ (At.hit z17.p4 rfl)
    clear m22
    refine e_then (c_false s51_22 ?_)
    refine wp_skip (e_in ?_)
    rw [part_next T x k hkk hb18] at k15
    exact ⟨z22, s0_22, (s5_22.same (congrArg Value.string (XX_next T x k hkk))), s7_22, s8_22, s9_22, k15, low16⟩
  ·
   intro a23 w23 h
   obtain ⟨z23, s0_23, s5_23, s7_23, s8_23, s9_23, kgs_23, low23⟩ := h
   clear kt8 low7 s0_7 s7_7 s8_7 s9_7 z7
   have hxe := XX_end T x
   refine c_seq (c_seq (c_region ?_))
   refine l_q rfl (q_move _ _ rfl s5_23.ev ?_)
   refine l_q rfl (q_len rfl rfl Tryz.underlying9 (At.hit z23 rfl).ev ?_)
   refine l_q rfl (q_gtr false rfl (At.hit z23.put rfl).ev rfl (decide_eq_false (by omega)) ?_)
   refine l_end (e_fresh z23.p3 ?_)
   intro a24 z24 m24
   have s0_24 := m24 _ _ (s0_23.n3)
   have s5_24 := m24 _ _ (s5_23.n3)
   have s7_24 := m24 _ _ (s7_23.n3)
   have s8_24 := m24 _ _ (s8_23.n3)
   have s9_24 := m24 _ _ (s9_23.n3)
   have s25_24 := m24 _ _ (At.hit z23.p2 rfl)
   clear m24
   refine e_then (c_false s25_24 ?_)
   refine wp_exit (x_then (x_then (in_exit (e_in (e_then (c_region ?_))))))
   refine l_q rfl (q_add (1) rfl s9_24.ev rfl (i64_is (by omega) (by omega) (by omega)) ?_)
   refine l_q rfl (q_move _ _ rfl (At.hit z24 rfl).ev ?_)
   refine l_end (e_fresh z24.p2 ?_)
   intro a25 z25 m25
   have s0_25 := m25 _ _ (s0_24.n2)
   have s7_25 := m25 _ _ (s7_24.n2)
   have s8_25 := m25 _ _ (s8_24.n2)
   have s9_25 := m25 _ _ (At.hit z24.put rfl)
   clear m25
   exact ⟨z25, s0_25, s7_25, s8_25, s9_25, kgs_23, low23⟩
 ·
  intro a26 w26 h
  obtain ⟨z26, s0_26, s7_26, s8_26, s9_26, kgs_26, low26⟩ := h
  clear kp ks s0_1 s7_1 s8_1 s9_1 z1
  refine c_seq (c_region ?_)
  refine l_q rfl (q_lss false rfl s9_26.ev s8_26.ev (decide_eq_false (by omega)) ?_)
  refine l_end (e_fresh z26.put ?_)
  intro a27 z27 m27
  have s0_27 := m27 _ _ (s0_26.n1)
  have s7_27 := m27 _ _ (s7_26.n1)
  have s9_27 := m27 _ _ (s9_26.n1)
  have s10_27 := m27 _ _ (At.hit z26 rfl)
  clear m27
  refine e_then (c_seq (c_false s10_27 ?_))
  refine wp_exit (x_then (x_then (in_exit (r_none rfl z27.defers ?_))))
  rw [TX_end] at kgs_26; exact ⟨_, rfl, kgs_26, low26⟩
theorem SumS2.calls (T : ByteArray) (n : Int) (gs : Nat) (w0 : World) (ks : w0.heap[gs]? = some (.cells (s2C (chTx T) (blkOf T) (((T.size % 64) : Nat) : Int) n) 89)) : Calls Tryz.prog 40 #[.pointer (some ⟨gs, 0, none⟩)] w0 fun e w' => e = .returned (.string (sum2 T n)) ∧ Low w0 w' := by
 refine c_fun (R := _) Tryz.func40 rfl 63 rfl (Nat.le_of_ble_eq_true rfl) ?_
 intro a z hA
 have s0 := hA 0 _ rfl
 clear hA
 refine c_seq (c_region ?_)
 refine l_q rfl (q_assign _ _ rfl rfl ?_)
 refine l_end (e_fresh z.put ?_)
 intro a1 z1 m1
 have s0_1 := m1 _ _ (s0.n1)
 clear m1
 refine e_then (c_seq (c_region ?_))
 refine l_q rfl (q_move _ _ rfl s0_1.ev ?_)
 refine l_call _ rfl rfl rfl Tryz.func59 rfl (args1 rfl (At.hit z1 rfl).ev) (Copy2.calls _ _ (chTx_len _) (blkOf_len _) _ n gs _ ks) ?_
 rintro _ w2 ⟨gx, rfl, hgx, kgx, h2⟩
 have gegx := Nat.le_trans (Low.refl _).ge hgx
 have kgs_2 := h2.blk ks
 refine l_q rfl (q_assign _ _ rfl (At.hit z1.put rfl).ev ?_)
 refine l_end (e_fresh z1.p3 ?_)
 intro a3 z3 m3
 have s0_3 := m3 _ _ (s0_1.n3)
 have s3_3 := m3 _ _ (At.hit z1.p2 rfl)
 have low3 := h2
 clear m3
 refine e_then (c_seq (c_region ?_))
 refine l_q rfl (q_move _ _ rfl s0_3.ev ?_)
 refine l_q rfl (q_nil rfl (At.hit z3 rfl).ev ?_)
 refine l_q rfl (q_fld 73 rfl (by kernel_rfl) (At.hit z3.put rfl).ev ?_)
 refine l_q rfl (q_cell (.int .u64 n) rfl Tryz.underlying87 (At.hit z3.p2 rfl).ev (fun _ e => by rw [e]; exact (cells_at kgs_2 73).trans (s2C_n (chTx_len _) (blkOf_len _))) ?_)
 refine l_q rfl (q_mul _ rfl rfl (At.hit z3.p3 rfl).ev rfl ?_)
 refine l_q rfl (q_assign _ _ rfl (At.hit z3.p4 rfl).ev ?_)
 refine l_end (e_fresh z3.p6 ?_)
 intro a4 z4 m4
 have s3_4 := m4 _ _ (s3_3.n6)
 have s4_4 := m4 _ _ (At.hit z3.p5 rfl)
 clear m4
 refine e_then (c_seq (c_region ?_))
 refine l_q rfl (q_move _ _ rfl s3_4.ev ?_)
 refine l_buildT1 rfl rfl Tryz.underlying51 str9 rfl ?_
 intro g18_5 w5 hg5 k5 h5
 have lt_gx_g18_5 := Nat.lt_of_lt_of_le (heap_lt kgx) hg5
 have geg18_5 := Nat.le_trans low3.ge hg5
 have kgx_5 := h5.blk kgx
 refine l_call _ rfl rfl rfl Tryz.func39 rfl (args2 rfl ((At.hit z4 rfl).n1).ev (At.hit z4.put rfl).ev) (Write2.calls (T) (n) lit80 (by decide) gx g18_5 (by omega) w0 _ (low3.trans h5) gegx kgx_5 k5) ?_
 rintro _ w6 ⟨k6, low6⟩
 refine l_end (e_fresh z4.p3 ?_)
 intro a7 z7 m7
 have s3_7 := m7 _ _ (s3_4.n3)
 have s4_7 := m7 _ _ (s4_4.n3)
 clear m7
 refine e_then (c_seq (wp_block (c_loop (zN T) (fun k a w => Fr 63 a ∧ At a 3 (.pointer (some ⟨gx, 0, none⟩)) ∧ At a 4 (.int .u64 (IntKind.u64.wrap (8 * n))) ∧ w.heap[gx]? = some (.cells (s2C (chTx (TZ T k)) (blkOf (TZ T k)) ((((TZ T k).size % 64) : Nat) : Int) (nZ n k)) 89) ∧ Low w0 w) ?_ ?_ ?_)))
 ·
  exact ⟨z7, s3_7, s4_7, k6, low6⟩
 ·
  intro k a8 w8 hk8 h
  obtain ⟨z8, s3_8, s4_8, kgx_8, low8⟩ := h
  clear k6 low6 s3_7 s4_7 z7
  refine c_seq (c_seq (c_region ?_))
  refine l_q rfl (q_move _ _ rfl s3_8.ev ?_)
  refine l_q rfl (q_nil rfl (At.hit z8 rfl).ev ?_)
  refine l_q rfl (q_fld 72 rfl (by kernel_rfl) (At.hit z8.put rfl).ev ?_)
  refine l_q rfl (q_cell (.int .i64 ((((TZ T k).size % 64) : Nat) : Int)) rfl Tryz.underlying3 (At.hit z8.p2 rfl).ev (fun _ e => by rw [e]; exact (cells_at kgx_8 72).trans (s2C_f (chTx_len _) (blkOf_len _))) ?_)
  refine l_q rfl (q_neq true rfl (At.hit z8.p3 rfl).ev rfl (decide_eq_true (by have := zN_yes T k (by assumption); omega)) ?_)
  refine l_end (e_fresh z8.p5 ?_)
  intro a9 z9 m9
  have s3_9 := m9 _ _ (s3_8.n5)
  have s4_9 := m9 _ _ (s4_8.n5)
  have s24_9 := m9 _ _ (At.hit z8.p4 rfl)
  clear m9
  refine e_then (c_true s24_9 ?_)
  refine wp_skip (e_then (wp_block (c_region ?_)))
  refine l_q rfl (q_move _ _ rfl s3_9.ev ?_)
  refine l_buildT1 rfl rfl Tryz.underlying51 str9 rfl ?_
  intro g26_10 w10 hg10 k10 h10
  have lt_gx_g26_10 := Nat.lt_of_lt_of_le (heap_lt kgx_8) hg10
  have geg26_10 := Nat.le_trans low8.ge hg10
  have kgx_10 := h10.blk kgx_8
  refine l_call _ rfl rfl rfl Tryz.func39 rfl (args2 rfl ((At.hit z9 rfl).n1).ev (At.hit z9.put rfl).ev) (Write2.calls (TZ T k) (nZ n k) lit0 (by decide) gx g26_10 (by omega) w0 _ (low8.trans h10) gegx kgx_10 k10) ?_
  rintro _ w11 ⟨k11, low11⟩
  refine l_end (e_fresh z9.p3 ?_)
  intro a12 z12 m12
  have s3_12 := m12 _ _ (s3_9.n3)
  have s4_12 := m12 _ _ (s4_9.n3)
  clear m12
  refine e_in ?_
  exact ⟨z12, s3_12, s4_12, k11, low11⟩
 ·
  intro a13 w13 h
  obtain ⟨z13, s3_13, s4_13, kgx_13, low13⟩ := h
  clear k6 low6 s3_7 s4_7 z7
  refine c_seq (c_seq (c_region ?_))
  refine l_q rfl (q_move _ _ rfl s3_13.ev ?_)
  refine l_q rfl (q_nil rfl (At.hit z13 rfl).ev ?_)
  refine l_q rfl (q_fld 72 rfl (by kernel_rfl) (At.hit z13.put rfl).ev ?_)
  refine l_q rfl (q_cell (.int .i64 ((((TZ T (zN T)).size % 64) : Nat) : Int)) rfl Tryz.underlying3 (At.hit z13.p2 rfl).ev (fun _ e => by rw [e]; exact (cells_at kgx_13 72).trans (s2C_f (chTx_len _) (blkOf_len _))) ?_)
  refine l_q rfl (q_neq false rfl (At.hit z13.p3 rfl).ev rfl (decide_eq_false (by have := zN_no T; omega)) ?_)
  refine l_end (e_fresh z13.p5 ?_)
  intro a14 z14 m14
  have s3_14 := m14 _ _ (s3_13.n5)
  have s4_14 := m14 _ _ (s4_13.n5)
  have s24_14 := m14 _ _ (At.hit z13.p4 rfl)
  clear m14
  refine e_then (c_false s24_14 ?_)
  refine wp_exit (x_then (x_then (in_exit (e_then (c_seq (c_seq (c_region ?_)))))))
  refine l_q rfl (q_assign _ _ rfl rfl ?_)
  refine l_end (e_fresh z14.put ?_)
  intro a15 z15 m15
  have s3_15 := m15 _ _ (s3_14.n1)
  have s4_15 := m15 _ _ (s4_14.n1)
  have s5_15 := m15 _ _ (At.hit z14 rfl)
  clear m15
  refine e_then (wp_block (c_loop 8 (fun k a w => Fr 63 a ∧ At a 3 (.pointer (some ⟨gx, 0, none⟩)) ∧ At a 4 (.int .u64 (IntKind.u64.wrap (8 * n))) ∧ At a 5 (.int .i64 (56 - 8 * ((k : Nat) : Int))) ∧ w.heap[gx]? = some (.cells (s2C (chTx (TLn T n k)) (blkOf (TLn T n k)) ((((TLn T n k).size % 64) : Nat) : Int) (nL T n k)) 89) ∧ Low w0 w) ?_ ?_ ?_))
  ·
   exact ⟨z15, s3_15, s4_15, (s5_15.same (congrArg (Value.int .i64) (by omega))), kgx_13, low13⟩
  ·
   intro k a16 w16 hk16 h
   obtain ⟨z16, s3_16, s4_16, s5_16, kgx_16, low16⟩ := h
   clear kgx_13 low13 s3_15 s4_15 s5_15 z15
   refine c_seq (c_seq (c_region ?_))
   refine l_q rfl (q_move _ _ rfl s5_16.ev ?_)
   refine l_q rfl (q_geq true rfl (At.hit z16 rfl).ev rfl (decide_eq_true (by omega)) ?_)
   refine l_end (e_fresh z16.p2 ?_)
   intro a17 z17 m17
   have s3_17 := m17 _ _ (s3_16.n2)
   have s4_17 := m17 _ _ (s4_16.n2)
   have s5_17 := m17 _ _ (s5_16.n2)
   have s29_17 := m17 _ _ (At.hit z16.put rfl)
   clear m17
   refine e_then (c_true s29_17 ?_)
   refine wp_skip (e_then (c_seq (wp_block (c_region ?_))))
   refine l_q rfl (q_move _ _ rfl s3_17.ev ?_)
   refine l_q rfl (q_move _ _ rfl (s4_17.n1).ev ?_)
   refine l_q rfl (q_move _ _ rfl (s5_17.n2).ev ?_)
   refine l_q rfl (q_shr ((IntKind.u64.wrap (8 * n)).fdiv (2 ^ min ((56 - 8 * ((k : Nat) : Int)) : Int).toNat 64)) rfl ((At.hit z17.put rfl).n1).ev (At.hit z17.p2 rfl).ev (by first | omega | exact u64_nonneg _) rfl ?_)
   refine l_q rfl (q_conv _ rfl (At.hit z17.p3 rfl).ev Tryz.underlying87 Tryz.underlying5 rfl ?_)
   refine l_build1 rfl rfl Tryz.underlying54 byte5 (At.hit z17.p4 rfl).ev ?_
   intro g37_18 w18 hg18 k18 h18
   have lt_gx_g37_18 := Nat.lt_of_lt_of_le (heap_lt kgx_16) hg18
   have geg37_18 := Nat.le_trans low16.ge hg18
   have kgx_18 := h18.blk kgx_16
   refine l_q rfl (q_str rfl Tryz.underlying54 Tryz.underlying5 Tryz.underlying9 (At.hit z17.p5 rfl).ev (fun _ e => by rw [e]; exact (ownB_new (B := w0.heap.size) geg37_18 k18 rfl)) ?_)
   refine l_buildT1 rfl rfl Tryz.underlying51 str9 (At.hit z17.p6 rfl).ev ?_
   intro g39_19 w19 hg19 k19 h19
   have lt_gx_g39_19 := Nat.lt_of_lt_of_le (heap_lt kgx_18) hg19
   have lt_g37_18_g39_19 := Nat.lt_of_lt_of_le (heap_lt k18) hg19
   have geg39_19 := Nat.le_trans (low16.trans h18).ge hg19
   have kgx_19 := h19.blk kgx_18
   have kg37_18_19 := h19.blk k18
   refine l_fresh z17.p8 ?_
   intro a20 z20 m20
   have s3_20 := m20 _ _ (s3_17.n8)
   have s4_20 := m20 _ _ (s4_17.n8)
   have s5_20 := m20 _ _ (s5_17.n8)
   have s32_20 := m20 _ _ ((At.hit z17 rfl).n7)
   have s39_20 := m20 _ _ (At.hit z17.p7 rfl)
   clear m20
   refine l_call _ rfl rfl rfl Tryz.func39 rfl (args2 rfl s32_20.ev s39_20.ev) (Write2.calls (TLn T n k) (nL T n k) (lenS n k) (by rw [lenS, strOfNums_size]; exact (by decide : 1 ≤ 140737488350000)) gx g39_19 (by omega) w0 _ ((low16.trans h18).trans h19) gegx kgx_19 k19) ?_
   rintro _ w21 ⟨k21, low21⟩
   refine l_end (e_fresh z20.put ?_)
   intro a22 z22 m22
   have s3_22 := m22 _ _ (s3_20.n1)
   have s4_22 := m22 _ _ (s4_20.n1)
   have s5_22 := m22 _ _ (s5_20.n1)
   clear m22
   refine e_in (e_then (c_region ?_))
   refine l_q rfl (q_move _ _ rfl s5_22.ev ?_)
   refine l_q rfl (q_sub ((48 - 8 * ((k : Nat) : Int))) rfl (At.hit z22 rfl).ev rfl (i64_is (by omega) (by omega) (by omega)) ?_)
   refine l_q rfl (q_assign _ _ rfl (At.hit z22.put rfl).ev ?_)
   refine l_end (e_fresh z22.p3 ?_)
   intro a23 z23 m23
   have s3_23 := m23 _ _ (s3_22.n3)
   have s4_23 := m23 _ _ (s4_22.n3)
   have s5_23 := m23 _ _ (At.hit z22.p2 rfl)
   clear m23
   exact ⟨z23, s3_23, s4_23, (s5_23.same (congrArg (Value.int .i64) (by omega))), k21, low21⟩
  ·
   intro a24 w24 h
   obtain ⟨z24, s3_24, s4_24, s5_24, kgx_24, low24⟩ := h
   clear kgx_13 low13 s3_15 s4_15 s5_15 z15
   refine c_seq (c_seq (c_region ?_))
   refine l_q rfl (q_move _ _ rfl s5_24.ev ?_)
   refine l_q rfl (q_geq false rfl (At.hit z24 rfl).ev rfl (decide_eq_false (by omega)) ?_)
   refine l_end (e_fresh z24.p2 ?_)
   intro a25 z25 m25
   have s3_25 := m25 _ _ (s3_24.n2)
   have s4_25 := m25 _ _ (s4_24.n2)
   have s5_25 := m25 _ _ (s5_24.n2)
   have s29_25 := m25 _ _ (At.hit z24.put rfl)
   clear m25
   refine e_then (c_false s29_25 ?_)
   refine wp_exit (x_then (x_then (in_exit (e_then (c_seq (c_region (l_make (n := 0) (c := 32) (cs := nums .u8 (List.replicate 32 0)) rfl rfl Tryz.underlying54 byte5 rfl rfl (by decide) (by decide) made_32 ?_)))))))
   intro g41_26 w26 hg26 k26 h26
   have lt_gx_g41_26 := Nat.lt_of_lt_of_le (heap_lt kgx_24) hg26
   have geg41_26 := Nat.le_trans low24.ge hg26
   have kgx_26 := h26.blk kgx_24
   refine l_q rfl (q_assign _ _ rfl (At.hit z25 rfl).ev ?_)
   refine l_end (e_fresh z25.p2 ?_)
   intro a27 z27 m27
   have s3_27 := m27 _ _ (s3_25.n2)
   have s6_27 := m27 _ _ (At.hit z25.put rfl)
   have low27 := (low24.trans h26)
   clear m27
   refine e_then (c_seq (c_seq (c_region ?_)))
   refine l_q rfl (q_move _ _ rfl s3_27.ev ?_)
   refine l_q rfl (q_nil rfl (At.hit z27 rfl).ev ?_)
   refine l_q rfl (q_fld 0 rfl (by kernel_rfl) (At.hit z27.put rfl).ev ?_)
   refine l_q rfl (q_s2c (chTx_len _) rfl Tryz.underlying77 rfl sz77 (At.hit z27.p2 rfl).ev (fun _ e => by rw [e]; exact kgx_26) ?_)
   refine l_q rfl (q_move _ _ rfl rfl ?_)
   refine l_end (e_fresh z27.p5 ?_)
   intro a28 z28 m28
   have s6_28 := m28 _ _ (s6_27.n5)
   have s45_28 := m28 _ _ ((At.hit z27.p3 rfl).n1)
   have s46_28 := m28 _ _ (At.hit z27.p4 rfl)
   clear m28
   refine e_then (wp_block ?_)
   have oout := ownB_made (l := []) (c := 32) geg41_26 k26 (by simp [nums]) (by decide) (by decide) (by simp [nums])
   refine c_loop 8 (fun k a w => ∃ v6 : Value, Fr 63 a ∧ At a 6 (v6) ∧ At a 45 (.agg (nums .u32 (chTx (TLn T n 8)))) ∧ At a 46 (.int .i64 ((k : Nat) : Int)) ∧ OwnB w w0.heap.size 5 v6 (out8 (chTx (TLn T n 8)) k) ∧ Low w0 w) ?_ ?_ ?_
   ·
    exact ⟨(.slice (some ⟨g41_26, 0, none⟩) 0 32), z28, s6_28, s45_28, s46_28, oout, low27⟩
   ·
    intro k a29 w29 hk29 h
    obtain ⟨v6_29, z29, s6_29, s45_29, s46_29, ox6_29, low29⟩ := h
    clear low27 s45_28 s46_28 s6_28 z28
    refine c_seq (c_region ?_)
    refine l_q rfl (q_lss true rfl s46_29.ev rfl (decide_eq_true (by omega)) ?_)
    refine l_end (e_fresh z29.put ?_)
    intro a30 z30 m30
    have s6_30 := m30 _ _ (s6_29.n1)
    have s45_30 := m30 _ _ (s45_29.n1)
    have s46_30 := m30 _ _ (s46_29.n1)
    have s47_30 := m30 _ _ (At.hit z29 rfl)
    clear m30
    refine e_then (c_seq (c_true s47_30 ?_))
    refine wp_skip (e_then (c_seq (wp_block (c_seq (c_region ?_)))))
    refine l_q rfl (q_index (j := k) (.int .u32 ((chTx (TLn T n 8)).getD k 0)) rfl Tryz.underlying77 (run_sizeOf1 sz64) (part_nums Tryz.underlying64 k (by rw [(chTx_len _)]; omega)) s45_30.ev s46_30.ev (by omega) ?_)
    refine l_q rfl (q_assign _ _ rfl (At.hit z30 rfl).ev ?_)
    refine l_end (e_fresh z30.p2 ?_)
    intro a31 z31 m31
    have s6_31 := m31 _ _ (s6_30.n2)
    have s8_31 := m31 _ _ (At.hit z30.put rfl)
    have s45_31 := m31 _ _ (s45_30.n2)
    have s46_31 := m31 _ _ (s46_30.n2)
    clear m31
    refine e_then (c_seq (c_region ?_))
    refine l_q rfl (q_assign _ _ rfl rfl ?_)
    refine l_end (e_fresh z31.put ?_)
    intro a32 z32 m32
    have s6_32 := m32 _ _ (s6_31.n1)
    have s8_32 := m32 _ _ (s8_31.n1)
    have s9_32 := m32 _ _ (At.hit z31 rfl)
    have s45_32 := m32 _ _ (s45_31.n1)
    have s46_32 := m32 _ _ (s46_31.n1)
    clear m32
    refine e_then (wp_block (c_loop 4 (fun i a w => ∃ v6 : Value, Fr 63 a ∧ At a 6 (v6) ∧ At a 8 (.int .u32 ((chTx (TLn T n 8)).getD k 0)) ∧ At a 9 (.int .i64 (24 - 8 * ((i : Nat) : Int))) ∧ At a 45 (.agg (nums .u32 (chTx (TLn T n 8)))) ∧ At a 46 (.int .i64 ((k : Nat) : Int)) ∧ OwnB w w0.heap.size 5 v6 (outI ((chTx (TLn T n 8)).getD k 0) (out8 (chTx (TLn T n 8)) k) i) ∧ Low w0 w) ?_ ?_ ?_))
    ·
     exact ⟨v6_29, z32, s6_32, s8_32, (s9_32.same (congrArg (Value.int .i64) (by omega))), s45_32, s46_32, ox6_29, low29⟩
    ·
     intro i a33 w33 hk33 h
     obtain ⟨v6_33, z33, s6_33, s8_33, s9_33, s45_33, s46_33, ox6_33, low33⟩ := h
     clear low29 s45_32 s46_32 s6_32 s8_32 s9_32 z32
     refine c_seq (c_seq (c_region ?_))
     refine l_q rfl (q_move _ _ rfl s9_33.ev ?_)
     refine l_q rfl (q_geq true rfl (At.hit z33 rfl).ev rfl (decide_eq_true (by omega)) ?_)
     refine l_end (e_fresh z33.p2 ?_)
     intro a34 z34 m34
     have s6_34 := m34 _ _ (s6_33.n2)
     have s8_34 := m34 _ _ (s8_33.n2)
     have s9_34 := m34 _ _ (s9_33.n2)
     have s45_34 := m34 _ _ (s45_33.n2)
     have s46_34 := m34 _ _ (s46_33.n2)
     have s50_34 := m34 _ _ (At.hit z33.put rfl)
     clear m34
     refine e_then (c_true s50_34 ?_)
     refine wp_skip (e_then (c_seq (wp_block (c_region ?_))))
     refine l_q rfl (q_move _ _ rfl s6_34.ev ?_)
     refine l_q rfl (q_move _ _ rfl (s8_34.n1).ev ?_)
     refine l_q rfl (q_move _ _ rfl (s9_34.n2).ev ?_)
     refine l_q rfl (q_shr (((chTx (TLn T n 8)).getD k 0).fdiv (2 ^ min ((24 - 8 * ((i : Nat) : Int)) : Int).toNat 32)) rfl ((At.hit z34.put rfl).n1).ev (At.hit z34.p2 rfl).ev (by first | omega | exact u64_nonneg _) rfl ?_)
     refine l_q rfl (q_conv _ rfl (At.hit z34.p3 rfl).ev Tryz.underlying64 Tryz.underlying5 rfl ?_)
     refine l_build1 rfl rfl Tryz.underlying54 byte5 (At.hit z34.p4 rfl).ev ?_
     intro g58_35 w35 hg35 k35 h35
     have geg58_35 := Nat.le_trans low33.ge hg35
     have ox6_35 := ox6_33.low h35
     refine l_appR (B := w0.heap.size) (ys := [IntKind.u8.wrap (((chTx (TLn T n 8)).getD k 0).fdiv (2 ^ min ((24 - 8 * ((i : Nat) : Int)) : Int).toNat 32))]) rfl rfl Tryz.underlying54 Tryz.underlying54 byte5 ((At.hit z34 rfl).n5).ev (At.hit z34.p5 rfl).ev k35 ox6_35 (low33.trans h35).ge (by rw [(outI_len _ _ _ (out8_len _ k) i)]; simp only [List.length_cons, List.length_nil]; omega) ?_
     intro v36 w36 o36 gr36
     have lw36 := (low33.trans h35).gr gr36
     refine l_q rfl (q_assign _ _ rfl (At.hit z34.p6 rfl).ev ?_)
     refine l_end (e_fresh z34.p8 ?_)
     intro a37 z37 m37
     have s6_37 := m37 _ _ (At.hit z34.p7 rfl)
     have s8_37 := m37 _ _ (s8_34.n8)
     have s9_37 := m37 _ _ (s9_34.n8)
     have s45_37 := m37 _ _ (s45_34.n8)
     have s46_37 := m37 _ _ (s46_34.n8)
     have low37 := lw36
     clear m37
     refine e_in (e_then (c_region ?_))
     refine l_q rfl (q_move _ _ rfl s9_37.ev ?_)
     refine l_q rfl (q_sub ((16 - 8 * ((i : Nat) : Int))) rfl (At.hit z37 rfl).ev rfl (i64_is (by omega) (by omega) (by omega)) ?_)
     refine l_q rfl (q_assign _ _ rfl (At.hit z37.put rfl).ev ?_)
     refine l_end (e_fresh z37.p3 ?_)
     intro a38 z38 m38
     have s6_38 := m38 _ _ (s6_37.n3)
     have s8_38 := m38 _ _ (s8_37.n3)
     have s9_38 := m38 _ _ (At.hit z37.p2 rfl)
     have s45_38 := m38 _ _ (s45_37.n3)
     have s46_38 := m38 _ _ (s46_37.n3)
     clear m38
     exact ⟨v36, z38, s6_38, s8_38, (s9_38.same (congrArg (Value.int .i64) (by omega))), s45_38, s46_38, o36, low37⟩
    ·
     intro a39 w39 h
     obtain ⟨v6_39, z39, s6_39, s8_39, s9_39, s45_39, s46_39, ox6_39, low39⟩ := h
     clear low29 s45_32 s46_32 s6_32 s8_32 s9_32 z32
     refine c_seq (c_seq (c_region ?_))
     refine l_q rfl (q_move _ _ rfl s9_39.ev ?_)
     refine l_q rfl (q_geq false rfl (At.hit z39 rfl).ev rfl (decide_eq_false (by omega)) ?_)
     refine l_end (e_fresh z39.p2 ?_)
     intro a40 z40 m40
     have s6_40 := m40 _ _ (s6_39.n2)
     have s8_40 := m40 _ _ (s8_39.n2)
     have s9_40 := m40 _ _ (s9_39.n2)
     have s45_40 := m40 _ _ (s45_39.n2)
     have s46_40 := m40 _ _ (s46_39.n2)
     have s50_40 := m40 _ _ (At.hit z39.put rfl)
     clear m40
     refine e_then (c_false s50_40 ?_)
     refine wp_exit (x_then (x_then (in_exit (e_in (e_then (c_region ?_))))))
     refine l_q rfl (q_add (((k + 1 : Nat) : Int)) rfl s46_40.ev rfl (i64_is (by omega) (by omega) (by omega)) ?_)
     refine l_q rfl (q_move _ _ rfl (At.hit z40 rfl).ev ?_)
     refine l_end (e_fresh z40.p2 ?_)
     intro a41 z41 m41
     have s6_41 := m41 _ _ (s6_40.n2)
     have s45_41 := m41 _ _ (s45_40.n2)
     have s46_41 := m41 _ _ (At.hit z40.put rfl)
     clear m41
     exact ⟨v6_39, z41, s6_41, s45_41, s46_41, ox6_39, low39⟩
   ·
    intro a42 w42 h
    obtain ⟨v6_42, z42, s6_42, s45_42, s46_42, ox6_42, low42⟩ := h
    clear low27 s45_28 s46_28 s6_28 z28
    refine c_seq (c_region ?_)
    refine l_q rfl (q_lss false rfl s46_42.ev rfl (decide_eq_false (by omega)) ?_)
    refine l_end (e_fresh z42.put ?_)
    intro a43 z43 m43
    have s6_43 := m43 _ _ (s6_42.n1)
    have s45_43 := m43 _ _ (s45_42.n1)
    have s46_43 := m43 _ _ (s46_42.n1)
    have s47_43 := m43 _ _ (At.hit z42 rfl)
    clear m43
    refine e_then (c_seq (c_false s47_43 ?_))
    refine wp_exit (x_then (x_then (in_exit (e_then (c_seq (c_region ?_))))))
    refine l_q rfl (q_move _ _ rfl s6_43.ev ?_)
    refine l_q rfl (q_str rfl Tryz.underlying54 Tryz.underlying5 Tryz.underlying9 (At.hit z43 rfl).ev (fun _ e => by rw [e]; exact ox6_42) ?_)
    refine l_q rfl (q_assign _ _ rfl (At.hit z43.put rfl).ev ?_)
    refine l_end (e_fresh z43.p3 ?_)
    intro a44 z44 m44
    have s2_44 := m44 _ _ (At.hit z43.p2 rfl)
    clear m44
    refine e_then (wp_ret (r_tmp rfl z44.defers s2_44 ?_))
    exact ⟨rfl, low42⟩
def sumL2 (x : ByteArray) : ByteArray := sum2 ((⟨#[]⟩ : ByteArray) ++ x) (nW 0 x)
theorem sumL2_size (x : ByteArray) : (sumL2 x).size = 32 := sum2_size _ _
theorem SumL2.calls (x : ByteArray) (hx : x.size ≤ 140737488350000) (gp : Nat) (w0 : World) (kp : w0.heap[gp]? = some (.cells #[.string x] 9)) : Calls Tryz.prog 25 #[.slice (some ⟨gp, 0, none⟩) 1 1] w0 fun e w' => e = .returned (.string (sumL2 x)) ∧ Low w0 w' := by
 refine c_fun (R := _) Tryz.func25 rfl 10 rfl (Nat.le_of_ble_eq_true rfl) ?_
 intro a z hA
 have s0 := hA 0 _ rfl
 clear hA
 refine c_seq (c_region ?_)
 refine l_q rfl (q_assign _ _ rfl rfl ?_)
 refine l_end (e_fresh z.put ?_)
 intro a1 z1 m1
 have s0_1 := m1 _ _ (s0.n1)
 clear m1
 refine e_then (c_seq (c_region (l_call _ rfl rfl rfl Tryz.func38 rfl (show Array.map _ _ = (#[] : Array Value) from by simp) (New2.calls _) ?_)))
 rintro _ w2 ⟨gx, rfl, hgx, kgx, h2⟩
 have gegx := Nat.le_trans (Low.refl _).ge hgx
 have ngp := Nat.ne_of_lt (Nat.lt_of_lt_of_le (heap_lt kp) hgx)
 have kgp_2 := h2.blk kp
 refine l_q rfl (q_assign _ _ rfl (At.hit z1 rfl).ev ?_)
 refine l_end (e_fresh z1.p2 ?_)
 intro a3 z3 m3
 have s0_3 := m3 _ _ (s0_1.n2)
 have s3_3 := m3 _ _ (At.hit z1.put rfl)
 have low3 := h2
 clear m3
 refine e_then (c_seq (c_region ?_))
 refine l_q rfl (q_move _ _ rfl s3_3.ev ?_)
 refine l_q rfl (q_move _ _ rfl (s0_3.n1).ev ?_)
 refine l_call _ rfl rfl rfl Tryz.func39 rfl (args2 rfl ((At.hit z3 rfl).n1).ev (At.hit z3.put rfl).ev) (Write2.calls (⟨#[]⟩ : ByteArray) 0 x hx gx gp ngp w0 _ low3 gegx kgx kgp_2) ?_
 rintro _ w4 ⟨k4, low4⟩
 refine l_end (e_fresh z3.p3 ?_)
 intro a5 z5 m5
 have s3_5 := m5 _ _ (s3_3.n3)
 clear m5
 refine e_then (c_seq (c_region ?_))
 refine l_q rfl (q_move _ _ rfl s3_5.ev ?_)
 refine l_call (fun v w' => v = .string (sumL2 x) ∧ Low w4 w') rfl rfl rfl Tryz.func40 rfl (args1 rfl (At.hit z5 rfl).ev) ((SumS2.calls ((⟨#[]⟩ : ByteArray) ++ x) (nW 0 x) gx _ k4).mono fun _ _ ⟨e, k⟩ => ⟨_, e, rfl, k⟩) ?_
 rintro _ w6 ⟨rfl, h6⟩
 have kgx_6 := h6.blk k4
 refine l_q rfl (q_assign _ _ rfl (At.hit z5.put rfl).ev ?_)
 refine l_end (e_fresh z5.p3 ?_)
 intro a7 z7 m7
 have s2_7 := m7 _ _ (At.hit z5.p2 rfl)
 have low7 := (low4.trans h6)
 clear m7
 refine e_then (wp_ret (r_tmp rfl z7.defers s2_7 ?_))
 exact ⟨rfl, low7⟩
end Go.Proofs.YtfjhnnpdaggnbaaGreatDoor.Q
end
/-! I0 -/
section
namespace Go.Proofs.YtfjhnnpdaggnbaaGreatDoor.Q
open Go.RowKit Go.Proofs.YtfjhnnpdaggnbaaGreatDoor.P Go.Proofs.YtfjhnnpdaggnbaaGreatDoorW.PrintWords
set_option maxRecDepth 100000
section
variable {P : Program} {Q : Exit → Act → World → Prop} {a : Act} {w : World} {o : Oper} {ops : Array Oper} {rest : List Oper} {K : Act → Prop} {C : World → Prop}
theorem q_iface {T : TypeId} {x : Operand} {v : Value} {d : TypeDesc} (ho : o.op = .makeInterface T x) (hT : P.underlying T = some d) (hd : (match d with | .interface _ => false | _ => true) = true) (hx : a.eval x = v) (hn : K (a.put o.dst (.iface T v))) : o.quiet P a C K :=
  q_val _ (fun w _ => by
    unfold execOp
    simp only [ho, hx, Instr.makeInterface, Sem.run_bind, run_underlying hT w, Result.andThen_ok]
    cases d <;> first | rfl | cases hd) hn
theorem l_invoke {f : FuncId} {fn : Func} {c : Call} {x : Operand} {m : String} {T : TypeId} {u u' : Value} (R : Value → World → Prop) (hg : o.guard = none) (ho : o.op = .call c) (hc : c = { callee := .invoke x m, args := #[], argTypes := #[] }) (hx : a.eval x = .iface T u)
    (hm : ∀ w, (method (P.types.size + Made.depth) T u m).run P w = .ok (f, u') w) (hf : P.funcs[f]? = some fn) (hn' : (fn.name == "runtime.NumGoroutine" || fn.body.isNone) = false)
    (hcall : Calls P f #[u'] w fun e w' => ∃ v, e = .returned v ∧ R v w') (h : ∀ v w', R v w' → wpList P ops Q rest (a.put o.dst v) w') : wpList P ops Q (o :: rest) a w := by
  subst hc
  refine wpList_plain hg fun K hK => ?_
  have hrun : (execOp a.eval o).run P w = .ok (.enter f #[u']) w := by
    rw [Bool.or_eq_false_iff] at hn'
    unfold execOp
    have hpr : (program : Sem Program).run P w = .ok P w := rfl
    have hb : fn.body ≠ none := fun e => by rw [e] at hn'; exact absurd hn'.2 (by decide)
    have hnm : fn.name ≠ "runtime.NumGoroutine" := fun e => by rw [e] at hn'; exact absurd hn'.1 (by decide)
    simp [ho, resolve, hx, invoke, callMethod, callFunc, hpr, hm w, hf, hb, hnm]
  unfold Oper.wp
  rw [hrun]
  exact hcall.mono fun e w' ⟨v, he, hR⟩ => by subst he; exact hK _ _ (h v w' hR)
theorem r_cell_tmp {fn : Func} {t s : Nat} {ty T : TypeId} {g : Nat} {cs : Array Value} {u : Value} {d : TypeDesc} {R : Ending → World → Prop} (hr : fn.results = #[.cell t ty, .tmp s]) (hdf : a.defers = []) (ht : At a t (.pointer (some ⟨g, 0, none⟩))) (hs : At a s u) (hb : w.heap[g]? = some (.cells cs T))
    (hu : P.underlying ty = some d) (hd : (match d with | .struct _ | .array _ _ => true | _ => false) = true) (hi : (P.info? ty).map (·.size) = some cs.size) (hR : R (.returned (.tuple #[.agg cs, u])) w) : bodyPost P fn R .ret a w :=
  ⟨hdf, .tuple #[.agg cs, u], by
    unfold At at ht hs
    have hp' : a.tmps[t]?.getD undef = .pointer (some ⟨g, 0, none⟩) := by simp [ht]
    simp [results, hr, hp', hs, asAddr, run_loadVar_row w g T ty cs (0, 0) d hb hu hd hi], hR⟩
theorem q_eqS {T T' : TypeId} {x y : Operand} {xs ys : Array Value} {r : Bool} (b : Bool) (ho : o.op = .binOp .eql T x y T') (hm : P.eqGuardType P.depth T = false) (hx : a.eval x = .agg xs) (hy : a.eval y = .agg ys) (h : ∀ w, (Op.equalIn 10000 T (.agg xs) (.agg ys)).run P w = .ok r w) (hb : r = b) (hn : K (a.put o.dst (.bool b))) : o.quiet P a C K :=
  q_val _ (fun w _ => by
    have h1 := run_eqGuard_agg (P := P) w .eql T x y xs ys hm
    have h2 := run_eql_struct (P := P) w T xs ys
    unfold execOp
    simp only [ho, hx, hy, Sem.run_bind, h1, Result.andThen_ok, h2, h w, Sem.run_pure, hb]) hn
theorem q_cuthi {T : TypeId} {x hi : Operand} {s : ByteArray} {k : Nat} (ho : o.op = .slice T x none (some hi) none) (hT : P.underlying T = some .string) (hx : a.eval x = .string s) (hh : a.eval hi = .int .i64 (k : Int)) (hk : k ≤ s.size) (hn : K (a.put o.dst (.string (s.extract 0 k)))) : o.quiet P a C K :=
  q_val _ (fun w _ => by
    have h1 : ((0 : Int) ≤ (k : Int) ∧ (k : Int) ≤ (s.size : Int)) := by omega
    unfold execOp
    simp [ho, hx, hh, Instr.sliceAt, Instr.slice, Instr.sliceBounds, Instr.sliceBound, asIntOf, Sem.run_bind, run_underlying hT w, h1]
    intro h2
    omega) hn
end
theorem guardW : Tryz.prog.eqGuardType Tryz.prog.depth 29 = false := by kernel_rfl
theorem eqW (d : Nat) (a b : ByteArray) (w : World) : (Op.equalIn (d + 2) 29 (.agg #[.string a]) (.agg #[.string b])).run Tryz.prog w = .ok (a.toList == b.toList) w :=
  eqA_of Tryz.underlying29 (by kernel_rfl) (eqf_last rfl (by kernel_rfl) (by kernel_rfl) (run_equalIn_string w d _ a b Tryz.underlying9))
theorem methW : ∀ w, (method (Tryz.prog.types.size + Made.depth) 33 (.agg #[]) "Number").run Tryz.prog w = .ok (9, .agg #[]) w := fun w => by kernel_rfl
theorem methN : ∀ w, (method (Tryz.prog.types.size + Made.depth) 37 (.agg #[]) "Number").run Tryz.prog w = .ok (10, .agg #[]) w := fun w => by kernel_rfl
end Go.Proofs.YtfjhnnpdaggnbaaGreatDoor.Q
end
/-! Px1 -/
section
namespace Go.Proofs.YtfjhnnpdaggnbaaGreatDoor.P
open Go.RowKit Go.Proofs.YtfjhnnpdaggnbaaGreatDoorW.PrintWords Go.Proofs.YtfjhnnpdaggnbaaGreatDoorW.PrintLast Go.Proofs.YtfjhnnpdaggnbaaGreatDoorW.PrintMore
attribute [local go_sem] max2_int min2_int max_two min_two max_three min_three max_four min_four   -- for this text's walks alone
set_option linter.unusedVariables false
set_option linter.unusedSimpArgs false
def ident_words.f  : Option (List ByteArray) := some (([(⟨#[]⟩ : ByteArray), (⟨#[98, 108, 111, 98]⟩ : ByteArray), (⟨#[116, 114, 101, 101]⟩ : ByteArray), (⟨#[99, 111, 109, 109, 105, 116]⟩ : ByteArray), (⟨#[116, 97, 103]⟩ : ByteArray)] : List ByteArray))
set_option maxHeartbeats 8000000 in
set_option maxRecDepth 100000 in
theorem ident_words.calls  (r : List ByteArray) (w : World) (h : ident_words.f  = some r) :
    Calls Tryz.prog 32 #[] w fun e w' => ∃ v0_ : Value, e = .returned (v0_) ∧ Kd.R Kd.string 9 w' w.heap.size (fun _ => True) v0_ r ∧ Below w.heap.size w w' := by
  have HB := Aside0.mk (Below.refl w.heap.size w)
  have H : (some (([(⟨#[]⟩ : ByteArray), (⟨#[98, 108, 111, 98]⟩ : ByteArray), (⟨#[116, 114, 101, 101]⟩ : ByteArray), (⟨#[99, 111, 109, 109, 105, 116]⟩ : ByteArray), (⟨#[116, 97, 103]⟩ : ByteArray)] : List ByteArray))) = some r := h
  clear h
  obtain ⟨y101, hy101⟩ : ∃ y_ : List ByteArray, y_ = (([(⟨#[]⟩ : ByteArray), (⟨#[98, 108, 111, 98]⟩ : ByteArray), (⟨#[116, 114, 101, 101]⟩ : ByteArray), (⟨#[99, 111, 109, 109, 105, 116]⟩ : ByteArray), (⟨#[116, 97, 103]⟩ : ByteArray)] : List ByteArray)) := ⟨_, rfl⟩
  replace H : (some y101) = some r := by first | (rw [hy101]; with_reducible exact H) | (have H2_ := (Option.bind_some _ _).symm.trans H; rw [hy101]; with_reducible exact H2_) | (have H2_ := (Option.bind_some _ _).symm.trans H; with_reducible exact H2_) | with_reducible exact H | (rw [hy101]; exact H) | exact H
  have Ny101 := Aside0.mk hy101
  clear hy101
  obtain rfl := Option.some.inj H
  go_enter Tryz.func32, Tryz.ntmps32
  go_wp2_with (first | ((with_reducible refine gate_dst (N := 1) rfl ?_); refine Kd.R_lit Kd.string _ 9 ?hg (N := 1) ?hd (xs := ([(⟨#[]⟩ : ByteArray), (⟨#[98, 108, 111, 98]⟩ : ByteArray), (⟨#[116, 114, 101, 101]⟩ : ByteArray), (⟨#[99, 111, 109, 109, 105, 116]⟩ : ByteArray), (⟨#[116, 97, 103]⟩ : ByteArray)] : List ByteArray)) (inner := [.string (⟨#[]⟩ : ByteArray), .string (⟨#[98, 108, 111, 98]⟩ : ByteArray), .string (⟨#[116, 114, 101, 101]⟩ : ByteArray), .string (⟨#[99, 111, 109, 109, 105, 116]⟩ : ByteArray), .string (⟨#[116, 97, 103]⟩ : ByteArray)]) (ok := fun _ => True) (okp := fun _ => True) ?hr ?hp (fun _ hk => hk) trivial (Below.refl _ _) (Nat.le_refl _) (by simp) ?_; (case hd => rfl); (case hg => rfl); (case hr => first | (go_simp; done) | (go_simp; rfl)); (case hp => exact (Reps.one (show Kd.M Kd.string _ _ _ (⟨#[]⟩ : ByteArray) [.string (⟨#[]⟩ : ByteArray)] from rfl) (Reps.one (show Kd.M Kd.string _ _ _ (⟨#[98, 108, 111, 98]⟩ : ByteArray) [.string (⟨#[98, 108, 111, 98]⟩ : ByteArray)] from rfl) (Reps.one (show Kd.M Kd.string _ _ _ (⟨#[116, 114, 101, 101]⟩ : ByteArray) [.string (⟨#[116, 114, 101, 101]⟩ : ByteArray)] from rfl) (Reps.one (show Kd.M Kd.string _ _ _ (⟨#[99, 111, 109, 109, 105, 116]⟩ : ByteArray) [.string (⟨#[99, 111, 109, 109, 105, 116]⟩ : ByteArray)] from rfl) (Reps.one (show Kd.M Kd.string _ _ _ (⟨#[116, 97, 103]⟩ : ByteArray) [.string (⟨#[116, 97, 103]⟩ : ByteArray)] from rfl) (Reps.none _ _))))))); intro v102 w1 ho2 hb hg_ hnew_; clear hg_ hnew_; (first | rw [← Ny101.out] at ho2 | (simp only [Int.reduceToNat] at ho2; rw [← Ny101.out] at ho2)); have n0_ := Aside0.mk (Kd.R_lower ho2 (below_size (by repeat (first | (with_reducible first | exact HB.out | apply below_alloc | apply pw_below_drewN | apply below_drew1) | exact HB.out)))); have n1_ := Aside0.mk (below_step (by repeat (first | (with_reducible first | exact HB.out | apply below_alloc | apply pw_below_drewN | apply below_drew1) | exact HB.out)) hb); clear HB; have HO103 := n0_; have HB := n1_; clear n0_ n1_; clear hb ho2))
  go_ret
  exact ⟨_, by first | rfl | (simp [errW_none, errW_some] <;> rfl) | (simp [*, errW_none, errW_some] <;> rfl), by (with_reducible repeat (first | apply Kd.R_alloc | apply Kd.R_drewN | apply Kd.R_drew)); exact HO103.out, by repeat (first | (with_reducible first | exact HB.out | apply below_alloc | apply pw_below_drewN | apply below_drew1) | exact HB.out)⟩
def ident_Word.f (a0 : Int) : Option (ByteArray) := if a0 < 1 then (some (⟨#[]⟩ : ByteArray)) else (if a0 > 4 then (some (⟨#[]⟩ : ByteArray)) else ((ident_words.f).bind fun t104 => (if 0 ≤ a0 then (if a0 < (t104.length : Int) then (some (rdOf ByteArray.empty t104 a0)) else (none)) else (none))))
set_option maxHeartbeats 8000000 in
set_option maxRecDepth 100000 in
theorem ident_Word.calls (a0 : Int) (r : ByteArray) (w : World) (h : ident_Word.f a0 = some r) :
    Calls Tryz.prog 11 #[.int .i64 a0] w fun e w' => e = .returned (.string r) ∧ Below w.heap.size w w' := by
  have HB := Aside0.mk (Below.refl w.heap.size w)
  have H : (if a0 < 1 then (some (⟨#[]⟩ : ByteArray)) else (if a0 > 4 then (some (⟨#[]⟩ : ByteArray)) else ((ident_words.f).bind fun t104 => (if 0 ≤ a0 then (if a0 < (t104.length : Int) then (some (rdOf ByteArray.empty t104 a0)) else (none)) else (none))))) = some r := h
  clear h
  by_cases c2 : a0 < 1
  · rw [if_pos c2] at H
    have c2b0 : decide (a0 < 1) = true := decide_eq_true c2
    clear c2
    obtain rfl := Option.some.inj H
    go_enter Tryz.func11, Tryz.ntmps11
    go_wp2
    go_ret
    exact ⟨by first | rfl | (simp [errW_none, errW_some] <;> rfl) | (simp [*, errW_none, errW_some] <;> rfl), by repeat (first | (with_reducible first | exact HB.out | apply below_alloc | apply pw_below_drewN | apply below_drew1) | exact HB.out)⟩
  · rw [if_neg c2] at H
    have c2b0 : decide (a0 < 1) = false := decide_eq_false c2
    clear c2
    by_cases c3 : a0 > 4
    · rw [if_pos c3] at H
      have c3b0 : decide (4 < a0) = true := decide_eq_true c3
      clear c3
      obtain rfl := Option.some.inj H
      go_enter Tryz.func11, Tryz.ntmps11
      go_wp2
      go_ret
      exact ⟨by first | rfl | (simp [errW_none, errW_some] <;> rfl) | (simp [*, errW_none, errW_some] <;> rfl), by repeat (first | (with_reducible first | exact HB.out | apply below_alloc | apply pw_below_drewN | apply below_drew1) | exact HB.out)⟩
    · rw [if_neg c3] at H
      have c3b0 : decide (4 < a0) = false := decide_eq_false c3
      clear c3
      replace H := Option.bind_eq_some_iff.mp H
      obtain ⟨t104, A40, H⟩ := H
      replace H : (if 0 ≤ a0 then (if a0 < (t104.length : Int) then (some (rdOf ByteArray.empty t104 a0)) else (none)) else (none)) = some r := H
      have A4 := Aside0.mk A40
      clear A40
      by_cases c5 : 0 ≤ a0
      · rw [if_pos c5] at H
        have c5b0 : decide (0 ≤ a0) = true := decide_eq_true c5
        clear c5
        by_cases c6 : a0 < (t104.length : Int)
        · rw [if_pos c6] at H
          have c6b0 : decide (a0 < (t104.length : Int)) = true := decide_eq_true c6
          clear c6
          obtain rfl := Option.some.inj H
          go_enter Tryz.func11, Tryz.ntmps11
          go_wp2_with (first | ((with_reducible refine gate_callee (f := 32) rfl ?_); refine goesL_ (some 9) rfl rfl Tryz.func32 (by kernel_rfl) rfl #[] rfl (by (try simp only [List.map_toArray, List.map_cons, List.map_nil]); first | done | rfl | (simp only [List.length_drop, List.length_take]; rfl)) ?_; (with_reducible refine (ident_words.calls  t104 _ A4.out).mono ?_); rintro e w7 ⟨v105, rfl, ho0, hb⟩; refine ⟨_, rfl, ?_⟩; have n0_ := Aside0.mk (Kd.R_lower ho0 (below_size (by repeat (first | (with_reducible first | exact HB.out | apply below_alloc | apply pw_below_drewN | apply below_drew1) | exact HB.out)))); have n1_ := Aside0.mk (below_step (by repeat (first | (with_reducible first | exact HB.out | apply below_alloc | apply pw_below_drewN | apply below_drew1) | exact HB.out)) hb); clear HB; have HO106 := n0_; have HB := n1_; clear n0_ n1_; (try clear hb); (try clear hb2); (try clear hk); (try clear hi); (try clear ho0); obtain ⟨Ao8, co8, eo8⟩ := Kd.R_slice HO106.out; subst eo8; have p107 : 0 ≤ (a0 : Int) := of_decide_eq_true (by first | (with_reducible assumption) | assumption); have q107 : a0 < (t104.length : Int) := of_decide_eq_true (by first | (with_reducible assumption) | assumption); (try (obtain ⟨Aoz_, coz_, eoz_⟩ := Kd.R_slice HO106.out; subst eoz_)); obtain ⟨ad107, e107, hx107_0⟩ := Kd.at_string (Kd.R_reads' HO106.out).2.2 a0 p107 q107; cases e107; replace p107 := eq_true p107; replace q107 := eq_true q107))
          go_ret
          exact ⟨by first | rfl | (simp [errW_none, errW_some] <;> rfl) | (simp [*, errW_none, errW_some] <;> rfl), by repeat (first | (with_reducible first | exact HB.out | apply below_alloc | apply pw_below_drewN | apply below_drew1) | exact HB.out)⟩
        · rw [if_neg c6] at H
          exact absurd H (by simp)
      · rw [if_neg c5] at H
        exact absurd H (by simp)
def slices_Index_string_string.l0 : Nat → List ByteArray → ByteArray → Int → Int → Option (Int)
  | 0, _, _, _, _ => none
  | k + 1, x0, x1, x7, x8 => if x8 < x7 then (if 0 ≤ x8 then (if x8 < (x0.length : Int) then (if x1.toList = (rdOf ByteArray.empty x0 x8).toList then (some x8) else (slices_Index_string_string.l0 k x0 x1 x7 (wrap64 (x8 + 1)))) else (none)) else (none)) else (some (-1))
def slices_Index_string_string.f (k : Nat) (l0 : List ByteArray) (a1 : ByteArray) : Option (Int) := slices_Index_string_string.l0 k l0 a1 (l0.length : Int) 0
theorem slices_Index_string_string.mono_l : ∀ k, (∀ y0 y1 y2 y3, LeO (slices_Index_string_string.l0 k y0 y1 y2 y3) (slices_Index_string_string.l0 (k + 1) y0 y1 y2 y3))
  | 0 => fun _ _ _ _ r h => by simp [slices_Index_string_string.l0] at h
  | k + 1 => by
    have ih0 := slices_Index_string_string.mono_l k
    · intro y0 y1 y2 y3
      unfold slices_Index_string_string.l0
      repeat' first
      | (with_reducible exact ih0 _ _ _ _)
      | (with_reducible exact LeO.refl _)
      | (with_reducible exact LeO.none _)
      | (with_reducible refine LeO.ite ?_ ?_)
      | (with_reducible refine LeO.bind ?_ (fun _ => ?_))
      | exact ih0 _ _ _ _
      | exact LeO.none _
      | refine LeO.ite ?_ ?_
      | refine LeO.bind ?_ (fun _ => ?_)
theorem slices_Index_string_string.mono : ∀ a0 a1 k, LeO (slices_Index_string_string.f k a0 a1) (slices_Index_string_string.f (k + 1) a0 a1) := by
  intro a0 a1 k
  have ih0 := slices_Index_string_string.mono_l k
  unfold slices_Index_string_string.f
  repeat' first
      | (with_reducible exact ih0 _ _ _ _)
      | (with_reducible exact LeO.refl _)
      | (with_reducible exact LeO.none _)
      | (with_reducible refine LeO.ite ?_ ?_)
      | (with_reducible refine LeO.bind ?_ (fun _ => ?_))
      | exact ih0 _ _ _ _
      | exact LeO.none _
      | refine LeO.ite ?_ ?_
      | refine LeO.bind ?_ (fun _ => ?_)
set_option maxHeartbeats 8000000 in
set_option maxRecDepth 100000 in
theorem slices_Index_string_string.calls (k : Nat) (A0 : Option Addr) (c0 : Nat) (l0 : List ByteArray) (a1 : ByteArray) (r : Int) (w : World) (hr0 : Kd.C Kd.string w A0 l0.length l0) (hc0 : l0.length ≤ c0) (h : slices_Index_string_string.f k l0 a1 = some r) :
    Calls Tryz.prog 33 #[.slice A0 l0.length c0, .string a1] w fun e w' => e = .returned (.int .i64 r) ∧ Drawn0 w w' := by
  have HR0 := Aside0.mk hr0
  have HC0 := Aside0.mk hc0
  clear hr0 hc0
  have H : (slices_Index_string_string.l0 k l0 a1 (l0.length : Int) 0) = some r := h
  clear h
  have H' := Aside0.mk H
  clear H
  go_enter Tryz.func33, Tryz.ntmps33
  go_wp2
  go_loopg [8] k (fun kq v8 w' => ∃ (x8_1 : Int), v8 = .int .i64 x8_1 ∧ Aside0 (slices_Index_string_string.l0 kq l0 a1 (l0.length : Int) x8_1 = some r) ∧ Aside0 (kq ≤ k) ∧ Drawn0 w w')
  case atStart => exact ⟨(0), (by first | rfl | (simp; done) | (simp [*]; done)), H', ⟨Nat.le_refl _⟩, by repeat (first | exact Drawn0.refl _ | apply Drawn0.step)⟩
  case round =>
    clear H'
    try clear p2
    obtain ⟨x8_1, rfl, HA, HK1, ⟨m1, rfl⟩⟩ := hrel
    cases gk with
    | zero => exact absurd HA.out (by simp [slices_Index_string_string.l0])
    | succ k1 =>
      have H := HA.out
      clear HA
      simp only [slices_Index_string_string.l0] at H
      by_cases c3 : x8_1 < (l0.length : Int)
      · rw [if_pos c3] at H
        have c3b0 : decide (x8_1 < (l0.length : Int)) = true := decide_eq_true c3
        clear c3
        by_cases c4 : 0 ≤ x8_1
        · rw [if_pos c4] at H
          have c4b0 : decide (0 ≤ x8_1) = true := decide_eq_true c4
          clear c4
          by_cases c5 : x8_1 < (l0.length : Int)
          · rw [if_pos c5] at H
            have c5b0 : decide (x8_1 < (l0.length : Int)) = true := decide_eq_true c5
            clear c5
            by_cases c6 : a1.toList = (rdOf ByteArray.empty l0 x8_1).toList
            · rw [if_pos c6] at H
              have c6b0 : (a1.toList == (rdOf ByteArray.empty l0 x8_1).toList) = true := beq_iff_eq.mpr c6
              have c6b1 : (a1.toList != (rdOf ByteArray.empty l0 x8_1).toList) = false := bne_eq_false_iff_eq.mpr c6
              clear c6
              obtain rfl := Option.some.inj H
              have p108 : 0 ≤ (x8_1 : Int) := of_decide_eq_true (by first | (with_reducible assumption) | assumption)
              have q108 : x8_1 < (l0.length : Int) := of_decide_eq_true (by first | (with_reducible assumption) | assumption)
              obtain ⟨ad108, e108, hx108_0⟩ := Kd.at_string HR0.out x8_1 p108 q108
              cases e108
              replace p108 := eq_true p108
              replace q108 := eq_true q108
              go_wp2
              go_ret
              exact ⟨by first | rfl | (simp; done) | (simp [*]; done), by repeat (first | exact Drawn0.refl _ | apply Drawn0.step)⟩
            · rw [if_neg c6] at H
              have c6b0 : (a1.toList == (rdOf ByteArray.empty l0 x8_1).toList) = false := beq_eq_false_iff_ne.mpr c6
              have c6b1 : (a1.toList != (rdOf ByteArray.empty l0 x8_1).toList) = true := bne_iff_ne.mpr c6
              have H' := Aside0.mk H
              clear H
              have p108 : 0 ≤ (x8_1 : Int) := of_decide_eq_true (by first | (with_reducible assumption) | assumption)
              have q108 : x8_1 < (l0.length : Int) := of_decide_eq_true (by first | (with_reducible assumption) | assumption)
              obtain ⟨ad108, e108, hx108_0⟩ := Kd.at_string HR0.out x8_1 p108 q108
              cases e108
              replace p108 := eq_true p108
              replace q108 := eq_true q108
              go_wp2
              go_roundg k1
              case measure => have := HK1.out; omega
              case rel => exact ⟨(wrap64 (x8_1 + 1)), (by first | rfl | (simp; done) | (simp [*]; done)), H', ⟨by have := HK1.out; omega⟩, by repeat (first | exact Drawn0.refl _ | apply Drawn0.step)⟩
          · rw [if_neg c5] at H
            exact absurd H (by simp)
        · rw [if_neg c4] at H
          exact absurd H (by simp)
      · rw [if_neg c3] at H
        have c3b0 : decide (x8_1 < (l0.length : Int)) = false := decide_eq_false c3
        clear c3
        obtain rfl := Option.some.inj H
        go_wp2
        go_ret
        exact ⟨by first | rfl | (simp; done) | (simp [*]; done), by repeat (first | exact Drawn0.refl _ | apply Drawn0.step)⟩
def ident_Kind.f (k : Nat) (a0 : ByteArray) : Option (Int) := (ident_words.f).bind fun t109 => ((slices_Index_string_string.f k t109 a0).bind fun t112 => (some (mx 0 t112)))
theorem ident_Kind.mono : ∀ a0 k, LeO (ident_Kind.f k a0) (ident_Kind.f (k + 1) a0) := by
  intro a0 k
  unfold ident_Kind.f
  repeat' first
      | (with_reducible exact slices_Index_string_string.mono _ _ _)
      | (with_reducible exact LeO.refl _)
      | (with_reducible exact LeO.none _)
      | (with_reducible refine LeO.ite ?_ ?_)
      | (with_reducible refine LeO.bind ?_ (fun _ => ?_))
      | exact slices_Index_string_string.mono _ _ _
      | exact LeO.none _
      | refine LeO.ite ?_ ?_
      | refine LeO.bind ?_ (fun _ => ?_)
set_option maxHeartbeats 8000000 in
set_option maxRecDepth 100000 in
theorem ident_Kind.calls (k : Nat) (a0 : ByteArray) (r : Int) (w : World) (h : ident_Kind.f k a0 = some r) :
    Calls Tryz.prog 13 #[.string a0] w fun e w' => e = .returned (.int .i64 r) ∧ Below w.heap.size w w' := by
  have HB := Aside0.mk (Below.refl w.heap.size w)
  have H : ((ident_words.f).bind fun t109 => ((slices_Index_string_string.f k t109 a0).bind fun t112 => (some (mx 0 t112)))) = some r := h
  clear h
  replace H := Option.bind_eq_some_iff.mp H
  obtain ⟨t109, A20, H⟩ := H
  replace H : ((slices_Index_string_string.f k t109 a0).bind fun t112 => (some (mx 0 t112))) = some r := H
  have A2 := Aside0.mk A20
  clear A20
  replace H := Option.bind_eq_some_iff.mp H
  obtain ⟨t112, A30, H⟩ := H
  replace H : (some (mx 0 t112)) = some r := H
  have A3 := Aside0.mk A30
  clear A30
  obtain ⟨ji4, hji4⟩ : ∃ j_ : Int, (mx 0 t112) = j_ := ⟨_, rfl⟩
  replace H : (some ji4) = some r := by first | (rw [hji4] at H; exact H) | (simp only [hji4] at H ⊢; exact H)
  (try rw [hji4] at A2)
  (try rw [hji4] at A3)
  (try (have hji4l : 0 ≤ ji4 := by (rw [← hji4]; unfold mx; (repeat' split) <;> omega)))
  (try (have hji4m : 0 ≤ ji4 := by omega))
  have hji4_ : (if 0 < t112 then t112 else 0) = ji4 := hji4
  obtain rfl := Option.some.inj H
  go_enter Tryz.func13, Tryz.ntmps13
  go_wp2_with (first | ((with_reducible refine gate_callee (f := 32) rfl ?_); refine goesL_ (some 3) rfl rfl Tryz.func32 (by kernel_rfl) rfl #[] rfl (by (try simp only [List.map_toArray, List.map_cons, List.map_nil]); first | done | rfl | (simp only [List.length_drop, List.length_take]; rfl)) ?_; (with_reducible refine (ident_words.calls  t109 _ A2.out).mono ?_); rintro e w5 ⟨v110, rfl, ho0, hb⟩; refine ⟨_, rfl, ?_⟩; have n0_ := Aside0.mk (Kd.R_lower ho0 (below_size (by repeat (first | (with_reducible first | exact HB.out | apply below_alloc | apply pw_below_drewN | apply below_drew1) | exact HB.out)))); have n1_ := Aside0.mk (below_step (by repeat (first | (with_reducible first | exact HB.out | apply below_alloc | apply pw_below_drewN | apply below_drew1) | exact HB.out)) hb); clear HB; have HO111 := n0_; have HB := n1_; clear n0_ n1_; (try clear hb); (try clear hb2); (try clear hk); (try clear hi); (try clear ho0); obtain ⟨Ao6, co6, eo6⟩ := Kd.R_slice HO111.out; subst eo6) | ((with_reducible refine gate_callee (f := 33) rfl ?_); refine goesL_ (some 5) rfl rfl Tryz.func33 (by kernel_rfl) rfl #[.slice Ao6 t109.length co6, .string a0] rfl (by (try simp only [List.map_toArray, List.map_cons, List.map_nil]); first | done | rfl | (simp only [List.length_drop, List.length_take]; rfl)) ?_; (with_reducible refine (slices_Index_string_string.calls k _ _ t109 a0 t112 _ ?side1 ?side2 A3.out).mono ?_); (case side1 => repeat (first | exact (Kd.R_reads' HO111.out).2.2 | (with_reducible refine Kd.C_alloc ?_ _) | (with_reducible refine Kd.C_drewN ?_ _) | (with_reducible refine Kd.C_drew ?_))); (case side2 => exact (Kd.R_reads' HO111.out).2.1); rintro e w' ⟨rfl, ⟨nd, rfl⟩⟩; refine ⟨_, rfl, ?_⟩))
  go_ret
  exact ⟨by first | rfl | (simp [errW_none, errW_some] <;> rfl) | (simp only [← hji4]; first | rfl | (simp [errW_none, errW_some] <;> rfl)) | (simp [*, errW_none, errW_some] <;> rfl), by repeat (first | (with_reducible first | exact HB.out | apply below_alloc | apply pw_below_drewN | apply below_drew1) | exact HB.out)⟩
end Go.Proofs.YtfjhnnpdaggnbaaGreatDoor.P
end
/-! I1 -/
section
namespace Go.Proofs.YtfjhnnpdaggnbaaGreatDoor.Q
open Go.Joins Go.RowKit Go.Shelf Go.Proofs.YtfjhnnpdaggnbaaGreatDoor.P Go.Proofs.YtfjhnnpdaggnbaaGreatDoorW.PrintWords
set_option maxRecDepth 100000
def word (k : Int) : ByteArray := if k = 1 then ⟨#[98, 108, 111, 98]⟩ else if k = 2 then ⟨#[116, 114, 101, 101]⟩ else if k = 3 then ⟨#[99, 111, 109, 109, 105, 116]⟩ else if k = 4 then ⟨#[116, 97, 103]⟩ else ⟨#[]⟩
theorem word_size (k : Int) : (word k).size ≤ 6 := by
  unfold word
  repeat' split
  all_goals decide
theorem word_f (k : Int) : ident_Word.f k = some (word k) := by
  unfold ident_Word.f word
  by_cases h : k < 1
  · rw [if_pos h, if_neg (by omega), if_neg (by omega), if_neg (by omega), if_neg (by omega)]
  · rw [if_neg h]
    by_cases h2 : k > 4
    · rw [if_pos h2, if_neg (by omega), if_neg (by omega), if_neg (by omega), if_neg (by omega)]
    · rw [if_neg h2]
      rcases (by omega : k = 1 ∨ k = 2 ∨ k = 3 ∨ k = 4) with rfl | rfl | rfl | rfl <;> rfl
theorem Word.calls (k : Int) (w0 : World) : Calls Tryz.prog 11 #[.int .i64 k] w0 fun e w' => e = .returned (.string (word k)) ∧ Low w0 w' := ident_Word.calls k _ w0 (word_f k)
def nsize (s : Int) : Int := if s = 1 then 20 else if s = 2 then 32 else 0
theorem nsize_f (s : Int) : hexa_Size.f s = some (nsize s) := by
  unfold hexa_Size.f nsize
  repeat' split
  all_goals rfl
theorem Size.calls (s : Int) (w0 : World) : Calls Tryz.prog 24 #[.int .i64 s] w0 fun e w' => e = .returned (.int .i64 (nsize s)) ∧ Low w0 w' :=
  (hexa_Size.calls s _ w0 (nsize_f s)).mono fun _ _ ⟨e, h⟩ => ⟨e, h.below⟩
def itoaS (n : Nat) : ByteArray := ⟨(Lib.itoa (n : Int)).toArray⟩
theorem itoaS_size (n : Nat) (h : n ≤ 9223372036854775807) : (itoaS n).size ≤ 21 := by
  have := Lib.itoa_length_le (n : Int) (by omega) (by omega)
  show (Lib.itoa (n : Int)).toArray.size ≤ 21
  rw [List.size_toArray]
  exact this
/-- the table of powers of ten lies there -/
def Gd (w : World) : Prop := Lib.TabIs Tryz.prog w "internal/strconv.uint64pow10" .u64 Lib.pow10Tab
theorem Gd.low {w w' : World} (h : Gd w) (l : Low w w') : Gd w' := tab_stays (g := 0) (by kernel_rfl) h l (Nat.le_refl _)
theorem Itoa.calls (n : Nat) (hn : n ≤ 9223372036854775807) (w0 : World) (hG : Gd w0) : Calls Tryz.prog 34 #[.int .i64 (n : Int)] w0 fun e w' => e = .returned (.string (itoaS n)) ∧ Low w0 w' := by
  refine (Any.strconv_Itoa Tryz.laysM171 (n : Int) (by omega) (by omega) w0 hG).mono ?_
  rintro e w' ⟨rfl, k, os, rfl⟩
  exact ⟨rfl, Lib.below_grow _ w0 (Nat.le_refl _) k os⟩
theorem Digits.calls (k : Nat) (s r : ByteArray) (h : hexa_Digits.f k s = some r) (w0 : World) : Calls Tryz.prog 36 #[.string s] w0 fun e w' => e = .returned (.string r) ∧ Low w0 w' := hexa_Digits.calls k s r w0 h
theorem sz_sp : (⟨#[32]⟩ : ByteArray).size = 1 := rfl
theorem sz_z : (⟨#[0]⟩ : ByteArray).size = 1 := rfl
def rowS (k : Int) (c : ByteArray) : ByteArray := word k ++ ⟨#[32]⟩ ++ itoaS c.size ++ ⟨#[0]⟩ ++ c
theorem rowS_size (k : Int) (c : ByteArray) (h : c.size ≤ 9223372036854775807) : (rowS k c).size ≤ c.size + 29 := by
  have h1 := word_size k
  have h2 := itoaS_size c.size h
  unfold rowS
  simp only [ByteArray.size_append, sz_sp, sz_z]
  omega
/-- an object's row -/
def row (k : Int) (c : ByteArray) : ByteArray := if ((word k).toList == (⟨#[]⟩ : ByteArray).toList) = true then ⟨#[]⟩ else rowS k c
/-- an object's name, and its error -/
def marked (x : ByteArray) : Bool := mblk x ((fillL x).size / 64)
def idS (s k : Int) (c : ByteArray) : ByteArray × Int :=
  if ((word k).toList == (⟨#[]⟩ : ByteArray).toList) = true then (⟨#[]⟩, 4)
  else if decide (nsize s = 0) = true then (⟨#[]⟩, 1)
  else if decide ((c.size : Int) > 65536) = true then (⟨#[]⟩, 9)
  else if decide (s = 2) = true then (sumL2 (row k c), 0)
  else if marked (row k c) = true then (⟨#[]⟩, 10) else (sumL (row k c), 0)
theorem row_size (k : Int) (c : ByteArray) (h : c.size ≤ 9223372036854775807) : (row k c).size ≤ c.size + 29 := by
  unfold row
  split
  · show 0 ≤ _; omega
  · exact rowS_size k c h
def mkN (n : Int) (a : ByteArray) : ByteArray := if decide ((a.size : Int) ≠ n) = true then ⟨#[]⟩ else a
def mkE (n : Int) (a : ByteArray) : Int := if decide ((a.size : Int) ≠ n) = true then 3 else 0
def ofN (s k n : Int) (c : ByteArray) : ByteArray := if decide ((idS s k c).2 ≠ 0) = true then ⟨#[]⟩ else mkN n (idS s k c).1
def ofE (s k n : Int) (c : ByteArray) : Int := if decide ((idS s k c).2 ≠ 0) = true then (idS s k c).2 else mkE n (idS s k c).1
end Go.Proofs.YtfjhnnpdaggnbaaGreatDoor.Q
end
/-! G3 -/
section
namespace Go.Proofs.YtfjhnnpdaggnbaaGreatDoor.Q
open Go.Proofs.YtfjhnnpdaggnbaaGreatDoorW.PrintWords (bytesOf bytesOf_length)
open Go.RowKit Go.Proofs.YtfjhnnpdaggnbaaGreatDoor.P
set_option linter.unusedVariables false
set_option linter.unusedSimpArgs false
set_option maxRecDepth 100000
set_option maxHeartbeats 4000000
attribute [local irreducible] wpList wpQuiet qch Code.wp Oper.quiet Act.put At Region.wanted yielded
theorem sz29 : (Tryz.prog.info? 29).map (·.size) = some 1 := by kernel_rfl
theorem sz34 : (Tryz.prog.info? 34).map (·.size) = some 1 := by kernel_rfl
theorem sz33 : (Tryz.prog.info? 33).map (·.size) = some 0 := by kernel_rfl
theorem sz37 : (Tryz.prog.info? 37).map (·.size) = some 0 := by kernel_rfl
theorem zero29 : ∀ w, (zeroValue 29).run Tryz.prog w = .ok (.agg #[.string (⟨#[]⟩ : ByteArray)]) w := fun w => by kernel_rfl
theorem bN29 (s : ByteArray) : Tryz.prog.built 29 [(0, .string s)] = some #[.string s] := by kernel_rfl
theorem zero34 : ∀ w, (zeroValue 34).run Tryz.prog w = .ok (.agg #[.string (⟨#[]⟩ : ByteArray)]) w := fun w => by kernel_rfl
theorem bN34 (s : ByteArray) : Tryz.prog.built 34 [(0, .string s)] = some #[.string s] := by kernel_rfl
theorem zero33 : ∀ w, (zeroValue 33).run Tryz.prog w = .ok (.agg #[]) w := fun w => by kernel_rfl
theorem zero37 : ∀ w, (zeroValue 37).run Tryz.prog w = .ok (.agg #[]) w := fun w => by kernel_rfl
theorem NumbW.calls (w0 : World) : Calls Tryz.prog 9 #[.agg #[]] w0 fun e w' => e = .returned (.int .i64 2) ∧ Low w0 w' := by
 refine c_fun (R := _) Tryz.func9 rfl 3 rfl (Nat.le_of_ble_eq_true rfl) ?_
 intro a z hA
 have s0 := hA 0 _ rfl
 clear hA
 refine c_seq (c_region (l_box rfl rfl s0.ev ?_))
 intro g1 w1 hg1 k1 h1
 have geg1 := Nat.le_trans (Low.refl _).ge hg1
 refine l_q rfl (q_assign _ _ rfl rfl ?_)
 refine l_end (e_fresh z.p2 ?_)
 intro a2 z2 m2
 have low2 := h1
 clear m2
 refine e_then (c_seq (c_region ?_))
 refine l_q rfl (q_assign _ _ rfl rfl ?_)
 refine l_end (e_fresh z2.put ?_)
 intro a3 z3 m3
 have s2_3 := m3 _ _ (At.hit z2 rfl)
 clear m3
 refine e_then (wp_ret (r_tmp rfl z3.defers s2_3 ?_))
 exact ⟨rfl, low2⟩
theorem NumberW.calls (w0 : World) : Calls Tryz.prog 29 #[] w0 fun e w' => e = .returned (.int .i64 2) ∧ Low w0 w' := by
 refine c_fun (R := _) Tryz.func29 rfl 5 rfl (Nat.le_of_ble_eq_true rfl) ?_
 intro a z hA
 clear hA
 refine c_seq (c_region ?_)
 refine l_q rfl (q_assign _ _ rfl rfl ?_)
 refine l_end (e_fresh z.put ?_)
 intro a1 z1 m1
 clear m1
 refine e_then (c_seq (c_region (l_alloc rfl rfl zero33 ?_)))
 intro g1 w2 hg2 k2 h2
 have geg1 := Nat.le_trans (Low.refl _).ge hg2
 refine l_end (e_fresh z1.put ?_)
 intro a3 z3 m3
 have s1_3 := m3 _ _ (At.hit z1 rfl)
 have low3 := h2
 clear m3
 refine e_then (c_seq (c_region ?_))
 refine l_q rfl (q_row rfl Tryz.underlying33 rfl (sz33.trans (congrArg some rfl.symm)) s1_3.ev (fun _ e => by rw [e]; exact k2) ?_)
 refine l_q rfl (q_iface rfl Tryz.underlying33 rfl (At.hit z3 rfl).ev ?_)
 refine l_invoke (fun v w' => v = .int .i64 2 ∧ Low w2 w') rfl rfl rfl (At.hit z3.put rfl).ev methW Tryz.func9 rfl ((NumbW.calls _).mono fun _ _ ⟨e, k⟩ => ⟨_, e, rfl, k⟩) ?_
 rintro _ w4 ⟨rfl, h4⟩
 have kg1_4 := h4.blk k2
 refine l_q rfl (q_assign _ _ rfl (At.hit z3.p2 rfl).ev ?_)
 refine l_end (e_fresh z3.p4 ?_)
 intro a5 z5 m5
 have s0_5 := m5 _ _ (At.hit z3.p3 rfl)
 have low5 := (low3.trans h4)
 clear m5
 refine e_then (wp_ret (r_tmp rfl z5.defers s0_5 ?_))
 exact ⟨rfl, low5⟩
theorem NumbN.calls (w0 : World) : Calls Tryz.prog 10 #[.agg #[]] w0 fun e w' => e = .returned (.int .i64 1) ∧ Low w0 w' := by
 refine c_fun (R := _) Tryz.func10 rfl 3 rfl (Nat.le_of_ble_eq_true rfl) ?_
 intro a z hA
 have s0 := hA 0 _ rfl
 clear hA
 refine c_seq (c_region (l_box rfl rfl s0.ev ?_))
 intro g1 w1 hg1 k1 h1
 have geg1 := Nat.le_trans (Low.refl _).ge hg1
 refine l_q rfl (q_assign _ _ rfl rfl ?_)
 refine l_end (e_fresh z.p2 ?_)
 intro a2 z2 m2
 have low2 := h1
 clear m2
 refine e_then (c_seq (c_region ?_))
 refine l_q rfl (q_assign _ _ rfl rfl ?_)
 refine l_end (e_fresh z2.put ?_)
 intro a3 z3 m3
 have s2_3 := m3 _ _ (At.hit z2 rfl)
 clear m3
 refine e_then (wp_ret (r_tmp rfl z3.defers s2_3 ?_))
 exact ⟨rfl, low2⟩
theorem NumberN.calls (w0 : World) : Calls Tryz.prog 30 #[] w0 fun e w' => e = .returned (.int .i64 1) ∧ Low w0 w' := by
 refine c_fun (R := _) Tryz.func30 rfl 5 rfl (Nat.le_of_ble_eq_true rfl) ?_
 intro a z hA
 clear hA
 refine c_seq (c_region ?_)
 refine l_q rfl (q_assign _ _ rfl rfl ?_)
 refine l_end (e_fresh z.put ?_)
 intro a1 z1 m1
 clear m1
 refine e_then (c_seq (c_region (l_alloc rfl rfl zero37 ?_)))
 intro g1 w2 hg2 k2 h2
 have geg1 := Nat.le_trans (Low.refl _).ge hg2
 refine l_end (e_fresh z1.put ?_)
 intro a3 z3 m3
 have s1_3 := m3 _ _ (At.hit z1 rfl)
 have low3 := h2
 clear m3
 refine e_then (c_seq (c_region ?_))
 refine l_q rfl (q_row rfl Tryz.underlying37 rfl (sz37.trans (congrArg some rfl.symm)) s1_3.ev (fun _ e => by rw [e]; exact k2) ?_)
 refine l_q rfl (q_iface rfl Tryz.underlying37 rfl (At.hit z3 rfl).ev ?_)
 refine l_invoke (fun v w' => v = .int .i64 1 ∧ Low w2 w') rfl rfl rfl (At.hit z3.put rfl).ev methN Tryz.func10 rfl ((NumbN.calls _).mono fun _ _ ⟨e, k⟩ => ⟨_, e, rfl, k⟩) ?_
 rintro _ w4 ⟨rfl, h4⟩
 have kg1_4 := h4.blk k2
 refine l_q rfl (q_assign _ _ rfl (At.hit z3.p2 rfl).ev ?_)
 refine l_end (e_fresh z3.p4 ?_)
 intro a5 z5 m5
 have s0_5 := m5 _ _ (At.hit z3.p3 rfl)
 have low5 := (low3.trans h4)
 clear m5
 refine e_then (wp_ret (r_tmp rfl z5.defers s0_5 ?_))
 exact ⟨rfl, low5⟩
theorem MakeW.calls (y : ByteArray) (ha : y.size ≤ 140737488350000) (w0 : World) : Calls Tryz.prog 21 #[.string y] w0 fun e w' => e = .returned (.tuple #[.agg #[.string (mkN 32 y)], .int .i64 (mkE 32 y)]) ∧ Low w0 w' := by
 refine c_fun (R := _) Tryz.func21 rfl 12 rfl (Nat.le_of_ble_eq_true rfl) ?_
 intro a z hA
 have s0 := hA 0 _ rfl
 clear hA
 refine c_seq (c_region (l_alloc rfl rfl zero29 ?_))
 intro g2 w1 hg1 k1 h1
 have geg2 := Nat.le_trans (Low.refl _).ge hg1
 refine l_q rfl (q_assign _ _ rfl rfl ?_)
 refine l_end (e_fresh z.p2 ?_)
 intro a2 z2 m2
 have s0_2 := m2 _ _ (s0.n2)
 have s2_2 := m2 _ _ ((At.hit z rfl).n1)
 have low2 := h1
 clear m2
 refine e_then (c_seq (c_seq (c_region ?_)))
 refine l_q rfl (q_move _ _ rfl s0_2.ev ?_)
 refine l_q rfl (q_len rfl rfl Tryz.underlying9 (At.hit z2 rfl).ev ?_)
 refine l_call (fun v w' => v = .int .i64 2 ∧ Low w1 w') rfl rfl rfl Tryz.func29 rfl (show Array.map _ _ = (#[] : Array Value) from by simp) ((NumberW.calls _).mono fun _ _ ⟨e, k⟩ => ⟨_, e, rfl, k⟩) ?_
 rintro _ w3 ⟨rfl, h3⟩
 have kg2_3 := h3.blk k1
 refine l_call (fun v w' => v = .int .i64 32 ∧ Low w3 w') rfl rfl rfl Tryz.func24 rfl (args1 rfl (At.hit z2.p2 rfl).ev) ((Size.calls 2 _).mono fun _ _ ⟨e, k⟩ => ⟨_, e, rfl, k⟩) ?_
 rintro _ w4 ⟨rfl, h4⟩
 have kg2_4 := h4.blk kg2_3
 refine l_q rfl (q_neq _ rfl ((At.hit z2.put rfl).n2).ev (At.hit z2.p3 rfl).ev rfl ?_)
 refine l_end (e_fresh z2.p5 ?_)
 intro a5 z5 m5
 have s0_5 := m5 _ _ (s0_2.n5)
 have s2_5 := m5 _ _ (s2_2.n5)
 have s8_5 := m5 _ _ (At.hit z2.p4 rfl)
 have low5 := ((low2.trans h3).trans h4)
 clear m5
 refine e_then ?_
 cases hc6 : decide (((y.size : Nat) : Int) ≠ 32) with
 | true =>
  have hs6 := s8_5.same (congrArg Value.bool hc6)
  refine c_true hs6 ?_
  refine c_seq (c_region ?_)
  refine l_q rfl (q_build (cs := #[.string (⟨#[]⟩ : ByteArray)]) rfl rfl (by kernel_rfl) ?_)
  refine l_row rfl rfl rfl (sz29.trans (congrArg some rfl.symm)) (s2_5.n1).ev (At.hit z5 rfl).ev (by simp [Value.oneCell']) kg2_4 (rfl.trans rfl.symm) ?_
  intro w7 k7 u7
  refine l_q rfl (q_assign _ _ rfl rfl ?_)
  refine l_end (e_fresh z5.p2 ?_)
  intro a8 z8 m8
  have s2_8 := m8 _ _ (s2_5.n2)
  have s3_8 := m8 _ _ (At.hit z5.put rfl)
  have low8 := (low5.upd u7 geg2)
  clear m8
  refine e_then (wp_ret (ret_then (r_cell_tmp rfl z8.defers s2_8 s3_8 k7 Tryz.underlying29 rfl (sz29.trans (congrArg some rfl.symm)) ?_)))
  exact ⟨by unfold mkN mkE; rw [hc6]; rfl, low8⟩
 | false =>
  have hs6 := s8_5.same (congrArg Value.bool hc6)
  refine c_false hs6 ?_
  refine wp_skip (e_then (c_seq (c_region ?_)))
  refine l_q rfl (q_move _ _ rfl s0_5.ev ?_)
  refine l_q rfl (q_build rfl (parts1 (At.hit z5 rfl).ev) (bN29 _) ?_)
  refine l_row rfl rfl rfl (sz29.trans (congrArg some rfl.symm)) (s2_5.n2).ev (At.hit z5.put rfl).ev (by simp [Value.oneCell']) kg2_4 (rfl.trans rfl.symm) ?_
  intro w9 k9 u9
  refine l_q rfl (q_assign _ _ rfl rfl ?_)
  refine l_end (e_fresh z5.p3 ?_)
  intro a10 z10 m10
  have s2_10 := m10 _ _ (s2_5.n3)
  have s3_10 := m10 _ _ (At.hit z5.p2 rfl)
  have low10 := (low5.upd u9 geg2)
  clear m10
  refine e_then (wp_ret (r_cell_tmp rfl z10.defers s2_10 s3_10 k9 Tryz.underlying29 rfl (sz29.trans (congrArg some rfl.symm)) ?_))
  exact ⟨by unfold mkN mkE; rw [hc6]; rfl, low10⟩
theorem MakeN.calls (y : ByteArray) (ha : y.size ≤ 140737488350000) (w0 : World) : Calls Tryz.prog 31 #[.string y] w0 fun e w' => e = .returned (.tuple #[.agg #[.string (mkN 20 y)], .int .i64 (mkE 20 y)]) ∧ Low w0 w' := by
 refine c_fun (R := _) Tryz.func31 rfl 12 rfl (Nat.le_of_ble_eq_true rfl) ?_
 intro a z hA
 have s0 := hA 0 _ rfl
 clear hA
 refine c_seq (c_region (l_alloc rfl rfl zero34 ?_))
 intro g2 w1 hg1 k1 h1
 have geg2 := Nat.le_trans (Low.refl _).ge hg1
 refine l_q rfl (q_assign _ _ rfl rfl ?_)
 refine l_end (e_fresh z.p2 ?_)
 intro a2 z2 m2
 have s0_2 := m2 _ _ (s0.n2)
 have s2_2 := m2 _ _ ((At.hit z rfl).n1)
 have low2 := h1
 clear m2
 refine e_then (c_seq (c_seq (c_region ?_)))
 refine l_q rfl (q_move _ _ rfl s0_2.ev ?_)
 refine l_q rfl (q_len rfl rfl Tryz.underlying9 (At.hit z2 rfl).ev ?_)
 refine l_call (fun v w' => v = .int .i64 1 ∧ Low w1 w') rfl rfl rfl Tryz.func30 rfl (show Array.map _ _ = (#[] : Array Value) from by simp) ((NumberN.calls _).mono fun _ _ ⟨e, k⟩ => ⟨_, e, rfl, k⟩) ?_
 rintro _ w3 ⟨rfl, h3⟩
 have kg2_3 := h3.blk k1
 refine l_call (fun v w' => v = .int .i64 20 ∧ Low w3 w') rfl rfl rfl Tryz.func24 rfl (args1 rfl (At.hit z2.p2 rfl).ev) ((Size.calls 1 _).mono fun _ _ ⟨e, k⟩ => ⟨_, e, rfl, k⟩) ?_
 rintro _ w4 ⟨rfl, h4⟩
 have kg2_4 := h4.blk kg2_3
 refine l_q rfl (q_neq _ rfl ((At.hit z2.put rfl).n2).ev (At.hit z2.p3 rfl).ev rfl ?_)
 refine l_end (e_fresh z2.p5 ?_)
 intro a5 z5 m5
 have s0_5 := m5 _ _ (s0_2.n5)
 have s2_5 := m5 _ _ (s2_2.n5)
 have s8_5 := m5 _ _ (At.hit z2.p4 rfl)
 have low5 := ((low2.trans h3).trans h4)
 clear m5
 refine e_then ?_
 cases hc6 : decide (((y.size : Nat) : Int) ≠ 20) with
 | true =>
  have hs6 := s8_5.same (congrArg Value.bool hc6)
  refine c_true hs6 ?_
  refine c_seq (c_region ?_)
  refine l_q rfl (q_build (cs := #[.string (⟨#[]⟩ : ByteArray)]) rfl rfl (by kernel_rfl) ?_)
  refine l_row rfl rfl rfl (sz34.trans (congrArg some rfl.symm)) (s2_5.n1).ev (At.hit z5 rfl).ev (by simp [Value.oneCell']) kg2_4 (rfl.trans rfl.symm) ?_
  intro w7 k7 u7
  refine l_q rfl (q_assign _ _ rfl rfl ?_)
  refine l_end (e_fresh z5.p2 ?_)
  intro a8 z8 m8
  have s2_8 := m8 _ _ (s2_5.n2)
  have s3_8 := m8 _ _ (At.hit z5.put rfl)
  have low8 := (low5.upd u7 geg2)
  clear m8
  refine e_then (wp_ret (ret_then (r_cell_tmp rfl z8.defers s2_8 s3_8 k7 Tryz.underlying34 rfl (sz34.trans (congrArg some rfl.symm)) ?_)))
  exact ⟨by unfold mkN mkE; rw [hc6]; rfl, low8⟩
 | false =>
  have hs6 := s8_5.same (congrArg Value.bool hc6)
  refine c_false hs6 ?_
  refine wp_skip (e_then (c_seq (c_region ?_)))
  refine l_q rfl (q_move _ _ rfl s0_5.ev ?_)
  refine l_q rfl (q_build rfl (parts1 (At.hit z5 rfl).ev) (bN34 _) ?_)
  refine l_row rfl rfl rfl (sz34.trans (congrArg some rfl.symm)) (s2_5.n2).ev (At.hit z5.put rfl).ev (by simp [Value.oneCell']) kg2_4 (rfl.trans rfl.symm) ?_
  intro w9 k9 u9
  refine l_q rfl (q_assign _ _ rfl rfl ?_)
  refine l_end (e_fresh z5.p3 ?_)
  intro a10 z10 m10
  have s2_10 := m10 _ _ (s2_5.n3)
  have s3_10 := m10 _ _ (At.hit z5.p2 rfl)
  have low10 := (low5.upd u9 geg2)
  clear m10
  refine e_then (wp_ret (r_cell_tmp rfl z10.defers s2_10 s3_10 k9 Tryz.underlying34 rfl (sz34.trans (congrArg some rfl.symm)) ?_))
  exact ⟨by unfold mkN mkE; rw [hc6]; rfl, low10⟩
theorem BytesW.calls (y : ByteArray) (w0 : World) : Calls Tryz.prog 17 #[.agg #[.string y]] w0 fun e w' => e = .returned (.string y) ∧ Low w0 w' := by
 refine c_fun (R := _) Tryz.func17 rfl 5 rfl (Nat.le_of_ble_eq_true rfl) ?_
 intro a z hA
 have s0 := hA 0 _ rfl
 clear hA
 refine c_seq (c_region (l_box rfl rfl s0.ev ?_))
 intro g1 w1 hg1 k1 h1
 have geg1 := Nat.le_trans (Low.refl _).ge hg1
 refine l_q rfl (q_assign _ _ rfl rfl ?_)
 refine l_end (e_fresh z.p2 ?_)
 intro a2 z2 m2
 have s1_2 := m2 _ _ ((At.hit z rfl).n1)
 have low2 := h1
 clear m2
 refine e_then (c_seq (c_region ?_))
 refine l_q rfl (q_fld 0 rfl (by kernel_rfl) s1_2.ev ?_)
 refine l_q rfl (q_cellT (.string y) rfl Tryz.underlying9 (At.hit z2 rfl).ev (fun _ e => by rw [e]; exact (cells_at k1 0).trans rfl) ?_)
 refine l_q rfl (q_assign _ _ rfl (At.hit z2.put rfl).ev ?_)
 refine l_end (e_fresh z2.p3 ?_)
 intro a3 z3 m3
 have s2_3 := m3 _ _ (At.hit z2.p2 rfl)
 clear m3
 refine e_then (wp_ret (r_tmp rfl z3.defers s2_3 ?_))
 exact ⟨rfl, low2⟩
theorem DigitsW.calls (k : Nat) (y r : ByteArray) (h : hexa_Digits.f k y = some r) (w0 : World) : Calls Tryz.prog 22 #[.agg #[.string y]] w0 fun e w' => e = .returned (.string r) ∧ Low w0 w' := by
 refine c_fun (R := _) Tryz.func22 rfl 6 rfl (Nat.le_of_ble_eq_true rfl) ?_
 intro a z hA
 have s0 := hA 0 _ rfl
 clear hA
 refine c_seq (c_region (l_box rfl rfl s0.ev ?_))
 intro g1 w1 hg1 k1 h1
 have geg1 := Nat.le_trans (Low.refl _).ge hg1
 refine l_q rfl (q_assign _ _ rfl rfl ?_)
 refine l_end (e_fresh z.p2 ?_)
 intro a2 z2 m2
 have s1_2 := m2 _ _ ((At.hit z rfl).n1)
 have low2 := h1
 clear m2
 refine e_then (c_seq (c_region ?_))
 refine l_q rfl (q_fld 0 rfl (by kernel_rfl) s1_2.ev ?_)
 refine l_q rfl (q_cellT (.string y) rfl Tryz.underlying9 (At.hit z2 rfl).ev (fun _ e => by rw [e]; exact (cells_at k1 0).trans rfl) ?_)
 refine l_call (fun v w' => v = .string r ∧ Low w1 w') rfl rfl rfl Tryz.func36 rfl (args1 rfl (At.hit z2.put rfl).ev) ((Digits.calls k y r h _).mono fun _ _ ⟨e, k⟩ => ⟨_, e, rfl, k⟩) ?_
 rintro _ w3 ⟨rfl, h3⟩
 have kg1_3 := h3.blk k1
 refine l_q rfl (q_assign _ _ rfl (At.hit z2.p2 rfl).ev ?_)
 refine l_end (e_fresh z2.p4 ?_)
 intro a4 z4 m4
 have s2_4 := m4 _ _ (At.hit z2.p3 rfl)
 have low4 := (low2.trans h3)
 clear m4
 refine e_then (wp_ret (r_tmp rfl z4.defers s2_4 ?_))
 exact ⟨rfl, low4⟩
theorem BytesN.calls (y : ByteArray) (w0 : World) : Calls Tryz.prog 18 #[.agg #[.string y]] w0 fun e w' => e = .returned (.string y) ∧ Low w0 w' := by
 refine c_fun (R := _) Tryz.func18 rfl 5 rfl (Nat.le_of_ble_eq_true rfl) ?_
 intro a z hA
 have s0 := hA 0 _ rfl
 clear hA
 refine c_seq (c_region (l_box rfl rfl s0.ev ?_))
 intro g1 w1 hg1 k1 h1
 have geg1 := Nat.le_trans (Low.refl _).ge hg1
 refine l_q rfl (q_assign _ _ rfl rfl ?_)
 refine l_end (e_fresh z.p2 ?_)
 intro a2 z2 m2
 have s1_2 := m2 _ _ ((At.hit z rfl).n1)
 have low2 := h1
 clear m2
 refine e_then (c_seq (c_region ?_))
 refine l_q rfl (q_fld 0 rfl (by kernel_rfl) s1_2.ev ?_)
 refine l_q rfl (q_cellT (.string y) rfl Tryz.underlying9 (At.hit z2 rfl).ev (fun _ e => by rw [e]; exact (cells_at k1 0).trans rfl) ?_)
 refine l_q rfl (q_assign _ _ rfl (At.hit z2.put rfl).ev ?_)
 refine l_end (e_fresh z2.p3 ?_)
 intro a3 z3 m3
 have s2_3 := m3 _ _ (At.hit z2.p2 rfl)
 clear m3
 refine e_then (wp_ret (r_tmp rfl z3.defers s2_3 ?_))
 exact ⟨rfl, low2⟩
theorem DigitsN.calls (k : Nat) (y r : ByteArray) (h : hexa_Digits.f k y = some r) (w0 : World) : Calls Tryz.prog 19 #[.agg #[.string y]] w0 fun e w' => e = .returned (.string r) ∧ Low w0 w' := by
 refine c_fun (R := _) Tryz.func19 rfl 6 rfl (Nat.le_of_ble_eq_true rfl) ?_
 intro a z hA
 have s0 := hA 0 _ rfl
 clear hA
 refine c_seq (c_region (l_box rfl rfl s0.ev ?_))
 intro g1 w1 hg1 k1 h1
 have geg1 := Nat.le_trans (Low.refl _).ge hg1
 refine l_q rfl (q_assign _ _ rfl rfl ?_)
 refine l_end (e_fresh z.p2 ?_)
 intro a2 z2 m2
 have s1_2 := m2 _ _ ((At.hit z rfl).n1)
 have low2 := h1
 clear m2
 refine e_then (c_seq (c_region ?_))
 refine l_q rfl (q_fld 0 rfl (by kernel_rfl) s1_2.ev ?_)
 refine l_q rfl (q_cellT (.string y) rfl Tryz.underlying9 (At.hit z2 rfl).ev (fun _ e => by rw [e]; exact (cells_at k1 0).trans rfl) ?_)
 refine l_call (fun v w' => v = .string r ∧ Low w1 w') rfl rfl rfl Tryz.func36 rfl (args1 rfl (At.hit z2.put rfl).ev) ((Digits.calls k y r h _).mono fun _ _ ⟨e, k⟩ => ⟨_, e, rfl, k⟩) ?_
 rintro _ w3 ⟨rfl, h3⟩
 have kg1_3 := h3.blk k1
 refine l_q rfl (q_assign _ _ rfl (At.hit z2.p2 rfl).ev ?_)
 refine l_end (e_fresh z2.p4 ?_)
 intro a4 z4 m4
 have s2_4 := m4 _ _ (At.hit z2.p3 rfl)
 have low4 := (low2.trans h3)
 clear m4
 refine e_then (wp_ret (r_tmp rfl z4.defers s2_4 ?_))
 exact ⟨rfl, low4⟩
theorem ZeroW.calls (y : ByteArray) (w0 : World) : Calls Tryz.prog 23 #[.agg #[.string y]] w0 fun e w' => e = .returned (.bool (y.toList == (⟨#[]⟩ : ByteArray).toList)) ∧ Low w0 w' := by
 refine c_fun (R := _) Tryz.func23 rfl 6 rfl (Nat.le_of_ble_eq_true rfl) ?_
 intro a z hA
 have s0 := hA 0 _ rfl
 clear hA
 refine c_seq (c_region (l_box rfl rfl s0.ev ?_))
 intro g1 w1 hg1 k1 h1
 have geg1 := Nat.le_trans (Low.refl _).ge hg1
 refine l_q rfl (q_assign _ _ rfl rfl ?_)
 refine l_end (e_fresh z.p2 ?_)
 intro a2 z2 m2
 have s1_2 := m2 _ _ ((At.hit z rfl).n1)
 have low2 := h1
 clear m2
 refine e_then (c_seq (c_region ?_))
 refine l_q rfl (q_row rfl Tryz.underlying29 rfl (sz29.trans (congrArg some rfl.symm)) s1_2.ev (fun _ e => by rw [e]; exact k1) ?_)
 refine l_q rfl (q_build (cs := #[.string (⟨#[]⟩ : ByteArray)]) rfl rfl (by kernel_rfl) ?_)
 refine l_q rfl (q_eqS (y.toList == (⟨#[]⟩ : ByteArray).toList) rfl guardW ((At.hit z2 rfl).n1).ev (At.hit z2.put rfl).ev (eqW 9998 y (⟨#[]⟩ : ByteArray)) rfl ?_)
 refine l_q rfl (q_assign _ _ rfl (At.hit z2.p2 rfl).ev ?_)
 refine l_end (e_fresh z2.p4 ?_)
 intro a3 z3 m3
 have s2_3 := m3 _ _ (At.hit z2.p3 rfl)
 clear m3
 refine e_then (wp_ret (r_tmp rfl z3.defers s2_3 ?_))
 exact ⟨rfl, low2⟩
theorem Row.calls (kind : Int) (c : ByteArray) (hc : c.size ≤ 140737488340000) (w0 : World) (hG : Gd w0) : Calls Tryz.prog 15 #[.int .i64 kind, .string c] w0 fun e w' => e = .returned (.string (row kind c)) ∧ Low w0 w' := by
 refine c_fun (R := _) Tryz.func15 rfl 18 rfl (Nat.le_of_ble_eq_true rfl) ?_
 intro a z hA
 have s0 := hA 0 _ rfl
 have s1 := hA 1 _ rfl
 clear hA
 refine c_seq (c_region ?_)
 refine l_q rfl (q_assign _ _ rfl rfl ?_)
 refine l_end (e_fresh z.put ?_)
 intro a1 z1 m1
 have s0_1 := m1 _ _ (s0.n1)
 have s1_1 := m1 _ _ (s1.n1)
 clear m1
 refine e_then (c_seq (c_seq (c_region ?_)))
 refine l_q rfl (q_move _ _ rfl s0_1.ev ?_)
 refine l_call (fun v w' => v = .string (word kind) ∧ Low w0 w') rfl rfl rfl Tryz.func11 rfl (args1 rfl (At.hit z1 rfl).ev) ((Word.calls kind _).mono fun _ _ ⟨e, k⟩ => ⟨_, e, rfl, k⟩) ?_
 rintro _ w2 ⟨rfl, h2⟩
 refine l_q rfl (q_streq ((word kind).toList == (⟨#[]⟩ : ByteArray).toList) rfl (At.hit z1.put rfl).ev rfl rfl ?_)
 refine l_end (e_fresh z1.p3 ?_)
 intro a3 z3 m3
 have s0_3 := m3 _ _ (s0_1.n3)
 have s1_3 := m3 _ _ (s1_1.n3)
 have s7_3 := m3 _ _ (At.hit z1.p2 rfl)
 have low3 := h2
 clear m3
 refine e_then ?_
 cases hc4 : ((word kind).toList == (⟨#[]⟩ : ByteArray).toList) with
 | true =>
  have hs4 := s7_3.same (congrArg Value.bool hc4)
  refine c_true hs4 ?_
  refine c_seq (c_region ?_)
  refine l_q rfl (q_assign _ _ rfl rfl ?_)
  refine l_end (e_fresh z3.put ?_)
  intro a5 z5 m5
  have s4_5 := m5 _ _ (At.hit z3 rfl)
  clear m5
  refine e_then (wp_ret (ret_then (r_tmp rfl z5.defers s4_5 ?_)))
  exact ⟨by unfold row; rw [hc4]; rfl, low3⟩
 | false =>
  have hs4 := s7_3.same (congrArg Value.bool hc4)
  refine c_false hs4 ?_
  refine wp_skip (e_then (c_seq (c_region ?_)))
  refine l_q rfl (q_move _ _ rfl s0_3.ev ?_)
  refine l_call (fun v w' => v = .string (word kind) ∧ Low w2 w') rfl rfl rfl Tryz.func11 rfl (args1 rfl (At.hit z3 rfl).ev) ((Word.calls kind _).mono fun _ _ ⟨e, k⟩ => ⟨_, e, rfl, k⟩) ?_
  rintro _ w6 ⟨rfl, h6⟩
  refine l_q rfl (q_cat rfl (At.hit z3.put rfl).ev rfl (by have hw := word_size kind; have hi := itoaS_size c.size (by omega); simp only [ByteArray.size_append, sz_sp, sz_z]; omega) ?_)
  refine l_q rfl (q_move _ _ rfl (s1_3.n3).ev ?_)
  refine l_q rfl (q_len rfl rfl Tryz.underlying9 (At.hit z3.p3 rfl).ev ?_)
  refine l_call (fun v w' => v = .string (itoaS c.size) ∧ Low w6 w') rfl rfl rfl Tryz.func34 rfl (args1 rfl (At.hit z3.p4 rfl).ev) ((Itoa.calls c.size (by omega) _ (Gd.low hG (low3.trans h6))).mono fun _ _ ⟨e, k⟩ => ⟨_, e, rfl, k⟩) ?_
  rintro _ w7 ⟨rfl, h7⟩
  refine l_q rfl (q_cat rfl ((At.hit z3.p2 rfl).n3).ev (At.hit z3.p5 rfl).ev (by have hw := word_size kind; have hi := itoaS_size c.size (by omega); simp only [ByteArray.size_append, sz_sp, sz_z]; omega) ?_)
  refine l_q rfl (q_cat rfl (At.hit z3.p6 rfl).ev rfl (by have hw := word_size kind; have hi := itoaS_size c.size (by omega); simp only [ByteArray.size_append, sz_sp, sz_z]; omega) ?_)
  refine l_fresh z3.p8 ?_
  intro a8 z8 m8
  have s1_8 := m8 _ _ (s1_3.n8)
  have s15_8 := m8 _ _ (At.hit z3.p7 rfl)
  clear m8
  refine l_q rfl (q_move _ _ rfl s1_8.ev ?_)
  refine l_q rfl (q_cat rfl (s15_8.n1).ev (At.hit z8 rfl).ev (by have hw := word_size kind; have hi := itoaS_size c.size (by omega); simp only [ByteArray.size_append, sz_sp, sz_z]; omega) ?_)
  refine l_q rfl (q_assign _ _ rfl (At.hit z8.put rfl).ev ?_)
  refine l_end (e_fresh z8.p3 ?_)
  intro a9 z9 m9
  have s4_9 := m9 _ _ (At.hit z8.p2 rfl)
  have low9 := ((low3.trans h6).trans h7)
  clear m9
  refine e_then (wp_ret (r_tmp rfl z9.defers s4_9 ?_))
  exact ⟨by unfold row; rw [hc4]; rfl, low9⟩
theorem Id.calls (space kind : Int) (c : ByteArray) (hc : c.size ≤ 140737488340000) (w0 : World) (hG : Gd w0) : Calls Tryz.prog 5 #[.int .i64 space, .int .i64 kind, .string c] w0 fun e w' => e = .returned (.tuple #[.string (idS space kind c).1, .int .i64 (idS space kind c).2]) ∧ Low w0 w' := by
 refine c_fun (R := _) Tryz.func5 rfl 38 rfl (Nat.le_of_ble_eq_true rfl) ?_
 intro a z hA
 have s0 := hA 0 _ rfl
 have s1 := hA 1 _ rfl
 have s2 := hA 2 _ rfl
 clear hA
 refine c_seq (c_region ?_)
 refine l_q rfl (q_assign _ _ rfl rfl ?_)
 refine l_q rfl (q_assign _ _ rfl rfl ?_)
 refine l_end (e_fresh z.p2 ?_)
 intro a1 z1 m1
 have s0_1 := m1 _ _ (s0.n2)
 have s1_1 := m1 _ _ (s1.n2)
 have s2_1 := m1 _ _ (s2.n2)
 clear m1
 refine e_then (c_seq (wp_block (c_seq (c_region ?_))))
 refine l_q rfl (q_move _ _ rfl s1_1.ev ?_)
 refine l_call (fun v w' => v = .string (word kind) ∧ Low w0 w') rfl rfl rfl Tryz.func11 rfl (args1 rfl (At.hit z1 rfl).ev) ((Word.calls kind _).mono fun _ _ ⟨e, k⟩ => ⟨_, e, rfl, k⟩) ?_
 rintro _ w2 ⟨rfl, h2⟩
 refine l_q rfl (q_streq ((word kind).toList == (⟨#[]⟩ : ByteArray).toList) rfl (At.hit z1.put rfl).ev rfl rfl ?_)
 refine l_q rfl (q_assign _ _ rfl (At.hit z1.p2 rfl).ev ?_)
 refine l_end (e_fresh z1.p4 ?_)
 intro a3 z3 m3
 have s0_3 := m3 _ _ (s0_1.n4)
 have s1_3 := m3 _ _ (s1_1.n4)
 have s2_3 := m3 _ _ (s2_1.n4)
 have s11_3 := m3 _ _ (At.hit z1.p3 rfl)
 have low3 := h2
 clear m3
 refine e_then ?_
 cases hc4 : ((word kind).toList == (⟨#[]⟩ : ByteArray).toList) with
 | true =>
  have hs4 := s11_3.same (congrArg Value.bool hc4)
  refine c_true hs4 ?_
  refine c_seq (c_region ?_)
  refine l_q rfl (q_assign _ _ rfl rfl ?_)
  refine l_q rfl (q_assign _ _ rfl rfl ?_)
  refine l_end (e_fresh z3.p2 ?_)
  intro a5 z5 m5
  have s6_5 := m5 _ _ ((At.hit z3 rfl).n1)
  have s7_5 := m5 _ _ (At.hit z3.put rfl)
  clear m5
  refine e_then (wp_ret (ret_in (ret_then (r_two rfl z5.defers s6_5 s7_5 ?_))))
  exact ⟨by unfold idS; rw [hc4]; rfl, low3⟩
 | false =>
  have hs4 := s11_3.same (congrArg Value.bool hc4)
  refine c_false hs4 ?_
  refine c_seq (c_region ?_)
  refine l_q rfl (q_move _ _ rfl s0_3.ev ?_)
  refine l_call (fun v w' => v = .int .i64 (nsize space) ∧ Low w2 w') rfl rfl rfl Tryz.func24 rfl (args1 rfl (At.hit z3 rfl).ev) ((Size.calls space _).mono fun _ _ ⟨e, k⟩ => ⟨_, e, rfl, k⟩) ?_
  rintro _ w6 ⟨rfl, h6⟩
  refine l_q rfl (q_eql _ rfl (At.hit z3.put rfl).ev rfl rfl ?_)
  refine l_q rfl (q_assign _ _ rfl (At.hit z3.p2 rfl).ev ?_)
  refine l_end (e_fresh z3.p4 ?_)
  intro a7 z7 m7
  have s0_7 := m7 _ _ (s0_3.n4)
  have s1_7 := m7 _ _ (s1_3.n4)
  have s2_7 := m7 _ _ (s2_3.n4)
  have s15_7 := m7 _ _ (At.hit z3.p3 rfl)
  have low7 := (low3.trans h6)
  clear m7
  refine e_then ?_
  cases hc8 : decide (nsize space = 0) with
  | true =>
   have hs8 := s15_7.same (congrArg Value.bool hc8)
   refine c_true hs8 ?_
   refine c_seq (c_region ?_)
   refine l_q rfl (q_assign _ _ rfl rfl ?_)
   refine l_q rfl (q_assign _ _ rfl rfl ?_)
   refine l_end (e_fresh z7.p2 ?_)
   intro a9 z9 m9
   have s6_9 := m9 _ _ ((At.hit z7 rfl).n1)
   have s7_9 := m9 _ _ (At.hit z7.put rfl)
   clear m9
   refine e_then (wp_ret (ret_in (ret_then (r_two rfl z9.defers s6_9 s7_9 ?_))))
   exact ⟨by unfold idS; rw [hc4, hc8]; rfl, low7⟩
  | false =>
   have hs8 := s15_7.same (congrArg Value.bool hc8)
   refine c_false hs8 ?_
   refine c_seq (c_region ?_)
   refine l_q rfl (q_move _ _ rfl s2_7.ev ?_)
   refine l_q rfl (q_len rfl rfl Tryz.underlying9 (At.hit z7 rfl).ev ?_)
   refine l_q rfl (q_gtr _ rfl (At.hit z7.put rfl).ev rfl rfl ?_)
   refine l_q rfl (q_assign _ _ rfl (At.hit z7.p2 rfl).ev ?_)
   refine l_end (e_fresh z7.p4 ?_)
   intro a10 z10 m10
   have s0_10 := m10 _ _ (s0_7.n4)
   have s1_10 := m10 _ _ (s1_7.n4)
   have s2_10 := m10 _ _ (s2_7.n4)
   have s19_10 := m10 _ _ (At.hit z7.p3 rfl)
   clear m10
   refine e_then ?_
   cases hc11 : decide (((c.size : Nat) : Int) > 65536) with
   | true =>
    have hs11 := s19_10.same (congrArg Value.bool hc11)
    refine c_true hs11 ?_
    refine c_seq (c_region ?_)
    refine l_q rfl (q_assign _ _ rfl rfl ?_)
    refine l_q rfl (q_assign _ _ rfl rfl ?_)
    refine l_end (e_fresh z10.p2 ?_)
    intro a12 z12 m12
    have s6_12 := m12 _ _ ((At.hit z10 rfl).n1)
    have s7_12 := m12 _ _ (At.hit z10.put rfl)
    clear m12
    refine e_then (wp_ret (ret_in (ret_then (r_two rfl z12.defers s6_12 s7_12 ?_))))
    exact ⟨by unfold idS; rw [hc4, hc8, hc11]; rfl, low7⟩
   | false =>
    have hs11 := s19_10.same (congrArg Value.bool hc11)
    refine c_false hs11 ?_
    refine wp_skip (e_in (e_then (c_seq (c_region ?_))))
    refine l_q rfl (q_move _ _ rfl s1_10.ev ?_)
    refine l_q rfl (q_move _ _ rfl (s2_10.n1).ev ?_)
    refine l_call (fun v w' => v = .string (row kind c) ∧ Low w6 w') rfl rfl rfl Tryz.func15 rfl (args2 rfl ((At.hit z10 rfl).n1).ev (At.hit z10.put rfl).ev) ((Row.calls kind c hc _ (Gd.low hG low7)).mono fun _ _ ⟨e, k⟩ => ⟨_, e, rfl, k⟩) ?_
    rintro _ w13 ⟨rfl, h13⟩
    refine l_q rfl (q_assign _ _ rfl (At.hit z10.p2 rfl).ev ?_)
    refine l_end (e_fresh z10.p4 ?_)
    intro a14 z14 m14
    have s0_14 := m14 _ _ (s0_10.n4)
    have s8_14 := m14 _ _ (At.hit z10.p3 rfl)
    have low14 := (low7.trans h13)
    clear m14
    refine e_then (c_seq (c_seq (c_region ?_)))
    refine l_q rfl (q_move _ _ rfl s0_14.ev ?_)
    refine l_q rfl (q_eql _ rfl (At.hit z14 rfl).ev rfl rfl ?_)
    refine l_end (e_fresh z14.p2 ?_)
    intro a15 z15 m15
    have s8_15 := m15 _ _ (s8_14.n2)
    have s27_15 := m15 _ _ (At.hit z14.put rfl)
    clear m15
    refine e_then ?_
    cases hc16 : decide (space = 2) with
    | true =>
     have hs16 := s27_15.same (congrArg Value.bool hc16)
     refine c_true hs16 ?_
     refine c_seq (c_region ?_)
     refine l_q rfl (q_move _ _ rfl s8_15.ev ?_)
     refine l_buildT1 rfl rfl Tryz.underlying51 str9 (At.hit z15 rfl).ev ?_
     intro g29_17 w17 hg17 k17 h17
     have geg29_17 := Nat.le_trans low14.ge hg17
     refine l_call (fun v w' => v = .string (sumL2 (row kind c)) ∧ Low w17 w') rfl rfl rfl Tryz.func25 rfl (args1 rfl (At.hit z15.put rfl).ev) ((SumL2.calls (row kind c) (Nat.le_trans (row_size kind c (by omega)) (by omega)) g29_17 _ k17).mono fun _ _ ⟨e, k⟩ => ⟨_, e, rfl, k⟩) ?_
     rintro _ w18 ⟨rfl, h18⟩
     have kg29_17_18 := h18.blk k17
     refine l_q rfl (q_assign _ _ rfl (At.hit z15.p2 rfl).ev ?_)
     refine l_q rfl (q_assign _ _ rfl rfl ?_)
     refine l_end (e_fresh z15.p5 ?_)
     intro a19 z19 m19
     have s6_19 := m19 _ _ ((At.hit z15.p3 rfl).n1)
     have s7_19 := m19 _ _ (At.hit z15.p4 rfl)
     have low19 := ((low14.trans h17).trans h18)
     clear m19
     refine e_then (wp_ret (ret_then (r_two rfl z19.defers s6_19 s7_19 ?_)))
     exact ⟨by unfold idS; rw [hc4, hc8, hc11, hc16]; rfl, low19⟩
    | false =>
     have hs16 := s27_15.same (congrArg Value.bool hc16)
     refine c_false hs16 ?_
     refine wp_skip (e_then (c_seq (c_region ?_)))
     refine l_q rfl (q_move _ _ rfl s8_15.ev ?_)
     refine l_call (fun v w' => v = .tuple #[.string (sumL (row kind c)), .bool (marked (row kind c))] ∧ Low w13 w') rfl rfl rfl Tryz.func26 rfl (args1 rfl (At.hit z15 rfl).ev) ((ScanL.calls (row kind c) (Nat.le_trans (row_size kind c (by omega)) (by omega)) _).mono fun _ _ ⟨e, k⟩ => ⟨_, e, rfl, k⟩) ?_
     rintro _ w20 ⟨rfl, h20⟩
     refine l_q rfl (q_move _ _ rfl (At.hit z15.put rfl).ev ?_)
     refine l_q rfl (q_extract rfl (At.hit z15.p2 rfl).ev rfl ?_)
     refine l_q rfl (q_extract rfl ((At.hit z15.p2 rfl).n1).ev rfl ?_)
     refine l_q rfl (q_assign _ _ rfl ((At.hit z15.p3 rfl).n1).ev ?_)
     refine l_q rfl (q_assign _ _ rfl ((At.hit z15.p4 rfl).n1).ev ?_)
     refine l_end (e_fresh z15.p7 ?_)
     intro a21 z21 m21
     have s9_21 := m21 _ _ ((At.hit z15.p5 rfl).n1)
     have s10_21 := m21 _ _ (At.hit z15.p6 rfl)
     have low21 := (low14.trans h20)
     clear m21
     refine e_then (c_seq (c_seq (c_region ?_)))
     refine l_q rfl (q_move _ _ rfl s10_21.ev ?_)
     refine l_end (e_fresh z21.put ?_)
     intro a22 z22 m22
     have s9_22 := m22 _ _ (s9_21.n1)
     have s36_22 := m22 _ _ (At.hit z21 rfl)
     clear m22
     refine e_then ?_
     cases hc23 : marked (row kind c) with
     | true =>
      have hs23 := s36_22.same (congrArg Value.bool hc23)
      refine c_true hs23 ?_
      refine c_seq (c_region ?_)
      refine l_q rfl (q_assign _ _ rfl rfl ?_)
      refine l_q rfl (q_assign _ _ rfl rfl ?_)
      refine l_end (e_fresh z22.p2 ?_)
      intro a24 z24 m24
      have s6_24 := m24 _ _ ((At.hit z22 rfl).n1)
      have s7_24 := m24 _ _ (At.hit z22.put rfl)
      clear m24
      refine e_then (wp_ret (ret_then (r_two rfl z24.defers s6_24 s7_24 ?_)))
      exact ⟨by unfold idS; rw [hc4, hc8, hc11, hc16, hc23]; rfl, low21⟩
     | false =>
      have hs23 := s36_22.same (congrArg Value.bool hc23)
      refine c_false hs23 ?_
      refine wp_skip (e_then (c_seq (c_region ?_)))
      refine l_q rfl (q_move _ _ rfl s9_22.ev ?_)
      refine l_q rfl (q_assign _ _ rfl (At.hit z22 rfl).ev ?_)
      refine l_q rfl (q_assign _ _ rfl rfl ?_)
      refine l_end (e_fresh z22.p3 ?_)
      intro a25 z25 m25
      have s6_25 := m25 _ _ ((At.hit z22.put rfl).n1)
      have s7_25 := m25 _ _ (At.hit z22.p2 rfl)
      clear m25
      refine e_then (wp_ret (r_two rfl z25.defers s6_25 s7_25 ?_))
      exact ⟨by unfold idS; rw [hc4, hc8, hc11, hc16, hc23]; rfl, low21⟩
theorem idS_size (s k : Int) (c : ByteArray) : (idS s k c).1.size ≤ 140737488350000 := by
  unfold idS
  repeat' split
  all_goals first | decide | (rw [sumL2_size]; decide) | (rw [sumL, strOfNums_size, outR_len]; decide)
theorem OfW.calls (kind : Int) (c : ByteArray) (hc : c.size ≤ 140737488340000) (w0 : World) (hG : Gd w0) : Calls Tryz.prog 7 #[.int .i64 kind, .string c] w0 fun e w' => e = .returned (.tuple #[.agg #[.string (ofN 2 kind 32 c)], .int .i64 (ofE 2 kind 32 c)]) ∧ Low w0 w' := by
 refine c_fun (R := _) Tryz.func7 rfl 23 rfl (Nat.le_of_ble_eq_true rfl) ?_
 intro a z hA
 have s0 := hA 0 _ rfl
 have s1 := hA 1 _ rfl
 clear hA
 refine c_seq (c_region (l_alloc rfl rfl zero29 ?_))
 intro g4 w1 hg1 k1 h1
 have geg4 := Nat.le_trans (Low.refl _).ge hg1
 refine l_q rfl (q_assign _ _ rfl rfl ?_)
 refine l_end (e_fresh z.p2 ?_)
 intro a2 z2 m2
 have s0_2 := m2 _ _ (s0.n2)
 have s1_2 := m2 _ _ (s1.n2)
 have s4_2 := m2 _ _ ((At.hit z rfl).n1)
 have low2 := h1
 clear m2
 refine e_then (c_seq (c_region (l_call (fun v w' => v = .int .i64 2 ∧ Low w1 w') rfl rfl rfl Tryz.func29 rfl (show Array.map _ _ = (#[] : Array Value) from by simp) ((NumberW.calls _).mono fun _ _ ⟨e, k⟩ => ⟨_, e, rfl, k⟩) ?_)))
 rintro _ w3 ⟨rfl, h3⟩
 have kg4_3 := h3.blk k1
 refine l_q rfl (q_move _ _ rfl (s0_2.n1).ev ?_)
 refine l_q rfl (q_move _ _ rfl (s1_2.n2).ev ?_)
 refine l_call (fun v w' => v = .tuple #[.string ((idS 2 kind c).1), .int .i64 ((idS 2 kind c).2)] ∧ Low w3 w') rfl rfl rfl Tryz.func5 rfl (args3 rfl ((At.hit z2 rfl).n2).ev ((At.hit z2.put rfl).n1).ev (At.hit z2.p2 rfl).ev) ((Id.calls 2 kind c hc _ (Gd.low hG (low2.trans h3))).mono fun _ _ ⟨e, k⟩ => ⟨_, e, rfl, k⟩) ?_
 rintro _ w4 ⟨rfl, h4⟩
 have kg4_4 := h4.blk kg4_3
 refine l_q rfl (q_move _ _ rfl (At.hit z2.p3 rfl).ev ?_)
 refine l_q rfl (q_extract rfl (At.hit z2.p4 rfl).ev rfl ?_)
 refine l_q rfl (q_extract rfl ((At.hit z2.p4 rfl).n1).ev rfl ?_)
 refine l_q rfl (q_assign _ _ rfl ((At.hit z2.p5 rfl).n1).ev ?_)
 refine l_fresh z2.p8 ?_
 intro a5 z5 m5
 have s4_5 := m5 _ _ (s4_2.n8)
 have s6_5 := m5 _ _ (At.hit z2.p7 rfl)
 have s14_5 := m5 _ _ ((At.hit z2.p6 rfl).n1)
 clear m5
 refine l_q rfl (q_assign _ _ rfl s14_5.ev ?_)
 refine l_end (e_fresh z5.put ?_)
 intro a6 z6 m6
 have s4_6 := m6 _ _ (s4_5.n1)
 have s6_6 := m6 _ _ (s6_5.n1)
 have s7_6 := m6 _ _ (At.hit z5 rfl)
 have low6 := ((low2.trans h3).trans h4)
 clear m6
 refine e_then (c_seq (c_seq (c_region ?_)))
 refine l_q rfl (q_move _ _ rfl s7_6.ev ?_)
 refine l_q rfl (q_neq _ rfl (At.hit z6 rfl).ev rfl rfl ?_)
 refine l_end (e_fresh z6.p2 ?_)
 intro a7 z7 m7
 have s4_7 := m7 _ _ (s4_6.n2)
 have s6_7 := m7 _ _ (s6_6.n2)
 have s7_7 := m7 _ _ (s7_6.n2)
 have s16_7 := m7 _ _ (At.hit z6.put rfl)
 clear m7
 refine e_then ?_
 cases hc8 : decide ((idS 2 kind c).2 ≠ 0) with
 | true =>
  have hs8 := s16_7.same (congrArg Value.bool hc8)
  refine c_true hs8 ?_
  refine c_seq (c_region ?_)
  refine l_q rfl (q_build (cs := #[.string (⟨#[]⟩ : ByteArray)]) rfl rfl (by kernel_rfl) ?_)
  refine l_q rfl (q_move _ _ rfl (s7_7.n1).ev ?_)
  refine l_row rfl rfl rfl (sz29.trans (congrArg some rfl.symm)) (s4_7.n2).ev ((At.hit z7 rfl).n1).ev (by simp [Value.oneCell']) kg4_4 (rfl.trans rfl.symm) ?_
  intro w9 k9 u9
  refine l_q rfl (q_assign _ _ rfl (At.hit z7.put rfl).ev ?_)
  refine l_end (e_fresh z7.p3 ?_)
  intro a10 z10 m10
  have s4_10 := m10 _ _ (s4_7.n3)
  have s5_10 := m10 _ _ (At.hit z7.p2 rfl)
  have low10 := (low6.upd u9 geg4)
  clear m10
  refine e_then (wp_ret (ret_then (r_cell_tmp rfl z10.defers s4_10 s5_10 k9 Tryz.underlying29 rfl (sz29.trans (congrArg some rfl.symm)) ?_)))
  exact ⟨by unfold ofN ofE; rw [hc8]; rfl, low10⟩
 | false =>
  have hs8 := s16_7.same (congrArg Value.bool hc8)
  refine c_false hs8 ?_
  refine wp_skip (e_then (c_seq (c_region ?_)))
  refine l_q rfl (q_move _ _ rfl s6_7.ev ?_)
  refine l_call (fun v w' => v = .tuple #[.agg (#[.string (mkN 32 (idS 2 kind c).1)]), .int .i64 (mkE 32 (idS 2 kind c).1)] ∧ Low w4 w') rfl rfl rfl Tryz.func21 rfl (args1 rfl (At.hit z7 rfl).ev) ((MakeW.calls (idS 2 kind c).1 (idS_size _ _ _) _).mono fun _ _ ⟨e, k⟩ => ⟨_, e, rfl, k⟩) ?_
  rintro _ w11 ⟨rfl, h11⟩
  have kg4_11 := h11.blk kg4_4
  refine l_q rfl (q_extract rfl (At.hit z7.put rfl).ev rfl ?_)
  refine l_q rfl (q_extract rfl ((At.hit z7.put rfl).n1).ev rfl ?_)
  refine l_row rfl rfl rfl (sz29.trans (congrArg some rfl.symm)) (s4_7.n4).ev ((At.hit z7.p2 rfl).n1).ev (by simp [Value.oneCell']) kg4_11 (rfl.trans rfl.symm) ?_
  intro w12 k12 u12
  refine l_q rfl (q_assign _ _ rfl (At.hit z7.p3 rfl).ev ?_)
  refine l_end (e_fresh z7.p5 ?_)
  intro a13 z13 m13
  have s4_13 := m13 _ _ (s4_7.n5)
  have s5_13 := m13 _ _ (At.hit z7.p4 rfl)
  have low13 := ((low6.trans h11).upd u12 geg4)
  clear m13
  refine e_then (wp_ret (r_cell_tmp rfl z13.defers s4_13 s5_13 k12 Tryz.underlying29 rfl (sz29.trans (congrArg some rfl.symm)) ?_))
  exact ⟨by unfold ofN ofE; rw [hc8]; rfl, low13⟩
theorem OfN.calls (kind : Int) (c : ByteArray) (hc : c.size ≤ 140737488340000) (w0 : World) (hG : Gd w0) : Calls Tryz.prog 8 #[.int .i64 kind, .string c] w0 fun e w' => e = .returned (.tuple #[.agg #[.string (ofN 1 kind 20 c)], .int .i64 (ofE 1 kind 20 c)]) ∧ Low w0 w' := by
 refine c_fun (R := _) Tryz.func8 rfl 23 rfl (Nat.le_of_ble_eq_true rfl) ?_
 intro a z hA
 have s0 := hA 0 _ rfl
 have s1 := hA 1 _ rfl
 clear hA
 refine c_seq (c_region (l_alloc rfl rfl zero34 ?_))
 intro g4 w1 hg1 k1 h1
 have geg4 := Nat.le_trans (Low.refl _).ge hg1
 refine l_q rfl (q_assign _ _ rfl rfl ?_)
 refine l_end (e_fresh z.p2 ?_)
 intro a2 z2 m2
 have s0_2 := m2 _ _ (s0.n2)
 have s1_2 := m2 _ _ (s1.n2)
 have s4_2 := m2 _ _ ((At.hit z rfl).n1)
 have low2 := h1
 clear m2
 refine e_then (c_seq (c_region (l_call (fun v w' => v = .int .i64 1 ∧ Low w1 w') rfl rfl rfl Tryz.func30 rfl (show Array.map _ _ = (#[] : Array Value) from by simp) ((NumberN.calls _).mono fun _ _ ⟨e, k⟩ => ⟨_, e, rfl, k⟩) ?_)))
 rintro _ w3 ⟨rfl, h3⟩
 have kg4_3 := h3.blk k1
 refine l_q rfl (q_move _ _ rfl (s0_2.n1).ev ?_)
 refine l_q rfl (q_move _ _ rfl (s1_2.n2).ev ?_)
 refine l_call (fun v w' => v = .tuple #[.string ((idS 1 kind c).1), .int .i64 ((idS 1 kind c).2)] ∧ Low w3 w') rfl rfl rfl Tryz.func5 rfl (args3 rfl ((At.hit z2 rfl).n2).ev ((At.hit z2.put rfl).n1).ev (At.hit z2.p2 rfl).ev) ((Id.calls 1 kind c hc _ (Gd.low hG (low2.trans h3))).mono fun _ _ ⟨e, k⟩ => ⟨_, e, rfl, k⟩) ?_
 rintro _ w4 ⟨rfl, h4⟩
 have kg4_4 := h4.blk kg4_3
 refine l_q rfl (q_move _ _ rfl (At.hit z2.p3 rfl).ev ?_)
 refine l_q rfl (q_extract rfl (At.hit z2.p4 rfl).ev rfl ?_)
 refine l_q rfl (q_extract rfl ((At.hit z2.p4 rfl).n1).ev rfl ?_)
 refine l_q rfl (q_assign _ _ rfl ((At.hit z2.p5 rfl).n1).ev ?_)
 refine l_fresh z2.p8 ?_
 intro a5 z5 m5
 have s4_5 := m5 _ _ (s4_2.n8)
 have s6_5 := m5 _ _ (At.hit z2.p7 rfl)
 have s14_5 := m5 _ _ ((At.hit z2.p6 rfl).n1)
 clear m5
 refine l_q rfl (q_assign _ _ rfl s14_5.ev ?_)
 refine l_end (e_fresh z5.put ?_)
 intro a6 z6 m6
 have s4_6 := m6 _ _ (s4_5.n1)
 have s6_6 := m6 _ _ (s6_5.n1)
 have s7_6 := m6 _ _ (At.hit z5 rfl)
 have low6 := ((low2.trans h3).trans h4)
 clear m6
 refine e_then (c_seq (c_seq (c_region ?_)))
 refine l_q rfl (q_move _ _ rfl s7_6.ev ?_)
 refine l_q rfl (q_neq _ rfl (At.hit z6 rfl).ev rfl rfl ?_)
 refine l_end (e_fresh z6.p2 ?_)
 intro a7 z7 m7
 have s4_7 := m7 _ _ (s4_6.n2)
 have s6_7 := m7 _ _ (s6_6.n2)
 have s7_7 := m7 _ _ (s7_6.n2)
 have s16_7 := m7 _ _ (At.hit z6.put rfl)
 clear m7
 refine e_then ?_
 cases hc8 : decide ((idS 1 kind c).2 ≠ 0) with
 | true =>
  have hs8 := s16_7.same (congrArg Value.bool hc8)
  refine c_true hs8 ?_
  refine c_seq (c_region ?_)
  refine l_q rfl (q_build (cs := #[.string (⟨#[]⟩ : ByteArray)]) rfl rfl (by kernel_rfl) ?_)
  refine l_q rfl (q_move _ _ rfl (s7_7.n1).ev ?_)
  refine l_row rfl rfl rfl (sz34.trans (congrArg some rfl.symm)) (s4_7.n2).ev ((At.hit z7 rfl).n1).ev (by simp [Value.oneCell']) kg4_4 (rfl.trans rfl.symm) ?_
  intro w9 k9 u9
  refine l_q rfl (q_assign _ _ rfl (At.hit z7.put rfl).ev ?_)
  refine l_end (e_fresh z7.p3 ?_)
  intro a10 z10 m10
  have s4_10 := m10 _ _ (s4_7.n3)
  have s5_10 := m10 _ _ (At.hit z7.p2 rfl)
  have low10 := (low6.upd u9 geg4)
  clear m10
  refine e_then (wp_ret (ret_then (r_cell_tmp rfl z10.defers s4_10 s5_10 k9 Tryz.underlying34 rfl (sz34.trans (congrArg some rfl.symm)) ?_)))
  exact ⟨by unfold ofN ofE; rw [hc8]; rfl, low10⟩
 | false =>
  have hs8 := s16_7.same (congrArg Value.bool hc8)
  refine c_false hs8 ?_
  refine wp_skip (e_then (c_seq (c_region ?_)))
  refine l_q rfl (q_move _ _ rfl s6_7.ev ?_)
  refine l_call (fun v w' => v = .tuple #[.agg (#[.string (mkN 20 (idS 1 kind c).1)]), .int .i64 (mkE 20 (idS 1 kind c).1)] ∧ Low w4 w') rfl rfl rfl Tryz.func31 rfl (args1 rfl (At.hit z7 rfl).ev) ((MakeN.calls (idS 1 kind c).1 (idS_size _ _ _) _).mono fun _ _ ⟨e, k⟩ => ⟨_, e, rfl, k⟩) ?_
  rintro _ w11 ⟨rfl, h11⟩
  have kg4_11 := h11.blk kg4_4
  refine l_q rfl (q_extract rfl (At.hit z7.put rfl).ev rfl ?_)
  refine l_q rfl (q_extract rfl ((At.hit z7.put rfl).n1).ev rfl ?_)
  refine l_row rfl rfl rfl (sz34.trans (congrArg some rfl.symm)) (s4_7.n4).ev ((At.hit z7.p2 rfl).n1).ev (by simp [Value.oneCell']) kg4_11 (rfl.trans rfl.symm) ?_
  intro w12 k12 u12
  refine l_q rfl (q_assign _ _ rfl (At.hit z7.p3 rfl).ev ?_)
  refine l_end (e_fresh z7.p5 ?_)
  intro a13 z13 m13
  have s4_13 := m13 _ _ (s4_7.n5)
  have s5_13 := m13 _ _ (At.hit z7.p4 rfl)
  have low13 := ((low6.trans h11).upd u12 geg4)
  clear m13
  refine e_then (wp_ret (r_cell_tmp rfl z13.defers s4_13 s5_13 k12 Tryz.underlying34 rfl (sz34.trans (congrArg some rfl.symm)) ?_))
  exact ⟨by unfold ofN ofE; rw [hc8]; rfl, low13⟩
end Go.Proofs.YtfjhnnpdaggnbaaGreatDoor.Q
end
/-! K0 -/
section
namespace Go.Proofs.YtfjhnnpdaggnbaaGreatDoor.Q
open Go.RowKit Go.Proofs.YtfjhnnpdaggnbaaGreatDoor.P
set_option maxRecDepth 100000
/-- the row of the empty blob -/
def rowB : ByteArray := ⟨#[98, 108, 111, 98, 32, 48, 0]⟩
theorem itoa_zero : itoaS 0 = ⟨#[48]⟩ := by
  unfold itoaS
  have h : Lib.itoa ((0 : Nat) : Int) = [48] := by
    rw [Lib.itoa_nonneg, Lib.decDigits]
    rfl
  rw [h]
theorem row_blob : row 1 ⟨#[]⟩ = rowB := by
  have h : rowS 1 ⟨#[]⟩ = rowB := by
    unfold rowS
    rw [show (⟨#[]⟩ : ByteArray).size = 0 from rfl, itoa_zero]
    rfl
  have h0 : ((word 1).toList == (⟨#[]⟩ : ByteArray).toList) = false := by
    rw [Lib.toList_data, Lib.toList_data]
    rfl
  unfold row
  rw [h0, h]
  rfl
theorem eqB (a b : ByteArray) : (a.toList == b.toList) = decide (a = b) := by
  rw [Lib.toList_data, Lib.toList_data, Bool.eq_iff_iff, beq_iff_eq, decide_eq_true_iff]
  constructor
  · intro h
    exact ByteArray.ext (Array.toList_inj.1 h)
  · rintro rfl
    rfl
theorem blob_unmarked : marked rowB = false := by decide +kernel
def nameN : ByteArray := ⟨#[230, 157, 226, 155, 178, 209, 214, 67, 75, 139, 41, 174, 119, 90, 216, 194, 228, 140, 83, 145]⟩
theorem blob_narrow : (sumL rowB).data = nameN.data := by decide +kernel
theorem sum_blob : sumL rowB = nameN := ByteArray.ext blob_narrow
def nameW : ByteArray := ⟨#[71, 58, 15, 76, 59, 232, 169, 54, 129, 162, 103, 227, 177, 233, 167, 220, 218, 17, 133, 67, 111, 225, 65, 247, 116, 145, 32, 163, 3, 114, 24, 19]⟩
theorem blob_wide : (sumL2 rowB).data = nameW.data := by decide +kernel
theorem sum2_blob : sumL2 rowB = nameW := ByteArray.ext blob_wide
def digN : ByteArray := ⟨#[101, 54, 57, 100, 101, 50, 57, 98, 98, 50, 100, 49, 100, 54, 52, 51, 52, 98, 56, 98, 50, 57, 97, 101, 55, 55, 53, 97, 100, 56, 99, 50, 101, 52, 56, 99, 53, 51, 57, 49]⟩
def digW : ByteArray := ⟨#[52, 55, 51, 97, 48, 102, 52, 99, 51, 98, 101, 56, 97, 57, 51, 54, 56, 49, 97, 50, 54, 55, 101, 51, 98, 49, 101, 57, 97, 55, 100, 99, 100, 97, 49, 49, 56, 53, 52, 51, 54, 102, 101, 49, 52, 49, 102, 55, 55, 52, 57, 49, 50, 48, 97, 51, 48, 51, 55, 50, 49, 56, 49, 51]⟩
theorem digits_N : hexa_Digits.f 40 nameN = some digN := by decide +kernel
theorem digits_W : hexa_Digits.f 40 nameW = some digW := by decide +kernel
theorem kind_tree : ident_Kind.f 10 ⟨#[116, 114, 101, 101]⟩ = some 2 := by decide +kernel
theorem word_blob : ((word 1).toList == (⟨#[]⟩ : ByteArray).toList) = false := by
  rw [Lib.toList_data, Lib.toList_data]
  rfl
theorem idS_N : idS 1 1 ⟨#[]⟩ = (nameN, 0) := by
  unfold idS
  rw [word_blob, row_blob, blob_unmarked, sum_blob]
  rfl
theorem idS_W : idS 2 1 ⟨#[]⟩ = (nameW, 0) := by
  unfold idS
  rw [word_blob, row_blob, sum2_blob]
  rfl
theorem ofN_N : ofN 1 1 20 ⟨#[]⟩ = nameN := by
  unfold ofN
  rw [idS_N]
  rfl
theorem ofE_N : ofE 1 1 20 ⟨#[]⟩ = 0 := by
  unfold ofE
  rw [idS_N]
  rfl
theorem ofN_W : ofN 2 1 32 ⟨#[]⟩ = nameW := by
  unfold ofN
  rw [idS_W]
  rfl
theorem ofE_W : ofE 2 1 32 ⟨#[]⟩ = 0 := by
  unfold ofE
  rw [idS_W]
  rfl
end Go.Proofs.YtfjhnnpdaggnbaaGreatDoor.Q
end
/-! G4 -/
section
namespace Go.Proofs.YtfjhnnpdaggnbaaGreatDoor.Q
open Go.Proofs.YtfjhnnpdaggnbaaGreatDoorW.PrintWords (bytesOf bytesOf_length)
open Go.RowKit Go.Proofs.YtfjhnnpdaggnbaaGreatDoor.P
set_option linter.unusedVariables false
set_option linter.unusedSimpArgs false
set_option maxRecDepth 100000
set_option maxHeartbeats 4000000
attribute [local irreducible] wpList wpQuiet qch Code.wp Oper.quiet Act.put At Region.wanted yielded
theorem MakeW_ok.calls (y : ByteArray) (h : y.size = 32) (w0 : World) : Calls Tryz.prog 21 #[.string y] w0 fun e w' => e = .returned (.tuple #[.agg #[.string y], .int .i64 0]) ∧ Low w0 w' := by
  have q := MakeW.calls y (by omega) w0
  unfold mkN mkE at q
  rw [decide_eq_false (by omega)] at q
  exact q
theorem MakeW_no.calls (y : ByteArray) (hy : y.size ≤ 140737488350000) (h : ¬ y.size = 32) (w0 : World) : Calls Tryz.prog 21 #[.string y] w0 fun e w' => e = .returned (.tuple #[.agg #[.string (⟨#[]⟩ : ByteArray)], .int .i64 3]) ∧ Low w0 w' := by
  have q := MakeW.calls y hy w0
  unfold mkN mkE at q
  rw [decide_eq_true (by omega)] at q
  exact q
theorem MakeN_ok.calls (y : ByteArray) (h : y.size = 20) (w0 : World) : Calls Tryz.prog 31 #[.string y] w0 fun e w' => e = .returned (.tuple #[.agg #[.string y], .int .i64 0]) ∧ Low w0 w' := by
  have q := MakeN.calls y (by omega) w0
  unfold mkN mkE at q
  rw [decide_eq_false (by omega)] at q
  exact q
theorem MakeN_no.calls (y : ByteArray) (hy : y.size ≤ 140737488350000) (h : ¬ y.size = 20) (w0 : World) : Calls Tryz.prog 31 #[.string y] w0 fun e w' => e = .returned (.tuple #[.agg #[.string (⟨#[]⟩ : ByteArray)], .int .i64 3]) ∧ Low w0 w' := by
  have q := MakeN.calls y hy w0
  unfold mkN mkE at q
  rw [decide_eq_true (by omega)] at q
  exact q
theorem Zero_yes.calls (w0 : World) : Calls Tryz.prog 23 #[.agg #[.string (⟨#[]⟩ : ByteArray)]] w0 fun e w' => e = .returned (.bool true) ∧ Low w0 w' := by
  have q := ZeroW.calls ⟨#[]⟩ w0
  rw [eqB, decide_eq_true rfl] at q
  exact q
theorem Zero_no.calls (y : ByteArray) (h : 0 < y.size) (w0 : World) : Calls Tryz.prog 23 #[.agg #[.string y]] w0 fun e w' => e = .returned (.bool false) ∧ Low w0 w' := by
  have q := ZeroW.calls y w0
  rw [eqB, decide_eq_false (fun e => by rw [e] at h; exact absurd h (by decide))] at q
  exact q
theorem OfN_blob.calls (w0 : World) (hG : Gd w0) : Calls Tryz.prog 8 #[.int .i64 1, .string (⟨#[]⟩ : ByteArray)] w0 fun e w' => e = .returned (.tuple #[.agg #[.string nameN], .int .i64 0]) ∧ Low w0 w' := by
  have q := OfN.calls 1 ⟨#[]⟩ (by decide) w0 hG
  rw [ofN_N, ofE_N] at q
  exact q
theorem OfW_blob.calls (w0 : World) (hG : Gd w0) : Calls Tryz.prog 7 #[.int .i64 1, .string (⟨#[]⟩ : ByteArray)] w0 fun e w' => e = .returned (.tuple #[.agg #[.string nameW], .int .i64 0]) ∧ Low w0 w' := by
  have q := OfW.calls 1 ⟨#[]⟩ (by decide) w0 hG
  rw [ofN_W, ofE_W] at q
  exact q
theorem beq_yes (x : ByteArray) : (x.toList == x.toList) = true := by rw [eqB, decide_eq_true rfl]
theorem beq_is {x y : ByteArray} (h : x = y) : (x.toList == y.toList) = true := by rw [eqB, decide_eq_true h]
theorem Awake10.calls (w0 : World) (hG : Gd w0) : Calls Tryz.prog 4 #[] w0 fun e w' => e = .returned (.bool true) ∧ Low w0 w' := by
 refine c_fun (R := _) Tryz.func4 rfl 64 rfl (Nat.le_of_ble_eq_true rfl) ?_
 intro a z hA
 clear hA
 refine c_seq (c_region ?_)
 refine l_q rfl (q_assign _ _ rfl rfl ?_)
 refine l_end (e_fresh z.put ?_)
 intro a1 z1 m1
 clear m1
 refine e_then (c_seq (c_region (l_call (fun v w' => v = .tuple #[.agg (#[.string nameN]), .int .i64 0] ∧ Low w0 w') rfl rfl rfl Tryz.func8 rfl (args2 rfl rfl rfl) ((OfN_blob.calls _ (Gd.low hG (Low.refl _))).mono fun _ _ ⟨e, k⟩ => ⟨_, e, rfl, k⟩) ?_)))
 rintro _ w2 ⟨rfl, h2⟩
 refine l_q rfl (q_move _ _ rfl (At.hit z1 rfl).ev ?_)
 refine l_q rfl (q_extract rfl (At.hit z1.put rfl).ev rfl ?_)
 refine l_q rfl (q_extract rfl ((At.hit z1.put rfl).n1).ev rfl ?_)
 refine l_alloc rfl rfl zero34 ?_
 intro g1 w3 hg3 k3 h3
 have geg1 := Nat.le_trans h2.ge hg3
 refine l_row rfl rfl rfl (sz34.trans (congrArg some rfl.symm)) (At.hit z1.p4 rfl).ev ((At.hit z1.p2 rfl).n2).ev (by simp [Value.oneCell']) k3 (rfl.trans rfl.symm) ?_
 intro w4 k4 u4
 refine l_q rfl (q_assign _ _ rfl ((At.hit z1.p3 rfl).n1).ev ?_)
 refine l_end (e_fresh z1.p6 ?_)
 intro a5 z5 m5
 have s1_5 := m5 _ _ ((At.hit z1.p4 rfl).n1)
 have s2_5 := m5 _ _ (At.hit z1.p5 rfl)
 have low5 := ((h2.trans h3).upd u4 geg1)
 clear m5
 refine e_then (c_seq (c_region (l_call (fun v w' => v = .tuple #[.agg (#[.string nameW]), .int .i64 0] ∧ Low w4 w') rfl rfl rfl Tryz.func7 rfl (args2 rfl rfl rfl) ((OfW_blob.calls _ (Gd.low hG low5)).mono fun _ _ ⟨e, k⟩ => ⟨_, e, rfl, k⟩) ?_)))
 rintro _ w6 ⟨rfl, h6⟩
 have kg1_6 := h6.blk k4
 refine l_q rfl (q_move _ _ rfl (At.hit z5 rfl).ev ?_)
 refine l_q rfl (q_extract rfl (At.hit z5.put rfl).ev rfl ?_)
 refine l_q rfl (q_extract rfl ((At.hit z5.put rfl).n1).ev rfl ?_)
 refine l_alloc rfl rfl zero29 ?_
 intro g3 w7 hg7 k7 h7
 have lt_g1_g3 := Nat.lt_of_lt_of_le (heap_lt kg1_6) hg7
 have geg3 := Nat.le_trans (low5.trans h6).ge hg7
 have kg1_7 := h7.blk kg1_6
 refine l_row rfl rfl rfl (sz29.trans (congrArg some rfl.symm)) (At.hit z5.p4 rfl).ev ((At.hit z5.p2 rfl).n2).ev (by simp [Value.oneCell']) k7 (rfl.trans rfl.symm) ?_
 intro w8 k8 u8
 have kg1_8 := u8.blk kg1_7 (by omega)
 refine l_q rfl (q_assign _ _ rfl ((At.hit z5.p3 rfl).n1).ev ?_)
 refine l_end (e_fresh z5.p6 ?_)
 intro a9 z9 m9
 have s1_9 := m9 _ _ (s1_5.n6)
 have s2_9 := m9 _ _ (s2_5.n6)
 have s3_9 := m9 _ _ ((At.hit z5.p4 rfl).n1)
 have s4_9 := m9 _ _ (At.hit z5.p5 rfl)
 have low9 := (((low5.trans h6).trans h7).upd u8 geg3)
 clear m9
 refine e_then (c_seq (c_region (l_call (fun v w' => v = .tuple #[.agg (#[.string (⟨#[]⟩ : ByteArray)]), .int .i64 3] ∧ Low w8 w') rfl rfl rfl Tryz.func21 rfl (args1 rfl rfl) ((MakeW_no.calls _ (by decide) (by decide) _).mono fun _ _ ⟨e, k⟩ => ⟨_, e, rfl, k⟩) ?_)))
 rintro _ w10 ⟨rfl, h10⟩
 have kg1_10 := h10.blk kg1_8
 have kg3_10 := h10.blk k8
 refine l_q rfl (q_move _ _ rfl (At.hit z9 rfl).ev ?_)
 refine l_q rfl (q_extract rfl (At.hit z9.put rfl).ev rfl ?_)
 refine l_q rfl (q_extract rfl ((At.hit z9.put rfl).n1).ev rfl ?_)
 refine l_alloc rfl rfl zero29 ?_
 intro g5 w11 hg11 k11 h11
 have lt_g1_g5 := Nat.lt_of_lt_of_le (heap_lt kg1_10) hg11
 have lt_g3_g5 := Nat.lt_of_lt_of_le (heap_lt kg3_10) hg11
 have geg5 := Nat.le_trans (low9.trans h10).ge hg11
 have kg1_11 := h11.blk kg1_10
 have kg3_11 := h11.blk kg3_10
 refine l_row rfl rfl rfl (sz29.trans (congrArg some rfl.symm)) (At.hit z9.p4 rfl).ev ((At.hit z9.p2 rfl).n2).ev (by simp [Value.oneCell']) k11 (rfl.trans rfl.symm) ?_
 intro w12 k12 u12
 have kg1_12 := u12.blk kg1_11 (by omega)
 have kg3_12 := u12.blk kg3_11 (by omega)
 refine l_q rfl (q_assign _ _ rfl ((At.hit z9.p3 rfl).n1).ev ?_)
 refine l_end (e_fresh z9.p6 ?_)
 intro a13 z13 m13
 have s1_13 := m13 _ _ (s1_9.n6)
 have s2_13 := m13 _ _ (s2_9.n6)
 have s3_13 := m13 _ _ (s3_9.n6)
 have s4_13 := m13 _ _ (s4_9.n6)
 have s6_13 := m13 _ _ (At.hit z9.p5 rfl)
 have low13 := (((low9.trans h10).trans h11).upd u12 geg5)
 clear m13
 refine e_then (c_seq (c_region (l_alloc rfl rfl zero29 ?_)))
 intro g7 w14 hg14 k14 h14
 have lt_g1_g7 := Nat.lt_of_lt_of_le (heap_lt kg1_12) hg14
 have lt_g3_g7 := Nat.lt_of_lt_of_le (heap_lt kg3_12) hg14
 have geg7 := Nat.le_trans low13.ge hg14
 have kg1_14 := h14.blk kg1_12
 have kg3_14 := h14.blk kg3_12
 refine l_end (e_fresh z13.put ?_)
 intro a15 z15 m15
 have s1_15 := m15 _ _ (s1_13.n1)
 have s2_15 := m15 _ _ (s2_13.n1)
 have s3_15 := m15 _ _ (s3_13.n1)
 have s4_15 := m15 _ _ (s4_13.n1)
 have s6_15 := m15 _ _ (s6_13.n1)
 have s7_15 := m15 _ _ (At.hit z13 rfl)
 have low15 := (low13.trans h14)
 clear m15
 refine e_then (c_seq (c_region ?_))
 refine l_q rfl (q_row rfl Tryz.underlying34 rfl (sz34.trans (congrArg some rfl.symm)) s1_15.ev (fun _ e => by rw [e]; exact kg1_14) ?_)
 refine l_call (fun v w' => v = .string digN ∧ Low w14 w') rfl rfl rfl Tryz.func19 rfl (args1 rfl (At.hit z15 rfl).ev) ((DigitsN.calls 40 nameN digN digits_N _).mono fun _ _ ⟨e, k⟩ => ⟨_, e, rfl, k⟩) ?_
 rintro _ w16 ⟨rfl, h16⟩
 have kg1_16 := h16.blk kg1_14
 have kg3_16 := h16.blk kg3_14
 have kg7_16 := h16.blk k14
 refine l_q rfl (q_streq true rfl (At.hit z15.put rfl).ev rfl (beq_yes _) ?_)
 refine l_q rfl (q_move _ _ rfl (At.hit z15.p2 rfl).ev ?_)
 refine l_qg (wanted_is (j := 3) (d := 23) (b := true) rfl rfl (At.hit z15.p3 rfl) rfl) (q_move _ _ rfl (s2_15.n4).ev ?_)
 refine l_qg (wanted_is (j := 3) (d := 23) (b := true) rfl rfl ((At.hit z15.p3 rfl).n1) rfl) (q_eql true rfl (At.hit z15.p4 rfl).ev rfl (decide_eq_true rfl) ?_)
 refine l_q rfl (q_pick (b := true) (.bool true) rfl ((At.hit z15.p3 rfl).n2).ev (At.hit z15.p5 rfl).ev ?_)
 refine l_q rfl (q_move _ _ rfl (At.hit z15.p6 rfl).ev ?_)
 refine l_fresh z15.p8 ?_
 intro a17 z17 m17
 have s3_17 := m17 _ _ (s3_15.n8)
 have s4_17 := m17 _ _ (s4_15.n8)
 have s6_17 := m17 _ _ (s6_15.n8)
 have s7_17 := m17 _ _ (s7_15.n8)
 have s27_17 := m17 _ _ (At.hit z15.p7 rfl)
 clear m17
 refine l_qg (wanted_is (j := 7) (d := 27) (b := true) rfl rfl s27_17 rfl) (q_row rfl Tryz.underlying29 rfl (sz29.trans (congrArg some rfl.symm)) s3_17.ev (fun _ e => by rw [e]; exact kg3_16) ?_)
 refine l_callg (fun v w' => v = .string nameW ∧ Low w16 w') (wanted_is (j := 7) (d := 27) (b := true) rfl rfl (s27_17.n1) rfl) rfl rfl Tryz.func17 rfl (args1 rfl (At.hit z17 rfl).ev) ((BytesW.calls nameW _).mono fun _ _ ⟨e, k⟩ => ⟨_, e, rfl, k⟩) ?_
 rintro _ w18 ⟨rfl, h18⟩
 have kg1_18 := h18.blk kg1_16
 have kg3_18 := h18.blk kg3_16
 have kg7_18 := h18.blk kg7_16
 refine l_qg (wanted_is (j := 7) (d := 27) (b := true) rfl rfl (s27_17.n2) rfl) (q_len rfl rfl Tryz.underlying9 (At.hit z17.put rfl).ev ?_)
 refine l_qg (wanted_is (j := 7) (d := 27) (b := true) rfl rfl (s27_17.n3) rfl) (q_eql true rfl (At.hit z17.p2 rfl).ev rfl (decide_eq_true rfl) ?_)
 refine l_q rfl (q_pick (b := true) (.bool true) rfl (s27_17.n4).ev (At.hit z17.p3 rfl).ev ?_)
 refine l_q rfl (q_move _ _ rfl (At.hit z17.p4 rfl).ev ?_)
 refine l_qg (wanted_is (j := 13) (d := 33) (b := true) rfl rfl (At.hit z17.p5 rfl) rfl) (q_row rfl Tryz.underlying29 rfl (sz29.trans (congrArg some rfl.symm)) (s3_17.n6).ev (fun _ e => by rw [e]; exact kg3_18) ?_)
 refine l_callg (fun v w' => v = .string digW ∧ Low w18 w') (wanted_is (j := 13) (d := 33) (b := true) rfl rfl ((At.hit z17.p5 rfl).n1) rfl) rfl rfl Tryz.func22 rfl (args1 rfl (At.hit z17.p6 rfl).ev) ((DigitsW.calls 40 nameW digW digits_W _).mono fun _ _ ⟨e, k⟩ => ⟨_, e, rfl, k⟩) ?_
 rintro _ w19 ⟨rfl, h19⟩
 have kg1_19 := h19.blk kg1_18
 have kg3_19 := h19.blk kg3_18
 have kg7_19 := h19.blk kg7_18
 refine l_fresh z17.p8 ?_
 intro a20 z20 m20
 have s3_20 := m20 _ _ (s3_17.n8)
 have s4_20 := m20 _ _ (s4_17.n8)
 have s6_20 := m20 _ _ (s6_17.n8)
 have s7_20 := m20 _ _ (s7_17.n8)
 have s33_20 := m20 _ _ ((At.hit z17.p5 rfl).n2)
 have s35_20 := m20 _ _ (At.hit z17.p7 rfl)
 clear m20
 refine l_qg (wanted_is (j := 13) (d := 33) (b := true) rfl rfl s33_20 rfl) (q_cuthi (k := 8) rfl Tryz.underlying9 s35_20.ev rfl (by first | omega | decide) ?_)
 refine l_qg (wanted_is (j := 13) (d := 33) (b := true) rfl rfl (s33_20.n1) rfl) (q_streq true rfl (At.hit z20 rfl).ev rfl (beq_is (by rfl)) ?_)
 refine l_q rfl (q_pick (b := true) (.bool true) rfl (s33_20.n2).ev (At.hit z20.put rfl).ev ?_)
 refine l_q rfl (q_move _ _ rfl (At.hit z20.p2 rfl).ev ?_)
 refine l_qg (wanted_is (j := 19) (d := 39) (b := true) rfl rfl (At.hit z20.p3 rfl) rfl) (q_move _ _ rfl (s4_20.n4).ev ?_)
 refine l_qg (wanted_is (j := 19) (d := 39) (b := true) rfl rfl ((At.hit z20.p3 rfl).n1) rfl) (q_eql true rfl (At.hit z20.p4 rfl).ev rfl (decide_eq_true rfl) ?_)
 refine l_q rfl (q_pick (b := true) (.bool true) rfl ((At.hit z20.p3 rfl).n2).ev (At.hit z20.p5 rfl).ev ?_)
 refine l_q rfl (q_move _ _ rfl (At.hit z20.p6 rfl).ev ?_)
 refine l_fresh z20.p8 ?_
 intro a21 z21 m21
 have s3_21 := m21 _ _ (s3_20.n8)
 have s6_21 := m21 _ _ (s6_20.n8)
 have s7_21 := m21 _ _ (s7_20.n8)
 have s43_21 := m21 _ _ (At.hit z20.p7 rfl)
 clear m21
 refine l_qg (wanted_is (j := 23) (d := 43) (b := true) rfl rfl s43_21 rfl) (q_move _ _ rfl s6_21.ev ?_)
 refine l_qg (wanted_is (j := 23) (d := 43) (b := true) rfl rfl (s43_21.n1) rfl) (q_eql true rfl (At.hit z21 rfl).ev rfl (decide_eq_true rfl) ?_)
 refine l_q rfl (q_pick (b := true) (.bool true) rfl (s43_21.n2).ev (At.hit z21.put rfl).ev ?_)
 refine l_q rfl (q_move _ _ rfl (At.hit z21.p2 rfl).ev ?_)
 refine l_qg (wanted_is (j := 27) (d := 47) (b := true) rfl rfl (At.hit z21.p3 rfl) rfl) (q_row rfl Tryz.underlying29 rfl (sz29.trans (congrArg some rfl.symm)) (s7_21.n4).ev (fun _ e => by rw [e]; exact kg7_19) ?_)
 refine l_callg (fun v w' => v = .bool true ∧ Low w19 w') (wanted_is (j := 27) (d := 47) (b := true) rfl rfl ((At.hit z21.p3 rfl).n1) rfl) rfl rfl Tryz.func23 rfl (args1 rfl (At.hit z21.p4 rfl).ev) ((Zero_yes.calls _).mono fun _ _ ⟨e, k⟩ => ⟨_, e, rfl, k⟩) ?_
 rintro _ w22 ⟨rfl, h22⟩
 have kg1_22 := h22.blk kg1_19
 have kg3_22 := h22.blk kg3_19
 have kg7_22 := h22.blk kg7_19
 refine l_q rfl (q_pick (b := true) (.bool true) rfl ((At.hit z21.p3 rfl).n2).ev (At.hit z21.p5 rfl).ev ?_)
 refine l_q rfl (q_move _ _ rfl (At.hit z21.p6 rfl).ev ?_)
 refine l_fresh z21.p8 ?_
 intro a23 z23 m23
 have s3_23 := m23 _ _ (s3_21.n8)
 have s51_23 := m23 _ _ (At.hit z21.p7 rfl)
 clear m23
 refine l_qg (wanted_is (j := 31) (d := 51) (b := true) rfl rfl s51_23 rfl) (q_row rfl Tryz.underlying29 rfl (sz29.trans (congrArg some rfl.symm)) s3_23.ev (fun _ e => by rw [e]; exact kg3_22) ?_)
 refine l_callg (fun v w' => v = .bool false ∧ Low w22 w') (wanted_is (j := 31) (d := 51) (b := true) rfl rfl (s51_23.n1) rfl) rfl rfl Tryz.func23 rfl (args1 rfl (At.hit z23 rfl).ev) ((Zero_no.calls nameW (by decide) _).mono fun _ _ ⟨e, k⟩ => ⟨_, e, rfl, k⟩) ?_
 rintro _ w24 ⟨rfl, h24⟩
 have kg1_24 := h24.blk kg1_22
 have kg3_24 := h24.blk kg3_22
 have kg7_24 := h24.blk kg7_22
 refine l_qg (wanted_is (j := 31) (d := 51) (b := true) rfl rfl (s51_23.n2) rfl) (q_not (b := false) rfl (At.hit z23.put rfl).ev ?_)
 refine l_q rfl (q_pick (b := true) (.bool true) rfl (s51_23.n3).ev (At.hit z23.p2 rfl).ev ?_)
 refine l_q rfl (q_move _ _ rfl (At.hit z23.p3 rfl).ev ?_)
 refine l_callg (fun v w' => v = .string (word 4) ∧ Low w24 w') (wanted_is (j := 36) (d := 56) (b := true) rfl rfl (At.hit z23.p4 rfl) rfl) rfl rfl Tryz.func11 rfl (args1 rfl rfl) ((Word.calls 4 _).mono fun _ _ ⟨e, k⟩ => ⟨_, e, rfl, k⟩) ?_
 rintro _ w25 ⟨rfl, h25⟩
 have kg1_25 := h25.blk kg1_24
 have kg3_25 := h25.blk kg3_24
 have kg7_25 := h25.blk kg7_24
 refine l_qg (wanted_is (j := 36) (d := 56) (b := true) rfl rfl ((At.hit z23.p4 rfl).n1) rfl) (q_streq true rfl (At.hit z23.p5 rfl).ev rfl (beq_is (by rfl)) ?_)
 refine l_q rfl (q_pick (b := true) (.bool true) rfl ((At.hit z23.p4 rfl).n2).ev (At.hit z23.p6 rfl).ev ?_)
 refine l_fresh z23.p8 ?_
 intro a26 z26 m26
 have s59_26 := m26 _ _ (At.hit z23.p7 rfl)
 clear m26
 refine l_q rfl (q_move _ _ rfl s59_26.ev ?_)
 refine l_callg (fun v w' => v = .int .i64 2 ∧ Low w25 w') (wanted_is (j := 40) (d := 60) (b := true) rfl rfl (At.hit z26 rfl) rfl) rfl rfl Tryz.func13 rfl (args1 rfl rfl) ((ident_Kind.calls 10 _ 2 _ kind_tree).mono fun _ _ ⟨e, k⟩ => ⟨_, e, rfl, k⟩) ?_
 rintro _ w27 ⟨rfl, h27⟩
 have kg1_27 := h27.blk kg1_25
 have kg3_27 := h27.blk kg3_25
 have kg7_27 := h27.blk kg7_25
 refine l_qg (wanted_is (j := 40) (d := 60) (b := true) rfl rfl ((At.hit z26 rfl).n1) rfl) (q_eql true rfl (At.hit z26.put rfl).ev rfl (decide_eq_true rfl) ?_)
 refine l_q rfl (q_pick (b := true) (.bool true) rfl ((At.hit z26 rfl).n2).ev (At.hit z26.p2 rfl).ev ?_)
 refine l_q rfl (q_assign _ _ rfl (At.hit z26.p3 rfl).ev ?_)
 refine l_end (e_fresh z26.p5 ?_)
 intro a28 z28 m28
 have s0_28 := m28 _ _ (At.hit z26.p4 rfl)
 have low28 := (((((((low15.trans h16).trans h18).trans h19).trans h22).trans h24).trans h25).trans h27)
 clear m28
 refine e_then (wp_ret (r_tmp rfl z28.defers s0_28 ?_))
 exact ⟨rfl, low28⟩
end Go.Proofs.YtfjhnnpdaggnbaaGreatDoor.Q
end
/-! V2 -/
section
namespace Go.Proofs.YtfjhnnpdaggnbaaGreatDoor.Q
open Go.RowKit Go.Proofs.YtfjhnnpdaggnbaaGreatDoor.P
set_option linter.unusedVariables false
set_option linter.unusedSimpArgs false
set_option maxRecDepth 100000
set_option maxHeartbeats 4000000
attribute [local irreducible] wpList wpQuiet qch Code.wp Oper.quiet Act.put At Region.wanted yielded
def bR (s : ByteArray) (b : Nat) : ByteArray := (fillR s).extract (64 * b) (64 * b + 64)
theorem bR_size (s : ByteArray) (b : Nat) : (bR s b).size ≤ 64 := by rw [bR, ByteArray.size_extract]; omega
noncomputable def mrowR (s : ByteArray) (b : Nat) (m0 : Bool) : Nat → Bool
  | 0 => m0
  | i + 1 => mrowR s b m0 i || markedR (chR s b) (bR s b) (vT i) (vK i) (vB i)
noncomputable def mblkR (s : ByteArray) : Nat → Bool
  | 0 => false
  | b + 1 => mrowR s b (mblkR s b) 21
theorem mrowR_yes {s : ByteArray} {b : Nat} {m0 : Bool} {i : Nat} (h : mrowR s b m0 i = true) : true = mrowR s b m0 (i + 1) := by rw [mrowR, h]; rfl
theorem mrowR_no {s : ByteArray} {b : Nat} {m0 : Bool} {i : Nat} (h : mrowR s b m0 i = false) : markedR (chR s b) (bR s b) (vT i) (vK i) (vB i) = mrowR s b m0 (i + 1) := by rw [mrowR, h]; rfl
theorem ScanR.calls (s : ByteArray) (hs : s.size ≤ 140737488350000) (w0 : World) : Calls Tryz.prog 28 #[.string s] w0 fun e w' => e = .returned (.tuple #[.string (sumR s), .bool (mblkR s ((fillR s).size / 64))]) ∧ Low w0 w' := by
 refine c_fun (R := _) Tryz.func28 rfl 50 rfl (Nat.le_of_ble_eq_true rfl) ?_
 intro a z hA
 have s0 := hA 0 _ rfl
 clear hA
 refine c_seq (c_region ?_)
 refine l_q rfl (q_assign _ _ rfl rfl ?_)
 refine l_q rfl (q_assign _ _ rfl rfl ?_)
 refine l_end (e_fresh z.p2 ?_)
 intro a1 z1 m1
 have s0_1 := m1 _ _ (s0.n2)
 clear m1
 refine e_then (c_seq (c_region ?_))
 refine l_q rfl (q_move _ _ rfl s0_1.ev ?_)
 refine l_call (fun v w' => v = .string (fillR s) ∧ Low w0 w') rfl rfl rfl Tryz.func49 rfl (args1 rfl (At.hit z1 rfl).ev) ((FillR.calls s hs _).mono fun _ _ ⟨e, k⟩ => ⟨_, e, rfl, k⟩) ?_
 rintro _ w2 ⟨rfl, h2⟩
 refine l_q rfl (q_assign _ _ rfl (At.hit z1.put rfl).ev ?_)
 refine l_end (e_fresh z1.p3 ?_)
 intro a3 z3 m3
 have s0_3 := m3 _ _ (s0_1.n3)
 have s4_3 := m3 _ _ (At.hit z1.p2 rfl)
 have low3 := h2
 clear m3
 refine e_then (c_seq (c_region (l_call _ rfl rfl rfl Tryz.func52 rfl (show Array.map _ _ = (#[] : Array Value) from by simp) (VecsR.calls _) ?_)))
 rintro _ w4 ⟨gv, capv, curv, rfl, hgv, kv, hcv, h4⟩
 have gegv := Nat.le_trans low3.ge hgv
 refine l_q rfl (q_assign _ _ rfl (At.hit z3 rfl).ev ?_)
 refine l_end (e_fresh z3.p2 ?_)
 intro a5 z5 m5
 have s0_5 := m5 _ _ (s0_3.n2)
 have s4_5 := m5 _ _ (s4_3.n2)
 have s5_5 := m5 _ _ (At.hit z3.put rfl)
 have low5 := (low3.trans h4)
 clear m5
 refine e_then (c_seq (c_region (l_call (fun v w' => v = .agg (nums .u32 (cl first)) ∧ Low w4 w') rfl rfl rfl Tryz.func53 rfl (show Array.map _ _ = (#[] : Array Value) from by simp) ((FirstR.calls _).mono fun _ _ ⟨e, k⟩ => ⟨_, e, rfl, k⟩) ?_)))
 rintro _ w6 ⟨rfl, h6⟩
 have kgv_6 := h6.blk kv
 refine l_alloc rfl rfl zero68 ?_
 intro g6 w7 hg7 k7 h7
 have lt_gv_g6 := Nat.lt_of_lt_of_le (heap_lt kgv_6) hg7
 have geg6 := Nat.le_trans (low5.trans h6).ge hg7
 have kgv_7 := h7.blk kgv_6
 refine l_row rfl rfl rfl (sz68.trans (congrArg some ((nums_size _ _).trans (cl_len first)).symm)) (At.hit z5.put rfl).ev ((At.hit z5 rfl).n1).ev (nums_one _ _) k7 (((nums_size _ _).trans (List.length_replicate)).trans ((nums_size _ _).trans (cl_len first)).symm) ?_
 intro w8 k8 u8
 have kgv_8 := u8.blk kgv_7 (by omega)
 refine l_end (e_fresh z5.p2 ?_)
 intro a9 z9 m9
 have s0_9 := m9 _ _ (s0_5.n2)
 have s4_9 := m9 _ _ (s4_5.n2)
 have s5_9 := m9 _ _ (s5_5.n2)
 have s6_9 := m9 _ _ (At.hit z5.put rfl)
 have low9 := (((low5.trans h6).trans h7).upd u8 geg6)
 clear m9
 refine e_then (c_seq (c_region ?_))
 refine l_q rfl (q_assign _ _ rfl rfl ?_)
 refine l_end (e_fresh z9.put ?_)
 intro a10 z10 m10
 have s0_10 := m10 _ _ (s0_9.n1)
 have s4_10 := m10 _ _ (s4_9.n1)
 have s5_10 := m10 _ _ (s5_9.n1)
 have s6_10 := m10 _ _ (s6_9.n1)
 have s7_10 := m10 _ _ (At.hit z9 rfl)
 clear m10
 refine e_then (c_seq (c_seq (c_region ?_)))
 refine l_q rfl (q_assign _ _ rfl rfl ?_)
 refine l_end (e_fresh z10.put ?_)
 intro a11 z11 m11
 have s0_11 := m11 _ _ (s0_10.n1)
 have s4_11 := m11 _ _ (s4_10.n1)
 have s5_11 := m11 _ _ (s5_10.n1)
 have s6_11 := m11 _ _ (s6_10.n1)
 have s7_11 := m11 _ _ (s7_10.n1)
 have s8_11 := m11 _ _ (At.hit z10 rfl)
 clear m11
 refine e_then (wp_block (c_loop ((fillR s).size / 64) (fun b a w => Fr 50 a ∧ At a 0 (.string s) ∧ At a 4 (.string (fillR s)) ∧ At a 5 (.slice (some ⟨gv, 0, none⟩) 21 capv) ∧ At a 6 (.pointer (some ⟨g6, 0, none⟩)) ∧ At a 7 (.bool (mblkR s b)) ∧ At a 8 (.int .i64 ((64 * b : Nat) : Int)) ∧ w.heap[g6]? = some (.cells (nums .u32 (cl (chR s b))) 68) ∧ w.heap[gv]? = some (.cells (curv) 84) ∧ Low w0 w) ?_ ?_ ?_))
 ·
  exact ⟨z11, s0_11, s4_11, s5_11, s6_11, s7_11, (s8_11.same (congrArg (Value.int .i64) (by omega))), k8, kgv_8, low9⟩
 ·
  intro b a12 w12 hk12 h
  obtain ⟨z12, s0_12, s4_12, s5_12, s6_12, s7_12, s8_12, kg6_12, kgv_12, low12⟩ := h
  clear k8 kgv_8 low9 s0_11 s4_11 s5_11 s6_11 s7_11 s8_11 z11
  have hfm := fillR_mod s
  have hfs := fillR_size s
  have hpl := padN_le s
  refine c_seq (c_seq (c_region ?_))
  refine l_q rfl (q_move _ _ rfl s8_12.ev ?_)
  refine l_q rfl (q_move _ _ rfl (s4_12.n1).ev ?_)
  refine l_q rfl (q_len rfl rfl Tryz.underlying9 (At.hit z12.put rfl).ev ?_)
  refine l_q rfl (q_lss true rfl ((At.hit z12 rfl).n2).ev (At.hit z12.p2 rfl).ev (decide_eq_true (by omega)) ?_)
  refine l_end (e_fresh z12.p4 ?_)
  intro a13 z13 m13
  have s0_13 := m13 _ _ (s0_12.n4)
  have s4_13 := m13 _ _ (s4_12.n4)
  have s5_13 := m13 _ _ (s5_12.n4)
  have s6_13 := m13 _ _ (s6_12.n4)
  have s7_13 := m13 _ _ (s7_12.n4)
  have s8_13 := m13 _ _ (s8_12.n4)
  have s17_13 := m13 _ _ (At.hit z12.p3 rfl)
  clear m13
  refine e_then (c_true s17_13 ?_)
  refine wp_skip (e_then (c_seq (wp_block (c_seq (c_seq (c_region ?_))))))
  refine l_q rfl (q_assign _ _ rfl rfl ?_)
  refine l_end (e_fresh z13.put ?_)
  intro a14 z14 m14
  have s0_14 := m14 _ _ (s0_13.n1)
  have s4_14 := m14 _ _ (s4_13.n1)
  have s5_14 := m14 _ _ (s5_13.n1)
  have s6_14 := m14 _ _ (s6_13.n1)
  have s7_14 := m14 _ _ (s7_13.n1)
  have s8_14 := m14 _ _ (s8_13.n1)
  have s9_14 := m14 _ _ (At.hit z13 rfl)
  clear m14
  refine e_then (wp_block (c_loop 21 (fun i a w => Fr 50 a ∧ At a 0 (.string s) ∧ At a 4 (.string (fillR s)) ∧ At a 5 (.slice (some ⟨gv, 0, none⟩) 21 capv) ∧ At a 6 (.pointer (some ⟨g6, 0, none⟩)) ∧ At a 7 (.bool (mrowR s b (mblkR s b) i)) ∧ At a 8 (.int .i64 ((64 * b : Nat) : Int)) ∧ At a 9 (.int .i64 ((i : Nat) : Int)) ∧ w.heap[g6]? = some (.cells (nums .u32 (cl (chR s b))) 68) ∧ w.heap[gv]? = some (.cells (curv) 84) ∧ Low w0 w) ?_ ?_ ?_))
  ·
   exact ⟨z14, s0_14, s4_14, s5_14, s6_14, s7_14, s8_14, s9_14, kg6_12, kgv_12, low12⟩
  ·
   intro i a15 w15 hk15 h
   obtain ⟨z15, s0_15, s4_15, s5_15, s6_15, s7_15, s8_15, s9_15, kg6_15, kgv_15, low15⟩ := h
   clear kg6_12 kgv_12 low12 s0_14 s4_14 s5_14 s6_14 s7_14 s8_14 s9_14 z14
   refine c_seq (c_seq (c_region ?_))
   refine l_q rfl (q_move _ _ rfl s9_15.ev ?_)
   refine l_q rfl (q_move _ _ rfl (s5_15.n1).ev ?_)
   refine l_q rfl (q_lenL rfl rfl Tryz.underlying80 (At.hit z15.put rfl).ev ?_)
   refine l_q rfl (q_lss true rfl ((At.hit z15 rfl).n2).ev (At.hit z15.p2 rfl).ev (decide_eq_true (by omega)) ?_)
   refine l_end (e_fresh z15.p4 ?_)
   intro a16 z16 m16
   have s0_16 := m16 _ _ (s0_15.n4)
   have s4_16 := m16 _ _ (s4_15.n4)
   have s5_16 := m16 _ _ (s5_15.n4)
   have s6_16 := m16 _ _ (s6_15.n4)
   have s7_16 := m16 _ _ (s7_15.n4)
   have s8_16 := m16 _ _ (s8_15.n4)
   have s9_16 := m16 _ _ (s9_15.n4)
   have s23_16 := m16 _ _ (At.hit z15.p3 rfl)
   clear m16
   refine e_then (c_true s23_16 ?_)
   refine wp_skip (e_then (c_seq (wp_block ?_)))
   cases hc17 : mrowR s b (mblkR s b) i with
   | true =>
    have hs17 := s7_16.same (congrArg Value.bool hc17)
    refine region_lowg hm (by kernel_rfl) ?_
    refine gs rfl (q_move _ _ rfl hs17.ev ?_)
    refine gs rfl (q_move _ _ rfl (At.hit z16 rfl).ev ?_)
    refine gsk (wanted_is (j := 1) (d := 27) (b := true) rfl rfl (At.hit z16.put rfl) rfl) ?_
    refine gsk (wanted_is (j := 1) (d := 27) (b := true) rfl rfl ((At.hit z16.put rfl).n1) rfl) ?_
    refine gsk (wanted_is (j := 1) (d := 27) (b := true) rfl rfl ((At.hit z16.put rfl).n2) rfl) ?_
    refine gsk (wanted_is (j := 1) (d := 27) (b := true) rfl rfl ((At.hit z16.put rfl).n3) rfl) ?_
    refine gsk (wanted_is (j := 1) (d := 27) (b := true) rfl rfl ((At.hit z16.put rfl).n4) rfl) ?_
    refine gsk (wanted_is (j := 1) (d := 27) (b := true) rfl rfl ((At.hit z16.put rfl).n5) rfl) ?_
    refine g_fresh z16.p8 ?_
    intro a18 z18 m18
    have s0_18 := m18 _ _ (s0_16.n8)
    have s4_18 := m18 _ _ (s4_16.n8)
    have s5_18 := m18 _ _ (s5_16.n8)
    have s6_18 := m18 _ _ (s6_16.n8)
    have s7_18 := m18 _ _ (hs17.n8)
    have s8_18 := m18 _ _ (s8_16.n8)
    have s9_18 := m18 _ _ (s9_16.n8)
    have s27_18 := m18 _ _ ((At.hit z16.put rfl).n6)
    have s28_18 := m18 _ _ ((At.hit z16.p2 rfl).n5)
    have s33_18 := m18 _ _ (At.hit z16.p7 rfl)
    clear m18
    refine gsk (wanted_is (j := 1) (d := 27) (b := true) rfl rfl s27_18 rfl) ?_
    refine gsk (wanted_is (j := 1) (d := 27) (b := true) rfl rfl (s27_18.n1) rfl) ?_
    refine gsk (wanted_is (j := 1) (d := 27) (b := true) rfl rfl (s27_18.n2) rfl) ?_
    refine gsk (wanted_is (j := 1) (d := 27) (b := true) rfl rfl (s27_18.n3) rfl) ?_
    refine gsk (wanted_is (j := 1) (d := 27) (b := true) rfl rfl (s27_18.n4) rfl) ?_
    refine gs rfl (q_pick (b := true) (.bool true) rfl (s27_18.n5).ev rfl ?_)
    refine gs rfl (q_assign _ _ rfl (At.hit z18.p5 rfl).ev ?_)
    refine gz ?_
    intro w19 h19
    have kg6_19 := h19.blk kg6_15
    have kgv_19 := h19.blk kgv_15
    refine e_id (e_fresh z18.p7 ?_)
    intro a20 z20 m20
    have s0_20 := m20 _ _ (s0_18.n7)
    have s4_20 := m20 _ _ (s4_18.n7)
    have s5_20 := m20 _ _ (s5_18.n7)
    have s6_20 := m20 _ _ (s6_18.n7)
    have s7_20 := m20 _ _ (At.hit z18.p6 rfl)
    have s8_20 := m20 _ _ (s8_18.n7)
    have s9_20 := m20 _ _ (s9_18.n7)
    have low20 := (low15.trans h19)
    clear m20
    refine e_in (e_then (c_region ?_))
    refine l_q rfl (q_move _ _ rfl s9_20.ev ?_)
    refine l_q rfl (q_add (((i + 1 : Nat) : Int)) rfl (At.hit z20 rfl).ev rfl (i64_is (by omega) (by omega) (by omega)) ?_)
    refine l_q rfl (q_assign _ _ rfl (At.hit z20.put rfl).ev ?_)
    refine l_end (e_fresh z20.p3 ?_)
    intro a21 z21 m21
    have s0_21 := m21 _ _ (s0_20.n3)
    have s4_21 := m21 _ _ (s4_20.n3)
    have s5_21 := m21 _ _ (s5_20.n3)
    have s6_21 := m21 _ _ (s6_20.n3)
    have s7_21 := m21 _ _ (s7_20.n3)
    have s8_21 := m21 _ _ (s8_20.n3)
    have s9_21 := m21 _ _ (At.hit z20.p2 rfl)
    clear m21
    exact ⟨z21, s0_21, s4_21, s5_21, s6_21, (s7_21.same (congrArg Value.bool (mrowR_yes hc17))), s8_21, s9_21, kg6_19, kgv_19, low20⟩
   | false =>
    have hs17 := s7_16.same (congrArg Value.bool hc17)
    refine region_lowg hm (by kernel_rfl) ?_
    refine gs rfl (q_move _ _ rfl hs17.ev ?_)
    refine gs rfl (q_move _ _ rfl (At.hit z16 rfl).ev ?_)
    refine gsg (wanted_is (j := 1) (d := 27) (b := false) rfl rfl (At.hit z16.put rfl) rfl) (q_row rfl Tryz.underlying68 rfl (sz68.trans (congrArg some ((nums_size _ _).trans (cl_len (chR s b))).symm)) (s6_16.n2).ev (fun _ h => h.blk kg6_15) ?_)
    refine gsg (wanted_is (j := 1) (d := 27) (b := false) rfl rfl ((At.hit z16.put rfl).n1) rfl) (q_move _ _ rfl (s4_16.n3).ev ?_)
    refine gsg (wanted_is (j := 1) (d := 27) (b := false) rfl rfl ((At.hit z16.put rfl).n2) rfl) (q_move _ _ rfl (s8_16.n4).ev ?_)
    refine gsg (wanted_is (j := 1) (d := 27) (b := false) rfl rfl ((At.hit z16.put rfl).n3) rfl) (q_move _ _ rfl (s8_16.n5).ev ?_)
    refine gsg (wanted_is (j := 1) (d := 27) (b := false) rfl rfl ((At.hit z16.put rfl).n4) rfl) (q_add (((64 * b + 64 : Nat) : Int)) rfl (At.hit z16.p5 rfl).ev rfl (i64_is (by omega) (by omega) (by omega)) ?_)
    refine gsg (wanted_is (j := 1) (d := 27) (b := false) rfl rfl ((At.hit z16.put rfl).n5) rfl) (q_cut (j := 64 * b) (k := 64 * b + 64) rfl Tryz.underlying9 ((At.hit z16.p3 rfl).n3).ev ((At.hit z16.p4 rfl).n2).ev (At.hit z16.p6 rfl).ev (by omega) (by omega) ?_)
    refine g_fresh z16.p8 ?_
    intro a22 z22 m22
    have s0_22 := m22 _ _ (s0_16.n8)
    have s4_22 := m22 _ _ (s4_16.n8)
    have s5_22 := m22 _ _ (s5_16.n8)
    have s6_22 := m22 _ _ (s6_16.n8)
    have s7_22 := m22 _ _ (hs17.n8)
    have s8_22 := m22 _ _ (s8_16.n8)
    have s9_22 := m22 _ _ (s9_16.n8)
    have s27_22 := m22 _ _ ((At.hit z16.put rfl).n6)
    have s28_22 := m22 _ _ ((At.hit z16.p2 rfl).n5)
    have s33_22 := m22 _ _ (At.hit z16.p7 rfl)
    clear m22
    refine gsg (wanted_is (j := 1) (d := 27) (b := false) rfl rfl s27_22 rfl) (q_move _ _ rfl s5_22.ev ?_)
    refine gsg (wanted_is (j := 1) (d := 27) (b := false) rfl rfl (s27_22.n1) rfl) (q_move _ _ rfl (s9_22.n1).ev ?_)
    refine gsg (wanted_is (j := 1) (d := 27) (b := false) rfl rfl (s27_22.n2) rfl) (q_idxSz (j := i) (sz := 3) rfl Tryz.underlying80 sz84 ((At.hit z22 rfl).n1).ev (At.hit z22.put rfl).ev (by omega) ?_)
    refine gsg (wanted_is (j := 1) (d := 27) (b := false) rfl rfl (s27_22.n3) rfl) (q_mid (vs := #[.int .i64 (vT i), .int .i64 (vK i), .int .i64 (vB i)]) rfl Tryz.underlying84 rfl sz84 (At.hit z22.p2 rfl).ev (fun _ h => h.blk kgv_15) (hcv.2 i (by omega)) ?_)
    refine gsg (wanted_is (j := 1) (d := 27) (b := false) rfl rfl (s27_22.n4) rfl) (q_call (.bool (markedR (chR s b) (bR s b) (vT i) (vK i) (vB i))) rfl rfl Tryz.func54 rfl (args3 rfl (s28_22.n4).ev (s33_22.n4).ev (At.hit z22.p3 rfl).ev) (fun _ h => (MarkedR.calls (chR s b) (bR s b) (Nat.le_trans (bR_size s b) (by decide)) (vT i) (vK i) (vB i) (okV_v i (by omega)) _).mono fun _ _ ⟨e, k⟩ => ⟨e, h.trans k⟩) ?_)
    refine gs rfl (q_pick (b := false) (.bool (markedR (chR s b) (bR s b) (vT i) (vK i) (vB i))) rfl (s27_22.n5).ev (At.hit z22.p4 rfl).ev ?_)
    refine gs rfl (q_assign _ _ rfl (At.hit z22.p5 rfl).ev ?_)
    refine gz ?_
    intro w23 h23
    have kg6_23 := h23.blk kg6_15
    have kgv_23 := h23.blk kgv_15
    refine e_id (e_fresh z22.p7 ?_)
    intro a24 z24 m24
    have s0_24 := m24 _ _ (s0_22.n7)
    have s4_24 := m24 _ _ (s4_22.n7)
    have s5_24 := m24 _ _ (s5_22.n7)
    have s6_24 := m24 _ _ (s6_22.n7)
    have s7_24 := m24 _ _ (At.hit z22.p6 rfl)
    have s8_24 := m24 _ _ (s8_22.n7)
    have s9_24 := m24 _ _ (s9_22.n7)
    have low24 := (low15.trans h23)
    clear m24
    refine e_in (e_then (c_region ?_))
    refine l_q rfl (q_move _ _ rfl s9_24.ev ?_)
    refine l_q rfl (q_add (((i + 1 : Nat) : Int)) rfl (At.hit z24 rfl).ev rfl (i64_is (by omega) (by omega) (by omega)) ?_)
    refine l_q rfl (q_assign _ _ rfl (At.hit z24.put rfl).ev ?_)
    refine l_end (e_fresh z24.p3 ?_)
    intro a25 z25 m25
    have s0_25 := m25 _ _ (s0_24.n3)
    have s4_25 := m25 _ _ (s4_24.n3)
    have s5_25 := m25 _ _ (s5_24.n3)
    have s6_25 := m25 _ _ (s6_24.n3)
    have s7_25 := m25 _ _ (s7_24.n3)
    have s8_25 := m25 _ _ (s8_24.n3)
    have s9_25 := m25 _ _ (At.hit z24.p2 rfl)
    clear m25
    exact ⟨z25, s0_25, s4_25, s5_25, s6_25, (s7_25.same (congrArg Value.bool (mrowR_no hc17))), s8_25, s9_25, kg6_23, kgv_23, low24⟩
  ·
   intro a26 w26 h
   obtain ⟨z26, s0_26, s4_26, s5_26, s6_26, s7_26, s8_26, s9_26, kg6_26, kgv_26, low26⟩ := h
   clear kg6_12 kgv_12 low12 s0_14 s4_14 s5_14 s6_14 s7_14 s8_14 s9_14 z14
   refine c_seq (c_seq (c_region ?_))
   refine l_q rfl (q_move _ _ rfl s9_26.ev ?_)
   refine l_q rfl (q_move _ _ rfl (s5_26.n1).ev ?_)
   refine l_q rfl (q_lenL rfl rfl Tryz.underlying80 (At.hit z26.put rfl).ev ?_)
   refine l_q rfl (q_lss false rfl ((At.hit z26 rfl).n2).ev (At.hit z26.p2 rfl).ev (decide_eq_false (by omega)) ?_)
   refine l_end (e_fresh z26.p4 ?_)
   intro a27 z27 m27
   have s0_27 := m27 _ _ (s0_26.n4)
   have s4_27 := m27 _ _ (s4_26.n4)
   have s5_27 := m27 _ _ (s5_26.n4)
   have s6_27 := m27 _ _ (s6_26.n4)
   have s7_27 := m27 _ _ (s7_26.n4)
   have s8_27 := m27 _ _ (s8_26.n4)
   have s9_27 := m27 _ _ (s9_26.n4)
   have s23_27 := m27 _ _ (At.hit z26.p3 rfl)
   clear m27
   refine e_then (c_false s23_27 ?_)
   refine wp_exit (x_then (x_then (in_exit (e_then (region_low_tail 7 hm (by kernel_rfl) ?_)))))
   simp only [List.take_succ_cons, List.take_zero, List.drop_succ_cons, List.drop_zero]
   refine qs (q_row rfl Tryz.underlying68 rfl (sz68.trans (congrArg some ((nums_size _ _).trans (cl_len (chR s b))).symm)) s6_27.ev (fun _ h => h.blk kg6_26) ?_)
   refine qs (q_move _ _ rfl (s4_27.n1).ev ?_)
   refine qs (q_move _ _ rfl (s8_27.n2).ev ?_)
   refine qs (q_move _ _ rfl (s8_27.n3).ev ?_)
   refine qs (q_add (((64 * b + 64 : Nat) : Int)) rfl (At.hit z27.p3 rfl).ev rfl (i64_is (by omega) (by omega) (by omega)) ?_)
   refine qs (q_cut (j := 64 * b) (k := 64 * b + 64) rfl Tryz.underlying9 ((At.hit z27.put rfl).n3).ev ((At.hit z27.p2 rfl).n2).ev (At.hit z27.p4 rfl).ev (by omega) (by omega) ?_)
   refine qs (q_call (.agg (nums .u32 (cl (prR (chR s b) (bR s b))))) rfl rfl Tryz.func55 rfl (args2 rfl ((At.hit z27 rfl).n5).ev (At.hit z27.p5 rfl).ev) (fun _ h => (PrR.calls (chR s b) (bR s b) (Nat.le_trans (bR_size s b) (by decide)) _).mono fun _ _ ⟨e, k⟩ => ⟨e, h.trans k⟩) ?_)
   refine qz ?_
   intro w28 h28
   have kg6_28 := h28.blk kg6_26
   have kgv_28 := h28.blk kgv_26
   refine l_row rfl rfl rfl (sz68.trans (congrArg some ((nums_size _ _).trans (cl_len (prR (chR s b) (bR s b)))).symm)) (s6_27.n7).ev (At.hit z27.p6 rfl).ev (nums_one _ _) kg6_28 (((nums_size _ _).trans (cl_len (chR s b))).trans ((nums_size _ _).trans (cl_len (prR (chR s b) (bR s b)))).symm) ?_
   intro w29 k29 u29
   have kgv_29 := u29.blk kgv_28 (by omega)
   refine l_end (e_fresh z27.p7 ?_)
   intro a30 z30 m30
   have s0_30 := m30 _ _ (s0_27.n7)
   have s4_30 := m30 _ _ (s4_27.n7)
   have s5_30 := m30 _ _ (s5_27.n7)
   have s6_30 := m30 _ _ (s6_27.n7)
   have s7_30 := m30 _ _ (s7_27.n7)
   have s8_30 := m30 _ _ (s8_27.n7)
   have low30 := ((low26.trans h28).upd u29 geg6)
   clear m30
   refine e_in (e_then (c_region ?_))
   refine l_q rfl (q_move _ _ rfl s8_30.ev ?_)
   refine l_q rfl (q_add (((64 * b + 64 : Nat) : Int)) rfl (At.hit z30 rfl).ev rfl (i64_is (by omega) (by omega) (by omega)) ?_)
   refine l_q rfl (q_assign _ _ rfl (At.hit z30.put rfl).ev ?_)
   refine l_end (e_fresh z30.p3 ?_)
   intro a31 z31 m31
   have s0_31 := m31 _ _ (s0_30.n3)
   have s4_31 := m31 _ _ (s4_30.n3)
   have s5_31 := m31 _ _ (s5_30.n3)
   have s6_31 := m31 _ _ (s6_30.n3)
   have s7_31 := m31 _ _ (s7_30.n3)
   have s8_31 := m31 _ _ (At.hit z30.p2 rfl)
   clear m31
   exact ⟨z31, s0_31, s4_31, s5_31, s6_31, s7_31, (s8_31.same (congrArg (Value.int .i64) (by omega))), k29, kgv_29, low30⟩
 ·
  intro a32 w32 h
  obtain ⟨z32, s0_32, s4_32, s5_32, s6_32, s7_32, s8_32, kg6_32, kgv_32, low32⟩ := h
  clear k8 kgv_8 low9 s0_11 s4_11 s5_11 s6_11 s7_11 s8_11 z11
  have hfm := fillR_mod s
  have hfs := fillR_size s
  have hpl := padN_le s
  refine c_seq (c_seq (c_region ?_))
  refine l_q rfl (q_move _ _ rfl s8_32.ev ?_)
  refine l_q rfl (q_move _ _ rfl (s4_32.n1).ev ?_)
  refine l_q rfl (q_len rfl rfl Tryz.underlying9 (At.hit z32.put rfl).ev ?_)
  refine l_q rfl (q_lss false rfl ((At.hit z32 rfl).n2).ev (At.hit z32.p2 rfl).ev (decide_eq_false (by omega)) ?_)
  refine l_end (e_fresh z32.p4 ?_)
  intro a33 z33 m33
  have s0_33 := m33 _ _ (s0_32.n4)
  have s4_33 := m33 _ _ (s4_32.n4)
  have s5_33 := m33 _ _ (s5_32.n4)
  have s6_33 := m33 _ _ (s6_32.n4)
  have s7_33 := m33 _ _ (s7_32.n4)
  have s8_33 := m33 _ _ (s8_32.n4)
  have s17_33 := m33 _ _ (At.hit z32.p3 rfl)
  clear m33
  refine e_then (c_false s17_33 ?_)
  refine wp_exit (x_then (x_then (in_exit (e_then (c_seq (c_region ?_))))))
  refine l_q rfl (q_move _ _ rfl s0_33.ev ?_)
  refine l_call (fun v w' => v = .string (sumR s) ∧ Low w32 w') rfl rfl rfl Tryz.func56 rfl (args1 rfl (At.hit z33 rfl).ev) ((SumR.calls s hs _).mono fun _ _ ⟨e, k⟩ => ⟨_, e, rfl, k⟩) ?_
  rintro _ w34 ⟨rfl, h34⟩
  have kg6_34 := h34.blk kg6_32
  have kgv_34 := h34.blk kgv_32
  refine l_q rfl (q_move _ _ rfl (s7_33.n2).ev ?_)
  refine l_q rfl (q_assign _ _ rfl ((At.hit z33.put rfl).n1).ev ?_)
  refine l_q rfl (q_assign _ _ rfl ((At.hit z33.p2 rfl).n1).ev ?_)
  refine l_end (e_fresh z33.p5 ?_)
  intro a35 z35 m35
  have s2_35 := m35 _ _ ((At.hit z33.p3 rfl).n1)
  have s3_35 := m35 _ _ (At.hit z33.p4 rfl)
  have low35 := (low32.trans h34)
  clear m35
  refine e_then (wp_ret (r_two rfl z35.defers s2_35 s3_35 ?_))
  exact ⟨rfl, low35⟩
end Go.Proofs.YtfjhnnpdaggnbaaGreatDoor.Q
end
/-! P0 -/
section
namespace Go.Proofs.YtfjhnnpdaggnbaaGreatDoor.Q
open Go.RowKit Go.Proofs.YtfjhnnpdaggnbaaGreatDoor.P Go.Proofs.YtfjhnnpdaggnbaaGreatDoorW.PrintWords Go.Proofs.YtfjhnnpdaggnbaaGreatDoorW.PrintMore
theorem rot1 (x : Int) : rotl x 1 = rotr x 1 := by unfold rotl rotr; rw [show Go.bits .and .u64 (IntKind.u64.wrap 1) 31 = 1 from by decide]
theorem rot2 (x : Int) : rotl x 2 = rotr x 2 := by unfold rotl rotr; rw [show Go.bits .and .u64 (IntKind.u64.wrap 2) 31 = 2 from by decide]
theorem rot5 (x : Int) : rotl x 5 = rotr x 5 := by unfold rotl rotr; rw [show Go.bits .and .u64 (IntKind.u64.wrap 5) 31 = 5 from by decide]
theorem rot30 (x : Int) : rotl x 30 = rotr x 30 := by unfold rotl rotr; rw [show Go.bits .and .u64 (IntKind.u64.wrap 30) 31 = 30 from by decide]
theorem rot31 (x : Int) : rotl x 31 = rotr x 31 := by unfold rotl rotr; rw [show Go.bits .and .u64 (IntKind.u64.wrap 31) 31 = 31 from by decide]
theorem mix_eq (t b c d : Int) (h0 : 0 ≤ t) (h1 : t < 80) : mixL t b c d = mixR t b c d := by
  unfold mixL mixR sha1_mixed.f diptychref02_Mix.f
  have hm : mx 0 (mn t 79) = t := by unfold mx mn; repeat' split <;> omega
  rw [hm]
  by_cases a : t < 20
  · rw [if_pos a, if_pos (by omega)]
  · rw [if_neg a, if_neg (by omega)]
    by_cases a2 : t < 40
    · rw [if_pos a2, if_pos (by omega)]
    · rw [if_neg a2, if_neg (by omega)]
      by_cases a3 : t < 60
      · rw [if_pos a3, if_pos (by omega)]
      · rw [if_neg a3, if_neg (by omega)]
theorem step_eq (x : Ch) (t w : Int) (h0 : 0 ≤ t) (h1 : t < 80) : stepL x t w = stepR x t w := by
  unfold stepL stepR
  rw [rot5, rot30, mix_eq t _ _ _ h0 h1]
  congr 1
  simp only [IntKind.wrap_u32]
  omega
theorem back_eq (x : Ch) (t w : Int) (h0 : 0 ≤ t) (h1 : t < 80) : backL x t w = backR x t w := by
  unfold backL backR stepR
  rw [rot2, rot5, mix_eq t _ _ _ h0 h1]
  congr 5
  simp only [IntKind.wrap_u32]
  omega
theorem stepsLR (l : List Int) (x : Ch) : ∀ k, k ≤ 80 → stepsL l x k = stepsR l x k
  | 0, _ => rfl
  | k + 1, h => by rw [stepsL, stepsR, stepsLR l x k (by omega), step_eq _ _ _ (by omega) (by omega)]
theorem stepsX_eq (l m : List Int) (x : Ch) (t0 : Nat) : ∀ k, t0 + k ≤ 80 → stepsX l m x stepL t0 k = stepsX l m x stepR t0 k
  | 0, _ => rfl
  | k + 1, h => by rw [stepsX, stepsX, stepsX_eq l m x t0 k (by omega), step_eq _ _ _ (by omega) (by omega)]
theorem backX_eq (l m : List Int) (x : Ch) : ∀ k, k ≤ 58 → backX l m x backL k = backX l m x backR k
  | 0, _ => rfl
  | k + 1, h => by rw [backX, backX, backX_eq l m x k (by omega), back_eq _ _ _ (by omega) (by omega)]
theorem stepsO_eq (l : List Int) (x : Ch) (t0 : Nat) : ∀ k, stepsO l (stepsL l x t0) t0 k = stepsL l x (t0 + k)
  | 0 => rfl
  | k + 1 => by rw [stepsO, stepsO_eq l x t0 k, show t0 + (k + 1) = (t0 + k) + 1 from rfl, stepsL, Nat.add_comm k t0]
end Go.Proofs.YtfjhnnpdaggnbaaGreatDoor.Q
end
/-! P1 -/
section
namespace Go.Proofs.YtfjhnnpdaggnbaaGreatDoor.Q
open Go.RowKit Go.Proofs.YtfjhnnpdaggnbaaGreatDoor.P Go.Proofs.YtfjhnnpdaggnbaaGreatDoorW.PrintWords Go.Proofs.YtfjhnnpdaggnbaaGreatDoorW.PrintMore
def bv (x : Int) : BitVec 32 := BitVec.ofInt 32 x
def InR (x : Int) : Prop := 0 ≤ x ∧ x < 4294967296
theorem wrap_bv (b : BitVec 32) : IntKind.u32.wrap (b.toNat : Int) = (b.toNat : Int) := by
  rw [IntKind.wrap_u32]
  have := b.isLt
  omega
theorem bits_xor (x y : Int) : Go.bits .xor .u32 x y = ((bv x ^^^ bv y).toNat : Int) := wrap_bv _
theorem bits_or (x y : Int) : Go.bits .or .u32 x y = ((bv x ||| bv y).toNat : Int) := wrap_bv _
theorem bv_toNat (b : BitVec 32) : bv (b.toNat : Int) = b := by
  unfold bv
  rw [BitVec.ofInt_natCast]
  simp
theorem inR_bv (b : BitVec 32) : InR (b.toNat : Int) := ⟨by omega, by have := b.isLt; omega⟩
theorem inR_xor (x y : Int) : InR (Go.bits .xor .u32 x y) := by rw [bits_xor]; exact inR_bv _
theorem inR_or (x y : Int) : InR (Go.bits .or .u32 x y) := by rw [bits_or]; exact inR_bv _
theorem inR_wrap (x : Int) : InR (IntKind.u32.wrap x) := by rw [IntKind.wrap_u32]; unfold InR; omega
theorem inR_zero : InR 0 := ⟨Int.le_refl _, by decide⟩
theorem bv_of (x : Int) (h : InR x) : ((bv x).toNat : Int) = x := by
  obtain ⟨h0, h1⟩ := h
  obtain ⟨n, rfl⟩ := Int.eq_ofNat_of_zero_le h0
  unfold bv
  rw [BitVec.ofInt_natCast, BitVec.toNat_ofNat]
  omega
/-- a word of 32 bits turned to the left by 30 -/
def rt30 (b : BitVec 32) : BitVec 32 := b <<< 30 ||| b >>> 2
theorem rt30_xor (a b : BitVec 32) : rt30 (a ^^^ b) = rt30 a ^^^ rt30 b := by
  apply BitVec.eq_of_getLsbD_eq
  intro i hi
  unfold rt30
  simp only [BitVec.getLsbD_or, BitVec.getLsbD_xor, BitVec.getLsbD_shiftLeft, BitVec.getLsbD_ushiftRight]
  by_cases h : i < 30
  · simp [h]
  · have h1 : a.getLsbD (2 + i) = false := BitVec.getLsbD_of_ge _ _ (by omega)
    have h2 : b.getLsbD (2 + i) = false := BitVec.getLsbD_of_ge _ _ (by omega)
    simp [h, hi, h1, h2]
theorem shl30_bv (b : BitVec 32) : bv (Proofs.YtfjhnnpdaggnbaaGreatDoorW.PrintWords.shl .u32 (b.toNat : Int) 30) = b <<< 30 := by
  apply BitVec.eq_of_toNat_eq
  unfold Proofs.YtfjhnnpdaggnbaaGreatDoorW.PrintWords.shl
  rw [show min (30 : Int).toNat IntKind.u32.bits = 30 from rfl, IntKind.wrap_u32]
  have h : ((b.toNat : Int) * 2 ^ 30) % 4294967296 = ((b.toNat * 2 ^ 30 % 4294967296 : Nat) : Int) := by omega
  rw [h]
  unfold bv
  rw [BitVec.ofInt_natCast, BitVec.toNat_ofNat, BitVec.toNat_shiftLeft, Nat.shiftLeft_eq]
  omega
theorem shr2_bv (b : BitVec 32) : bv (shr .u32 (b.toNat : Int) (IntKind.u64.wrap (32 - 30))) = b >>> 2 := by
  apply BitVec.eq_of_toNat_eq
  unfold shr
  rw [show min (IntKind.u64.wrap (32 - 30)).toNat IntKind.u32.bits = 2 from by decide]
  have h : (b.toNat : Int) / 2 ^ 2 = ((b.toNat / 4 : Nat) : Int) := by omega
  rw [h]
  unfold bv
  rw [BitVec.ofInt_natCast, BitVec.toNat_ofNat, BitVec.toNat_ushiftRight, Nat.shiftRight_eq_div_pow]
  have := b.isLt
  omega
theorem rotr30_bv (b : BitVec 32) : rotr (b.toNat : Int) 30 = ((rt30 b).toNat : Int) := by
  unfold rotr
  rw [bits_or, shl30_bv, shr2_bv]
  rfl
theorem rotr30 (x : Int) (h : InR x) : rotr x 30 = ((rt30 (bv x)).toNat : Int) := by
  rw [← rotr30_bv, bv_of x h]
def AllR (l : List Int) : Prop := ∀ i, InR (l.getD i 0)
theorem AllR.set {l : List Int} (h : AllR l) (i : Nat) {v : Int} (hv : InR v) : AllR (l.set i v) := fun j => by
  rw [List.getD_eq_getElem?_getD, List.getElem?_set]
  split
  · split
    · exact hv
    · exact inR_zero
  · rw [← List.getD_eq_getElem?_getD]; exact h j
theorem allR_zero (n : Nat) : AllR (List.replicate n 0) := fun j => by
  rw [List.getD_eq_getElem?_getD, List.getElem?_replicate]
  split <;> exact inR_zero
theorem begin_eq (two : Bool) (K B : Nat) (hK : K ≤ 64) (hB : B ≤ 31) : beginL two K B = beginR two K B := by
  have h1 : IntKind.u32.wrap (1 * 2 ^ min ((B : Nat) : Int).toNat 32) = IntKind.u32.wrap (1 * 2 ^ min (IntKind.u64.wrap ((B : Nat) : Int)).toNat 32) := by
    rw [IntKind.wrap_u64]
    congr 4
    omega
  have h2 : rotl 1 ((B + 31 : Nat) : Int) = IntKind.u32.wrap (1 * 2 ^ min (IntKind.u64.wrap (((B + 31) % 32 : Nat) : Int)).toNat 32) := by
    have : ∀ b, b < 32 → rotl 1 ((b + 31 : Nat) : Int) = IntKind.u32.wrap (1 * 2 ^ min (IntKind.u64.wrap (((b + 31) % 32 : Nat) : Int)).toNat 32) := by decide +kernel
    exact this B (by omega)
  unfold beginL beginR
  rw [h1, h2]
  cases two
  · rfl
  · simp only [if_true]
    congr 1
    rw [List.getD_eq_getElem?_getD, List.getElem?_set_self (by simp; omega)]
    rfl
theorem dn_eq (l : List Int) (K : Nat) : ∀ k, dnL l K k = dnR l K k
  | 0 => rfl
  | k + 1 => by rw [dnL, dnR, dn_eq l K k, rot31]
theorem row_eq (two : Bool) (K B : Nat) (hK : K ≤ 64) (hB : B ≤ 31) : rowL two K B = rowR two K B := by
  unfold rowL rowR
  rw [begin_eq two K B hK hB, dn_eq, funext rot1]
theorem up_R {l : List Int} (K : Nat) (rt : Int → Int) (h : AllR l) (hr : ∀ x, InR (rt x)) : ∀ k, AllR (up l K rt k)
  | 0 => h
  | k + 1 => (up_R K rt h hr k).set _ (hr _)
theorem dnL_R {l : List Int} (K : Nat) (h : AllR l) : ∀ k, AllR (dnL l K k)
  | 0 => h
  | k + 1 => (dnL_R K h k).set _ (inR_xor _ _)
theorem rowL_R (two : Bool) (K B : Nat) : AllR (rowL two K B) := by
  refine dnL_R K (up_R K _ ?_ (fun x => inR_or _ _) _) _
  unfold beginL
  cases two
  · exact (allR_zero 85).set _ (inR_wrap _)
  · have h1 := (allR_zero 85).set (K + 20) (inR_wrap (1 * 2 ^ min ((B : Nat) : Int).toNat 32))
    have h2 := h1.set (K + 6) (inR_or (Proofs.YtfjhnnpdaggnbaaGreatDoorW.PrintWords.shl .u32 1 (Go.bits .and .u64 (IntKind.u64.wrap ((B + 31 : Nat) : Int)) 31)) (shr .u32 1 (IntKind.u64.wrap (32 - (Go.bits .and .u64 (IntKind.u64.wrap ((B + 31 : Nat) : Int)) 31)))))
    exact h2.set (K + 8) (h2 _)
theorem diff_eq (d : List Int) (h : AllR d) : ∀ t, diffL d t = diffR d t
  | 0 => rfl
  | t + 1 => by
    rw [diffL, diffR, diff_eq d h t]
    congr 1
    rw [rot5, rot30, rotr30 _ (inR_xor _ _), rotr30 _ (h (t + 2)), rotr30 _ (h (t + 1)), rotr30 _ (h t)]
    simp only [bits_xor, bv_toNat, rt30_xor]
    congr 1
    simp only [BitVec.xor_assoc]
theorem difference_eq (ty K B : Int) : differenceL ty K B = differenceR ty K B := by
  unfold differenceL differenceR
  by_cases ho : okV ty K B = true
  · rw [if_pos ho, if_pos ho]
    unfold okV at ho
    simp only [decide_eq_true_eq] at ho
    rw [← row_eq _ _ _ (by omega) (by omega), diff_eq _ (rowL_R _ _ _)]
  · rw [if_neg ho, if_neg ho]
end Go.Proofs.YtfjhnnpdaggnbaaGreatDoor.Q
end
/-! P2 -/
section
namespace Go.Proofs.YtfjhnnpdaggnbaaGreatDoor.Q
open Go.RowKit Go.Proofs.YtfjhnnpdaggnbaaGreatDoor.P Go.Proofs.YtfjhnnpdaggnbaaGreatDoorW.PrintWords Go.Proofs.YtfjhnnpdaggnbaaGreatDoorW.PrintMore
def vR (s : ByteArray) (t : Nat) : Nat → Nat
  | 0 => 0
  | m + 1 => (vR s t m * 256 + bt s (4 * t + m)) % 4294967296
theorem exR1_get (s : ByteArray) (t : Nat) (l : List Int) (hl : l.length = 80) (ht : t < 80) (h0 : l.getD t 0 = 0) : ∀ m j, (exR1 s t l m).getD j 0 = if j = t then ((vR s t m : Nat) : Int) else l.getD j 0
  | 0, j => by
    show l.getD j 0 = _
    split
    · rename_i h; rw [h, h0]; rfl
    · rfl
  | m + 1, j => by
    have ih := exR1_get s t l hl ht h0 m
    have ht' : t < (exR1 s t l m).length := by rw [exR1_len s t l hl]; exact ht
    have e1 : ((exR1 s t l m).set t (IntKind.u32.wrap ((exR1 s t l m).getD t 0 * 256))).getD t 0 = ((vR s t m * 256 % 4294967296 : Nat) : Int) := by
      rw [getD_set _ _ _ _ ht', if_pos rfl, ih t, if_pos rfl, IntKind.wrap_u32]
      omega
    by_cases hb : 4 * t + m < s.size
    · rw [exR1_yes s t m l hb, getD_set _ _ _ _ (by rw [List.length_set]; exact ht')]
      split
      · rw [e1, IntKind.wrap_u32, IntKind.wrap_u32, bt_in hb, vR]
        have := bt_lt s (4 * t + m)
        omega
      · rename_i hj
        rw [getD_set _ _ _ _ ht', if_neg hj, ih j, if_neg hj]
    · rw [exR1_no s t m l hb, getD_set _ _ _ _ ht']
      split
      · rw [ih t, if_pos rfl, IntKind.wrap_u32, vR, bt_out (by omega)]
        omega
      · rename_i hj
        rw [ih j, if_neg hj]
theorem exR_get (s : ByteArray) : ∀ k, k ≤ 80 → ∀ j, (exR s k).getD j 0 = if j < k then ((vR s j 4 : Nat) : Int) else 0
  | 0, _, j => by
    show (List.replicate 80 (0 : Int)).getD j 0 = _
    rw [List.getD_eq_getElem?_getD, List.getElem?_replicate]
    split <;> simp
  | k + 1, hk, j => by
    have ih := exR_get s k (by omega)
    rw [exR, exR1_get s k _ (exR_len s k) (by omega) (by rw [ih k, if_neg (by omega)]) 4 j]
    by_cases h1 : j = k
    · subst h1; rw [if_pos rfl, if_pos (by omega)]
    · rw [if_neg h1, ih j]
      by_cases h2 : j < k
      · rw [if_pos h2, if_pos (by omega)]
      · rw [if_neg h2, if_neg (by omega)]
def wd (s : ByteArray) (t : Nat) : Nat := bt s (4 * t) * 16777216 + bt s (4 * t + 1) * 65536 + bt s (4 * t + 2) * 256 + bt s (4 * t + 3)
theorem vR_wd (s : ByteArray) (t : Nat) : vR s t 4 = wd s t := by
  have h0 := bt_lt s (4 * t)
  have h1 := bt_lt s (4 * t + 1)
  have h2 := bt_lt s (4 * t + 2)
  have h3 := bt_lt s (4 * t + 3)
  simp only [vR, wd, Nat.add_zero]
  omega
def pL (s : ByteArray) (k t : Nat) : Nat := (if 4 * t < k then bt s (4 * t) else 0) * 16777216 + (if 4 * t + 1 < k then bt s (4 * t + 1) else 0) * 65536 + (if 4 * t + 2 < k then bt s (4 * t + 2) else 0) * 256 + (if 4 * t + 3 < k then bt s (4 * t + 3) else 0)
theorem bits_or_nat (x y : Nat) (hx : x < 4294967296) (hy : y < 4294967296) : Go.bits .or .u32 (x : Int) (y : Int) = ((x ||| y : Nat) : Int) := by
  rw [bits_or]
  unfold bv
  rw [BitVec.ofInt_natCast, BitVec.ofInt_natCast, BitVec.toNat_or, BitVec.toNat_ofNat, BitVec.toNat_ofNat, Nat.mod_eq_of_lt hx, Nat.mod_eq_of_lt hy]
theorem or_add (a b e : Nat) (hb : b < 2 ^ e) (h : 2 ^ e * a + b < 4294967296) : Go.bits .or .u32 ((2 ^ e * a : Nat) : Int) (b : Int) = ((2 ^ e * a + b : Nat) : Int) := by
  rw [bits_or_nat _ _ (by omega) (by omega), Nat.two_pow_add_eq_or_of_lt hb]
theorem shifted (b m : Nat) (hb : b < 256) (hm : m < 4) : IntKind.u32.wrap (IntKind.u32.wrap (b : Int) * 2 ^ min (24 - 8 * ((m : Nat) : Int)).toNat 32) = ((b * 2 ^ (24 - 8 * m) : Nat) : Int) := by
  rw [IntKind.wrap_u32, IntKind.wrap_u32]
  have h : m = 0 ∨ m = 1 ∨ m = 2 ∨ m = 3 := by omega
  rcases h with rfl | rfl | rfl | rfl
  · rw [show min (24 - 8 * ((0 : Nat) : Int)).toNat 32 = 24 from by decide]; simp only [Nat.mul_zero, Nat.sub_zero]; omega
  · rw [show min (24 - 8 * ((1 : Nat) : Int)).toNat 32 = 16 from by decide]; simp only [Nat.mul_one, Nat.reduceSub]; omega
  · rw [show min (24 - 8 * ((2 : Nat) : Int)).toNat 32 = 8 from by decide]; simp only [Nat.reduceMul, Nat.reduceSub]; omega
  · rw [show min (24 - 8 * ((3 : Nat) : Int)).toNat 32 = 0 from by decide]; simp only [Nat.reduceMul, Nat.reduceSub]; omega
theorem pL_other (s : ByteArray) (k j : Nat) (h : j ≠ k / 4) : pL s (k + 1) j = pL s k j := by
  unfold pL
  have e : ∀ m, m < 4 → ((4 * j + m < k + 1) ↔ (4 * j + m < k)) := fun m hm => by omega
  have e0 := e 0 (by omega)
  simp only [Nat.add_zero] at e0
  simp only [e0, e 1 (by omega), e 2 (by omega), e 3 (by omega)]
theorem pL_at (s : ByteArray) (k : Nat) : Go.bits .or .u32 ((pL s k (k / 4) : Nat) : Int) ((bt s k * 2 ^ (24 - 8 * (k % 4)) : Nat) : Int) = ((pL s (k + 1) (k / 4) : Nat) : Int) := by
  generalize hq : k / 4 = q
  have hm : k % 4 = 0 ∨ k % 4 = 1 ∨ k % 4 = 2 ∨ k % 4 = 3 := by omega
  have h0 := bt_lt s (4 * q)
  have h1 := bt_lt s (4 * q + 1)
  have h2 := bt_lt s (4 * q + 2)
  have h3 := bt_lt s (4 * q + 3)
  rcases hm with hm | hm | hm | hm
  · obtain rfl : k = 4 * q := by omega
    rw [hm]
    unfold pL
    rw [if_neg (by omega), if_neg (by omega), if_neg (by omega), if_neg (by omega), if_pos (by omega), if_neg (by omega), if_neg (by omega), if_neg (by omega)]
    have := or_add 0 (bt s (4 * q) * 16777216) 32 (by omega) (by omega)
    simpa using this
  · obtain rfl : k = 4 * q + 1 := by omega
    rw [hm]
    unfold pL
    rw [if_pos (by omega), if_neg (by omega), if_neg (by omega), if_neg (by omega), if_pos (by omega), if_pos (by omega), if_neg (by omega), if_neg (by omega)]
    have := or_add (bt s (4 * q)) (bt s (4 * q + 1) * 65536) 24 (by omega) (by omega)
    rw [show 2 ^ 24 * bt s (4 * q) = bt s (4 * q) * 16777216 from by omega] at this
    simpa using this
  · obtain rfl : k = 4 * q + 2 := by omega
    rw [hm]
    unfold pL
    rw [if_pos (by omega), if_pos (by omega), if_neg (by omega), if_neg (by omega), if_pos (by omega), if_pos (by omega), if_pos (by omega), if_neg (by omega)]
    have := or_add (bt s (4 * q) * 256 + bt s (4 * q + 1)) (bt s (4 * q + 2) * 256) 16 (by omega) (by omega)
    rw [show 2 ^ 16 * (bt s (4 * q) * 256 + bt s (4 * q + 1)) = bt s (4 * q) * 16777216 + bt s (4 * q + 1) * 65536 from by omega] at this
    simpa using this
  · obtain rfl : k = 4 * q + 3 := by omega
    rw [hm]
    unfold pL
    rw [if_pos (by omega), if_pos (by omega), if_pos (by omega), if_neg (by omega), if_pos (by omega), if_pos (by omega), if_pos (by omega), if_pos (by omega)]
    have := or_add (bt s (4 * q) * 65536 + bt s (4 * q + 1) * 256 + bt s (4 * q + 2)) (bt s (4 * q + 3)) 8 (by omega) (by omega)
    rw [show 2 ^ 8 * (bt s (4 * q) * 65536 + bt s (4 * q + 1) * 256 + bt s (4 * q + 2)) = bt s (4 * q) * 16777216 + bt s (4 * q + 1) * 65536 + bt s (4 * q + 2) * 256 from by omega] at this
    simpa using this
theorem exL_get (s : ByteArray) : ∀ k, k ≤ s.size → k ≤ 64 → ∀ j, (exL s k).getD j 0 = ((pL s k j : Nat) : Int)
  | 0, _, _, j => by
    show (List.replicate 80 (0 : Int)).getD j 0 = _
    rw [List.getD_eq_getElem?_getD, List.getElem?_replicate]
    unfold pL
    split <;> simp
  | k + 1, hk, h6, j => by
    have ih := exL_get s k (by omega) (by omega)
    have hks : k < s.size := by omega
    rw [exL_yes s k hks, getD_set _ _ _ _ (by rw [exL_len s k]; omega)]
    split
    · rename_i hj
      rw [ih, bt_in hks, shifted _ _ (bt_lt s k) (Nat.mod_lt _ (by omega)), pL_at, hj]
    · rename_i hj
      rw [ih j, pL_other s k j hj]
theorem pL_wd (s : ByteArray) (t : Nat) : pL s (min s.size 64) t = if t < 16 then wd s t else 0 := by
  split
  · rename_i h
    unfold pL wd
    have e : ∀ i, i < 64 → (if i < min s.size 64 then bt s i else 0) = bt s i := fun i hi => by
      split
      · rfl
      · rw [bt_out (by omega)]
    rw [e _ (by omega), e _ (by omega), e _ (by omega), e _ (by omega)]
  · unfold pL
    rw [if_neg (by omega), if_neg (by omega), if_neg (by omega), if_neg (by omega)]
theorem words_eq (s : ByteArray) : exL s (min s.size 64) = exR s 16 := by
  refine ext_getD (by rw [exL_len s, exR_len s]) fun j => ?_
  rw [exL_get s _ (by omega) (by omega), exR_get s 16 (by omega), pL_wd]
  split
  · rw [vR_wd]
  · rfl
theorem exL2_eq (l : List Int) : ∀ d, exL2 l d = exR2 l d
  | 0 => rfl
  | d + 1 => by rw [exL2, exR2, exL2_eq l d, rot1]
theorem expand_eq (s : ByteArray) : expandL s = expandR s := by rw [expandL, expandR, words_eq, exL2_eq]
theorem expand_congr {s s' : ByteArray} (h : ∀ i, i < 64 → bt s i = bt s' i) : expandR s = expandR s' := by
  have e : exR s 16 = exR s' 16 := by
    refine ext_getD (by rw [exR_len s, exR_len s']) fun j => ?_
    rw [exR_get s 16 (by omega), exR_get s' 16 (by omega)]
    split
    · rw [vR_wd, vR_wd]
      unfold wd
      rw [h _ (by omega), h _ (by omega), h _ (by omega), h _ (by omega)]
    · rfl
  rw [expandR, expandR, e]
end Go.Proofs.YtfjhnnpdaggnbaaGreatDoor.Q
end
/-! P3 -/
section
namespace Go.Proofs.YtfjhnnpdaggnbaaGreatDoor.Q
open Go.RowKit Go.Proofs.YtfjhnnpdaggnbaaGreatDoor.P
open Go.Proofs.YtfjhnnpdaggnbaaGreatDoorW.PrintWords (bytesOf bytesOf_length)
theorem len_eq (s : ByteArray) (k : Nat) (hk : k < 8) : lenByteL s k = lenByte s k := by
  unfold lenByteL lenByte
  rw [Int.mul_comm 8]
  congr 4
  rw [IntKind.wrap_u64, IntKind.wrap_u64]
  omega
theorem pad_eq (s : ByteArray) : f80 s ++ padL s = strOfNums (fR1 s (padN s)) := by
  have h : ∀ k, strOfNums (fR1 s k) = f80 s ++ ⟨(List.replicate k (0 : UInt8)).toArray⟩ := by
    intro k
    induction k with
    | zero =>
      show strOfNums (bytesOf s ++ [128]) = _
      rw [str_append, str_bytes]
      apply ByteArray.ext
      simp [f80, strOfNums]
    | succ k ih =>
      show strOfNums (fR1 s k ++ [0]) = _
      rw [str_append, ih]
      apply ByteArray.ext
      simp only [strOfNums, List.replicate_succ', ByteArray.data_append, List.map_cons, List.map_nil]
      rw [Array.append_assoc]
      congr 1
      apply Array.toList_inj.1
      simp
  rw [h]
  congr 1
  unfold padL padN
  rw [show (⟨#[0]⟩ : ByteArray).data.toList = [(0 : UInt8)] from rfl, repeat_zero, f80_size]
  congr 3
  omega
theorem fL_eq (s : ByteArray) : ∀ k, k ≤ 8 → fL s k = strOfNums (fR2 s k)
  | 0, _ => pad_eq s
  | k + 1, h => by rw [fL, fR2, fL_eq s k (by omega), str_append, len_eq s k (by omega)]
theorem fill_eq (s : ByteArray) : fillL s = fillR s := fL_eq s 8 (by omega)
theorem press_eq (c : Ch) (s : ByteArray) : pressL c s = pressR c s := by
  unfold pressL pressR
  rw [stepsLR _ _ _ (by omega), expand_eq]
theorem pr_eq (c : Ch) (s : ByteArray) : prL c s = prR c s := by rw [prL, prR, press_eq]
theorem chR_blk (x : ByteArray) : ∀ k, chR x k = chB first (fR2 x 8) k
  | 0 => rfl
  | k + 1 => by
    rw [chR, chB, chR_blk x k, pr_eq]
    congr 1
    rw [fillR, str_extract, blk]
    congr 2
    omega
theorem blk_front (A T : List Int) (k : Nat) (h : 64 * (k + 1) ≤ A.length) : blk (A ++ T) k = blk A k := by
  unfold blk
  rw [List.drop_append_of_le_length (by omega), List.take_append_of_le_length (by rw [List.length_drop]; omega)]
theorem chB_front (c : Ch) (A T : List Int) : ∀ k, 64 * k ≤ A.length → chB c (A ++ T) k = chB c A k
  | 0, _ => rfl
  | k + 1, h => by rw [chB, chB, chB_front c A T k (by omega), blk_front A T k h]
theorem chB_back (c : Ch) (A T : List Int) (n : Nat) (h : 64 * n ≤ A.length) : ∀ k, chB c (A ++ T) (n + k) = chB (chB c A n) (A.drop (64 * n) ++ T) k
  | 0 => chB_front c A T n h
  | k + 1 => by
    rw [show n + (k + 1) = (n + k) + 1 from rfl, chB, chB, chB_back c A T n h k]
    congr 1
    unfold blk
    congr 2
    rw [show 64 * (n + k) = 64 * n + 64 * k from by omega, ← List.drop_drop, List.drop_append_of_le_length h]
theorem fR1_tail (x : ByteArray) : ∀ k, fR1 x k = bytesOf x ++ tailP k
  | 0 => rfl
  | k + 1 => by rw [fR1, tailP, fR1_tail x k, List.append_assoc]
theorem lenB_eq (x : ByteArray) (k : Nat) (hk : k < 8) : lenByte x k = lenB (n1 x) k := by
  rw [← len_eq x k hk]
  unfold lenByteL lenB n1
  congr 3
  simp only [IntKind.wrap_u64]
  omega
theorem fR2_tail (x : ByteArray) : ∀ k, k ≤ 8 → fR2 x k = bytesOf x ++ tailQ (x.size % 64) (n1 x) k
  | 0, _ => by
    rw [fR2, tailQ, fR1_tail]
    congr 2
  | k + 1, h => by rw [fR2, tailQ, fR2_tail x k (by omega), List.append_assoc, lenB_eq x k (by omega)]
theorem u8_range (x : Int) : 0 ≤ IntKind.u8.wrap x ∧ IntKind.u8.wrap x < 256 := by rw [IntKind.wrap_u8]; omega
theorem tailP_R : ∀ k, ∀ x ∈ tailP k, (0 : Int) ≤ x ∧ x < 256
  | 0, x, h => by
    simp only [tailP, List.mem_singleton] at h
    omega
  | k + 1, x, h => by
    rw [tailP, List.mem_append] at h
    rcases h with h | h
    · exact tailP_R k x h
    · simp only [List.mem_singleton] at h
      omega
theorem tailQ_R (m : Nat) (n : Int) : ∀ k, ∀ x ∈ tailQ m n k, (0 : Int) ≤ x ∧ x < 256
  | 0, x, h => tailP_R _ x h
  | k + 1, x, h => by
    rw [tailQ, List.mem_append] at h
    rcases h with h | h
    · exact tailQ_R m n k x h
    · simp only [List.mem_singleton] at h
      subst h
      exact u8_range _
theorem chain_eq (x : ByteArray) : chF (ch1 x) (rest1 x) (x.size % 64) (n1 x) = chainR x := by
  have hT : bytesOf (tailS (x.size % 64) (n1 x)) = tailQ (x.size % 64) (n1 x) 8 := bytes_str _ (tailQ_R _ _ _)
  have hb := bytesOf_length x
  have hs := tailS_size (x.size % 64) (n1 x)
  have hf := fillR_size x
  have hp : padM (x.size % 64) = padN x := rfl
  have hn : (fillR x).size / 64 = (0 + x.size) / 64 + (x.size % 64 + (tailS (x.size % 64) (n1 x)).size) / 64 := by
    rw [hs, hf, hp]
    omega
  unfold chF chainR
  rw [hT, hn, chR_blk, fR2_tail x 8 (by omega), chB_back _ _ _ _ (by omega)]
  rfl
theorem sum_eq (x : ByteArray) : sumL x = sumR x := by rw [sumL, sumR, chain_eq]
theorem addL_get (a b : List Int) (j : Nat) : ∀ k, k ≤ a.length → (addL a b k).getD j 0 = if j < k then IntKind.u32.wrap (a.getD j 0 + b.getD j 0) else a.getD j 0
  | 0, _ => by rw [if_neg (by omega)]; rfl
  | k + 1, h => by
    rw [addL, getD_set _ _ _ _ (by rw [addL_len]; omega)]
    split
    · rename_i e
      subst e
      rw [if_pos (by omega), addL_get a b j j (by omega), if_neg (by omega)]
    · rw [addL_get a b j k (by omega)]
      by_cases h2 : j < k
      · rw [if_pos h2, if_pos (by omega)]
      · rw [if_neg h2, if_neg (by omega)]
theorem addL_iff (a b e : List Int) (ha : a.length = 5) (he : e.length = 5) : addL a b 5 = e ↔ ∀ i, i < 5 → IntKind.u32.wrap (a.getD i 0 + b.getD i 0) = e.getD i 0 := by
  constructor
  · intro h i hi
    rw [← h, addL_get a b i 5 (by omega), if_pos hi]
  · intro h
    refine ext_getD (by rw [addL_len, ha, he]) fun j => ?_
    rw [addL_get a b j 5 (by omega)]
    split
    · rename_i hj
      exact h j hj
    · rename_i hj
      rw [List.getD_eq_getElem?_getD, List.getD_eq_getElem?_getD, List.getElem?_eq_none (by omega), List.getElem?_eq_none (by omega)]
theorem end_eq (c : Ch) (s : ByteArray) : addL (cl c) (cl (stepsO (expandL s) (stepsL (expandL s) c 58) 58 22)) 5 = cl (prR c s) := by
  rw [stepsO_eq, cl_prR, ← press_eq]
  rfl
theorem meets_iff (c : Ch) (s : ByteArray) (m : List Int) : addL (cl (backX (expandL s) m (stepsL (expandL s) c 58) backL 58)) (cl (stepsX (expandL s) m (stepsL (expandL s) c 58) stepL 58 22)) 5 = addL (cl c) (cl (stepsO (expandL s) (stepsL (expandL s) c 58) 58 22)) 5 ↔ ∀ i, i < 5 → endsR c s m i := by
  rw [end_eq, addL_iff _ _ _ rfl rfl]
  unfold endsR firstR' lastR mR
  rw [backX_eq _ _ _ _ (by omega), stepsX_eq _ _ _ _ _ (by omega), stepsLR _ _ _ (by omega), expand_eq]
theorem meets_eq (c : Ch) (s : ByteArray) (m : List Int) : meetsL c (expandL s) m = @decide (∀ i, i < 5 → endsR c s m i) (Classical.propDecidable _) := by
  unfold meetsL
  rw [Bool.eq_iff_iff, decide_eq_true_iff, @decide_eq_true_iff _ (Classical.propDecidable _)]
  exact meets_iff c s m
theorem marked_eq (c : Ch) (s : ByteArray) (ty K B : Int) : markedL c s ty K B = markedR c s ty K B := by
  unfold markedL markedR
  rw [difference_eq, meets_eq]
end Go.Proofs.YtfjhnnpdaggnbaaGreatDoor.Q
end
/-! H1 -/
section
namespace Go.Proofs.YtfjhnnpdaggnbaaGreatDoor.Q
open Go.RowKit Go.Proofs.YtfjhnnpdaggnbaaGreatDoor.P
open Go.Proofs.YtfjhnnpdaggnbaaGreatDoorW.PrintWords (bytesOf bytesOf_length shl shr)
set_option maxRecDepth 100000
theorem bits_and (x y : Int) : Go.bits .and .u32 x y = ((bv x &&& bv y).toNat : Int) := wrap_bv _
def turnR (x n : Int) : Int := Go.bits .or .u32 (shr .u32 x n) (shl .u32 x (IntKind.u64.wrap (32 - n)))
theorem or_comm32 (x y : Int) : Go.bits .or .u32 x y = Go.bits .or .u32 y x := by rw [bits_or, bits_or, BitVec.or_comm]
theorem turn_eq (x : Int) (n : Nat) (h1 : 0 < n) (h2 : n < 32) : turnL x n = turnR x n := by
  have h := (by decide : ∀ n : Fin 32, 0 < n.val → Go.bits .and .u64 (IntKind.u64.wrap (IntKind.i64.wrap (0 - ((n.val : Nat) : Int)))) 31 = ((32 - n.val : Nat) : Int)) ⟨n, h2⟩ h1
  unfold turnL turnR rotl
  rw [h, or_comm32]
  have e1 : IntKind.u64.wrap (32 - ((32 - n : Nat) : Int)) = (n : Int) := by rw [IntKind.wrap_u64]; omega
  have e2 : IntKind.u64.wrap (32 - (n : Int)) = ((32 - n : Nat) : Int) := by rw [IntKind.wrap_u64]; omega
  rw [e1, e2]
theorem ch_eq (x y z : Int) : Go.bits .xor .u32 z (Go.bits .and .u32 x (Go.bits .xor .u32 y z)) = Go.bits .xor .u32 (Go.bits .and .u32 x y) (Go.bits .and .u32 (Go.bits .xor .u32 4294967295 x) z) := by
  simp only [bits_xor, bits_and, bv_toNat]
  congr 2
  have hm : bv 4294967295 = BitVec.allOnes 32 := by decide
  rw [hm]
  ext i hi
  simp only [BitVec.getElem_xor, BitVec.getElem_and, BitVec.getElem_allOnes]
  cases (bv x)[i] <;> cases (bv y)[i] <;> cases (bv z)[i] <;> rfl
theorem maj_eq (x y z : Int) : Go.bits .or .u32 (Go.bits .and .u32 x y) (Go.bits .and .u32 z (Go.bits .or .u32 x y)) = Go.bits .xor .u32 (Go.bits .xor .u32 (Go.bits .and .u32 x y) (Go.bits .and .u32 x z)) (Go.bits .and .u32 y z) := by
  simp only [bits_xor, bits_and, bits_or, bv_toNat]
  congr 2
  ext i hi
  simp only [BitVec.getElem_xor, BitVec.getElem_and, BitVec.getElem_or]
  cases (bv x)[i] <;> cases (bv y)[i] <;> cases (bv z)[i] <;> rfl
def wv (b : Nat → Nat) (t : Nat) : Nat := b (4 * t) * 16777216 + b (4 * t + 1) * 65536 + b (4 * t + 2) * 256 + b (4 * t + 3)
def pv (b : Nat → Nat) (j : Nat) : Nat → Nat
  | 0 => 0
  | m + 1 => pv b j m * 256 + b (4 * j + m)
theorem pv_lt (b : Nat → Nat) (hb : ∀ i, b i < 256) (j : Nat) : ∀ m, pv b j m < 256 ^ m
  | 0 => by show 0 < 256 ^ 0; decide
  | m + 1 => by
    have h1 := pv_lt b hb j m
    have h2 := hb (4 * j + m)
    rw [pv, Nat.pow_succ]
    omega
theorem pv_four (b : Nat → Nat) (j : Nat) : pv b j 4 = wv b j := by
  simp only [pv, wv, Nat.add_zero]
  omega
theorem shl8 (v : Nat) (h : v < 16777216) : IntKind.u32.wrap ((v : Int) * 2 ^ min (8 : Int).toNat 32) = ((2 ^ 8 * v : Nat) : Int) := by
  rw [show min (8 : Int).toNat 32 = 8 from rfl, IntKind.wrap_u32]
  omega
theorem wA_get (b : Nat → Nat) (hb : ∀ i, b i < 256) (L : List Int) (hL : ∀ i, i < 64 → L.getD i 0 = ((b i : Nat) : Int)) : ∀ k, k ≤ 64 → ∀ j, (wA L k).getD j 0 = ((pv b j (min (k - 4 * j) 4) : Nat) : Int)
  | 0, _, j => by
    rw [show min (0 - 4 * j) 4 = 0 by omega]
    show (List.replicate 64 (0 : Int)).getD j 0 = _
    rw [List.getD_eq_getElem?_getD, List.getElem?_replicate]
    split <;> rfl
  | k + 1, hk, j => by
    have ih := wA_get b hb L hL k (by omega)
    rw [wA, getD_set _ _ _ _ (by rw [wA_len]; omega)]
    by_cases h : j = k / 4
    · subst h
      rw [if_pos rfl, ih, hL k (by omega)]
      have e1 : min (k - 4 * (k / 4)) 4 = k % 4 := by omega
      have e2 : min (k + 1 - 4 * (k / 4)) 4 = k % 4 + 1 := by omega
      rw [e1, e2, pv]
      have h3 : k % 4 = 0 ∨ k % 4 = 1 ∨ k % 4 = 2 ∨ k % 4 = 3 := by omega
      have hp : pv b (k / 4) (k % 4) < 16777216 := by
        have := pv_lt b hb (k / 4) (k % 4)
        rcases h3 with e | e | e | e <;> rw [e] at this ⊢ <;> omega
      have hbk := hb k
      have e4 : 4 * (k / 4) + k % 4 = k := by omega
      rw [shl8 _ hp, show IntKind.u32.wrap ((b k : Nat) : Int) = ((b k : Nat) : Int) by rw [IntKind.wrap_u32]; omega, or_add _ _ 8 (by simpa using hbk) (by omega), e4]
      congr 1
      omega
    · rw [if_neg h, ih]
      have e : min (k - 4 * j) 4 = min (k + 1 - 4 * j) 4 := by omega
      rw [e]
/-- the document's words of a block: t of them -/
def wordR (b : Nat → Nat) (t : Nat) : Int := IntKind.u32.wrap (IntKind.u32.wrap (IntKind.u32.wrap (IntKind.u32.wrap (IntKind.u32.wrap ((b (4 * t) : Nat) : Int) * 16777216) + IntKind.u32.wrap (IntKind.u32.wrap ((b (4 * t + 1) : Nat) : Int) * 65536)) + IntKind.u32.wrap (IntKind.u32.wrap ((b (4 * t + 2) : Nat) : Int) * 256)) + IntKind.u32.wrap ((b (4 * t + 3) : Nat) : Int))
theorem wordR_eq (b : Nat → Nat) (hb : ∀ i, b i < 256) (t : Nat) : wordR b t = ((wv b t : Nat) : Int) := by
  have h0 := hb (4 * t)
  have h1 := hb (4 * t + 1)
  have h2 := hb (4 * t + 2)
  have h3 := hb (4 * t + 3)
  unfold wordR wv
  simp only [IntKind.wrap_u32]
  omega
def wR (b : Nat → Nat) : Nat → List Int
  | 0 => List.replicate 64 0
  | t + 1 => (wR b t).set t (wordR b t)
theorem wR_len (b : Nat → Nat) : ∀ k, (wR b k).length = 64
  | 0 => List.length_replicate
  | k + 1 => by rw [wR, List.length_set, wR_len b k]
theorem wR_get (b : Nat → Nat) (hb : ∀ i, b i < 256) : ∀ k, k ≤ 16 → ∀ j, (wR b k).getD j 0 = if j < k then ((wv b j : Nat) : Int) else 0
  | 0, _, j => by
    show (List.replicate 64 (0 : Int)).getD j 0 = _
    rw [List.getD_eq_getElem?_getD, List.getElem?_replicate]
    split <;> simp
  | k + 1, hk, j => by
    have ih := wR_get b hb k (by omega)
    rw [wR, getD_set _ _ _ _ (by rw [wR_len]; omega)]
    by_cases h : j = k
    · subst h
      rw [if_pos rfl, if_pos (by omega), wordR_eq b hb]
    · rw [if_neg h, ih]
      by_cases h2 : j < k
      · rw [if_pos h2, if_pos (by omega)]
      · rw [if_neg h2, if_neg (by omega)]
theorem words256_eq (b : Nat → Nat) (hb : ∀ i, b i < 256) (L : List Int) (hL : ∀ i, i < 64 → L.getD i 0 = ((b i : Nat) : Int)) : wA L 64 = wR b 16 := by
  refine ext_getD (by rw [wA_len, wR_len]) fun j => ?_
  rw [wA_get b hb L hL 64 (Nat.le_refl _), wR_get b hb 16 (Nat.le_refl _)]
  by_cases h : j < 16
  · rw [if_pos h, show min (64 - 4 * j) 4 = 4 by omega, pv_four]
  · rw [if_neg h, show min (64 - 4 * j) 4 = 0 by omega]
    rfl
def wE (l : List Int) : Nat → List Int
  | 0 => l
  | d + 1 => (wE l d).set (d + 16) (IntKind.u32.wrap (IntKind.u32.wrap (IntKind.u32.wrap ((wE l d).getD d 0 + Go.bits .xor .u32 (Go.bits .xor .u32 (turnR ((wE l d).getD (d + 1) 0) 7) (turnR ((wE l d).getD (d + 1) 0) 18)) (((wE l d).getD (d + 1) 0).fdiv (2 ^ min (3 : Int).toNat 32))) + (wE l d).getD (d + 9) 0) + Go.bits .xor .u32 (Go.bits .xor .u32 (turnR ((wE l d).getD (d + 14) 0) 17) (turnR ((wE l d).getD (d + 14) 0) 19)) (((wE l d).getD (d + 14) 0).fdiv (2 ^ min (10 : Int).toNat 32))))
theorem wE_len (l : List Int) (h : l.length = 64) : ∀ d, (wE l d).length = 64
  | 0 => h
  | d + 1 => by rw [wE, List.length_set, wE_len l h d]
theorem t7 (x : Int) : turnL x 7 = turnR x 7 := turn_eq x 7 (by decide) (by decide)
theorem t18 (x : Int) : turnL x 18 = turnR x 18 := turn_eq x 18 (by decide) (by decide)
theorem t17 (x : Int) : turnL x 17 = turnR x 17 := turn_eq x 17 (by decide) (by decide)
theorem t19 (x : Int) : turnL x 19 = turnR x 19 := turn_eq x 19 (by decide) (by decide)
theorem t6 (x : Int) : turnL x 6 = turnR x 6 := turn_eq x 6 (by decide) (by decide)
theorem t11 (x : Int) : turnL x 11 = turnR x 11 := turn_eq x 11 (by decide) (by decide)
theorem t25 (x : Int) : turnL x 25 = turnR x 25 := turn_eq x 25 (by decide) (by decide)
theorem t2 (x : Int) : turnL x 2 = turnR x 2 := turn_eq x 2 (by decide) (by decide)
theorem t13 (x : Int) : turnL x 13 = turnR x 13 := turn_eq x 13 (by decide) (by decide)
theorem t22 (x : Int) : turnL x 22 = turnR x 22 := turn_eq x 22 (by decide) (by decide)
theorem wE_eq (l : List Int) : ∀ d, wB l d = wE l d
  | 0 => rfl
  | d + 1 => by rw [wB, wE, wE_eq l d, t7, t18, t17, t19]
def oneR (w : List Int) (a b c d e f g h : Int) (t : Nat) : Int := IntKind.u32.wrap (IntKind.u32.wrap (IntKind.u32.wrap (IntKind.u32.wrap (h + Go.bits .xor .u32 (Go.bits .xor .u32 (turnR e 6) (turnR e 11)) (turnR e 25)) + Go.bits .xor .u32 (Go.bits .and .u32 e f) (Go.bits .and .u32 (Go.bits .xor .u32 4294967295 e) g)) + k256.getD t 0) + w.getD t 0)
def twoR (a b c : Int) : Int := IntKind.u32.wrap (Go.bits .xor .u32 (Go.bits .xor .u32 (turnR a 2) (turnR a 13)) (turnR a 22) + Go.bits .xor .u32 (Go.bits .xor .u32 (Go.bits .and .u32 a b) (Go.bits .and .u32 a c)) (Go.bits .and .u32 b c))
def roundR (w v : List Int) (t : Nat) : List Int := [IntKind.u32.wrap (oneR w (v.getD 0 0) (v.getD 1 0) (v.getD 2 0) (v.getD 3 0) (v.getD 4 0) (v.getD 5 0) (v.getD 6 0) (v.getD 7 0) t + twoR (v.getD 0 0) (v.getD 1 0) (v.getD 2 0)), v.getD 0 0, v.getD 1 0, v.getD 2 0, IntKind.u32.wrap (v.getD 3 0 + oneR w (v.getD 0 0) (v.getD 1 0) (v.getD 2 0) (v.getD 3 0) (v.getD 4 0) (v.getD 5 0) (v.getD 6 0) (v.getD 7 0) t), v.getD 4 0, v.getD 5 0, v.getD 6 0]
def roundsR (w v : List Int) : Nat → List Int
  | 0 => [v.getD 0 0, v.getD 1 0, v.getD 2 0, v.getD 3 0, v.getD 4 0, v.getD 5 0, v.getD 6 0, v.getD 7 0]
  | t + 1 => roundR w (roundsR w v t) t
theorem roundsR_len (w v : List Int) : ∀ k, (roundsR w v k).length = 8
  | 0 => rfl
  | _ + 1 => rfl
theorem round_eq (w v : List Int) (t : Nat) (h : v.length = 8) : roundL w v t = roundR w v t := by
  match v, h with
  | [a, b, c, d, e, f, g, i], _ =>
    have h1 : oneL w [a, b, c, d, e, f, g, i] t = oneR w a b c d e f g i t := by
      unfold oneL oneR
      rw [t6, t11, t25, ch_eq]
      rfl
    have h2 : twoL [a, b, c, d, e, f, g, i] = twoR a b c := by
      unfold twoL twoR
      rw [t2, t13, t22, maj_eq]
      rfl
    unfold roundL
    rw [h1, h2]
    rfl
theorem rounds_eq (w v : List Int) (h : v.length = 8) : ∀ k, roundsL w v k = roundsR w v k
  | 0 => by
    match v, h with
    | [a, b, c, d, e, f, g, i], _ => rfl
  | k + 1 => by rw [roundsL, roundsR, rounds_eq w v h k, round_eq w _ k (roundsR_len w v k)]
def pressR2 (c : List Int) (b : Nat → Nat) : List Int := addL c (roundsR (wE (wR b 16) 48) c 64) 8
theorem press2_eq (c : List Int) (h : c.length = 8) (b : Nat → Nat) (hb : ∀ i, b i < 256) (L : List Int) (hL : ∀ i, i < 64 → L.getD i 0 = ((b i : Nat) : Int)) : press2 c L = pressR2 c b := by
  unfold press2 pressR2 wordsL
  rw [words256_eq b hb L hL, wE_eq, rounds_eq _ _ h]
/-- the document's chain behind k blocks of a text -/
def chR2 (T : ByteArray) : Nat → List Int
  | 0 => ch256
  | k + 1 => pressR2 (chR2 T k) (fun i => bt T (64 * k + i))
theorem chR2_eq (T : ByteArray) : ∀ k, chK T k = chR2 T k
  | 0 => rfl
  | k + 1 => by
    rw [chK, chR2, ← chR2_eq T k]
    refine press2_eq _ (chK_len T k) _ (fun i => bt_lt T _) _ fun i hi => ?_
    unfold blkAt
    rw [range_getD, if_pos hi]
end Go.Proofs.YtfjhnnpdaggnbaaGreatDoor.Q
end
/-! G7 -/
section
namespace Go.Proofs.YtfjhnnpdaggnbaaGreatDoor.Q
open Go.Proofs.YtfjhnnpdaggnbaaGreatDoorW.PrintWords (bytesOf bytesOf_length)
open Go.RowKit Go.Proofs.YtfjhnnpdaggnbaaGreatDoor.P
set_option linter.unusedVariables false
set_option linter.unusedSimpArgs false
set_option maxRecDepth 100000
set_option maxHeartbeats 4000000
attribute [local irreducible] wpList wpQuiet qch Code.wp Oper.quiet Act.put At Region.wanted yielded
theorem parts8 {a : Act} {i0 i1 i2 i3 i4 i5 i6 i7 : Nat} {x0 x1 x2 x3 x4 x5 x6 x7 : Operand} {u0 u1 u2 u3 u4 u5 u6 u7 : Value} (h0 : a.eval x0 = u0) (h1 : a.eval x1 = u1) (h2 : a.eval x2 = u2) (h3 : a.eval x3 = u3) (h4 : a.eval x4 = u4) (h5 : a.eval x5 = u5) (h6 : a.eval x6 = u6) (h7 : a.eval x7 = u7) : (#[(i0, x0), (i1, x1), (i2, x2), (i3, x3), (i4, x4), (i5, x5), (i6, x6), (i7, x7)] : Array (Nat × Operand)).map (fun (i, x) => (i, a.eval x)) = #[(i0, u0), (i1, u1), (i2, u2), (i3, u3), (i4, u4), (i5, u5), (i6, u6), (i7, u7)] := by simp [h0, h1, h2, h3, h4, h5, h6, h7]
theorem TurnR.calls (x : Int) (n : Int) (hn : 0 ≤ n) (w0 : World) : Calls Tryz.prog 51 #[.int .u32 x, .int .u64 n] w0 fun e w' => e = .returned (.int .u32 (turnR x n)) ∧ Low w0 w' :=
  (diptychref03_turn.calls x n _ w0 (by
    unfold diptychref03_turn.f
    rw [if_pos hn, if_pos (u64_nonneg _)]
    rfl)).mono fun _ _ ⟨e, h⟩ => ⟨e, h.below⟩
theorem bA8 (a b c d e f g h : Int) : Tryz.prog.built 77 [(0, .int .u32 a), (1, .int .u32 b), (2, .int .u32 c), (3, .int .u32 d), (4, .int .u32 e), (5, .int .u32 f), (6, .int .u32 g), (7, .int .u32 h)] = some (nums .u32 [a, b, c, d, e, f, g, h]) := by kernel_rfl
theorem list8 (l : List Int) (h : l.length = 8) : [l.getD 0 0, l.getD 1 0, l.getD 2 0, l.getD 3 0, l.getD 4 0, l.getD 5 0, l.getD 6 0, l.getD 7 0] = l := by
  match l, h with
  | [_, _, _, _, _, _, _, _], _ => rfl
theorem len8 (a b c d e f g h : Int) : [a, b, c, d, e, f, g, h].length = 8 := rfl
theorem chR2_len (T : ByteArray) : ∀ k, (chR2 T k).length = 8
  | 0 => rfl
  | k + 1 => (addL_len _ _ 8).trans (chR2_len T k)
def fb (T : ByteArray) (b : Nat) : Nat → Nat := fun i => bt T (64 * b + i)
def wE16 (T : ByteArray) (b : Nat) : List Int := wE (wR (fb T b) 16) 48
def outQ (c : List Int) : Nat → List Int
  | 0 => []
  | k + 1 => outQ c k ++ [IntKind.u8.wrap ((c.getD k 0).fdiv (2 ^ min (24 : Int).toNat 32)), IntKind.u8.wrap ((c.getD k 0).fdiv (2 ^ min (16 : Int).toNat 32)), IntKind.u8.wrap ((c.getD k 0).fdiv (2 ^ min (8 : Int).toNat 32)), IntKind.u8.wrap (c.getD k 0)]
theorem outQ_len (c : List Int) : ∀ k, (outQ c k).length = 4 * k
  | 0 => rfl
  | k + 1 => by rw [outQ, List.length_append, outQ_len c k]; simp only [List.length_cons, List.length_nil]; omega
def sumR3 (s : ByteArray) : ByteArray := strOfNums (outQ (chR2 (fillR s) ((fillR s).size / 64)) 8)
theorem KeysR.calls (w0 : World) : Calls Tryz.prog 50 #[] w0 fun e w' => e = .returned (.agg (nums .u32 k256)) ∧ Low w0 w' := by
 refine c_fun (R := _) Tryz.func50 rfl 2 rfl (Nat.le_of_ble_eq_true rfl) ?_
 intro a z hA
 clear hA
 refine c_seq (c_region (l_alloc rfl rfl zero75 ?_))
 intro g0 w1 hg1 k1 h1
 have geg0 := Nat.le_trans (Low.refl _).ge hg1
 refine l_end (e_fresh z.put ?_)
 intro a2 z2 m2
 have s0_2 := m2 _ _ (At.hit z rfl)
 have low2 := h1
 clear m2
 refine e_then (c_seq (c_region ?_))
 refine l_q rfl (q_build (cs := nums .u32 k256) rfl rfl (by kernel_rfl) ?_)
 refine l_row rfl rfl rfl (sz75.trans (congrArg some ((nums_size _ _).trans k256_len).symm)) (s0_2.n1).ev (At.hit z2 rfl).ev (nums_one _ _) k1 (((nums_size _ _).trans (List.length_replicate)).trans ((nums_size _ _).trans k256_len).symm) ?_
 intro w3 k3 u3
 refine l_end (e_fresh z2.put ?_)
 intro a4 z4 m4
 have s0_4 := m4 _ _ (s0_2.n1)
 have low4 := (low2.upd u3 geg0)
 clear m4
 refine e_then (wp_ret (r_cell rfl z4.defers s0_4 k3 Tryz.underlying75 rfl (sz75.trans (congrArg some ((nums_size _ _).trans k256_len).symm)) ?_))
 exact ⟨rfl, low4⟩
theorem SumR3.calls (s : ByteArray) (hs : s.size ≤ 140737488350000) (w0 : World) : Calls Tryz.prog 27 #[.string s] w0 fun e w' => e = .returned (.string (sumR3 s)) ∧ Low w0 w' := by
 refine c_fun (R := _) Tryz.func27 rfl 251 rfl (Nat.le_of_ble_eq_true rfl) ?_
 intro a z hA
 have s0 := hA 0 _ rfl
 clear hA
 refine c_seq (c_region ?_)
 refine l_q rfl (q_assign _ _ rfl rfl ?_)
 refine l_end (e_fresh z.put ?_)
 intro a1 z1 m1
 have s0_1 := m1 _ _ (s0.n1)
 clear m1
 refine e_then (c_seq (c_region ?_))
 refine l_q rfl (q_move _ _ rfl s0_1.ev ?_)
 refine l_call (fun v w' => v = .string (fillR s) ∧ Low w0 w') rfl rfl rfl Tryz.func49 rfl (args1 rfl (At.hit z1 rfl).ev) ((FillR.calls s hs _).mono fun _ _ ⟨e, k⟩ => ⟨_, e, rfl, k⟩) ?_
 rintro _ w2 ⟨rfl, h2⟩
 refine l_q rfl (q_assign _ _ rfl (At.hit z1.put rfl).ev ?_)
 refine l_end (e_fresh z1.p3 ?_)
 intro a3 z3 m3
 have s3_3 := m3 _ _ (At.hit z1.p2 rfl)
 have low3 := h2
 clear m3
 refine e_then (c_seq (c_region (l_call (fun v w' => v = .agg (nums .u32 k256) ∧ Low w2 w') rfl rfl rfl Tryz.func50 rfl (show Array.map _ _ = (#[] : Array Value) from by simp) ((KeysR.calls _).mono fun _ _ ⟨e, k⟩ => ⟨_, e, rfl, k⟩) ?_)))
 rintro _ w4 ⟨rfl, h4⟩
 refine l_alloc rfl rfl zero75 ?_
 intro g4 w5 hg5 k5 h5
 have geg4 := Nat.le_trans (low3.trans h4).ge hg5
 refine l_row rfl rfl rfl (sz75.trans (congrArg some ((nums_size _ _).trans k256_len).symm)) (At.hit z3.put rfl).ev ((At.hit z3 rfl).n1).ev (nums_one _ _) k5 (((nums_size _ _).trans (List.length_replicate)).trans ((nums_size _ _).trans k256_len).symm) ?_
 intro w6 k6 u6
 refine l_end (e_fresh z3.p2 ?_)
 intro a7 z7 m7
 have s3_7 := m7 _ _ (s3_3.n2)
 have s4_7 := m7 _ _ (At.hit z3.put rfl)
 have low7 := (((low3.trans h4).trans h5).upd u6 geg4)
 clear m7
 refine e_then (c_seq (c_region ?_))
 refine l_q rfl (q_build (cs := nums .u32 ch256) rfl rfl (by kernel_rfl) ?_)
 refine l_alloc rfl rfl zero77 ?_
 intro g5 w8 hg8 k8 h8
 have lt_g4_g5 := Nat.lt_of_lt_of_le (heap_lt k6) hg8
 have geg5 := Nat.le_trans low7.ge hg8
 have kg4_8 := h8.blk k6
 refine l_row rfl rfl rfl (sz77.trans (congrArg some ((nums_size _ _).trans ch256_len).symm)) (At.hit z7.put rfl).ev ((At.hit z7 rfl).n1).ev (nums_one _ _) k8 (((nums_size _ _).trans (List.length_replicate)).trans ((nums_size _ _).trans ch256_len).symm) ?_
 intro w9 k9 u9
 have kg4_9 := u9.blk kg4_8 (by omega)
 refine l_end (e_fresh z7.p2 ?_)
 intro a10 z10 m10
 have s3_10 := m10 _ _ (s3_7.n2)
 have s4_10 := m10 _ _ (s4_7.n2)
 have s5_10 := m10 _ _ (At.hit z7.put rfl)
 have low10 := ((low7.trans h8).upd u9 geg5)
 clear m10
 refine e_then (c_seq (c_seq (c_region ?_)))
 refine l_q rfl (q_assign _ _ rfl rfl ?_)
 refine l_end (e_fresh z10.put ?_)
 intro a11 z11 m11
 have s3_11 := m11 _ _ (s3_10.n1)
 have s4_11 := m11 _ _ (s4_10.n1)
 have s5_11 := m11 _ _ (s5_10.n1)
 have s6_11 := m11 _ _ (At.hit z10 rfl)
 clear m11
 refine e_then (wp_block (c_loop ((fillR s).size / 64) (fun b a w => Fr 251 a ∧ At a 3 (.string (fillR s)) ∧ At a 4 (.pointer (some ⟨g4, 0, none⟩)) ∧ At a 5 (.pointer (some ⟨g5, 0, none⟩)) ∧ At a 6 (.int .i64 ((64 * b : Nat) : Int)) ∧ w.heap[g4]? = some (.cells (nums .u32 k256) 75) ∧ w.heap[g5]? = some (.cells (nums .u32 (chR2 (fillR s) b)) 77) ∧ Low w0 w) ?_ ?_ ?_))
 ·
  exact ⟨z11, s3_11, s4_11, s5_11, (s6_11.same (congrArg (Value.int .i64) (by omega))), kg4_9, k9, low10⟩
 ·
  intro b a12 w12 hk12 h
  obtain ⟨z12, s3_12, s4_12, s5_12, s6_12, kg4_12, kg5_12, low12⟩ := h
  clear k9 kg4_9 low10 s3_11 s4_11 s5_11 s6_11 z11
  have hfm := fillR_mod s
  have hfs := fillR_size s
  have hpl := padN_le s
  refine c_seq (c_seq (c_region ?_))
  refine l_q rfl (q_move _ _ rfl s6_12.ev ?_)
  refine l_q rfl (q_move _ _ rfl (s3_12.n1).ev ?_)
  refine l_q rfl (q_len rfl rfl Tryz.underlying9 (At.hit z12.put rfl).ev ?_)
  refine l_q rfl (q_lss true rfl ((At.hit z12 rfl).n2).ev (At.hit z12.p2 rfl).ev (decide_eq_true (by omega)) ?_)
  refine l_end (e_fresh z12.p4 ?_)
  intro a13 z13 m13
  have s3_13 := m13 _ _ (s3_12.n4)
  have s4_13 := m13 _ _ (s4_12.n4)
  have s5_13 := m13 _ _ (s5_12.n4)
  have s6_13 := m13 _ _ (s6_12.n4)
  have s33_13 := m13 _ _ (At.hit z12.p3 rfl)
  clear m13
  refine e_then (c_true s33_13 ?_)
  refine wp_skip (e_then (c_seq (wp_block (c_seq (c_region (l_alloc rfl rfl zero75 ?_))))))
  intro g7 w14 hg14 k14 h14
  have lt_g4_g7 := Nat.lt_of_lt_of_le (heap_lt kg4_12) hg14
  have lt_g5_g7 := Nat.lt_of_lt_of_le (heap_lt kg5_12) hg14
  have geg7 := Nat.le_trans low12.ge hg14
  have kg4_14 := h14.blk kg4_12
  have kg5_14 := h14.blk kg5_12
  refine l_end (e_fresh z13.put ?_)
  intro a15 z15 m15
  have s3_15 := m15 _ _ (s3_13.n1)
  have s4_15 := m15 _ _ (s4_13.n1)
  have s5_15 := m15 _ _ (s5_13.n1)
  have s6_15 := m15 _ _ (s6_13.n1)
  have s7_15 := m15 _ _ (At.hit z13 rfl)
  have low15 := (low12.trans h14)
  clear m15
  refine e_then (c_seq (c_seq (c_region ?_)))
  refine l_q rfl (q_assign _ _ rfl rfl ?_)
  refine l_end (e_fresh z15.put ?_)
  intro a16 z16 m16
  have s3_16 := m16 _ _ (s3_15.n1)
  have s4_16 := m16 _ _ (s4_15.n1)
  have s5_16 := m16 _ _ (s5_15.n1)
  have s6_16 := m16 _ _ (s6_15.n1)
  have s7_16 := m16 _ _ (s7_15.n1)
  have s8_16 := m16 _ _ (At.hit z15 rfl)
  clear m16
  refine e_then (wp_block (c_loop 16 (fun t a w => Fr 251 a ∧ At a 3 (.string (fillR s)) ∧ At a 4 (.pointer (some ⟨g4, 0, none⟩)) ∧ At a 5 (.pointer (some ⟨g5, 0, none⟩)) ∧ At a 6 (.int .i64 ((64 * b : Nat) : Int)) ∧ At a 7 (.pointer (some ⟨g7, 0, none⟩)) ∧ At a 8 (.int .i64 ((t : Nat) : Int)) ∧ w.heap[g4]? = some (.cells (nums .u32 k256) 75) ∧ w.heap[g5]? = some (.cells (nums .u32 (chR2 (fillR s) b)) 77) ∧ w.heap[g7]? = some (.cells (nums .u32 (wR (fb (fillR s) b) t)) 75) ∧ Low w0 w) ?_ ?_ ?_))
  ·
   exact ⟨z16, s3_16, s4_16, s5_16, s6_16, s7_16, s8_16, kg4_14, kg5_14, k14, low15⟩
  ·
   intro t a17 w17 hk17 h
   obtain ⟨z17, s3_17, s4_17, s5_17, s6_17, s7_17, s8_17, kg4_17, kg5_17, kg7_17, low17⟩ := h
   clear k14 kg4_14 kg5_14 low15 s3_16 s4_16 s5_16 s6_16 s7_16 s8_16 z16
   refine c_seq (c_seq (c_region ?_))
   refine l_q rfl (q_move _ _ rfl s8_17.ev ?_)
   refine l_q rfl (q_lss true rfl (At.hit z17 rfl).ev rfl (decide_eq_true (by omega)) ?_)
   refine l_end (e_fresh z17.p2 ?_)
   intro a18 z18 m18
   have s3_18 := m18 _ _ (s3_17.n2)
   have s4_18 := m18 _ _ (s4_17.n2)
   have s5_18 := m18 _ _ (s5_17.n2)
   have s6_18 := m18 _ _ (s6_17.n2)
   have s7_18 := m18 _ _ (s7_17.n2)
   have s8_18 := m18 _ _ (s8_17.n2)
   have s37_18 := m18 _ _ (At.hit z17.put rfl)
   clear m18
   refine e_then (c_true s37_18 ?_)
   refine wp_skip (e_then (c_seq (wp_block (c_seq (c_region ?_)))))
   refine l_q rfl (q_move _ _ rfl s6_18.ev ?_)
   refine l_q rfl (q_move _ _ rfl (s8_18.n1).ev ?_)
   refine l_q rfl (q_mul (((4 * t : Nat) : Int)) rfl rfl (At.hit z18.put rfl).ev (i64_is (by omega) (by omega) (by omega)) ?_)
   refine l_q rfl (q_add (((64 * b + 4 * t : Nat) : Int)) rfl ((At.hit z18 rfl).n2).ev (At.hit z18.p2 rfl).ev (i64_is (by omega) (by omega) (by omega)) ?_)
   refine l_q rfl (q_assign _ _ rfl (At.hit z18.p3 rfl).ev ?_)
   refine l_end (e_fresh z18.p5 ?_)
   intro a19 z19 m19
   have s3_19 := m19 _ _ (s3_18.n5)
   have s4_19 := m19 _ _ (s4_18.n5)
   have s5_19 := m19 _ _ (s5_18.n5)
   have s6_19 := m19 _ _ (s6_18.n5)
   have s7_19 := m19 _ _ (s7_18.n5)
   have s8_19 := m19 _ _ (s8_18.n5)
   have s9_19 := m19 _ _ (At.hit z18.p4 rfl)
   clear m19
   refine e_then (region_low_tail 27 hm (by kernel_rfl) ?_)
   simp only [List.take_succ_cons, List.take_zero, List.drop_succ_cons, List.drop_zero]
   refine qs (q_move _ _ rfl s8_19.ev ?_)
   refine qs (q_move _ _ rfl (s3_19.n1).ev ?_)
   refine qs (q_move _ _ rfl (s9_19.n2).ev ?_)
   refine qs (q_stridx (j := 64 * b + 4 * t) rfl Tryz.underlying9 ((At.hit z19.put rfl).n1).ev (At.hit z19.p2 rfl).ev (by omega) ?_)
   refine qs (q_conv _ rfl (At.hit z19.p3 rfl).ev Tryz.underlying5 Tryz.underlying64 rfl ?_)
   refine qs (q_mul _ rfl (At.hit z19.p4 rfl).ev rfl rfl ?_)
   refine qs (q_move _ _ rfl (s3_19.n6).ev ?_)
   refine qs (q_move _ _ rfl (s9_19.n7).ev ?_)
   refine q_fresh z19.p8 ?_
   intro a20 z20 m20
   have s3_20 := m20 _ _ (s3_19.n8)
   have s4_20 := m20 _ _ (s4_19.n8)
   have s5_20 := m20 _ _ (s5_19.n8)
   have s6_20 := m20 _ _ (s6_19.n8)
   have s7_20 := m20 _ _ (s7_19.n8)
   have s8_20 := m20 _ _ (s8_19.n8)
   have s9_20 := m20 _ _ (s9_19.n8)
   have s44_20 := m20 _ _ ((At.hit z19 rfl).n7)
   have s49_20 := m20 _ _ ((At.hit z19.p5 rfl).n2)
   have s50_20 := m20 _ _ ((At.hit z19.p6 rfl).n1)
   have s51_20 := m20 _ _ (At.hit z19.p7 rfl)
   clear m20
   refine qs (q_add (((64 * b + 4 * t + 1 : Nat) : Int)) rfl s51_20.ev rfl (i64_is (by omega) (by omega) (by omega)) ?_)
   refine qs (q_stridx (j := 64 * b + 4 * t + 1) rfl Tryz.underlying9 (s50_20.n1).ev (At.hit z20 rfl).ev (by omega) ?_)
   refine qs (q_conv _ rfl (At.hit z20.put rfl).ev Tryz.underlying5 Tryz.underlying64 rfl ?_)
   refine qs (q_mul _ rfl (At.hit z20.p2 rfl).ev rfl rfl ?_)
   refine qs (q_add _ rfl (s49_20.n4).ev (At.hit z20.p3 rfl).ev rfl ?_)
   refine qs (q_move _ _ rfl (s3_20.n5).ev ?_)
   refine qs (q_move _ _ rfl (s9_20.n6).ev ?_)
   refine qs (q_add (((64 * b + 4 * t + 2 : Nat) : Int)) rfl (At.hit z20.p6 rfl).ev rfl (i64_is (by omega) (by omega) (by omega)) ?_)
   refine q_fresh z20.p8 ?_
   intro a21 z21 m21
   have s3_21 := m21 _ _ (s3_20.n8)
   have s4_21 := m21 _ _ (s4_20.n8)
   have s5_21 := m21 _ _ (s5_20.n8)
   have s6_21 := m21 _ _ (s6_20.n8)
   have s7_21 := m21 _ _ (s7_20.n8)
   have s8_21 := m21 _ _ (s8_20.n8)
   have s9_21 := m21 _ _ (s9_20.n8)
   have s44_21 := m21 _ _ (s44_20.n8)
   have s56_21 := m21 _ _ ((At.hit z20.p4 rfl).n3)
   have s57_21 := m21 _ _ ((At.hit z20.p5 rfl).n2)
   have s59_21 := m21 _ _ (At.hit z20.p7 rfl)
   clear m21
   refine qs (q_stridx (j := 64 * b + 4 * t + 2) rfl Tryz.underlying9 s57_21.ev s59_21.ev (by omega) ?_)
   refine qs (q_conv _ rfl (At.hit z21 rfl).ev Tryz.underlying5 Tryz.underlying64 rfl ?_)
   refine qs (q_mul _ rfl (At.hit z21.put rfl).ev rfl rfl ?_)
   refine qs (q_add _ rfl (s56_21.n3).ev (At.hit z21.p2 rfl).ev rfl ?_)
   refine qs (q_move _ _ rfl (s3_21.n4).ev ?_)
   refine qs (q_move _ _ rfl (s9_21.n5).ev ?_)
   refine qs (q_add (((64 * b + 4 * t + 3 : Nat) : Int)) rfl (At.hit z21.p5 rfl).ev rfl (i64_is (by omega) (by omega) (by omega)) ?_)
   refine qs (q_stridx (j := 64 * b + 4 * t + 3) rfl Tryz.underlying9 ((At.hit z21.p4 rfl).n2).ev (At.hit z21.p6 rfl).ev (by omega) ?_)
   refine q_fresh z21.p8 ?_
   intro a22 z22 m22
   have s3_22 := m22 _ _ (s3_21.n8)
   have s4_22 := m22 _ _ (s4_21.n8)
   have s5_22 := m22 _ _ (s5_21.n8)
   have s6_22 := m22 _ _ (s6_21.n8)
   have s7_22 := m22 _ _ (s7_21.n8)
   have s8_22 := m22 _ _ (s8_21.n8)
   have s44_22 := m22 _ _ (s44_21.n8)
   have s63_22 := m22 _ _ ((At.hit z21.p3 rfl).n4)
   have s67_22 := m22 _ _ (At.hit z21.p7 rfl)
   clear m22
   refine qs (q_conv _ rfl s67_22.ev Tryz.underlying5 Tryz.underlying64 rfl ?_)
   refine qs (q_add _ rfl (s63_22.n1).ev (At.hit z22 rfl).ev rfl ?_)
   refine qs (q_idx (j := t) rfl Tryz.underlying75 sz64 (s7_22.n2).ev (s44_22.n2).ev (by omega) ?_)
   refine qz ?_
   intro w23 h23
   have kg4_23 := h23.blk kg4_17
   have kg5_23 := h23.blk kg5_17
   have kg7_23 := h23.blk kg7_17
   refine l_cell (j := t) (v := .int .u32 (IntKind.u32.wrap ((IntKind.u32.wrap ((IntKind.u32.wrap ((IntKind.u32.wrap ((IntKind.u32.wrap (((fillR s)[64 * b + 4 * t]'(by omega)).toNat : Int)) * 16777216)) + (IntKind.u32.wrap ((IntKind.u32.wrap (((fillR s)[64 * b + 4 * t + 1]'(by omega)).toNat : Int)) * 65536)))) + (IntKind.u32.wrap ((IntKind.u32.wrap (((fillR s)[64 * b + 4 * t + 2]'(by omega)).toNat : Int)) * 256)))) + (IntKind.u32.wrap (((fillR s)[64 * b + 4 * t + 3]'(by omega)).toNat : Int))))) rfl rfl rfl sz64 (At.hit z22.p2 rfl).ev ((At.hit z22.put rfl).n1).ev rfl kg7_23 (by rw [(nums_size _ _).trans (wR_len _ t)]; omega) ?_
   intro w24 k24 u24
   rw [nums_put] at k24
   have kg4_24 := u24.blk kg4_23 (by omega)
   have kg5_24 := u24.blk kg5_23 (by omega)
   refine l_end (e_fresh z22.p3 ?_)
   intro a25 z25 m25
   have s3_25 := m25 _ _ (s3_22.n3)
   have s4_25 := m25 _ _ (s4_22.n3)
   have s5_25 := m25 _ _ (s5_22.n3)
   have s6_25 := m25 _ _ (s6_22.n3)
   have s7_25 := m25 _ _ (s7_22.n3)
   have s8_25 := m25 _ _ (s8_22.n3)
   have low25 := ((low17.trans h23).upd u24 geg7)
   clear m25
   refine e_in (e_then (c_region ?_))
   refine l_q rfl (q_move _ _ rfl s8_25.ev ?_)
   refine l_q rfl (q_add (((t + 1 : Nat) : Int)) rfl (At.hit z25 rfl).ev rfl (i64_is (by omega) (by omega) (by omega)) ?_)
   refine l_q rfl (q_assign _ _ rfl (At.hit z25.put rfl).ev ?_)
   refine l_end (e_fresh z25.p3 ?_)
   intro a26 z26 m26
   have s3_26 := m26 _ _ (s3_25.n3)
   have s4_26 := m26 _ _ (s4_25.n3)
   have s5_26 := m26 _ _ (s5_25.n3)
   have s6_26 := m26 _ _ (s6_25.n3)
   have s7_26 := m26 _ _ (s7_25.n3)
   have s8_26 := m26 _ _ (At.hit z25.p2 rfl)
   clear m26
   simp only [bt_in] at k24
   exact ⟨z26, s3_26, s4_26, s5_26, s6_26, s7_26, s8_26, kg4_24, kg5_24, k24, low25⟩
  ·
   intro a27 w27 h
   obtain ⟨z27, s3_27, s4_27, s5_27, s6_27, s7_27, s8_27, kg4_27, kg5_27, kg7_27, low27⟩ := h
   clear k14 kg4_14 kg5_14 low15 s3_16 s4_16 s5_16 s6_16 s7_16 s8_16 z16
   refine c_seq (c_seq (c_region ?_))
   refine l_q rfl (q_move _ _ rfl s8_27.ev ?_)
   refine l_q rfl (q_lss false rfl (At.hit z27 rfl).ev rfl (decide_eq_false (by omega)) ?_)
   refine l_end (e_fresh z27.p2 ?_)
   intro a28 z28 m28
   have s3_28 := m28 _ _ (s3_27.n2)
   have s4_28 := m28 _ _ (s4_27.n2)
   have s5_28 := m28 _ _ (s5_27.n2)
   have s6_28 := m28 _ _ (s6_27.n2)
   have s7_28 := m28 _ _ (s7_27.n2)
   have s8_28 := m28 _ _ (s8_27.n2)
   have s37_28 := m28 _ _ (At.hit z27.put rfl)
   clear m28
   refine e_then (c_false s37_28 ?_)
   refine wp_exit (x_then (x_then (in_exit (e_then (c_seq (c_seq (c_region ?_)))))))
   refine l_q rfl (q_assign _ _ rfl rfl ?_)
   refine l_end (e_fresh z28.put ?_)
   intro a29 z29 m29
   have s3_29 := m29 _ _ (s3_28.n1)
   have s4_29 := m29 _ _ (s4_28.n1)
   have s5_29 := m29 _ _ (s5_28.n1)
   have s6_29 := m29 _ _ (s6_28.n1)
   have s7_29 := m29 _ _ (s7_28.n1)
   have s10_29 := m29 _ _ (At.hit z28 rfl)
   clear m29
   refine e_then (wp_block (c_loop 48 (fun d a w => Fr 251 a ∧ At a 3 (.string (fillR s)) ∧ At a 4 (.pointer (some ⟨g4, 0, none⟩)) ∧ At a 5 (.pointer (some ⟨g5, 0, none⟩)) ∧ At a 6 (.int .i64 ((64 * b : Nat) : Int)) ∧ At a 7 (.pointer (some ⟨g7, 0, none⟩)) ∧ At a 10 (.int .i64 ((d + 16 : Nat) : Int)) ∧ w.heap[g4]? = some (.cells (nums .u32 k256) 75) ∧ w.heap[g5]? = some (.cells (nums .u32 (chR2 (fillR s) b)) 77) ∧ w.heap[g7]? = some (.cells (nums .u32 (wE (wR (fb (fillR s) b) 16) d)) 75) ∧ Low w0 w) ?_ ?_ ?_))
   ·
    exact ⟨z29, s3_29, s4_29, s5_29, s6_29, s7_29, (s10_29.same (congrArg (Value.int .i64) (by omega))), kg4_27, kg5_27, kg7_27, low27⟩
   ·
    intro d a30 w30 hk30 h
    obtain ⟨z30, s3_30, s4_30, s5_30, s6_30, s7_30, s10_30, kg4_30, kg5_30, kg7_30, low30⟩ := h
    clear kg4_27 kg5_27 kg7_27 low27 s10_29 s3_29 s4_29 s5_29 s6_29 s7_29 z29
    refine c_seq (c_seq (c_region ?_))
    refine l_q rfl (q_move _ _ rfl s10_30.ev ?_)
    refine l_q rfl (q_lss true rfl (At.hit z30 rfl).ev rfl (decide_eq_true (by omega)) ?_)
    refine l_end (e_fresh z30.p2 ?_)
    intro a31 z31 m31
    have s3_31 := m31 _ _ (s3_30.n2)
    have s4_31 := m31 _ _ (s4_30.n2)
    have s5_31 := m31 _ _ (s5_30.n2)
    have s6_31 := m31 _ _ (s6_30.n2)
    have s7_31 := m31 _ _ (s7_30.n2)
    have s10_31 := m31 _ _ (s10_30.n2)
    have s72_31 := m31 _ _ (At.hit z30.put rfl)
    clear m31
    refine e_then (c_true s72_31 ?_)
    refine wp_skip (e_then (c_seq (wp_block (region_low_tail 47 hm (by kernel_rfl) ?_))))
    simp only [List.take_succ_cons, List.take_zero, List.drop_succ_cons, List.drop_zero]
    refine qs (q_move _ _ rfl s10_31.ev ?_)
    refine qs (q_move _ _ rfl (s10_31.n1).ev ?_)
    refine qs (q_sub (((d : Nat) : Int)) rfl (At.hit z31.put rfl).ev rfl (i64_is (by omega) (by omega) (by omega)) ?_)
    refine qs (q_idx (j := d) rfl Tryz.underlying75 sz64 (s7_31.n3).ev (At.hit z31.p2 rfl).ev (by omega) ?_)
    refine qs (q_cell (.int .u32 ((wE (wR (fb (fillR s) b) 16) d).getD d 0)) rfl Tryz.underlying64 (At.hit z31.p3 rfl).ev (fun _ h => nums_cell (h.blk kg7_30) d (by rw [(wE_len _ (wR_len _ 16) d)]; omega)) ?_)
    refine qs (q_move _ _ rfl (s10_31.n5).ev ?_)
    refine qs (q_sub (((d + 1 : Nat) : Int)) rfl (At.hit z31.p5 rfl).ev rfl (i64_is (by omega) (by omega) (by omega)) ?_)
    refine qs (q_idx (j := d + 1) rfl Tryz.underlying75 sz64 (s7_31.n7).ev (At.hit z31.p6 rfl).ev (by omega) ?_)
    refine q_fresh z31.p8 ?_
    intro a32 z32 m32
    have s3_32 := m32 _ _ (s3_31.n8)
    have s4_32 := m32 _ _ (s4_31.n8)
    have s5_32 := m32 _ _ (s5_31.n8)
    have s6_32 := m32 _ _ (s6_31.n8)
    have s7_32 := m32 _ _ (s7_31.n8)
    have s10_32 := m32 _ _ (s10_31.n8)
    have s75_32 := m32 _ _ ((At.hit z31 rfl).n7)
    have s79_32 := m32 _ _ ((At.hit z31.p4 rfl).n3)
    have s82_32 := m32 _ _ (At.hit z31.p7 rfl)
    clear m32
    refine qs (q_cell (.int .u32 ((wE (wR (fb (fillR s) b) 16) d).getD (d + 1) 0)) rfl Tryz.underlying64 s82_32.ev (fun _ h => nums_cell (h.blk kg7_30) (d + 1) (by rw [(wE_len _ (wR_len _ 16) d)]; omega)) ?_)
    refine qs (q_call (.int .u32 (turnR ((wE (wR (fb (fillR s) b) 16) d).getD (d + 1) 0) 7)) rfl rfl Tryz.func51 rfl (args2 rfl (At.hit z32 rfl).ev rfl) (fun _ h => (TurnR.calls ((wE (wR (fb (fillR s) b) 16) d).getD (d + 1) 0) 7 (by decide) _).mono fun _ _ ⟨e, k⟩ => ⟨e, h.trans k⟩) ?_)
    refine qs (q_move _ _ rfl (s10_32.n2).ev ?_)
    refine qs (q_sub (((d + 1 : Nat) : Int)) rfl (At.hit z32.p2 rfl).ev rfl (i64_is (by omega) (by omega) (by omega)) ?_)
    refine qs (q_idx (j := d + 1) rfl Tryz.underlying75 sz64 (s7_32.n4).ev (At.hit z32.p3 rfl).ev (by omega) ?_)
    refine qs (q_cell (.int .u32 ((wE (wR (fb (fillR s) b) 16) d).getD (d + 1) 0)) rfl Tryz.underlying64 (At.hit z32.p4 rfl).ev (fun _ h => nums_cell (h.blk kg7_30) (d + 1) (by rw [(wE_len _ (wR_len _ 16) d)]; omega)) ?_)
    refine qs (q_call (.int .u32 (turnR ((wE (wR (fb (fillR s) b) 16) d).getD (d + 1) 0) 18)) rfl rfl Tryz.func51 rfl (args2 rfl (At.hit z32.p5 rfl).ev rfl) (fun _ h => (TurnR.calls ((wE (wR (fb (fillR s) b) 16) d).getD (d + 1) 0) 18 (by decide) _).mono fun _ _ ⟨e, k⟩ => ⟨e, h.trans k⟩) ?_)
    refine qs (q_xor rfl ((At.hit z32.put rfl).n5).ev (At.hit z32.p6 rfl).ev ?_)
    refine q_fresh z32.p8 ?_
    intro a33 z33 m33
    have s3_33 := m33 _ _ (s3_32.n8)
    have s4_33 := m33 _ _ (s4_32.n8)
    have s5_33 := m33 _ _ (s5_32.n8)
    have s6_33 := m33 _ _ (s6_32.n8)
    have s7_33 := m33 _ _ (s7_32.n8)
    have s10_33 := m33 _ _ (s10_32.n8)
    have s75_33 := m33 _ _ (s75_32.n8)
    have s79_33 := m33 _ _ (s79_32.n8)
    have s90_33 := m33 _ _ (At.hit z32.p7 rfl)
    clear m33
    refine qs (q_move _ _ rfl s10_33.ev ?_)
    refine qs (q_sub (((d + 1 : Nat) : Int)) rfl (At.hit z33 rfl).ev rfl (i64_is (by omega) (by omega) (by omega)) ?_)
    refine qs (q_idx (j := d + 1) rfl Tryz.underlying75 sz64 (s7_33.n2).ev (At.hit z33.put rfl).ev (by omega) ?_)
    refine qs (q_cell (.int .u32 ((wE (wR (fb (fillR s) b) 16) d).getD (d + 1) 0)) rfl Tryz.underlying64 (At.hit z33.p2 rfl).ev (fun _ h => nums_cell (h.blk kg7_30) (d + 1) (by rw [(wE_len _ (wR_len _ 16) d)]; omega)) ?_)
    refine qs (q_shr (((wE (wR (fb (fillR s) b) 16) d).getD (d + 1) 0).fdiv (2 ^ min (3 : Int).toNat 32)) rfl (At.hit z33.p3 rfl).ev rfl (by first | omega | exact u64_nonneg _) rfl ?_)
    refine qs (q_xor rfl (s90_33.n5).ev (At.hit z33.p4 rfl).ev ?_)
    refine qs (q_add _ rfl (s79_33.n6).ev (At.hit z33.p5 rfl).ev rfl ?_)
    refine qs (q_move _ _ rfl (s10_33.n7).ev ?_)
    refine q_fresh z33.p8 ?_
    intro a34 z34 m34
    have s3_34 := m34 _ _ (s3_33.n8)
    have s4_34 := m34 _ _ (s4_33.n8)
    have s5_34 := m34 _ _ (s5_33.n8)
    have s6_34 := m34 _ _ (s6_33.n8)
    have s7_34 := m34 _ _ (s7_33.n8)
    have s10_34 := m34 _ _ (s10_33.n8)
    have s75_34 := m34 _ _ (s75_33.n8)
    have s97_34 := m34 _ _ ((At.hit z33.p6 rfl).n1)
    have s98_34 := m34 _ _ (At.hit z33.p7 rfl)
    clear m34
    refine qs (q_sub (((d + 9 : Nat) : Int)) rfl s98_34.ev rfl (i64_is (by omega) (by omega) (by omega)) ?_)
    refine qs (q_idx (j := d + 9) rfl Tryz.underlying75 sz64 (s7_34.n1).ev (At.hit z34 rfl).ev (by omega) ?_)
    refine qs (q_cell (.int .u32 ((wE (wR (fb (fillR s) b) 16) d).getD (d + 9) 0)) rfl Tryz.underlying64 (At.hit z34.put rfl).ev (fun _ h => nums_cell (h.blk kg7_30) (d + 9) (by rw [(wE_len _ (wR_len _ 16) d)]; omega)) ?_)
    refine qs (q_add _ rfl (s97_34.n3).ev (At.hit z34.p2 rfl).ev rfl ?_)
    refine qs (q_move _ _ rfl (s10_34.n4).ev ?_)
    refine qs (q_sub (((d + 14 : Nat) : Int)) rfl (At.hit z34.p4 rfl).ev rfl (i64_is (by omega) (by omega) (by omega)) ?_)
    refine qs (q_idx (j := d + 14) rfl Tryz.underlying75 sz64 (s7_34.n6).ev (At.hit z34.p5 rfl).ev (by omega) ?_)
    refine qs (q_cell (.int .u32 ((wE (wR (fb (fillR s) b) 16) d).getD (d + 14) 0)) rfl Tryz.underlying64 (At.hit z34.p6 rfl).ev (fun _ h => nums_cell (h.blk kg7_30) (d + 14) (by rw [(wE_len _ (wR_len _ 16) d)]; omega)) ?_)
    refine q_fresh z34.p8 ?_
    intro a35 z35 m35
    have s3_35 := m35 _ _ (s3_34.n8)
    have s4_35 := m35 _ _ (s4_34.n8)
    have s5_35 := m35 _ _ (s5_34.n8)
    have s6_35 := m35 _ _ (s6_34.n8)
    have s7_35 := m35 _ _ (s7_34.n8)
    have s10_35 := m35 _ _ (s10_34.n8)
    have s75_35 := m35 _ _ (s75_34.n8)
    have s102_35 := m35 _ _ ((At.hit z34.p3 rfl).n4)
    have s106_35 := m35 _ _ (At.hit z34.p7 rfl)
    clear m35
    refine qs (q_call (.int .u32 (turnR ((wE (wR (fb (fillR s) b) 16) d).getD (d + 14) 0) 17)) rfl rfl Tryz.func51 rfl (args2 rfl s106_35.ev rfl) (fun _ h => (TurnR.calls ((wE (wR (fb (fillR s) b) 16) d).getD (d + 14) 0) 17 (by decide) _).mono fun _ _ ⟨e, k⟩ => ⟨e, h.trans k⟩) ?_)
    refine qs (q_move _ _ rfl (s10_35.n1).ev ?_)
    refine qs (q_sub (((d + 14 : Nat) : Int)) rfl (At.hit z35.put rfl).ev rfl (i64_is (by omega) (by omega) (by omega)) ?_)
    refine qs (q_idx (j := d + 14) rfl Tryz.underlying75 sz64 (s7_35.n3).ev (At.hit z35.p2 rfl).ev (by omega) ?_)
    refine qs (q_cell (.int .u32 ((wE (wR (fb (fillR s) b) 16) d).getD (d + 14) 0)) rfl Tryz.underlying64 (At.hit z35.p3 rfl).ev (fun _ h => nums_cell (h.blk kg7_30) (d + 14) (by rw [(wE_len _ (wR_len _ 16) d)]; omega)) ?_)
    refine qs (q_call (.int .u32 (turnR ((wE (wR (fb (fillR s) b) 16) d).getD (d + 14) 0) 19)) rfl rfl Tryz.func51 rfl (args2 rfl (At.hit z35.p4 rfl).ev rfl) (fun _ h => (TurnR.calls ((wE (wR (fb (fillR s) b) 16) d).getD (d + 14) 0) 19 (by decide) _).mono fun _ _ ⟨e, k⟩ => ⟨e, h.trans k⟩) ?_)
    refine qs (q_xor rfl ((At.hit z35 rfl).n5).ev (At.hit z35.p5 rfl).ev ?_)
    refine qs (q_move _ _ rfl (s10_35.n7).ev ?_)
    refine q_fresh z35.p8 ?_
    intro a36 z36 m36
    have s3_36 := m36 _ _ (s3_35.n8)
    have s4_36 := m36 _ _ (s4_35.n8)
    have s5_36 := m36 _ _ (s5_35.n8)
    have s6_36 := m36 _ _ (s6_35.n8)
    have s7_36 := m36 _ _ (s7_35.n8)
    have s10_36 := m36 _ _ (s10_35.n8)
    have s75_36 := m36 _ _ (s75_35.n8)
    have s102_36 := m36 _ _ (s102_35.n8)
    have s113_36 := m36 _ _ ((At.hit z35.p6 rfl).n1)
    have s114_36 := m36 _ _ (At.hit z35.p7 rfl)
    clear m36
    refine qs (q_sub (((d + 14 : Nat) : Int)) rfl s114_36.ev rfl (i64_is (by omega) (by omega) (by omega)) ?_)
    refine qs (q_idx (j := d + 14) rfl Tryz.underlying75 sz64 (s7_36.n1).ev (At.hit z36 rfl).ev (by omega) ?_)
    refine qs (q_cell (.int .u32 ((wE (wR (fb (fillR s) b) 16) d).getD (d + 14) 0)) rfl Tryz.underlying64 (At.hit z36.put rfl).ev (fun _ h => nums_cell (h.blk kg7_30) (d + 14) (by rw [(wE_len _ (wR_len _ 16) d)]; omega)) ?_)
    refine qs (q_shr (((wE (wR (fb (fillR s) b) 16) d).getD (d + 14) 0).fdiv (2 ^ min (10 : Int).toNat 32)) rfl (At.hit z36.p2 rfl).ev rfl (by first | omega | exact u64_nonneg _) rfl ?_)
    refine qs (q_xor rfl (s113_36.n4).ev (At.hit z36.p3 rfl).ev ?_)
    refine qs (q_add _ rfl (s102_36.n5).ev (At.hit z36.p4 rfl).ev rfl ?_)
    refine qs (q_idx (j := d + 16) rfl Tryz.underlying75 sz64 (s7_36.n6).ev (s75_36.n6).ev (by omega) ?_)
    refine qz ?_
    intro w37 h37
    have kg4_37 := h37.blk kg4_30
    have kg5_37 := h37.blk kg5_30
    have kg7_37 := h37.blk kg7_30
    refine l_cell (j := (d + 16)) (v := .int .u32 (IntKind.u32.wrap ((IntKind.u32.wrap ((IntKind.u32.wrap (((wE (wR (fb (fillR s) b) 16) d).getD d 0) + (Go.bits .xor .u32 (Go.bits .xor .u32 (turnR ((wE (wR (fb (fillR s) b) 16) d).getD (d + 1) 0) 7) (turnR ((wE (wR (fb (fillR s) b) 16) d).getD (d + 1) 0) 18)) (((wE (wR (fb (fillR s) b) 16) d).getD (d + 1) 0).fdiv (2 ^ min (3 : Int).toNat 32))))) + ((wE (wR (fb (fillR s) b) 16) d).getD (d + 9) 0))) + (Go.bits .xor .u32 (Go.bits .xor .u32 (turnR ((wE (wR (fb (fillR s) b) 16) d).getD (d + 14) 0) 17) (turnR ((wE (wR (fb (fillR s) b) 16) d).getD (d + 14) 0) 19)) (((wE (wR (fb (fillR s) b) 16) d).getD (d + 14) 0).fdiv (2 ^ min (10 : Int).toNat 32)))))) rfl rfl rfl sz64 (At.hit z36.p6 rfl).ev ((At.hit z36.p5 rfl).n1).ev rfl kg7_37 (by rw [(nums_size _ _).trans (wE_len _ (wR_len _ 16) d)]; omega) ?_
    intro w38 k38 u38
    rw [nums_put] at k38
    have kg4_38 := u38.blk kg4_37 (by omega)
    have kg5_38 := u38.blk kg5_37 (by omega)
    refine l_end (e_fresh z36.p7 ?_)
    intro a39 z39 m39
    have s3_39 := m39 _ _ (s3_36.n7)
    have s4_39 := m39 _ _ (s4_36.n7)
    have s5_39 := m39 _ _ (s5_36.n7)
    have s6_39 := m39 _ _ (s6_36.n7)
    have s7_39 := m39 _ _ (s7_36.n7)
    have s10_39 := m39 _ _ (s10_36.n7)
    have low39 := ((low30.trans h37).upd u38 geg7)
    clear m39
    refine e_in (e_then (c_region ?_))
    refine l_q rfl (q_move _ _ rfl s10_39.ev ?_)
    refine l_q rfl (q_add (((d + 17 : Nat) : Int)) rfl (At.hit z39 rfl).ev rfl (i64_is (by omega) (by omega) (by omega)) ?_)
    refine l_q rfl (q_assign _ _ rfl (At.hit z39.put rfl).ev ?_)
    refine l_end (e_fresh z39.p3 ?_)
    intro a40 z40 m40
    have s3_40 := m40 _ _ (s3_39.n3)
    have s4_40 := m40 _ _ (s4_39.n3)
    have s5_40 := m40 _ _ (s5_39.n3)
    have s6_40 := m40 _ _ (s6_39.n3)
    have s7_40 := m40 _ _ (s7_39.n3)
    have s10_40 := m40 _ _ (At.hit z39.p2 rfl)
    clear m40
    exact ⟨z40, s3_40, s4_40, s5_40, s6_40, s7_40, (s10_40.same (congrArg (Value.int .i64) (by omega))), kg4_38, kg5_38, k38, low39⟩
   ·
    intro a41 w41 h
    obtain ⟨z41, s3_41, s4_41, s5_41, s6_41, s7_41, s10_41, kg4_41, kg5_41, kg7_41, low41⟩ := h
    clear kg4_27 kg5_27 kg7_27 low27 s10_29 s3_29 s4_29 s5_29 s6_29 s7_29 z29
    refine c_seq (c_seq (c_region ?_))
    refine l_q rfl (q_move _ _ rfl s10_41.ev ?_)
    refine l_q rfl (q_lss false rfl (At.hit z41 rfl).ev rfl (decide_eq_false (by omega)) ?_)
    refine l_end (e_fresh z41.p2 ?_)
    intro a42 z42 m42
    have s3_42 := m42 _ _ (s3_41.n2)
    have s4_42 := m42 _ _ (s4_41.n2)
    have s5_42 := m42 _ _ (s5_41.n2)
    have s6_42 := m42 _ _ (s6_41.n2)
    have s7_42 := m42 _ _ (s7_41.n2)
    have s10_42 := m42 _ _ (s10_41.n2)
    have s72_42 := m42 _ _ (At.hit z41.put rfl)
    clear m42
    refine e_then (c_false s72_42 ?_)
    refine wp_exit (x_then (x_then (in_exit (e_then (c_seq (region_low hm (by kernel_rfl) ?_))))))
    refine qs (q_idx (j := 0) rfl Tryz.underlying77 sz64 s5_42.ev rfl (by omega) ?_)
    refine qs (q_cell (.int .u32 ((chR2 (fillR s) b).getD 0 0)) rfl Tryz.underlying64 (At.hit z42 rfl).ev (fun _ h => nums_cell (h.blk kg5_41) 0 (by rw [(chR2_len _ b)]; omega)) ?_)
    refine qs (q_idx (j := 1) rfl Tryz.underlying77 sz64 (s5_42.n2).ev rfl (by omega) ?_)
    refine qs (q_cell (.int .u32 ((chR2 (fillR s) b).getD 1 0)) rfl Tryz.underlying64 (At.hit z42.p2 rfl).ev (fun _ h => nums_cell (h.blk kg5_41) 1 (by rw [(chR2_len _ b)]; omega)) ?_)
    refine qs (q_idx (j := 2) rfl Tryz.underlying77 sz64 (s5_42.n4).ev rfl (by omega) ?_)
    refine qs (q_cell (.int .u32 ((chR2 (fillR s) b).getD 2 0)) rfl Tryz.underlying64 (At.hit z42.p4 rfl).ev (fun _ h => nums_cell (h.blk kg5_41) 2 (by rw [(chR2_len _ b)]; omega)) ?_)
    refine qs (q_idx (j := 3) rfl Tryz.underlying77 sz64 (s5_42.n6).ev rfl (by omega) ?_)
    refine qs (q_cell (.int .u32 ((chR2 (fillR s) b).getD 3 0)) rfl Tryz.underlying64 (At.hit z42.p6 rfl).ev (fun _ h => nums_cell (h.blk kg5_41) 3 (by rw [(chR2_len _ b)]; omega)) ?_)
    refine q_fresh z42.p8 ?_
    intro a43 z43 m43
    have s3_43 := m43 _ _ (s3_42.n8)
    have s4_43 := m43 _ _ (s4_42.n8)
    have s5_43 := m43 _ _ (s5_42.n8)
    have s6_43 := m43 _ _ (s6_42.n8)
    have s7_43 := m43 _ _ (s7_42.n8)
    have s123_43 := m43 _ _ ((At.hit z42.put rfl).n6)
    have s125_43 := m43 _ _ ((At.hit z42.p3 rfl).n4)
    have s127_43 := m43 _ _ ((At.hit z42.p5 rfl).n2)
    have s129_43 := m43 _ _ (At.hit z42.p7 rfl)
    clear m43
    refine qs (q_idx (j := 4) rfl Tryz.underlying77 sz64 s5_43.ev rfl (by omega) ?_)
    refine qs (q_cell (.int .u32 ((chR2 (fillR s) b).getD 4 0)) rfl Tryz.underlying64 (At.hit z43 rfl).ev (fun _ h => nums_cell (h.blk kg5_41) 4 (by rw [(chR2_len _ b)]; omega)) ?_)
    refine qs (q_idx (j := 5) rfl Tryz.underlying77 sz64 (s5_43.n2).ev rfl (by omega) ?_)
    refine qs (q_cell (.int .u32 ((chR2 (fillR s) b).getD 5 0)) rfl Tryz.underlying64 (At.hit z43.p2 rfl).ev (fun _ h => nums_cell (h.blk kg5_41) 5 (by rw [(chR2_len _ b)]; omega)) ?_)
    refine qs (q_idx (j := 6) rfl Tryz.underlying77 sz64 (s5_43.n4).ev rfl (by omega) ?_)
    refine qs (q_cell (.int .u32 ((chR2 (fillR s) b).getD 6 0)) rfl Tryz.underlying64 (At.hit z43.p4 rfl).ev (fun _ h => nums_cell (h.blk kg5_41) 6 (by rw [(chR2_len _ b)]; omega)) ?_)
    refine qs (q_idx (j := 7) rfl Tryz.underlying77 sz64 (s5_43.n6).ev rfl (by omega) ?_)
    refine qs (q_cell (.int .u32 ((chR2 (fillR s) b).getD 7 0)) rfl Tryz.underlying64 (At.hit z43.p6 rfl).ev (fun _ h => nums_cell (h.blk kg5_41) 7 (by rw [(chR2_len _ b)]; omega)) ?_)
    refine q_fresh z43.p8 ?_
    intro a44 z44 m44
    have s3_44 := m44 _ _ (s3_43.n8)
    have s4_44 := m44 _ _ (s4_43.n8)
    have s5_44 := m44 _ _ (s5_43.n8)
    have s6_44 := m44 _ _ (s6_43.n8)
    have s7_44 := m44 _ _ (s7_43.n8)
    have s123_44 := m44 _ _ (s123_43.n8)
    have s125_44 := m44 _ _ (s125_43.n8)
    have s127_44 := m44 _ _ (s127_43.n8)
    have s129_44 := m44 _ _ (s129_43.n8)
    have s131_44 := m44 _ _ ((At.hit z43.put rfl).n6)
    have s133_44 := m44 _ _ ((At.hit z43.p3 rfl).n4)
    have s135_44 := m44 _ _ ((At.hit z43.p5 rfl).n2)
    have s137_44 := m44 _ _ (At.hit z43.p7 rfl)
    clear m44
    refine qs (q_assign _ _ rfl s123_44.ev ?_)
    refine qs (q_assign _ _ rfl (s125_44.n1).ev ?_)
    refine qs (q_assign _ _ rfl (s127_44.n2).ev ?_)
    refine qs (q_assign _ _ rfl (s129_44.n3).ev ?_)
    refine qs (q_assign _ _ rfl (s131_44.n4).ev ?_)
    refine qs (q_assign _ _ rfl (s133_44.n5).ev ?_)
    refine qs (q_assign _ _ rfl (s135_44.n6).ev ?_)
    refine qs (q_assign _ _ rfl (s137_44.n7).ev ?_)
    refine qz ?_
    intro w45 h45
    have kg4_45 := h45.blk kg4_41
    have kg5_45 := h45.blk kg5_41
    have kg7_45 := h45.blk kg7_41
    refine e_id (e_fresh z44.p8 ?_)
    intro a46 z46 m46
    have s3_46 := m46 _ _ (s3_44.n8)
    have s4_46 := m46 _ _ (s4_44.n8)
    have s5_46 := m46 _ _ (s5_44.n8)
    have s6_46 := m46 _ _ (s6_44.n8)
    have s7_46 := m46 _ _ (s7_44.n8)
    have s11_46 := m46 _ _ ((At.hit z44 rfl).n7)
    have s12_46 := m46 _ _ ((At.hit z44.put rfl).n6)
    have s13_46 := m46 _ _ ((At.hit z44.p2 rfl).n5)
    have s14_46 := m46 _ _ ((At.hit z44.p3 rfl).n4)
    have s15_46 := m46 _ _ ((At.hit z44.p4 rfl).n3)
    have s16_46 := m46 _ _ ((At.hit z44.p5 rfl).n2)
    have s17_46 := m46 _ _ ((At.hit z44.p6 rfl).n1)
    have s18_46 := m46 _ _ (At.hit z44.p7 rfl)
    have low46 := (low41.trans h45)
    clear m46
    refine e_then (c_seq (c_seq (c_region ?_)))
    refine l_q rfl (q_assign _ _ rfl rfl ?_)
    refine l_end (e_fresh z46.put ?_)
    intro a47 z47 m47
    have s3_47 := m47 _ _ (s3_46.n1)
    have s4_47 := m47 _ _ (s4_46.n1)
    have s5_47 := m47 _ _ (s5_46.n1)
    have s6_47 := m47 _ _ (s6_46.n1)
    have s7_47 := m47 _ _ (s7_46.n1)
    have s11_47 := m47 _ _ (s11_46.n1)
    have s12_47 := m47 _ _ (s12_46.n1)
    have s13_47 := m47 _ _ (s13_46.n1)
    have s14_47 := m47 _ _ (s14_46.n1)
    have s15_47 := m47 _ _ (s15_46.n1)
    have s16_47 := m47 _ _ (s16_46.n1)
    have s17_47 := m47 _ _ (s17_46.n1)
    have s18_47 := m47 _ _ (s18_46.n1)
    have s19_47 := m47 _ _ (At.hit z46 rfl)
    clear m47
    refine e_then (wp_block (c_loop 64 (fun t a w => Fr 251 a ∧ At a 3 (.string (fillR s)) ∧ At a 4 (.pointer (some ⟨g4, 0, none⟩)) ∧ At a 5 (.pointer (some ⟨g5, 0, none⟩)) ∧ At a 6 (.int .i64 ((64 * b : Nat) : Int)) ∧ At a 7 (.pointer (some ⟨g7, 0, none⟩)) ∧ At a 11 (.int .u32 ((roundsR (wE16 (fillR s) b) (chR2 (fillR s) b) t).getD 0 0)) ∧ At a 12 (.int .u32 ((roundsR (wE16 (fillR s) b) (chR2 (fillR s) b) t).getD 1 0)) ∧ At a 13 (.int .u32 ((roundsR (wE16 (fillR s) b) (chR2 (fillR s) b) t).getD 2 0)) ∧ At a 14 (.int .u32 ((roundsR (wE16 (fillR s) b) (chR2 (fillR s) b) t).getD 3 0)) ∧ At a 15 (.int .u32 ((roundsR (wE16 (fillR s) b) (chR2 (fillR s) b) t).getD 4 0)) ∧ At a 16 (.int .u32 ((roundsR (wE16 (fillR s) b) (chR2 (fillR s) b) t).getD 5 0)) ∧ At a 17 (.int .u32 ((roundsR (wE16 (fillR s) b) (chR2 (fillR s) b) t).getD 6 0)) ∧ At a 18 (.int .u32 ((roundsR (wE16 (fillR s) b) (chR2 (fillR s) b) t).getD 7 0)) ∧ At a 19 (.int .i64 ((t : Nat) : Int)) ∧ w.heap[g4]? = some (.cells (nums .u32 k256) 75) ∧ w.heap[g5]? = some (.cells (nums .u32 (chR2 (fillR s) b)) 77) ∧ w.heap[g7]? = some (.cells (nums .u32 (wE (wR (fb (fillR s) b) 16) 48)) 75) ∧ Low w0 w) ?_ ?_ ?_))
    ·
     exact ⟨z47, s3_47, s4_47, s5_47, s6_47, s7_47, s11_47, s12_47, s13_47, s14_47, s15_47, s16_47, s17_47, s18_47, s19_47, kg4_45, kg5_45, kg7_45, low46⟩
    ·
     intro t a48 w48 hk48 h
     obtain ⟨z48, s3_48, s4_48, s5_48, s6_48, s7_48, s11_48, s12_48, s13_48, s14_48, s15_48, s16_48, s17_48, s18_48, s19_48, kg4_48, kg5_48, kg7_48, low48⟩ := h
     clear kg4_45 kg5_45 kg7_45 low46 s11_47 s12_47 s13_47 s14_47 s15_47 s16_47 s17_47 s18_47 s19_47 s3_47 s4_47 s5_47 s6_47 s7_47 z47
     refine c_seq (c_seq (c_region ?_))
     refine l_q rfl (q_move _ _ rfl s19_48.ev ?_)
     refine l_q rfl (q_lss true rfl (At.hit z48 rfl).ev rfl (decide_eq_true (by omega)) ?_)
     refine l_end (e_fresh z48.p2 ?_)
     intro a49 z49 m49
     have s3_49 := m49 _ _ (s3_48.n2)
     have s4_49 := m49 _ _ (s4_48.n2)
     have s5_49 := m49 _ _ (s5_48.n2)
     have s6_49 := m49 _ _ (s6_48.n2)
     have s7_49 := m49 _ _ (s7_48.n2)
     have s11_49 := m49 _ _ (s11_48.n2)
     have s12_49 := m49 _ _ (s12_48.n2)
     have s13_49 := m49 _ _ (s13_48.n2)
     have s14_49 := m49 _ _ (s14_48.n2)
     have s15_49 := m49 _ _ (s15_48.n2)
     have s16_49 := m49 _ _ (s16_48.n2)
     have s17_49 := m49 _ _ (s17_48.n2)
     have s18_49 := m49 _ _ (s18_48.n2)
     have s19_49 := m49 _ _ (s19_48.n2)
     have s139_49 := m49 _ _ (At.hit z48.put rfl)
     clear m49
     refine e_then (c_true s139_49 ?_)
     refine wp_skip (e_then (c_seq (wp_block (c_seq (region_low hm (by kernel_rfl) ?_)))))
     refine qs (q_move _ _ rfl s18_49.ev ?_)
     refine qs (q_move _ _ rfl (s15_49.n1).ev ?_)
     refine qs (q_call (.int .u32 (turnR ((roundsR (wE16 (fillR s) b) (chR2 (fillR s) b) t).getD 4 0) 6)) rfl rfl Tryz.func51 rfl (args2 rfl (At.hit z49.put rfl).ev rfl) (fun _ h => (TurnR.calls ((roundsR (wE16 (fillR s) b) (chR2 (fillR s) b) t).getD 4 0) 6 (by decide) _).mono fun _ _ ⟨e, k⟩ => ⟨e, h.trans k⟩) ?_)
     refine qs (q_move _ _ rfl (s15_49.n3).ev ?_)
     refine qs (q_call (.int .u32 (turnR ((roundsR (wE16 (fillR s) b) (chR2 (fillR s) b) t).getD 4 0) 11)) rfl rfl Tryz.func51 rfl (args2 rfl (At.hit z49.p3 rfl).ev rfl) (fun _ h => (TurnR.calls ((roundsR (wE16 (fillR s) b) (chR2 (fillR s) b) t).getD 4 0) 11 (by decide) _).mono fun _ _ ⟨e, k⟩ => ⟨e, h.trans k⟩) ?_)
     refine qs (q_xor rfl ((At.hit z49.p2 rfl).n2).ev (At.hit z49.p4 rfl).ev ?_)
     refine qs (q_move _ _ rfl (s15_49.n6).ev ?_)
     refine qs (q_call (.int .u32 (turnR ((roundsR (wE16 (fillR s) b) (chR2 (fillR s) b) t).getD 4 0) 25)) rfl rfl Tryz.func51 rfl (args2 rfl (At.hit z49.p6 rfl).ev rfl) (fun _ h => (TurnR.calls ((roundsR (wE16 (fillR s) b) (chR2 (fillR s) b) t).getD 4 0) 25 (by decide) _).mono fun _ _ ⟨e, k⟩ => ⟨e, h.trans k⟩) ?_)
     refine q_fresh z49.p8 ?_
     intro a50 z50 m50
     have s3_50 := m50 _ _ (s3_49.n8)
     have s4_50 := m50 _ _ (s4_49.n8)
     have s5_50 := m50 _ _ (s5_49.n8)
     have s6_50 := m50 _ _ (s6_49.n8)
     have s7_50 := m50 _ _ (s7_49.n8)
     have s11_50 := m50 _ _ (s11_49.n8)
     have s12_50 := m50 _ _ (s12_49.n8)
     have s13_50 := m50 _ _ (s13_49.n8)
     have s14_50 := m50 _ _ (s14_49.n8)
     have s15_50 := m50 _ _ (s15_49.n8)
     have s16_50 := m50 _ _ (s16_49.n8)
     have s17_50 := m50 _ _ (s17_49.n8)
     have s19_50 := m50 _ _ (s19_49.n8)
     have s142_50 := m50 _ _ ((At.hit z49 rfl).n7)
     have s147_50 := m50 _ _ ((At.hit z49.p5 rfl).n2)
     have s149_50 := m50 _ _ (At.hit z49.p7 rfl)
     clear m50
     refine qs (q_xor rfl s147_50.ev s149_50.ev ?_)
     refine qs (q_add _ rfl (s142_50.n1).ev (At.hit z50 rfl).ev rfl ?_)
     refine qs (q_move _ _ rfl (s15_50.n2).ev ?_)
     refine qs (q_move _ _ rfl (s16_50.n3).ev ?_)
     refine qs (q_and rfl ((At.hit z50.p2 rfl).n1).ev (At.hit z50.p3 rfl).ev ?_)
     refine qs (q_move _ _ rfl (s15_50.n5).ev ?_)
     refine qs (q_compl rfl (At.hit z50.p5 rfl).ev ?_)
     refine qs (q_move _ _ rfl (s17_50.n7).ev ?_)
     refine q_fresh z50.p8 ?_
     intro a51 z51 m51
     have s3_51 := m51 _ _ (s3_50.n8)
     have s4_51 := m51 _ _ (s4_50.n8)
     have s5_51 := m51 _ _ (s5_50.n8)
     have s6_51 := m51 _ _ (s6_50.n8)
     have s7_51 := m51 _ _ (s7_50.n8)
     have s11_51 := m51 _ _ (s11_50.n8)
     have s12_51 := m51 _ _ (s12_50.n8)
     have s13_51 := m51 _ _ (s13_50.n8)
     have s14_51 := m51 _ _ (s14_50.n8)
     have s15_51 := m51 _ _ (s15_50.n8)
     have s16_51 := m51 _ _ (s16_50.n8)
     have s17_51 := m51 _ _ (s17_50.n8)
     have s19_51 := m51 _ _ (s19_50.n8)
     have s151_51 := m51 _ _ ((At.hit z50.put rfl).n6)
     have s154_51 := m51 _ _ ((At.hit z50.p4 rfl).n3)
     have s156_51 := m51 _ _ ((At.hit z50.p6 rfl).n1)
     have s157_51 := m51 _ _ (At.hit z50.p7 rfl)
     clear m51
     refine qs (q_and rfl s156_51.ev s157_51.ev ?_)
     refine qs (q_xor rfl (s154_51.n1).ev (At.hit z51 rfl).ev ?_)
     refine qs (q_add _ rfl (s151_51.n2).ev (At.hit z51.put rfl).ev rfl ?_)
     refine qs (q_move _ _ rfl (s19_51.n3).ev ?_)
     refine qs (q_idx (j := t) rfl Tryz.underlying75 sz64 (s4_51.n4).ev (At.hit z51.p3 rfl).ev (by omega) ?_)
     refine qs (q_cell (.int .u32 (k256.getD t 0)) rfl Tryz.underlying64 (At.hit z51.p4 rfl).ev (fun _ h => nums_cell (h.blk kg4_48) t (by rw [k256_len]; omega)) ?_)
     refine qs (q_add _ rfl ((At.hit z51.p2 rfl).n3).ev (At.hit z51.p5 rfl).ev rfl ?_)
     refine qs (q_move _ _ rfl (s19_51.n7).ev ?_)
     refine q_fresh z51.p8 ?_
     intro a52 z52 m52
     have s3_52 := m52 _ _ (s3_51.n8)
     have s4_52 := m52 _ _ (s4_51.n8)
     have s5_52 := m52 _ _ (s5_51.n8)
     have s6_52 := m52 _ _ (s6_51.n8)
     have s7_52 := m52 _ _ (s7_51.n8)
     have s11_52 := m52 _ _ (s11_51.n8)
     have s12_52 := m52 _ _ (s12_51.n8)
     have s13_52 := m52 _ _ (s13_51.n8)
     have s14_52 := m52 _ _ (s14_51.n8)
     have s15_52 := m52 _ _ (s15_51.n8)
     have s16_52 := m52 _ _ (s16_51.n8)
     have s17_52 := m52 _ _ (s17_51.n8)
     have s19_52 := m52 _ _ (s19_51.n8)
     have s164_52 := m52 _ _ ((At.hit z51.p6 rfl).n1)
     have s165_52 := m52 _ _ (At.hit z51.p7 rfl)
     clear m52
     refine qs (q_idx (j := t) rfl Tryz.underlying75 sz64 s7_52.ev s165_52.ev (by omega) ?_)
     refine qs (q_cell (.int .u32 ((wE (wR (fb (fillR s) b) 16) 48).getD t 0)) rfl Tryz.underlying64 (At.hit z52 rfl).ev (fun _ h => nums_cell (h.blk kg7_48) t (by rw [(wE_len _ (wR_len _ 16) 48)]; omega)) ?_)
     refine qs (q_add _ rfl (s164_52.n2).ev (At.hit z52.put rfl).ev rfl ?_)
     refine qs (q_assign _ _ rfl (At.hit z52.p2 rfl).ev ?_)
     refine qz ?_
     intro w53 h53
     have kg4_53 := h53.blk kg4_48
     have kg5_53 := h53.blk kg5_48
     have kg7_53 := h53.blk kg7_48
     refine e_id (e_fresh z52.p4 ?_)
     intro a54 z54 m54
     have s3_54 := m54 _ _ (s3_52.n4)
     have s4_54 := m54 _ _ (s4_52.n4)
     have s5_54 := m54 _ _ (s5_52.n4)
     have s6_54 := m54 _ _ (s6_52.n4)
     have s7_54 := m54 _ _ (s7_52.n4)
     have s11_54 := m54 _ _ (s11_52.n4)
     have s12_54 := m54 _ _ (s12_52.n4)
     have s13_54 := m54 _ _ (s13_52.n4)
     have s14_54 := m54 _ _ (s14_52.n4)
     have s15_54 := m54 _ _ (s15_52.n4)
     have s16_54 := m54 _ _ (s16_52.n4)
     have s17_54 := m54 _ _ (s17_52.n4)
     have s19_54 := m54 _ _ (s19_52.n4)
     have s20_54 := m54 _ _ (At.hit z52.p3 rfl)
     have low54 := (low48.trans h53)
     clear m54
     refine e_then (c_seq (c_region ?_))
     refine l_q rfl (q_move _ _ rfl s11_54.ev ?_)
     refine l_call (fun v w' => v = .int .u32 (turnR ((roundsR (wE16 (fillR s) b) (chR2 (fillR s) b) t).getD 0 0) 2) ∧ Low w53 w') rfl rfl rfl Tryz.func51 rfl (args2 rfl (At.hit z54 rfl).ev rfl) ((TurnR.calls ((roundsR (wE16 (fillR s) b) (chR2 (fillR s) b) t).getD 0 0) 2 (by decide) _).mono fun _ _ ⟨e, k⟩ => ⟨_, e, rfl, k⟩) ?_
     rintro _ w55 ⟨rfl, h55⟩
     have kg4_55 := h55.blk kg4_53
     have kg5_55 := h55.blk kg5_53
     have kg7_55 := h55.blk kg7_53
     refine l_q rfl (q_move _ _ rfl (s11_54.n2).ev ?_)
     refine l_call (fun v w' => v = .int .u32 (turnR ((roundsR (wE16 (fillR s) b) (chR2 (fillR s) b) t).getD 0 0) 13) ∧ Low w55 w') rfl rfl rfl Tryz.func51 rfl (args2 rfl (At.hit z54.p2 rfl).ev rfl) ((TurnR.calls ((roundsR (wE16 (fillR s) b) (chR2 (fillR s) b) t).getD 0 0) 13 (by decide) _).mono fun _ _ ⟨e, k⟩ => ⟨_, e, rfl, k⟩) ?_
     rintro _ w56 ⟨rfl, h56⟩
     have kg4_56 := h56.blk kg4_55
     have kg5_56 := h56.blk kg5_55
     have kg7_56 := h56.blk kg7_55
     refine l_q rfl (q_xor rfl ((At.hit z54.put rfl).n2).ev (At.hit z54.p3 rfl).ev ?_)
     refine l_q rfl (q_move _ _ rfl (s11_54.n5).ev ?_)
     refine l_call (fun v w' => v = .int .u32 (turnR ((roundsR (wE16 (fillR s) b) (chR2 (fillR s) b) t).getD 0 0) 22) ∧ Low w56 w') rfl rfl rfl Tryz.func51 rfl (args2 rfl (At.hit z54.p5 rfl).ev rfl) ((TurnR.calls ((roundsR (wE16 (fillR s) b) (chR2 (fillR s) b) t).getD 0 0) 22 (by decide) _).mono fun _ _ ⟨e, k⟩ => ⟨_, e, rfl, k⟩) ?_
     rintro _ w57 ⟨rfl, h57⟩
     have kg4_57 := h57.blk kg4_56
     have kg5_57 := h57.blk kg5_56
     have kg7_57 := h57.blk kg7_56
     refine l_q rfl (q_xor rfl ((At.hit z54.p4 rfl).n2).ev (At.hit z54.p6 rfl).ev ?_)
     refine l_fresh z54.p8 ?_
     intro a58 z58 m58
     have s3_58 := m58 _ _ (s3_54.n8)
     have s4_58 := m58 _ _ (s4_54.n8)
     have s5_58 := m58 _ _ (s5_54.n8)
     have s6_58 := m58 _ _ (s6_54.n8)
     have s7_58 := m58 _ _ (s7_54.n8)
     have s11_58 := m58 _ _ (s11_54.n8)
     have s12_58 := m58 _ _ (s12_54.n8)
     have s13_58 := m58 _ _ (s13_54.n8)
     have s14_58 := m58 _ _ (s14_54.n8)
     have s15_58 := m58 _ _ (s15_54.n8)
     have s16_58 := m58 _ _ (s16_54.n8)
     have s17_58 := m58 _ _ (s17_54.n8)
     have s19_58 := m58 _ _ (s19_54.n8)
     have s20_58 := m58 _ _ (s20_54.n8)
     have s176_58 := m58 _ _ (At.hit z54.p7 rfl)
     clear m58
     refine l_q rfl (q_move _ _ rfl s11_58.ev ?_)
     refine l_q rfl (q_move _ _ rfl (s12_58.n1).ev ?_)
     refine l_q rfl (q_and rfl ((At.hit z58 rfl).n1).ev (At.hit z58.put rfl).ev ?_)
     refine l_q rfl (q_move _ _ rfl (s11_58.n3).ev ?_)
     refine l_q rfl (q_move _ _ rfl (s13_58.n4).ev ?_)
     refine l_q rfl (q_and rfl ((At.hit z58.p3 rfl).n1).ev (At.hit z58.p4 rfl).ev ?_)
     refine l_q rfl (q_xor rfl ((At.hit z58.p2 rfl).n3).ev (At.hit z58.p5 rfl).ev ?_)
     refine l_q rfl (q_move _ _ rfl (s12_58.n7).ev ?_)
     refine l_fresh z58.p8 ?_
     intro a59 z59 m59
     have s3_59 := m59 _ _ (s3_58.n8)
     have s4_59 := m59 _ _ (s4_58.n8)
     have s5_59 := m59 _ _ (s5_58.n8)
     have s6_59 := m59 _ _ (s6_58.n8)
     have s7_59 := m59 _ _ (s7_58.n8)
     have s11_59 := m59 _ _ (s11_58.n8)
     have s12_59 := m59 _ _ (s12_58.n8)
     have s13_59 := m59 _ _ (s13_58.n8)
     have s14_59 := m59 _ _ (s14_58.n8)
     have s15_59 := m59 _ _ (s15_58.n8)
     have s16_59 := m59 _ _ (s16_58.n8)
     have s17_59 := m59 _ _ (s17_58.n8)
     have s19_59 := m59 _ _ (s19_58.n8)
     have s20_59 := m59 _ _ (s20_58.n8)
     have s176_59 := m59 _ _ (s176_58.n8)
     have s183_59 := m59 _ _ ((At.hit z58.p6 rfl).n1)
     have s184_59 := m59 _ _ (At.hit z58.p7 rfl)
     clear m59
     refine l_q rfl (q_move _ _ rfl s13_59.ev ?_)
     refine l_q rfl (q_and rfl (s184_59.n1).ev (At.hit z59 rfl).ev ?_)
     refine l_q rfl (q_xor rfl (s183_59.n2).ev (At.hit z59.put rfl).ev ?_)
     refine l_q rfl (q_add _ rfl (s176_59.n3).ev (At.hit z59.p2 rfl).ev rfl ?_)
     refine l_q rfl (q_assign _ _ rfl (At.hit z59.p3 rfl).ev ?_)
     refine l_end (e_fresh z59.p5 ?_)
     intro a60 z60 m60
     have s3_60 := m60 _ _ (s3_59.n5)
     have s4_60 := m60 _ _ (s4_59.n5)
     have s5_60 := m60 _ _ (s5_59.n5)
     have s6_60 := m60 _ _ (s6_59.n5)
     have s7_60 := m60 _ _ (s7_59.n5)
     have s11_60 := m60 _ _ (s11_59.n5)
     have s12_60 := m60 _ _ (s12_59.n5)
     have s13_60 := m60 _ _ (s13_59.n5)
     have s14_60 := m60 _ _ (s14_59.n5)
     have s15_60 := m60 _ _ (s15_59.n5)
     have s16_60 := m60 _ _ (s16_59.n5)
     have s17_60 := m60 _ _ (s17_59.n5)
     have s19_60 := m60 _ _ (s19_59.n5)
     have s20_60 := m60 _ _ (s20_59.n5)
     have s21_60 := m60 _ _ (At.hit z59.p4 rfl)
     have low60 := (((low54.trans h55).trans h56).trans h57)
     clear m60
     refine e_then (c_seq (c_region ?_))
     refine l_q rfl (q_move _ _ rfl s17_60.ev ?_)
     refine l_q rfl (q_assign _ _ rfl (At.hit z60 rfl).ev ?_)
     refine l_end (e_fresh z60.p2 ?_)
     intro a61 z61 m61
     have s3_61 := m61 _ _ (s3_60.n2)
     have s4_61 := m61 _ _ (s4_60.n2)
     have s5_61 := m61 _ _ (s5_60.n2)
     have s6_61 := m61 _ _ (s6_60.n2)
     have s7_61 := m61 _ _ (s7_60.n2)
     have s11_61 := m61 _ _ (s11_60.n2)
     have s12_61 := m61 _ _ (s12_60.n2)
     have s13_61 := m61 _ _ (s13_60.n2)
     have s14_61 := m61 _ _ (s14_60.n2)
     have s15_61 := m61 _ _ (s15_60.n2)
     have s16_61 := m61 _ _ (s16_60.n2)
     have s18_61 := m61 _ _ (At.hit z60.put rfl)
     have s19_61 := m61 _ _ (s19_60.n2)
     have s20_61 := m61 _ _ (s20_60.n2)
     have s21_61 := m61 _ _ (s21_60.n2)
     clear m61
     refine e_then (c_seq (c_region ?_))
     refine l_q rfl (q_move _ _ rfl s16_61.ev ?_)
     refine l_q rfl (q_assign _ _ rfl (At.hit z61 rfl).ev ?_)
     refine l_end (e_fresh z61.p2 ?_)
     intro a62 z62 m62
     have s3_62 := m62 _ _ (s3_61.n2)
     have s4_62 := m62 _ _ (s4_61.n2)
     have s5_62 := m62 _ _ (s5_61.n2)
     have s6_62 := m62 _ _ (s6_61.n2)
     have s7_62 := m62 _ _ (s7_61.n2)
     have s11_62 := m62 _ _ (s11_61.n2)
     have s12_62 := m62 _ _ (s12_61.n2)
     have s13_62 := m62 _ _ (s13_61.n2)
     have s14_62 := m62 _ _ (s14_61.n2)
     have s15_62 := m62 _ _ (s15_61.n2)
     have s17_62 := m62 _ _ (At.hit z61.put rfl)
     have s18_62 := m62 _ _ (s18_61.n2)
     have s19_62 := m62 _ _ (s19_61.n2)
     have s20_62 := m62 _ _ (s20_61.n2)
     have s21_62 := m62 _ _ (s21_61.n2)
     clear m62
     refine e_then (c_seq (c_region ?_))
     refine l_q rfl (q_move _ _ rfl s15_62.ev ?_)
     refine l_q rfl (q_assign _ _ rfl (At.hit z62 rfl).ev ?_)
     refine l_end (e_fresh z62.p2 ?_)
     intro a63 z63 m63
     have s3_63 := m63 _ _ (s3_62.n2)
     have s4_63 := m63 _ _ (s4_62.n2)
     have s5_63 := m63 _ _ (s5_62.n2)
     have s6_63 := m63 _ _ (s6_62.n2)
     have s7_63 := m63 _ _ (s7_62.n2)
     have s11_63 := m63 _ _ (s11_62.n2)
     have s12_63 := m63 _ _ (s12_62.n2)
     have s13_63 := m63 _ _ (s13_62.n2)
     have s14_63 := m63 _ _ (s14_62.n2)
     have s16_63 := m63 _ _ (At.hit z62.put rfl)
     have s17_63 := m63 _ _ (s17_62.n2)
     have s18_63 := m63 _ _ (s18_62.n2)
     have s19_63 := m63 _ _ (s19_62.n2)
     have s20_63 := m63 _ _ (s20_62.n2)
     have s21_63 := m63 _ _ (s21_62.n2)
     clear m63
     refine e_then (c_seq (c_region ?_))
     refine l_q rfl (q_move _ _ rfl s14_63.ev ?_)
     refine l_q rfl (q_move _ _ rfl (s20_63.n1).ev ?_)
     refine l_q rfl (q_add _ rfl ((At.hit z63 rfl).n1).ev (At.hit z63.put rfl).ev rfl ?_)
     refine l_q rfl (q_assign _ _ rfl (At.hit z63.p2 rfl).ev ?_)
     refine l_end (e_fresh z63.p4 ?_)
     intro a64 z64 m64
     have s3_64 := m64 _ _ (s3_63.n4)
     have s4_64 := m64 _ _ (s4_63.n4)
     have s5_64 := m64 _ _ (s5_63.n4)
     have s6_64 := m64 _ _ (s6_63.n4)
     have s7_64 := m64 _ _ (s7_63.n4)
     have s11_64 := m64 _ _ (s11_63.n4)
     have s12_64 := m64 _ _ (s12_63.n4)
     have s13_64 := m64 _ _ (s13_63.n4)
     have s15_64 := m64 _ _ (At.hit z63.p3 rfl)
     have s16_64 := m64 _ _ (s16_63.n4)
     have s17_64 := m64 _ _ (s17_63.n4)
     have s18_64 := m64 _ _ (s18_63.n4)
     have s19_64 := m64 _ _ (s19_63.n4)
     have s20_64 := m64 _ _ (s20_63.n4)
     have s21_64 := m64 _ _ (s21_63.n4)
     clear m64
     refine e_then (c_seq (c_region ?_))
     refine l_q rfl (q_move _ _ rfl s13_64.ev ?_)
     refine l_q rfl (q_assign _ _ rfl (At.hit z64 rfl).ev ?_)
     refine l_end (e_fresh z64.p2 ?_)
     intro a65 z65 m65
     have s3_65 := m65 _ _ (s3_64.n2)
     have s4_65 := m65 _ _ (s4_64.n2)
     have s5_65 := m65 _ _ (s5_64.n2)
     have s6_65 := m65 _ _ (s6_64.n2)
     have s7_65 := m65 _ _ (s7_64.n2)
     have s11_65 := m65 _ _ (s11_64.n2)
     have s12_65 := m65 _ _ (s12_64.n2)
     have s14_65 := m65 _ _ (At.hit z64.put rfl)
     have s15_65 := m65 _ _ (s15_64.n2)
     have s16_65 := m65 _ _ (s16_64.n2)
     have s17_65 := m65 _ _ (s17_64.n2)
     have s18_65 := m65 _ _ (s18_64.n2)
     have s19_65 := m65 _ _ (s19_64.n2)
     have s20_65 := m65 _ _ (s20_64.n2)
     have s21_65 := m65 _ _ (s21_64.n2)
     clear m65
     refine e_then (c_seq (c_region ?_))
     refine l_q rfl (q_move _ _ rfl s12_65.ev ?_)
     refine l_q rfl (q_assign _ _ rfl (At.hit z65 rfl).ev ?_)
     refine l_end (e_fresh z65.p2 ?_)
     intro a66 z66 m66
     have s3_66 := m66 _ _ (s3_65.n2)
     have s4_66 := m66 _ _ (s4_65.n2)
     have s5_66 := m66 _ _ (s5_65.n2)
     have s6_66 := m66 _ _ (s6_65.n2)
     have s7_66 := m66 _ _ (s7_65.n2)
     have s11_66 := m66 _ _ (s11_65.n2)
     have s13_66 := m66 _ _ (At.hit z65.put rfl)
     have s14_66 := m66 _ _ (s14_65.n2)
     have s15_66 := m66 _ _ (s15_65.n2)
     have s16_66 := m66 _ _ (s16_65.n2)
     have s17_66 := m66 _ _ (s17_65.n2)
     have s18_66 := m66 _ _ (s18_65.n2)
     have s19_66 := m66 _ _ (s19_65.n2)
     have s20_66 := m66 _ _ (s20_65.n2)
     have s21_66 := m66 _ _ (s21_65.n2)
     clear m66
     refine e_then (c_seq (c_region ?_))
     refine l_q rfl (q_move _ _ rfl s11_66.ev ?_)
     refine l_q rfl (q_assign _ _ rfl (At.hit z66 rfl).ev ?_)
     refine l_end (e_fresh z66.p2 ?_)
     intro a67 z67 m67
     have s3_67 := m67 _ _ (s3_66.n2)
     have s4_67 := m67 _ _ (s4_66.n2)
     have s5_67 := m67 _ _ (s5_66.n2)
     have s6_67 := m67 _ _ (s6_66.n2)
     have s7_67 := m67 _ _ (s7_66.n2)
     have s12_67 := m67 _ _ (At.hit z66.put rfl)
     have s13_67 := m67 _ _ (s13_66.n2)
     have s14_67 := m67 _ _ (s14_66.n2)
     have s15_67 := m67 _ _ (s15_66.n2)
     have s16_67 := m67 _ _ (s16_66.n2)
     have s17_67 := m67 _ _ (s17_66.n2)
     have s18_67 := m67 _ _ (s18_66.n2)
     have s19_67 := m67 _ _ (s19_66.n2)
     have s20_67 := m67 _ _ (s20_66.n2)
     have s21_67 := m67 _ _ (s21_66.n2)
     clear m67
     refine e_then (c_region ?_)
     refine l_q rfl (q_move _ _ rfl s20_67.ev ?_)
     refine l_q rfl (q_move _ _ rfl (s21_67.n1).ev ?_)
     refine l_q rfl (q_add _ rfl ((At.hit z67 rfl).n1).ev (At.hit z67.put rfl).ev rfl ?_)
     refine l_q rfl (q_assign _ _ rfl (At.hit z67.p2 rfl).ev ?_)
     refine l_end (e_fresh z67.p4 ?_)
     intro a68 z68 m68
     have s3_68 := m68 _ _ (s3_67.n4)
     have s4_68 := m68 _ _ (s4_67.n4)
     have s5_68 := m68 _ _ (s5_67.n4)
     have s6_68 := m68 _ _ (s6_67.n4)
     have s7_68 := m68 _ _ (s7_67.n4)
     have s11_68 := m68 _ _ (At.hit z67.p3 rfl)
     have s12_68 := m68 _ _ (s12_67.n4)
     have s13_68 := m68 _ _ (s13_67.n4)
     have s14_68 := m68 _ _ (s14_67.n4)
     have s15_68 := m68 _ _ (s15_67.n4)
     have s16_68 := m68 _ _ (s16_67.n4)
     have s17_68 := m68 _ _ (s17_67.n4)
     have s18_68 := m68 _ _ (s18_67.n4)
     have s19_68 := m68 _ _ (s19_67.n4)
     clear m68
     refine e_in (e_then (c_region ?_))
     refine l_q rfl (q_move _ _ rfl s19_68.ev ?_)
     refine l_q rfl (q_add (((t + 1 : Nat) : Int)) rfl (At.hit z68 rfl).ev rfl (i64_is (by omega) (by omega) (by omega)) ?_)
     refine l_q rfl (q_assign _ _ rfl (At.hit z68.put rfl).ev ?_)
     refine l_end (e_fresh z68.p3 ?_)
     intro a69 z69 m69
     have s3_69 := m69 _ _ (s3_68.n3)
     have s4_69 := m69 _ _ (s4_68.n3)
     have s5_69 := m69 _ _ (s5_68.n3)
     have s6_69 := m69 _ _ (s6_68.n3)
     have s7_69 := m69 _ _ (s7_68.n3)
     have s11_69 := m69 _ _ (s11_68.n3)
     have s12_69 := m69 _ _ (s12_68.n3)
     have s13_69 := m69 _ _ (s13_68.n3)
     have s14_69 := m69 _ _ (s14_68.n3)
     have s15_69 := m69 _ _ (s15_68.n3)
     have s16_69 := m69 _ _ (s16_68.n3)
     have s17_69 := m69 _ _ (s17_68.n3)
     have s18_69 := m69 _ _ (s18_68.n3)
     have s19_69 := m69 _ _ (At.hit z68.p2 rfl)
     clear m69
     exact ⟨z69, s3_69, s4_69, s5_69, s6_69, s7_69, s11_69, s12_69, s13_69, s14_69, s15_69, s16_69, s17_69, s18_69, s19_69, kg4_57, kg5_57, kg7_57, low60⟩
    ·
     intro a70 w70 h
     obtain ⟨z70, s3_70, s4_70, s5_70, s6_70, s7_70, s11_70, s12_70, s13_70, s14_70, s15_70, s16_70, s17_70, s18_70, s19_70, kg4_70, kg5_70, kg7_70, low70⟩ := h
     clear kg4_45 kg5_45 kg7_45 low46 s11_47 s12_47 s13_47 s14_47 s15_47 s16_47 s17_47 s18_47 s19_47 s3_47 s4_47 s5_47 s6_47 s7_47 z47
     refine c_seq (c_seq (c_region ?_))
     refine l_q rfl (q_move _ _ rfl s19_70.ev ?_)
     refine l_q rfl (q_lss false rfl (At.hit z70 rfl).ev rfl (decide_eq_false (by omega)) ?_)
     refine l_end (e_fresh z70.p2 ?_)
     intro a71 z71 m71
     have s3_71 := m71 _ _ (s3_70.n2)
     have s4_71 := m71 _ _ (s4_70.n2)
     have s5_71 := m71 _ _ (s5_70.n2)
     have s6_71 := m71 _ _ (s6_70.n2)
     have s7_71 := m71 _ _ (s7_70.n2)
     have s11_71 := m71 _ _ (s11_70.n2)
     have s12_71 := m71 _ _ (s12_70.n2)
     have s13_71 := m71 _ _ (s13_70.n2)
     have s14_71 := m71 _ _ (s14_70.n2)
     have s15_71 := m71 _ _ (s15_70.n2)
     have s16_71 := m71 _ _ (s16_70.n2)
     have s17_71 := m71 _ _ (s17_70.n2)
     have s18_71 := m71 _ _ (s18_70.n2)
     have s19_71 := m71 _ _ (s19_70.n2)
     have s139_71 := m71 _ _ (At.hit z70.put rfl)
     clear m71
     refine e_then (c_false s139_71 ?_)
     refine wp_exit (x_then (x_then (in_exit (e_then (c_seq (c_region ?_))))))
     refine l_q rfl (q_move _ _ rfl s11_71.ev ?_)
     refine l_q rfl (q_move _ _ rfl (s12_71.n1).ev ?_)
     refine l_q rfl (q_move _ _ rfl (s13_71.n2).ev ?_)
     refine l_q rfl (q_move _ _ rfl (s14_71.n3).ev ?_)
     refine l_q rfl (q_move _ _ rfl (s15_71.n4).ev ?_)
     refine l_q rfl (q_move _ _ rfl (s16_71.n5).ev ?_)
     refine l_q rfl (q_move _ _ rfl (s17_71.n6).ev ?_)
     refine l_q rfl (q_move _ _ rfl (s18_71.n7).ev ?_)
     refine l_fresh z71.p8 ?_
     intro a72 z72 m72
     have s3_72 := m72 _ _ (s3_71.n8)
     have s4_72 := m72 _ _ (s4_71.n8)
     have s5_72 := m72 _ _ (s5_71.n8)
     have s6_72 := m72 _ _ (s6_71.n8)
     have s201_72 := m72 _ _ ((At.hit z71 rfl).n7)
     have s202_72 := m72 _ _ ((At.hit z71.put rfl).n6)
     have s203_72 := m72 _ _ ((At.hit z71.p2 rfl).n5)
     have s204_72 := m72 _ _ ((At.hit z71.p3 rfl).n4)
     have s205_72 := m72 _ _ ((At.hit z71.p4 rfl).n3)
     have s206_72 := m72 _ _ ((At.hit z71.p5 rfl).n2)
     have s207_72 := m72 _ _ ((At.hit z71.p6 rfl).n1)
     have s208_72 := m72 _ _ (At.hit z71.p7 rfl)
     clear m72
     refine l_q rfl (q_build rfl (parts8 s201_72.ev s202_72.ev s203_72.ev s204_72.ev s205_72.ev s206_72.ev s207_72.ev s208_72.ev) (bA8 _ _ _ _ _ _ _ _) ?_)
     refine l_alloc rfl rfl zero77 ?_
     intro g22 w73 hg73 k73 h73
     have lt_g4_g22 := Nat.lt_of_lt_of_le (heap_lt kg4_70) hg73
     have lt_g5_g22 := Nat.lt_of_lt_of_le (heap_lt kg5_70) hg73
     have lt_g7_g22 := Nat.lt_of_lt_of_le (heap_lt kg7_70) hg73
     have geg22 := Nat.le_trans low70.ge hg73
     have kg4_73 := h73.blk kg4_70
     have kg5_73 := h73.blk kg5_70
     have kg7_73 := h73.blk kg7_70
     refine l_row rfl rfl rfl (sz77.trans (congrArg some ((nums_size _ _).trans (len8 _ _ _ _ _ _ _ _)).symm)) (At.hit z72.put rfl).ev ((At.hit z72 rfl).n1).ev (nums_one _ _) k73 (((nums_size _ _).trans (List.length_replicate)).trans ((nums_size _ _).trans (len8 _ _ _ _ _ _ _ _)).symm) ?_
     intro w74 k74 u74
     have kg4_74 := u74.blk kg4_73 (by omega)
     have kg5_74 := u74.blk kg5_73 (by omega)
     have kg7_74 := u74.blk kg7_73 (by omega)
     refine l_end (e_fresh z72.p2 ?_)
     intro a75 z75 m75
     have s3_75 := m75 _ _ (s3_72.n2)
     have s4_75 := m75 _ _ (s4_72.n2)
     have s5_75 := m75 _ _ (s5_72.n2)
     have s6_75 := m75 _ _ (s6_72.n2)
     have s22_75 := m75 _ _ (At.hit z72.put rfl)
     have low75 := ((low70.trans h73).upd u74 geg22)
     clear m75
     refine e_then (c_seq ?_)
     rw [list8 _ (roundsR_len _ _ 64)] at k74
     refine c_region ?_
     refine l_q rfl (q_assign _ _ rfl rfl ?_)
     refine l_end (e_fresh z75.put ?_)
     intro a76 z76 m76
     have s3_76 := m76 _ _ (s3_75.n1)
     have s4_76 := m76 _ _ (s4_75.n1)
     have s5_76 := m76 _ _ (s5_75.n1)
     have s6_76 := m76 _ _ (s6_75.n1)
     have s22_76 := m76 _ _ (s22_75.n1)
     have s23_76 := m76 _ _ (At.hit z75 rfl)
     clear m76
     refine e_then (wp_block (c_loop 8 (fun i a w => Fr 251 a ∧ At a 3 (.string (fillR s)) ∧ At a 4 (.pointer (some ⟨g4, 0, none⟩)) ∧ At a 5 (.pointer (some ⟨g5, 0, none⟩)) ∧ At a 6 (.int .i64 ((64 * b : Nat) : Int)) ∧ At a 22 (.pointer (some ⟨g22, 0, none⟩)) ∧ At a 23 (.int .i64 ((i : Nat) : Int)) ∧ w.heap[g22]? = some (.cells (nums .u32 (roundsR (wE16 (fillR s) b) (chR2 (fillR s) b) 64)) 77) ∧ w.heap[g4]? = some (.cells (nums .u32 k256) 75) ∧ w.heap[g5]? = some (.cells (nums .u32 (addL (chR2 (fillR s) b) (roundsR (wE16 (fillR s) b) (chR2 (fillR s) b) 64) i)) 77) ∧ Low w0 w) ?_ ?_ ?_))
     ·
      exact ⟨z76, s3_76, s4_76, s5_76, s6_76, s22_76, s23_76, k74, kg4_74, kg5_74, low75⟩
     ·
      intro i a77 w77 hk77 h
      obtain ⟨z77, s3_77, s4_77, s5_77, s6_77, s22_77, s23_77, kg22_77, kg4_77, kg5_77, low77⟩ := h
      clear k74 kg4_74 kg5_74 low75 s22_76 s23_76 s3_76 s4_76 s5_76 s6_76 z76
      refine c_seq (c_seq (c_region ?_))
      refine l_q rfl (q_move _ _ rfl s23_77.ev ?_)
      refine l_q rfl (q_lss true rfl (At.hit z77 rfl).ev rfl (decide_eq_true (by omega)) ?_)
      refine l_end (e_fresh z77.p2 ?_)
      intro a78 z78 m78
      have s3_78 := m78 _ _ (s3_77.n2)
      have s4_78 := m78 _ _ (s4_77.n2)
      have s5_78 := m78 _ _ (s5_77.n2)
      have s6_78 := m78 _ _ (s6_77.n2)
      have s22_78 := m78 _ _ (s22_77.n2)
      have s23_78 := m78 _ _ (s23_77.n2)
      have s211_78 := m78 _ _ (At.hit z77.put rfl)
      clear m78
      refine e_then (c_true s211_78 ?_)
      refine wp_skip (e_then (c_seq (wp_block (region_low_tail 9 hm (by kernel_rfl) ?_))))
      simp only [List.take_succ_cons, List.take_zero, List.drop_succ_cons, List.drop_zero]
      refine qs (q_move _ _ rfl s23_78.ev ?_)
      refine qs (q_move _ _ rfl (s23_78.n1).ev ?_)
      refine qs (q_idx (j := i) rfl Tryz.underlying77 sz64 (s5_78.n2).ev (At.hit z78.put rfl).ev (by omega) ?_)
      refine qs (q_cell (.int .u32 ((addL (chR2 (fillR s) b) (roundsR (wE16 (fillR s) b) (chR2 (fillR s) b) 64) i).getD i 0)) rfl Tryz.underlying64 (At.hit z78.p2 rfl).ev (fun _ h => nums_cell (h.blk kg5_77) i (by rw [((addL_len _ _ i).trans (chR2_len _ _))]; omega)) ?_)
      refine qs (q_move _ _ rfl (s23_78.n4).ev ?_)
      refine qs (q_idx (j := i) rfl Tryz.underlying77 sz64 (s22_78.n5).ev (At.hit z78.p4 rfl).ev (by omega) ?_)
      refine qs (q_cell (.int .u32 ((roundsR (wE16 (fillR s) b) (chR2 (fillR s) b) 64).getD i 0)) rfl Tryz.underlying64 (At.hit z78.p5 rfl).ev (fun _ h => nums_cell (h.blk kg22_77) i (by rw [(roundsR_len _ _ 64)]; omega)) ?_)
      refine qs (q_add _ rfl ((At.hit z78.p3 rfl).n3).ev (At.hit z78.p6 rfl).ev rfl ?_)
      refine q_fresh z78.p8 ?_
      intro a79 z79 m79
      have s3_79 := m79 _ _ (s3_78.n8)
      have s4_79 := m79 _ _ (s4_78.n8)
      have s5_79 := m79 _ _ (s5_78.n8)
      have s6_79 := m79 _ _ (s6_78.n8)
      have s22_79 := m79 _ _ (s22_78.n8)
      have s23_79 := m79 _ _ (s23_78.n8)
      have s214_79 := m79 _ _ ((At.hit z78 rfl).n7)
      have s221_79 := m79 _ _ (At.hit z78.p7 rfl)
      clear m79
      refine qs (q_idx (j := i) rfl Tryz.underlying77 sz64 s5_79.ev s214_79.ev (by omega) ?_)
      refine qz ?_
      intro w80 h80
      have kg22_80 := h80.blk kg22_77
      have kg4_80 := h80.blk kg4_77
      have kg5_80 := h80.blk kg5_77
      refine l_cell (j := i) (v := .int .u32 (IntKind.u32.wrap (((addL (chR2 (fillR s) b) (roundsR (wE16 (fillR s) b) (chR2 (fillR s) b) 64) i).getD i 0) + ((roundsR (wE16 (fillR s) b) (chR2 (fillR s) b) 64).getD i 0)))) rfl rfl rfl sz64 (At.hit z79 rfl).ev (s221_79.n1).ev rfl kg5_80 (by rw [(nums_size _ _).trans ((addL_len _ _ i).trans (chR2_len _ _))]; omega) ?_
      intro w81 k81 u81
      rw [nums_put] at k81
      have kg22_81 := u81.blk kg22_80 (by omega)
      have kg4_81 := u81.blk kg4_80 (by omega)
      refine l_end (e_fresh z79.put ?_)
      intro a82 z82 m82
      have s3_82 := m82 _ _ (s3_79.n1)
      have s4_82 := m82 _ _ (s4_79.n1)
      have s5_82 := m82 _ _ (s5_79.n1)
      have s6_82 := m82 _ _ (s6_79.n1)
      have s22_82 := m82 _ _ (s22_79.n1)
      have s23_82 := m82 _ _ (s23_79.n1)
      have low82 := ((low77.trans h80).upd u81 geg5)
      clear m82
      refine e_in (e_then (c_region ?_))
      refine l_q rfl (q_move _ _ rfl s23_82.ev ?_)
      refine l_q rfl (q_add (((i + 1 : Nat) : Int)) rfl (At.hit z82 rfl).ev rfl (i64_is (by omega) (by omega) (by omega)) ?_)
      refine l_q rfl (q_assign _ _ rfl (At.hit z82.put rfl).ev ?_)
      refine l_end (e_fresh z82.p3 ?_)
      intro a83 z83 m83
      have s3_83 := m83 _ _ (s3_82.n3)
      have s4_83 := m83 _ _ (s4_82.n3)
      have s5_83 := m83 _ _ (s5_82.n3)
      have s6_83 := m83 _ _ (s6_82.n3)
      have s22_83 := m83 _ _ (s22_82.n3)
      have s23_83 := m83 _ _ (At.hit z82.p2 rfl)
      clear m83
      exact ⟨z83, s3_83, s4_83, s5_83, s6_83, s22_83, s23_83, kg22_81, kg4_81, k81, low82⟩
     ·
      intro a84 w84 h
      obtain ⟨z84, s3_84, s4_84, s5_84, s6_84, s22_84, s23_84, kg22_84, kg4_84, kg5_84, low84⟩ := h
      clear k74 kg4_74 kg5_74 low75 s22_76 s23_76 s3_76 s4_76 s5_76 s6_76 z76
      refine c_seq (c_seq (c_region ?_))
      refine l_q rfl (q_move _ _ rfl s23_84.ev ?_)
      refine l_q rfl (q_lss false rfl (At.hit z84 rfl).ev rfl (decide_eq_false (by omega)) ?_)
      refine l_end (e_fresh z84.p2 ?_)
      intro a85 z85 m85
      have s3_85 := m85 _ _ (s3_84.n2)
      have s4_85 := m85 _ _ (s4_84.n2)
      have s5_85 := m85 _ _ (s5_84.n2)
      have s6_85 := m85 _ _ (s6_84.n2)
      have s22_85 := m85 _ _ (s22_84.n2)
      have s23_85 := m85 _ _ (s23_84.n2)
      have s211_85 := m85 _ _ (At.hit z84.put rfl)
      clear m85
      refine e_then (c_false s211_85 ?_)
      refine wp_exit (x_then (x_then (in_exit (e_in (e_then (c_region ?_))))))
      refine l_q rfl (q_move _ _ rfl s6_85.ev ?_)
      refine l_q rfl (q_add (((64 * b + 64 : Nat) : Int)) rfl (At.hit z85 rfl).ev rfl (i64_is (by omega) (by omega) (by omega)) ?_)
      refine l_q rfl (q_assign _ _ rfl (At.hit z85.put rfl).ev ?_)
      refine l_end (e_fresh z85.p3 ?_)
      intro a86 z86 m86
      have s3_86 := m86 _ _ (s3_85.n3)
      have s4_86 := m86 _ _ (s4_85.n3)
      have s5_86 := m86 _ _ (s5_85.n3)
      have s6_86 := m86 _ _ (At.hit z85.p2 rfl)
      clear m86
      exact ⟨z86, s3_86, s4_86, s5_86, (s6_86.same (congrArg (Value.int .i64) (by omega))), kg4_84, kg5_84, low84⟩
 ·
  intro a87 w87 h
  obtain ⟨z87, s3_87, s4_87, s5_87, s6_87, kg4_87, kg5_87, low87⟩ := h
  clear k9 kg4_9 low10 s3_11 s4_11 s5_11 s6_11 z11
  have hfm := fillR_mod s
  have hfs := fillR_size s
  have hpl := padN_le s
  refine c_seq (c_seq (c_region ?_))
  refine l_q rfl (q_move _ _ rfl s6_87.ev ?_)
  refine l_q rfl (q_move _ _ rfl (s3_87.n1).ev ?_)
  refine l_q rfl (q_len rfl rfl Tryz.underlying9 (At.hit z87.put rfl).ev ?_)
  refine l_q rfl (q_lss false rfl ((At.hit z87 rfl).n2).ev (At.hit z87.p2 rfl).ev (decide_eq_false (by omega)) ?_)
  refine l_end (e_fresh z87.p4 ?_)
  intro a88 z88 m88
  have s3_88 := m88 _ _ (s3_87.n4)
  have s4_88 := m88 _ _ (s4_87.n4)
  have s5_88 := m88 _ _ (s5_87.n4)
  have s6_88 := m88 _ _ (s6_87.n4)
  have s33_88 := m88 _ _ (At.hit z87.p3 rfl)
  clear m88
  refine e_then (c_false s33_88 ?_)
  refine wp_exit (x_then (x_then (in_exit (e_then (c_seq (c_region ?_))))))
  refine l_q rfl (q_assign _ _ rfl rfl ?_)
  refine l_end (e_fresh z88.put ?_)
  intro a89 z89 m89
  have s5_89 := m89 _ _ (s5_88.n1)
  have s24_89 := m89 _ _ (At.hit z88 rfl)
  clear m89
  refine e_then (c_seq (c_seq (c_region ?_)))
  refine l_q rfl (q_assign _ _ rfl rfl ?_)
  refine l_end (e_fresh z89.put ?_)
  intro a90 z90 m90
  have s5_90 := m90 _ _ (s5_89.n1)
  have s24_90 := m90 _ _ (s24_89.n1)
  have s25_90 := m90 _ _ (At.hit z89 rfl)
  clear m90
  refine e_then (wp_block (c_loop 8 (fun i a w => ∃ v24 : Value, Fr 251 a ∧ At a 5 (.pointer (some ⟨g5, 0, none⟩)) ∧ At a 24 (v24) ∧ At a 25 (.int .i64 ((i : Nat) : Int)) ∧ w.heap[g5]? = some (.cells (nums .u32 (chR2 (fillR s) ((fillR s).size / 64))) 77) ∧ OwnB w w0.heap.size 5 v24 (outQ (chR2 (fillR s) ((fillR s).size / 64)) i) ∧ Low w0 w) ?_ ?_ ?_))
  ·
   exact ⟨.slice none 0 0, z90, s5_90, s24_90, s25_90, kg5_87, (OwnB.nil _ _ _), low87⟩
  ·
   intro i a91 w91 hk91 h
   obtain ⟨v24_91, z91, s5_91, s24_91, s25_91, kg5_91, ox24_91, low91⟩ := h
   clear kg5_87 low87 s24_90 s25_90 s5_90 z90
   refine c_seq (c_seq (c_region ?_))
   refine l_q rfl (q_move _ _ rfl s25_91.ev ?_)
   refine l_q rfl (q_lss true rfl (At.hit z91 rfl).ev rfl (decide_eq_true (by omega)) ?_)
   refine l_end (e_fresh z91.p2 ?_)
   intro a92 z92 m92
   have s5_92 := m92 _ _ (s5_91.n2)
   have s24_92 := m92 _ _ (s24_91.n2)
   have s25_92 := m92 _ _ (s25_91.n2)
   have s224_92 := m92 _ _ (At.hit z91.put rfl)
   clear m92
   refine e_then (c_true s224_92 ?_)
   refine wp_skip (e_then (c_seq (wp_block (region_some_tail 21 (TB [v24_91, .int .i64 ((i : Nat) : Int), .pointer (some ⟨g5, i, none⟩), .int .u32 ((chR2 (fillR s) ((fillR s).size / 64)).getD i 0), .int .u32 (((chR2 (fillR s) ((fillR s).size / 64)).getD i 0).fdiv (2 ^ min (24 : Int).toNat 32)), .int .u8 (IntKind.u8.wrap (((chR2 (fillR s) ((fillR s).size / 64)).getD i 0).fdiv (2 ^ min (24 : Int).toNat 32))), .int .i64 ((i : Nat) : Int), .pointer (some ⟨g5, i, none⟩), .int .u32 ((chR2 (fillR s) ((fillR s).size / 64)).getD i 0), .int .u32 (((chR2 (fillR s) ((fillR s).size / 64)).getD i 0).fdiv (2 ^ min (16 : Int).toNat 32)), .int .u8 (IntKind.u8.wrap (((chR2 (fillR s) ((fillR s).size / 64)).getD i 0).fdiv (2 ^ min (16 : Int).toNat 32))), .int .i64 ((i : Nat) : Int), .pointer (some ⟨g5, i, none⟩), .int .u32 ((chR2 (fillR s) ((fillR s).size / 64)).getD i 0), .int .u32 (((chR2 (fillR s) ((fillR s).size / 64)).getD i 0).fdiv (2 ^ min (8 : Int).toNat 32)), .int .u8 (IntKind.u8.wrap (((chR2 (fillR s) ((fillR s).size / 64)).getD i 0).fdiv (2 ^ min (8 : Int).toNat 32))), .int .i64 ((i : Nat) : Int), .pointer (some ⟨g5, i, none⟩), .int .u32 ((chR2 (fillR s) ((fillR s).size / 64)).getD i 0), .int .u8 (IntKind.u8.wrap ((chR2 (fillR s) ((fillR s).size / 64)).getD i 0)), undef] 20 [IntKind.u8.wrap (((chR2 (fillR s) ((fillR s).size / 64)).getD i 0).fdiv (2 ^ min (24 : Int).toNat 32)), IntKind.u8.wrap (((chR2 (fillR s) ((fillR s).size / 64)).getD i 0).fdiv (2 ^ min (16 : Int).toNat 32)), IntKind.u8.wrap (((chR2 (fillR s) ((fillR s).size / 64)).getD i 0).fdiv (2 ^ min (8 : Int).toNat 32)), IntKind.u8.wrap ((chR2 (fillR s) ((fillR s).size / 64)).getD i 0)] 5 w91) Low hm (by kernel_rfl) z92 (low_drawn _) (fun _ _ _ h k => Low.trans h k) TB_stable (allS_cons ?_ (allS_cons ?_ (allS_cons ?_ (allS_cons ?_ (allS_cons ?_ (allS_cons ?_ (allS_cons ?_ (allS_cons ?_ (allS_cons ?_ (allS_cons ?_ (allS_cons ?_ (allS_cons ?_ (allS_cons ?_ (allS_cons ?_ (allS_cons ?_ (allS_cons ?_ (allS_cons ?_ (allS_cons ?_ (allS_cons ?_ (allS_cons ?_ (allS_cons ?_ allS_nil))))))))))))))))))))) ?_))))
   ·
    exact (stepS_val (v24_91) _ rfl rfl rfl Low.refl (fun _ => TB_val rfl rfl) fun _ _ _ lw kp kn => q_move _ _ rfl (kp _ _ rfl s24_92).ev rfl)
   ·
    exact (stepS_val (.int .i64 ((i : Nat) : Int)) _ rfl rfl rfl Low.refl (fun _ => TB_val rfl rfl) fun _ _ _ lw kp kn => q_move _ _ rfl (kp _ _ rfl s25_92).ev rfl)
   ·
    exact (stepS_val (.pointer (some ⟨g5, i, none⟩)) _ rfl rfl rfl Low.refl (fun _ => TB_val rfl rfl) fun _ _ _ lw kp kn => q_idx (j := i) rfl Tryz.underlying77 sz64 (kp _ _ rfl s5_92).ev (TB_at (kn 1 _ rfl rfl) rfl rfl).ev (by omega) rfl)
   ·
    exact (stepS_val (.int .u32 ((chR2 (fillR s) ((fillR s).size / 64)).getD i 0)) _ rfl rfl rfl Low.refl (fun _ => TB_val rfl rfl) fun _ _ _ lw kp kn => q_cell (.int .u32 ((chR2 (fillR s) ((fillR s).size / 64)).getD i 0)) rfl Tryz.underlying64 (TB_at (kn 2 _ rfl rfl) rfl rfl).ev (fun _ e => by rw [e]; exact nums_cell (lw.blk kg5_91) i (by rw [(chR2_len _ ((fillR s).size / 64))]; omega)) rfl)
   ·
    exact (stepS_val (.int .u32 (((chR2 (fillR s) ((fillR s).size / 64)).getD i 0).fdiv (2 ^ min (24 : Int).toNat 32))) _ rfl rfl rfl Low.refl (fun _ => TB_val rfl rfl) fun _ _ _ lw kp kn => q_shr (((chR2 (fillR s) ((fillR s).size / 64)).getD i 0).fdiv (2 ^ min (24 : Int).toNat 32)) rfl (TB_at (kn 3 _ rfl rfl) rfl rfl).ev rfl (by first | omega | exact u64_nonneg _) rfl rfl)
   ·
    exact (stepS_val (.int .u8 (IntKind.u8.wrap (((chR2 (fillR s) ((fillR s).size / 64)).getD i 0).fdiv (2 ^ min (24 : Int).toNat 32)))) _ rfl rfl rfl Low.refl (fun _ => TB_val rfl rfl) fun _ _ _ lw kp kn => q_conv _ rfl (TB_at (kn 4 _ rfl rfl) rfl rfl).ev Tryz.underlying64 Tryz.underlying5 rfl rfl)
   ·
    exact (stepS_val (.int .i64 ((i : Nat) : Int)) _ rfl rfl rfl Low.refl (fun _ => TB_val rfl rfl) fun _ _ _ lw kp kn => q_move _ _ rfl (kp _ _ rfl s25_92).ev rfl)
   ·
    exact (stepS_val (.pointer (some ⟨g5, i, none⟩)) _ rfl rfl rfl Low.refl (fun _ => TB_val rfl rfl) fun _ _ _ lw kp kn => q_idx (j := i) rfl Tryz.underlying77 sz64 (kp _ _ rfl s5_92).ev (TB_at (kn 6 _ rfl rfl) rfl rfl).ev (by omega) rfl)
   ·
    exact (stepS_val (.int .u32 ((chR2 (fillR s) ((fillR s).size / 64)).getD i 0)) _ rfl rfl rfl Low.refl (fun _ => TB_val rfl rfl) fun _ _ _ lw kp kn => q_cell (.int .u32 ((chR2 (fillR s) ((fillR s).size / 64)).getD i 0)) rfl Tryz.underlying64 (TB_at (kn 7 _ rfl rfl) rfl rfl).ev (fun _ e => by rw [e]; exact nums_cell (lw.blk kg5_91) i (by rw [(chR2_len _ ((fillR s).size / 64))]; omega)) rfl)
   ·
    exact (stepS_val (.int .u32 (((chR2 (fillR s) ((fillR s).size / 64)).getD i 0).fdiv (2 ^ min (16 : Int).toNat 32))) _ rfl rfl rfl Low.refl (fun _ => TB_val rfl rfl) fun _ _ _ lw kp kn => q_shr (((chR2 (fillR s) ((fillR s).size / 64)).getD i 0).fdiv (2 ^ min (16 : Int).toNat 32)) rfl (TB_at (kn 8 _ rfl rfl) rfl rfl).ev rfl (by first | omega | exact u64_nonneg _) rfl rfl)
   ·
    exact (stepS_val (.int .u8 (IntKind.u8.wrap (((chR2 (fillR s) ((fillR s).size / 64)).getD i 0).fdiv (2 ^ min (16 : Int).toNat 32)))) _ rfl rfl rfl Low.refl (fun _ => TB_val rfl rfl) fun _ _ _ lw kp kn => q_conv _ rfl (TB_at (kn 9 _ rfl rfl) rfl rfl).ev Tryz.underlying64 Tryz.underlying5 rfl rfl)
   ·
    exact (stepS_val (.int .i64 ((i : Nat) : Int)) _ rfl rfl rfl Low.refl (fun _ => TB_val rfl rfl) fun _ _ _ lw kp kn => q_move _ _ rfl (kp _ _ rfl s25_92).ev rfl)
   ·
    exact (stepS_val (.pointer (some ⟨g5, i, none⟩)) _ rfl rfl rfl Low.refl (fun _ => TB_val rfl rfl) fun _ _ _ lw kp kn => q_idx (j := i) rfl Tryz.underlying77 sz64 (kp _ _ rfl s5_92).ev (TB_at (kn 11 _ rfl rfl) rfl rfl).ev (by omega) rfl)
   ·
    exact (stepS_val (.int .u32 ((chR2 (fillR s) ((fillR s).size / 64)).getD i 0)) _ rfl rfl rfl Low.refl (fun _ => TB_val rfl rfl) fun _ _ _ lw kp kn => q_cell (.int .u32 ((chR2 (fillR s) ((fillR s).size / 64)).getD i 0)) rfl Tryz.underlying64 (TB_at (kn 12 _ rfl rfl) rfl rfl).ev (fun _ e => by rw [e]; exact nums_cell (lw.blk kg5_91) i (by rw [(chR2_len _ ((fillR s).size / 64))]; omega)) rfl)
   ·
    exact (stepS_val (.int .u32 (((chR2 (fillR s) ((fillR s).size / 64)).getD i 0).fdiv (2 ^ min (8 : Int).toNat 32))) _ rfl rfl rfl Low.refl (fun _ => TB_val rfl rfl) fun _ _ _ lw kp kn => q_shr (((chR2 (fillR s) ((fillR s).size / 64)).getD i 0).fdiv (2 ^ min (8 : Int).toNat 32)) rfl (TB_at (kn 13 _ rfl rfl) rfl rfl).ev rfl (by first | omega | exact u64_nonneg _) rfl rfl)
   ·
    exact (stepS_val (.int .u8 (IntKind.u8.wrap (((chR2 (fillR s) ((fillR s).size / 64)).getD i 0).fdiv (2 ^ min (8 : Int).toNat 32)))) _ rfl rfl rfl Low.refl (fun _ => TB_val rfl rfl) fun _ _ _ lw kp kn => q_conv _ rfl (TB_at (kn 14 _ rfl rfl) rfl rfl).ev Tryz.underlying64 Tryz.underlying5 rfl rfl)
   ·
    exact (stepS_val (.int .i64 ((i : Nat) : Int)) _ rfl rfl rfl Low.refl (fun _ => TB_val rfl rfl) fun _ _ _ lw kp kn => q_move _ _ rfl (kp _ _ rfl s25_92).ev rfl)
   ·
    exact (stepS_val (.pointer (some ⟨g5, i, none⟩)) _ rfl rfl rfl Low.refl (fun _ => TB_val rfl rfl) fun _ _ _ lw kp kn => q_idx (j := i) rfl Tryz.underlying77 sz64 (kp _ _ rfl s5_92).ev (TB_at (kn 16 _ rfl rfl) rfl rfl).ev (by omega) rfl)
   ·
    exact (stepS_val (.int .u32 ((chR2 (fillR s) ((fillR s).size / 64)).getD i 0)) _ rfl rfl rfl Low.refl (fun _ => TB_val rfl rfl) fun _ _ _ lw kp kn => q_cell (.int .u32 ((chR2 (fillR s) ((fillR s).size / 64)).getD i 0)) rfl Tryz.underlying64 (TB_at (kn 17 _ rfl rfl) rfl rfl).ev (fun _ e => by rw [e]; exact nums_cell (lw.blk kg5_91) i (by rw [(chR2_len _ ((fillR s).size / 64))]; omega)) rfl)
   ·
    exact (stepS_val (.int .u8 (IntKind.u8.wrap ((chR2 (fillR s) ((fillR s).size / 64)).getD i 0))) _ rfl rfl rfl Low.refl (fun _ => TB_val rfl rfl) fun _ _ _ lw kp kn => q_conv _ rfl (TB_at (kn 18 _ rfl rfl) rfl rfl).ev Tryz.underlying64 Tryz.underlying5 rfl rfl)
   ·
    exact (stepS _ rfl rfl fun _ _ _ lw kp kn => l_build4 rfl rfl Tryz.underlying54 byte5 (TB_at (kn 5 _ rfl rfl) rfl rfl).ev (TB_at (kn 10 _ rfl rfl) rfl rfl).ev (TB_at (kn 15 _ rfl rfl) rfl rfl).ev (TB_at (kn 19 _ rfl rfl) rfl rfl).ev (fun _ _ hg k h => l_end ⟨_, rfl, h, TB_new rfl (Nat.le_trans lw.ge hg) k⟩))
   intro a93 w93 z93 h93 kp kn
   have s5_93 := kp _ _ rfl s5_92
   have s24_93 := kp _ _ rfl s24_92
   have s25_93 := kp _ _ rfl s25_92
   have s224_93 := kp _ _ rfl s224_92
   have s227_93 := TB_at (kn 0 _ rfl) rfl rfl
   obtain ⟨g247_93, s247_93, hg93, k93⟩ := TB_blk (kn 20 _ rfl) rfl
   clear kp kn
   have lt_g5_g247_93 := Nat.lt_of_lt_of_le (heap_lt kg5_91) hg93
   have geg247_93 := Nat.le_trans low91.ge hg93
   have kg5_93 := h93.blk kg5_91
   have ox24_93 := ox24_91.low h93
   simp only [List.drop_succ_cons, List.drop_zero]
   refine l_appR (B := w0.heap.size) (ys := [IntKind.u8.wrap (((chR2 (fillR s) ((fillR s).size / 64)).getD i 0).fdiv (2 ^ min (24 : Int).toNat 32)), IntKind.u8.wrap (((chR2 (fillR s) ((fillR s).size / 64)).getD i 0).fdiv (2 ^ min (16 : Int).toNat 32)), IntKind.u8.wrap (((chR2 (fillR s) ((fillR s).size / 64)).getD i 0).fdiv (2 ^ min (8 : Int).toNat 32)), IntKind.u8.wrap ((chR2 (fillR s) ((fillR s).size / 64)).getD i 0)]) rfl rfl Tryz.underlying54 Tryz.underlying54 byte5 s227_93.ev s247_93.ev k93 ox24_93 (low91.trans h93).ge (by rw [(outQ_len _ i)]; simp only [List.length_cons, List.length_nil]; omega) ?_
   intro v94 w94 o94 gr94
   have kg5_94 := gr94.blk kg5_93 rfl
   have lw94 := (low91.trans h93).gr gr94
   refine l_q rfl (q_assign _ _ rfl (At.hit z93 rfl).ev ?_)
   refine l_end (e_fresh z93.p2 ?_)
   intro a95 z95 m95
   have s5_95 := m95 _ _ (s5_93.n2)
   have s24_95 := m95 _ _ (At.hit z93.put rfl)
   have s25_95 := m95 _ _ (s25_93.n2)
   have low95 := lw94
   clear m95
   refine e_in (e_then (c_region ?_))
   refine l_q rfl (q_move _ _ rfl s25_95.ev ?_)
   refine l_q rfl (q_add (((i + 1 : Nat) : Int)) rfl (At.hit z95 rfl).ev rfl (i64_is (by omega) (by omega) (by omega)) ?_)
   refine l_q rfl (q_assign _ _ rfl (At.hit z95.put rfl).ev ?_)
   refine l_end (e_fresh z95.p3 ?_)
   intro a96 z96 m96
   have s5_96 := m96 _ _ (s5_95.n3)
   have s24_96 := m96 _ _ (s24_95.n3)
   have s25_96 := m96 _ _ (At.hit z95.p2 rfl)
   clear m96
   exact ⟨v94, z96, s5_96, s24_96, s25_96, kg5_94, o94, low95⟩
  ·
   intro a97 w97 h
   obtain ⟨v24_97, z97, s5_97, s24_97, s25_97, kg5_97, ox24_97, low97⟩ := h
   clear kg5_87 low87 s24_90 s25_90 s5_90 z90
   refine c_seq (c_seq (c_region ?_))
   refine l_q rfl (q_move _ _ rfl s25_97.ev ?_)
   refine l_q rfl (q_lss false rfl (At.hit z97 rfl).ev rfl (decide_eq_false (by omega)) ?_)
   refine l_end (e_fresh z97.p2 ?_)
   intro a98 z98 m98
   have s5_98 := m98 _ _ (s5_97.n2)
   have s24_98 := m98 _ _ (s24_97.n2)
   have s25_98 := m98 _ _ (s25_97.n2)
   have s224_98 := m98 _ _ (At.hit z97.put rfl)
   clear m98
   refine e_then (c_false s224_98 ?_)
   refine wp_exit (x_then (x_then (in_exit (e_then (c_seq (c_region ?_))))))
   refine l_q rfl (q_move _ _ rfl s24_98.ev ?_)
   refine l_q rfl (q_str rfl Tryz.underlying54 Tryz.underlying5 Tryz.underlying9 (At.hit z98 rfl).ev (fun _ e => by rw [e]; exact ox24_97) ?_)
   refine l_q rfl (q_assign _ _ rfl (At.hit z98.put rfl).ev ?_)
   refine l_end (e_fresh z98.p3 ?_)
   intro a99 z99 m99
   have s2_99 := m99 _ _ (At.hit z98.p2 rfl)
   clear m99
   refine e_then (wp_ret (r_tmp rfl z99.defers s2_99 ?_))
   exact ⟨rfl, low97⟩
end Go.Proofs.YtfjhnnpdaggnbaaGreatDoor.Q
end
/-! H2 -/
section
namespace Go.Proofs.YtfjhnnpdaggnbaaGreatDoor.Q
open Go.RowKit Go.Proofs.YtfjhnnpdaggnbaaGreatDoor.P
open Go.Proofs.YtfjhnnpdaggnbaaGreatDoorW.PrintWords (bytesOf bytesOf_length)
set_option maxRecDepth 100000
theorem TZ_tail (T : ByteArray) : ∀ k, TZ T k = T ++ strOfNums (tailP k)
  | 0 => rfl
  | k + 1 => by
    rw [TZ, TZ_tail T k, tailP, str_append, ← ByteArray.append_assoc]
    rfl
theorem TLn_tail (T : ByteArray) (n : Int) : ∀ k, TLn T n k = T ++ strOfNums (tailQ (T.size % 64) n k)
  | 0 => TZ_tail T _
  | k + 1 => by
    rw [TLn, TLn_tail T n k, tailQ, str_append, ← ByteArray.append_assoc]
    rfl
theorem empty_app (x : ByteArray) : (⟨#[]⟩ : ByteArray) ++ x = x := by
  apply ByteArray.ext
  simp
theorem TLn_fill (x : ByteArray) : TLn x (nW 0 x) 8 = fillR x := by
  rw [TLn_tail, fillR, fR2_tail x 8 (Nat.le_refl _), str_append, str_bytes]
  rfl
theorem outI_four (x : Int) (l : List Int) : outI x l 4 = l ++ [IntKind.u8.wrap (x.fdiv (2 ^ min (24 : Int).toNat 32)), IntKind.u8.wrap (x.fdiv (2 ^ min (16 : Int).toNat 32)), IntKind.u8.wrap (x.fdiv (2 ^ min (8 : Int).toNat 32)), IntKind.u8.wrap x] := by
  have e : x.fdiv (2 ^ min (24 - 8 * ((3 : Nat) : Int)).toNat 32) = x := Int.fdiv_one x
  simp only [outI, e, List.append_assoc, List.cons_append, List.nil_append]
  rfl
theorem out_eq (c : List Int) : ∀ k, out8 c k = outQ c k
  | 0 => rfl
  | k + 1 => by rw [out8, outQ, outI_four, out_eq c k]
theorem sum2_eq (x : ByteArray) : sumL2 x = sumR3 x := by
  rw [sumL2, sumR3, empty_app, sum2, TLn_fill, out_eq, chTx, chR2_eq]
end Go.Proofs.YtfjhnnpdaggnbaaGreatDoor.Q
end
/-! P4 -/
section
namespace Go.Proofs.YtfjhnnpdaggnbaaGreatDoor.Q
open Go.RowKit Go.Proofs.YtfjhnnpdaggnbaaGreatDoor.P
set_option maxRecDepth 100000
theorem alnz : ∀ i, i < 21 → ¬ AL i = List.replicate 80 0 := by decide +kernel
end Go.Proofs.YtfjhnnpdaggnbaaGreatDoor.Q
end
/-! P5 -/
section
namespace Go.Proofs.YtfjhnnpdaggnbaaGreatDoor.Q
open Go.RowKit Go.Proofs.YtfjhnnpdaggnbaaGreatDoor.P
theorem bt_fB (s : ByteArray) (b : Nat) (h : b < (fillL s).size / 64) (i : Nat) (hi : i < 64) : bt (fB s b) i = bt (bR s b) i := by
  unfold fB bR
  rw [← fill_eq, bt_extract _ _ _ _ (by omega), bt_extract _ _ _ _ (by omega)]
theorem expand_fB (s : ByteArray) (b : Nat) (h : b < (fillL s).size / 64) : expandL (fB s b) = expandL (bR s b) := by
  rw [expand_eq, expand_eq, expand_congr (bt_fB s b h)]
theorem cS_eq (s : ByteArray) : ∀ b, b ≤ (fillL s).size / 64 → cS s b = chR s b
  | 0, _ => rfl
  | b + 1, h => by
    rw [cS, chR, cS_eq s b (by omega), ← pr_eq, prL, prL]
    unfold pressL
    rw [expand_fB s b (by omega)]
    rfl
theorem mrow_eq (s : ByteArray) (b : Nat) (h : b < (fillL s).size / 64) (m0 : Bool) : ∀ i, i ≤ 21 → mrow s b m0 i = mrowR s b m0 i
  | 0, _ => rfl
  | i + 1, hi => by
    rw [mrow, mrowR, mrow_eq s b h m0 i (by omega)]
    congr 1
    rw [← marked_eq]
    unfold markedL
    have hz : ¬ differenceL (vT i) (vK i) (vB i) = List.replicate 80 0 := alnz i (by omega)
    rw [decide_eq_false hz, cS_eq s b (by omega), expand_fB s b h]
    rfl
theorem mblk_eq (s : ByteArray) : ∀ b, b ≤ (fillL s).size / 64 → mblk s b = mblkR s b
  | 0, _ => rfl
  | b + 1, h => by rw [mblk, mblkR, mblk_eq s b (by omega), mrow_eq s b (by omega) _ 21 (by omega)]
end Go.Proofs.YtfjhnnpdaggnbaaGreatDoor.Q
end
