/- Merged out of this session's texts by a program (wip/gen/merge.py): declarations that this claim doesn't name are left out. -/
import Derived.Test.YtfjhnnpdaggnbaaGreatDoorMIdentTells1
import Derived.Shelf.Strings.Repeat
import Derived.Shelf.Strconv.Itoa3
import Derived.Shelf.LaysM
set_option linter.unusedVariables false
set_option linter.unusedSimpArgs false
/-! A2 -/
section
namespace Go.Proofs.YtfjhnnpdaggnbaaGreatDoor.Q
open Go.RowKit Go.Proofs.YtfjhnnpdaggnbaaGreatDoor.P
set_option linter.unusedVariables false
set_option linter.unusedSimpArgs false
set_option maxRecDepth 100000
set_option maxHeartbeats 4000000
attribute [local irreducible] wpList wpQuiet qch Code.wp Oper.quiet Act.put At Region.wanted yielded
theorem sz63 : (Tryz.prog.info? 63).map (·.size) = some 3 := by kernel_rfl
theorem sz84 : (Tryz.prog.info? 84).map (·.size) = some 3 := by kernel_rfl
def up (l : List Int) (K : Nat) (rt : Int → Int) : Nat → List Int
  | 0 => l
  | k + 1 => (up l K rt k).set (k + K + 21) (rt (Go.bits .xor .u32 (Go.bits .xor .u32 (Go.bits .xor .u32 ((up l K rt k).getD (k + K + 18) 0) ((up l K rt k).getD (k + K + 13) 0)) ((up l K rt k).getD (k + K + 7) 0)) ((up l K rt k).getD (k + K + 5) 0)))
theorem up_len (l : List Int) (K : Nat) (rt : Int → Int) (h : l.length = 85) : ∀ k, (up l K rt k).length = 85
  | 0 => h
  | k + 1 => by rw [up, List.length_set, up_len l K rt h k]
def dnL (l : List Int) (K : Nat) : Nat → List Int
  | 0 => l
  | k + 1 => (dnL l K k).set ((K + 4) - k) (Go.bits .xor .u32 (Go.bits .xor .u32 (Go.bits .xor .u32 (rotl ((dnL l K k).getD ((K + 20) - k) 0) 31) ((dnL l K k).getD ((K + 17) - k) 0)) ((dnL l K k).getD ((K + 12) - k) 0)) ((dnL l K k).getD ((K + 6) - k) 0))
theorem dnL_len (l : List Int) (K : Nat) (h : l.length = 85) : ∀ k, (dnL l K k).length = 85
  | 0 => h
  | k + 1 => by rw [dnL, List.length_set, dnL_len l K h k]
def dnR (l : List Int) (K : Nat) : Nat → List Int
  | 0 => l
  | k + 1 => (dnR l K k).set ((K + 4) - k) (Go.bits .xor .u32 (Go.bits .xor .u32 (Go.bits .xor .u32 (rotr ((dnR l K k).getD ((K + 20) - k) 0) 31) ((dnR l K k).getD ((K + 17) - k) 0)) ((dnR l K k).getD ((K + 12) - k) 0)) ((dnR l K k).getD ((K + 6) - k) 0))
theorem dnR_len (l : List Int) (K : Nat) (h : l.length = 85) : ∀ k, (dnR l K k).length = 85
  | 0 => h
  | k + 1 => by rw [dnR, List.length_set, dnR_len l K h k]
def beginL (two : Bool) (K B : Nat) : List Int :=
  let l := (List.replicate 85 0).set (K + 20) (IntKind.u32.wrap (1 * 2 ^ min ((B : Nat) : Int).toNat 32))
  if two then (l.set (K + 6) (rotl 1 ((B + 31 : Nat) : Int))).set (K + 8) ((l.set (K + 6) (rotl 1 ((B + 31 : Nat) : Int))).getD (K + 6) 0) else l
theorem beginL_len (two : Bool) (K B : Nat) : (beginL two K B).length = 85 := by
  unfold beginL
  cases two <;> simp
def beginR (two : Bool) (K B : Nat) : List Int :=
  let l := (List.replicate 85 0).set (K + 20) (IntKind.u32.wrap (1 * 2 ^ min (IntKind.u64.wrap ((B : Nat) : Int)).toNat 32))
  if two then (l.set (K + 6) (IntKind.u32.wrap (1 * 2 ^ min (IntKind.u64.wrap (((B + 31) % 32 : Nat) : Int)).toNat 32))).set (K + 8) (IntKind.u32.wrap (1 * 2 ^ min (IntKind.u64.wrap (((B + 31) % 32 : Nat) : Int)).toNat 32)) else l
theorem beginR_len (two : Bool) (K B : Nat) : (beginR two K B).length = 85 := by
  unfold beginR
  cases two <;> simp
def rowL (two : Bool) (K B : Nat) : List Int := dnL (up (beginL two K B) K (fun x => rotl x 1) (64 - K)) K (K + 5)
theorem rowL_len (two : Bool) (K B : Nat) : (rowL two K B).length = 85 := dnL_len _ K (up_len _ K _ (beginL_len two K B) _) _
def rowR (two : Bool) (K B : Nat) : List Int := dnR (up (beginR two K B) K (fun x => rotr x 1) (64 - K)) K (K + 5)
def diffL (d : List Int) : Nat → List Int
  | 0 => List.replicate 80 0
  | t + 1 => (diffL d t).set t (Go.bits .xor .u32 (Go.bits .xor .u32 (Go.bits .xor .u32 (d.getD (t + 5) 0) (rotl (d.getD (t + 4) 0) 5)) (d.getD (t + 3) 0)) (rotl (Go.bits .xor .u32 (Go.bits .xor .u32 (d.getD (t + 2) 0) (d.getD (t + 1) 0)) (d.getD t 0)) 30))
theorem diffL_len (d : List Int) : ∀ t, (diffL d t).length = 80
  | 0 => List.length_replicate
  | t + 1 => by rw [diffL, List.length_set, diffL_len d t]
def diffR (d : List Int) : Nat → List Int
  | 0 => List.replicate 80 0
  | t + 1 => (diffR d t).set t (Go.bits .xor .u32 (Go.bits .xor .u32 (Go.bits .xor .u32 (Go.bits .xor .u32 (Go.bits .xor .u32 (d.getD (t + 5) 0) (rotr (d.getD (t + 4) 0) 5)) (d.getD (t + 3) 0)) (rotr (d.getD (t + 2) 0) 30)) (rotr (d.getD (t + 1) 0) 30)) (rotr (d.getD t 0) 30))
theorem diffR_len (d : List Int) : ∀ t, (diffR d t).length = 80
  | 0 => List.length_replicate
  | t + 1 => by rw [diffR, List.length_set, diffR_len d t]
theorem Row1.calls (K B : Nat) (hK : K ≤ 64) (hB : B ≤ 31) (w0 : World) : Calls Tryz.prog 60 #[.agg #[.int .i64 1, .int .i64 (K : Int), .int .i64 (B : Int)]] w0 fun e w' => e = .returned (.agg (nums .u32 (rowL false K B))) ∧ Low w0 w' := by
 refine c_fun (R := _) Tryz.func60 rfl 90 rfl (Nat.le_of_ble_eq_true rfl) ?_
 intro a z hA
 have s0 := hA 0 _ rfl
 clear hA
 refine c_seq (c_region (l_box rfl rfl s0.ev ?_))
 intro g1 w1 hg1 k1 h1
 have geg1 := Nat.le_trans (Low.refl _).ge hg1
 refine l_alloc rfl rfl zero90 ?_
 intro g2 w2 hg2 k2 h2
 have lt_g1_g2 := Nat.lt_of_lt_of_le (heap_lt k1) hg2
 have geg2 := Nat.le_trans h1.ge hg2
 have kg1_2 := h2.blk k1
 refine l_end (e_fresh z.p2 ?_)
 intro a3 z3 m3
 have s1_3 := m3 _ _ ((At.hit z rfl).n1)
 have s2_3 := m3 _ _ (At.hit z.put rfl)
 have low3 := (h1.trans h2)
 clear m3
 refine e_then (c_seq (c_region (l_alloc rfl rfl zero90 ?_)))
 intro g3 w4 hg4 k4 h4
 have lt_g1_g3 := Nat.lt_of_lt_of_le (heap_lt kg1_2) hg4
 have lt_g2_g3 := Nat.lt_of_lt_of_le (heap_lt k2) hg4
 have geg3 := Nat.le_trans low3.ge hg4
 have kg1_4 := h4.blk kg1_2
 have kg2_4 := h4.blk k2
 refine l_end (e_fresh z3.put ?_)
 intro a5 z5 m5
 have s1_5 := m5 _ _ (s1_3.n1)
 have s2_5 := m5 _ _ (s2_3.n1)
 have s3_5 := m5 _ _ (At.hit z3 rfl)
 have low5 := (low3.trans h4)
 clear m5
 refine e_then (c_seq (c_region ?_))
 refine l_q rfl (q_fld 1 rfl (by kernel_rfl) s1_5.ev ?_)
 refine l_q rfl (q_cell (.int .i64 ((K : Nat) : Int)) rfl Tryz.underlying3 (At.hit z5 rfl).ev (fun _ e => by rw [e]; exact (cells_at kg1_4 1).trans rfl) ?_)
 refine l_q rfl (q_add (((K + 5 : Nat) : Int)) rfl (At.hit z5.put rfl).ev rfl (i64_is (by omega) (by omega) (by omega)) ?_)
 refine l_q rfl (q_assign _ _ rfl (At.hit z5.p2 rfl).ev ?_)
 refine l_end (e_fresh z5.p4 ?_)
 intro a6 z6 m6
 have s1_6 := m6 _ _ (s1_5.n4)
 have s2_6 := m6 _ _ (s2_5.n4)
 have s3_6 := m6 _ _ (s3_5.n4)
 have s4_6 := m6 _ _ (At.hit z5.p3 rfl)
 clear m6
 refine e_then (c_seq (c_region ?_))
 refine l_q rfl (q_move _ _ rfl s4_6.ev ?_)
 refine l_q rfl (q_add (((K + 20 : Nat) : Int)) rfl (At.hit z6 rfl).ev rfl (i64_is (by omega) (by omega) (by omega)) ?_)
 refine l_q rfl (q_fld 2 rfl (by kernel_rfl) (s1_6.n2).ev ?_)
 refine l_q rfl (q_cell (.int .i64 ((B : Nat) : Int)) rfl Tryz.underlying3 (At.hit z6.p2 rfl).ev (fun _ e => by rw [e]; exact (cells_at kg1_4 2).trans rfl) ?_)
 refine l_q rfl (q_shl (IntKind.u32.wrap (1 * 2 ^ min (((B : Nat) : Int) : Int).toNat 32)) rfl rfl (At.hit z6.p3 rfl).ev (by first | omega | exact u64_nonneg _) rfl ?_)
 refine l_q rfl (q_idx (j := K + 20) rfl Tryz.underlying90 sz64 (s3_6.n5).ev ((At.hit z6.put rfl).n3).ev (by omega) ?_)
 refine l_cell (j := (K + 20)) (v := .int .u32 (IntKind.u32.wrap (1 * 2 ^ min (((B : Nat) : Int) : Int).toNat 32))) rfl rfl rfl sz64 (At.hit z6.p5 rfl).ev ((At.hit z6.p4 rfl).n1).ev rfl k4 (by rw [(nums_size _ _).trans (List.length_replicate)]; omega) ?_
 intro w7 k7 u7
 rw [nums_put] at k7
 have kg1_7 := u7.blk kg1_4 (by omega)
 have kg2_7 := u7.blk kg2_4 (by omega)
 refine l_end (e_fresh z6.p6 ?_)
 intro a8 z8 m8
 have s1_8 := m8 _ _ (s1_6.n6)
 have s2_8 := m8 _ _ (s2_6.n6)
 have s3_8 := m8 _ _ (s3_6.n6)
 have s4_8 := m8 _ _ (s4_6.n6)
 have low8 := (low5.upd u7 geg3)
 clear m8
 refine e_then (c_seq (c_seq (c_region ?_)))
 refine l_q rfl (q_fld 0 rfl (by kernel_rfl) s1_8.ev ?_)
 refine l_q rfl (q_cell (.int .i64 1) rfl Tryz.underlying3 (At.hit z8 rfl).ev (fun _ e => by rw [e]; exact (cells_at kg1_7 0).trans rfl) ?_)
 refine l_q rfl (q_eql false rfl (At.hit z8.put rfl).ev rfl (decide_eq_false (by omega)) ?_)
 refine l_end (e_fresh z8.p3 ?_)
 intro a9 z9 m9
 have s1_9 := m9 _ _ (s1_8.n3)
 have s2_9 := m9 _ _ (s2_8.n3)
 have s3_9 := m9 _ _ (s3_8.n3)
 have s4_9 := m9 _ _ (s4_8.n3)
 have s18_9 := m9 _ _ (At.hit z8.p2 rfl)
 clear m9
 refine e_then (c_false s18_9 ?_)
 refine wp_skip (e_then (c_seq (c_seq (c_region ?_))))
 refine l_q rfl (q_move _ _ rfl s4_9.ev ?_)
 refine l_q rfl (q_add (((K + 21 : Nat) : Int)) rfl (At.hit z9 rfl).ev rfl (i64_is (by omega) (by omega) (by omega)) ?_)
 refine l_q rfl (q_assign _ _ rfl (At.hit z9.put rfl).ev ?_)
 refine l_end (e_fresh z9.p3 ?_)
 intro a10 z10 m10
 have s2_10 := m10 _ _ (s2_9.n3)
 have s3_10 := m10 _ _ (s3_9.n3)
 have s4_10 := m10 _ _ (s4_9.n3)
 have s5_10 := m10 _ _ (At.hit z9.p2 rfl)
 clear m10
 refine e_then (wp_block (c_loop (64 - K) (fun k a w => Fr 90 a ∧ At a 2 (.pointer (some ⟨g2, 0, none⟩)) ∧ At a 3 (.pointer (some ⟨g3, 0, none⟩)) ∧ At a 4 (.int .i64 ((K + 5 : Nat) : Int)) ∧ At a 5 (.int .i64 ((k + K + 21 : Nat) : Int)) ∧ w.heap[g2]? = some (.cells (nums .u32 (List.replicate 85 0)) 90) ∧ w.heap[g3]? = some (.cells (nums .u32 (up (beginL false K B) K (fun x => rotl x 1) k)) 90) ∧ Low w0 w) ?_ ?_ ?_))
 ·
  exact ⟨z10, s2_10, s3_10, s4_10, (s5_10.same (congrArg (Value.int .i64) (by omega))), kg2_7, k7, low8⟩
 ·
  intro k a11 w11 hk11 h
  obtain ⟨z11, s2_11, s3_11, s4_11, s5_11, kg2_11, kg3_11, low11⟩ := h
  clear k7 kg2_7 low8 s2_10 s3_10 s4_10 s5_10 z10
  refine c_seq (c_seq (c_region ?_))
  refine l_q rfl (q_move _ _ rfl s5_11.ev ?_)
  refine l_q rfl (q_lss true rfl (At.hit z11 rfl).ev rfl (decide_eq_true (by omega)) ?_)
  refine l_end (e_fresh z11.p2 ?_)
  intro a12 z12 m12
  have s2_12 := m12 _ _ (s2_11.n2)
  have s3_12 := m12 _ _ (s3_11.n2)
  have s4_12 := m12 _ _ (s4_11.n2)
  have s5_12 := m12 _ _ (s5_11.n2)
  have s36_12 := m12 _ _ (At.hit z11.put rfl)
  clear m12
  refine e_then (c_true s36_12 ?_)
  refine wp_skip (e_then (c_seq (wp_block (region_low_tail 22 hm (by kernel_rfl) ?_))))
  simp only [List.take_succ_cons, List.take_zero, List.drop_succ_cons, List.drop_zero]
  refine qs (q_move _ _ rfl s5_12.ev ?_)
  refine qs (q_move _ _ rfl (s5_12.n1).ev ?_)
  refine qs (q_sub (((k + K + 18 : Nat) : Int)) rfl (At.hit z12.put rfl).ev rfl (i64_is (by omega) (by omega) (by omega)) ?_)
  refine qs (q_idx (j := k + K + 18) rfl Tryz.underlying90 sz64 (s3_12.n3).ev (At.hit z12.p2 rfl).ev (by omega) ?_)
  refine qs (q_cell (.int .u32 ((up (beginL false K B) K (fun x => rotl x 1) k).getD (k + K + 18) 0)) rfl Tryz.underlying64 (At.hit z12.p3 rfl).ev (fun _ h => nums_cell (h.blk kg3_11) (k + K + 18) (by rw [(up_len _ K _ (beginL_len false K B) _)]; omega)) ?_)
  refine qs (q_move _ _ rfl (s5_12.n5).ev ?_)
  refine qs (q_sub (((k + K + 13 : Nat) : Int)) rfl (At.hit z12.p5 rfl).ev rfl (i64_is (by omega) (by omega) (by omega)) ?_)
  refine qs (q_idx (j := k + K + 13) rfl Tryz.underlying90 sz64 (s3_12.n7).ev (At.hit z12.p6 rfl).ev (by omega) ?_)
  refine q_fresh z12.p8 ?_
  intro a13 z13 m13
  have s2_13 := m13 _ _ (s2_12.n8)
  have s3_13 := m13 _ _ (s3_12.n8)
  have s4_13 := m13 _ _ (s4_12.n8)
  have s5_13 := m13 _ _ (s5_12.n8)
  have s39_13 := m13 _ _ ((At.hit z12 rfl).n7)
  have s43_13 := m13 _ _ ((At.hit z12.p4 rfl).n3)
  have s46_13 := m13 _ _ (At.hit z12.p7 rfl)
  clear m13
  refine qs (q_cell (.int .u32 ((up (beginL false K B) K (fun x => rotl x 1) k).getD (k + K + 13) 0)) rfl Tryz.underlying64 s46_13.ev (fun _ h => nums_cell (h.blk kg3_11) (k + K + 13) (by rw [(up_len _ K _ (beginL_len false K B) _)]; omega)) ?_)
  refine qs (q_xor rfl (s43_13.n1).ev (At.hit z13 rfl).ev ?_)
  refine qs (q_move _ _ rfl (s5_13.n2).ev ?_)
  refine qs (q_sub (((k + K + 7 : Nat) : Int)) rfl (At.hit z13.p2 rfl).ev rfl (i64_is (by omega) (by omega) (by omega)) ?_)
  refine qs (q_idx (j := k + K + 7) rfl Tryz.underlying90 sz64 (s3_13.n4).ev (At.hit z13.p3 rfl).ev (by omega) ?_)
  refine qs (q_cell (.int .u32 ((up (beginL false K B) K (fun x => rotl x 1) k).getD (k + K + 7) 0)) rfl Tryz.underlying64 (At.hit z13.p4 rfl).ev (fun _ h => nums_cell (h.blk kg3_11) (k + K + 7) (by rw [(up_len _ K _ (beginL_len false K B) _)]; omega)) ?_)
  refine qs (q_xor rfl ((At.hit z13.put rfl).n4).ev (At.hit z13.p5 rfl).ev ?_)
  refine qs (q_move _ _ rfl (s5_13.n7).ev ?_)
  refine q_fresh z13.p8 ?_
  intro a14 z14 m14
  have s2_14 := m14 _ _ (s2_13.n8)
  have s3_14 := m14 _ _ (s3_13.n8)
  have s4_14 := m14 _ _ (s4_13.n8)
  have s5_14 := m14 _ _ (s5_13.n8)
  have s39_14 := m14 _ _ (s39_13.n8)
  have s53_14 := m14 _ _ ((At.hit z13.p6 rfl).n1)
  have s54_14 := m14 _ _ (At.hit z13.p7 rfl)
  clear m14
  refine qs (q_sub (((k + K + 5 : Nat) : Int)) rfl s54_14.ev rfl (i64_is (by omega) (by omega) (by omega)) ?_)
  refine qs (q_idx (j := k + K + 5) rfl Tryz.underlying90 sz64 (s3_14.n1).ev (At.hit z14 rfl).ev (by omega) ?_)
  refine qs (q_cell (.int .u32 ((up (beginL false K B) K (fun x => rotl x 1) k).getD (k + K + 5) 0)) rfl Tryz.underlying64 (At.hit z14.put rfl).ev (fun _ h => nums_cell (h.blk kg3_11) (k + K + 5) (by rw [(up_len _ K _ (beginL_len false K B) _)]; omega)) ?_)
  refine qs (q_xor rfl (s53_14.n3).ev (At.hit z14.p2 rfl).ev ?_)
  refine qs (q_call (.int .u32 (rotl (Go.bits .xor .u32 (Go.bits .xor .u32 (Go.bits .xor .u32 ((up (beginL false K B) K (fun x => rotl x 1) k).getD (k + K + 18) 0) ((up (beginL false K B) K (fun x => rotl x 1) k).getD (k + K + 13) 0)) ((up (beginL false K B) K (fun x => rotl x 1) k).getD (k + K + 7) 0)) ((up (beginL false K B) K (fun x => rotl x 1) k).getD (k + K + 5) 0)) 1)) rfl rfl Tryz.func61 rfl (args2 rfl (At.hit z14.p3 rfl).ev rfl) (fun _ h => (RotL.calls (Go.bits .xor .u32 (Go.bits .xor .u32 (Go.bits .xor .u32 ((up (beginL false K B) K (fun x => rotl x 1) k).getD (k + K + 18) 0) ((up (beginL false K B) K (fun x => rotl x 1) k).getD (k + K + 13) 0)) ((up (beginL false K B) K (fun x => rotl x 1) k).getD (k + K + 7) 0)) ((up (beginL false K B) K (fun x => rotl x 1) k).getD (k + K + 5) 0)) 1 _).mono fun _ _ ⟨e, k⟩ => ⟨e, h.trans k⟩) ?_)
  refine qs (q_idx (j := k + K + 21) rfl Tryz.underlying90 sz64 (s3_14.n5).ev (s39_14.n5).ev (by omega) ?_)
  refine qz ?_
  intro w15 h15
  have kg2_15 := h15.blk kg2_11
  have kg3_15 := h15.blk kg3_11
  refine l_cell (j := (k + K + 21)) (v := .int .u32 (rotl (Go.bits .xor .u32 (Go.bits .xor .u32 (Go.bits .xor .u32 ((up (beginL false K B) K (fun x => rotl x 1) k).getD (k + K + 18) 0) ((up (beginL false K B) K (fun x => rotl x 1) k).getD (k + K + 13) 0)) ((up (beginL false K B) K (fun x => rotl x 1) k).getD (k + K + 7) 0)) ((up (beginL false K B) K (fun x => rotl x 1) k).getD (k + K + 5) 0)) 1)) rfl rfl rfl sz64 (At.hit z14.p5 rfl).ev ((At.hit z14.p4 rfl).n1).ev rfl kg3_15 (by rw [(nums_size _ _).trans (up_len _ K _ (beginL_len false K B) _)]; omega) ?_
  intro w16 k16 u16
  rw [nums_put] at k16
  have kg2_16 := u16.blk kg2_15 (by omega)
  refine l_end (e_fresh z14.p6 ?_)
  intro a17 z17 m17
  have s2_17 := m17 _ _ (s2_14.n6)
  have s3_17 := m17 _ _ (s3_14.n6)
  have s4_17 := m17 _ _ (s4_14.n6)
  have s5_17 := m17 _ _ (s5_14.n6)
  have low17 := ((low11.trans h15).upd u16 geg3)
  clear m17
  refine e_in (e_then (c_region ?_))
  refine l_q rfl (q_move _ _ rfl s5_17.ev ?_)
  refine l_q rfl (q_add (((k + K + 22 : Nat) : Int)) rfl (At.hit z17 rfl).ev rfl (i64_is (by omega) (by omega) (by omega)) ?_)
  refine l_q rfl (q_assign _ _ rfl (At.hit z17.put rfl).ev ?_)
  refine l_end (e_fresh z17.p3 ?_)
  intro a18 z18 m18
  have s2_18 := m18 _ _ (s2_17.n3)
  have s3_18 := m18 _ _ (s3_17.n3)
  have s4_18 := m18 _ _ (s4_17.n3)
  have s5_18 := m18 _ _ (At.hit z17.p2 rfl)
  clear m18
  exact ⟨z18, s2_18, s3_18, s4_18, (s5_18.same (congrArg (Value.int .i64) (by omega))), kg2_16, k16, low17⟩
 ·
  intro a19 w19 h
  obtain ⟨z19, s2_19, s3_19, s4_19, s5_19, kg2_19, kg3_19, low19⟩ := h
  clear k7 kg2_7 low8 s2_10 s3_10 s4_10 s5_10 z10
  have s5_19 := s5_19.same (congrArg (Value.int .i64) (show _ = (85 : Int) by omega))
  refine c_seq (c_seq (c_region ?_))
  refine l_q rfl (q_move _ _ rfl s5_19.ev ?_)
  refine l_q rfl (q_lss false rfl (At.hit z19 rfl).ev rfl (decide_eq_false (by omega)) ?_)
  refine l_end (e_fresh z19.p2 ?_)
  intro a20 z20 m20
  have s2_20 := m20 _ _ (s2_19.n2)
  have s3_20 := m20 _ _ (s3_19.n2)
  have s4_20 := m20 _ _ (s4_19.n2)
  have s5_20 := m20 _ _ (s5_19.n2)
  have s36_20 := m20 _ _ (At.hit z19.put rfl)
  clear m20
  refine e_then (c_false s36_20 ?_)
  refine wp_exit (x_then (x_then (in_exit (e_then (c_seq (c_seq (c_region ?_)))))))
  refine l_q rfl (q_move _ _ rfl s4_20.ev ?_)
  refine l_q rfl (q_sub (((K + 4 : Nat) : Int)) rfl (At.hit z20 rfl).ev rfl (i64_is (by omega) (by omega) (by omega)) ?_)
  refine l_q rfl (q_assign _ _ rfl (At.hit z20.put rfl).ev ?_)
  refine l_end (e_fresh z20.p3 ?_)
  intro a21 z21 m21
  have s2_21 := m21 _ _ (s2_20.n3)
  have s3_21 := m21 _ _ (s3_20.n3)
  have s6_21 := m21 _ _ (At.hit z20.p2 rfl)
  clear m21
  refine e_then (wp_block (c_loop (K + 5) (fun k a w => Fr 90 a ∧ At a 2 (.pointer (some ⟨g2, 0, none⟩)) ∧ At a 3 (.pointer (some ⟨g3, 0, none⟩)) ∧ At a 6 (.int .i64 (((K : Nat) : Int) + 4 - ((k : Nat) : Int))) ∧ w.heap[g2]? = some (.cells (nums .u32 (List.replicate 85 0)) 90) ∧ w.heap[g3]? = some (.cells (nums .u32 (dnL (up (beginL false K B) K (fun x => rotl x 1) (64 - K)) K k)) 90) ∧ Low w0 w) ?_ ?_ ?_))
  ·
   exact ⟨z21, s2_21, s3_21, (s6_21.same (congrArg (Value.int .i64) (by omega))), kg2_19, kg3_19, low19⟩
  ·
   intro k a22 w22 hk22 h
   obtain ⟨z22, s2_22, s3_22, s6_22, kg2_22, kg3_22, low22⟩ := h
   clear kg2_19 kg3_19 low19 s2_21 s3_21 s6_21 z21
   refine c_seq (c_seq (c_region ?_))
   refine l_q rfl (q_move _ _ rfl s6_22.ev ?_)
   refine l_q rfl (q_geq true rfl (At.hit z22 rfl).ev rfl (decide_eq_true (by omega)) ?_)
   refine l_end (e_fresh z22.p2 ?_)
   intro a23 z23 m23
   have s2_23 := m23 _ _ (s2_22.n2)
   have s3_23 := m23 _ _ (s3_22.n2)
   have s6_23 := m23 _ _ (s6_22.n2)
   have s64_23 := m23 _ _ (At.hit z22.put rfl)
   clear m23
   refine e_then (c_true s64_23 ?_)
   refine wp_skip (e_then (c_seq (wp_block (region_low_tail 22 hm (by kernel_rfl) ?_))))
   simp only [List.take_succ_cons, List.take_zero, List.drop_succ_cons, List.drop_zero]
   refine qs (q_move _ _ rfl s6_23.ev ?_)
   refine qs (q_move _ _ rfl (s6_23.n1).ev ?_)
   refine qs (q_add ((((K : Nat) : Int) + 20 - ((k : Nat) : Int))) rfl (At.hit z23.put rfl).ev rfl (i64_is (by omega) (by omega) (by omega)) ?_)
   refine qs (q_idx (j := (K + 20) - k) rfl Tryz.underlying90 sz64 (s3_23.n3).ev ((At.hit z23.p2 rfl).same (congrArg (Value.int .i64) (show ((((K : Nat) : Int) + 20 - ((k : Nat) : Int)) : Int) = (((K + 20) - k : Nat) : Int) by omega))).ev (by omega) ?_)
   refine qs (q_cell (.int .u32 ((dnL (up (beginL false K B) K (fun x => rotl x 1) (64 - K)) K k).getD ((K + 20) - k) 0)) rfl Tryz.underlying64 (At.hit z23.p3 rfl).ev (fun _ h => nums_cell (h.blk kg3_22) ((K + 20) - k) (by rw [(dnL_len _ K (up_len _ K _ (beginL_len false K B) _) _)]; omega)) ?_)
   refine qs (q_call (.int .u32 (rotl ((dnL (up (beginL false K B) K (fun x => rotl x 1) (64 - K)) K k).getD ((K + 20) - k) 0) 31)) rfl rfl Tryz.func61 rfl (args2 rfl (At.hit z23.p4 rfl).ev rfl) (fun _ h => (RotL.calls ((dnL (up (beginL false K B) K (fun x => rotl x 1) (64 - K)) K k).getD ((K + 20) - k) 0) 31 _).mono fun _ _ ⟨e, k⟩ => ⟨e, h.trans k⟩) ?_)
   refine qs (q_move _ _ rfl (s6_23.n6).ev ?_)
   refine qs (q_add ((((K : Nat) : Int) + 17 - ((k : Nat) : Int))) rfl (At.hit z23.p6 rfl).ev rfl (i64_is (by omega) (by omega) (by omega)) ?_)
   refine q_fresh z23.p8 ?_
   intro a24 z24 m24
   have s2_24 := m24 _ _ (s2_23.n8)
   have s3_24 := m24 _ _ (s3_23.n8)
   have s6_24 := m24 _ _ (s6_23.n8)
   have s67_24 := m24 _ _ ((At.hit z23 rfl).n7)
   have s72_24 := m24 _ _ ((At.hit z23.p5 rfl).n2)
   have s74_24 := m24 _ _ (At.hit z23.p7 rfl)
   clear m24
   refine qs (q_idx (j := (K + 17) - k) rfl Tryz.underlying90 sz64 s3_24.ev (s74_24.same (congrArg (Value.int .i64) (show ((((K : Nat) : Int) + 17 - ((k : Nat) : Int)) : Int) = (((K + 17) - k : Nat) : Int) by omega))).ev (by omega) ?_)
   refine qs (q_cell (.int .u32 ((dnL (up (beginL false K B) K (fun x => rotl x 1) (64 - K)) K k).getD ((K + 17) - k) 0)) rfl Tryz.underlying64 (At.hit z24 rfl).ev (fun _ h => nums_cell (h.blk kg3_22) ((K + 17) - k) (by rw [(dnL_len _ K (up_len _ K _ (beginL_len false K B) _) _)]; omega)) ?_)
   refine qs (q_xor rfl (s72_24.n2).ev (At.hit z24.put rfl).ev ?_)
   refine qs (q_move _ _ rfl (s6_24.n3).ev ?_)
   refine qs (q_add ((((K : Nat) : Int) + 12 - ((k : Nat) : Int))) rfl (At.hit z24.p3 rfl).ev rfl (i64_is (by omega) (by omega) (by omega)) ?_)
   refine qs (q_idx (j := (K + 12) - k) rfl Tryz.underlying90 sz64 (s3_24.n5).ev ((At.hit z24.p4 rfl).same (congrArg (Value.int .i64) (show ((((K : Nat) : Int) + 12 - ((k : Nat) : Int)) : Int) = (((K + 12) - k : Nat) : Int) by omega))).ev (by omega) ?_)
   refine qs (q_cell (.int .u32 ((dnL (up (beginL false K B) K (fun x => rotl x 1) (64 - K)) K k).getD ((K + 12) - k) 0)) rfl Tryz.underlying64 (At.hit z24.p5 rfl).ev (fun _ h => nums_cell (h.blk kg3_22) ((K + 12) - k) (by rw [(dnL_len _ K (up_len _ K _ (beginL_len false K B) _) _)]; omega)) ?_)
   refine qs (q_xor rfl ((At.hit z24.p2 rfl).n4).ev (At.hit z24.p6 rfl).ev ?_)
   refine q_fresh z24.p8 ?_
   intro a25 z25 m25
   have s2_25 := m25 _ _ (s2_24.n8)
   have s3_25 := m25 _ _ (s3_24.n8)
   have s6_25 := m25 _ _ (s6_24.n8)
   have s67_25 := m25 _ _ (s67_24.n8)
   have s82_25 := m25 _ _ (At.hit z24.p7 rfl)
   clear m25
   refine qs (q_move _ _ rfl s6_25.ev ?_)
   refine qs (q_add ((((K : Nat) : Int) + 6 - ((k : Nat) : Int))) rfl (At.hit z25 rfl).ev rfl (i64_is (by omega) (by omega) (by omega)) ?_)
   refine qs (q_idx (j := (K + 6) - k) rfl Tryz.underlying90 sz64 (s3_25.n2).ev ((At.hit z25.put rfl).same (congrArg (Value.int .i64) (show ((((K : Nat) : Int) + 6 - ((k : Nat) : Int)) : Int) = (((K + 6) - k : Nat) : Int) by omega))).ev (by omega) ?_)
   refine qs (q_cell (.int .u32 ((dnL (up (beginL false K B) K (fun x => rotl x 1) (64 - K)) K k).getD ((K + 6) - k) 0)) rfl Tryz.underlying64 (At.hit z25.p2 rfl).ev (fun _ h => nums_cell (h.blk kg3_22) ((K + 6) - k) (by rw [(dnL_len _ K (up_len _ K _ (beginL_len false K B) _) _)]; omega)) ?_)
   refine qs (q_xor rfl (s82_25.n4).ev (At.hit z25.p3 rfl).ev ?_)
   refine qs (q_idx (j := (K + 4) - k) rfl Tryz.underlying90 sz64 (s3_25.n5).ev ((s67_25.n5).same (congrArg (Value.int .i64) (show ((((K : Nat) : Int) + 4 - ((k : Nat) : Int)) : Int) = (((K + 4) - k : Nat) : Int) by omega))).ev (by omega) ?_)
   refine qz ?_
   intro w26 h26
   have kg2_26 := h26.blk kg2_22
   have kg3_26 := h26.blk kg3_22
   refine l_cell (j := ((K + 4) - k)) (v := .int .u32 (Go.bits .xor .u32 (Go.bits .xor .u32 (Go.bits .xor .u32 (rotl ((dnL (up (beginL false K B) K (fun x => rotl x 1) (64 - K)) K k).getD ((K + 20) - k) 0) 31) ((dnL (up (beginL false K B) K (fun x => rotl x 1) (64 - K)) K k).getD ((K + 17) - k) 0)) ((dnL (up (beginL false K B) K (fun x => rotl x 1) (64 - K)) K k).getD ((K + 12) - k) 0)) ((dnL (up (beginL false K B) K (fun x => rotl x 1) (64 - K)) K k).getD ((K + 6) - k) 0))) rfl rfl rfl sz64 (At.hit z25.p5 rfl).ev ((At.hit z25.p4 rfl).n1).ev rfl kg3_26 (by rw [(nums_size _ _).trans (dnL_len _ K (up_len _ K _ (beginL_len false K B) _) _)]; omega) ?_
   intro w27 k27 u27
   rw [nums_put] at k27
   have kg2_27 := u27.blk kg2_26 (by omega)
   refine l_end (e_fresh z25.p6 ?_)
   intro a28 z28 m28
   have s2_28 := m28 _ _ (s2_25.n6)
   have s3_28 := m28 _ _ (s3_25.n6)
   have s6_28 := m28 _ _ (s6_25.n6)
   have low28 := ((low22.trans h26).upd u27 geg3)
   clear m28
   refine e_in (e_then (c_region ?_))
   refine l_q rfl (q_move _ _ rfl s6_28.ev ?_)
   refine l_q rfl (q_sub ((((K : Nat) : Int) + 3 - ((k : Nat) : Int))) rfl (At.hit z28 rfl).ev rfl (i64_is (by omega) (by omega) (by omega)) ?_)
   refine l_q rfl (q_assign _ _ rfl (At.hit z28.put rfl).ev ?_)
   refine l_end (e_fresh z28.p3 ?_)
   intro a29 z29 m29
   have s2_29 := m29 _ _ (s2_28.n3)
   have s3_29 := m29 _ _ (s3_28.n3)
   have s6_29 := m29 _ _ (At.hit z28.p2 rfl)
   clear m29
   exact ⟨z29, s2_29, s3_29, (s6_29.same (congrArg (Value.int .i64) (by omega))), kg2_27, k27, low28⟩
  ·
   intro a30 w30 h
   obtain ⟨z30, s2_30, s3_30, s6_30, kg2_30, kg3_30, low30⟩ := h
   clear kg2_19 kg3_19 low19 s2_21 s3_21 s6_21 z21
   have s6_30 := s6_30.same (congrArg (Value.int .i64) (show _ = ((-1) : Int) by omega))
   refine c_seq (c_seq (c_region ?_))
   refine l_q rfl (q_move _ _ rfl s6_30.ev ?_)
   refine l_q rfl (q_geq false rfl (At.hit z30 rfl).ev rfl (decide_eq_false (by omega)) ?_)
   refine l_end (e_fresh z30.p2 ?_)
   intro a31 z31 m31
   have s2_31 := m31 _ _ (s2_30.n2)
   have s3_31 := m31 _ _ (s3_30.n2)
   have s6_31 := m31 _ _ (s6_30.n2)
   have s64_31 := m31 _ _ (At.hit z30.put rfl)
   clear m31
   refine e_then (c_false s64_31 ?_)
   refine wp_exit (x_then (x_then (in_exit (e_then (c_seq (c_region ?_))))))
   refine l_q rfl (q_row rfl Tryz.underlying90 rfl (sz90.trans (congrArg some ((nums_size _ _).trans (dnL_len _ K (up_len _ K _ (beginL_len false K B) _) _)).symm)) s3_31.ev (fun _ e => by rw [e]; exact kg3_30) ?_)
   refine l_row rfl rfl rfl (sz90.trans (congrArg some ((nums_size _ _).trans (dnL_len _ K (up_len _ K _ (beginL_len false K B) _) _)).symm)) (s2_31.n1).ev (At.hit z31 rfl).ev (nums_one _ _) kg2_30 (((nums_size _ _).trans (List.length_replicate)).trans ((nums_size _ _).trans (dnL_len _ K (up_len _ K _ (beginL_len false K B) _) _)).symm) ?_
   intro w32 k32 u32
   have kg3_32 := u32.blk kg3_30 (by omega)
   refine l_end (e_fresh z31.put ?_)
   intro a33 z33 m33
   have s2_33 := m33 _ _ (s2_31.n1)
   have low33 := (low30.upd u32 geg2)
   clear m33
   refine e_then (wp_ret (r_cell rfl z33.defers s2_33 k32 Tryz.underlying90 rfl (sz90.trans (congrArg some ((nums_size _ _).trans (dnL_len _ K (up_len _ K _ (beginL_len false K B) _) _)).symm)) ?_))
   exact ⟨rfl, low33⟩
theorem Row2.calls (K B : Nat) (hK : K ≤ 64) (hB : B ≤ 31) (w0 : World) : Calls Tryz.prog 60 #[.agg #[.int .i64 2, .int .i64 (K : Int), .int .i64 (B : Int)]] w0 fun e w' => e = .returned (.agg (nums .u32 (rowL true K B))) ∧ Low w0 w' := by
 refine c_fun (R := _) Tryz.func60 rfl 90 rfl (Nat.le_of_ble_eq_true rfl) ?_
 intro a z hA
 have s0 := hA 0 _ rfl
 clear hA
 refine c_seq (c_region (l_box rfl rfl s0.ev ?_))
 intro g1 w1 hg1 k1 h1
 have geg1 := Nat.le_trans (Low.refl _).ge hg1
 refine l_alloc rfl rfl zero90 ?_
 intro g2 w2 hg2 k2 h2
 have lt_g1_g2 := Nat.lt_of_lt_of_le (heap_lt k1) hg2
 have geg2 := Nat.le_trans h1.ge hg2
 have kg1_2 := h2.blk k1
 refine l_end (e_fresh z.p2 ?_)
 intro a3 z3 m3
 have s1_3 := m3 _ _ ((At.hit z rfl).n1)
 have s2_3 := m3 _ _ (At.hit z.put rfl)
 have low3 := (h1.trans h2)
 clear m3
 refine e_then (c_seq (c_region (l_alloc rfl rfl zero90 ?_)))
 intro g3 w4 hg4 k4 h4
 have lt_g1_g3 := Nat.lt_of_lt_of_le (heap_lt kg1_2) hg4
 have lt_g2_g3 := Nat.lt_of_lt_of_le (heap_lt k2) hg4
 have geg3 := Nat.le_trans low3.ge hg4
 have kg1_4 := h4.blk kg1_2
 have kg2_4 := h4.blk k2
 refine l_end (e_fresh z3.put ?_)
 intro a5 z5 m5
 have s1_5 := m5 _ _ (s1_3.n1)
 have s2_5 := m5 _ _ (s2_3.n1)
 have s3_5 := m5 _ _ (At.hit z3 rfl)
 have low5 := (low3.trans h4)
 clear m5
 refine e_then (c_seq (c_region ?_))
 refine l_q rfl (q_fld 1 rfl (by kernel_rfl) s1_5.ev ?_)
 refine l_q rfl (q_cell (.int .i64 ((K : Nat) : Int)) rfl Tryz.underlying3 (At.hit z5 rfl).ev (fun _ e => by rw [e]; exact (cells_at kg1_4 1).trans rfl) ?_)
 refine l_q rfl (q_add (((K + 5 : Nat) : Int)) rfl (At.hit z5.put rfl).ev rfl (i64_is (by omega) (by omega) (by omega)) ?_)
 refine l_q rfl (q_assign _ _ rfl (At.hit z5.p2 rfl).ev ?_)
 refine l_end (e_fresh z5.p4 ?_)
 intro a6 z6 m6
 have s1_6 := m6 _ _ (s1_5.n4)
 have s2_6 := m6 _ _ (s2_5.n4)
 have s3_6 := m6 _ _ (s3_5.n4)
 have s4_6 := m6 _ _ (At.hit z5.p3 rfl)
 clear m6
 refine e_then (c_seq (c_region ?_))
 refine l_q rfl (q_move _ _ rfl s4_6.ev ?_)
 refine l_q rfl (q_add (((K + 20 : Nat) : Int)) rfl (At.hit z6 rfl).ev rfl (i64_is (by omega) (by omega) (by omega)) ?_)
 refine l_q rfl (q_fld 2 rfl (by kernel_rfl) (s1_6.n2).ev ?_)
 refine l_q rfl (q_cell (.int .i64 ((B : Nat) : Int)) rfl Tryz.underlying3 (At.hit z6.p2 rfl).ev (fun _ e => by rw [e]; exact (cells_at kg1_4 2).trans rfl) ?_)
 refine l_q rfl (q_shl (IntKind.u32.wrap (1 * 2 ^ min (((B : Nat) : Int) : Int).toNat 32)) rfl rfl (At.hit z6.p3 rfl).ev (by first | omega | exact u64_nonneg _) rfl ?_)
 refine l_q rfl (q_idx (j := K + 20) rfl Tryz.underlying90 sz64 (s3_6.n5).ev ((At.hit z6.put rfl).n3).ev (by omega) ?_)
 refine l_cell (j := (K + 20)) (v := .int .u32 (IntKind.u32.wrap (1 * 2 ^ min (((B : Nat) : Int) : Int).toNat 32))) rfl rfl rfl sz64 (At.hit z6.p5 rfl).ev ((At.hit z6.p4 rfl).n1).ev rfl k4 (by rw [(nums_size _ _).trans (List.length_replicate)]; omega) ?_
 intro w7 k7 u7
 rw [nums_put] at k7
 have kg1_7 := u7.blk kg1_4 (by omega)
 have kg2_7 := u7.blk kg2_4 (by omega)
 refine l_end (e_fresh z6.p6 ?_)
 intro a8 z8 m8
 have s1_8 := m8 _ _ (s1_6.n6)
 have s2_8 := m8 _ _ (s2_6.n6)
 have s3_8 := m8 _ _ (s3_6.n6)
 have s4_8 := m8 _ _ (s4_6.n6)
 have low8 := (low5.upd u7 geg3)
 clear m8
 refine e_then (c_seq (c_seq (c_region ?_)))
 refine l_q rfl (q_fld 0 rfl (by kernel_rfl) s1_8.ev ?_)
 refine l_q rfl (q_cell (.int .i64 2) rfl Tryz.underlying3 (At.hit z8 rfl).ev (fun _ e => by rw [e]; exact (cells_at kg1_7 0).trans rfl) ?_)
 refine l_q rfl (q_eql true rfl (At.hit z8.put rfl).ev rfl (decide_eq_true (by omega)) ?_)
 refine l_end (e_fresh z8.p3 ?_)
 intro a9 z9 m9
 have s1_9 := m9 _ _ (s1_8.n3)
 have s2_9 := m9 _ _ (s2_8.n3)
 have s3_9 := m9 _ _ (s3_8.n3)
 have s4_9 := m9 _ _ (s4_8.n3)
 have s18_9 := m9 _ _ (At.hit z8.p2 rfl)
 clear m9
 refine e_then (c_true s18_9 ?_)
 refine c_seq (c_region ?_)
 refine l_q rfl (q_move _ _ rfl s4_9.ev ?_)
 refine l_q rfl (q_add (((K + 6 : Nat) : Int)) rfl (At.hit z9 rfl).ev rfl (i64_is (by omega) (by omega) (by omega)) ?_)
 refine l_q rfl (q_fld 2 rfl (by kernel_rfl) (s1_9.n2).ev ?_)
 refine l_q rfl (q_cell (.int .i64 ((B : Nat) : Int)) rfl Tryz.underlying3 (At.hit z9.p2 rfl).ev (fun _ e => by rw [e]; exact (cells_at kg1_7 2).trans rfl) ?_)
 refine l_q rfl (q_add (((B + 31 : Nat) : Int)) rfl rfl (At.hit z9.p3 rfl).ev (i64_is (by omega) (by omega) (by omega)) ?_)
 refine l_call (fun v w' => v = .int .u32 (rotl 1 ((B + 31 : Nat) : Int)) ∧ Low w7 w') rfl rfl rfl Tryz.func61 rfl (args2 rfl rfl (At.hit z9.p4 rfl).ev) ((RotL.calls 1 ((B + 31 : Nat) : Int) _).mono fun _ _ ⟨e, k⟩ => ⟨_, e, rfl, k⟩) ?_
 rintro _ w10 ⟨rfl, h10⟩
 have kg1_10 := h10.blk kg1_7
 have kg2_10 := h10.blk kg2_7
 have kg3_10 := h10.blk k7
 refine l_q rfl (q_idx (j := K + 6) rfl Tryz.underlying90 sz64 (s3_9.n6).ev ((At.hit z9.put rfl).n4).ev (by omega) ?_)
 refine l_cell (j := (K + 6)) (v := .int .u32 (rotl 1 ((B + 31 : Nat) : Int))) rfl rfl rfl sz64 (At.hit z9.p6 rfl).ev ((At.hit z9.p5 rfl).n1).ev rfl kg3_10 (by rw [(nums_size _ _).trans ((List.length_set ..).trans (List.length_replicate))]; omega) ?_
 intro w11 k11 u11
 rw [nums_put] at k11
 have kg1_11 := u11.blk kg1_10 (by omega)
 have kg2_11 := u11.blk kg2_10 (by omega)
 refine l_end (e_fresh z9.p7 ?_)
 intro a12 z12 m12
 have s2_12 := m12 _ _ (s2_9.n7)
 have s3_12 := m12 _ _ (s3_9.n7)
 have s4_12 := m12 _ _ (s4_9.n7)
 have low12 := ((low8.trans h10).upd u11 geg3)
 clear m12
 refine e_then (c_region ?_)
 refine l_q rfl (q_move _ _ rfl s4_12.ev ?_)
 refine l_q rfl (q_add (((K + 8 : Nat) : Int)) rfl (At.hit z12 rfl).ev rfl (i64_is (by omega) (by omega) (by omega)) ?_)
 refine l_q rfl (q_move _ _ rfl (s4_12.n2).ev ?_)
 refine l_q rfl (q_add (((K + 6 : Nat) : Int)) rfl (At.hit z12.p2 rfl).ev rfl (i64_is (by omega) (by omega) (by omega)) ?_)
 refine l_q rfl (q_idx (j := K + 6) rfl Tryz.underlying90 sz64 (s3_12.n4).ev (At.hit z12.p3 rfl).ev (by omega) ?_)
 refine l_q rfl (q_cell (.int .u32 ((((List.replicate 85 0).set (K + 20) (IntKind.u32.wrap (1 * 2 ^ min (((B : Nat) : Int) : Int).toNat 32))).set (K + 6) (rotl 1 ((B + 31 : Nat) : Int))).getD (K + 6) 0)) rfl Tryz.underlying64 (At.hit z12.p4 rfl).ev (fun _ e => by rw [e]; exact nums_cell k11 (K + 6) (by rw [((List.length_set ..).trans ((List.length_set ..).trans (List.length_replicate)))]; omega)) ?_)
 refine l_q rfl (q_idx (j := K + 8) rfl Tryz.underlying90 sz64 (s3_12.n6).ev ((At.hit z12.put rfl).n4).ev (by omega) ?_)
 refine l_cell (j := (K + 8)) (v := .int .u32 ((((List.replicate 85 0).set (K + 20) (IntKind.u32.wrap (1 * 2 ^ min (((B : Nat) : Int) : Int).toNat 32))).set (K + 6) (rotl 1 ((B + 31 : Nat) : Int))).getD (K + 6) 0)) rfl rfl rfl sz64 (At.hit z12.p6 rfl).ev ((At.hit z12.p5 rfl).n1).ev rfl k11 (by rw [(nums_size _ _).trans ((List.length_set ..).trans ((List.length_set ..).trans (List.length_replicate)))]; omega) ?_
 intro w13 k13 u13
 rw [nums_put] at k13
 have kg2_13 := u13.blk kg2_11 (by omega)
 refine l_end (e_fresh z12.p7 ?_)
 intro a14 z14 m14
 have s2_14 := m14 _ _ (s2_12.n7)
 have s3_14 := m14 _ _ (s3_12.n7)
 have s4_14 := m14 _ _ (s4_12.n7)
 have low14 := (low12.upd u13 geg3)
 clear m14
 refine e_then (c_seq (c_seq (c_region ?_)))
 refine l_q rfl (q_move _ _ rfl s4_14.ev ?_)
 refine l_q rfl (q_add (((K + 21 : Nat) : Int)) rfl (At.hit z14 rfl).ev rfl (i64_is (by omega) (by omega) (by omega)) ?_)
 refine l_q rfl (q_assign _ _ rfl (At.hit z14.put rfl).ev ?_)
 refine l_end (e_fresh z14.p3 ?_)
 intro a15 z15 m15
 have s2_15 := m15 _ _ (s2_14.n3)
 have s3_15 := m15 _ _ (s3_14.n3)
 have s4_15 := m15 _ _ (s4_14.n3)
 have s5_15 := m15 _ _ (At.hit z14.p2 rfl)
 clear m15
 refine e_then (wp_block (c_loop (64 - K) (fun k a w => Fr 90 a ∧ At a 2 (.pointer (some ⟨g2, 0, none⟩)) ∧ At a 3 (.pointer (some ⟨g3, 0, none⟩)) ∧ At a 4 (.int .i64 ((K + 5 : Nat) : Int)) ∧ At a 5 (.int .i64 ((k + K + 21 : Nat) : Int)) ∧ w.heap[g2]? = some (.cells (nums .u32 (List.replicate 85 0)) 90) ∧ w.heap[g3]? = some (.cells (nums .u32 (up (beginL true K B) K (fun x => rotl x 1) k)) 90) ∧ Low w0 w) ?_ ?_ ?_))
 ·
  exact ⟨z15, s2_15, s3_15, s4_15, (s5_15.same (congrArg (Value.int .i64) (by omega))), kg2_13, k13, low14⟩
 ·
  intro k a16 w16 hk16 h
  obtain ⟨z16, s2_16, s3_16, s4_16, s5_16, kg2_16, kg3_16, low16⟩ := h
  clear k13 kg2_13 low14 s2_15 s3_15 s4_15 s5_15 z15
  refine c_seq (c_seq (c_region ?_))
  refine l_q rfl (q_move _ _ rfl s5_16.ev ?_)
  refine l_q rfl (q_lss true rfl (At.hit z16 rfl).ev rfl (decide_eq_true (by omega)) ?_)
  refine l_end (e_fresh z16.p2 ?_)
  intro a17 z17 m17
  have s2_17 := m17 _ _ (s2_16.n2)
  have s3_17 := m17 _ _ (s3_16.n2)
  have s4_17 := m17 _ _ (s4_16.n2)
  have s5_17 := m17 _ _ (s5_16.n2)
  have s36_17 := m17 _ _ (At.hit z16.put rfl)
  clear m17
  refine e_then (c_true s36_17 ?_)
  refine wp_skip (e_then (c_seq (wp_block (region_low_tail 22 hm (by kernel_rfl) ?_))))
  simp only [List.take_succ_cons, List.take_zero, List.drop_succ_cons, List.drop_zero]
  refine qs (q_move _ _ rfl s5_17.ev ?_)
  refine qs (q_move _ _ rfl (s5_17.n1).ev ?_)
  refine qs (q_sub (((k + K + 18 : Nat) : Int)) rfl (At.hit z17.put rfl).ev rfl (i64_is (by omega) (by omega) (by omega)) ?_)
  refine qs (q_idx (j := k + K + 18) rfl Tryz.underlying90 sz64 (s3_17.n3).ev (At.hit z17.p2 rfl).ev (by omega) ?_)
  refine qs (q_cell (.int .u32 ((up (beginL true K B) K (fun x => rotl x 1) k).getD (k + K + 18) 0)) rfl Tryz.underlying64 (At.hit z17.p3 rfl).ev (fun _ h => nums_cell (h.blk kg3_16) (k + K + 18) (by rw [(up_len _ K _ (beginL_len true K B) _)]; omega)) ?_)
  refine qs (q_move _ _ rfl (s5_17.n5).ev ?_)
  refine qs (q_sub (((k + K + 13 : Nat) : Int)) rfl (At.hit z17.p5 rfl).ev rfl (i64_is (by omega) (by omega) (by omega)) ?_)
  refine qs (q_idx (j := k + K + 13) rfl Tryz.underlying90 sz64 (s3_17.n7).ev (At.hit z17.p6 rfl).ev (by omega) ?_)
  refine q_fresh z17.p8 ?_
  intro a18 z18 m18
  have s2_18 := m18 _ _ (s2_17.n8)
  have s3_18 := m18 _ _ (s3_17.n8)
  have s4_18 := m18 _ _ (s4_17.n8)
  have s5_18 := m18 _ _ (s5_17.n8)
  have s39_18 := m18 _ _ ((At.hit z17 rfl).n7)
  have s43_18 := m18 _ _ ((At.hit z17.p4 rfl).n3)
  have s46_18 := m18 _ _ (At.hit z17.p7 rfl)
  clear m18
  refine qs (q_cell (.int .u32 ((up (beginL true K B) K (fun x => rotl x 1) k).getD (k + K + 13) 0)) rfl Tryz.underlying64 s46_18.ev (fun _ h => nums_cell (h.blk kg3_16) (k + K + 13) (by rw [(up_len _ K _ (beginL_len true K B) _)]; omega)) ?_)
  refine qs (q_xor rfl (s43_18.n1).ev (At.hit z18 rfl).ev ?_)
  refine qs (q_move _ _ rfl (s5_18.n2).ev ?_)
  refine qs (q_sub (((k + K + 7 : Nat) : Int)) rfl (At.hit z18.p2 rfl).ev rfl (i64_is (by omega) (by omega) (by omega)) ?_)
  refine qs (q_idx (j := k + K + 7) rfl Tryz.underlying90 sz64 (s3_18.n4).ev (At.hit z18.p3 rfl).ev (by omega) ?_)
  refine qs (q_cell (.int .u32 ((up (beginL true K B) K (fun x => rotl x 1) k).getD (k + K + 7) 0)) rfl Tryz.underlying64 (At.hit z18.p4 rfl).ev (fun _ h => nums_cell (h.blk kg3_16) (k + K + 7) (by rw [(up_len _ K _ (beginL_len true K B) _)]; omega)) ?_)
  refine qs (q_xor rfl ((At.hit z18.put rfl).n4).ev (At.hit z18.p5 rfl).ev ?_)
  refine qs (q_move _ _ rfl (s5_18.n7).ev ?_)
  refine q_fresh z18.p8 ?_
  intro a19 z19 m19
  have s2_19 := m19 _ _ (s2_18.n8)
  have s3_19 := m19 _ _ (s3_18.n8)
  have s4_19 := m19 _ _ (s4_18.n8)
  have s5_19 := m19 _ _ (s5_18.n8)
  have s39_19 := m19 _ _ (s39_18.n8)
  have s53_19 := m19 _ _ ((At.hit z18.p6 rfl).n1)
  have s54_19 := m19 _ _ (At.hit z18.p7 rfl)
  clear m19
  refine qs (q_sub (((k + K + 5 : Nat) : Int)) rfl s54_19.ev rfl (i64_is (by omega) (by omega) (by omega)) ?_)
  refine qs (q_idx (j := k + K + 5) rfl Tryz.underlying90 sz64 (s3_19.n1).ev (At.hit z19 rfl).ev (by omega) ?_)
  refine qs (q_cell (.int .u32 ((up (beginL true K B) K (fun x => rotl x 1) k).getD (k + K + 5) 0)) rfl Tryz.underlying64 (At.hit z19.put rfl).ev (fun _ h => nums_cell (h.blk kg3_16) (k + K + 5) (by rw [(up_len _ K _ (beginL_len true K B) _)]; omega)) ?_)
  refine qs (q_xor rfl (s53_19.n3).ev (At.hit z19.p2 rfl).ev ?_)
  refine qs (q_call (.int .u32 (rotl (Go.bits .xor .u32 (Go.bits .xor .u32 (Go.bits .xor .u32 ((up (beginL true K B) K (fun x => rotl x 1) k).getD (k + K + 18) 0) ((up (beginL true K B) K (fun x => rotl x 1) k).getD (k + K + 13) 0)) ((up (beginL true K B) K (fun x => rotl x 1) k).getD (k + K + 7) 0)) ((up (beginL true K B) K (fun x => rotl x 1) k).getD (k + K + 5) 0)) 1)) rfl rfl Tryz.func61 rfl (args2 rfl (At.hit z19.p3 rfl).ev rfl) (fun _ h => (RotL.calls (Go.bits .xor .u32 (Go.bits .xor .u32 (Go.bits .xor .u32 ((up (beginL true K B) K (fun x => rotl x 1) k).getD (k + K + 18) 0) ((up (beginL true K B) K (fun x => rotl x 1) k).getD (k + K + 13) 0)) ((up (beginL true K B) K (fun x => rotl x 1) k).getD (k + K + 7) 0)) ((up (beginL true K B) K (fun x => rotl x 1) k).getD (k + K + 5) 0)) 1 _).mono fun _ _ ⟨e, k⟩ => ⟨e, h.trans k⟩) ?_)
  refine qs (q_idx (j := k + K + 21) rfl Tryz.underlying90 sz64 (s3_19.n5).ev (s39_19.n5).ev (by omega) ?_)
  refine qz ?_
  intro w20 h20
  have kg2_20 := h20.blk kg2_16
  have kg3_20 := h20.blk kg3_16
  refine l_cell (j := (k + K + 21)) (v := .int .u32 (rotl (Go.bits .xor .u32 (Go.bits .xor .u32 (Go.bits .xor .u32 ((up (beginL true K B) K (fun x => rotl x 1) k).getD (k + K + 18) 0) ((up (beginL true K B) K (fun x => rotl x 1) k).getD (k + K + 13) 0)) ((up (beginL true K B) K (fun x => rotl x 1) k).getD (k + K + 7) 0)) ((up (beginL true K B) K (fun x => rotl x 1) k).getD (k + K + 5) 0)) 1)) rfl rfl rfl sz64 (At.hit z19.p5 rfl).ev ((At.hit z19.p4 rfl).n1).ev rfl kg3_20 (by rw [(nums_size _ _).trans (up_len _ K _ (beginL_len true K B) _)]; omega) ?_
  intro w21 k21 u21
  rw [nums_put] at k21
  have kg2_21 := u21.blk kg2_20 (by omega)
  refine l_end (e_fresh z19.p6 ?_)
  intro a22 z22 m22
  have s2_22 := m22 _ _ (s2_19.n6)
  have s3_22 := m22 _ _ (s3_19.n6)
  have s4_22 := m22 _ _ (s4_19.n6)
  have s5_22 := m22 _ _ (s5_19.n6)
  have low22 := ((low16.trans h20).upd u21 geg3)
  clear m22
  refine e_in (e_then (c_region ?_))
  refine l_q rfl (q_move _ _ rfl s5_22.ev ?_)
  refine l_q rfl (q_add (((k + K + 22 : Nat) : Int)) rfl (At.hit z22 rfl).ev rfl (i64_is (by omega) (by omega) (by omega)) ?_)
  refine l_q rfl (q_assign _ _ rfl (At.hit z22.put rfl).ev ?_)
  refine l_end (e_fresh z22.p3 ?_)
  intro a23 z23 m23
  have s2_23 := m23 _ _ (s2_22.n3)
  have s3_23 := m23 _ _ (s3_22.n3)
  have s4_23 := m23 _ _ (s4_22.n3)
  have s5_23 := m23 _ _ (At.hit z22.p2 rfl)
  clear m23
  exact ⟨z23, s2_23, s3_23, s4_23, (s5_23.same (congrArg (Value.int .i64) (by omega))), kg2_21, k21, low22⟩
 ·
  intro a24 w24 h
  obtain ⟨z24, s2_24, s3_24, s4_24, s5_24, kg2_24, kg3_24, low24⟩ := h
  clear k13 kg2_13 low14 s2_15 s3_15 s4_15 s5_15 z15
  have s5_24 := s5_24.same (congrArg (Value.int .i64) (show _ = (85 : Int) by omega))
  refine c_seq (c_seq (c_region ?_))
  refine l_q rfl (q_move _ _ rfl s5_24.ev ?_)
  refine l_q rfl (q_lss false rfl (At.hit z24 rfl).ev rfl (decide_eq_false (by omega)) ?_)
  refine l_end (e_fresh z24.p2 ?_)
  intro a25 z25 m25
  have s2_25 := m25 _ _ (s2_24.n2)
  have s3_25 := m25 _ _ (s3_24.n2)
  have s4_25 := m25 _ _ (s4_24.n2)
  have s5_25 := m25 _ _ (s5_24.n2)
  have s36_25 := m25 _ _ (At.hit z24.put rfl)
  clear m25
  refine e_then (c_false s36_25 ?_)
  refine wp_exit (x_then (x_then (in_exit (e_then (c_seq (c_seq (c_region ?_)))))))
  refine l_q rfl (q_move _ _ rfl s4_25.ev ?_)
  refine l_q rfl (q_sub (((K + 4 : Nat) : Int)) rfl (At.hit z25 rfl).ev rfl (i64_is (by omega) (by omega) (by omega)) ?_)
  refine l_q rfl (q_assign _ _ rfl (At.hit z25.put rfl).ev ?_)
  refine l_end (e_fresh z25.p3 ?_)
  intro a26 z26 m26
  have s2_26 := m26 _ _ (s2_25.n3)
  have s3_26 := m26 _ _ (s3_25.n3)
  have s6_26 := m26 _ _ (At.hit z25.p2 rfl)
  clear m26
  refine e_then (wp_block (c_loop (K + 5) (fun k a w => Fr 90 a ∧ At a 2 (.pointer (some ⟨g2, 0, none⟩)) ∧ At a 3 (.pointer (some ⟨g3, 0, none⟩)) ∧ At a 6 (.int .i64 (((K : Nat) : Int) + 4 - ((k : Nat) : Int))) ∧ w.heap[g2]? = some (.cells (nums .u32 (List.replicate 85 0)) 90) ∧ w.heap[g3]? = some (.cells (nums .u32 (dnL (up (beginL true K B) K (fun x => rotl x 1) (64 - K)) K k)) 90) ∧ Low w0 w) ?_ ?_ ?_))
  ·
   exact ⟨z26, s2_26, s3_26, (s6_26.same (congrArg (Value.int .i64) (by omega))), kg2_24, kg3_24, low24⟩
  ·
   intro k a27 w27 hk27 h
   obtain ⟨z27, s2_27, s3_27, s6_27, kg2_27, kg3_27, low27⟩ := h
   clear kg2_24 kg3_24 low24 s2_26 s3_26 s6_26 z26
   refine c_seq (c_seq (c_region ?_))
   refine l_q rfl (q_move _ _ rfl s6_27.ev ?_)
   refine l_q rfl (q_geq true rfl (At.hit z27 rfl).ev rfl (decide_eq_true (by omega)) ?_)
   refine l_end (e_fresh z27.p2 ?_)
   intro a28 z28 m28
   have s2_28 := m28 _ _ (s2_27.n2)
   have s3_28 := m28 _ _ (s3_27.n2)
   have s6_28 := m28 _ _ (s6_27.n2)
   have s64_28 := m28 _ _ (At.hit z27.put rfl)
   clear m28
   refine e_then (c_true s64_28 ?_)
   refine wp_skip (e_then (c_seq (wp_block (region_low_tail 22 hm (by kernel_rfl) ?_))))
   simp only [List.take_succ_cons, List.take_zero, List.drop_succ_cons, List.drop_zero]
   refine qs (q_move _ _ rfl s6_28.ev ?_)
   refine qs (q_move _ _ rfl (s6_28.n1).ev ?_)
   refine qs (q_add ((((K : Nat) : Int) + 20 - ((k : Nat) : Int))) rfl (At.hit z28.put rfl).ev rfl (i64_is (by omega) (by omega) (by omega)) ?_)
   refine qs (q_idx (j := (K + 20) - k) rfl Tryz.underlying90 sz64 (s3_28.n3).ev ((At.hit z28.p2 rfl).same (congrArg (Value.int .i64) (show ((((K : Nat) : Int) + 20 - ((k : Nat) : Int)) : Int) = (((K + 20) - k : Nat) : Int) by omega))).ev (by omega) ?_)
   refine qs (q_cell (.int .u32 ((dnL (up (beginL true K B) K (fun x => rotl x 1) (64 - K)) K k).getD ((K + 20) - k) 0)) rfl Tryz.underlying64 (At.hit z28.p3 rfl).ev (fun _ h => nums_cell (h.blk kg3_27) ((K + 20) - k) (by rw [(dnL_len _ K (up_len _ K _ (beginL_len true K B) _) _)]; omega)) ?_)
   refine qs (q_call (.int .u32 (rotl ((dnL (up (beginL true K B) K (fun x => rotl x 1) (64 - K)) K k).getD ((K + 20) - k) 0) 31)) rfl rfl Tryz.func61 rfl (args2 rfl (At.hit z28.p4 rfl).ev rfl) (fun _ h => (RotL.calls ((dnL (up (beginL true K B) K (fun x => rotl x 1) (64 - K)) K k).getD ((K + 20) - k) 0) 31 _).mono fun _ _ ⟨e, k⟩ => ⟨e, h.trans k⟩) ?_)
   refine qs (q_move _ _ rfl (s6_28.n6).ev ?_)
   refine qs (q_add ((((K : Nat) : Int) + 17 - ((k : Nat) : Int))) rfl (At.hit z28.p6 rfl).ev rfl (i64_is (by omega) (by omega) (by omega)) ?_)
   refine q_fresh z28.p8 ?_
   intro a29 z29 m29
   have s2_29 := m29 _ _ (s2_28.n8)
   have s3_29 := m29 _ _ (s3_28.n8)
   have s6_29 := m29 _ _ (s6_28.n8)
   have s67_29 := m29 _ _ ((At.hit z28 rfl).n7)
   have s72_29 := m29 _ _ ((At.hit z28.p5 rfl).n2)
   have s74_29 := m29 _ _ (At.hit z28.p7 rfl)
   clear m29
   refine qs (q_idx (j := (K + 17) - k) rfl Tryz.underlying90 sz64 s3_29.ev (s74_29.same (congrArg (Value.int .i64) (show ((((K : Nat) : Int) + 17 - ((k : Nat) : Int)) : Int) = (((K + 17) - k : Nat) : Int) by omega))).ev (by omega) ?_)
   refine qs (q_cell (.int .u32 ((dnL (up (beginL true K B) K (fun x => rotl x 1) (64 - K)) K k).getD ((K + 17) - k) 0)) rfl Tryz.underlying64 (At.hit z29 rfl).ev (fun _ h => nums_cell (h.blk kg3_27) ((K + 17) - k) (by rw [(dnL_len _ K (up_len _ K _ (beginL_len true K B) _) _)]; omega)) ?_)
   refine qs (q_xor rfl (s72_29.n2).ev (At.hit z29.put rfl).ev ?_)
   refine qs (q_move _ _ rfl (s6_29.n3).ev ?_)
   refine qs (q_add ((((K : Nat) : Int) + 12 - ((k : Nat) : Int))) rfl (At.hit z29.p3 rfl).ev rfl (i64_is (by omega) (by omega) (by omega)) ?_)
   refine qs (q_idx (j := (K + 12) - k) rfl Tryz.underlying90 sz64 (s3_29.n5).ev ((At.hit z29.p4 rfl).same (congrArg (Value.int .i64) (show ((((K : Nat) : Int) + 12 - ((k : Nat) : Int)) : Int) = (((K + 12) - k : Nat) : Int) by omega))).ev (by omega) ?_)
   refine qs (q_cell (.int .u32 ((dnL (up (beginL true K B) K (fun x => rotl x 1) (64 - K)) K k).getD ((K + 12) - k) 0)) rfl Tryz.underlying64 (At.hit z29.p5 rfl).ev (fun _ h => nums_cell (h.blk kg3_27) ((K + 12) - k) (by rw [(dnL_len _ K (up_len _ K _ (beginL_len true K B) _) _)]; omega)) ?_)
   refine qs (q_xor rfl ((At.hit z29.p2 rfl).n4).ev (At.hit z29.p6 rfl).ev ?_)
   refine q_fresh z29.p8 ?_
   intro a30 z30 m30
   have s2_30 := m30 _ _ (s2_29.n8)
   have s3_30 := m30 _ _ (s3_29.n8)
   have s6_30 := m30 _ _ (s6_29.n8)
   have s67_30 := m30 _ _ (s67_29.n8)
   have s82_30 := m30 _ _ (At.hit z29.p7 rfl)
   clear m30
   refine qs (q_move _ _ rfl s6_30.ev ?_)
   refine qs (q_add ((((K : Nat) : Int) + 6 - ((k : Nat) : Int))) rfl (At.hit z30 rfl).ev rfl (i64_is (by omega) (by omega) (by omega)) ?_)
   refine qs (q_idx (j := (K + 6) - k) rfl Tryz.underlying90 sz64 (s3_30.n2).ev ((At.hit z30.put rfl).same (congrArg (Value.int .i64) (show ((((K : Nat) : Int) + 6 - ((k : Nat) : Int)) : Int) = (((K + 6) - k : Nat) : Int) by omega))).ev (by omega) ?_)
   refine qs (q_cell (.int .u32 ((dnL (up (beginL true K B) K (fun x => rotl x 1) (64 - K)) K k).getD ((K + 6) - k) 0)) rfl Tryz.underlying64 (At.hit z30.p2 rfl).ev (fun _ h => nums_cell (h.blk kg3_27) ((K + 6) - k) (by rw [(dnL_len _ K (up_len _ K _ (beginL_len true K B) _) _)]; omega)) ?_)
   refine qs (q_xor rfl (s82_30.n4).ev (At.hit z30.p3 rfl).ev ?_)
   refine qs (q_idx (j := (K + 4) - k) rfl Tryz.underlying90 sz64 (s3_30.n5).ev ((s67_30.n5).same (congrArg (Value.int .i64) (show ((((K : Nat) : Int) + 4 - ((k : Nat) : Int)) : Int) = (((K + 4) - k : Nat) : Int) by omega))).ev (by omega) ?_)
   refine qz ?_
   intro w31 h31
   have kg2_31 := h31.blk kg2_27
   have kg3_31 := h31.blk kg3_27
   refine l_cell (j := ((K + 4) - k)) (v := .int .u32 (Go.bits .xor .u32 (Go.bits .xor .u32 (Go.bits .xor .u32 (rotl ((dnL (up (beginL true K B) K (fun x => rotl x 1) (64 - K)) K k).getD ((K + 20) - k) 0) 31) ((dnL (up (beginL true K B) K (fun x => rotl x 1) (64 - K)) K k).getD ((K + 17) - k) 0)) ((dnL (up (beginL true K B) K (fun x => rotl x 1) (64 - K)) K k).getD ((K + 12) - k) 0)) ((dnL (up (beginL true K B) K (fun x => rotl x 1) (64 - K)) K k).getD ((K + 6) - k) 0))) rfl rfl rfl sz64 (At.hit z30.p5 rfl).ev ((At.hit z30.p4 rfl).n1).ev rfl kg3_31 (by rw [(nums_size _ _).trans (dnL_len _ K (up_len _ K _ (beginL_len true K B) _) _)]; omega) ?_
   intro w32 k32 u32
   rw [nums_put] at k32
   have kg2_32 := u32.blk kg2_31 (by omega)
   refine l_end (e_fresh z30.p6 ?_)
   intro a33 z33 m33
   have s2_33 := m33 _ _ (s2_30.n6)
   have s3_33 := m33 _ _ (s3_30.n6)
   have s6_33 := m33 _ _ (s6_30.n6)
   have low33 := ((low27.trans h31).upd u32 geg3)
   clear m33
   refine e_in (e_then (c_region ?_))
   refine l_q rfl (q_move _ _ rfl s6_33.ev ?_)
   refine l_q rfl (q_sub ((((K : Nat) : Int) + 3 - ((k : Nat) : Int))) rfl (At.hit z33 rfl).ev rfl (i64_is (by omega) (by omega) (by omega)) ?_)
   refine l_q rfl (q_assign _ _ rfl (At.hit z33.put rfl).ev ?_)
   refine l_end (e_fresh z33.p3 ?_)
   intro a34 z34 m34
   have s2_34 := m34 _ _ (s2_33.n3)
   have s3_34 := m34 _ _ (s3_33.n3)
   have s6_34 := m34 _ _ (At.hit z33.p2 rfl)
   clear m34
   exact ⟨z34, s2_34, s3_34, (s6_34.same (congrArg (Value.int .i64) (by omega))), kg2_32, k32, low33⟩
  ·
   intro a35 w35 h
   obtain ⟨z35, s2_35, s3_35, s6_35, kg2_35, kg3_35, low35⟩ := h
   clear kg2_24 kg3_24 low24 s2_26 s3_26 s6_26 z26
   have s6_35 := s6_35.same (congrArg (Value.int .i64) (show _ = ((-1) : Int) by omega))
   refine c_seq (c_seq (c_region ?_))
   refine l_q rfl (q_move _ _ rfl s6_35.ev ?_)
   refine l_q rfl (q_geq false rfl (At.hit z35 rfl).ev rfl (decide_eq_false (by omega)) ?_)
   refine l_end (e_fresh z35.p2 ?_)
   intro a36 z36 m36
   have s2_36 := m36 _ _ (s2_35.n2)
   have s3_36 := m36 _ _ (s3_35.n2)
   have s6_36 := m36 _ _ (s6_35.n2)
   have s64_36 := m36 _ _ (At.hit z35.put rfl)
   clear m36
   refine e_then (c_false s64_36 ?_)
   refine wp_exit (x_then (x_then (in_exit (e_then (c_seq (c_region ?_))))))
   refine l_q rfl (q_row rfl Tryz.underlying90 rfl (sz90.trans (congrArg some ((nums_size _ _).trans (dnL_len _ K (up_len _ K _ (beginL_len true K B) _) _)).symm)) s3_36.ev (fun _ e => by rw [e]; exact kg3_35) ?_)
   refine l_row rfl rfl rfl (sz90.trans (congrArg some ((nums_size _ _).trans (dnL_len _ K (up_len _ K _ (beginL_len true K B) _) _)).symm)) (s2_36.n1).ev (At.hit z36 rfl).ev (nums_one _ _) kg2_35 (((nums_size _ _).trans (List.length_replicate)).trans ((nums_size _ _).trans (dnL_len _ K (up_len _ K _ (beginL_len true K B) _) _)).symm) ?_
   intro w37 k37 u37
   have kg3_37 := u37.blk kg3_35 (by omega)
   refine l_end (e_fresh z36.put ?_)
   intro a38 z38 m38
   have s2_38 := m38 _ _ (s2_36.n1)
   have low38 := (low35.upd u37 geg2)
   clear m38
   refine e_then (wp_ret (r_cell rfl z38.defers s2_38 k37 Tryz.underlying90 rfl (sz90.trans (congrArg some ((nums_size _ _).trans (dnL_len _ K (up_len _ K _ (beginL_len true K B) _) _)).symm)) ?_))
   exact ⟨rfl, low38⟩
theorem DL_1.calls (K B : Nat) (hK : K ≤ 64) (hB : B ≤ 31) (w0 : World) : Calls Tryz.prog 42 #[.agg #[.int .i64 1, .int .i64 (K : Int), .int .i64 (B : Int)]] w0 fun e w' => e = .returned (.agg (nums .u32 (diffL (rowL false K B) 80))) ∧ Low w0 w' := by
 refine c_fun (R := _) Tryz.func42 rfl 77 rfl (Nat.le_of_ble_eq_true rfl) ?_
 intro a z hA
 have s0 := hA 0 _ rfl
 clear hA
 refine c_seq (c_region (l_box rfl rfl s0.ev ?_))
 intro g1 w1 hg1 k1 h1
 have geg1 := Nat.le_trans (Low.refl _).ge hg1
 refine l_alloc rfl rfl zero66 ?_
 intro g2 w2 hg2 k2 h2
 have lt_g1_g2 := Nat.lt_of_lt_of_le (heap_lt k1) hg2
 have geg2 := Nat.le_trans h1.ge hg2
 have kg1_2 := h2.blk k1
 refine l_end (e_fresh z.p2 ?_)
 intro a3 z3 m3
 have s1_3 := m3 _ _ ((At.hit z rfl).n1)
 have s2_3 := m3 _ _ (At.hit z.put rfl)
 have low3 := (h1.trans h2)
 clear m3
 refine e_then (c_seq (c_region (l_alloc rfl rfl zero66 ?_)))
 intro g3 w4 hg4 k4 h4
 have lt_g1_g3 := Nat.lt_of_lt_of_le (heap_lt kg1_2) hg4
 have lt_g2_g3 := Nat.lt_of_lt_of_le (heap_lt k2) hg4
 have geg3 := Nat.le_trans low3.ge hg4
 have kg1_4 := h4.blk kg1_2
 have kg2_4 := h4.blk k2
 refine l_end (e_fresh z3.put ?_)
 intro a5 z5 m5
 have s1_5 := m5 _ _ (s1_3.n1)
 have s2_5 := m5 _ _ (s2_3.n1)
 have s3_5 := m5 _ _ (At.hit z3 rfl)
 have low5 := (low3.trans h4)
 clear m5
 refine e_then (c_seq (c_seq (c_region ?_)))
 refine l_q rfl (q_fld 0 rfl (by kernel_rfl) s1_5.ev ?_)
 refine l_q rfl (q_cell (.int .i64 1) rfl Tryz.underlying3 (At.hit z5 rfl).ev (fun _ e => by rw [e]; exact (cells_at kg1_4 0).trans rfl) ?_)
 refine l_q rfl (q_lss false rfl (At.hit z5.put rfl).ev rfl (decide_eq_false (by omega)) ?_)
 refine l_q rfl (q_move _ _ rfl (At.hit z5.p2 rfl).ev ?_)
 refine l_qg (wanted_is (j := 3) (d := 10) (b := false) rfl rfl (At.hit z5.p3 rfl) rfl) (q_fld 0 rfl (by kernel_rfl) (s1_5.n4).ev ?_)
 refine l_qg (wanted_is (j := 3) (d := 10) (b := false) rfl rfl ((At.hit z5.p3 rfl).n1) rfl) (q_cell (.int .i64 1) rfl Tryz.underlying3 (At.hit z5.p4 rfl).ev (fun _ e => by rw [e]; exact (cells_at kg1_4 0).trans rfl) ?_)
 refine l_qg (wanted_is (j := 3) (d := 10) (b := false) rfl rfl ((At.hit z5.p3 rfl).n2) rfl) (q_gtr false rfl (At.hit z5.p5 rfl).ev rfl (decide_eq_false (by omega)) ?_)
 refine l_q rfl (q_pick (b := false) (.bool false) rfl ((At.hit z5.p3 rfl).n3).ev (At.hit z5.p6 rfl).ev ?_)
 refine l_fresh z5.p8 ?_
 intro a6 z6 m6
 have s1_6 := m6 _ _ (s1_5.n8)
 have s2_6 := m6 _ _ (s2_5.n8)
 have s3_6 := m6 _ _ (s3_5.n8)
 have s14_6 := m6 _ _ (At.hit z5.p7 rfl)
 clear m6
 refine l_q rfl (q_move _ _ rfl s14_6.ev ?_)
 refine l_qg (wanted_is (j := 8) (d := 15) (b := false) rfl rfl (At.hit z6 rfl) rfl) (q_fld 1 rfl (by kernel_rfl) (s1_6.n1).ev ?_)
 refine l_qg (wanted_is (j := 8) (d := 15) (b := false) rfl rfl ((At.hit z6 rfl).n1) rfl) (q_cell (.int .i64 ((K : Nat) : Int)) rfl Tryz.underlying3 (At.hit z6.put rfl).ev (fun _ e => by rw [e]; exact (cells_at kg1_4 1).trans rfl) ?_)
 refine l_qg (wanted_is (j := 8) (d := 15) (b := false) rfl rfl ((At.hit z6 rfl).n2) rfl) (q_lss false rfl (At.hit z6.p2 rfl).ev rfl (decide_eq_false (by omega)) ?_)
 refine l_q rfl (q_pick (b := false) (.bool false) rfl ((At.hit z6 rfl).n3).ev (At.hit z6.p3 rfl).ev ?_)
 refine l_q rfl (q_move _ _ rfl (At.hit z6.p4 rfl).ev ?_)
 refine l_qg (wanted_is (j := 13) (d := 20) (b := false) rfl rfl (At.hit z6.p5 rfl) rfl) (q_fld 1 rfl (by kernel_rfl) (s1_6.n6).ev ?_)
 refine l_qg (wanted_is (j := 13) (d := 20) (b := false) rfl rfl ((At.hit z6.p5 rfl).n1) rfl) (q_cell (.int .i64 ((K : Nat) : Int)) rfl Tryz.underlying3 (At.hit z6.p6 rfl).ev (fun _ e => by rw [e]; exact (cells_at kg1_4 1).trans rfl) ?_)
 refine l_fresh z6.p8 ?_
 intro a7 z7 m7
 have s1_7 := m7 _ _ (s1_6.n8)
 have s2_7 := m7 _ _ (s2_6.n8)
 have s3_7 := m7 _ _ (s3_6.n8)
 have s20_7 := m7 _ _ ((At.hit z6.p5 rfl).n2)
 have s22_7 := m7 _ _ (At.hit z6.p7 rfl)
 clear m7
 refine l_qg (wanted_is (j := 13) (d := 20) (b := false) rfl rfl s20_7 rfl) (q_gtr false rfl s22_7.ev rfl (decide_eq_false (by omega)) ?_)
 refine l_q rfl (q_pick (b := false) (.bool false) rfl (s20_7.n1).ev (At.hit z7 rfl).ev ?_)
 refine l_q rfl (q_move _ _ rfl (At.hit z7.put rfl).ev ?_)
 refine l_qg (wanted_is (j := 18) (d := 25) (b := false) rfl rfl (At.hit z7.p2 rfl) rfl) (q_fld 2 rfl (by kernel_rfl) (s1_7.n3).ev ?_)
 refine l_qg (wanted_is (j := 18) (d := 25) (b := false) rfl rfl ((At.hit z7.p2 rfl).n1) rfl) (q_cell (.int .i64 ((B : Nat) : Int)) rfl Tryz.underlying3 (At.hit z7.p3 rfl).ev (fun _ e => by rw [e]; exact (cells_at kg1_4 2).trans rfl) ?_)
 refine l_qg (wanted_is (j := 18) (d := 25) (b := false) rfl rfl ((At.hit z7.p2 rfl).n2) rfl) (q_lss false rfl (At.hit z7.p4 rfl).ev rfl (decide_eq_false (by omega)) ?_)
 refine l_q rfl (q_pick (b := false) (.bool false) rfl ((At.hit z7.p2 rfl).n3).ev (At.hit z7.p5 rfl).ev ?_)
 refine l_q rfl (q_move _ _ rfl (At.hit z7.p6 rfl).ev ?_)
 refine l_fresh z7.p8 ?_
 intro a8 z8 m8
 have s1_8 := m8 _ _ (s1_7.n8)
 have s2_8 := m8 _ _ (s2_7.n8)
 have s3_8 := m8 _ _ (s3_7.n8)
 have s30_8 := m8 _ _ (At.hit z7.p7 rfl)
 clear m8
 refine l_qg (wanted_is (j := 23) (d := 30) (b := false) rfl rfl s30_8 rfl) (q_fld 2 rfl (by kernel_rfl) s1_8.ev ?_)
 refine l_qg (wanted_is (j := 23) (d := 30) (b := false) rfl rfl (s30_8.n1) rfl) (q_cell (.int .i64 ((B : Nat) : Int)) rfl Tryz.underlying3 (At.hit z8 rfl).ev (fun _ e => by rw [e]; exact (cells_at kg1_4 2).trans rfl) ?_)
 refine l_qg (wanted_is (j := 23) (d := 30) (b := false) rfl rfl (s30_8.n2) rfl) (q_gtr false rfl (At.hit z8.put rfl).ev rfl (decide_eq_false (by omega)) ?_)
 refine l_q rfl (q_pick (b := false) (.bool false) rfl (s30_8.n3).ev (At.hit z8.p2 rfl).ev ?_)
 refine l_end (e_fresh z8.p4 ?_)
 intro a9 z9 m9
 have s1_9 := m9 _ _ (s1_8.n4)
 have s2_9 := m9 _ _ (s2_8.n4)
 have s3_9 := m9 _ _ (s3_8.n4)
 have s34_9 := m9 _ _ (At.hit z8.p3 rfl)
 clear m9
 refine e_then (c_false s34_9 ?_)
 refine wp_skip (e_then (c_seq (c_region ?_)))
 refine l_q rfl (q_row rfl Tryz.underlying63 rfl (sz63.trans (congrArg some rfl.symm)) s1_9.ev (fun _ e => by rw [e]; exact kg1_4) ?_)
 refine l_call (fun v w' => v = .agg (nums .u32 (rowL false K B)) ∧ Low w4 w') rfl rfl rfl Tryz.func60 rfl (args1 rfl (At.hit z9 rfl).ev) ((Row1.calls K B hK hB _).mono fun _ _ ⟨e, k⟩ => ⟨_, e, rfl, k⟩) ?_
 rintro _ w10 ⟨rfl, h10⟩
 have kg1_10 := h10.blk kg1_4
 have kg2_10 := h10.blk kg2_4
 have kg3_10 := h10.blk k4
 refine l_alloc rfl rfl zero90 ?_
 intro g4 w11 hg11 k11 h11
 have lt_g1_g4 := Nat.lt_of_lt_of_le (heap_lt kg1_10) hg11
 have lt_g2_g4 := Nat.lt_of_lt_of_le (heap_lt kg2_10) hg11
 have lt_g3_g4 := Nat.lt_of_lt_of_le (heap_lt kg3_10) hg11
 have geg4 := Nat.le_trans (low5.trans h10).ge hg11
 have kg1_11 := h11.blk kg1_10
 have kg2_11 := h11.blk kg2_10
 have kg3_11 := h11.blk kg3_10
 refine l_row rfl rfl rfl (sz90.trans (congrArg some ((nums_size _ _).trans (rowL_len false K B)).symm)) (At.hit z9.p2 rfl).ev ((At.hit z9.put rfl).n1).ev (nums_one _ _) k11 (((nums_size _ _).trans (List.length_replicate)).trans ((nums_size _ _).trans (rowL_len false K B)).symm) ?_
 intro w12 k12 u12
 have kg1_12 := u12.blk kg1_11 (by omega)
 have kg2_12 := u12.blk kg2_11 (by omega)
 have kg3_12 := u12.blk kg3_11 (by omega)
 refine l_end (e_fresh z9.p3 ?_)
 intro a13 z13 m13
 have s2_13 := m13 _ _ (s2_9.n3)
 have s3_13 := m13 _ _ (s3_9.n3)
 have s4_13 := m13 _ _ (At.hit z9.p2 rfl)
 have low13 := (((low5.trans h10).trans h11).upd u12 geg4)
 clear m13
 refine e_then (c_seq (c_seq (c_region ?_)))
 refine l_q rfl (q_move _ _ rfl rfl ?_)
 refine l_end (e_fresh z13.put ?_)
 intro a14 z14 m14
 have s2_14 := m14 _ _ (s2_13.n1)
 have s3_14 := m14 _ _ (s3_13.n1)
 have s4_14 := m14 _ _ (s4_13.n1)
 have s38_14 := m14 _ _ (At.hit z13 rfl)
 clear m14
 refine e_then (wp_block (c_loop 80 (fun t a w => Fr 77 a ∧ At a 2 (.pointer (some ⟨g2, 0, none⟩)) ∧ At a 3 (.pointer (some ⟨g3, 0, none⟩)) ∧ At a 4 (.pointer (some ⟨g4, 0, none⟩)) ∧ At a 38 (.int .i64 ((t : Nat) : Int)) ∧ w.heap[g2]? = some (.cells (nums .u32 (List.replicate 80 0)) 66) ∧ w.heap[g3]? = some (.cells (nums .u32 (diffL (rowL false K B) t)) 66) ∧ w.heap[g4]? = some (.cells (nums .u32 (rowL false K B)) 90) ∧ Low w0 w) ?_ ?_ ?_))
 ·
  exact ⟨z14, s2_14, s3_14, s4_14, s38_14, kg2_12, kg3_12, k12, low13⟩
 ·
  intro t a15 w15 hk15 h
  obtain ⟨z15, s2_15, s3_15, s4_15, s38_15, kg2_15, kg3_15, kg4_15, low15⟩ := h
  clear k12 kg2_12 kg3_12 low13 s2_14 s38_14 s3_14 s4_14 z14
  refine c_seq (c_region ?_)
  refine l_q rfl (q_lss true rfl s38_15.ev rfl (decide_eq_true (by omega)) ?_)
  refine l_end (e_fresh z15.put ?_)
  intro a16 z16 m16
  have s2_16 := m16 _ _ (s2_15.n1)
  have s3_16 := m16 _ _ (s3_15.n1)
  have s4_16 := m16 _ _ (s4_15.n1)
  have s38_16 := m16 _ _ (s38_15.n1)
  have s39_16 := m16 _ _ (At.hit z15 rfl)
  clear m16
  refine e_then (c_seq (c_true s39_16 ?_))
  refine wp_skip (e_then (c_seq (wp_block (c_seq (c_region ?_)))))
  refine l_q rfl (q_move _ _ rfl s38_16.ev ?_)
  refine l_q rfl (q_assign _ _ rfl (At.hit z16 rfl).ev ?_)
  refine l_end (e_fresh z16.p2 ?_)
  intro a17 z17 m17
  have s2_17 := m17 _ _ (s2_16.n2)
  have s3_17 := m17 _ _ (s3_16.n2)
  have s4_17 := m17 _ _ (s4_16.n2)
  have s5_17 := m17 _ _ (At.hit z16.put rfl)
  have s38_17 := m17 _ _ (s38_16.n2)
  clear m17
  refine e_then (c_seq (c_region ?_))
  refine l_q rfl (q_move _ _ rfl s5_17.ev ?_)
  refine l_q rfl (q_add (((t + 5 : Nat) : Int)) rfl (At.hit z17 rfl).ev rfl (i64_is (by omega) (by omega) (by omega)) ?_)
  refine l_q rfl (q_assign _ _ rfl (At.hit z17.put rfl).ev ?_)
  refine l_end (e_fresh z17.p3 ?_)
  intro a18 z18 m18
  have s2_18 := m18 _ _ (s2_17.n3)
  have s3_18 := m18 _ _ (s3_17.n3)
  have s4_18 := m18 _ _ (s4_17.n3)
  have s5_18 := m18 _ _ (s5_17.n3)
  have s6_18 := m18 _ _ (At.hit z17.p2 rfl)
  have s38_18 := m18 _ _ (s38_17.n3)
  clear m18
  refine e_then (region_low_tail 32 hm (by kernel_rfl) ?_)
  simp only [List.take_succ_cons, List.take_zero, List.drop_succ_cons, List.drop_zero]
  refine qs (q_move _ _ rfl s5_18.ev ?_)
  refine qs (q_move _ _ rfl (s6_18.n1).ev ?_)
  refine qs (q_idx (j := t + 5) rfl Tryz.underlying90 sz64 (s4_18.n2).ev (At.hit z18.put rfl).ev (by omega) ?_)
  refine qs (q_cell (.int .u32 ((rowL false K B).getD (t + 5) 0)) rfl Tryz.underlying64 (At.hit z18.p2 rfl).ev (fun _ h => nums_cell (h.blk kg4_15) (t + 5) (by rw [(rowL_len false K B)]; omega)) ?_)
  refine qs (q_move _ _ rfl (s6_18.n4).ev ?_)
  refine qs (q_sub (((t + 4 : Nat) : Int)) rfl (At.hit z18.p4 rfl).ev rfl (i64_is (by omega) (by omega) (by omega)) ?_)
  refine qs (q_idx (j := t + 4) rfl Tryz.underlying90 sz64 (s4_18.n6).ev (At.hit z18.p5 rfl).ev (by omega) ?_)
  refine qs (q_cell (.int .u32 ((rowL false K B).getD (t + 4) 0)) rfl Tryz.underlying64 (At.hit z18.p6 rfl).ev (fun _ h => nums_cell (h.blk kg4_15) (t + 4) (by rw [(rowL_len false K B)]; omega)) ?_)
  refine q_fresh z18.p8 ?_
  intro a19 z19 m19
  have s2_19 := m19 _ _ (s2_18.n8)
  have s3_19 := m19 _ _ (s3_18.n8)
  have s4_19 := m19 _ _ (s4_18.n8)
  have s6_19 := m19 _ _ (s6_18.n8)
  have s38_19 := m19 _ _ (s38_18.n8)
  have s43_19 := m19 _ _ ((At.hit z18 rfl).n7)
  have s46_19 := m19 _ _ ((At.hit z18.p3 rfl).n4)
  have s50_19 := m19 _ _ (At.hit z18.p7 rfl)
  clear m19
  refine qs (q_call (.int .u32 (rotl ((rowL false K B).getD (t + 4) 0) 5)) rfl rfl Tryz.func61 rfl (args2 rfl s50_19.ev rfl) (fun _ h => (RotL.calls ((rowL false K B).getD (t + 4) 0) 5 _).mono fun _ _ ⟨e, k⟩ => ⟨e, h.trans k⟩) ?_)
  refine qs (q_xor rfl (s46_19.n1).ev (At.hit z19 rfl).ev ?_)
  refine qs (q_move _ _ rfl (s6_19.n2).ev ?_)
  refine qs (q_sub (((t + 3 : Nat) : Int)) rfl (At.hit z19.p2 rfl).ev rfl (i64_is (by omega) (by omega) (by omega)) ?_)
  refine qs (q_idx (j := t + 3) rfl Tryz.underlying90 sz64 (s4_19.n4).ev (At.hit z19.p3 rfl).ev (by omega) ?_)
  refine qs (q_cell (.int .u32 ((rowL false K B).getD (t + 3) 0)) rfl Tryz.underlying64 (At.hit z19.p4 rfl).ev (fun _ h => nums_cell (h.blk kg4_15) (t + 3) (by rw [(rowL_len false K B)]; omega)) ?_)
  refine qs (q_xor rfl ((At.hit z19.put rfl).n4).ev (At.hit z19.p5 rfl).ev ?_)
  refine qs (q_move _ _ rfl (s6_19.n7).ev ?_)
  refine q_fresh z19.p8 ?_
  intro a20 z20 m20
  have s2_20 := m20 _ _ (s2_19.n8)
  have s3_20 := m20 _ _ (s3_19.n8)
  have s4_20 := m20 _ _ (s4_19.n8)
  have s6_20 := m20 _ _ (s6_19.n8)
  have s38_20 := m20 _ _ (s38_19.n8)
  have s43_20 := m20 _ _ (s43_19.n8)
  have s57_20 := m20 _ _ ((At.hit z19.p6 rfl).n1)
  have s58_20 := m20 _ _ (At.hit z19.p7 rfl)
  clear m20
  refine qs (q_sub (((t + 2 : Nat) : Int)) rfl s58_20.ev rfl (i64_is (by omega) (by omega) (by omega)) ?_)
  refine qs (q_idx (j := t + 2) rfl Tryz.underlying90 sz64 (s4_20.n1).ev (At.hit z20 rfl).ev (by omega) ?_)
  refine qs (q_cell (.int .u32 ((rowL false K B).getD (t + 2) 0)) rfl Tryz.underlying64 (At.hit z20.put rfl).ev (fun _ h => nums_cell (h.blk kg4_15) (t + 2) (by rw [(rowL_len false K B)]; omega)) ?_)
  refine qs (q_move _ _ rfl (s6_20.n3).ev ?_)
  refine qs (q_sub (((t + 1 : Nat) : Int)) rfl (At.hit z20.p3 rfl).ev rfl (i64_is (by omega) (by omega) (by omega)) ?_)
  refine qs (q_idx (j := t + 1) rfl Tryz.underlying90 sz64 (s4_20.n5).ev (At.hit z20.p4 rfl).ev (by omega) ?_)
  refine qs (q_cell (.int .u32 ((rowL false K B).getD (t + 1) 0)) rfl Tryz.underlying64 (At.hit z20.p5 rfl).ev (fun _ h => nums_cell (h.blk kg4_15) (t + 1) (by rw [(rowL_len false K B)]; omega)) ?_)
  refine qs (q_xor rfl ((At.hit z20.p2 rfl).n4).ev (At.hit z20.p6 rfl).ev ?_)
  refine q_fresh z20.p8 ?_
  intro a21 z21 m21
  have s2_21 := m21 _ _ (s2_20.n8)
  have s3_21 := m21 _ _ (s3_20.n8)
  have s4_21 := m21 _ _ (s4_20.n8)
  have s6_21 := m21 _ _ (s6_20.n8)
  have s38_21 := m21 _ _ (s38_20.n8)
  have s43_21 := m21 _ _ (s43_20.n8)
  have s57_21 := m21 _ _ (s57_20.n8)
  have s66_21 := m21 _ _ (At.hit z20.p7 rfl)
  clear m21
  refine qs (q_move _ _ rfl s6_21.ev ?_)
  refine qs (q_sub (((t : Nat) : Int)) rfl (At.hit z21 rfl).ev rfl (i64_is (by omega) (by omega) (by omega)) ?_)
  refine qs (q_idx (j := t) rfl Tryz.underlying90 sz64 (s4_21.n2).ev (At.hit z21.put rfl).ev (by omega) ?_)
  refine qs (q_cell (.int .u32 ((rowL false K B).getD t 0)) rfl Tryz.underlying64 (At.hit z21.p2 rfl).ev (fun _ h => nums_cell (h.blk kg4_15) t (by rw [(rowL_len false K B)]; omega)) ?_)
  refine qs (q_xor rfl (s66_21.n4).ev (At.hit z21.p3 rfl).ev ?_)
  refine qs (q_call (.int .u32 (rotl (Go.bits .xor .u32 (Go.bits .xor .u32 ((rowL false K B).getD (t + 2) 0) ((rowL false K B).getD (t + 1) 0)) ((rowL false K B).getD t 0)) 30)) rfl rfl Tryz.func61 rfl (args2 rfl (At.hit z21.p4 rfl).ev rfl) (fun _ h => (RotL.calls (Go.bits .xor .u32 (Go.bits .xor .u32 ((rowL false K B).getD (t + 2) 0) ((rowL false K B).getD (t + 1) 0)) ((rowL false K B).getD t 0)) 30 _).mono fun _ _ ⟨e, k⟩ => ⟨e, h.trans k⟩) ?_)
  refine qs (q_xor rfl (s57_21.n6).ev (At.hit z21.p5 rfl).ev ?_)
  refine qs (q_idx (j := t) rfl Tryz.underlying66 sz64 (s3_21.n7).ev (s43_21.n7).ev (by omega) ?_)
  refine qz ?_
  intro w22 h22
  have kg2_22 := h22.blk kg2_15
  have kg3_22 := h22.blk kg3_15
  have kg4_22 := h22.blk kg4_15
  refine l_cell (j := t) (v := .int .u32 (Go.bits .xor .u32 (Go.bits .xor .u32 (Go.bits .xor .u32 ((rowL false K B).getD (t + 5) 0) (rotl ((rowL false K B).getD (t + 4) 0) 5)) ((rowL false K B).getD (t + 3) 0)) (rotl (Go.bits .xor .u32 (Go.bits .xor .u32 ((rowL false K B).getD (t + 2) 0) ((rowL false K B).getD (t + 1) 0)) ((rowL false K B).getD t 0)) 30))) rfl rfl rfl sz64 (At.hit z21.p7 rfl).ev ((At.hit z21.p6 rfl).n1).ev rfl kg3_22 (by rw [(nums_size _ _).trans (diffL_len _ _)]; omega) ?_
  intro w23 k23 u23
  rw [nums_put] at k23
  have kg2_23 := u23.blk kg2_22 (by omega)
  have kg4_23 := u23.blk kg4_22 (by omega)
  refine l_end (e_fresh z21.p8 ?_)
  intro a24 z24 m24
  have s2_24 := m24 _ _ (s2_21.n8)
  have s3_24 := m24 _ _ (s3_21.n8)
  have s4_24 := m24 _ _ (s4_21.n8)
  have s38_24 := m24 _ _ (s38_21.n8)
  have low24 := ((low15.trans h22).upd u23 geg3)
  clear m24
  refine e_in (e_then (c_region ?_))
  refine l_q rfl (q_add (((t + 1 : Nat) : Int)) rfl s38_24.ev rfl (i64_is (by omega) (by omega) (by omega)) ?_)
  refine l_q rfl (q_move _ _ rfl (At.hit z24 rfl).ev ?_)
  refine l_end (e_fresh z24.p2 ?_)
  intro a25 z25 m25
  have s2_25 := m25 _ _ (s2_24.n2)
  have s3_25 := m25 _ _ (s3_24.n2)
  have s4_25 := m25 _ _ (s4_24.n2)
  have s38_25 := m25 _ _ (At.hit z24.put rfl)
  clear m25
  exact ⟨z25, s2_25, s3_25, s4_25, s38_25, kg2_23, k23, kg4_23, low24⟩
 ·
  intro a26 w26 h
  obtain ⟨z26, s2_26, s3_26, s4_26, s38_26, kg2_26, kg3_26, kg4_26, low26⟩ := h
  clear k12 kg2_12 kg3_12 low13 s2_14 s38_14 s3_14 s4_14 z14
  refine c_seq (c_region ?_)
  refine l_q rfl (q_lss false rfl s38_26.ev rfl (decide_eq_false (by omega)) ?_)
  refine l_end (e_fresh z26.put ?_)
  intro a27 z27 m27
  have s2_27 := m27 _ _ (s2_26.n1)
  have s3_27 := m27 _ _ (s3_26.n1)
  have s4_27 := m27 _ _ (s4_26.n1)
  have s38_27 := m27 _ _ (s38_26.n1)
  have s39_27 := m27 _ _ (At.hit z26 rfl)
  clear m27
  refine e_then (c_seq (c_false s39_27 ?_))
  refine wp_exit (x_then (x_then (in_exit (e_then (c_seq (c_region ?_))))))
  refine l_q rfl (q_row rfl Tryz.underlying66 rfl (sz66.trans (congrArg some ((nums_size _ _).trans (diffL_len _ _)).symm)) s3_27.ev (fun _ e => by rw [e]; exact kg3_26) ?_)
  refine l_row rfl rfl rfl (sz66.trans (congrArg some ((nums_size _ _).trans (diffL_len _ _)).symm)) (s2_27.n1).ev (At.hit z27 rfl).ev (nums_one _ _) kg2_26 (((nums_size _ _).trans (List.length_replicate)).trans ((nums_size _ _).trans (diffL_len _ _)).symm) ?_
  intro w28 k28 u28
  have kg3_28 := u28.blk kg3_26 (by omega)
  have kg4_28 := u28.blk kg4_26 (by omega)
  refine l_end (e_fresh z27.put ?_)
  intro a29 z29 m29
  have s2_29 := m29 _ _ (s2_27.n1)
  have low29 := (low26.upd u28 geg2)
  clear m29
  refine e_then (wp_ret (r_cell rfl z29.defers s2_29 k28 Tryz.underlying66 rfl (sz66.trans (congrArg some ((nums_size _ _).trans (diffL_len _ _)).symm)) ?_))
  exact ⟨rfl, low29⟩
theorem DL_2.calls (K B : Nat) (hK : K ≤ 64) (hB : B ≤ 31) (w0 : World) : Calls Tryz.prog 42 #[.agg #[.int .i64 2, .int .i64 (K : Int), .int .i64 (B : Int)]] w0 fun e w' => e = .returned (.agg (nums .u32 (diffL (rowL true K B) 80))) ∧ Low w0 w' := by
 refine c_fun (R := _) Tryz.func42 rfl 77 rfl (Nat.le_of_ble_eq_true rfl) ?_
 intro a z hA
 have s0 := hA 0 _ rfl
 clear hA
 refine c_seq (c_region (l_box rfl rfl s0.ev ?_))
 intro g1 w1 hg1 k1 h1
 have geg1 := Nat.le_trans (Low.refl _).ge hg1
 refine l_alloc rfl rfl zero66 ?_
 intro g2 w2 hg2 k2 h2
 have lt_g1_g2 := Nat.lt_of_lt_of_le (heap_lt k1) hg2
 have geg2 := Nat.le_trans h1.ge hg2
 have kg1_2 := h2.blk k1
 refine l_end (e_fresh z.p2 ?_)
 intro a3 z3 m3
 have s1_3 := m3 _ _ ((At.hit z rfl).n1)
 have s2_3 := m3 _ _ (At.hit z.put rfl)
 have low3 := (h1.trans h2)
 clear m3
 refine e_then (c_seq (c_region (l_alloc rfl rfl zero66 ?_)))
 intro g3 w4 hg4 k4 h4
 have lt_g1_g3 := Nat.lt_of_lt_of_le (heap_lt kg1_2) hg4
 have lt_g2_g3 := Nat.lt_of_lt_of_le (heap_lt k2) hg4
 have geg3 := Nat.le_trans low3.ge hg4
 have kg1_4 := h4.blk kg1_2
 have kg2_4 := h4.blk k2
 refine l_end (e_fresh z3.put ?_)
 intro a5 z5 m5
 have s1_5 := m5 _ _ (s1_3.n1)
 have s2_5 := m5 _ _ (s2_3.n1)
 have s3_5 := m5 _ _ (At.hit z3 rfl)
 have low5 := (low3.trans h4)
 clear m5
 refine e_then (c_seq (c_seq (c_region ?_)))
 refine l_q rfl (q_fld 0 rfl (by kernel_rfl) s1_5.ev ?_)
 refine l_q rfl (q_cell (.int .i64 2) rfl Tryz.underlying3 (At.hit z5 rfl).ev (fun _ e => by rw [e]; exact (cells_at kg1_4 0).trans rfl) ?_)
 refine l_q rfl (q_lss false rfl (At.hit z5.put rfl).ev rfl (decide_eq_false (by omega)) ?_)
 refine l_q rfl (q_move _ _ rfl (At.hit z5.p2 rfl).ev ?_)
 refine l_qg (wanted_is (j := 3) (d := 10) (b := false) rfl rfl (At.hit z5.p3 rfl) rfl) (q_fld 0 rfl (by kernel_rfl) (s1_5.n4).ev ?_)
 refine l_qg (wanted_is (j := 3) (d := 10) (b := false) rfl rfl ((At.hit z5.p3 rfl).n1) rfl) (q_cell (.int .i64 2) rfl Tryz.underlying3 (At.hit z5.p4 rfl).ev (fun _ e => by rw [e]; exact (cells_at kg1_4 0).trans rfl) ?_)
 refine l_qg (wanted_is (j := 3) (d := 10) (b := false) rfl rfl ((At.hit z5.p3 rfl).n2) rfl) (q_gtr false rfl (At.hit z5.p5 rfl).ev rfl (decide_eq_false (by omega)) ?_)
 refine l_q rfl (q_pick (b := false) (.bool false) rfl ((At.hit z5.p3 rfl).n3).ev (At.hit z5.p6 rfl).ev ?_)
 refine l_fresh z5.p8 ?_
 intro a6 z6 m6
 have s1_6 := m6 _ _ (s1_5.n8)
 have s2_6 := m6 _ _ (s2_5.n8)
 have s3_6 := m6 _ _ (s3_5.n8)
 have s14_6 := m6 _ _ (At.hit z5.p7 rfl)
 clear m6
 refine l_q rfl (q_move _ _ rfl s14_6.ev ?_)
 refine l_qg (wanted_is (j := 8) (d := 15) (b := false) rfl rfl (At.hit z6 rfl) rfl) (q_fld 1 rfl (by kernel_rfl) (s1_6.n1).ev ?_)
 refine l_qg (wanted_is (j := 8) (d := 15) (b := false) rfl rfl ((At.hit z6 rfl).n1) rfl) (q_cell (.int .i64 ((K : Nat) : Int)) rfl Tryz.underlying3 (At.hit z6.put rfl).ev (fun _ e => by rw [e]; exact (cells_at kg1_4 1).trans rfl) ?_)
 refine l_qg (wanted_is (j := 8) (d := 15) (b := false) rfl rfl ((At.hit z6 rfl).n2) rfl) (q_lss false rfl (At.hit z6.p2 rfl).ev rfl (decide_eq_false (by omega)) ?_)
 refine l_q rfl (q_pick (b := false) (.bool false) rfl ((At.hit z6 rfl).n3).ev (At.hit z6.p3 rfl).ev ?_)
 refine l_q rfl (q_move _ _ rfl (At.hit z6.p4 rfl).ev ?_)
 refine l_qg (wanted_is (j := 13) (d := 20) (b := false) rfl rfl (At.hit z6.p5 rfl) rfl) (q_fld 1 rfl (by kernel_rfl) (s1_6.n6).ev ?_)
 refine l_qg (wanted_is (j := 13) (d := 20) (b := false) rfl rfl ((At.hit z6.p5 rfl).n1) rfl) (q_cell (.int .i64 ((K : Nat) : Int)) rfl Tryz.underlying3 (At.hit z6.p6 rfl).ev (fun _ e => by rw [e]; exact (cells_at kg1_4 1).trans rfl) ?_)
 refine l_fresh z6.p8 ?_
 intro a7 z7 m7
 have s1_7 := m7 _ _ (s1_6.n8)
 have s2_7 := m7 _ _ (s2_6.n8)
 have s3_7 := m7 _ _ (s3_6.n8)
 have s20_7 := m7 _ _ ((At.hit z6.p5 rfl).n2)
 have s22_7 := m7 _ _ (At.hit z6.p7 rfl)
 clear m7
 refine l_qg (wanted_is (j := 13) (d := 20) (b := false) rfl rfl s20_7 rfl) (q_gtr false rfl s22_7.ev rfl (decide_eq_false (by omega)) ?_)
 refine l_q rfl (q_pick (b := false) (.bool false) rfl (s20_7.n1).ev (At.hit z7 rfl).ev ?_)
 refine l_q rfl (q_move _ _ rfl (At.hit z7.put rfl).ev ?_)
 refine l_qg (wanted_is (j := 18) (d := 25) (b := false) rfl rfl (At.hit z7.p2 rfl) rfl) (q_fld 2 rfl (by kernel_rfl) (s1_7.n3).ev ?_)
 refine l_qg (wanted_is (j := 18) (d := 25) (b := false) rfl rfl ((At.hit z7.p2 rfl).n1) rfl) (q_cell (.int .i64 ((B : Nat) : Int)) rfl Tryz.underlying3 (At.hit z7.p3 rfl).ev (fun _ e => by rw [e]; exact (cells_at kg1_4 2).trans rfl) ?_)
 refine l_qg (wanted_is (j := 18) (d := 25) (b := false) rfl rfl ((At.hit z7.p2 rfl).n2) rfl) (q_lss false rfl (At.hit z7.p4 rfl).ev rfl (decide_eq_false (by omega)) ?_)
 refine l_q rfl (q_pick (b := false) (.bool false) rfl ((At.hit z7.p2 rfl).n3).ev (At.hit z7.p5 rfl).ev ?_)
 refine l_q rfl (q_move _ _ rfl (At.hit z7.p6 rfl).ev ?_)
 refine l_fresh z7.p8 ?_
 intro a8 z8 m8
 have s1_8 := m8 _ _ (s1_7.n8)
 have s2_8 := m8 _ _ (s2_7.n8)
 have s3_8 := m8 _ _ (s3_7.n8)
 have s30_8 := m8 _ _ (At.hit z7.p7 rfl)
 clear m8
 refine l_qg (wanted_is (j := 23) (d := 30) (b := false) rfl rfl s30_8 rfl) (q_fld 2 rfl (by kernel_rfl) s1_8.ev ?_)
 refine l_qg (wanted_is (j := 23) (d := 30) (b := false) rfl rfl (s30_8.n1) rfl) (q_cell (.int .i64 ((B : Nat) : Int)) rfl Tryz.underlying3 (At.hit z8 rfl).ev (fun _ e => by rw [e]; exact (cells_at kg1_4 2).trans rfl) ?_)
 refine l_qg (wanted_is (j := 23) (d := 30) (b := false) rfl rfl (s30_8.n2) rfl) (q_gtr false rfl (At.hit z8.put rfl).ev rfl (decide_eq_false (by omega)) ?_)
 refine l_q rfl (q_pick (b := false) (.bool false) rfl (s30_8.n3).ev (At.hit z8.p2 rfl).ev ?_)
 refine l_end (e_fresh z8.p4 ?_)
 intro a9 z9 m9
 have s1_9 := m9 _ _ (s1_8.n4)
 have s2_9 := m9 _ _ (s2_8.n4)
 have s3_9 := m9 _ _ (s3_8.n4)
 have s34_9 := m9 _ _ (At.hit z8.p3 rfl)
 clear m9
 refine e_then (c_false s34_9 ?_)
 refine wp_skip (e_then (c_seq (c_region ?_)))
 refine l_q rfl (q_row rfl Tryz.underlying63 rfl (sz63.trans (congrArg some rfl.symm)) s1_9.ev (fun _ e => by rw [e]; exact kg1_4) ?_)
 refine l_call (fun v w' => v = .agg (nums .u32 (rowL true K B)) ∧ Low w4 w') rfl rfl rfl Tryz.func60 rfl (args1 rfl (At.hit z9 rfl).ev) ((Row2.calls K B hK hB _).mono fun _ _ ⟨e, k⟩ => ⟨_, e, rfl, k⟩) ?_
 rintro _ w10 ⟨rfl, h10⟩
 have kg1_10 := h10.blk kg1_4
 have kg2_10 := h10.blk kg2_4
 have kg3_10 := h10.blk k4
 refine l_alloc rfl rfl zero90 ?_
 intro g4 w11 hg11 k11 h11
 have lt_g1_g4 := Nat.lt_of_lt_of_le (heap_lt kg1_10) hg11
 have lt_g2_g4 := Nat.lt_of_lt_of_le (heap_lt kg2_10) hg11
 have lt_g3_g4 := Nat.lt_of_lt_of_le (heap_lt kg3_10) hg11
 have geg4 := Nat.le_trans (low5.trans h10).ge hg11
 have kg1_11 := h11.blk kg1_10
 have kg2_11 := h11.blk kg2_10
 have kg3_11 := h11.blk kg3_10
 refine l_row rfl rfl rfl (sz90.trans (congrArg some ((nums_size _ _).trans (rowL_len true K B)).symm)) (At.hit z9.p2 rfl).ev ((At.hit z9.put rfl).n1).ev (nums_one _ _) k11 (((nums_size _ _).trans (List.length_replicate)).trans ((nums_size _ _).trans (rowL_len true K B)).symm) ?_
 intro w12 k12 u12
 have kg1_12 := u12.blk kg1_11 (by omega)
 have kg2_12 := u12.blk kg2_11 (by omega)
 have kg3_12 := u12.blk kg3_11 (by omega)
 refine l_end (e_fresh z9.p3 ?_)
 intro a13 z13 m13
 have s2_13 := m13 _ _ (s2_9.n3)
 have s3_13 := m13 _ _ (s3_9.n3)
 have s4_13 := m13 _ _ (At.hit z9.p2 rfl)
 have low13 := (((low5.trans h10).trans h11).upd u12 geg4)
 clear m13
 refine e_then (c_seq (c_seq (c_region ?_)))
 refine l_q rfl (q_move _ _ rfl rfl ?_)
 refine l_end (e_fresh z13.put ?_)
 intro a14 z14 m14
 have s2_14 := m14 _ _ (s2_13.n1)
 have s3_14 := m14 _ _ (s3_13.n1)
 have s4_14 := m14 _ _ (s4_13.n1)
 have s38_14 := m14 _ _ (At.hit z13 rfl)
 clear m14
 refine e_then (wp_block (c_loop 80 (fun t a w => Fr 77 a ∧ At a 2 (.pointer (some ⟨g2, 0, none⟩)) ∧ At a 3 (.pointer (some ⟨g3, 0, none⟩)) ∧ At a 4 (.pointer (some ⟨g4, 0, none⟩)) ∧ At a 38 (.int .i64 ((t : Nat) : Int)) ∧ w.heap[g2]? = some (.cells (nums .u32 (List.replicate 80 0)) 66) ∧ w.heap[g3]? = some (.cells (nums .u32 (diffL (rowL true K B) t)) 66) ∧ w.heap[g4]? = some (.cells (nums .u32 (rowL true K B)) 90) ∧ Low w0 w) ?_ ?_ ?_))
 ·
  exact ⟨z14, s2_14, s3_14, s4_14, s38_14, kg2_12, kg3_12, k12, low13⟩
 ·
  intro t a15 w15 hk15 h
  obtain ⟨z15, s2_15, s3_15, s4_15, s38_15, kg2_15, kg3_15, kg4_15, low15⟩ := h
  clear k12 kg2_12 kg3_12 low13 s2_14 s38_14 s3_14 s4_14 z14
  refine c_seq (c_region ?_)
  refine l_q rfl (q_lss true rfl s38_15.ev rfl (decide_eq_true (by omega)) ?_)
  refine l_end (e_fresh z15.put ?_)
  intro a16 z16 m16
  have s2_16 := m16 _ _ (s2_15.n1)
  have s3_16 := m16 _ _ (s3_15.n1)
  have s4_16 := m16 _ _ (s4_15.n1)
  have s38_16 := m16 _ _ (s38_15.n1)
  have s39_16 := m16 _ _ (At.hit z15 rfl)
  clear m16
  refine e_then (c_seq (c_true s39_16 ?_))
  refine wp_skip (e_then (c_seq (wp_block (c_seq (c_region ?_)))))
  refine l_q rfl (q_move _ _ rfl s38_16.ev ?_)
  refine l_q rfl (q_assign _ _ rfl (At.hit z16 rfl).ev ?_)
  refine l_end (e_fresh z16.p2 ?_)
  intro a17 z17 m17
  have s2_17 := m17 _ _ (s2_16.n2)
  have s3_17 := m17 _ _ (s3_16.n2)
  have s4_17 := m17 _ _ (s4_16.n2)
  have s5_17 := m17 _ _ (At.hit z16.put rfl)
  have s38_17 := m17 _ _ (s38_16.n2)
  clear m17
  refine e_then (c_seq (c_region ?_))
  refine l_q rfl (q_move _ _ rfl s5_17.ev ?_)
  refine l_q rfl (q_add (((t + 5 : Nat) : Int)) rfl (At.hit z17 rfl).ev rfl (i64_is (by omega) (by omega) (by omega)) ?_)
  refine l_q rfl (q_assign _ _ rfl (At.hit z17.put rfl).ev ?_)
  refine l_end (e_fresh z17.p3 ?_)
  intro a18 z18 m18
  have s2_18 := m18 _ _ (s2_17.n3)
  have s3_18 := m18 _ _ (s3_17.n3)
  have s4_18 := m18 _ _ (s4_17.n3)
  have s5_18 := m18 _ _ (s5_17.n3)
  have s6_18 := m18 _ _ (At.hit z17.p2 rfl)
  have s38_18 := m18 _ _ (s38_17.n3)
  clear m18
  refine e_then (region_low_tail 32 hm (by kernel_rfl) ?_)
  simp only [List.take_succ_cons, List.take_zero, List.drop_succ_cons, List.drop_zero]
  refine qs (q_move _ _ rfl s5_18.ev ?_)
  refine qs (q_move _ _ rfl (s6_18.n1).ev ?_)
  refine qs (q_idx (j := t + 5) rfl Tryz.underlying90 sz64 (s4_18.n2).ev (At.hit z18.put rfl).ev (by omega) ?_)
  refine qs (q_cell (.int .u32 ((rowL true K B).getD (t + 5) 0)) rfl Tryz.underlying64 (At.hit z18.p2 rfl).ev (fun _ h => nums_cell (h.blk kg4_15) (t + 5) (by rw [(rowL_len true K B)]; omega)) ?_)
  refine qs (q_move _ _ rfl (s6_18.n4).ev ?_)
  refine qs (q_sub (((t + 4 : Nat) : Int)) rfl (At.hit z18.p4 rfl).ev rfl (i64_is (by omega) (by omega) (by omega)) ?_)
  refine qs (q_idx (j := t + 4) rfl Tryz.underlying90 sz64 (s4_18.n6).ev (At.hit z18.p5 rfl).ev (by omega) ?_)
  refine qs (q_cell (.int .u32 ((rowL true K B).getD (t + 4) 0)) rfl Tryz.underlying64 (At.hit z18.p6 rfl).ev (fun _ h => nums_cell (h.blk kg4_15) (t + 4) (by rw [(rowL_len true K B)]; omega)) ?_)
  refine q_fresh z18.p8 ?_
  intro a19 z19 m19
  have s2_19 := m19 _ _ (s2_18.n8)
  have s3_19 := m19 _ _ (s3_18.n8)
  have s4_19 := m19 _ _ (s4_18.n8)
  have s6_19 := m19 _ _ (s6_18.n8)
  have s38_19 := m19 _ _ (s38_18.n8)
  have s43_19 := m19 _ _ ((At.hit z18 rfl).n7)
  have s46_19 := m19 _ _ ((At.hit z18.p3 rfl).n4)
  have s50_19 := m19 _ _ (At.hit z18.p7 rfl)
  clear m19
  refine qs (q_call (.int .u32 (rotl ((rowL true K B).getD (t + 4) 0) 5)) rfl rfl Tryz.func61 rfl (args2 rfl s50_19.ev rfl) (fun _ h => (RotL.calls ((rowL true K B).getD (t + 4) 0) 5 _).mono fun _ _ ⟨e, k⟩ => ⟨e, h.trans k⟩) ?_)
  refine qs (q_xor rfl (s46_19.n1).ev (At.hit z19 rfl).ev ?_)
  refine qs (q_move _ _ rfl (s6_19.n2).ev ?_)
  refine qs (q_sub (((t + 3 : Nat) : Int)) rfl (At.hit z19.p2 rfl).ev rfl (i64_is (by omega) (by omega) (by omega)) ?_)
  refine qs (q_idx (j := t + 3) rfl Tryz.underlying90 sz64 (s4_19.n4).ev (At.hit z19.p3 rfl).ev (by omega) ?_)
  refine qs (q_cell (.int .u32 ((rowL true K B).getD (t + 3) 0)) rfl Tryz.underlying64 (At.hit z19.p4 rfl).ev (fun _ h => nums_cell (h.blk kg4_15) (t + 3) (by rw [(rowL_len true K B)]; omega)) ?_)
  refine qs (q_xor rfl ((At.hit z19.put rfl).n4).ev (At.hit z19.p5 rfl).ev ?_)
  refine qs (q_move _ _ rfl (s6_19.n7).ev ?_)
  refine q_fresh z19.p8 ?_
  intro a20 z20 m20
  have s2_20 := m20 _ _ (s2_19.n8)
  have s3_20 := m20 _ _ (s3_19.n8)
  have s4_20 := m20 _ _ (s4_19.n8)
  have s6_20 := m20 _ _ (s6_19.n8)
  have s38_20 := m20 _ _ (s38_19.n8)
  have s43_20 := m20 _ _ (s43_19.n8)
  have s57_20 := m20 _ _ ((At.hit z19.p6 rfl).n1)
  have s58_20 := m20 _ _ (At.hit z19.p7 rfl)
  clear m20
  refine qs (q_sub (((t + 2 : Nat) : Int)) rfl s58_20.ev rfl (i64_is (by omega) (by omega) (by omega)) ?_)
  refine qs (q_idx (j := t + 2) rfl Tryz.underlying90 sz64 (s4_20.n1).ev (At.hit z20 rfl).ev (by omega) ?_)
  refine qs (q_cell (.int .u32 ((rowL true K B).getD (t + 2) 0)) rfl Tryz.underlying64 (At.hit z20.put rfl).ev (fun _ h => nums_cell (h.blk kg4_15) (t + 2) (by rw [(rowL_len true K B)]; omega)) ?_)
  refine qs (q_move _ _ rfl (s6_20.n3).ev ?_)
  refine qs (q_sub (((t + 1 : Nat) : Int)) rfl (At.hit z20.p3 rfl).ev rfl (i64_is (by omega) (by omega) (by omega)) ?_)
  refine qs (q_idx (j := t + 1) rfl Tryz.underlying90 sz64 (s4_20.n5).ev (At.hit z20.p4 rfl).ev (by omega) ?_)
  refine qs (q_cell (.int .u32 ((rowL true K B).getD (t + 1) 0)) rfl Tryz.underlying64 (At.hit z20.p5 rfl).ev (fun _ h => nums_cell (h.blk kg4_15) (t + 1) (by rw [(rowL_len true K B)]; omega)) ?_)
  refine qs (q_xor rfl ((At.hit z20.p2 rfl).n4).ev (At.hit z20.p6 rfl).ev ?_)
  refine q_fresh z20.p8 ?_
  intro a21 z21 m21
  have s2_21 := m21 _ _ (s2_20.n8)
  have s3_21 := m21 _ _ (s3_20.n8)
  have s4_21 := m21 _ _ (s4_20.n8)
  have s6_21 := m21 _ _ (s6_20.n8)
  have s38_21 := m21 _ _ (s38_20.n8)
  have s43_21 := m21 _ _ (s43_20.n8)
  have s57_21 := m21 _ _ (s57_20.n8)
  have s66_21 := m21 _ _ (At.hit z20.p7 rfl)
  clear m21
  refine qs (q_move _ _ rfl s6_21.ev ?_)
  refine qs (q_sub (((t : Nat) : Int)) rfl (At.hit z21 rfl).ev rfl (i64_is (by omega) (by omega) (by omega)) ?_)
  refine qs (q_idx (j := t) rfl Tryz.underlying90 sz64 (s4_21.n2).ev (At.hit z21.put rfl).ev (by omega) ?_)
  refine qs (q_cell (.int .u32 ((rowL true K B).getD t 0)) rfl Tryz.underlying64 (At.hit z21.p2 rfl).ev (fun _ h => nums_cell (h.blk kg4_15) t (by rw [(rowL_len true K B)]; omega)) ?_)
  refine qs (q_xor rfl (s66_21.n4).ev (At.hit z21.p3 rfl).ev ?_)
  refine qs (q_call (.int .u32 (rotl (Go.bits .xor .u32 (Go.bits .xor .u32 ((rowL true K B).getD (t + 2) 0) ((rowL true K B).getD (t + 1) 0)) ((rowL true K B).getD t 0)) 30)) rfl rfl Tryz.func61 rfl (args2 rfl (At.hit z21.p4 rfl).ev rfl) (fun _ h => (RotL.calls (Go.bits .xor .u32 (Go.bits .xor .u32 ((rowL true K B).getD (t + 2) 0) ((rowL true K B).getD (t + 1) 0)) ((rowL true K B).getD t 0)) 30 _).mono fun _ _ ⟨e, k⟩ => ⟨e, h.trans k⟩) ?_)
  refine qs (q_xor rfl (s57_21.n6).ev (At.hit z21.p5 rfl).ev ?_)
  refine qs (q_idx (j := t) rfl Tryz.underlying66 sz64 (s3_21.n7).ev (s43_21.n7).ev (by omega) ?_)
  refine qz ?_
  intro w22 h22
  have kg2_22 := h22.blk kg2_15
  have kg3_22 := h22.blk kg3_15
  have kg4_22 := h22.blk kg4_15
  refine l_cell (j := t) (v := .int .u32 (Go.bits .xor .u32 (Go.bits .xor .u32 (Go.bits .xor .u32 ((rowL true K B).getD (t + 5) 0) (rotl ((rowL true K B).getD (t + 4) 0) 5)) ((rowL true K B).getD (t + 3) 0)) (rotl (Go.bits .xor .u32 (Go.bits .xor .u32 ((rowL true K B).getD (t + 2) 0) ((rowL true K B).getD (t + 1) 0)) ((rowL true K B).getD t 0)) 30))) rfl rfl rfl sz64 (At.hit z21.p7 rfl).ev ((At.hit z21.p6 rfl).n1).ev rfl kg3_22 (by rw [(nums_size _ _).trans (diffL_len _ _)]; omega) ?_
  intro w23 k23 u23
  rw [nums_put] at k23
  have kg2_23 := u23.blk kg2_22 (by omega)
  have kg4_23 := u23.blk kg4_22 (by omega)
  refine l_end (e_fresh z21.p8 ?_)
  intro a24 z24 m24
  have s2_24 := m24 _ _ (s2_21.n8)
  have s3_24 := m24 _ _ (s3_21.n8)
  have s4_24 := m24 _ _ (s4_21.n8)
  have s38_24 := m24 _ _ (s38_21.n8)
  have low24 := ((low15.trans h22).upd u23 geg3)
  clear m24
  refine e_in (e_then (c_region ?_))
  refine l_q rfl (q_add (((t + 1 : Nat) : Int)) rfl s38_24.ev rfl (i64_is (by omega) (by omega) (by omega)) ?_)
  refine l_q rfl (q_move _ _ rfl (At.hit z24 rfl).ev ?_)
  refine l_end (e_fresh z24.p2 ?_)
  intro a25 z25 m25
  have s2_25 := m25 _ _ (s2_24.n2)
  have s3_25 := m25 _ _ (s3_24.n2)
  have s4_25 := m25 _ _ (s4_24.n2)
  have s38_25 := m25 _ _ (At.hit z24.put rfl)
  clear m25
  exact ⟨z25, s2_25, s3_25, s4_25, s38_25, kg2_23, k23, kg4_23, low24⟩
 ·
  intro a26 w26 h
  obtain ⟨z26, s2_26, s3_26, s4_26, s38_26, kg2_26, kg3_26, kg4_26, low26⟩ := h
  clear k12 kg2_12 kg3_12 low13 s2_14 s38_14 s3_14 s4_14 z14
  refine c_seq (c_region ?_)
  refine l_q rfl (q_lss false rfl s38_26.ev rfl (decide_eq_false (by omega)) ?_)
  refine l_end (e_fresh z26.put ?_)
  intro a27 z27 m27
  have s2_27 := m27 _ _ (s2_26.n1)
  have s3_27 := m27 _ _ (s3_26.n1)
  have s4_27 := m27 _ _ (s4_26.n1)
  have s38_27 := m27 _ _ (s38_26.n1)
  have s39_27 := m27 _ _ (At.hit z26 rfl)
  clear m27
  refine e_then (c_seq (c_false s39_27 ?_))
  refine wp_exit (x_then (x_then (in_exit (e_then (c_seq (c_region ?_))))))
  refine l_q rfl (q_row rfl Tryz.underlying66 rfl (sz66.trans (congrArg some ((nums_size _ _).trans (diffL_len _ _)).symm)) s3_27.ev (fun _ e => by rw [e]; exact kg3_26) ?_)
  refine l_row rfl rfl rfl (sz66.trans (congrArg some ((nums_size _ _).trans (diffL_len _ _)).symm)) (s2_27.n1).ev (At.hit z27 rfl).ev (nums_one _ _) kg2_26 (((nums_size _ _).trans (List.length_replicate)).trans ((nums_size _ _).trans (diffL_len _ _)).symm) ?_
  intro w28 k28 u28
  have kg3_28 := u28.blk kg3_26 (by omega)
  have kg4_28 := u28.blk kg4_26 (by omega)
  refine l_end (e_fresh z27.put ?_)
  intro a29 z29 m29
  have s2_29 := m29 _ _ (s2_27.n1)
  have low29 := (low26.upd u28 geg2)
  clear m29
  refine e_then (wp_ret (r_cell rfl z29.defers s2_29 k28 Tryz.underlying66 rfl (sz66.trans (congrArg some ((nums_size _ _).trans (diffL_len _ _)).symm)) ?_))
  exact ⟨rfl, low29⟩
end Go.Proofs.YtfjhnnpdaggnbaaGreatDoor.Q
end
/-! A3 -/
section
namespace Go.Proofs.YtfjhnnpdaggnbaaGreatDoor.Q
open Go.RowKit Go.Proofs.YtfjhnnpdaggnbaaGreatDoor.P
set_option linter.unusedVariables false
set_option linter.unusedSimpArgs false
set_option maxRecDepth 100000
set_option maxHeartbeats 4000000
attribute [local irreducible] wpList wpQuiet qch Code.wp Oper.quiet Act.put At Region.wanted yielded
theorem DR_1.calls (K B : Nat) (hK : K ≤ 64) (hB : B ≤ 31) (w0 : World) : Calls Tryz.prog 69 #[.agg #[.int .i64 1, .int .i64 (K : Int), .int .i64 (B : Int)]] w0 fun e w' => e = .returned (.agg (nums .u32 (diffR (rowR false K B) 80))) ∧ Low w0 w' := by
 refine c_fun (R := _) Tryz.func69 rfl 164 rfl (Nat.le_of_ble_eq_true rfl) ?_
 intro a z hA
 have s0 := hA 0 _ rfl
 clear hA
 refine c_seq (c_region (l_box rfl rfl s0.ev ?_))
 intro g1 w1 hg1 k1 h1
 have geg1 := Nat.le_trans (Low.refl _).ge hg1
 refine l_alloc rfl rfl zero65 ?_
 intro g2 w2 hg2 k2 h2
 have lt_g1_g2 := Nat.lt_of_lt_of_le (heap_lt k1) hg2
 have geg2 := Nat.le_trans h1.ge hg2
 have kg1_2 := h2.blk k1
 refine l_end (e_fresh z.p2 ?_)
 intro a3 z3 m3
 have s1_3 := m3 _ _ ((At.hit z rfl).n1)
 have s2_3 := m3 _ _ (At.hit z.put rfl)
 have low3 := (h1.trans h2)
 clear m3
 refine e_then (c_seq (c_region (l_alloc rfl rfl zero65 ?_)))
 intro g3 w4 hg4 k4 h4
 have lt_g1_g3 := Nat.lt_of_lt_of_le (heap_lt kg1_2) hg4
 have lt_g2_g3 := Nat.lt_of_lt_of_le (heap_lt k2) hg4
 have geg3 := Nat.le_trans low3.ge hg4
 have kg1_4 := h4.blk kg1_2
 have kg2_4 := h4.blk k2
 refine l_end (e_fresh z3.put ?_)
 intro a5 z5 m5
 have s1_5 := m5 _ _ (s1_3.n1)
 have s2_5 := m5 _ _ (s2_3.n1)
 have s3_5 := m5 _ _ (At.hit z3 rfl)
 have low5 := (low3.trans h4)
 clear m5
 refine e_then (c_seq (c_seq (c_region ?_)))
 refine l_q rfl (q_fld 0 rfl (by kernel_rfl) s1_5.ev ?_)
 refine l_q rfl (q_cell (.int .i64 1) rfl Tryz.underlying3 (At.hit z5 rfl).ev (fun _ e => by rw [e]; exact (cells_at kg1_4 0).trans rfl) ?_)
 refine l_q rfl (q_neq false rfl (At.hit z5.put rfl).ev rfl (decide_eq_false (by omega)) ?_)
 refine l_q rfl (q_move _ _ rfl (At.hit z5.p2 rfl).ev ?_)
 refine l_skip (wanted_is (j := 3) (d := 12) (b := false) rfl rfl (At.hit z5.p3 rfl) rfl) ?_
 refine l_skip (wanted_is (j := 3) (d := 12) (b := false) rfl rfl ((At.hit z5.p3 rfl).n1) rfl) ?_
 refine l_skip (wanted_is (j := 3) (d := 12) (b := false) rfl rfl ((At.hit z5.p3 rfl).n2) rfl) ?_
 refine l_q rfl (q_pick (b := false) (.bool false) rfl ((At.hit z5.p3 rfl).n3).ev rfl ?_)
 refine l_fresh z5.p8 ?_
 intro a6 z6 m6
 have s1_6 := m6 _ _ (s1_5.n8)
 have s2_6 := m6 _ _ (s2_5.n8)
 have s3_6 := m6 _ _ (s3_5.n8)
 have s16_6 := m6 _ _ (At.hit z5.p7 rfl)
 clear m6
 refine l_q rfl (q_move _ _ rfl s16_6.ev ?_)
 refine l_qg (wanted_is (j := 8) (d := 17) (b := false) rfl rfl (At.hit z6 rfl) rfl) (q_fld 1 rfl (by kernel_rfl) (s1_6.n1).ev ?_)
 refine l_qg (wanted_is (j := 8) (d := 17) (b := false) rfl rfl ((At.hit z6 rfl).n1) rfl) (q_cell (.int .i64 ((K : Nat) : Int)) rfl Tryz.underlying3 (At.hit z6.put rfl).ev (fun _ e => by rw [e]; exact (cells_at kg1_4 1).trans rfl) ?_)
 refine l_qg (wanted_is (j := 8) (d := 17) (b := false) rfl rfl ((At.hit z6 rfl).n2) rfl) (q_lss false rfl (At.hit z6.p2 rfl).ev rfl (decide_eq_false (by omega)) ?_)
 refine l_q rfl (q_pick (b := false) (.bool false) rfl ((At.hit z6 rfl).n3).ev (At.hit z6.p3 rfl).ev ?_)
 refine l_q rfl (q_move _ _ rfl (At.hit z6.p4 rfl).ev ?_)
 refine l_qg (wanted_is (j := 13) (d := 22) (b := false) rfl rfl (At.hit z6.p5 rfl) rfl) (q_fld 1 rfl (by kernel_rfl) (s1_6.n6).ev ?_)
 refine l_qg (wanted_is (j := 13) (d := 22) (b := false) rfl rfl ((At.hit z6.p5 rfl).n1) rfl) (q_cell (.int .i64 ((K : Nat) : Int)) rfl Tryz.underlying3 (At.hit z6.p6 rfl).ev (fun _ e => by rw [e]; exact (cells_at kg1_4 1).trans rfl) ?_)
 refine l_fresh z6.p8 ?_
 intro a7 z7 m7
 have s1_7 := m7 _ _ (s1_6.n8)
 have s2_7 := m7 _ _ (s2_6.n8)
 have s3_7 := m7 _ _ (s3_6.n8)
 have s22_7 := m7 _ _ ((At.hit z6.p5 rfl).n2)
 have s24_7 := m7 _ _ (At.hit z6.p7 rfl)
 clear m7
 refine l_qg (wanted_is (j := 13) (d := 22) (b := false) rfl rfl s22_7 rfl) (q_gtr false rfl s24_7.ev rfl (decide_eq_false (by omega)) ?_)
 refine l_q rfl (q_pick (b := false) (.bool false) rfl (s22_7.n1).ev (At.hit z7 rfl).ev ?_)
 refine l_q rfl (q_move _ _ rfl (At.hit z7.put rfl).ev ?_)
 refine l_qg (wanted_is (j := 18) (d := 27) (b := false) rfl rfl (At.hit z7.p2 rfl) rfl) (q_fld 2 rfl (by kernel_rfl) (s1_7.n3).ev ?_)
 refine l_qg (wanted_is (j := 18) (d := 27) (b := false) rfl rfl ((At.hit z7.p2 rfl).n1) rfl) (q_cell (.int .i64 ((B : Nat) : Int)) rfl Tryz.underlying3 (At.hit z7.p3 rfl).ev (fun _ e => by rw [e]; exact (cells_at kg1_4 2).trans rfl) ?_)
 refine l_qg (wanted_is (j := 18) (d := 27) (b := false) rfl rfl ((At.hit z7.p2 rfl).n2) rfl) (q_lss false rfl (At.hit z7.p4 rfl).ev rfl (decide_eq_false (by omega)) ?_)
 refine l_q rfl (q_pick (b := false) (.bool false) rfl ((At.hit z7.p2 rfl).n3).ev (At.hit z7.p5 rfl).ev ?_)
 refine l_q rfl (q_move _ _ rfl (At.hit z7.p6 rfl).ev ?_)
 refine l_fresh z7.p8 ?_
 intro a8 z8 m8
 have s1_8 := m8 _ _ (s1_7.n8)
 have s2_8 := m8 _ _ (s2_7.n8)
 have s3_8 := m8 _ _ (s3_7.n8)
 have s32_8 := m8 _ _ (At.hit z7.p7 rfl)
 clear m8
 refine l_qg (wanted_is (j := 23) (d := 32) (b := false) rfl rfl s32_8 rfl) (q_fld 2 rfl (by kernel_rfl) s1_8.ev ?_)
 refine l_qg (wanted_is (j := 23) (d := 32) (b := false) rfl rfl (s32_8.n1) rfl) (q_cell (.int .i64 ((B : Nat) : Int)) rfl Tryz.underlying3 (At.hit z8 rfl).ev (fun _ e => by rw [e]; exact (cells_at kg1_4 2).trans rfl) ?_)
 refine l_qg (wanted_is (j := 23) (d := 32) (b := false) rfl rfl (s32_8.n2) rfl) (q_gtr false rfl (At.hit z8.put rfl).ev rfl (decide_eq_false (by omega)) ?_)
 refine l_q rfl (q_pick (b := false) (.bool false) rfl (s32_8.n3).ev (At.hit z8.p2 rfl).ev ?_)
 refine l_end (e_fresh z8.p4 ?_)
 intro a9 z9 m9
 have s1_9 := m9 _ _ (s1_8.n4)
 have s2_9 := m9 _ _ (s2_8.n4)
 have s3_9 := m9 _ _ (s3_8.n4)
 have s36_9 := m9 _ _ (At.hit z8.p3 rfl)
 clear m9
 refine e_then (c_false s36_9 ?_)
 refine wp_skip (e_then (c_seq (c_region (l_alloc rfl rfl zero90 ?_))))
 intro g4 w10 hg10 k10 h10
 have lt_g1_g4 := Nat.lt_of_lt_of_le (heap_lt kg1_4) hg10
 have lt_g2_g4 := Nat.lt_of_lt_of_le (heap_lt kg2_4) hg10
 have lt_g3_g4 := Nat.lt_of_lt_of_le (heap_lt k4) hg10
 have geg4 := Nat.le_trans low5.ge hg10
 have kg1_10 := h10.blk kg1_4
 have kg2_10 := h10.blk kg2_4
 have kg3_10 := h10.blk k4
 refine l_end (e_fresh z9.put ?_)
 intro a11 z11 m11
 have s1_11 := m11 _ _ (s1_9.n1)
 have s2_11 := m11 _ _ (s2_9.n1)
 have s3_11 := m11 _ _ (s3_9.n1)
 have s4_11 := m11 _ _ (At.hit z9 rfl)
 have low11 := (low5.trans h10)
 clear m11
 refine e_then (c_seq (c_region ?_))
 refine l_q rfl (q_fld 1 rfl (by kernel_rfl) s1_11.ev ?_)
 refine l_q rfl (q_cell (.int .i64 ((K : Nat) : Int)) rfl Tryz.underlying3 (At.hit z11 rfl).ev (fun _ e => by rw [e]; exact (cells_at kg1_10 1).trans rfl) ?_)
 refine l_q rfl (q_add (((K + 5 : Nat) : Int)) rfl (At.hit z11.put rfl).ev rfl (i64_is (by omega) (by omega) (by omega)) ?_)
 refine l_q rfl (q_assign _ _ rfl (At.hit z11.p2 rfl).ev ?_)
 refine l_end (e_fresh z11.p4 ?_)
 intro a12 z12 m12
 have s1_12 := m12 _ _ (s1_11.n4)
 have s2_12 := m12 _ _ (s2_11.n4)
 have s3_12 := m12 _ _ (s3_11.n4)
 have s4_12 := m12 _ _ (s4_11.n4)
 have s5_12 := m12 _ _ (At.hit z11.p3 rfl)
 clear m12
 refine e_then (c_seq (c_region ?_))
 refine l_q rfl (q_move _ _ rfl s5_12.ev ?_)
 refine l_q rfl (q_add (((K + 20 : Nat) : Int)) rfl (At.hit z12 rfl).ev rfl (i64_is (by omega) (by omega) (by omega)) ?_)
 refine l_q rfl (q_fld 2 rfl (by kernel_rfl) (s1_12.n2).ev ?_)
 refine l_q rfl (q_cell (.int .i64 ((B : Nat) : Int)) rfl Tryz.underlying3 (At.hit z12.p2 rfl).ev (fun _ e => by rw [e]; exact (cells_at kg1_10 2).trans rfl) ?_)
 refine l_q rfl (q_conv _ rfl (At.hit z12.p3 rfl).ev Tryz.underlying3 Tryz.underlying79 rfl ?_)
 refine l_q rfl (q_shl (IntKind.u32.wrap (1 * 2 ^ min (IntKind.u64.wrap ((B : Nat) : Int) : Int).toNat 32)) rfl rfl (At.hit z12.p4 rfl).ev (by first | omega | exact u64_nonneg _) rfl ?_)
 refine l_q rfl (q_idx (j := K + 20) rfl Tryz.underlying90 sz64 (s4_12.n6).ev ((At.hit z12.put rfl).n4).ev (by omega) ?_)
 refine l_cell (j := (K + 20)) (v := .int .u32 (IntKind.u32.wrap (1 * 2 ^ min (IntKind.u64.wrap ((B : Nat) : Int) : Int).toNat 32))) rfl rfl rfl sz64 (At.hit z12.p6 rfl).ev ((At.hit z12.p5 rfl).n1).ev rfl k10 (by rw [(nums_size _ _).trans (List.length_replicate)]; omega) ?_
 intro w13 k13 u13
 rw [nums_put] at k13
 have kg1_13 := u13.blk kg1_10 (by omega)
 have kg2_13 := u13.blk kg2_10 (by omega)
 have kg3_13 := u13.blk kg3_10 (by omega)
 refine l_end (e_fresh z12.p7 ?_)
 intro a14 z14 m14
 have s1_14 := m14 _ _ (s1_12.n7)
 have s2_14 := m14 _ _ (s2_12.n7)
 have s3_14 := m14 _ _ (s3_12.n7)
 have s4_14 := m14 _ _ (s4_12.n7)
 have s5_14 := m14 _ _ (s5_12.n7)
 have low14 := (low11.upd u13 geg4)
 clear m14
 refine e_then (c_seq (c_seq (c_region ?_)))
 refine l_q rfl (q_fld 0 rfl (by kernel_rfl) s1_14.ev ?_)
 refine l_q rfl (q_cell (.int .i64 1) rfl Tryz.underlying3 (At.hit z14 rfl).ev (fun _ e => by rw [e]; exact (cells_at kg1_13 0).trans rfl) ?_)
 refine l_q rfl (q_eql false rfl (At.hit z14.put rfl).ev rfl (decide_eq_false (by omega)) ?_)
 refine l_end (e_fresh z14.p3 ?_)
 intro a15 z15 m15
 have s1_15 := m15 _ _ (s1_14.n3)
 have s2_15 := m15 _ _ (s2_14.n3)
 have s3_15 := m15 _ _ (s3_14.n3)
 have s4_15 := m15 _ _ (s4_14.n3)
 have s5_15 := m15 _ _ (s5_14.n3)
 have s50_15 := m15 _ _ (At.hit z14.p2 rfl)
 clear m15
 refine e_then (c_false s50_15 ?_)
 refine wp_skip (e_then (c_seq (c_seq (c_region ?_))))
 refine l_q rfl (q_move _ _ rfl s5_15.ev ?_)
 refine l_q rfl (q_add (((K + 21 : Nat) : Int)) rfl (At.hit z15 rfl).ev rfl (i64_is (by omega) (by omega) (by omega)) ?_)
 refine l_q rfl (q_assign _ _ rfl (At.hit z15.put rfl).ev ?_)
 refine l_end (e_fresh z15.p3 ?_)
 intro a16 z16 m16
 have s2_16 := m16 _ _ (s2_15.n3)
 have s3_16 := m16 _ _ (s3_15.n3)
 have s4_16 := m16 _ _ (s4_15.n3)
 have s5_16 := m16 _ _ (s5_15.n3)
 have s6_16 := m16 _ _ (At.hit z15.p2 rfl)
 clear m16
 refine e_then (wp_block (c_loop (64 - K) (fun k a w => Fr 164 a ∧ At a 2 (.pointer (some ⟨g2, 0, none⟩)) ∧ At a 3 (.pointer (some ⟨g3, 0, none⟩)) ∧ At a 4 (.pointer (some ⟨g4, 0, none⟩)) ∧ At a 5 (.int .i64 ((K + 5 : Nat) : Int)) ∧ At a 6 (.int .i64 ((k + K + 21 : Nat) : Int)) ∧ w.heap[g2]? = some (.cells (nums .u32 (List.replicate 80 0)) 65) ∧ w.heap[g3]? = some (.cells (nums .u32 (List.replicate 80 0)) 65) ∧ w.heap[g4]? = some (.cells (nums .u32 (up (beginR false K B) K (fun x => rotr x 1) k)) 90) ∧ Low w0 w) ?_ ?_ ?_))
 ·
  exact ⟨z16, s2_16, s3_16, s4_16, s5_16, (s6_16.same (congrArg (Value.int .i64) (by omega))), kg2_13, kg3_13, k13, low14⟩
 ·
  intro k a17 w17 hk17 h
  obtain ⟨z17, s2_17, s3_17, s4_17, s5_17, s6_17, kg2_17, kg3_17, kg4_17, low17⟩ := h
  clear k13 kg2_13 kg3_13 low14 s2_16 s3_16 s4_16 s5_16 s6_16 z16
  refine c_seq (c_seq (c_region ?_))
  refine l_q rfl (q_move _ _ rfl s6_17.ev ?_)
  refine l_q rfl (q_lss true rfl (At.hit z17 rfl).ev rfl (decide_eq_true (by omega)) ?_)
  refine l_end (e_fresh z17.p2 ?_)
  intro a18 z18 m18
  have s2_18 := m18 _ _ (s2_17.n2)
  have s3_18 := m18 _ _ (s3_17.n2)
  have s4_18 := m18 _ _ (s4_17.n2)
  have s5_18 := m18 _ _ (s5_17.n2)
  have s6_18 := m18 _ _ (s6_17.n2)
  have s72_18 := m18 _ _ (At.hit z17.put rfl)
  clear m18
  refine e_then (c_true s72_18 ?_)
  refine wp_skip (e_then (c_seq (wp_block (region_low_tail 22 hm (by kernel_rfl) ?_))))
  simp only [List.take_succ_cons, List.take_zero, List.drop_succ_cons, List.drop_zero]
  refine qs (q_move _ _ rfl s6_18.ev ?_)
  refine qs (q_move _ _ rfl (s6_18.n1).ev ?_)
  refine qs (q_sub (((k + K + 18 : Nat) : Int)) rfl (At.hit z18.put rfl).ev rfl (i64_is (by omega) (by omega) (by omega)) ?_)
  refine qs (q_idx (j := k + K + 18) rfl Tryz.underlying90 sz64 (s4_18.n3).ev (At.hit z18.p2 rfl).ev (by omega) ?_)
  refine qs (q_cell (.int .u32 ((up (beginR false K B) K (fun x => rotr x 1) k).getD (k + K + 18) 0)) rfl Tryz.underlying64 (At.hit z18.p3 rfl).ev (fun _ h => nums_cell (h.blk kg4_17) (k + K + 18) (by rw [(up_len _ K _ (beginR_len false K B) _)]; omega)) ?_)
  refine qs (q_move _ _ rfl (s6_18.n5).ev ?_)
  refine qs (q_sub (((k + K + 13 : Nat) : Int)) rfl (At.hit z18.p5 rfl).ev rfl (i64_is (by omega) (by omega) (by omega)) ?_)
  refine qs (q_idx (j := k + K + 13) rfl Tryz.underlying90 sz64 (s4_18.n7).ev (At.hit z18.p6 rfl).ev (by omega) ?_)
  refine q_fresh z18.p8 ?_
  intro a19 z19 m19
  have s2_19 := m19 _ _ (s2_18.n8)
  have s3_19 := m19 _ _ (s3_18.n8)
  have s4_19 := m19 _ _ (s4_18.n8)
  have s5_19 := m19 _ _ (s5_18.n8)
  have s6_19 := m19 _ _ (s6_18.n8)
  have s75_19 := m19 _ _ ((At.hit z18 rfl).n7)
  have s79_19 := m19 _ _ ((At.hit z18.p4 rfl).n3)
  have s82_19 := m19 _ _ (At.hit z18.p7 rfl)
  clear m19
  refine qs (q_cell (.int .u32 ((up (beginR false K B) K (fun x => rotr x 1) k).getD (k + K + 13) 0)) rfl Tryz.underlying64 s82_19.ev (fun _ h => nums_cell (h.blk kg4_17) (k + K + 13) (by rw [(up_len _ K _ (beginR_len false K B) _)]; omega)) ?_)
  refine qs (q_xor rfl (s79_19.n1).ev (At.hit z19 rfl).ev ?_)
  refine qs (q_move _ _ rfl (s6_19.n2).ev ?_)
  refine qs (q_sub (((k + K + 7 : Nat) : Int)) rfl (At.hit z19.p2 rfl).ev rfl (i64_is (by omega) (by omega) (by omega)) ?_)
  refine qs (q_idx (j := k + K + 7) rfl Tryz.underlying90 sz64 (s4_19.n4).ev (At.hit z19.p3 rfl).ev (by omega) ?_)
  refine qs (q_cell (.int .u32 ((up (beginR false K B) K (fun x => rotr x 1) k).getD (k + K + 7) 0)) rfl Tryz.underlying64 (At.hit z19.p4 rfl).ev (fun _ h => nums_cell (h.blk kg4_17) (k + K + 7) (by rw [(up_len _ K _ (beginR_len false K B) _)]; omega)) ?_)
  refine qs (q_xor rfl ((At.hit z19.put rfl).n4).ev (At.hit z19.p5 rfl).ev ?_)
  refine qs (q_move _ _ rfl (s6_19.n7).ev ?_)
  refine q_fresh z19.p8 ?_
  intro a20 z20 m20
  have s2_20 := m20 _ _ (s2_19.n8)
  have s3_20 := m20 _ _ (s3_19.n8)
  have s4_20 := m20 _ _ (s4_19.n8)
  have s5_20 := m20 _ _ (s5_19.n8)
  have s6_20 := m20 _ _ (s6_19.n8)
  have s75_20 := m20 _ _ (s75_19.n8)
  have s89_20 := m20 _ _ ((At.hit z19.p6 rfl).n1)
  have s90_20 := m20 _ _ (At.hit z19.p7 rfl)
  clear m20
  refine qs (q_sub (((k + K + 5 : Nat) : Int)) rfl s90_20.ev rfl (i64_is (by omega) (by omega) (by omega)) ?_)
  refine qs (q_idx (j := k + K + 5) rfl Tryz.underlying90 sz64 (s4_20.n1).ev (At.hit z20 rfl).ev (by omega) ?_)
  refine qs (q_cell (.int .u32 ((up (beginR false K B) K (fun x => rotr x 1) k).getD (k + K + 5) 0)) rfl Tryz.underlying64 (At.hit z20.put rfl).ev (fun _ h => nums_cell (h.blk kg4_17) (k + K + 5) (by rw [(up_len _ K _ (beginR_len false K B) _)]; omega)) ?_)
  refine qs (q_xor rfl (s89_20.n3).ev (At.hit z20.p2 rfl).ev ?_)
  refine qs (q_call (.int .u32 (rotr (Go.bits .xor .u32 (Go.bits .xor .u32 (Go.bits .xor .u32 ((up (beginR false K B) K (fun x => rotr x 1) k).getD (k + K + 18) 0) ((up (beginR false K B) K (fun x => rotr x 1) k).getD (k + K + 13) 0)) ((up (beginR false K B) K (fun x => rotr x 1) k).getD (k + K + 7) 0)) ((up (beginR false K B) K (fun x => rotr x 1) k).getD (k + K + 5) 0)) 1)) rfl rfl Tryz.func84 rfl (args2 rfl (At.hit z20.p3 rfl).ev rfl) (fun _ h => (RotR.calls (Go.bits .xor .u32 (Go.bits .xor .u32 (Go.bits .xor .u32 ((up (beginR false K B) K (fun x => rotr x 1) k).getD (k + K + 18) 0) ((up (beginR false K B) K (fun x => rotr x 1) k).getD (k + K + 13) 0)) ((up (beginR false K B) K (fun x => rotr x 1) k).getD (k + K + 7) 0)) ((up (beginR false K B) K (fun x => rotr x 1) k).getD (k + K + 5) 0)) 1 (by omega) _).mono fun _ _ ⟨e, k⟩ => ⟨e, h.trans k⟩) ?_)
  refine qs (q_idx (j := k + K + 21) rfl Tryz.underlying90 sz64 (s4_20.n5).ev (s75_20.n5).ev (by omega) ?_)
  refine qz ?_
  intro w21 h21
  have kg2_21 := h21.blk kg2_17
  have kg3_21 := h21.blk kg3_17
  have kg4_21 := h21.blk kg4_17
  refine l_cell (j := (k + K + 21)) (v := .int .u32 (rotr (Go.bits .xor .u32 (Go.bits .xor .u32 (Go.bits .xor .u32 ((up (beginR false K B) K (fun x => rotr x 1) k).getD (k + K + 18) 0) ((up (beginR false K B) K (fun x => rotr x 1) k).getD (k + K + 13) 0)) ((up (beginR false K B) K (fun x => rotr x 1) k).getD (k + K + 7) 0)) ((up (beginR false K B) K (fun x => rotr x 1) k).getD (k + K + 5) 0)) 1)) rfl rfl rfl sz64 (At.hit z20.p5 rfl).ev ((At.hit z20.p4 rfl).n1).ev rfl kg4_21 (by rw [(nums_size _ _).trans (up_len _ K _ (beginR_len false K B) _)]; omega) ?_
  intro w22 k22 u22
  rw [nums_put] at k22
  have kg2_22 := u22.blk kg2_21 (by omega)
  have kg3_22 := u22.blk kg3_21 (by omega)
  refine l_end (e_fresh z20.p6 ?_)
  intro a23 z23 m23
  have s2_23 := m23 _ _ (s2_20.n6)
  have s3_23 := m23 _ _ (s3_20.n6)
  have s4_23 := m23 _ _ (s4_20.n6)
  have s5_23 := m23 _ _ (s5_20.n6)
  have s6_23 := m23 _ _ (s6_20.n6)
  have low23 := ((low17.trans h21).upd u22 geg4)
  clear m23
  refine e_in (e_then (c_region ?_))
  refine l_q rfl (q_move _ _ rfl s6_23.ev ?_)
  refine l_q rfl (q_add (((k + K + 22 : Nat) : Int)) rfl (At.hit z23 rfl).ev rfl (i64_is (by omega) (by omega) (by omega)) ?_)
  refine l_q rfl (q_assign _ _ rfl (At.hit z23.put rfl).ev ?_)
  refine l_end (e_fresh z23.p3 ?_)
  intro a24 z24 m24
  have s2_24 := m24 _ _ (s2_23.n3)
  have s3_24 := m24 _ _ (s3_23.n3)
  have s4_24 := m24 _ _ (s4_23.n3)
  have s5_24 := m24 _ _ (s5_23.n3)
  have s6_24 := m24 _ _ (At.hit z23.p2 rfl)
  clear m24
  exact ⟨z24, s2_24, s3_24, s4_24, s5_24, (s6_24.same (congrArg (Value.int .i64) (by omega))), kg2_22, kg3_22, k22, low23⟩
 ·
  intro a25 w25 h
  obtain ⟨z25, s2_25, s3_25, s4_25, s5_25, s6_25, kg2_25, kg3_25, kg4_25, low25⟩ := h
  clear k13 kg2_13 kg3_13 low14 s2_16 s3_16 s4_16 s5_16 s6_16 z16
  have s6_25 := s6_25.same (congrArg (Value.int .i64) (show _ = (85 : Int) by omega))
  refine c_seq (c_seq (c_region ?_))
  refine l_q rfl (q_move _ _ rfl s6_25.ev ?_)
  refine l_q rfl (q_lss false rfl (At.hit z25 rfl).ev rfl (decide_eq_false (by omega)) ?_)
  refine l_end (e_fresh z25.p2 ?_)
  intro a26 z26 m26
  have s2_26 := m26 _ _ (s2_25.n2)
  have s3_26 := m26 _ _ (s3_25.n2)
  have s4_26 := m26 _ _ (s4_25.n2)
  have s5_26 := m26 _ _ (s5_25.n2)
  have s6_26 := m26 _ _ (s6_25.n2)
  have s72_26 := m26 _ _ (At.hit z25.put rfl)
  clear m26
  refine e_then (c_false s72_26 ?_)
  refine wp_exit (x_then (x_then (in_exit (e_then (c_seq (c_seq (c_region ?_)))))))
  refine l_q rfl (q_move _ _ rfl s5_26.ev ?_)
  refine l_q rfl (q_add (((K + 20 : Nat) : Int)) rfl (At.hit z26 rfl).ev rfl (i64_is (by omega) (by omega) (by omega)) ?_)
  refine l_q rfl (q_assign _ _ rfl (At.hit z26.put rfl).ev ?_)
  refine l_end (e_fresh z26.p3 ?_)
  intro a27 z27 m27
  have s2_27 := m27 _ _ (s2_26.n3)
  have s3_27 := m27 _ _ (s3_26.n3)
  have s4_27 := m27 _ _ (s4_26.n3)
  have s7_27 := m27 _ _ (At.hit z26.p2 rfl)
  clear m27
  refine e_then (wp_block (c_loop (K + 5) (fun k a w => Fr 164 a ∧ At a 2 (.pointer (some ⟨g2, 0, none⟩)) ∧ At a 3 (.pointer (some ⟨g3, 0, none⟩)) ∧ At a 4 (.pointer (some ⟨g4, 0, none⟩)) ∧ At a 7 (.int .i64 (((K : Nat) : Int) + 20 - ((k : Nat) : Int))) ∧ w.heap[g2]? = some (.cells (nums .u32 (List.replicate 80 0)) 65) ∧ w.heap[g3]? = some (.cells (nums .u32 (List.replicate 80 0)) 65) ∧ w.heap[g4]? = some (.cells (nums .u32 (dnR (up (beginR false K B) K (fun x => rotr x 1) (64 - K)) K k)) 90) ∧ Low w0 w) ?_ ?_ ?_))
  ·
   exact ⟨z27, s2_27, s3_27, s4_27, (s7_27.same (congrArg (Value.int .i64) (by omega))), kg2_25, kg3_25, kg4_25, low25⟩
  ·
   intro k a28 w28 hk28 h
   obtain ⟨z28, s2_28, s3_28, s4_28, s7_28, kg2_28, kg3_28, kg4_28, low28⟩ := h
   clear kg2_25 kg3_25 kg4_25 low25 s2_27 s3_27 s4_27 s7_27 z27
   refine c_seq (c_seq (c_region ?_))
   refine l_q rfl (q_move _ _ rfl s7_28.ev ?_)
   refine l_q rfl (q_geq true rfl (At.hit z28 rfl).ev rfl (decide_eq_true (by omega)) ?_)
   refine l_end (e_fresh z28.p2 ?_)
   intro a29 z29 m29
   have s2_29 := m29 _ _ (s2_28.n2)
   have s3_29 := m29 _ _ (s3_28.n2)
   have s4_29 := m29 _ _ (s4_28.n2)
   have s7_29 := m29 _ _ (s7_28.n2)
   have s100_29 := m29 _ _ (At.hit z28.put rfl)
   clear m29
   refine e_then (c_true s100_29 ?_)
   refine wp_skip (e_then (c_seq (wp_block (region_low_tail 22 hm (by kernel_rfl) ?_))))
   simp only [List.take_succ_cons, List.take_zero, List.drop_succ_cons, List.drop_zero]
   refine qs (q_move _ _ rfl s7_29.ev ?_)
   refine qs (q_sub ((((K : Nat) : Int) + 4 - ((k : Nat) : Int))) rfl (At.hit z29 rfl).ev rfl (i64_is (by omega) (by omega) (by omega)) ?_)
   refine qs (q_move _ _ rfl (s7_29.n2).ev ?_)
   refine qs (q_idx (j := (K + 20) - k) rfl Tryz.underlying90 sz64 (s4_29.n3).ev ((At.hit z29.p2 rfl).same (congrArg (Value.int .i64) (show ((((K : Nat) : Int) + 20 - ((k : Nat) : Int)) : Int) = (((K + 20) - k : Nat) : Int) by omega))).ev (by omega) ?_)
   refine qs (q_cell (.int .u32 ((dnR (up (beginR false K B) K (fun x => rotr x 1) (64 - K)) K k).getD ((K + 20) - k) 0)) rfl Tryz.underlying64 (At.hit z29.p3 rfl).ev (fun _ h => nums_cell (h.blk kg4_28) ((K + 20) - k) (by rw [(dnR_len _ K (up_len _ K _ (beginR_len false K B) _) _)]; omega)) ?_)
   refine qs (q_call (.int .u32 (rotr ((dnR (up (beginR false K B) K (fun x => rotr x 1) (64 - K)) K k).getD ((K + 20) - k) 0) 31)) rfl rfl Tryz.func84 rfl (args2 rfl (At.hit z29.p4 rfl).ev rfl) (fun _ h => (RotR.calls ((dnR (up (beginR false K B) K (fun x => rotr x 1) (64 - K)) K k).getD ((K + 20) - k) 0) 31 (by omega) _).mono fun _ _ ⟨e, k⟩ => ⟨e, h.trans k⟩) ?_)
   refine qs (q_move _ _ rfl (s7_29.n6).ev ?_)
   refine qs (q_sub ((((K : Nat) : Int) + 17 - ((k : Nat) : Int))) rfl (At.hit z29.p6 rfl).ev rfl (i64_is (by omega) (by omega) (by omega)) ?_)
   refine q_fresh z29.p8 ?_
   intro a30 z30 m30
   have s2_30 := m30 _ _ (s2_29.n8)
   have s3_30 := m30 _ _ (s3_29.n8)
   have s4_30 := m30 _ _ (s4_29.n8)
   have s7_30 := m30 _ _ (s7_29.n8)
   have s104_30 := m30 _ _ ((At.hit z29.put rfl).n6)
   have s108_30 := m30 _ _ ((At.hit z29.p5 rfl).n2)
   have s110_30 := m30 _ _ (At.hit z29.p7 rfl)
   clear m30
   refine qs (q_idx (j := (K + 17) - k) rfl Tryz.underlying90 sz64 s4_30.ev (s110_30.same (congrArg (Value.int .i64) (show ((((K : Nat) : Int) + 17 - ((k : Nat) : Int)) : Int) = (((K + 17) - k : Nat) : Int) by omega))).ev (by omega) ?_)
   refine qs (q_cell (.int .u32 ((dnR (up (beginR false K B) K (fun x => rotr x 1) (64 - K)) K k).getD ((K + 17) - k) 0)) rfl Tryz.underlying64 (At.hit z30 rfl).ev (fun _ h => nums_cell (h.blk kg4_28) ((K + 17) - k) (by rw [(dnR_len _ K (up_len _ K _ (beginR_len false K B) _) _)]; omega)) ?_)
   refine qs (q_xor rfl (s108_30.n2).ev (At.hit z30.put rfl).ev ?_)
   refine qs (q_move _ _ rfl (s7_30.n3).ev ?_)
   refine qs (q_sub ((((K : Nat) : Int) + 12 - ((k : Nat) : Int))) rfl (At.hit z30.p3 rfl).ev rfl (i64_is (by omega) (by omega) (by omega)) ?_)
   refine qs (q_idx (j := (K + 12) - k) rfl Tryz.underlying90 sz64 (s4_30.n5).ev ((At.hit z30.p4 rfl).same (congrArg (Value.int .i64) (show ((((K : Nat) : Int) + 12 - ((k : Nat) : Int)) : Int) = (((K + 12) - k : Nat) : Int) by omega))).ev (by omega) ?_)
   refine qs (q_cell (.int .u32 ((dnR (up (beginR false K B) K (fun x => rotr x 1) (64 - K)) K k).getD ((K + 12) - k) 0)) rfl Tryz.underlying64 (At.hit z30.p5 rfl).ev (fun _ h => nums_cell (h.blk kg4_28) ((K + 12) - k) (by rw [(dnR_len _ K (up_len _ K _ (beginR_len false K B) _) _)]; omega)) ?_)
   refine qs (q_xor rfl ((At.hit z30.p2 rfl).n4).ev (At.hit z30.p6 rfl).ev ?_)
   refine q_fresh z30.p8 ?_
   intro a31 z31 m31
   have s2_31 := m31 _ _ (s2_30.n8)
   have s3_31 := m31 _ _ (s3_30.n8)
   have s4_31 := m31 _ _ (s4_30.n8)
   have s7_31 := m31 _ _ (s7_30.n8)
   have s104_31 := m31 _ _ (s104_30.n8)
   have s118_31 := m31 _ _ (At.hit z30.p7 rfl)
   clear m31
   refine qs (q_move _ _ rfl s7_31.ev ?_)
   refine qs (q_sub ((((K : Nat) : Int) + 6 - ((k : Nat) : Int))) rfl (At.hit z31 rfl).ev rfl (i64_is (by omega) (by omega) (by omega)) ?_)
   refine qs (q_idx (j := (K + 6) - k) rfl Tryz.underlying90 sz64 (s4_31.n2).ev ((At.hit z31.put rfl).same (congrArg (Value.int .i64) (show ((((K : Nat) : Int) + 6 - ((k : Nat) : Int)) : Int) = (((K + 6) - k : Nat) : Int) by omega))).ev (by omega) ?_)
   refine qs (q_cell (.int .u32 ((dnR (up (beginR false K B) K (fun x => rotr x 1) (64 - K)) K k).getD ((K + 6) - k) 0)) rfl Tryz.underlying64 (At.hit z31.p2 rfl).ev (fun _ h => nums_cell (h.blk kg4_28) ((K + 6) - k) (by rw [(dnR_len _ K (up_len _ K _ (beginR_len false K B) _) _)]; omega)) ?_)
   refine qs (q_xor rfl (s118_31.n4).ev (At.hit z31.p3 rfl).ev ?_)
   refine qs (q_idx (j := (K + 4) - k) rfl Tryz.underlying90 sz64 (s4_31.n5).ev ((s104_31.n5).same (congrArg (Value.int .i64) (show ((((K : Nat) : Int) + 4 - ((k : Nat) : Int)) : Int) = (((K + 4) - k : Nat) : Int) by omega))).ev (by omega) ?_)
   refine qz ?_
   intro w32 h32
   have kg2_32 := h32.blk kg2_28
   have kg3_32 := h32.blk kg3_28
   have kg4_32 := h32.blk kg4_28
   refine l_cell (j := ((K + 4) - k)) (v := .int .u32 (Go.bits .xor .u32 (Go.bits .xor .u32 (Go.bits .xor .u32 (rotr ((dnR (up (beginR false K B) K (fun x => rotr x 1) (64 - K)) K k).getD ((K + 20) - k) 0) 31) ((dnR (up (beginR false K B) K (fun x => rotr x 1) (64 - K)) K k).getD ((K + 17) - k) 0)) ((dnR (up (beginR false K B) K (fun x => rotr x 1) (64 - K)) K k).getD ((K + 12) - k) 0)) ((dnR (up (beginR false K B) K (fun x => rotr x 1) (64 - K)) K k).getD ((K + 6) - k) 0))) rfl rfl rfl sz64 (At.hit z31.p5 rfl).ev ((At.hit z31.p4 rfl).n1).ev rfl kg4_32 (by rw [(nums_size _ _).trans (dnR_len _ K (up_len _ K _ (beginR_len false K B) _) _)]; omega) ?_
   intro w33 k33 u33
   rw [nums_put] at k33
   have kg2_33 := u33.blk kg2_32 (by omega)
   have kg3_33 := u33.blk kg3_32 (by omega)
   refine l_end (e_fresh z31.p6 ?_)
   intro a34 z34 m34
   have s2_34 := m34 _ _ (s2_31.n6)
   have s3_34 := m34 _ _ (s3_31.n6)
   have s4_34 := m34 _ _ (s4_31.n6)
   have s7_34 := m34 _ _ (s7_31.n6)
   have low34 := ((low28.trans h32).upd u33 geg4)
   clear m34
   refine e_in (e_then (c_region ?_))
   refine l_q rfl (q_move _ _ rfl s7_34.ev ?_)
   refine l_q rfl (q_sub ((((K : Nat) : Int) + 19 - ((k : Nat) : Int))) rfl (At.hit z34 rfl).ev rfl (i64_is (by omega) (by omega) (by omega)) ?_)
   refine l_q rfl (q_assign _ _ rfl (At.hit z34.put rfl).ev ?_)
   refine l_end (e_fresh z34.p3 ?_)
   intro a35 z35 m35
   have s2_35 := m35 _ _ (s2_34.n3)
   have s3_35 := m35 _ _ (s3_34.n3)
   have s4_35 := m35 _ _ (s4_34.n3)
   have s7_35 := m35 _ _ (At.hit z34.p2 rfl)
   clear m35
   exact ⟨z35, s2_35, s3_35, s4_35, (s7_35.same (congrArg (Value.int .i64) (by omega))), kg2_33, kg3_33, k33, low34⟩
  ·
   intro a36 w36 h
   obtain ⟨z36, s2_36, s3_36, s4_36, s7_36, kg2_36, kg3_36, kg4_36, low36⟩ := h
   clear kg2_25 kg3_25 kg4_25 low25 s2_27 s3_27 s4_27 s7_27 z27
   have s7_36 := s7_36.same (congrArg (Value.int .i64) (show _ = (15 : Int) by omega))
   refine c_seq (c_seq (c_region ?_))
   refine l_q rfl (q_move _ _ rfl s7_36.ev ?_)
   refine l_q rfl (q_geq false rfl (At.hit z36 rfl).ev rfl (decide_eq_false (by omega)) ?_)
   refine l_end (e_fresh z36.p2 ?_)
   intro a37 z37 m37
   have s2_37 := m37 _ _ (s2_36.n2)
   have s3_37 := m37 _ _ (s3_36.n2)
   have s4_37 := m37 _ _ (s4_36.n2)
   have s7_37 := m37 _ _ (s7_36.n2)
   have s100_37 := m37 _ _ (At.hit z36.put rfl)
   clear m37
   refine e_then (c_false s100_37 ?_)
   refine wp_exit (x_then (x_then (in_exit (e_then (c_seq (c_seq (c_region ?_)))))))
   refine l_q rfl (q_assign _ _ rfl rfl ?_)
   refine l_end (e_fresh z37.put ?_)
   intro a38 z38 m38
   have s2_38 := m38 _ _ (s2_37.n1)
   have s3_38 := m38 _ _ (s3_37.n1)
   have s4_38 := m38 _ _ (s4_37.n1)
   have s8_38 := m38 _ _ (At.hit z37 rfl)
   clear m38
   refine e_then (wp_block (c_loop 80 (fun t a w => Fr 164 a ∧ At a 2 (.pointer (some ⟨g2, 0, none⟩)) ∧ At a 3 (.pointer (some ⟨g3, 0, none⟩)) ∧ At a 4 (.pointer (some ⟨g4, 0, none⟩)) ∧ At a 8 (.int .i64 ((t : Nat) : Int)) ∧ w.heap[g2]? = some (.cells (nums .u32 (List.replicate 80 0)) 65) ∧ w.heap[g3]? = some (.cells (nums .u32 (diffR (rowR false K B) t)) 65) ∧ w.heap[g4]? = some (.cells (nums .u32 (dnR (up (beginR false K B) K (fun x => rotr x 1) (64 - K)) K (K + 5))) 90) ∧ Low w0 w) ?_ ?_ ?_))
   ·
    exact ⟨z38, s2_38, s3_38, s4_38, s8_38, kg2_36, kg3_36, kg4_36, low36⟩
   ·
    intro t a39 w39 hk39 h
    obtain ⟨z39, s2_39, s3_39, s4_39, s8_39, kg2_39, kg3_39, kg4_39, low39⟩ := h
    clear kg2_36 kg3_36 kg4_36 low36 s2_38 s3_38 s4_38 s8_38 z38
    refine c_seq (c_seq (c_region ?_))
    refine l_q rfl (q_move _ _ rfl s8_39.ev ?_)
    refine l_q rfl (q_lss true rfl (At.hit z39 rfl).ev rfl (decide_eq_true (by omega)) ?_)
    refine l_end (e_fresh z39.p2 ?_)
    intro a40 z40 m40
    have s2_40 := m40 _ _ (s2_39.n2)
    have s3_40 := m40 _ _ (s3_39.n2)
    have s4_40 := m40 _ _ (s4_39.n2)
    have s8_40 := m40 _ _ (s8_39.n2)
    have s126_40 := m40 _ _ (At.hit z39.put rfl)
    clear m40
    refine e_then (c_true s126_40 ?_)
    refine wp_skip (e_then (c_seq (wp_block (region_low_tail 34 hm (by kernel_rfl) ?_))))
    simp only [List.take_succ_cons, List.take_zero, List.drop_succ_cons, List.drop_zero]
    refine qs (q_move _ _ rfl s8_40.ev ?_)
    refine qs (q_move _ _ rfl (s8_40.n1).ev ?_)
    refine qs (q_add (((t + 5 : Nat) : Int)) rfl (At.hit z40.put rfl).ev rfl (i64_is (by omega) (by omega) (by omega)) ?_)
    refine qs (q_idx (j := t + 5) rfl Tryz.underlying90 sz64 (s4_40.n3).ev (At.hit z40.p2 rfl).ev (by omega) ?_)
    refine qs (q_cell (.int .u32 ((dnR (up (beginR false K B) K (fun x => rotr x 1) (64 - K)) K (K + 5)).getD (t + 5) 0)) rfl Tryz.underlying64 (At.hit z40.p3 rfl).ev (fun _ h => nums_cell (h.blk kg4_39) (t + 5) (by rw [(dnR_len _ K (up_len _ K _ (beginR_len false K B) _) _)]; omega)) ?_)
    refine qs (q_move _ _ rfl (s8_40.n5).ev ?_)
    refine qs (q_add (((t + 4 : Nat) : Int)) rfl (At.hit z40.p5 rfl).ev rfl (i64_is (by omega) (by omega) (by omega)) ?_)
    refine qs (q_idx (j := t + 4) rfl Tryz.underlying90 sz64 (s4_40.n7).ev (At.hit z40.p6 rfl).ev (by omega) ?_)
    refine q_fresh z40.p8 ?_
    intro a41 z41 m41
    have s2_41 := m41 _ _ (s2_40.n8)
    have s3_41 := m41 _ _ (s3_40.n8)
    have s4_41 := m41 _ _ (s4_40.n8)
    have s8_41 := m41 _ _ (s8_40.n8)
    have s129_41 := m41 _ _ ((At.hit z40 rfl).n7)
    have s133_41 := m41 _ _ ((At.hit z40.p4 rfl).n3)
    have s136_41 := m41 _ _ (At.hit z40.p7 rfl)
    clear m41
    refine qs (q_cell (.int .u32 ((dnR (up (beginR false K B) K (fun x => rotr x 1) (64 - K)) K (K + 5)).getD (t + 4) 0)) rfl Tryz.underlying64 s136_41.ev (fun _ h => nums_cell (h.blk kg4_39) (t + 4) (by rw [(dnR_len _ K (up_len _ K _ (beginR_len false K B) _) _)]; omega)) ?_)
    refine qs (q_call (.int .u32 (rotr ((dnR (up (beginR false K B) K (fun x => rotr x 1) (64 - K)) K (K + 5)).getD (t + 4) 0) 5)) rfl rfl Tryz.func84 rfl (args2 rfl (At.hit z41 rfl).ev rfl) (fun _ h => (RotR.calls ((dnR (up (beginR false K B) K (fun x => rotr x 1) (64 - K)) K (K + 5)).getD (t + 4) 0) 5 (by omega) _).mono fun _ _ ⟨e, k⟩ => ⟨e, h.trans k⟩) ?_)
    refine qs (q_xor rfl (s133_41.n2).ev (At.hit z41.put rfl).ev ?_)
    refine qs (q_move _ _ rfl (s8_41.n3).ev ?_)
    refine qs (q_add (((t + 3 : Nat) : Int)) rfl (At.hit z41.p3 rfl).ev rfl (i64_is (by omega) (by omega) (by omega)) ?_)
    refine qs (q_idx (j := t + 3) rfl Tryz.underlying90 sz64 (s4_41.n5).ev (At.hit z41.p4 rfl).ev (by omega) ?_)
    refine qs (q_cell (.int .u32 ((dnR (up (beginR false K B) K (fun x => rotr x 1) (64 - K)) K (K + 5)).getD (t + 3) 0)) rfl Tryz.underlying64 (At.hit z41.p5 rfl).ev (fun _ h => nums_cell (h.blk kg4_39) (t + 3) (by rw [(dnR_len _ K (up_len _ K _ (beginR_len false K B) _) _)]; omega)) ?_)
    refine qs (q_xor rfl ((At.hit z41.p2 rfl).n4).ev (At.hit z41.p6 rfl).ev ?_)
    refine q_fresh z41.p8 ?_
    intro a42 z42 m42
    have s2_42 := m42 _ _ (s2_41.n8)
    have s3_42 := m42 _ _ (s3_41.n8)
    have s4_42 := m42 _ _ (s4_41.n8)
    have s8_42 := m42 _ _ (s8_41.n8)
    have s129_42 := m42 _ _ (s129_41.n8)
    have s144_42 := m42 _ _ (At.hit z41.p7 rfl)
    clear m42
    refine qs (q_move _ _ rfl s8_42.ev ?_)
    refine qs (q_add (((t + 2 : Nat) : Int)) rfl (At.hit z42 rfl).ev rfl (i64_is (by omega) (by omega) (by omega)) ?_)
    refine qs (q_idx (j := t + 2) rfl Tryz.underlying90 sz64 (s4_42.n2).ev (At.hit z42.put rfl).ev (by omega) ?_)
    refine qs (q_cell (.int .u32 ((dnR (up (beginR false K B) K (fun x => rotr x 1) (64 - K)) K (K + 5)).getD (t + 2) 0)) rfl Tryz.underlying64 (At.hit z42.p2 rfl).ev (fun _ h => nums_cell (h.blk kg4_39) (t + 2) (by rw [(dnR_len _ K (up_len _ K _ (beginR_len false K B) _) _)]; omega)) ?_)
    refine qs (q_call (.int .u32 (rotr ((dnR (up (beginR false K B) K (fun x => rotr x 1) (64 - K)) K (K + 5)).getD (t + 2) 0) 30)) rfl rfl Tryz.func84 rfl (args2 rfl (At.hit z42.p3 rfl).ev rfl) (fun _ h => (RotR.calls ((dnR (up (beginR false K B) K (fun x => rotr x 1) (64 - K)) K (K + 5)).getD (t + 2) 0) 30 (by omega) _).mono fun _ _ ⟨e, k⟩ => ⟨e, h.trans k⟩) ?_)
    refine qs (q_xor rfl (s144_42.n5).ev (At.hit z42.p4 rfl).ev ?_)
    refine qs (q_move _ _ rfl (s8_42.n6).ev ?_)
    refine qs (q_add (((t + 1 : Nat) : Int)) rfl (At.hit z42.p6 rfl).ev rfl (i64_is (by omega) (by omega) (by omega)) ?_)
    refine q_fresh z42.p8 ?_
    intro a43 z43 m43
    have s2_43 := m43 _ _ (s2_42.n8)
    have s3_43 := m43 _ _ (s3_42.n8)
    have s4_43 := m43 _ _ (s4_42.n8)
    have s8_43 := m43 _ _ (s8_42.n8)
    have s129_43 := m43 _ _ (s129_42.n8)
    have s150_43 := m43 _ _ ((At.hit z42.p5 rfl).n2)
    have s152_43 := m43 _ _ (At.hit z42.p7 rfl)
    clear m43
    refine qs (q_idx (j := t + 1) rfl Tryz.underlying90 sz64 s4_43.ev s152_43.ev (by omega) ?_)
    refine qs (q_cell (.int .u32 ((dnR (up (beginR false K B) K (fun x => rotr x 1) (64 - K)) K (K + 5)).getD (t + 1) 0)) rfl Tryz.underlying64 (At.hit z43 rfl).ev (fun _ h => nums_cell (h.blk kg4_39) (t + 1) (by rw [(dnR_len _ K (up_len _ K _ (beginR_len false K B) _) _)]; omega)) ?_)
    refine qs (q_call (.int .u32 (rotr ((dnR (up (beginR false K B) K (fun x => rotr x 1) (64 - K)) K (K + 5)).getD (t + 1) 0) 30)) rfl rfl Tryz.func84 rfl (args2 rfl (At.hit z43.put rfl).ev rfl) (fun _ h => (RotR.calls ((dnR (up (beginR false K B) K (fun x => rotr x 1) (64 - K)) K (K + 5)).getD (t + 1) 0) 30 (by omega) _).mono fun _ _ ⟨e, k⟩ => ⟨e, h.trans k⟩) ?_)
    refine qs (q_xor rfl (s150_43.n3).ev (At.hit z43.p2 rfl).ev ?_)
    refine qs (q_move _ _ rfl (s8_43.n4).ev ?_)
    refine qs (q_idx (j := t) rfl Tryz.underlying90 sz64 (s4_43.n5).ev (At.hit z43.p4 rfl).ev (by omega) ?_)
    refine qs (q_cell (.int .u32 ((dnR (up (beginR false K B) K (fun x => rotr x 1) (64 - K)) K (K + 5)).getD t 0)) rfl Tryz.underlying64 (At.hit z43.p5 rfl).ev (fun _ h => nums_cell (h.blk kg4_39) t (by rw [(dnR_len _ K (up_len _ K _ (beginR_len false K B) _) _)]; omega)) ?_)
    refine qs (q_call (.int .u32 (rotr ((dnR (up (beginR false K B) K (fun x => rotr x 1) (64 - K)) K (K + 5)).getD t 0) 30)) rfl rfl Tryz.func84 rfl (args2 rfl (At.hit z43.p6 rfl).ev rfl) (fun _ h => (RotR.calls ((dnR (up (beginR false K B) K (fun x => rotr x 1) (64 - K)) K (K + 5)).getD t 0) 30 (by omega) _).mono fun _ _ ⟨e, k⟩ => ⟨e, h.trans k⟩) ?_)
    refine q_fresh z43.p8 ?_
    intro a44 z44 m44
    have s2_44 := m44 _ _ (s2_43.n8)
    have s3_44 := m44 _ _ (s3_43.n8)
    have s4_44 := m44 _ _ (s4_43.n8)
    have s8_44 := m44 _ _ (s8_43.n8)
    have s129_44 := m44 _ _ (s129_43.n8)
    have s156_44 := m44 _ _ ((At.hit z43.p3 rfl).n4)
    have s160_44 := m44 _ _ (At.hit z43.p7 rfl)
    clear m44
    refine qs (q_xor rfl s156_44.ev s160_44.ev ?_)
    refine qs (q_idx (j := t) rfl Tryz.underlying65 sz64 (s3_44.n1).ev (s129_44.n1).ev (by omega) ?_)
    refine qz ?_
    intro w45 h45
    have kg2_45 := h45.blk kg2_39
    have kg3_45 := h45.blk kg3_39
    have kg4_45 := h45.blk kg4_39
    refine l_cell (j := t) (v := .int .u32 (Go.bits .xor .u32 (Go.bits .xor .u32 (Go.bits .xor .u32 (Go.bits .xor .u32 (Go.bits .xor .u32 ((dnR (up (beginR false K B) K (fun x => rotr x 1) (64 - K)) K (K + 5)).getD (t + 5) 0) (rotr ((dnR (up (beginR false K B) K (fun x => rotr x 1) (64 - K)) K (K + 5)).getD (t + 4) 0) 5)) ((dnR (up (beginR false K B) K (fun x => rotr x 1) (64 - K)) K (K + 5)).getD (t + 3) 0)) (rotr ((dnR (up (beginR false K B) K (fun x => rotr x 1) (64 - K)) K (K + 5)).getD (t + 2) 0) 30)) (rotr ((dnR (up (beginR false K B) K (fun x => rotr x 1) (64 - K)) K (K + 5)).getD (t + 1) 0) 30)) (rotr ((dnR (up (beginR false K B) K (fun x => rotr x 1) (64 - K)) K (K + 5)).getD t 0) 30))) rfl rfl rfl sz64 (At.hit z44.put rfl).ev ((At.hit z44 rfl).n1).ev rfl kg3_45 (by rw [(nums_size _ _).trans (diffR_len _ _)]; omega) ?_
    intro w46 k46 u46
    rw [nums_put] at k46
    have kg2_46 := u46.blk kg2_45 (by omega)
    have kg4_46 := u46.blk kg4_45 (by omega)
    refine l_end (e_fresh z44.p2 ?_)
    intro a47 z47 m47
    have s2_47 := m47 _ _ (s2_44.n2)
    have s3_47 := m47 _ _ (s3_44.n2)
    have s4_47 := m47 _ _ (s4_44.n2)
    have s8_47 := m47 _ _ (s8_44.n2)
    have low47 := ((low39.trans h45).upd u46 geg3)
    clear m47
    refine e_in (e_then (c_region ?_))
    refine l_q rfl (q_move _ _ rfl s8_47.ev ?_)
    refine l_q rfl (q_add (((t + 1 : Nat) : Int)) rfl (At.hit z47 rfl).ev rfl (i64_is (by omega) (by omega) (by omega)) ?_)
    refine l_q rfl (q_assign _ _ rfl (At.hit z47.put rfl).ev ?_)
    refine l_end (e_fresh z47.p3 ?_)
    intro a48 z48 m48
    have s2_48 := m48 _ _ (s2_47.n3)
    have s3_48 := m48 _ _ (s3_47.n3)
    have s4_48 := m48 _ _ (s4_47.n3)
    have s8_48 := m48 _ _ (At.hit z47.p2 rfl)
    clear m48
    exact ⟨z48, s2_48, s3_48, s4_48, s8_48, kg2_46, k46, kg4_46, low47⟩
   ·
    intro a49 w49 h
    obtain ⟨z49, s2_49, s3_49, s4_49, s8_49, kg2_49, kg3_49, kg4_49, low49⟩ := h
    clear kg2_36 kg3_36 kg4_36 low36 s2_38 s3_38 s4_38 s8_38 z38
    refine c_seq (c_seq (c_region ?_))
    refine l_q rfl (q_move _ _ rfl s8_49.ev ?_)
    refine l_q rfl (q_lss false rfl (At.hit z49 rfl).ev rfl (decide_eq_false (by omega)) ?_)
    refine l_end (e_fresh z49.p2 ?_)
    intro a50 z50 m50
    have s2_50 := m50 _ _ (s2_49.n2)
    have s3_50 := m50 _ _ (s3_49.n2)
    have s4_50 := m50 _ _ (s4_49.n2)
    have s8_50 := m50 _ _ (s8_49.n2)
    have s126_50 := m50 _ _ (At.hit z49.put rfl)
    clear m50
    refine e_then (c_false s126_50 ?_)
    refine wp_exit (x_then (x_then (in_exit (e_then (c_seq (c_region ?_))))))
    refine l_q rfl (q_row rfl Tryz.underlying65 rfl (sz65.trans (congrArg some ((nums_size _ _).trans (diffR_len _ _)).symm)) s3_50.ev (fun _ e => by rw [e]; exact kg3_49) ?_)
    refine l_row rfl rfl rfl (sz65.trans (congrArg some ((nums_size _ _).trans (diffR_len _ _)).symm)) (s2_50.n1).ev (At.hit z50 rfl).ev (nums_one _ _) kg2_49 (((nums_size _ _).trans (List.length_replicate)).trans ((nums_size _ _).trans (diffR_len _ _)).symm) ?_
    intro w51 k51 u51
    have kg3_51 := u51.blk kg3_49 (by omega)
    have kg4_51 := u51.blk kg4_49 (by omega)
    refine l_end (e_fresh z50.put ?_)
    intro a52 z52 m52
    have s2_52 := m52 _ _ (s2_50.n1)
    have low52 := (low49.upd u51 geg2)
    clear m52
    refine e_then (wp_ret (r_cell rfl z52.defers s2_52 k51 Tryz.underlying65 rfl (sz65.trans (congrArg some ((nums_size _ _).trans (diffR_len _ _)).symm)) ?_))
    exact ⟨rfl, low52⟩
theorem DR_2.calls (K B : Nat) (hK : K ≤ 64) (hB : B ≤ 31) (w0 : World) : Calls Tryz.prog 69 #[.agg #[.int .i64 2, .int .i64 (K : Int), .int .i64 (B : Int)]] w0 fun e w' => e = .returned (.agg (nums .u32 (diffR (rowR true K B) 80))) ∧ Low w0 w' := by
 refine c_fun (R := _) Tryz.func69 rfl 164 rfl (Nat.le_of_ble_eq_true rfl) ?_
 intro a z hA
 have s0 := hA 0 _ rfl
 clear hA
 refine c_seq (c_region (l_box rfl rfl s0.ev ?_))
 intro g1 w1 hg1 k1 h1
 have geg1 := Nat.le_trans (Low.refl _).ge hg1
 refine l_alloc rfl rfl zero65 ?_
 intro g2 w2 hg2 k2 h2
 have lt_g1_g2 := Nat.lt_of_lt_of_le (heap_lt k1) hg2
 have geg2 := Nat.le_trans h1.ge hg2
 have kg1_2 := h2.blk k1
 refine l_end (e_fresh z.p2 ?_)
 intro a3 z3 m3
 have s1_3 := m3 _ _ ((At.hit z rfl).n1)
 have s2_3 := m3 _ _ (At.hit z.put rfl)
 have low3 := (h1.trans h2)
 clear m3
 refine e_then (c_seq (c_region (l_alloc rfl rfl zero65 ?_)))
 intro g3 w4 hg4 k4 h4
 have lt_g1_g3 := Nat.lt_of_lt_of_le (heap_lt kg1_2) hg4
 have lt_g2_g3 := Nat.lt_of_lt_of_le (heap_lt k2) hg4
 have geg3 := Nat.le_trans low3.ge hg4
 have kg1_4 := h4.blk kg1_2
 have kg2_4 := h4.blk k2
 refine l_end (e_fresh z3.put ?_)
 intro a5 z5 m5
 have s1_5 := m5 _ _ (s1_3.n1)
 have s2_5 := m5 _ _ (s2_3.n1)
 have s3_5 := m5 _ _ (At.hit z3 rfl)
 have low5 := (low3.trans h4)
 clear m5
 refine e_then (c_seq (c_seq (c_region ?_)))
 refine l_q rfl (q_fld 0 rfl (by kernel_rfl) s1_5.ev ?_)
 refine l_q rfl (q_cell (.int .i64 2) rfl Tryz.underlying3 (At.hit z5 rfl).ev (fun _ e => by rw [e]; exact (cells_at kg1_4 0).trans rfl) ?_)
 refine l_q rfl (q_neq true rfl (At.hit z5.put rfl).ev rfl (decide_eq_true (by omega)) ?_)
 refine l_q rfl (q_move _ _ rfl (At.hit z5.p2 rfl).ev ?_)
 refine l_qg (wanted_is (j := 3) (d := 12) (b := true) rfl rfl (At.hit z5.p3 rfl) rfl) (q_fld 0 rfl (by kernel_rfl) (s1_5.n4).ev ?_)
 refine l_qg (wanted_is (j := 3) (d := 12) (b := true) rfl rfl ((At.hit z5.p3 rfl).n1) rfl) (q_cell (.int .i64 2) rfl Tryz.underlying3 (At.hit z5.p4 rfl).ev (fun _ e => by rw [e]; exact (cells_at kg1_4 0).trans rfl) ?_)
 refine l_qg (wanted_is (j := 3) (d := 12) (b := true) rfl rfl ((At.hit z5.p3 rfl).n2) rfl) (q_neq false rfl (At.hit z5.p5 rfl).ev rfl (decide_eq_false (by omega)) ?_)
 refine l_q rfl (q_pick (b := true) (.bool false) rfl ((At.hit z5.p3 rfl).n3).ev (At.hit z5.p6 rfl).ev ?_)
 refine l_fresh z5.p8 ?_
 intro a6 z6 m6
 have s1_6 := m6 _ _ (s1_5.n8)
 have s2_6 := m6 _ _ (s2_5.n8)
 have s3_6 := m6 _ _ (s3_5.n8)
 have s16_6 := m6 _ _ (At.hit z5.p7 rfl)
 clear m6
 refine l_q rfl (q_move _ _ rfl s16_6.ev ?_)
 refine l_qg (wanted_is (j := 8) (d := 17) (b := false) rfl rfl (At.hit z6 rfl) rfl) (q_fld 1 rfl (by kernel_rfl) (s1_6.n1).ev ?_)
 refine l_qg (wanted_is (j := 8) (d := 17) (b := false) rfl rfl ((At.hit z6 rfl).n1) rfl) (q_cell (.int .i64 ((K : Nat) : Int)) rfl Tryz.underlying3 (At.hit z6.put rfl).ev (fun _ e => by rw [e]; exact (cells_at kg1_4 1).trans rfl) ?_)
 refine l_qg (wanted_is (j := 8) (d := 17) (b := false) rfl rfl ((At.hit z6 rfl).n2) rfl) (q_lss false rfl (At.hit z6.p2 rfl).ev rfl (decide_eq_false (by omega)) ?_)
 refine l_q rfl (q_pick (b := false) (.bool false) rfl ((At.hit z6 rfl).n3).ev (At.hit z6.p3 rfl).ev ?_)
 refine l_q rfl (q_move _ _ rfl (At.hit z6.p4 rfl).ev ?_)
 refine l_qg (wanted_is (j := 13) (d := 22) (b := false) rfl rfl (At.hit z6.p5 rfl) rfl) (q_fld 1 rfl (by kernel_rfl) (s1_6.n6).ev ?_)
 refine l_qg (wanted_is (j := 13) (d := 22) (b := false) rfl rfl ((At.hit z6.p5 rfl).n1) rfl) (q_cell (.int .i64 ((K : Nat) : Int)) rfl Tryz.underlying3 (At.hit z6.p6 rfl).ev (fun _ e => by rw [e]; exact (cells_at kg1_4 1).trans rfl) ?_)
 refine l_fresh z6.p8 ?_
 intro a7 z7 m7
 have s1_7 := m7 _ _ (s1_6.n8)
 have s2_7 := m7 _ _ (s2_6.n8)
 have s3_7 := m7 _ _ (s3_6.n8)
 have s22_7 := m7 _ _ ((At.hit z6.p5 rfl).n2)
 have s24_7 := m7 _ _ (At.hit z6.p7 rfl)
 clear m7
 refine l_qg (wanted_is (j := 13) (d := 22) (b := false) rfl rfl s22_7 rfl) (q_gtr false rfl s24_7.ev rfl (decide_eq_false (by omega)) ?_)
 refine l_q rfl (q_pick (b := false) (.bool false) rfl (s22_7.n1).ev (At.hit z7 rfl).ev ?_)
 refine l_q rfl (q_move _ _ rfl (At.hit z7.put rfl).ev ?_)
 refine l_qg (wanted_is (j := 18) (d := 27) (b := false) rfl rfl (At.hit z7.p2 rfl) rfl) (q_fld 2 rfl (by kernel_rfl) (s1_7.n3).ev ?_)
 refine l_qg (wanted_is (j := 18) (d := 27) (b := false) rfl rfl ((At.hit z7.p2 rfl).n1) rfl) (q_cell (.int .i64 ((B : Nat) : Int)) rfl Tryz.underlying3 (At.hit z7.p3 rfl).ev (fun _ e => by rw [e]; exact (cells_at kg1_4 2).trans rfl) ?_)
 refine l_qg (wanted_is (j := 18) (d := 27) (b := false) rfl rfl ((At.hit z7.p2 rfl).n2) rfl) (q_lss false rfl (At.hit z7.p4 rfl).ev rfl (decide_eq_false (by omega)) ?_)
 refine l_q rfl (q_pick (b := false) (.bool false) rfl ((At.hit z7.p2 rfl).n3).ev (At.hit z7.p5 rfl).ev ?_)
 refine l_q rfl (q_move _ _ rfl (At.hit z7.p6 rfl).ev ?_)
 refine l_fresh z7.p8 ?_
 intro a8 z8 m8
 have s1_8 := m8 _ _ (s1_7.n8)
 have s2_8 := m8 _ _ (s2_7.n8)
 have s3_8 := m8 _ _ (s3_7.n8)
 have s32_8 := m8 _ _ (At.hit z7.p7 rfl)
 clear m8
 refine l_qg (wanted_is (j := 23) (d := 32) (b := false) rfl rfl s32_8 rfl) (q_fld 2 rfl (by kernel_rfl) s1_8.ev ?_)
 refine l_qg (wanted_is (j := 23) (d := 32) (b := false) rfl rfl (s32_8.n1) rfl) (q_cell (.int .i64 ((B : Nat) : Int)) rfl Tryz.underlying3 (At.hit z8 rfl).ev (fun _ e => by rw [e]; exact (cells_at kg1_4 2).trans rfl) ?_)
 refine l_qg (wanted_is (j := 23) (d := 32) (b := false) rfl rfl (s32_8.n2) rfl) (q_gtr false rfl (At.hit z8.put rfl).ev rfl (decide_eq_false (by omega)) ?_)
 refine l_q rfl (q_pick (b := false) (.bool false) rfl (s32_8.n3).ev (At.hit z8.p2 rfl).ev ?_)
 refine l_end (e_fresh z8.p4 ?_)
 intro a9 z9 m9
 have s1_9 := m9 _ _ (s1_8.n4)
 have s2_9 := m9 _ _ (s2_8.n4)
 have s3_9 := m9 _ _ (s3_8.n4)
 have s36_9 := m9 _ _ (At.hit z8.p3 rfl)
 clear m9
 refine e_then (c_false s36_9 ?_)
 refine wp_skip (e_then (c_seq (c_region (l_alloc rfl rfl zero90 ?_))))
 intro g4 w10 hg10 k10 h10
 have lt_g1_g4 := Nat.lt_of_lt_of_le (heap_lt kg1_4) hg10
 have lt_g2_g4 := Nat.lt_of_lt_of_le (heap_lt kg2_4) hg10
 have lt_g3_g4 := Nat.lt_of_lt_of_le (heap_lt k4) hg10
 have geg4 := Nat.le_trans low5.ge hg10
 have kg1_10 := h10.blk kg1_4
 have kg2_10 := h10.blk kg2_4
 have kg3_10 := h10.blk k4
 refine l_end (e_fresh z9.put ?_)
 intro a11 z11 m11
 have s1_11 := m11 _ _ (s1_9.n1)
 have s2_11 := m11 _ _ (s2_9.n1)
 have s3_11 := m11 _ _ (s3_9.n1)
 have s4_11 := m11 _ _ (At.hit z9 rfl)
 have low11 := (low5.trans h10)
 clear m11
 refine e_then (c_seq (c_region ?_))
 refine l_q rfl (q_fld 1 rfl (by kernel_rfl) s1_11.ev ?_)
 refine l_q rfl (q_cell (.int .i64 ((K : Nat) : Int)) rfl Tryz.underlying3 (At.hit z11 rfl).ev (fun _ e => by rw [e]; exact (cells_at kg1_10 1).trans rfl) ?_)
 refine l_q rfl (q_add (((K + 5 : Nat) : Int)) rfl (At.hit z11.put rfl).ev rfl (i64_is (by omega) (by omega) (by omega)) ?_)
 refine l_q rfl (q_assign _ _ rfl (At.hit z11.p2 rfl).ev ?_)
 refine l_end (e_fresh z11.p4 ?_)
 intro a12 z12 m12
 have s1_12 := m12 _ _ (s1_11.n4)
 have s2_12 := m12 _ _ (s2_11.n4)
 have s3_12 := m12 _ _ (s3_11.n4)
 have s4_12 := m12 _ _ (s4_11.n4)
 have s5_12 := m12 _ _ (At.hit z11.p3 rfl)
 clear m12
 refine e_then (c_seq (c_region ?_))
 refine l_q rfl (q_move _ _ rfl s5_12.ev ?_)
 refine l_q rfl (q_add (((K + 20 : Nat) : Int)) rfl (At.hit z12 rfl).ev rfl (i64_is (by omega) (by omega) (by omega)) ?_)
 refine l_q rfl (q_fld 2 rfl (by kernel_rfl) (s1_12.n2).ev ?_)
 refine l_q rfl (q_cell (.int .i64 ((B : Nat) : Int)) rfl Tryz.underlying3 (At.hit z12.p2 rfl).ev (fun _ e => by rw [e]; exact (cells_at kg1_10 2).trans rfl) ?_)
 refine l_q rfl (q_conv _ rfl (At.hit z12.p3 rfl).ev Tryz.underlying3 Tryz.underlying79 rfl ?_)
 refine l_q rfl (q_shl (IntKind.u32.wrap (1 * 2 ^ min (IntKind.u64.wrap ((B : Nat) : Int) : Int).toNat 32)) rfl rfl (At.hit z12.p4 rfl).ev (by first | omega | exact u64_nonneg _) rfl ?_)
 refine l_q rfl (q_idx (j := K + 20) rfl Tryz.underlying90 sz64 (s4_12.n6).ev ((At.hit z12.put rfl).n4).ev (by omega) ?_)
 refine l_cell (j := (K + 20)) (v := .int .u32 (IntKind.u32.wrap (1 * 2 ^ min (IntKind.u64.wrap ((B : Nat) : Int) : Int).toNat 32))) rfl rfl rfl sz64 (At.hit z12.p6 rfl).ev ((At.hit z12.p5 rfl).n1).ev rfl k10 (by rw [(nums_size _ _).trans (List.length_replicate)]; omega) ?_
 intro w13 k13 u13
 rw [nums_put] at k13
 have kg1_13 := u13.blk kg1_10 (by omega)
 have kg2_13 := u13.blk kg2_10 (by omega)
 have kg3_13 := u13.blk kg3_10 (by omega)
 refine l_end (e_fresh z12.p7 ?_)
 intro a14 z14 m14
 have s1_14 := m14 _ _ (s1_12.n7)
 have s2_14 := m14 _ _ (s2_12.n7)
 have s3_14 := m14 _ _ (s3_12.n7)
 have s4_14 := m14 _ _ (s4_12.n7)
 have s5_14 := m14 _ _ (s5_12.n7)
 have low14 := (low11.upd u13 geg4)
 clear m14
 refine e_then (c_seq (c_seq (c_region ?_)))
 refine l_q rfl (q_fld 0 rfl (by kernel_rfl) s1_14.ev ?_)
 refine l_q rfl (q_cell (.int .i64 2) rfl Tryz.underlying3 (At.hit z14 rfl).ev (fun _ e => by rw [e]; exact (cells_at kg1_13 0).trans rfl) ?_)
 refine l_q rfl (q_eql true rfl (At.hit z14.put rfl).ev rfl (decide_eq_true (by omega)) ?_)
 refine l_end (e_fresh z14.p3 ?_)
 intro a15 z15 m15
 have s1_15 := m15 _ _ (s1_14.n3)
 have s2_15 := m15 _ _ (s2_14.n3)
 have s3_15 := m15 _ _ (s3_14.n3)
 have s4_15 := m15 _ _ (s4_14.n3)
 have s5_15 := m15 _ _ (s5_14.n3)
 have s50_15 := m15 _ _ (At.hit z14.p2 rfl)
 clear m15
 refine e_then (c_true s50_15 ?_)
 refine c_seq (c_region ?_)
 refine l_q rfl (q_move _ _ rfl s5_15.ev ?_)
 refine l_q rfl (q_add (((K + 6 : Nat) : Int)) rfl (At.hit z15 rfl).ev rfl (i64_is (by omega) (by omega) (by omega)) ?_)
 refine l_q rfl (q_fld 2 rfl (by kernel_rfl) (s1_15.n2).ev ?_)
 refine l_q rfl (q_cell (.int .i64 ((B : Nat) : Int)) rfl Tryz.underlying3 (At.hit z15.p2 rfl).ev (fun _ e => by rw [e]; exact (cells_at kg1_13 2).trans rfl) ?_)
 refine l_q rfl (q_add (((B + 31 : Nat) : Int)) rfl rfl (At.hit z15.p3 rfl).ev (i64_is (by omega) (by omega) (by omega)) ?_)
 refine l_q rfl (q_rem (m := B + 31) (n := 32) (by omega) rfl (At.hit z15.p4 rfl).ev rfl ?_)
 refine l_q rfl (q_conv _ rfl (At.hit z15.p5 rfl).ev Tryz.underlying3 Tryz.underlying79 rfl ?_)
 refine l_q rfl (q_shl (IntKind.u32.wrap (1 * 2 ^ min (IntKind.u64.wrap ((((B + 31) % 32) : Nat) : Int) : Int).toNat 32)) rfl rfl (At.hit z15.p6 rfl).ev (by first | omega | exact u64_nonneg _) rfl ?_)
 refine l_fresh z15.p8 ?_
 intro a16 z16 m16
 have s1_16 := m16 _ _ (s1_15.n8)
 have s2_16 := m16 _ _ (s2_15.n8)
 have s3_16 := m16 _ _ (s3_15.n8)
 have s4_16 := m16 _ _ (s4_15.n8)
 have s5_16 := m16 _ _ (s5_15.n8)
 have s52_16 := m16 _ _ ((At.hit z15.put rfl).n6)
 have s58_16 := m16 _ _ (At.hit z15.p7 rfl)
 clear m16
 refine l_q rfl (q_idx (j := K + 6) rfl Tryz.underlying90 sz64 s4_16.ev s52_16.ev (by omega) ?_)
 refine l_cell (j := (K + 6)) (v := .int .u32 (IntKind.u32.wrap (1 * 2 ^ min (IntKind.u64.wrap ((((B + 31) % 32) : Nat) : Int) : Int).toNat 32))) rfl rfl rfl sz64 (At.hit z16 rfl).ev (s58_16.n1).ev rfl k13 (by rw [(nums_size _ _).trans ((List.length_set ..).trans (List.length_replicate))]; omega) ?_
 intro w17 k17 u17
 rw [nums_put] at k17
 have kg1_17 := u17.blk kg1_13 (by omega)
 have kg2_17 := u17.blk kg2_13 (by omega)
 have kg3_17 := u17.blk kg3_13 (by omega)
 refine l_end (e_fresh z16.put ?_)
 intro a18 z18 m18
 have s1_18 := m18 _ _ (s1_16.n1)
 have s2_18 := m18 _ _ (s2_16.n1)
 have s3_18 := m18 _ _ (s3_16.n1)
 have s4_18 := m18 _ _ (s4_16.n1)
 have s5_18 := m18 _ _ (s5_16.n1)
 have low18 := (low14.upd u17 geg4)
 clear m18
 refine e_then (c_region ?_)
 refine l_q rfl (q_move _ _ rfl s5_18.ev ?_)
 refine l_q rfl (q_add (((K + 8 : Nat) : Int)) rfl (At.hit z18 rfl).ev rfl (i64_is (by omega) (by omega) (by omega)) ?_)
 refine l_q rfl (q_fld 2 rfl (by kernel_rfl) (s1_18.n2).ev ?_)
 refine l_q rfl (q_cell (.int .i64 ((B : Nat) : Int)) rfl Tryz.underlying3 (At.hit z18.p2 rfl).ev (fun _ e => by rw [e]; exact (cells_at kg1_17 2).trans rfl) ?_)
 refine l_q rfl (q_add (((B + 31 : Nat) : Int)) rfl rfl (At.hit z18.p3 rfl).ev (i64_is (by omega) (by omega) (by omega)) ?_)
 refine l_q rfl (q_rem (m := B + 31) (n := 32) (by omega) rfl (At.hit z18.p4 rfl).ev rfl ?_)
 refine l_q rfl (q_conv _ rfl (At.hit z18.p5 rfl).ev Tryz.underlying3 Tryz.underlying79 rfl ?_)
 refine l_q rfl (q_shl (IntKind.u32.wrap (1 * 2 ^ min (IntKind.u64.wrap ((((B + 31) % 32) : Nat) : Int) : Int).toNat 32)) rfl rfl (At.hit z18.p6 rfl).ev (by first | omega | exact u64_nonneg _) rfl ?_)
 refine l_fresh z18.p8 ?_
 intro a19 z19 m19
 have s2_19 := m19 _ _ (s2_18.n8)
 have s3_19 := m19 _ _ (s3_18.n8)
 have s4_19 := m19 _ _ (s4_18.n8)
 have s5_19 := m19 _ _ (s5_18.n8)
 have s61_19 := m19 _ _ ((At.hit z18.put rfl).n6)
 have s67_19 := m19 _ _ (At.hit z18.p7 rfl)
 clear m19
 refine l_q rfl (q_idx (j := K + 8) rfl Tryz.underlying90 sz64 s4_19.ev s61_19.ev (by omega) ?_)
 refine l_cell (j := (K + 8)) (v := .int .u32 (IntKind.u32.wrap (1 * 2 ^ min (IntKind.u64.wrap ((((B + 31) % 32) : Nat) : Int) : Int).toNat 32))) rfl rfl rfl sz64 (At.hit z19 rfl).ev (s67_19.n1).ev rfl k17 (by rw [(nums_size _ _).trans ((List.length_set ..).trans ((List.length_set ..).trans (List.length_replicate)))]; omega) ?_
 intro w20 k20 u20
 rw [nums_put] at k20
 have kg1_20 := u20.blk kg1_17 (by omega)
 have kg2_20 := u20.blk kg2_17 (by omega)
 have kg3_20 := u20.blk kg3_17 (by omega)
 refine l_end (e_fresh z19.put ?_)
 intro a21 z21 m21
 have s2_21 := m21 _ _ (s2_19.n1)
 have s3_21 := m21 _ _ (s3_19.n1)
 have s4_21 := m21 _ _ (s4_19.n1)
 have s5_21 := m21 _ _ (s5_19.n1)
 have low21 := (low18.upd u20 geg4)
 clear m21
 refine e_then (c_seq (c_seq (c_region ?_)))
 refine l_q rfl (q_move _ _ rfl s5_21.ev ?_)
 refine l_q rfl (q_add (((K + 21 : Nat) : Int)) rfl (At.hit z21 rfl).ev rfl (i64_is (by omega) (by omega) (by omega)) ?_)
 refine l_q rfl (q_assign _ _ rfl (At.hit z21.put rfl).ev ?_)
 refine l_end (e_fresh z21.p3 ?_)
 intro a22 z22 m22
 have s2_22 := m22 _ _ (s2_21.n3)
 have s3_22 := m22 _ _ (s3_21.n3)
 have s4_22 := m22 _ _ (s4_21.n3)
 have s5_22 := m22 _ _ (s5_21.n3)
 have s6_22 := m22 _ _ (At.hit z21.p2 rfl)
 clear m22
 refine e_then (wp_block (c_loop (64 - K) (fun k a w => Fr 164 a ∧ At a 2 (.pointer (some ⟨g2, 0, none⟩)) ∧ At a 3 (.pointer (some ⟨g3, 0, none⟩)) ∧ At a 4 (.pointer (some ⟨g4, 0, none⟩)) ∧ At a 5 (.int .i64 ((K + 5 : Nat) : Int)) ∧ At a 6 (.int .i64 ((k + K + 21 : Nat) : Int)) ∧ w.heap[g2]? = some (.cells (nums .u32 (List.replicate 80 0)) 65) ∧ w.heap[g3]? = some (.cells (nums .u32 (List.replicate 80 0)) 65) ∧ w.heap[g4]? = some (.cells (nums .u32 (up (beginR true K B) K (fun x => rotr x 1) k)) 90) ∧ Low w0 w) ?_ ?_ ?_))
 ·
  exact ⟨z22, s2_22, s3_22, s4_22, s5_22, (s6_22.same (congrArg (Value.int .i64) (by omega))), kg2_20, kg3_20, k20, low21⟩
 ·
  intro k a23 w23 hk23 h
  obtain ⟨z23, s2_23, s3_23, s4_23, s5_23, s6_23, kg2_23, kg3_23, kg4_23, low23⟩ := h
  clear k20 kg2_20 kg3_20 low21 s2_22 s3_22 s4_22 s5_22 s6_22 z22
  refine c_seq (c_seq (c_region ?_))
  refine l_q rfl (q_move _ _ rfl s6_23.ev ?_)
  refine l_q rfl (q_lss true rfl (At.hit z23 rfl).ev rfl (decide_eq_true (by omega)) ?_)
  refine l_end (e_fresh z23.p2 ?_)
  intro a24 z24 m24
  have s2_24 := m24 _ _ (s2_23.n2)
  have s3_24 := m24 _ _ (s3_23.n2)
  have s4_24 := m24 _ _ (s4_23.n2)
  have s5_24 := m24 _ _ (s5_23.n2)
  have s6_24 := m24 _ _ (s6_23.n2)
  have s72_24 := m24 _ _ (At.hit z23.put rfl)
  clear m24
  refine e_then (c_true s72_24 ?_)
  refine wp_skip (e_then (c_seq (wp_block (region_low_tail 22 hm (by kernel_rfl) ?_))))
  simp only [List.take_succ_cons, List.take_zero, List.drop_succ_cons, List.drop_zero]
  refine qs (q_move _ _ rfl s6_24.ev ?_)
  refine qs (q_move _ _ rfl (s6_24.n1).ev ?_)
  refine qs (q_sub (((k + K + 18 : Nat) : Int)) rfl (At.hit z24.put rfl).ev rfl (i64_is (by omega) (by omega) (by omega)) ?_)
  refine qs (q_idx (j := k + K + 18) rfl Tryz.underlying90 sz64 (s4_24.n3).ev (At.hit z24.p2 rfl).ev (by omega) ?_)
  refine qs (q_cell (.int .u32 ((up (beginR true K B) K (fun x => rotr x 1) k).getD (k + K + 18) 0)) rfl Tryz.underlying64 (At.hit z24.p3 rfl).ev (fun _ h => nums_cell (h.blk kg4_23) (k + K + 18) (by rw [(up_len _ K _ (beginR_len true K B) _)]; omega)) ?_)
  refine qs (q_move _ _ rfl (s6_24.n5).ev ?_)
  refine qs (q_sub (((k + K + 13 : Nat) : Int)) rfl (At.hit z24.p5 rfl).ev rfl (i64_is (by omega) (by omega) (by omega)) ?_)
  refine qs (q_idx (j := k + K + 13) rfl Tryz.underlying90 sz64 (s4_24.n7).ev (At.hit z24.p6 rfl).ev (by omega) ?_)
  refine q_fresh z24.p8 ?_
  intro a25 z25 m25
  have s2_25 := m25 _ _ (s2_24.n8)
  have s3_25 := m25 _ _ (s3_24.n8)
  have s4_25 := m25 _ _ (s4_24.n8)
  have s5_25 := m25 _ _ (s5_24.n8)
  have s6_25 := m25 _ _ (s6_24.n8)
  have s75_25 := m25 _ _ ((At.hit z24 rfl).n7)
  have s79_25 := m25 _ _ ((At.hit z24.p4 rfl).n3)
  have s82_25 := m25 _ _ (At.hit z24.p7 rfl)
  clear m25
  refine qs (q_cell (.int .u32 ((up (beginR true K B) K (fun x => rotr x 1) k).getD (k + K + 13) 0)) rfl Tryz.underlying64 s82_25.ev (fun _ h => nums_cell (h.blk kg4_23) (k + K + 13) (by rw [(up_len _ K _ (beginR_len true K B) _)]; omega)) ?_)
  refine qs (q_xor rfl (s79_25.n1).ev (At.hit z25 rfl).ev ?_)
  refine qs (q_move _ _ rfl (s6_25.n2).ev ?_)
  refine qs (q_sub (((k + K + 7 : Nat) : Int)) rfl (At.hit z25.p2 rfl).ev rfl (i64_is (by omega) (by omega) (by omega)) ?_)
  refine qs (q_idx (j := k + K + 7) rfl Tryz.underlying90 sz64 (s4_25.n4).ev (At.hit z25.p3 rfl).ev (by omega) ?_)
  refine qs (q_cell (.int .u32 ((up (beginR true K B) K (fun x => rotr x 1) k).getD (k + K + 7) 0)) rfl Tryz.underlying64 (At.hit z25.p4 rfl).ev (fun _ h => nums_cell (h.blk kg4_23) (k + K + 7) (by rw [(up_len _ K _ (beginR_len true K B) _)]; omega)) ?_)
  refine qs (q_xor rfl ((At.hit z25.put rfl).n4).ev (At.hit z25.p5 rfl).ev ?_)
  refine qs (q_move _ _ rfl (s6_25.n7).ev ?_)
  refine q_fresh z25.p8 ?_
  intro a26 z26 m26
  have s2_26 := m26 _ _ (s2_25.n8)
  have s3_26 := m26 _ _ (s3_25.n8)
  have s4_26 := m26 _ _ (s4_25.n8)
  have s5_26 := m26 _ _ (s5_25.n8)
  have s6_26 := m26 _ _ (s6_25.n8)
  have s75_26 := m26 _ _ (s75_25.n8)
  have s89_26 := m26 _ _ ((At.hit z25.p6 rfl).n1)
  have s90_26 := m26 _ _ (At.hit z25.p7 rfl)
  clear m26
  refine qs (q_sub (((k + K + 5 : Nat) : Int)) rfl s90_26.ev rfl (i64_is (by omega) (by omega) (by omega)) ?_)
  refine qs (q_idx (j := k + K + 5) rfl Tryz.underlying90 sz64 (s4_26.n1).ev (At.hit z26 rfl).ev (by omega) ?_)
  refine qs (q_cell (.int .u32 ((up (beginR true K B) K (fun x => rotr x 1) k).getD (k + K + 5) 0)) rfl Tryz.underlying64 (At.hit z26.put rfl).ev (fun _ h => nums_cell (h.blk kg4_23) (k + K + 5) (by rw [(up_len _ K _ (beginR_len true K B) _)]; omega)) ?_)
  refine qs (q_xor rfl (s89_26.n3).ev (At.hit z26.p2 rfl).ev ?_)
  refine qs (q_call (.int .u32 (rotr (Go.bits .xor .u32 (Go.bits .xor .u32 (Go.bits .xor .u32 ((up (beginR true K B) K (fun x => rotr x 1) k).getD (k + K + 18) 0) ((up (beginR true K B) K (fun x => rotr x 1) k).getD (k + K + 13) 0)) ((up (beginR true K B) K (fun x => rotr x 1) k).getD (k + K + 7) 0)) ((up (beginR true K B) K (fun x => rotr x 1) k).getD (k + K + 5) 0)) 1)) rfl rfl Tryz.func84 rfl (args2 rfl (At.hit z26.p3 rfl).ev rfl) (fun _ h => (RotR.calls (Go.bits .xor .u32 (Go.bits .xor .u32 (Go.bits .xor .u32 ((up (beginR true K B) K (fun x => rotr x 1) k).getD (k + K + 18) 0) ((up (beginR true K B) K (fun x => rotr x 1) k).getD (k + K + 13) 0)) ((up (beginR true K B) K (fun x => rotr x 1) k).getD (k + K + 7) 0)) ((up (beginR true K B) K (fun x => rotr x 1) k).getD (k + K + 5) 0)) 1 (by omega) _).mono fun _ _ ⟨e, k⟩ => ⟨e, h.trans k⟩) ?_)
  refine qs (q_idx (j := k + K + 21) rfl Tryz.underlying90 sz64 (s4_26.n5).ev (s75_26.n5).ev (by omega) ?_)
  refine qz ?_
  intro w27 h27
  have kg2_27 := h27.blk kg2_23
  have kg3_27 := h27.blk kg3_23
  have kg4_27 := h27.blk kg4_23
  refine l_cell (j := (k + K + 21)) (v := .int .u32 (rotr (Go.bits .xor .u32 (Go.bits .xor .u32 (Go.bits .xor .u32 ((up (beginR true K B) K (fun x => rotr x 1) k).getD (k + K + 18) 0) ((up (beginR true K B) K (fun x => rotr x 1) k).getD (k + K + 13) 0)) ((up (beginR true K B) K (fun x => rotr x 1) k).getD (k + K + 7) 0)) ((up (beginR true K B) K (fun x => rotr x 1) k).getD (k + K + 5) 0)) 1)) rfl rfl rfl sz64 (At.hit z26.p5 rfl).ev ((At.hit z26.p4 rfl).n1).ev rfl kg4_27 (by rw [(nums_size _ _).trans (up_len _ K _ (beginR_len true K B) _)]; omega) ?_
  intro w28 k28 u28
  rw [nums_put] at k28
  have kg2_28 := u28.blk kg2_27 (by omega)
  have kg3_28 := u28.blk kg3_27 (by omega)
  refine l_end (e_fresh z26.p6 ?_)
  intro a29 z29 m29
  have s2_29 := m29 _ _ (s2_26.n6)
  have s3_29 := m29 _ _ (s3_26.n6)
  have s4_29 := m29 _ _ (s4_26.n6)
  have s5_29 := m29 _ _ (s5_26.n6)
  have s6_29 := m29 _ _ (s6_26.n6)
  have low29 := ((low23.trans h27).upd u28 geg4)
  clear m29
  refine e_in (e_then (c_region ?_))
  refine l_q rfl (q_move _ _ rfl s6_29.ev ?_)
  refine l_q rfl (q_add (((k + K + 22 : Nat) : Int)) rfl (At.hit z29 rfl).ev rfl (i64_is (by omega) (by omega) (by omega)) ?_)
  refine l_q rfl (q_assign _ _ rfl (At.hit z29.put rfl).ev ?_)
  refine l_end (e_fresh z29.p3 ?_)
  intro a30 z30 m30
  have s2_30 := m30 _ _ (s2_29.n3)
  have s3_30 := m30 _ _ (s3_29.n3)
  have s4_30 := m30 _ _ (s4_29.n3)
  have s5_30 := m30 _ _ (s5_29.n3)
  have s6_30 := m30 _ _ (At.hit z29.p2 rfl)
  clear m30
  exact ⟨z30, s2_30, s3_30, s4_30, s5_30, (s6_30.same (congrArg (Value.int .i64) (by omega))), kg2_28, kg3_28, k28, low29⟩
 ·
  intro a31 w31 h
  obtain ⟨z31, s2_31, s3_31, s4_31, s5_31, s6_31, kg2_31, kg3_31, kg4_31, low31⟩ := h
  clear k20 kg2_20 kg3_20 low21 s2_22 s3_22 s4_22 s5_22 s6_22 z22
  have s6_31 := s6_31.same (congrArg (Value.int .i64) (show _ = (85 : Int) by omega))
  refine c_seq (c_seq (c_region ?_))
  refine l_q rfl (q_move _ _ rfl s6_31.ev ?_)
  refine l_q rfl (q_lss false rfl (At.hit z31 rfl).ev rfl (decide_eq_false (by omega)) ?_)
  refine l_end (e_fresh z31.p2 ?_)
  intro a32 z32 m32
  have s2_32 := m32 _ _ (s2_31.n2)
  have s3_32 := m32 _ _ (s3_31.n2)
  have s4_32 := m32 _ _ (s4_31.n2)
  have s5_32 := m32 _ _ (s5_31.n2)
  have s6_32 := m32 _ _ (s6_31.n2)
  have s72_32 := m32 _ _ (At.hit z31.put rfl)
  clear m32
  refine e_then (c_false s72_32 ?_)
  refine wp_exit (x_then (x_then (in_exit (e_then (c_seq (c_seq (c_region ?_)))))))
  refine l_q rfl (q_move _ _ rfl s5_32.ev ?_)
  refine l_q rfl (q_add (((K + 20 : Nat) : Int)) rfl (At.hit z32 rfl).ev rfl (i64_is (by omega) (by omega) (by omega)) ?_)
  refine l_q rfl (q_assign _ _ rfl (At.hit z32.put rfl).ev ?_)
  refine l_end (e_fresh z32.p3 ?_)
  intro a33 z33 m33
  have s2_33 := m33 _ _ (s2_32.n3)
  have s3_33 := m33 _ _ (s3_32.n3)
  have s4_33 := m33 _ _ (s4_32.n3)
  have s7_33 := m33 _ _ (At.hit z32.p2 rfl)
  clear m33
  refine e_then (wp_block (c_loop (K + 5) (fun k a w => Fr 164 a ∧ At a 2 (.pointer (some ⟨g2, 0, none⟩)) ∧ At a 3 (.pointer (some ⟨g3, 0, none⟩)) ∧ At a 4 (.pointer (some ⟨g4, 0, none⟩)) ∧ At a 7 (.int .i64 (((K : Nat) : Int) + 20 - ((k : Nat) : Int))) ∧ w.heap[g2]? = some (.cells (nums .u32 (List.replicate 80 0)) 65) ∧ w.heap[g3]? = some (.cells (nums .u32 (List.replicate 80 0)) 65) ∧ w.heap[g4]? = some (.cells (nums .u32 (dnR (up (beginR true K B) K (fun x => rotr x 1) (64 - K)) K k)) 90) ∧ Low w0 w) ?_ ?_ ?_))
  ·
   exact ⟨z33, s2_33, s3_33, s4_33, (s7_33.same (congrArg (Value.int .i64) (by omega))), kg2_31, kg3_31, kg4_31, low31⟩
  ·
   intro k a34 w34 hk34 h
   obtain ⟨z34, s2_34, s3_34, s4_34, s7_34, kg2_34, kg3_34, kg4_34, low34⟩ := h
   clear kg2_31 kg3_31 kg4_31 low31 s2_33 s3_33 s4_33 s7_33 z33
   refine c_seq (c_seq (c_region ?_))
   refine l_q rfl (q_move _ _ rfl s7_34.ev ?_)
   refine l_q rfl (q_geq true rfl (At.hit z34 rfl).ev rfl (decide_eq_true (by omega)) ?_)
   refine l_end (e_fresh z34.p2 ?_)
   intro a35 z35 m35
   have s2_35 := m35 _ _ (s2_34.n2)
   have s3_35 := m35 _ _ (s3_34.n2)
   have s4_35 := m35 _ _ (s4_34.n2)
   have s7_35 := m35 _ _ (s7_34.n2)
   have s100_35 := m35 _ _ (At.hit z34.put rfl)
   clear m35
   refine e_then (c_true s100_35 ?_)
   refine wp_skip (e_then (c_seq (wp_block (region_low_tail 22 hm (by kernel_rfl) ?_))))
   simp only [List.take_succ_cons, List.take_zero, List.drop_succ_cons, List.drop_zero]
   refine qs (q_move _ _ rfl s7_35.ev ?_)
   refine qs (q_sub ((((K : Nat) : Int) + 4 - ((k : Nat) : Int))) rfl (At.hit z35 rfl).ev rfl (i64_is (by omega) (by omega) (by omega)) ?_)
   refine qs (q_move _ _ rfl (s7_35.n2).ev ?_)
   refine qs (q_idx (j := (K + 20) - k) rfl Tryz.underlying90 sz64 (s4_35.n3).ev ((At.hit z35.p2 rfl).same (congrArg (Value.int .i64) (show ((((K : Nat) : Int) + 20 - ((k : Nat) : Int)) : Int) = (((K + 20) - k : Nat) : Int) by omega))).ev (by omega) ?_)
   refine qs (q_cell (.int .u32 ((dnR (up (beginR true K B) K (fun x => rotr x 1) (64 - K)) K k).getD ((K + 20) - k) 0)) rfl Tryz.underlying64 (At.hit z35.p3 rfl).ev (fun _ h => nums_cell (h.blk kg4_34) ((K + 20) - k) (by rw [(dnR_len _ K (up_len _ K _ (beginR_len true K B) _) _)]; omega)) ?_)
   refine qs (q_call (.int .u32 (rotr ((dnR (up (beginR true K B) K (fun x => rotr x 1) (64 - K)) K k).getD ((K + 20) - k) 0) 31)) rfl rfl Tryz.func84 rfl (args2 rfl (At.hit z35.p4 rfl).ev rfl) (fun _ h => (RotR.calls ((dnR (up (beginR true K B) K (fun x => rotr x 1) (64 - K)) K k).getD ((K + 20) - k) 0) 31 (by omega) _).mono fun _ _ ⟨e, k⟩ => ⟨e, h.trans k⟩) ?_)
   refine qs (q_move _ _ rfl (s7_35.n6).ev ?_)
   refine qs (q_sub ((((K : Nat) : Int) + 17 - ((k : Nat) : Int))) rfl (At.hit z35.p6 rfl).ev rfl (i64_is (by omega) (by omega) (by omega)) ?_)
   refine q_fresh z35.p8 ?_
   intro a36 z36 m36
   have s2_36 := m36 _ _ (s2_35.n8)
   have s3_36 := m36 _ _ (s3_35.n8)
   have s4_36 := m36 _ _ (s4_35.n8)
   have s7_36 := m36 _ _ (s7_35.n8)
   have s104_36 := m36 _ _ ((At.hit z35.put rfl).n6)
   have s108_36 := m36 _ _ ((At.hit z35.p5 rfl).n2)
   have s110_36 := m36 _ _ (At.hit z35.p7 rfl)
   clear m36
   refine qs (q_idx (j := (K + 17) - k) rfl Tryz.underlying90 sz64 s4_36.ev (s110_36.same (congrArg (Value.int .i64) (show ((((K : Nat) : Int) + 17 - ((k : Nat) : Int)) : Int) = (((K + 17) - k : Nat) : Int) by omega))).ev (by omega) ?_)
   refine qs (q_cell (.int .u32 ((dnR (up (beginR true K B) K (fun x => rotr x 1) (64 - K)) K k).getD ((K + 17) - k) 0)) rfl Tryz.underlying64 (At.hit z36 rfl).ev (fun _ h => nums_cell (h.blk kg4_34) ((K + 17) - k) (by rw [(dnR_len _ K (up_len _ K _ (beginR_len true K B) _) _)]; omega)) ?_)
   refine qs (q_xor rfl (s108_36.n2).ev (At.hit z36.put rfl).ev ?_)
   refine qs (q_move _ _ rfl (s7_36.n3).ev ?_)
   refine qs (q_sub ((((K : Nat) : Int) + 12 - ((k : Nat) : Int))) rfl (At.hit z36.p3 rfl).ev rfl (i64_is (by omega) (by omega) (by omega)) ?_)
   refine qs (q_idx (j := (K + 12) - k) rfl Tryz.underlying90 sz64 (s4_36.n5).ev ((At.hit z36.p4 rfl).same (congrArg (Value.int .i64) (show ((((K : Nat) : Int) + 12 - ((k : Nat) : Int)) : Int) = (((K + 12) - k : Nat) : Int) by omega))).ev (by omega) ?_)
   refine qs (q_cell (.int .u32 ((dnR (up (beginR true K B) K (fun x => rotr x 1) (64 - K)) K k).getD ((K + 12) - k) 0)) rfl Tryz.underlying64 (At.hit z36.p5 rfl).ev (fun _ h => nums_cell (h.blk kg4_34) ((K + 12) - k) (by rw [(dnR_len _ K (up_len _ K _ (beginR_len true K B) _) _)]; omega)) ?_)
   refine qs (q_xor rfl ((At.hit z36.p2 rfl).n4).ev (At.hit z36.p6 rfl).ev ?_)
   refine q_fresh z36.p8 ?_
   intro a37 z37 m37
   have s2_37 := m37 _ _ (s2_36.n8)
   have s3_37 := m37 _ _ (s3_36.n8)
   have s4_37 := m37 _ _ (s4_36.n8)
   have s7_37 := m37 _ _ (s7_36.n8)
   have s104_37 := m37 _ _ (s104_36.n8)
   have s118_37 := m37 _ _ (At.hit z36.p7 rfl)
   clear m37
   refine qs (q_move _ _ rfl s7_37.ev ?_)
   refine qs (q_sub ((((K : Nat) : Int) + 6 - ((k : Nat) : Int))) rfl (At.hit z37 rfl).ev rfl (i64_is (by omega) (by omega) (by omega)) ?_)
   refine qs (q_idx (j := (K + 6) - k) rfl Tryz.underlying90 sz64 (s4_37.n2).ev ((At.hit z37.put rfl).same (congrArg (Value.int .i64) (show ((((K : Nat) : Int) + 6 - ((k : Nat) : Int)) : Int) = (((K + 6) - k : Nat) : Int) by omega))).ev (by omega) ?_)
   refine qs (q_cell (.int .u32 ((dnR (up (beginR true K B) K (fun x => rotr x 1) (64 - K)) K k).getD ((K + 6) - k) 0)) rfl Tryz.underlying64 (At.hit z37.p2 rfl).ev (fun _ h => nums_cell (h.blk kg4_34) ((K + 6) - k) (by rw [(dnR_len _ K (up_len _ K _ (beginR_len true K B) _) _)]; omega)) ?_)
   refine qs (q_xor rfl (s118_37.n4).ev (At.hit z37.p3 rfl).ev ?_)
   refine qs (q_idx (j := (K + 4) - k) rfl Tryz.underlying90 sz64 (s4_37.n5).ev ((s104_37.n5).same (congrArg (Value.int .i64) (show ((((K : Nat) : Int) + 4 - ((k : Nat) : Int)) : Int) = (((K + 4) - k : Nat) : Int) by omega))).ev (by omega) ?_)
   refine qz ?_
   intro w38 h38
   have kg2_38 := h38.blk kg2_34
   have kg3_38 := h38.blk kg3_34
   have kg4_38 := h38.blk kg4_34
   refine l_cell (j := ((K + 4) - k)) (v := .int .u32 (Go.bits .xor .u32 (Go.bits .xor .u32 (Go.bits .xor .u32 (rotr ((dnR (up (beginR true K B) K (fun x => rotr x 1) (64 - K)) K k).getD ((K + 20) - k) 0) 31) ((dnR (up (beginR true K B) K (fun x => rotr x 1) (64 - K)) K k).getD ((K + 17) - k) 0)) ((dnR (up (beginR true K B) K (fun x => rotr x 1) (64 - K)) K k).getD ((K + 12) - k) 0)) ((dnR (up (beginR true K B) K (fun x => rotr x 1) (64 - K)) K k).getD ((K + 6) - k) 0))) rfl rfl rfl sz64 (At.hit z37.p5 rfl).ev ((At.hit z37.p4 rfl).n1).ev rfl kg4_38 (by rw [(nums_size _ _).trans (dnR_len _ K (up_len _ K _ (beginR_len true K B) _) _)]; omega) ?_
   intro w39 k39 u39
   rw [nums_put] at k39
   have kg2_39 := u39.blk kg2_38 (by omega)
   have kg3_39 := u39.blk kg3_38 (by omega)
   refine l_end (e_fresh z37.p6 ?_)
   intro a40 z40 m40
   have s2_40 := m40 _ _ (s2_37.n6)
   have s3_40 := m40 _ _ (s3_37.n6)
   have s4_40 := m40 _ _ (s4_37.n6)
   have s7_40 := m40 _ _ (s7_37.n6)
   have low40 := ((low34.trans h38).upd u39 geg4)
   clear m40
   refine e_in (e_then (c_region ?_))
   refine l_q rfl (q_move _ _ rfl s7_40.ev ?_)
   refine l_q rfl (q_sub ((((K : Nat) : Int) + 19 - ((k : Nat) : Int))) rfl (At.hit z40 rfl).ev rfl (i64_is (by omega) (by omega) (by omega)) ?_)
   refine l_q rfl (q_assign _ _ rfl (At.hit z40.put rfl).ev ?_)
   refine l_end (e_fresh z40.p3 ?_)
   intro a41 z41 m41
   have s2_41 := m41 _ _ (s2_40.n3)
   have s3_41 := m41 _ _ (s3_40.n3)
   have s4_41 := m41 _ _ (s4_40.n3)
   have s7_41 := m41 _ _ (At.hit z40.p2 rfl)
   clear m41
   exact ⟨z41, s2_41, s3_41, s4_41, (s7_41.same (congrArg (Value.int .i64) (by omega))), kg2_39, kg3_39, k39, low40⟩
  ·
   intro a42 w42 h
   obtain ⟨z42, s2_42, s3_42, s4_42, s7_42, kg2_42, kg3_42, kg4_42, low42⟩ := h
   clear kg2_31 kg3_31 kg4_31 low31 s2_33 s3_33 s4_33 s7_33 z33
   have s7_42 := s7_42.same (congrArg (Value.int .i64) (show _ = (15 : Int) by omega))
   refine c_seq (c_seq (c_region ?_))
   refine l_q rfl (q_move _ _ rfl s7_42.ev ?_)
   refine l_q rfl (q_geq false rfl (At.hit z42 rfl).ev rfl (decide_eq_false (by omega)) ?_)
   refine l_end (e_fresh z42.p2 ?_)
   intro a43 z43 m43
   have s2_43 := m43 _ _ (s2_42.n2)
   have s3_43 := m43 _ _ (s3_42.n2)
   have s4_43 := m43 _ _ (s4_42.n2)
   have s7_43 := m43 _ _ (s7_42.n2)
   have s100_43 := m43 _ _ (At.hit z42.put rfl)
   clear m43
   refine e_then (c_false s100_43 ?_)
   refine wp_exit (x_then (x_then (in_exit (e_then (c_seq (c_seq (c_region ?_)))))))
   refine l_q rfl (q_assign _ _ rfl rfl ?_)
   refine l_end (e_fresh z43.put ?_)
   intro a44 z44 m44
   have s2_44 := m44 _ _ (s2_43.n1)
   have s3_44 := m44 _ _ (s3_43.n1)
   have s4_44 := m44 _ _ (s4_43.n1)
   have s8_44 := m44 _ _ (At.hit z43 rfl)
   clear m44
   refine e_then (wp_block (c_loop 80 (fun t a w => Fr 164 a ∧ At a 2 (.pointer (some ⟨g2, 0, none⟩)) ∧ At a 3 (.pointer (some ⟨g3, 0, none⟩)) ∧ At a 4 (.pointer (some ⟨g4, 0, none⟩)) ∧ At a 8 (.int .i64 ((t : Nat) : Int)) ∧ w.heap[g2]? = some (.cells (nums .u32 (List.replicate 80 0)) 65) ∧ w.heap[g3]? = some (.cells (nums .u32 (diffR (rowR true K B) t)) 65) ∧ w.heap[g4]? = some (.cells (nums .u32 (dnR (up (beginR true K B) K (fun x => rotr x 1) (64 - K)) K (K + 5))) 90) ∧ Low w0 w) ?_ ?_ ?_))
   ·
    exact ⟨z44, s2_44, s3_44, s4_44, s8_44, kg2_42, kg3_42, kg4_42, low42⟩
   ·
    intro t a45 w45 hk45 h
    obtain ⟨z45, s2_45, s3_45, s4_45, s8_45, kg2_45, kg3_45, kg4_45, low45⟩ := h
    clear kg2_42 kg3_42 kg4_42 low42 s2_44 s3_44 s4_44 s8_44 z44
    refine c_seq (c_seq (c_region ?_))
    refine l_q rfl (q_move _ _ rfl s8_45.ev ?_)
    refine l_q rfl (q_lss true rfl (At.hit z45 rfl).ev rfl (decide_eq_true (by omega)) ?_)
    refine l_end (e_fresh z45.p2 ?_)
    intro a46 z46 m46
    have s2_46 := m46 _ _ (s2_45.n2)
    have s3_46 := m46 _ _ (s3_45.n2)
    have s4_46 := m46 _ _ (s4_45.n2)
    have s8_46 := m46 _ _ (s8_45.n2)
    have s126_46 := m46 _ _ (At.hit z45.put rfl)
    clear m46
    refine e_then (c_true s126_46 ?_)
    refine wp_skip (e_then (c_seq (wp_block (region_low_tail 34 hm (by kernel_rfl) ?_))))
    simp only [List.take_succ_cons, List.take_zero, List.drop_succ_cons, List.drop_zero]
    refine qs (q_move _ _ rfl s8_46.ev ?_)
    refine qs (q_move _ _ rfl (s8_46.n1).ev ?_)
    refine qs (q_add (((t + 5 : Nat) : Int)) rfl (At.hit z46.put rfl).ev rfl (i64_is (by omega) (by omega) (by omega)) ?_)
    refine qs (q_idx (j := t + 5) rfl Tryz.underlying90 sz64 (s4_46.n3).ev (At.hit z46.p2 rfl).ev (by omega) ?_)
    refine qs (q_cell (.int .u32 ((dnR (up (beginR true K B) K (fun x => rotr x 1) (64 - K)) K (K + 5)).getD (t + 5) 0)) rfl Tryz.underlying64 (At.hit z46.p3 rfl).ev (fun _ h => nums_cell (h.blk kg4_45) (t + 5) (by rw [(dnR_len _ K (up_len _ K _ (beginR_len true K B) _) _)]; omega)) ?_)
    refine qs (q_move _ _ rfl (s8_46.n5).ev ?_)
    refine qs (q_add (((t + 4 : Nat) : Int)) rfl (At.hit z46.p5 rfl).ev rfl (i64_is (by omega) (by omega) (by omega)) ?_)
    refine qs (q_idx (j := t + 4) rfl Tryz.underlying90 sz64 (s4_46.n7).ev (At.hit z46.p6 rfl).ev (by omega) ?_)
    refine q_fresh z46.p8 ?_
    intro a47 z47 m47
    have s2_47 := m47 _ _ (s2_46.n8)
    have s3_47 := m47 _ _ (s3_46.n8)
    have s4_47 := m47 _ _ (s4_46.n8)
    have s8_47 := m47 _ _ (s8_46.n8)
    have s129_47 := m47 _ _ ((At.hit z46 rfl).n7)
    have s133_47 := m47 _ _ ((At.hit z46.p4 rfl).n3)
    have s136_47 := m47 _ _ (At.hit z46.p7 rfl)
    clear m47
    refine qs (q_cell (.int .u32 ((dnR (up (beginR true K B) K (fun x => rotr x 1) (64 - K)) K (K + 5)).getD (t + 4) 0)) rfl Tryz.underlying64 s136_47.ev (fun _ h => nums_cell (h.blk kg4_45) (t + 4) (by rw [(dnR_len _ K (up_len _ K _ (beginR_len true K B) _) _)]; omega)) ?_)
    refine qs (q_call (.int .u32 (rotr ((dnR (up (beginR true K B) K (fun x => rotr x 1) (64 - K)) K (K + 5)).getD (t + 4) 0) 5)) rfl rfl Tryz.func84 rfl (args2 rfl (At.hit z47 rfl).ev rfl) (fun _ h => (RotR.calls ((dnR (up (beginR true K B) K (fun x => rotr x 1) (64 - K)) K (K + 5)).getD (t + 4) 0) 5 (by omega) _).mono fun _ _ ⟨e, k⟩ => ⟨e, h.trans k⟩) ?_)
    refine qs (q_xor rfl (s133_47.n2).ev (At.hit z47.put rfl).ev ?_)
    refine qs (q_move _ _ rfl (s8_47.n3).ev ?_)
    refine qs (q_add (((t + 3 : Nat) : Int)) rfl (At.hit z47.p3 rfl).ev rfl (i64_is (by omega) (by omega) (by omega)) ?_)
    refine qs (q_idx (j := t + 3) rfl Tryz.underlying90 sz64 (s4_47.n5).ev (At.hit z47.p4 rfl).ev (by omega) ?_)
    refine qs (q_cell (.int .u32 ((dnR (up (beginR true K B) K (fun x => rotr x 1) (64 - K)) K (K + 5)).getD (t + 3) 0)) rfl Tryz.underlying64 (At.hit z47.p5 rfl).ev (fun _ h => nums_cell (h.blk kg4_45) (t + 3) (by rw [(dnR_len _ K (up_len _ K _ (beginR_len true K B) _) _)]; omega)) ?_)
    refine qs (q_xor rfl ((At.hit z47.p2 rfl).n4).ev (At.hit z47.p6 rfl).ev ?_)
    refine q_fresh z47.p8 ?_
    intro a48 z48 m48
    have s2_48 := m48 _ _ (s2_47.n8)
    have s3_48 := m48 _ _ (s3_47.n8)
    have s4_48 := m48 _ _ (s4_47.n8)
    have s8_48 := m48 _ _ (s8_47.n8)
    have s129_48 := m48 _ _ (s129_47.n8)
    have s144_48 := m48 _ _ (At.hit z47.p7 rfl)
    clear m48
    refine qs (q_move _ _ rfl s8_48.ev ?_)
    refine qs (q_add (((t + 2 : Nat) : Int)) rfl (At.hit z48 rfl).ev rfl (i64_is (by omega) (by omega) (by omega)) ?_)
    refine qs (q_idx (j := t + 2) rfl Tryz.underlying90 sz64 (s4_48.n2).ev (At.hit z48.put rfl).ev (by omega) ?_)
    refine qs (q_cell (.int .u32 ((dnR (up (beginR true K B) K (fun x => rotr x 1) (64 - K)) K (K + 5)).getD (t + 2) 0)) rfl Tryz.underlying64 (At.hit z48.p2 rfl).ev (fun _ h => nums_cell (h.blk kg4_45) (t + 2) (by rw [(dnR_len _ K (up_len _ K _ (beginR_len true K B) _) _)]; omega)) ?_)
    refine qs (q_call (.int .u32 (rotr ((dnR (up (beginR true K B) K (fun x => rotr x 1) (64 - K)) K (K + 5)).getD (t + 2) 0) 30)) rfl rfl Tryz.func84 rfl (args2 rfl (At.hit z48.p3 rfl).ev rfl) (fun _ h => (RotR.calls ((dnR (up (beginR true K B) K (fun x => rotr x 1) (64 - K)) K (K + 5)).getD (t + 2) 0) 30 (by omega) _).mono fun _ _ ⟨e, k⟩ => ⟨e, h.trans k⟩) ?_)
    refine qs (q_xor rfl (s144_48.n5).ev (At.hit z48.p4 rfl).ev ?_)
    refine qs (q_move _ _ rfl (s8_48.n6).ev ?_)
    refine qs (q_add (((t + 1 : Nat) : Int)) rfl (At.hit z48.p6 rfl).ev rfl (i64_is (by omega) (by omega) (by omega)) ?_)
    refine q_fresh z48.p8 ?_
    intro a49 z49 m49
    have s2_49 := m49 _ _ (s2_48.n8)
    have s3_49 := m49 _ _ (s3_48.n8)
    have s4_49 := m49 _ _ (s4_48.n8)
    have s8_49 := m49 _ _ (s8_48.n8)
    have s129_49 := m49 _ _ (s129_48.n8)
    have s150_49 := m49 _ _ ((At.hit z48.p5 rfl).n2)
    have s152_49 := m49 _ _ (At.hit z48.p7 rfl)
    clear m49
    refine qs (q_idx (j := t + 1) rfl Tryz.underlying90 sz64 s4_49.ev s152_49.ev (by omega) ?_)
    refine qs (q_cell (.int .u32 ((dnR (up (beginR true K B) K (fun x => rotr x 1) (64 - K)) K (K + 5)).getD (t + 1) 0)) rfl Tryz.underlying64 (At.hit z49 rfl).ev (fun _ h => nums_cell (h.blk kg4_45) (t + 1) (by rw [(dnR_len _ K (up_len _ K _ (beginR_len true K B) _) _)]; omega)) ?_)
    refine qs (q_call (.int .u32 (rotr ((dnR (up (beginR true K B) K (fun x => rotr x 1) (64 - K)) K (K + 5)).getD (t + 1) 0) 30)) rfl rfl Tryz.func84 rfl (args2 rfl (At.hit z49.put rfl).ev rfl) (fun _ h => (RotR.calls ((dnR (up (beginR true K B) K (fun x => rotr x 1) (64 - K)) K (K + 5)).getD (t + 1) 0) 30 (by omega) _).mono fun _ _ ⟨e, k⟩ => ⟨e, h.trans k⟩) ?_)
    refine qs (q_xor rfl (s150_49.n3).ev (At.hit z49.p2 rfl).ev ?_)
    refine qs (q_move _ _ rfl (s8_49.n4).ev ?_)
    refine qs (q_idx (j := t) rfl Tryz.underlying90 sz64 (s4_49.n5).ev (At.hit z49.p4 rfl).ev (by omega) ?_)
    refine qs (q_cell (.int .u32 ((dnR (up (beginR true K B) K (fun x => rotr x 1) (64 - K)) K (K + 5)).getD t 0)) rfl Tryz.underlying64 (At.hit z49.p5 rfl).ev (fun _ h => nums_cell (h.blk kg4_45) t (by rw [(dnR_len _ K (up_len _ K _ (beginR_len true K B) _) _)]; omega)) ?_)
    refine qs (q_call (.int .u32 (rotr ((dnR (up (beginR true K B) K (fun x => rotr x 1) (64 - K)) K (K + 5)).getD t 0) 30)) rfl rfl Tryz.func84 rfl (args2 rfl (At.hit z49.p6 rfl).ev rfl) (fun _ h => (RotR.calls ((dnR (up (beginR true K B) K (fun x => rotr x 1) (64 - K)) K (K + 5)).getD t 0) 30 (by omega) _).mono fun _ _ ⟨e, k⟩ => ⟨e, h.trans k⟩) ?_)
    refine q_fresh z49.p8 ?_
    intro a50 z50 m50
    have s2_50 := m50 _ _ (s2_49.n8)
    have s3_50 := m50 _ _ (s3_49.n8)
    have s4_50 := m50 _ _ (s4_49.n8)
    have s8_50 := m50 _ _ (s8_49.n8)
    have s129_50 := m50 _ _ (s129_49.n8)
    have s156_50 := m50 _ _ ((At.hit z49.p3 rfl).n4)
    have s160_50 := m50 _ _ (At.hit z49.p7 rfl)
    clear m50
    refine qs (q_xor rfl s156_50.ev s160_50.ev ?_)
    refine qs (q_idx (j := t) rfl Tryz.underlying65 sz64 (s3_50.n1).ev (s129_50.n1).ev (by omega) ?_)
    refine qz ?_
    intro w51 h51
    have kg2_51 := h51.blk kg2_45
    have kg3_51 := h51.blk kg3_45
    have kg4_51 := h51.blk kg4_45
    refine l_cell (j := t) (v := .int .u32 (Go.bits .xor .u32 (Go.bits .xor .u32 (Go.bits .xor .u32 (Go.bits .xor .u32 (Go.bits .xor .u32 ((dnR (up (beginR true K B) K (fun x => rotr x 1) (64 - K)) K (K + 5)).getD (t + 5) 0) (rotr ((dnR (up (beginR true K B) K (fun x => rotr x 1) (64 - K)) K (K + 5)).getD (t + 4) 0) 5)) ((dnR (up (beginR true K B) K (fun x => rotr x 1) (64 - K)) K (K + 5)).getD (t + 3) 0)) (rotr ((dnR (up (beginR true K B) K (fun x => rotr x 1) (64 - K)) K (K + 5)).getD (t + 2) 0) 30)) (rotr ((dnR (up (beginR true K B) K (fun x => rotr x 1) (64 - K)) K (K + 5)).getD (t + 1) 0) 30)) (rotr ((dnR (up (beginR true K B) K (fun x => rotr x 1) (64 - K)) K (K + 5)).getD t 0) 30))) rfl rfl rfl sz64 (At.hit z50.put rfl).ev ((At.hit z50 rfl).n1).ev rfl kg3_51 (by rw [(nums_size _ _).trans (diffR_len _ _)]; omega) ?_
    intro w52 k52 u52
    rw [nums_put] at k52
    have kg2_52 := u52.blk kg2_51 (by omega)
    have kg4_52 := u52.blk kg4_51 (by omega)
    refine l_end (e_fresh z50.p2 ?_)
    intro a53 z53 m53
    have s2_53 := m53 _ _ (s2_50.n2)
    have s3_53 := m53 _ _ (s3_50.n2)
    have s4_53 := m53 _ _ (s4_50.n2)
    have s8_53 := m53 _ _ (s8_50.n2)
    have low53 := ((low45.trans h51).upd u52 geg3)
    clear m53
    refine e_in (e_then (c_region ?_))
    refine l_q rfl (q_move _ _ rfl s8_53.ev ?_)
    refine l_q rfl (q_add (((t + 1 : Nat) : Int)) rfl (At.hit z53 rfl).ev rfl (i64_is (by omega) (by omega) (by omega)) ?_)
    refine l_q rfl (q_assign _ _ rfl (At.hit z53.put rfl).ev ?_)
    refine l_end (e_fresh z53.p3 ?_)
    intro a54 z54 m54
    have s2_54 := m54 _ _ (s2_53.n3)
    have s3_54 := m54 _ _ (s3_53.n3)
    have s4_54 := m54 _ _ (s4_53.n3)
    have s8_54 := m54 _ _ (At.hit z53.p2 rfl)
    clear m54
    exact ⟨z54, s2_54, s3_54, s4_54, s8_54, kg2_52, k52, kg4_52, low53⟩
   ·
    intro a55 w55 h
    obtain ⟨z55, s2_55, s3_55, s4_55, s8_55, kg2_55, kg3_55, kg4_55, low55⟩ := h
    clear kg2_42 kg3_42 kg4_42 low42 s2_44 s3_44 s4_44 s8_44 z44
    refine c_seq (c_seq (c_region ?_))
    refine l_q rfl (q_move _ _ rfl s8_55.ev ?_)
    refine l_q rfl (q_lss false rfl (At.hit z55 rfl).ev rfl (decide_eq_false (by omega)) ?_)
    refine l_end (e_fresh z55.p2 ?_)
    intro a56 z56 m56
    have s2_56 := m56 _ _ (s2_55.n2)
    have s3_56 := m56 _ _ (s3_55.n2)
    have s4_56 := m56 _ _ (s4_55.n2)
    have s8_56 := m56 _ _ (s8_55.n2)
    have s126_56 := m56 _ _ (At.hit z55.put rfl)
    clear m56
    refine e_then (c_false s126_56 ?_)
    refine wp_exit (x_then (x_then (in_exit (e_then (c_seq (c_region ?_))))))
    refine l_q rfl (q_row rfl Tryz.underlying65 rfl (sz65.trans (congrArg some ((nums_size _ _).trans (diffR_len _ _)).symm)) s3_56.ev (fun _ e => by rw [e]; exact kg3_55) ?_)
    refine l_row rfl rfl rfl (sz65.trans (congrArg some ((nums_size _ _).trans (diffR_len _ _)).symm)) (s2_56.n1).ev (At.hit z56 rfl).ev (nums_one _ _) kg2_55 (((nums_size _ _).trans (List.length_replicate)).trans ((nums_size _ _).trans (diffR_len _ _)).symm) ?_
    intro w57 k57 u57
    have kg3_57 := u57.blk kg3_55 (by omega)
    have kg4_57 := u57.blk kg4_55 (by omega)
    refine l_end (e_fresh z56.put ?_)
    intro a58 z58 m58
    have s2_58 := m58 _ _ (s2_56.n1)
    have low58 := (low55.upd u57 geg2)
    clear m58
    refine e_then (wp_ret (r_cell rfl z58.defers s2_58 k57 Tryz.underlying65 rfl (sz65.trans (congrArg some ((nums_size _ _).trans (diffR_len _ _)).symm)) ?_))
    exact ⟨rfl, low58⟩
def okV (ty K B : Int) : Bool := decide (1 ≤ ty ∧ ty ≤ 2 ∧ 0 ≤ K ∧ K ≤ 64 ∧ 0 ≤ B ∧ B ≤ 31)
def differenceL (ty K B : Int) : List Int := if okV ty K B then diffL (rowL (decide (ty = 2)) K.toNat B.toNat) 80 else List.replicate 80 0
def differenceR (ty K B : Int) : List Int := if okV ty K B then diffR (rowR (decide (ty = 2)) K.toNat B.toNat) 80 else List.replicate 80 0
theorem differenceL_len (ty K B : Int) : (differenceL ty K B).length = 80 := by
  unfold differenceL
  split
  · exact diffL_len _ _
  · exact List.length_replicate
theorem differenceR_len (ty K B : Int) : (differenceR ty K B).length = 80 := by
  unfold differenceR
  split
  · exact diffR_len _ _
  · exact List.length_replicate
theorem DifferenceL.calls (ty K B : Int) (hok : okV ty K B = true) (w0 : World) : Calls Tryz.prog 42 #[.agg #[.int .i64 ty, .int .i64 K, .int .i64 B]] w0 fun e w' => e = .returned (.agg (nums .u32 (differenceL ty K B))) ∧ Low w0 w' := by
  obtain ⟨t1, t2, k1, k2, b1, b2⟩ := of_decide_eq_true hok
  obtain ⟨k, rfl⟩ := Int.eq_ofNat_of_zero_le k1
  obtain ⟨b, rfl⟩ := Int.eq_ofNat_of_zero_le b1
  unfold differenceL
  rw [hok, if_pos rfl]
  rcases (by omega : ty = 1 ∨ ty = 2) with rfl | rfl
  · exact DL_1.calls k b (by omega) (by omega) w0
  · exact DL_2.calls k b (by omega) (by omega) w0
theorem DifferenceR.calls (ty K B : Int) (hok : okV ty K B = true) (w0 : World) : Calls Tryz.prog 69 #[.agg #[.int .i64 ty, .int .i64 K, .int .i64 B]] w0 fun e w' => e = .returned (.agg (nums .u32 (differenceR ty K B))) ∧ Low w0 w' := by
  obtain ⟨t1, t2, k1, k2, b1, b2⟩ := of_decide_eq_true hok
  obtain ⟨k, rfl⟩ := Int.eq_ofNat_of_zero_le k1
  obtain ⟨b, rfl⟩ := Int.eq_ofNat_of_zero_le b1
  unfold differenceR
  rw [hok, if_pos rfl]
  rcases (by omega : ty = 1 ∨ ty = 2) with rfl | rfl
  · exact DR_1.calls k b (by omega) (by omega) w0
  · exact DR_2.calls k b (by omega) (by omega) w0
end Go.Proofs.YtfjhnnpdaggnbaaGreatDoor.Q
end
/-! A4 -/
section
namespace Go.Proofs.YtfjhnnpdaggnbaaGreatDoor.Q
open Go.RowKit Go.Proofs.YtfjhnnpdaggnbaaGreatDoor.P
set_option linter.unusedVariables false
set_option linter.unusedSimpArgs false
set_option maxRecDepth 100000
set_option maxHeartbeats 4000000
attribute [local irreducible] wpList wpQuiet qch Code.wp Oper.quiet Act.put At Region.wanted yielded
def stepsX (l m : List Int) (x : Ch) (f : Ch → Int → Int → Ch) (t0 : Nat) : Nat → Ch
  | 0 => x
  | k + 1 => f (stepsX l m x f t0 k) ((k + t0 : Nat) : Int) (Go.bits .xor .u32 (l.getD (k + t0) 0) (m.getD (k + t0) 0))
def stepsO (l : List Int) (x : Ch) (t0 : Nat) : Nat → Ch
  | 0 => x
  | k + 1 => stepL (stepsO l x t0 k) ((k + t0 : Nat) : Int) (l.getD (k + t0) 0)
def backX (l m : List Int) (x : Ch) (f : Ch → Int → Int → Ch) : Nat → Ch
  | 0 => x
  | k + 1 => f (backX l m x f k) (57 - ((k : Nat) : Int)) (Go.bits .xor .u32 (l.getD (57 - k) 0) (m.getD (57 - k) 0))
def meetsL (c : Ch) (l m : List Int) : Bool :=
  decide (addL (cl (backX l m (stepsL l c 58) backL 58)) (cl (stepsX l m (stepsL l c 58) stepL 58 22)) 5 = addL (cl c) (cl (stepsO l (stepsL l c 58) 58 22)) 5)
theorem MeetsL.calls (c : Ch) (l m : List Int) (hl : l.length = 80) (hm' : m.length = 80) (gl gm om : Nat) (w0 : World) (kl : w0.heap[gl]? = some (.cells (nums .u32 l) 66)) (km : RdW w0 gm om m) : Calls Tryz.prog 46 #[.agg (nums .u32 (cl c)), .pointer (some ⟨gl, 0, none⟩), .pointer (some ⟨gm, om, none⟩)] w0 fun e w' => e = .returned (.bool (meetsL c l m)) ∧ Low w0 w' := by
 refine c_fun (R := _) Tryz.func46 rfl 81 rfl (Nat.le_of_ble_eq_true rfl) ?_
 intro a z hA
 have s0 := hA 0 _ rfl
 have s1 := hA 1 _ rfl
 have s2 := hA 2 _ rfl
 clear hA
 refine c_seq (c_region (l_box rfl rfl s0.ev ?_))
 intro g3 w1 hg1 k1 h1
 have ngl_g3 := Nat.ne_of_lt (Nat.lt_of_lt_of_le (heap_lt kl) hg1)
 have ngm_g3 := Nat.ne_of_lt (Nat.lt_of_lt_of_le km.lt hg1)
 have geg3 := Nat.le_trans (Low.refl _).ge hg1
 have kgl_1 := h1.blk kl
 have kgm_1 := km.low h1
 refine l_q rfl (q_assign _ _ rfl rfl ?_)
 refine l_end (e_fresh z.p2 ?_)
 intro a2 z2 m2
 have s1_2 := m2 _ _ (s1.n2)
 have s2_2 := m2 _ _ (s2.n2)
 have s3_2 := m2 _ _ ((At.hit z rfl).n1)
 have low2 := h1
 clear m2
 refine e_then (c_seq (c_region ?_))
 refine l_q rfl (q_row rfl Tryz.underlying69 rfl (sz69.trans (congrArg some ((nums_size _ _).trans (cl_len c)).symm)) s3_2.ev (fun _ e => by rw [e]; exact k1) ?_)
 refine l_alloc rfl rfl zero69 ?_
 intro g7 w3 hg3 k3 h3
 have lt_g3_g7 := Nat.lt_of_lt_of_le (heap_lt k1) hg3
 have ngl_g7 := Nat.ne_of_lt (Nat.lt_of_lt_of_le (heap_lt kgl_1) hg3)
 have ngm_g7 := Nat.ne_of_lt (Nat.lt_of_lt_of_le kgm_1.lt hg3)
 have geg7 := Nat.le_trans low2.ge hg3
 have kgl_3 := h3.blk kgl_1
 have kgm_3 := kgm_1.low h3
 have kg3_3 := h3.blk k1
 refine l_row rfl rfl rfl (sz69.trans (congrArg some ((nums_size _ _).trans (cl_len c)).symm)) (At.hit z2.put rfl).ev ((At.hit z2 rfl).n1).ev (nums_one _ _) k3 (((nums_size _ _).trans (List.length_replicate)).trans ((nums_size _ _).trans (cl_len c)).symm) ?_
 intro w4 k4 u4
 have kgl_4 := u4.blk kgl_3 (by omega)
 have kgm_4 := kgm_3.upd u4 (by omega)
 have kg3_4 := u4.blk kg3_3 (by omega)
 refine l_end (e_fresh z2.p2 ?_)
 intro a5 z5 m5
 have s1_5 := m5 _ _ (s1_2.n2)
 have s2_5 := m5 _ _ (s2_2.n2)
 have s3_5 := m5 _ _ (s3_2.n2)
 have s7_5 := m5 _ _ (At.hit z2.put rfl)
 have low5 := ((low2.trans h3).upd u4 geg7)
 clear m5
 refine e_then (c_seq (c_seq (c_region ?_)))
 refine l_q rfl (q_move _ _ rfl rfl ?_)
 refine l_end (e_fresh z5.put ?_)
 intro a6 z6 m6
 have s1_6 := m6 _ _ (s1_5.n1)
 have s2_6 := m6 _ _ (s2_5.n1)
 have s3_6 := m6 _ _ (s3_5.n1)
 have s7_6 := m6 _ _ (s7_5.n1)
 have s15_6 := m6 _ _ (At.hit z5 rfl)
 clear m6
 refine e_then (wp_block (c_loop 58 (fun k a w => Fr 81 a ∧ At a 1 (.pointer (some ⟨gl, 0, none⟩)) ∧ At a 2 (.pointer (some ⟨gm, om, none⟩)) ∧ At a 3 (.pointer (some ⟨g3, 0, none⟩)) ∧ At a 7 (.pointer (some ⟨g7, 0, none⟩)) ∧ At a 15 (.int .i64 ((k : Nat) : Int)) ∧ w.heap[g3]? = some (.cells (nums .u32 (cl c)) 69) ∧ w.heap[g7]? = some (.cells (nums .u32 (cl (stepsL l c k))) 69) ∧ w.heap[gl]? = some (.cells (nums .u32 l) 66) ∧ RdW w gm om m ∧ Low w0 w) ?_ ?_ ?_))
 ·
  exact ⟨z6, s1_6, s2_6, s3_6, s7_6, s15_6, kg3_4, k4, kgl_4, kgm_4, low5⟩
 ·
  intro k a7 w7 hk7 h
  obtain ⟨z7, s1_7, s2_7, s3_7, s7_7, s15_7, kg3_7, kg7_7, kgl_7, kgm_7, low7⟩ := h
  clear k4 kg3_4 kgl_4 kgm_4 low5 s15_6 s1_6 s2_6 s3_6 s7_6 z6
  refine c_seq (c_region ?_)
  refine l_q rfl (q_lss true rfl s15_7.ev rfl (decide_eq_true (by omega)) ?_)
  refine l_end (e_fresh z7.put ?_)
  intro a8 z8 m8
  have s1_8 := m8 _ _ (s1_7.n1)
  have s2_8 := m8 _ _ (s2_7.n1)
  have s3_8 := m8 _ _ (s3_7.n1)
  have s7_8 := m8 _ _ (s7_7.n1)
  have s15_8 := m8 _ _ (s15_7.n1)
  have s16_8 := m8 _ _ (At.hit z7 rfl)
  clear m8
  refine e_then (c_seq (c_true s16_8 ?_))
  refine wp_skip (e_then (c_seq (wp_block (c_seq (c_region ?_)))))
  refine l_q rfl (q_move _ _ rfl s15_8.ev ?_)
  refine l_q rfl (q_assign _ _ rfl (At.hit z8 rfl).ev ?_)
  refine l_end (e_fresh z8.p2 ?_)
  intro a9 z9 m9
  have s1_9 := m9 _ _ (s1_8.n2)
  have s2_9 := m9 _ _ (s2_8.n2)
  have s3_9 := m9 _ _ (s3_8.n2)
  have s7_9 := m9 _ _ (s7_8.n2)
  have s8_9 := m9 _ _ (At.hit z8.put rfl)
  have s15_9 := m9 _ _ (s15_8.n2)
  clear m9
  refine e_then (region_low_tail 8 hm (by kernel_rfl) ?_)
  simp only [List.take_succ_cons, List.take_zero, List.drop_succ_cons, List.drop_zero]
  refine qs (q_row rfl Tryz.underlying69 rfl (sz69.trans (congrArg some ((nums_size _ _).trans (cl_len (stepsL l c k))).symm)) s7_9.ev (fun _ h => h.blk kg7_7) ?_)
  refine qs (q_move _ _ rfl (s8_9.n1).ev ?_)
  refine qs (q_move _ _ rfl (s1_9.n2).ev ?_)
  refine qs (q_move _ _ rfl (s8_9.n3).ev ?_)
  refine qs (q_nil rfl ((At.hit z9.p2 rfl).n1).ev ?_)
  refine qs (q_idx (j := k) rfl Tryz.underlying66 sz64 (At.hit z9.p4 rfl).ev ((At.hit z9.p3 rfl).n1).ev (by omega) ?_)
  refine qs (q_cell (.int .u32 (l.getD k 0)) rfl Tryz.underlying64 (At.hit z9.p5 rfl).ev (fun _ h => nums_cell (h.blk kgl_7) k (by rw [hl]; omega)) ?_)
  refine qs (q_call (.agg (nums .u32 (cl (stepL (stepsL l c k) ((k : Nat) : Int) (l.getD k 0))))) rfl rfl Tryz.func63 rfl (args3 rfl ((At.hit z9 rfl).n6).ev ((At.hit z9.put rfl).n5).ev (At.hit z9.p6 rfl).ev) (fun _ h => (StepL.calls (stepsL l c k) ((k : Nat) : Int) (l.getD k 0) _).mono fun _ _ ⟨e, k⟩ => ⟨e, h.trans k⟩) ?_)
  refine qz ?_
  intro w10 h10
  have kg3_10 := h10.blk kg3_7
  have kg7_10 := h10.blk kg7_7
  have kgl_10 := h10.blk kgl_7
  have kgm_10 := kgm_7.low h10
  refine l_row rfl rfl rfl (sz69.trans (congrArg some ((nums_size _ _).trans (cl_len (stepL (stepsL l c k) ((k : Nat) : Int) (l.getD k 0)))).symm)) (s7_9.n8).ev (At.hit z9.p7 rfl).ev (nums_one _ _) kg7_10 (((nums_size _ _).trans (cl_len (stepsL l c k))).trans ((nums_size _ _).trans (cl_len (stepL (stepsL l c k) ((k : Nat) : Int) (l.getD k 0)))).symm) ?_
  intro w11 k11 u11
  have kg3_11 := u11.blk kg3_10 (by omega)
  have kgl_11 := u11.blk kgl_10 (by omega)
  have kgm_11 := kgm_10.upd u11 (by omega)
  refine l_end (e_fresh z9.p8 ?_)
  intro a12 z12 m12
  have s1_12 := m12 _ _ (s1_9.n8)
  have s2_12 := m12 _ _ (s2_9.n8)
  have s3_12 := m12 _ _ (s3_9.n8)
  have s7_12 := m12 _ _ (s7_9.n8)
  have s15_12 := m12 _ _ (s15_9.n8)
  have low12 := ((low7.trans h10).upd u11 geg7)
  clear m12
  refine e_in (e_then (c_region ?_))
  refine l_q rfl (q_add (((k + 1 : Nat) : Int)) rfl s15_12.ev rfl (i64_is (by omega) (by omega) (by omega)) ?_)
  refine l_q rfl (q_move _ _ rfl (At.hit z12 rfl).ev ?_)
  refine l_end (e_fresh z12.p2 ?_)
  intro a13 z13 m13
  have s1_13 := m13 _ _ (s1_12.n2)
  have s2_13 := m13 _ _ (s2_12.n2)
  have s3_13 := m13 _ _ (s3_12.n2)
  have s7_13 := m13 _ _ (s7_12.n2)
  have s15_13 := m13 _ _ (At.hit z12.put rfl)
  clear m13
  exact ⟨z13, s1_13, s2_13, s3_13, s7_13, s15_13, kg3_11, k11, kgl_11, kgm_11, low12⟩
 ·
  intro a14 w14 h
  obtain ⟨z14, s1_14, s2_14, s3_14, s7_14, s15_14, kg3_14, kg7_14, kgl_14, kgm_14, low14⟩ := h
  clear k4 kg3_4 kgl_4 kgm_4 low5 s15_6 s1_6 s2_6 s3_6 s7_6 z6
  refine c_seq (c_region ?_)
  refine l_q rfl (q_lss false rfl s15_14.ev rfl (decide_eq_false (by omega)) ?_)
  refine l_end (e_fresh z14.put ?_)
  intro a15 z15 m15
  have s1_15 := m15 _ _ (s1_14.n1)
  have s2_15 := m15 _ _ (s2_14.n1)
  have s3_15 := m15 _ _ (s3_14.n1)
  have s7_15 := m15 _ _ (s7_14.n1)
  have s15_15 := m15 _ _ (s15_14.n1)
  have s16_15 := m15 _ _ (At.hit z14 rfl)
  clear m15
  refine e_then (c_seq (c_false s16_15 ?_))
  refine wp_exit (x_then (x_then (in_exit (e_then (c_seq (region_told [.val (.agg (nums .u32 (cl (stepsL l c 58)))), .val (.agg (nums .u32 (cl (stepsL l c 58)))), .val (.agg (nums .u32 (cl (stepsL l c 58)))), .new (nums .u32 (List.replicate 5 0)) 69 6 (nums .u32 (cl (stepsL l c 58))), .new (nums .u32 (List.replicate 5 0)) 69 7 (nums .u32 (cl (stepsL l c 58))), .new (nums .u32 (List.replicate 5 0)) 69 8 (nums .u32 (cl (stepsL l c 58))), .put 3 0, .put 4 1, .put 5 2] hm (by kernel_rfl) rfl z15 (allO_cons ?_ (allO_cons ?_ (allO_cons ?_ (allO_cons (stepO_new _ rfl rfl rfl zero69) (allO_cons (stepO_new _ rfl rfl rfl zero69) (allO_cons (stepO_new _ rfl rfl rfl zero69) (allO_cons (stepO_put rfl rfl rfl rfl rfl rfl rfl rfl (((nums_size _ _).trans (List.length_replicate)).trans ((nums_size _ _).trans (cl_len (stepsL l c 58))).symm) (nums_one _ _) (sz69.trans (congrArg some ((nums_size _ _).trans (cl_len (stepsL l c 58))).symm))) (allO_cons (stepO_put rfl rfl rfl rfl rfl rfl rfl rfl (((nums_size _ _).trans (List.length_replicate)).trans ((nums_size _ _).trans (cl_len (stepsL l c 58))).symm) (nums_one _ _) (sz69.trans (congrArg some ((nums_size _ _).trans (cl_len (stepsL l c 58))).symm))) (allO_cons (stepO_put rfl rfl rfl rfl rfl rfl rfl rfl (((nums_size _ _).trans (List.length_replicate)).trans ((nums_size _ _).trans (cl_len (stepsL l c 58))).symm) (nums_one _ _) (sz69.trans (congrArg some ((nums_size _ _).trans (cl_len (stepsL l c 58))).symm))) allO_nil))))))))) ?_))))))
  ·
   exact stepO_val _ rfl rfl fun _ _ _ lw kp kn => q_row rfl Tryz.underlying69 rfl (sz69.trans (congrArg some ((nums_size _ _).trans (cl_len (stepsL l c 58))).symm)) (kp _ _ rfl s7_15).ev (fun _ h => h.blk (lw.blk kg7_14)) rfl
  ·
   exact stepO_val _ rfl rfl fun _ _ _ lw kp kn => q_row rfl Tryz.underlying69 rfl (sz69.trans (congrArg some ((nums_size _ _).trans (cl_len (stepsL l c 58))).symm)) (kp _ _ rfl s7_15).ev (fun _ h => h.blk (lw.blk kg7_14)) rfl
  ·
   exact stepO_val _ rfl rfl fun _ _ _ lw kp kn => q_row rfl Tryz.underlying69 rfl (sz69.trans (congrArg some ((nums_size _ _).trans (cl_len (stepsL l c 58))).symm)) (kp _ _ rfl s7_15).ev (fun _ h => h.blk (lw.blk kg7_14)) rfl
  intro a16 w16 G D
  have bg3_16 := (heap_lt kg3_14)
  have bg7_16 := (heap_lt kg7_14)
  have bgl_16 := (heap_lt kgl_14)
  have bgm_16 := kgm_14.lt
  have sg9 := D.ptr 3 _ _ _ _ _ rfl rfl
  have hgg9 := D.ge 3 _ _ _ _ _ rfl rfl
  have kg9 := D.blk 3 _ _ _ _ _ rfl rfl
  have geg9 := Nat.le_trans low14.ge hgg9
  have sg10 := D.ptr 4 _ _ _ _ _ rfl rfl
  have hgg10 := D.ge 4 _ _ _ _ _ rfl rfl
  have kg10 := D.blk 4 _ _ _ _ _ rfl rfl
  have geg10 := Nat.le_trans low14.ge hgg10
  have sg11 := D.ptr 5 _ _ _ _ _ rfl rfl
  have hgg11 := D.ge 5 _ _ _ _ _ rfl rfl
  have kg11 := D.blk 5 _ _ _ _ _ rfl rfl
  have geg11 := Nat.le_trans low14.ge hgg11
  have d16_3_4 := D.ne 3 4 _ _ _ _ _ _ _ _ rfl rfl rfl
  have d16_3_5 := D.ne 3 5 _ _ _ _ _ _ _ _ rfl rfl rfl
  have d16_4_5 := D.ne 4 5 _ _ _ _ _ _ _ _ rfl rfl rfl
  have h16 := D.low
  have kg3_16 := h16.blk kg3_14
  have kg7_16 := h16.blk kg7_14
  have kgl_16 := h16.blk kgl_14
  have kgm_16 := kgm_14.low h16
  have z16 := D.fr
  have s1_16 := (D.keep _ _ rfl s1_15)
  have s2_16 := (D.keep _ _ rfl s2_15)
  have s3_16 := (D.keep _ _ rfl s3_15)
  have s7_16 := (D.keep _ _ rfl s7_15)
  have s15_16 := (D.keep _ _ rfl s15_15)
  have s16_16 := (D.keep _ _ rfl s16_15)
  have s27_16 := (D.val 0 _ _ rfl rfl)
  have s28_16 := (D.val 1 _ _ rfl rfl)
  have s29_16 := (D.val 2 _ _ rfl rfl)
  clear D
  generalize G 3 = g9 at *
  generalize G 4 = g10 at *
  generalize G 5 = g11 at *
  refine e_fresh z16 ?_
  intro a17 z17 m17
  have s1_17 := m17 _ _ s1_16
  have s2_17 := m17 _ _ s2_16
  have s3_17 := m17 _ _ s3_16
  have s9_17 := m17 _ _ sg9
  have s10_17 := m17 _ _ sg10
  have s11_17 := m17 _ _ sg11
  have low17 := (low14.trans h16)
  clear m17
  refine e_then (c_seq (c_seq (c_region ?_)))
  refine l_q rfl (q_assign _ _ rfl rfl ?_)
  refine l_end (e_fresh z17.put ?_)
  intro a18 z18 m18
  have s1_18 := m18 _ _ (s1_17.n1)
  have s2_18 := m18 _ _ (s2_17.n1)
  have s3_18 := m18 _ _ (s3_17.n1)
  have s9_18 := m18 _ _ (s9_17.n1)
  have s10_18 := m18 _ _ (s10_17.n1)
  have s11_18 := m18 _ _ (s11_17.n1)
  have s12_18 := m18 _ _ (At.hit z17 rfl)
  clear m18
  refine e_then (wp_block (c_loop 22 (fun k a w => Fr 81 a ∧ At a 1 (.pointer (some ⟨gl, 0, none⟩)) ∧ At a 2 (.pointer (some ⟨gm, om, none⟩)) ∧ At a 3 (.pointer (some ⟨g3, 0, none⟩)) ∧ At a 9 (.pointer (some ⟨g9, 0, none⟩)) ∧ At a 10 (.pointer (some ⟨g10, 0, none⟩)) ∧ At a 11 (.pointer (some ⟨g11, 0, none⟩)) ∧ At a 12 (.int .i64 ((k + 58 : Nat) : Int)) ∧ w.heap[g10]? = some (.cells (nums .u32 (cl (stepsL l c 58))) 69) ∧ w.heap[g11]? = some (.cells (nums .u32 (cl (stepsX l m (stepsL l c 58) stepL 58 k))) 69) ∧ w.heap[g3]? = some (.cells (nums .u32 (cl c)) 69) ∧ w.heap[g9]? = some (.cells (nums .u32 (cl (stepsO l (stepsL l c 58) 58 k))) 69) ∧ w.heap[gl]? = some (.cells (nums .u32 l) 66) ∧ RdW w gm om m ∧ Low w0 w) ?_ ?_ ?_))
  ·
   exact ⟨z18, s1_18, s2_18, s3_18, s9_18, s10_18, s11_18, (s12_18.same (congrArg (Value.int .i64) (by omega))), kg10, kg11, kg3_16, kg9, kgl_16, kgm_16, low17⟩
  ·
   intro k a19 w19 hk19 h
   obtain ⟨z19, s1_19, s2_19, s3_19, s9_19, s10_19, s11_19, s12_19, kg10_19, kg11_19, kg3_19, kg9_19, kgl_19, kgm_19, low19⟩ := h
   clear kg10 kg11 kg3_16 kg9 kgl_16 kgm_16 low17 s10_18 s11_18 s12_18 s1_18 s2_18 s3_18 s9_18 z18
   refine c_seq (c_seq (c_region ?_))
   refine l_q rfl (q_move _ _ rfl s12_19.ev ?_)
   refine l_q rfl (q_lss true rfl (At.hit z19 rfl).ev rfl (decide_eq_true (by omega)) ?_)
   refine l_end (e_fresh z19.p2 ?_)
   intro a20 z20 m20
   have s1_20 := m20 _ _ (s1_19.n2)
   have s2_20 := m20 _ _ (s2_19.n2)
   have s3_20 := m20 _ _ (s3_19.n2)
   have s9_20 := m20 _ _ (s9_19.n2)
   have s10_20 := m20 _ _ (s10_19.n2)
   have s11_20 := m20 _ _ (s11_19.n2)
   have s12_20 := m20 _ _ (s12_19.n2)
   have s31_20 := m20 _ _ (At.hit z19.put rfl)
   clear m20
   refine e_then (c_true s31_20 ?_)
   refine wp_skip (e_then (c_seq (wp_block (c_seq (region_low_tail 8 hm (by kernel_rfl) ?_)))))
   simp only [List.take_succ_cons, List.take_zero, List.drop_succ_cons, List.drop_zero]
   refine qs (q_row rfl Tryz.underlying69 rfl (sz69.trans (congrArg some ((nums_size _ _).trans (cl_len (stepsO l (stepsL l c 58) 58 k))).symm)) s9_20.ev (fun _ h => h.blk kg9_19) ?_)
   refine qs (q_move _ _ rfl (s12_20.n1).ev ?_)
   refine qs (q_move _ _ rfl (s1_20.n2).ev ?_)
   refine qs (q_move _ _ rfl (s12_20.n3).ev ?_)
   refine qs (q_nil rfl ((At.hit z20.p2 rfl).n1).ev ?_)
   refine qs (q_idx (j := k + 58) rfl Tryz.underlying66 sz64 (At.hit z20.p4 rfl).ev ((At.hit z20.p3 rfl).n1).ev (by omega) ?_)
   refine qs (q_cell (.int .u32 (l.getD (k + 58) 0)) rfl Tryz.underlying64 (At.hit z20.p5 rfl).ev (fun _ h => nums_cell (h.blk kgl_19) (k + 58) (by rw [hl]; omega)) ?_)
   refine qs (q_call (.agg (nums .u32 (cl (stepL (stepsO l (stepsL l c 58) 58 k) ((k + 58 : Nat) : Int) (l.getD (k + 58) 0))))) rfl rfl Tryz.func63 rfl (args3 rfl ((At.hit z20 rfl).n6).ev ((At.hit z20.put rfl).n5).ev (At.hit z20.p6 rfl).ev) (fun _ h => (StepL.calls (stepsO l (stepsL l c 58) 58 k) ((k + 58 : Nat) : Int) (l.getD (k + 58) 0) _).mono fun _ _ ⟨e, k⟩ => ⟨e, h.trans k⟩) ?_)
   refine qz ?_
   intro w21 h21
   have kg10_21 := h21.blk kg10_19
   have kg11_21 := h21.blk kg11_19
   have kg3_21 := h21.blk kg3_19
   have kg9_21 := h21.blk kg9_19
   have kgl_21 := h21.blk kgl_19
   have kgm_21 := kgm_19.low h21
   refine l_row rfl rfl rfl (sz69.trans (congrArg some ((nums_size _ _).trans (cl_len (stepL (stepsO l (stepsL l c 58) 58 k) ((k + 58 : Nat) : Int) (l.getD (k + 58) 0)))).symm)) (s9_20.n8).ev (At.hit z20.p7 rfl).ev (nums_one _ _) kg9_21 (((nums_size _ _).trans (cl_len (stepsO l (stepsL l c 58) 58 k))).trans ((nums_size _ _).trans (cl_len (stepL (stepsO l (stepsL l c 58) 58 k) ((k + 58 : Nat) : Int) (l.getD (k + 58) 0)))).symm) ?_
   intro w22 k22 u22
   have kg10_22 := u22.blk kg10_21 (by omega)
   have kg11_22 := u22.blk kg11_21 (by omega)
   have kg3_22 := u22.blk kg3_21 (by omega)
   have kgl_22 := u22.blk kgl_21 (by omega)
   have kgm_22 := kgm_21.upd u22 (by omega)
   refine l_end (e_fresh z20.p8 ?_)
   intro a23 z23 m23
   have s1_23 := m23 _ _ (s1_20.n8)
   have s2_23 := m23 _ _ (s2_20.n8)
   have s3_23 := m23 _ _ (s3_20.n8)
   have s9_23 := m23 _ _ (s9_20.n8)
   have s10_23 := m23 _ _ (s10_20.n8)
   have s11_23 := m23 _ _ (s11_20.n8)
   have s12_23 := m23 _ _ (s12_20.n8)
   have low23 := ((low19.trans h21).upd u22 geg9)
   clear m23
   refine e_then (region_low_tail 14 hm (by kernel_rfl) ?_)
   simp only [List.take_succ_cons, List.take_zero, List.drop_succ_cons, List.drop_zero]
   refine qs (q_row rfl Tryz.underlying69 rfl (sz69.trans (congrArg some ((nums_size _ _).trans (cl_len (stepsX l m (stepsL l c 58) stepL 58 k))).symm)) s11_23.ev (fun _ h => h.blk kg11_22) ?_)
   refine qs (q_move _ _ rfl (s12_23.n1).ev ?_)
   refine qs (q_move _ _ rfl (s1_23.n2).ev ?_)
   refine qs (q_move _ _ rfl (s12_23.n3).ev ?_)
   refine qs (q_nil rfl ((At.hit z23.p2 rfl).n1).ev ?_)
   refine qs (q_idx (j := k + 58) rfl Tryz.underlying66 sz64 (At.hit z23.p4 rfl).ev ((At.hit z23.p3 rfl).n1).ev (by omega) ?_)
   refine qs (q_cell (.int .u32 (l.getD (k + 58) 0)) rfl Tryz.underlying64 (At.hit z23.p5 rfl).ev (fun _ h => nums_cell (h.blk kgl_22) (k + 58) (by rw [hl]; omega)) ?_)
   refine qs (q_move _ _ rfl (s2_23.n7).ev ?_)
   refine q_fresh z23.p8 ?_
   intro a24 z24 m24
   have s1_24 := m24 _ _ (s1_23.n8)
   have s2_24 := m24 _ _ (s2_23.n8)
   have s3_24 := m24 _ _ (s3_23.n8)
   have s9_24 := m24 _ _ (s9_23.n8)
   have s10_24 := m24 _ _ (s10_23.n8)
   have s11_24 := m24 _ _ (s11_23.n8)
   have s12_24 := m24 _ _ (s12_23.n8)
   have s42_24 := m24 _ _ ((At.hit z23 rfl).n7)
   have s43_24 := m24 _ _ ((At.hit z23.put rfl).n6)
   have s48_24 := m24 _ _ ((At.hit z23.p6 rfl).n1)
   have s49_24 := m24 _ _ (At.hit z23.p7 rfl)
   clear m24
   refine qs (q_move _ _ rfl s12_24.ev ?_)
   refine qs (q_nil rfl (s49_24.n1).ev ?_)
   refine qs (q_idxA (i := om) (j := k + 58) rfl Tryz.underlying66 sz64 (At.hit z24.put rfl).ev ((At.hit z24 rfl).n1).ev (by omega) ?_)
   refine qs (q_cell (.int .u32 (m.getD (k + 58) 0)) rfl Tryz.underlying64 (At.hit z24.p2 rfl).ev (fun _ h => (kgm_22.low h).cell (k + 58) (by rw [hm']; omega)) ?_)
   refine qs (q_xor rfl (s48_24.n4).ev (At.hit z24.p3 rfl).ev ?_)
   refine qs (q_call (.agg (nums .u32 (cl (stepL (stepsX l m (stepsL l c 58) stepL 58 k) ((k + 58 : Nat) : Int) (Go.bits .xor .u32 (l.getD (k + 58) 0) (m.getD (k + 58) 0)))))) rfl rfl Tryz.func63 rfl (args3 rfl (s42_24.n5).ev (s43_24.n5).ev (At.hit z24.p4 rfl).ev) (fun _ h => (StepL.calls (stepsX l m (stepsL l c 58) stepL 58 k) ((k + 58 : Nat) : Int) (Go.bits .xor .u32 (l.getD (k + 58) 0) (m.getD (k + 58) 0)) _).mono fun _ _ ⟨e, k⟩ => ⟨e, h.trans k⟩) ?_)
   refine qz ?_
   intro w25 h25
   have kg10_25 := h25.blk kg10_22
   have kg11_25 := h25.blk kg11_22
   have kg3_25 := h25.blk kg3_22
   have kg9_25 := h25.blk k22
   have kgl_25 := h25.blk kgl_22
   have kgm_25 := kgm_22.low h25
   refine l_row rfl rfl rfl (sz69.trans (congrArg some ((nums_size _ _).trans (cl_len (stepL (stepsX l m (stepsL l c 58) stepL 58 k) ((k + 58 : Nat) : Int) (Go.bits .xor .u32 (l.getD (k + 58) 0) (m.getD (k + 58) 0))))).symm)) (s11_24.n6).ev (At.hit z24.p5 rfl).ev (nums_one _ _) kg11_25 (((nums_size _ _).trans (cl_len (stepsX l m (stepsL l c 58) stepL 58 k))).trans ((nums_size _ _).trans (cl_len (stepL (stepsX l m (stepsL l c 58) stepL 58 k) ((k + 58 : Nat) : Int) (Go.bits .xor .u32 (l.getD (k + 58) 0) (m.getD (k + 58) 0))))).symm) ?_
   intro w26 k26 u26
   have kg10_26 := u26.blk kg10_25 (by omega)
   have kg3_26 := u26.blk kg3_25 (by omega)
   have kg9_26 := u26.blk kg9_25 (by omega)
   have kgl_26 := u26.blk kgl_25 (by omega)
   have kgm_26 := kgm_25.upd u26 (by omega)
   refine l_end (e_fresh z24.p6 ?_)
   intro a27 z27 m27
   have s1_27 := m27 _ _ (s1_24.n6)
   have s2_27 := m27 _ _ (s2_24.n6)
   have s3_27 := m27 _ _ (s3_24.n6)
   have s9_27 := m27 _ _ (s9_24.n6)
   have s10_27 := m27 _ _ (s10_24.n6)
   have s11_27 := m27 _ _ (s11_24.n6)
   have s12_27 := m27 _ _ (s12_24.n6)
   have low27 := ((low23.trans h25).upd u26 geg11)
   clear m27
   refine e_in (e_then (c_region ?_))
   refine l_q rfl (q_move _ _ rfl s12_27.ev ?_)
   refine l_q rfl (q_add (((k + 59 : Nat) : Int)) rfl (At.hit z27 rfl).ev rfl (i64_is (by omega) (by omega) (by omega)) ?_)
   refine l_q rfl (q_assign _ _ rfl (At.hit z27.put rfl).ev ?_)
   refine l_end (e_fresh z27.p3 ?_)
   intro a28 z28 m28
   have s1_28 := m28 _ _ (s1_27.n3)
   have s2_28 := m28 _ _ (s2_27.n3)
   have s3_28 := m28 _ _ (s3_27.n3)
   have s9_28 := m28 _ _ (s9_27.n3)
   have s10_28 := m28 _ _ (s10_27.n3)
   have s11_28 := m28 _ _ (s11_27.n3)
   have s12_28 := m28 _ _ (At.hit z27.p2 rfl)
   clear m28
   exact ⟨z28, s1_28, s2_28, s3_28, s9_28, s10_28, s11_28, (s12_28.same (congrArg (Value.int .i64) (by omega))), kg10_26, k26, kg3_26, kg9_26, kgl_26, kgm_26, low27⟩
  ·
   intro a29 w29 h
   obtain ⟨z29, s1_29, s2_29, s3_29, s9_29, s10_29, s11_29, s12_29, kg10_29, kg11_29, kg3_29, kg9_29, kgl_29, kgm_29, low29⟩ := h
   clear kg10 kg11 kg3_16 kg9 kgl_16 kgm_16 low17 s10_18 s11_18 s12_18 s1_18 s2_18 s3_18 s9_18 z18
   refine c_seq (c_seq (c_region ?_))
   refine l_q rfl (q_move _ _ rfl s12_29.ev ?_)
   refine l_q rfl (q_lss false rfl (At.hit z29 rfl).ev rfl (decide_eq_false (by omega)) ?_)
   refine l_end (e_fresh z29.p2 ?_)
   intro a30 z30 m30
   have s1_30 := m30 _ _ (s1_29.n2)
   have s2_30 := m30 _ _ (s2_29.n2)
   have s3_30 := m30 _ _ (s3_29.n2)
   have s9_30 := m30 _ _ (s9_29.n2)
   have s10_30 := m30 _ _ (s10_29.n2)
   have s11_30 := m30 _ _ (s11_29.n2)
   have s12_30 := m30 _ _ (s12_29.n2)
   have s31_30 := m30 _ _ (At.hit z29.put rfl)
   clear m30
   refine e_then (c_false s31_30 ?_)
   refine wp_exit (x_then (x_then (in_exit (e_then (c_seq (c_seq (c_region ?_)))))))
   refine l_q rfl (q_assign _ _ rfl rfl ?_)
   refine l_end (e_fresh z30.put ?_)
   intro a31 z31 m31
   have s1_31 := m31 _ _ (s1_30.n1)
   have s2_31 := m31 _ _ (s2_30.n1)
   have s3_31 := m31 _ _ (s3_30.n1)
   have s9_31 := m31 _ _ (s9_30.n1)
   have s10_31 := m31 _ _ (s10_30.n1)
   have s11_31 := m31 _ _ (s11_30.n1)
   have s13_31 := m31 _ _ (At.hit z30 rfl)
   clear m31
   refine e_then (wp_block (c_loop 58 (fun k a w => Fr 81 a ∧ At a 1 (.pointer (some ⟨gl, 0, none⟩)) ∧ At a 2 (.pointer (some ⟨gm, om, none⟩)) ∧ At a 3 (.pointer (some ⟨g3, 0, none⟩)) ∧ At a 9 (.pointer (some ⟨g9, 0, none⟩)) ∧ At a 10 (.pointer (some ⟨g10, 0, none⟩)) ∧ At a 11 (.pointer (some ⟨g11, 0, none⟩)) ∧ At a 13 (.int .i64 (57 - ((k : Nat) : Int))) ∧ w.heap[g10]? = some (.cells (nums .u32 (cl (backX l m (stepsL l c 58) backL k))) 69) ∧ w.heap[g11]? = some (.cells (nums .u32 (cl (stepsX l m (stepsL l c 58) stepL 58 22))) 69) ∧ w.heap[g3]? = some (.cells (nums .u32 (cl c)) 69) ∧ w.heap[g9]? = some (.cells (nums .u32 (cl (stepsO l (stepsL l c 58) 58 22))) 69) ∧ w.heap[gl]? = some (.cells (nums .u32 l) 66) ∧ RdW w gm om m ∧ Low w0 w) ?_ ?_ ?_))
   ·
    exact ⟨z31, s1_31, s2_31, s3_31, s9_31, s10_31, s11_31, (s13_31.same (congrArg (Value.int .i64) (by omega))), kg10_29, kg11_29, kg3_29, kg9_29, kgl_29, kgm_29, low29⟩
   ·
    intro k a32 w32 hk32 h
    obtain ⟨z32, s1_32, s2_32, s3_32, s9_32, s10_32, s11_32, s13_32, kg10_32, kg11_32, kg3_32, kg9_32, kgl_32, kgm_32, low32⟩ := h
    clear kg10_29 kg11_29 kg3_29 kg9_29 kgl_29 kgm_29 low29 s10_31 s11_31 s13_31 s1_31 s2_31 s3_31 s9_31 z31
    refine c_seq (c_seq (c_region ?_))
    refine l_q rfl (q_move _ _ rfl s13_32.ev ?_)
    refine l_q rfl (q_geq true rfl (At.hit z32 rfl).ev rfl (decide_eq_true (by omega)) ?_)
    refine l_end (e_fresh z32.p2 ?_)
    intro a33 z33 m33
    have s1_33 := m33 _ _ (s1_32.n2)
    have s2_33 := m33 _ _ (s2_32.n2)
    have s3_33 := m33 _ _ (s3_32.n2)
    have s9_33 := m33 _ _ (s9_32.n2)
    have s10_33 := m33 _ _ (s10_32.n2)
    have s11_33 := m33 _ _ (s11_32.n2)
    have s13_33 := m33 _ _ (s13_32.n2)
    have s57_33 := m33 _ _ (At.hit z32.put rfl)
    clear m33
    refine e_then (c_true s57_33 ?_)
    refine wp_skip (e_then (c_seq (wp_block (region_low_tail 14 hm (by kernel_rfl) ?_))))
    simp only [List.take_succ_cons, List.take_zero, List.drop_succ_cons, List.drop_zero]
    refine qs (q_row rfl Tryz.underlying69 rfl (sz69.trans (congrArg some ((nums_size _ _).trans (cl_len (backX l m (stepsL l c 58) backL k))).symm)) s10_33.ev (fun _ h => h.blk kg10_32) ?_)
    refine qs (q_move _ _ rfl (s13_33.n1).ev ?_)
    refine qs (q_move _ _ rfl (s1_33.n2).ev ?_)
    refine qs (q_move _ _ rfl (s13_33.n3).ev ?_)
    refine qs (q_nil rfl ((At.hit z33.p2 rfl).n1).ev ?_)
    refine qs (q_idx (j := 57 - k) rfl Tryz.underlying66 sz64 (At.hit z33.p4 rfl).ev (((At.hit z33.p3 rfl).n1).same (congrArg (Value.int .i64) (show ((57 - ((k : Nat) : Int)) : Int) = ((57 - k : Nat) : Int) by omega))).ev (by omega) ?_)
    refine qs (q_cell (.int .u32 (l.getD (57 - k) 0)) rfl Tryz.underlying64 (At.hit z33.p5 rfl).ev (fun _ h => nums_cell (h.blk kgl_32) (57 - k) (by rw [hl]; omega)) ?_)
    refine qs (q_move _ _ rfl (s2_33.n7).ev ?_)
    refine q_fresh z33.p8 ?_
    intro a34 z34 m34
    have s1_34 := m34 _ _ (s1_33.n8)
    have s2_34 := m34 _ _ (s2_33.n8)
    have s3_34 := m34 _ _ (s3_33.n8)
    have s9_34 := m34 _ _ (s9_33.n8)
    have s10_34 := m34 _ _ (s10_33.n8)
    have s11_34 := m34 _ _ (s11_33.n8)
    have s13_34 := m34 _ _ (s13_33.n8)
    have s60_34 := m34 _ _ ((At.hit z33 rfl).n7)
    have s61_34 := m34 _ _ ((At.hit z33.put rfl).n6)
    have s66_34 := m34 _ _ ((At.hit z33.p6 rfl).n1)
    have s67_34 := m34 _ _ (At.hit z33.p7 rfl)
    clear m34
    refine qs (q_move _ _ rfl s13_34.ev ?_)
    refine qs (q_nil rfl (s67_34.n1).ev ?_)
    refine qs (q_idxA (i := om) (j := 57 - k) rfl Tryz.underlying66 sz64 (At.hit z34.put rfl).ev (((At.hit z34 rfl).n1).same (congrArg (Value.int .i64) (show ((57 - ((k : Nat) : Int)) : Int) = ((57 - k : Nat) : Int) by omega))).ev (by omega) ?_)
    refine qs (q_cell (.int .u32 (m.getD (57 - k) 0)) rfl Tryz.underlying64 (At.hit z34.p2 rfl).ev (fun _ h => (kgm_32.low h).cell (57 - k) (by rw [hm']; omega)) ?_)
    refine qs (q_xor rfl (s66_34.n4).ev (At.hit z34.p3 rfl).ev ?_)
    refine qs (q_call (.agg (nums .u32 (cl (backL (backX l m (stepsL l c 58) backL k) (57 - ((k : Nat) : Int)) (Go.bits .xor .u32 (l.getD (57 - k) 0) (m.getD (57 - k) 0)))))) rfl rfl Tryz.func64 rfl (args3 rfl (s60_34.n5).ev (s61_34.n5).ev (At.hit z34.p4 rfl).ev) (fun _ h => (BackL.calls (backX l m (stepsL l c 58) backL k) (57 - ((k : Nat) : Int)) (Go.bits .xor .u32 (l.getD (57 - k) 0) (m.getD (57 - k) 0)) _).mono fun _ _ ⟨e, k⟩ => ⟨e, h.trans k⟩) ?_)
    refine qz ?_
    intro w35 h35
    have kg10_35 := h35.blk kg10_32
    have kg11_35 := h35.blk kg11_32
    have kg3_35 := h35.blk kg3_32
    have kg9_35 := h35.blk kg9_32
    have kgl_35 := h35.blk kgl_32
    have kgm_35 := kgm_32.low h35
    refine l_row rfl rfl rfl (sz69.trans (congrArg some ((nums_size _ _).trans (cl_len (backL (backX l m (stepsL l c 58) backL k) (57 - ((k : Nat) : Int)) (Go.bits .xor .u32 (l.getD (57 - k) 0) (m.getD (57 - k) 0))))).symm)) (s10_34.n6).ev (At.hit z34.p5 rfl).ev (nums_one _ _) kg10_35 (((nums_size _ _).trans (cl_len (backX l m (stepsL l c 58) backL k))).trans ((nums_size _ _).trans (cl_len (backL (backX l m (stepsL l c 58) backL k) (57 - ((k : Nat) : Int)) (Go.bits .xor .u32 (l.getD (57 - k) 0) (m.getD (57 - k) 0))))).symm) ?_
    intro w36 k36 u36
    have kg11_36 := u36.blk kg11_35 (by omega)
    have kg3_36 := u36.blk kg3_35 (by omega)
    have kg9_36 := u36.blk kg9_35 (by omega)
    have kgl_36 := u36.blk kgl_35 (by omega)
    have kgm_36 := kgm_35.upd u36 (by omega)
    refine l_end (e_fresh z34.p6 ?_)
    intro a37 z37 m37
    have s1_37 := m37 _ _ (s1_34.n6)
    have s2_37 := m37 _ _ (s2_34.n6)
    have s3_37 := m37 _ _ (s3_34.n6)
    have s9_37 := m37 _ _ (s9_34.n6)
    have s10_37 := m37 _ _ (s10_34.n6)
    have s11_37 := m37 _ _ (s11_34.n6)
    have s13_37 := m37 _ _ (s13_34.n6)
    have low37 := ((low32.trans h35).upd u36 geg10)
    clear m37
    refine e_in (e_then (c_region ?_))
    refine l_q rfl (q_move _ _ rfl s13_37.ev ?_)
    refine l_q rfl (q_sub ((56 - ((k : Nat) : Int))) rfl (At.hit z37 rfl).ev rfl (i64_is (by omega) (by omega) (by omega)) ?_)
    refine l_q rfl (q_assign _ _ rfl (At.hit z37.put rfl).ev ?_)
    refine l_end (e_fresh z37.p3 ?_)
    intro a38 z38 m38
    have s1_38 := m38 _ _ (s1_37.n3)
    have s2_38 := m38 _ _ (s2_37.n3)
    have s3_38 := m38 _ _ (s3_37.n3)
    have s9_38 := m38 _ _ (s9_37.n3)
    have s10_38 := m38 _ _ (s10_37.n3)
    have s11_38 := m38 _ _ (s11_37.n3)
    have s13_38 := m38 _ _ (At.hit z37.p2 rfl)
    clear m38
    exact ⟨z38, s1_38, s2_38, s3_38, s9_38, s10_38, s11_38, (s13_38.same (congrArg (Value.int .i64) (by omega))), k36, kg11_36, kg3_36, kg9_36, kgl_36, kgm_36, low37⟩
   ·
    intro a39 w39 h
    obtain ⟨z39, s1_39, s2_39, s3_39, s9_39, s10_39, s11_39, s13_39, kg10_39, kg11_39, kg3_39, kg9_39, kgl_39, kgm_39, low39⟩ := h
    clear kg10_29 kg11_29 kg3_29 kg9_29 kgl_29 kgm_29 low29 s10_31 s11_31 s13_31 s1_31 s2_31 s3_31 s9_31 z31
    refine c_seq (c_seq (c_region ?_))
    refine l_q rfl (q_move _ _ rfl s13_39.ev ?_)
    refine l_q rfl (q_geq false rfl (At.hit z39 rfl).ev rfl (decide_eq_false (by omega)) ?_)
    refine l_end (e_fresh z39.p2 ?_)
    intro a40 z40 m40
    have s1_40 := m40 _ _ (s1_39.n2)
    have s2_40 := m40 _ _ (s2_39.n2)
    have s3_40 := m40 _ _ (s3_39.n2)
    have s9_40 := m40 _ _ (s9_39.n2)
    have s10_40 := m40 _ _ (s10_39.n2)
    have s11_40 := m40 _ _ (s11_39.n2)
    have s13_40 := m40 _ _ (s13_39.n2)
    have s57_40 := m40 _ _ (At.hit z39.put rfl)
    clear m40
    refine e_then (c_false s57_40 ?_)
    refine wp_exit (x_then (x_then (in_exit (e_then (c_seq (region_low hm (by kernel_rfl) ?_))))))
    refine qs (q_row rfl Tryz.underlying69 rfl (sz69.trans (congrArg some ((nums_size _ _).trans (cl_len (backX l m (stepsL l c 58) backL 58))).symm)) s10_40.ev (fun _ h => h.blk kg10_39) ?_)
    refine qs (q_row rfl Tryz.underlying69 rfl (sz69.trans (congrArg some ((nums_size _ _).trans (cl_len (stepsX l m (stepsL l c 58) stepL 58 22))).symm)) (s11_40.n1).ev (fun _ h => h.blk kg11_39) ?_)
    refine qs (q_call (.agg (nums .u32 (addL (cl (backX l m (stepsL l c 58) backL 58)) (cl (stepsX l m (stepsL l c 58) stepL 58 22)) 5))) rfl rfl Tryz.func65 rfl (args2 rfl ((At.hit z40 rfl).n1).ev (At.hit z40.put rfl).ev) (fun _ h => (Sum2.calls (backX l m (stepsL l c 58) backL 58) (stepsX l m (stepsL l c 58) stepL 58 22) _).mono fun _ _ ⟨e, k⟩ => ⟨e, h.trans k⟩) ?_)
    refine qs (q_row rfl Tryz.underlying69 rfl (sz69.trans (congrArg some ((nums_size _ _).trans (cl_len c)).symm)) (s3_40.n3).ev (fun _ h => h.blk kg3_39) ?_)
    refine qs (q_row rfl Tryz.underlying69 rfl (sz69.trans (congrArg some ((nums_size _ _).trans (cl_len (stepsO l (stepsL l c 58) 58 22))).symm)) (s9_40.n4).ev (fun _ h => h.blk kg9_39) ?_)
    refine qs (q_call (.agg (nums .u32 (addL (cl c) (cl (stepsO l (stepsL l c 58) 58 22)) 5))) rfl rfl Tryz.func65 rfl (args2 rfl ((At.hit z40.p3 rfl).n1).ev (At.hit z40.p4 rfl).ev) (fun _ h => (Sum2.calls c (stepsO l (stepsL l c 58) 58 22) _).mono fun _ _ ⟨e, k⟩ => ⟨e, h.trans k⟩) ?_)
    refine qs (q_eqrow _ rfl Tryz.eqGuardType69 Tryz.underlying69 Tryz.underlying64 info64 cells64 ((At.hit z40.p2 rfl).n3).ev (At.hit z40.p5 rfl).ev (addL_len (cl (backX l m (stepsL l c 58) backL 58)) _ 5) (addL_len (cl c) _ 5) rfl ?_)
    refine qs (q_assign _ _ rfl (At.hit z40.p6 rfl).ev ?_)
    refine qz ?_
    intro w41 h41
    have kg10_41 := h41.blk kg10_39
    have kg11_41 := h41.blk kg11_39
    have kg3_41 := h41.blk kg3_39
    have kg9_41 := h41.blk kg9_39
    have kgl_41 := h41.blk kgl_39
    have kgm_41 := kgm_39.low h41
    refine e_id (e_fresh z40.p8 ?_)
    intro a42 z42 m42
    have s6_42 := m42 _ _ (At.hit z40.p7 rfl)
    have low42 := (low39.trans h41)
    clear m42
    refine e_then (wp_ret (r_tmp rfl z42.defers s6_42 ?_))
    exact ⟨rfl, low42⟩
def markedL (c : Ch) (s : ByteArray) (ty K B : Int) : Bool := !decide (differenceL ty K B = List.replicate 80 0) && meetsL c (expandL s) (differenceL ty K B)
end Go.Proofs.YtfjhnnpdaggnbaaGreatDoor.Q
end
/-! A5 -/
section
namespace Go.Proofs.YtfjhnnpdaggnbaaGreatDoor.Q
open Go.Proofs.YtfjhnnpdaggnbaaGreatDoorW.PrintWords (bytesOf bytesOf_length)
open Go.RowKit Go.Proofs.YtfjhnnpdaggnbaaGreatDoor.P
set_option linter.unusedVariables false
set_option linter.unusedSimpArgs false
set_option maxRecDepth 100000
set_option maxHeartbeats 4000000
attribute [local irreducible] wpList wpQuiet qch Code.wp Oper.quiet Act.put At Region.wanted yielded
theorem byte5 : byteB Tryz.prog 5 = true := by kernel_rfl
def padN (s : ByteArray) : Nat := (119 - s.size % 64) % 64
def fR1 (s : ByteArray) : Nat → List Int
  | 0 => bytesOf s ++ [128]
  | k + 1 => fR1 s k ++ [0]
theorem fR1_len (s : ByteArray) : ∀ k, (fR1 s k).length = s.size + 1 + k
  | 0 => by simp [fR1, bytesOf_length]
  | k + 1 => by rw [fR1, List.length_append, fR1_len s k]; rfl
def lenByte (s : ByteArray) (k : Nat) : Int := IntKind.u8.wrap ((IntKind.u64.wrap (IntKind.u64.wrap (s.size : Int) * 8)).fdiv (2 ^ min (IntKind.u64.wrap (8 * IntKind.u64.wrap (7 - ((k : Nat) : Int)))).toNat 64))
def fR2 (s : ByteArray) : Nat → List Int
  | 0 => fR1 s (padN s)
  | k + 1 => fR2 s k ++ [lenByte s k]
theorem fR2_len (s : ByteArray) : ∀ k, (fR2 s k).length = s.size + 1 + padN s + k
  | 0 => fR1_len s _
  | k + 1 => by rw [fR2, List.length_append, fR2_len s k]; rfl
def fillR (s : ByteArray) : ByteArray := strOfNums (fR2 s 8)
theorem padN_yes (s : ByteArray) (k : Nat) (h : k < padN s) : ((s.size + 1 + k) % 64 : Nat) ≠ 56 := by unfold padN at h; omega
theorem padN_no (s : ByteArray) : ((s.size + 1 + padN s) % 64 : Nat) = 56 := by unfold padN; omega
theorem padN_le (s : ByteArray) : padN s ≤ 63 := by unfold padN; omega
theorem FillR.calls (s : ByteArray) (hs : s.size ≤ 140737488350000) (w0 : World) : Calls Tryz.prog 49 #[.string s] w0 fun e w' => e = .returned (.string (fillR s)) ∧ Low w0 w' := by
 refine c_fun (R := _) Tryz.func49 rfl 36 rfl (Nat.le_of_ble_eq_true rfl) ?_
 intro a z hA
 have s0 := hA 0 _ rfl
 clear hA
 refine c_seq (c_region ?_)
 refine l_q rfl (q_assign _ _ rfl rfl ?_)
 refine l_end (e_fresh z.put ?_)
 intro a1 z1 m1
 have s0_1 := m1 _ _ (s0.n1)
 clear m1
 refine e_then (c_seq (c_region ?_))
 refine l_q rfl (q_move _ _ rfl s0_1.ev ?_)
 refine l_bytes (B := w0.heap.size) rfl rfl Tryz.underlying9 Tryz.underlying54 Tryz.underlying5 (At.hit z1 rfl).ev (Low.refl _).ge (by omega) ?_
 intro v2 w2 o2 h2
 refine l_build1 rfl rfl Tryz.underlying54 byte5 rfl ?_
 intro g8_3 w3 hg3 k3 h3
 have geg8_3 := Nat.le_trans h2.ge hg3
 have ob2_3 := o2.low h3
 refine l_appR (B := w0.heap.size) (ys := [128]) rfl rfl Tryz.underlying54 Tryz.underlying54 byte5 ((At.hit z1.put rfl).n1).ev (At.hit z1.p2 rfl).ev k3 ob2_3 (h2.trans h3).ge (by rw [(bytesOf_length s)]; simp only [List.length_cons, List.length_nil]; omega) ?_
 intro v4 w4 o4 gr4
 have lw4 := (h2.trans h3).gr gr4
 refine l_q rfl (q_assign _ _ rfl (At.hit z1.p3 rfl).ev ?_)
 refine l_end (e_fresh z1.p5 ?_)
 intro a5 z5 m5
 have s0_5 := m5 _ _ (s0_1.n5)
 have s3_5 := m5 _ _ (At.hit z1.p4 rfl)
 have low5 := lw4
 clear m5
 refine e_then (c_seq (wp_block (c_loop (padN s) (fun k a w => ∃ v3 : Value, Fr 36 a ∧ At a 0 (.string s) ∧ At a 3 (v3) ∧ OwnB w w0.heap.size 5 v3 (fR1 s k) ∧ Low w0 w) ?_ ?_ ?_)))
 ·
  exact ⟨v4, z5, s0_5, s3_5, o4, low5⟩
 ·
  intro k a6 w6 hk6 h
  obtain ⟨v3_6, z6, s0_6, s3_6, ox3_6, low6⟩ := h
  clear low5 s0_5 s3_5 z5
  have hpl := padN_le s
  refine c_seq (c_seq (c_region ?_))
  refine l_q rfl (q_move _ _ rfl s3_6.ev ?_)
  refine l_q rfl (q_lenB rfl rfl Tryz.underlying54 (At.hit z6 rfl).ev ox3_6 (s.size + k + 1) ((fR1_len s k).trans (by omega)) ?_)
  refine l_q rfl (q_rem (m := s.size + k + 1) (n := 64) (by omega) rfl (At.hit z6.put rfl).ev rfl ?_)
  refine l_q rfl (q_neq true rfl (At.hit z6.p2 rfl).ev rfl (decide_eq_true (by have := padN_yes s k (by assumption); omega)) ?_)
  refine l_end (e_fresh z6.p4 ?_)
  intro a7 z7 m7
  have s0_7 := m7 _ _ (s0_6.n4)
  have s3_7 := m7 _ _ (s3_6.n4)
  have s13_7 := m7 _ _ (At.hit z6.p3 rfl)
  clear m7
  refine e_then (c_true s13_7 ?_)
  refine wp_skip (e_then (wp_block (c_region ?_)))
  refine l_q rfl (q_move _ _ rfl s3_7.ev ?_)
  refine l_build1 rfl rfl Tryz.underlying54 byte5 rfl ?_
  intro g15_8 w8 hg8 k8 h8
  have geg15_8 := Nat.le_trans low6.ge hg8
  have ox3_8 := ox3_6.low h8
  refine l_appR (B := w0.heap.size) (ys := [0]) rfl rfl Tryz.underlying54 Tryz.underlying54 byte5 ((At.hit z7 rfl).n1).ev (At.hit z7.put rfl).ev k8 ox3_8 (low6.trans h8).ge (by rw [(fR1_len s k)]; simp only [List.length_cons, List.length_nil]; omega) ?_
  intro v9 w9 o9 gr9
  have lw9 := (low6.trans h8).gr gr9
  refine l_q rfl (q_assign _ _ rfl (At.hit z7.p2 rfl).ev ?_)
  refine l_end (e_fresh z7.p4 ?_)
  intro a10 z10 m10
  have s0_10 := m10 _ _ (s0_7.n4)
  have s3_10 := m10 _ _ (At.hit z7.p3 rfl)
  have low10 := lw9
  clear m10
  refine e_in ?_
  exact ⟨v9, z10, s0_10, s3_10, o9, low10⟩
 ·
  intro a11 w11 h
  obtain ⟨v3_11, z11, s0_11, s3_11, ox3_11, low11⟩ := h
  clear low5 s0_5 s3_5 z5
  have hpl := padN_le s
  refine c_seq (c_seq (c_region ?_))
  refine l_q rfl (q_move _ _ rfl s3_11.ev ?_)
  refine l_q rfl (q_lenB rfl rfl Tryz.underlying54 (At.hit z11 rfl).ev ox3_11 (s.size + (padN s) + 1) ((fR1_len s (padN s)).trans (by omega)) ?_)
  refine l_q rfl (q_rem (m := s.size + (padN s) + 1) (n := 64) (by omega) rfl (At.hit z11.put rfl).ev rfl ?_)
  refine l_q rfl (q_neq false rfl (At.hit z11.p2 rfl).ev rfl (decide_eq_false (by have := padN_no s; omega)) ?_)
  refine l_end (e_fresh z11.p4 ?_)
  intro a12 z12 m12
  have s0_12 := m12 _ _ (s0_11.n4)
  have s3_12 := m12 _ _ (s3_11.n4)
  have s13_12 := m12 _ _ (At.hit z11.p3 rfl)
  clear m12
  refine e_then (c_false s13_12 ?_)
  refine wp_exit (x_then (x_then (in_exit (e_then (c_seq (c_region ?_))))))
  refine l_q rfl (q_move _ _ rfl s0_12.ev ?_)
  refine l_q rfl (q_len rfl rfl Tryz.underlying9 (At.hit z12 rfl).ev ?_)
  refine l_q rfl (q_conv _ rfl (At.hit z12.put rfl).ev Tryz.underlying3 Tryz.underlying87 rfl ?_)
  refine l_q rfl (q_mul _ rfl (At.hit z12.p2 rfl).ev rfl rfl ?_)
  refine l_q rfl (q_assign _ _ rfl (At.hit z12.p3 rfl).ev ?_)
  refine l_end (e_fresh z12.p5 ?_)
  intro a13 z13 m13
  have s3_13 := m13 _ _ (s3_12.n5)
  have s4_13 := m13 _ _ (At.hit z12.p4 rfl)
  clear m13
  refine e_then (c_seq (c_seq (c_region ?_)))
  refine l_q rfl (q_assign _ _ rfl rfl ?_)
  refine l_end (e_fresh z13.put ?_)
  intro a14 z14 m14
  have s3_14 := m14 _ _ (s3_13.n1)
  have s4_14 := m14 _ _ (s4_13.n1)
  have s5_14 := m14 _ _ (At.hit z13 rfl)
  clear m14
  refine e_then (wp_block (c_loop 8 (fun k a w => ∃ v3 : Value, Fr 36 a ∧ At a 3 (v3) ∧ At a 4 (.int .u64 (IntKind.u64.wrap ((IntKind.u64.wrap ((s.size : Nat) : Int)) * 8))) ∧ At a 5 (.int .i64 (7 - ((k : Nat) : Int))) ∧ OwnB w w0.heap.size 5 v3 (fR2 s k) ∧ Low w0 w) ?_ ?_ ?_))
  ·
   exact ⟨v3_11, z14, s3_14, s4_14, (s5_14.same (congrArg (Value.int .i64) (by omega))), ox3_11, low11⟩
  ·
   intro k a15 w15 hk15 h
   obtain ⟨v3_15, z15, s3_15, s4_15, s5_15, ox3_15, low15⟩ := h
   clear low11 s3_14 s4_14 s5_14 z14
   have hpl := padN_le s
   refine c_seq (c_seq (c_region ?_))
   refine l_q rfl (q_move _ _ rfl s5_15.ev ?_)
   refine l_q rfl (q_geq true rfl (At.hit z15 rfl).ev rfl (decide_eq_true (by omega)) ?_)
   refine l_end (e_fresh z15.p2 ?_)
   intro a16 z16 m16
   have s3_16 := m16 _ _ (s3_15.n2)
   have s4_16 := m16 _ _ (s4_15.n2)
   have s5_16 := m16 _ _ (s5_15.n2)
   have s22_16 := m16 _ _ (At.hit z15.put rfl)
   clear m16
   refine e_then (c_true s22_16 ?_)
   refine wp_skip (e_then (c_seq (wp_block (c_region ?_))))
   refine l_q rfl (q_move _ _ rfl s3_16.ev ?_)
   refine l_q rfl (q_move _ _ rfl (s4_16.n1).ev ?_)
   refine l_q rfl (q_move _ _ rfl (s5_16.n2).ev ?_)
   refine l_q rfl (q_conv _ rfl (At.hit z16.p2 rfl).ev Tryz.underlying3 Tryz.underlying79 rfl ?_)
   refine l_q rfl (q_mul _ rfl rfl (At.hit z16.p3 rfl).ev rfl ?_)
   refine l_q rfl (q_shr ((IntKind.u64.wrap ((IntKind.u64.wrap ((s.size : Nat) : Int)) * 8)).fdiv (2 ^ min (IntKind.u64.wrap (8 * (IntKind.u64.wrap (7 - ((k : Nat) : Int)))) : Int).toNat 64)) rfl ((At.hit z16.put rfl).n3).ev (At.hit z16.p4 rfl).ev (by first | omega | exact u64_nonneg _) rfl ?_)
   refine l_q rfl (q_conv _ rfl (At.hit z16.p5 rfl).ev Tryz.underlying87 Tryz.underlying5 rfl ?_)
   refine l_build1 rfl rfl Tryz.underlying54 byte5 (At.hit z16.p6 rfl).ev ?_
   intro g32_17 w17 hg17 k17 h17
   have geg32_17 := Nat.le_trans low15.ge hg17
   have ox3_17 := ox3_15.low h17
   refine l_fresh z16.p8 ?_
   intro a18 z18 m18
   have s3_18 := m18 _ _ (s3_16.n8)
   have s4_18 := m18 _ _ (s4_16.n8)
   have s5_18 := m18 _ _ (s5_16.n8)
   have s25_18 := m18 _ _ ((At.hit z16 rfl).n7)
   have s32_18 := m18 _ _ (At.hit z16.p7 rfl)
   clear m18
   refine l_appR (B := w0.heap.size) (ys := [IntKind.u8.wrap ((IntKind.u64.wrap ((IntKind.u64.wrap ((s.size : Nat) : Int)) * 8)).fdiv (2 ^ min (IntKind.u64.wrap (8 * (IntKind.u64.wrap (7 - ((k : Nat) : Int)))) : Int).toNat 64))]) rfl rfl Tryz.underlying54 Tryz.underlying54 byte5 s25_18.ev s32_18.ev k17 ox3_17 (low15.trans h17).ge (by rw [(fR2_len s k)]; simp only [List.length_cons, List.length_nil]; omega) ?_
   intro v19 w19 o19 gr19
   have lw19 := (low15.trans h17).gr gr19
   refine l_q rfl (q_assign _ _ rfl (At.hit z18 rfl).ev ?_)
   refine l_end (e_fresh z18.p2 ?_)
   intro a20 z20 m20
   have s3_20 := m20 _ _ (At.hit z18.put rfl)
   have s4_20 := m20 _ _ (s4_18.n2)
   have s5_20 := m20 _ _ (s5_18.n2)
   have low20 := lw19
   clear m20
   refine e_in (e_then (c_region ?_))
   refine l_q rfl (q_move _ _ rfl s5_20.ev ?_)
   refine l_q rfl (q_sub ((6 - ((k : Nat) : Int))) rfl (At.hit z20 rfl).ev rfl (i64_is (by omega) (by omega) (by omega)) ?_)
   refine l_q rfl (q_assign _ _ rfl (At.hit z20.put rfl).ev ?_)
   refine l_end (e_fresh z20.p3 ?_)
   intro a21 z21 m21
   have s3_21 := m21 _ _ (s3_20.n3)
   have s4_21 := m21 _ _ (s4_20.n3)
   have s5_21 := m21 _ _ (At.hit z20.p2 rfl)
   clear m21
   exact ⟨v19, z21, s3_21, s4_21, (s5_21.same (congrArg (Value.int .i64) (by omega))), o19, low20⟩
  ·
   intro a22 w22 h
   obtain ⟨v3_22, z22, s3_22, s4_22, s5_22, ox3_22, low22⟩ := h
   clear low11 s3_14 s4_14 s5_14 z14
   have hpl := padN_le s
   refine c_seq (c_seq (c_region ?_))
   refine l_q rfl (q_move _ _ rfl s5_22.ev ?_)
   refine l_q rfl (q_geq false rfl (At.hit z22 rfl).ev rfl (decide_eq_false (by omega)) ?_)
   refine l_end (e_fresh z22.p2 ?_)
   intro a23 z23 m23
   have s3_23 := m23 _ _ (s3_22.n2)
   have s4_23 := m23 _ _ (s4_22.n2)
   have s5_23 := m23 _ _ (s5_22.n2)
   have s22_23 := m23 _ _ (At.hit z22.put rfl)
   clear m23
   refine e_then (c_false s22_23 ?_)
   refine wp_exit (x_then (x_then (in_exit (e_then (c_seq (c_region ?_))))))
   refine l_q rfl (q_move _ _ rfl s3_23.ev ?_)
   refine l_q rfl (q_str rfl Tryz.underlying54 Tryz.underlying5 Tryz.underlying9 (At.hit z23 rfl).ev (fun _ e => by rw [e]; exact ox3_22) ?_)
   refine l_q rfl (q_assign _ _ rfl (At.hit z23.put rfl).ev ?_)
   refine l_end (e_fresh z23.p3 ?_)
   intro a24 z24 m24
   have s2_24 := m24 _ _ (At.hit z23.p2 rfl)
   clear m24
   refine e_then (wp_ret (r_tmp rfl z24.defers s2_24 ?_))
   exact ⟨rfl, low22⟩
def chOf (l : List Int) : Ch := (l.getD 0 0, l.getD 1 0, l.getD 2 0, l.getD 3 0, l.getD 4 0)
theorem cl_chOf (l : List Int) (h : l.length = 5) : cl (chOf l) = l := by
  match l, h with
  | [_, _, _, _, _], _ => rfl
def prR (c : Ch) (s : ByteArray) : Ch := chOf (pressR c s)
theorem cl_prR (c : Ch) (s : ByteArray) : cl (prR c s) = pressR c s := cl_chOf _ (addL_len (cl c) _ 5)
theorem PrR.calls (c : Ch) (s : ByteArray) (hs : s.size ≤ 9223372036854775807) (w0 : World) : Calls Tryz.prog 55 #[.agg (nums .u32 (cl c)), .string s] w0 fun e w' => e = .returned (.agg (nums .u32 (cl (prR c s)))) ∧ Low w0 w' := by
  rw [cl_prR]
  exact PressR.calls c s hs w0
def prL (c : Ch) (s : ByteArray) : Ch := chOf (pressL c s)
theorem cl_prL (c : Ch) (s : ByteArray) : cl (prL c s) = pressL c s := cl_chOf _ (addL_len (cl c) _ 5)
theorem PrL.calls (c : Ch) (s : ByteArray) (hs : s.size ≤ 9223372036854775807) (w0 : World) : Calls Tryz.prog 47 #[.agg (nums .u32 (cl c)), .string s] w0 fun e w' => e = .returned (.agg (nums .u32 (cl (prL c s)))) ∧ Low w0 w' := by
  rw [cl_prL]
  exact PressL.calls c s hs w0
theorem fillR_size (s : ByteArray) : (fillR s).size = s.size + 1 + padN s + 8 := by rw [fillR, strOfNums_size, fR2_len]
theorem fillR_mod (s : ByteArray) : (fillR s).size % 64 = 0 := by rw [fillR_size]; unfold padN; omega
def chR (s : ByteArray) : Nat → Ch
  | 0 => first
  | k + 1 => prR (chR s k) ((fillR s).extract (64 * k) (64 * k + 64))
def chainR (s : ByteArray) : Ch := chR s ((fillR s).size / 64)
def outR (x : Ch) : Nat → List Int
  | 0 => []
  | k + 1 => outR x k ++ [IntKind.u8.wrap (((cl x).getD k 0).fdiv (2 ^ min (24 : Int).toNat 32)), IntKind.u8.wrap (((cl x).getD k 0).fdiv (2 ^ min (16 : Int).toNat 32)), IntKind.u8.wrap (((cl x).getD k 0).fdiv (2 ^ min (8 : Int).toNat 32)), IntKind.u8.wrap ((cl x).getD k 0)]
theorem outR_len (x : Ch) : ∀ k, (outR x k).length = 4 * k
  | 0 => rfl
  | k + 1 => by rw [outR, List.length_append, outR_len x k]; simp only [List.length_cons, List.length_nil]; omega
def sumR (s : ByteArray) : ByteArray := strOfNums (outR (chainR s) 5)
theorem SumR.calls (s : ByteArray) (hs : s.size ≤ 140737488350000) (w0 : World) : Calls Tryz.prog 56 #[.string s] w0 fun e w' => e = .returned (.string (sumR s)) ∧ Low w0 w' := by
 refine c_fun (R := _) Tryz.func56 rfl 52 rfl (Nat.le_of_ble_eq_true rfl) ?_
 intro a z hA
 have s0 := hA 0 _ rfl
 clear hA
 refine c_seq (c_region ?_)
 refine l_q rfl (q_assign _ _ rfl rfl ?_)
 refine l_end (e_fresh z.put ?_)
 intro a1 z1 m1
 have s0_1 := m1 _ _ (s0.n1)
 clear m1
 refine e_then (c_seq (c_region ?_))
 refine l_q rfl (q_move _ _ rfl s0_1.ev ?_)
 refine l_call (fun v w' => v = .string (fillR s) ∧ Low w0 w') rfl rfl rfl Tryz.func49 rfl (args1 rfl (At.hit z1 rfl).ev) ((FillR.calls s hs _).mono fun _ _ ⟨e, k⟩ => ⟨_, e, rfl, k⟩) ?_
 rintro _ w2 ⟨rfl, h2⟩
 refine l_q rfl (q_assign _ _ rfl (At.hit z1.put rfl).ev ?_)
 refine l_end (e_fresh z1.p3 ?_)
 intro a3 z3 m3
 have s3_3 := m3 _ _ (At.hit z1.p2 rfl)
 have low3 := h2
 clear m3
 refine e_then (c_seq (c_region (l_call (fun v w' => v = .agg (nums .u32 (cl first)) ∧ Low w2 w') rfl rfl rfl Tryz.func53 rfl (show Array.map _ _ = (#[] : Array Value) from by simp) ((FirstR.calls _).mono fun _ _ ⟨e, k⟩ => ⟨_, e, rfl, k⟩) ?_)))
 rintro _ w4 ⟨rfl, h4⟩
 refine l_alloc rfl rfl zero68 ?_
 intro g4 w5 hg5 k5 h5
 have geg4 := Nat.le_trans (low3.trans h4).ge hg5
 refine l_row rfl rfl rfl (sz68.trans (congrArg some ((nums_size _ _).trans (cl_len first)).symm)) (At.hit z3.put rfl).ev ((At.hit z3 rfl).n1).ev (nums_one _ _) k5 (((nums_size _ _).trans (List.length_replicate)).trans ((nums_size _ _).trans (cl_len first)).symm) ?_
 intro w6 k6 u6
 refine l_end (e_fresh z3.p2 ?_)
 intro a7 z7 m7
 have s3_7 := m7 _ _ (s3_3.n2)
 have s4_7 := m7 _ _ (At.hit z3.put rfl)
 have low7 := (((low3.trans h4).trans h5).upd u6 geg4)
 clear m7
 refine e_then (c_seq (c_seq (c_region ?_)))
 refine l_q rfl (q_assign _ _ rfl rfl ?_)
 refine l_end (e_fresh z7.put ?_)
 intro a8 z8 m8
 have s3_8 := m8 _ _ (s3_7.n1)
 have s4_8 := m8 _ _ (s4_7.n1)
 have s5_8 := m8 _ _ (At.hit z7 rfl)
 clear m8
 refine e_then (wp_block (c_loop ((fillR s).size / 64) (fun k a w => Fr 52 a ∧ At a 3 (.string (fillR s)) ∧ At a 4 (.pointer (some ⟨g4, 0, none⟩)) ∧ At a 5 (.int .i64 ((64 * k : Nat) : Int)) ∧ w.heap[g4]? = some (.cells (nums .u32 (cl (chR s k))) 68) ∧ Low w0 w) ?_ ?_ ?_))
 ·
  exact ⟨z8, s3_8, s4_8, (s5_8.same (congrArg (Value.int .i64) (by omega))), k6, low7⟩
 ·
  intro k a9 w9 hk9 h
  obtain ⟨z9, s3_9, s4_9, s5_9, kg4_9, low9⟩ := h
  clear k6 low7 s3_8 s4_8 s5_8 z8
  have hfm := fillR_mod s
  have hfs := fillR_size s
  have hpl := padN_le s
  refine c_seq (c_seq (c_region ?_))
  refine l_q rfl (q_move _ _ rfl s5_9.ev ?_)
  refine l_q rfl (q_move _ _ rfl (s3_9.n1).ev ?_)
  refine l_q rfl (q_len rfl rfl Tryz.underlying9 (At.hit z9.put rfl).ev ?_)
  refine l_q rfl (q_lss true rfl ((At.hit z9 rfl).n2).ev (At.hit z9.p2 rfl).ev (decide_eq_true (by omega)) ?_)
  refine l_end (e_fresh z9.p4 ?_)
  intro a10 z10 m10
  have s3_10 := m10 _ _ (s3_9.n4)
  have s4_10 := m10 _ _ (s4_9.n4)
  have s5_10 := m10 _ _ (s5_9.n4)
  have s14_10 := m10 _ _ (At.hit z9.p3 rfl)
  clear m10
  refine e_then (c_true s14_10 ?_)
  refine wp_skip (e_then (c_seq (wp_block (region_low_tail 7 hm (by kernel_rfl) ?_))))
  simp only [List.take_succ_cons, List.take_zero, List.drop_succ_cons, List.drop_zero]
  refine qs (q_row rfl Tryz.underlying68 rfl (sz68.trans (congrArg some ((nums_size _ _).trans (cl_len (chR s k))).symm)) s4_10.ev (fun _ h => h.blk kg4_9) ?_)
  refine qs (q_move _ _ rfl (s3_10.n1).ev ?_)
  refine qs (q_move _ _ rfl (s5_10.n2).ev ?_)
  refine qs (q_move _ _ rfl (s5_10.n3).ev ?_)
  refine qs (q_add (((64 * k + 64 : Nat) : Int)) rfl (At.hit z10.p3 rfl).ev rfl (i64_is (by omega) (by omega) (by omega)) ?_)
  refine qs (q_cut (j := 64 * k) (k := 64 * k + 64) rfl Tryz.underlying9 ((At.hit z10.put rfl).n3).ev ((At.hit z10.p2 rfl).n2).ev (At.hit z10.p4 rfl).ev (by omega) (by omega) ?_)
  refine qs (q_call (.agg (nums .u32 (cl (prR (chR s k) ((fillR s).extract (64 * k) (64 * k + 64)))))) rfl rfl Tryz.func55 rfl (args2 rfl ((At.hit z10 rfl).n5).ev (At.hit z10.p5 rfl).ev) (fun _ h => (PrR.calls (chR s k) ((fillR s).extract (64 * k) (64 * k + 64)) (by first | omega | (simp only [ByteArray.size_extract]; omega)) _).mono fun _ _ ⟨e, k⟩ => ⟨e, h.trans k⟩) ?_)
  refine qz ?_
  intro w11 h11
  have kg4_11 := h11.blk kg4_9
  refine l_row rfl rfl rfl (sz68.trans (congrArg some ((nums_size _ _).trans (cl_len (prR (chR s k) ((fillR s).extract (64 * k) (64 * k + 64))))).symm)) (s4_10.n7).ev (At.hit z10.p6 rfl).ev (nums_one _ _) kg4_11 (((nums_size _ _).trans (cl_len (chR s k))).trans ((nums_size _ _).trans (cl_len (prR (chR s k) ((fillR s).extract (64 * k) (64 * k + 64))))).symm) ?_
  intro w12 k12 u12
  refine l_end (e_fresh z10.p7 ?_)
  intro a13 z13 m13
  have s3_13 := m13 _ _ (s3_10.n7)
  have s4_13 := m13 _ _ (s4_10.n7)
  have s5_13 := m13 _ _ (s5_10.n7)
  have low13 := ((low9.trans h11).upd u12 geg4)
  clear m13
  refine e_in (e_then (c_region ?_))
  refine l_q rfl (q_move _ _ rfl s5_13.ev ?_)
  refine l_q rfl (q_add (((64 * k + 64 : Nat) : Int)) rfl (At.hit z13 rfl).ev rfl (i64_is (by omega) (by omega) (by omega)) ?_)
  refine l_q rfl (q_assign _ _ rfl (At.hit z13.put rfl).ev ?_)
  refine l_end (e_fresh z13.p3 ?_)
  intro a14 z14 m14
  have s3_14 := m14 _ _ (s3_13.n3)
  have s4_14 := m14 _ _ (s4_13.n3)
  have s5_14 := m14 _ _ (At.hit z13.p2 rfl)
  clear m14
  exact ⟨z14, s3_14, s4_14, (s5_14.same (congrArg (Value.int .i64) (by omega))), k12, low13⟩
 ·
  intro a15 w15 h
  obtain ⟨z15, s3_15, s4_15, s5_15, kg4_15, low15⟩ := h
  clear k6 low7 s3_8 s4_8 s5_8 z8
  have hfm := fillR_mod s
  have hfs := fillR_size s
  have hpl := padN_le s
  refine c_seq (c_seq (c_region ?_))
  refine l_q rfl (q_move _ _ rfl s5_15.ev ?_)
  refine l_q rfl (q_move _ _ rfl (s3_15.n1).ev ?_)
  refine l_q rfl (q_len rfl rfl Tryz.underlying9 (At.hit z15.put rfl).ev ?_)
  refine l_q rfl (q_lss false rfl ((At.hit z15 rfl).n2).ev (At.hit z15.p2 rfl).ev (decide_eq_false (by omega)) ?_)
  refine l_end (e_fresh z15.p4 ?_)
  intro a16 z16 m16
  have s3_16 := m16 _ _ (s3_15.n4)
  have s4_16 := m16 _ _ (s4_15.n4)
  have s5_16 := m16 _ _ (s5_15.n4)
  have s14_16 := m16 _ _ (At.hit z15.p3 rfl)
  clear m16
  refine e_then (c_false s14_16 ?_)
  refine wp_exit (x_then (x_then (in_exit (e_then (c_seq (c_region ?_))))))
  refine l_q rfl (q_assign _ _ rfl rfl ?_)
  refine l_end (e_fresh z16.put ?_)
  intro a17 z17 m17
  have s4_17 := m17 _ _ (s4_16.n1)
  have s6_17 := m17 _ _ (At.hit z16 rfl)
  clear m17
  refine e_then (c_seq (c_seq (c_region ?_)))
  refine l_q rfl (q_assign _ _ rfl rfl ?_)
  refine l_end (e_fresh z17.put ?_)
  intro a18 z18 m18
  have s4_18 := m18 _ _ (s4_17.n1)
  have s6_18 := m18 _ _ (s6_17.n1)
  have s7_18 := m18 _ _ (At.hit z17 rfl)
  clear m18
  refine e_then (wp_block (c_loop 5 (fun k a w => ∃ v6 : Value, Fr 52 a ∧ At a 4 (.pointer (some ⟨g4, 0, none⟩)) ∧ At a 6 (v6) ∧ At a 7 (.int .i64 ((k : Nat) : Int)) ∧ w.heap[g4]? = some (.cells (nums .u32 (cl (chR s ((fillR s).size / 64)))) 68) ∧ OwnB w w0.heap.size 5 v6 (outR (chainR s) k) ∧ Low w0 w) ?_ ?_ ?_))
  ·
   exact ⟨.slice none 0 0, z18, s4_18, s6_18, s7_18, kg4_15, (OwnB.nil _ _ _), low15⟩
  ·
   intro k a19 w19 hk19 h
   obtain ⟨v6_19, z19, s4_19, s6_19, s7_19, kg4_19, ox6_19, low19⟩ := h
   clear kg4_15 low15 s4_18 s6_18 s7_18 z18
   refine c_seq (c_seq (c_region ?_))
   refine l_q rfl (q_move _ _ rfl s7_19.ev ?_)
   refine l_q rfl (q_lss true rfl (At.hit z19 rfl).ev rfl (decide_eq_true (by omega)) ?_)
   refine l_end (e_fresh z19.p2 ?_)
   intro a20 z20 m20
   have s4_20 := m20 _ _ (s4_19.n2)
   have s6_20 := m20 _ _ (s6_19.n2)
   have s7_20 := m20 _ _ (s7_19.n2)
   have s25_20 := m20 _ _ (At.hit z19.put rfl)
   clear m20
   refine e_then (c_true s25_20 ?_)
   refine wp_skip (e_then (c_seq (wp_block (region_some_tail 21 (TB [v6_19, .int .i64 ((k : Nat) : Int), .pointer (some ⟨g4, k, none⟩), .int .u32 ((cl (chR s ((fillR s).size / 64))).getD k 0), .int .u32 (((cl (chR s ((fillR s).size / 64))).getD k 0).fdiv (2 ^ min (24 : Int).toNat 32)), .int .u8 (IntKind.u8.wrap (((cl (chR s ((fillR s).size / 64))).getD k 0).fdiv (2 ^ min (24 : Int).toNat 32))), .int .i64 ((k : Nat) : Int), .pointer (some ⟨g4, k, none⟩), .int .u32 ((cl (chR s ((fillR s).size / 64))).getD k 0), .int .u32 (((cl (chR s ((fillR s).size / 64))).getD k 0).fdiv (2 ^ min (16 : Int).toNat 32)), .int .u8 (IntKind.u8.wrap (((cl (chR s ((fillR s).size / 64))).getD k 0).fdiv (2 ^ min (16 : Int).toNat 32))), .int .i64 ((k : Nat) : Int), .pointer (some ⟨g4, k, none⟩), .int .u32 ((cl (chR s ((fillR s).size / 64))).getD k 0), .int .u32 (((cl (chR s ((fillR s).size / 64))).getD k 0).fdiv (2 ^ min (8 : Int).toNat 32)), .int .u8 (IntKind.u8.wrap (((cl (chR s ((fillR s).size / 64))).getD k 0).fdiv (2 ^ min (8 : Int).toNat 32))), .int .i64 ((k : Nat) : Int), .pointer (some ⟨g4, k, none⟩), .int .u32 ((cl (chR s ((fillR s).size / 64))).getD k 0), .int .u8 (IntKind.u8.wrap ((cl (chR s ((fillR s).size / 64))).getD k 0)), undef] 20 [IntKind.u8.wrap (((cl (chR s ((fillR s).size / 64))).getD k 0).fdiv (2 ^ min (24 : Int).toNat 32)), IntKind.u8.wrap (((cl (chR s ((fillR s).size / 64))).getD k 0).fdiv (2 ^ min (16 : Int).toNat 32)), IntKind.u8.wrap (((cl (chR s ((fillR s).size / 64))).getD k 0).fdiv (2 ^ min (8 : Int).toNat 32)), IntKind.u8.wrap ((cl (chR s ((fillR s).size / 64))).getD k 0)] 5 w19) Low hm (by kernel_rfl) z20 (low_drawn _) (fun _ _ _ h k => Low.trans h k) TB_stable (allS_cons ?_ (allS_cons ?_ (allS_cons ?_ (allS_cons ?_ (allS_cons ?_ (allS_cons ?_ (allS_cons ?_ (allS_cons ?_ (allS_cons ?_ (allS_cons ?_ (allS_cons ?_ (allS_cons ?_ (allS_cons ?_ (allS_cons ?_ (allS_cons ?_ (allS_cons ?_ (allS_cons ?_ (allS_cons ?_ (allS_cons ?_ (allS_cons ?_ (allS_cons ?_ allS_nil))))))))))))))))))))) ?_))))
   ·
    exact (stepS_val (v6_19) _ rfl rfl rfl Low.refl (fun _ => TB_val rfl rfl) fun _ _ _ lw kp kn => q_move _ _ rfl (kp _ _ rfl s6_20).ev rfl)
   ·
    exact (stepS_val (.int .i64 ((k : Nat) : Int)) _ rfl rfl rfl Low.refl (fun _ => TB_val rfl rfl) fun _ _ _ lw kp kn => q_move _ _ rfl (kp _ _ rfl s7_20).ev rfl)
   ·
    exact (stepS_val (.pointer (some ⟨g4, k, none⟩)) _ rfl rfl rfl Low.refl (fun _ => TB_val rfl rfl) fun _ _ _ lw kp kn => q_idx (j := k) rfl Tryz.underlying68 sz64 (kp _ _ rfl s4_20).ev (TB_at (kn 1 _ rfl rfl) rfl rfl).ev (by omega) rfl)
   ·
    exact (stepS_val (.int .u32 ((cl (chR s ((fillR s).size / 64))).getD k 0)) _ rfl rfl rfl Low.refl (fun _ => TB_val rfl rfl) fun _ _ _ lw kp kn => q_cell (.int .u32 ((cl (chR s ((fillR s).size / 64))).getD k 0)) rfl Tryz.underlying64 (TB_at (kn 2 _ rfl rfl) rfl rfl).ev (fun _ e => by rw [e]; exact nums_cell (lw.blk kg4_19) k (by rw [(cl_len (chR s ((fillR s).size / 64)))]; omega)) rfl)
   ·
    exact (stepS_val (.int .u32 (((cl (chR s ((fillR s).size / 64))).getD k 0).fdiv (2 ^ min (24 : Int).toNat 32))) _ rfl rfl rfl Low.refl (fun _ => TB_val rfl rfl) fun _ _ _ lw kp kn => q_shr (((cl (chR s ((fillR s).size / 64))).getD k 0).fdiv (2 ^ min (24 : Int).toNat 32)) rfl (TB_at (kn 3 _ rfl rfl) rfl rfl).ev rfl (by first | omega | exact u64_nonneg _) rfl rfl)
   ·
    exact (stepS_val (.int .u8 (IntKind.u8.wrap (((cl (chR s ((fillR s).size / 64))).getD k 0).fdiv (2 ^ min (24 : Int).toNat 32)))) _ rfl rfl rfl Low.refl (fun _ => TB_val rfl rfl) fun _ _ _ lw kp kn => q_conv _ rfl (TB_at (kn 4 _ rfl rfl) rfl rfl).ev Tryz.underlying64 Tryz.underlying5 rfl rfl)
   ·
    exact (stepS_val (.int .i64 ((k : Nat) : Int)) _ rfl rfl rfl Low.refl (fun _ => TB_val rfl rfl) fun _ _ _ lw kp kn => q_move _ _ rfl (kp _ _ rfl s7_20).ev rfl)
   ·
    exact (stepS_val (.pointer (some ⟨g4, k, none⟩)) _ rfl rfl rfl Low.refl (fun _ => TB_val rfl rfl) fun _ _ _ lw kp kn => q_idx (j := k) rfl Tryz.underlying68 sz64 (kp _ _ rfl s4_20).ev (TB_at (kn 6 _ rfl rfl) rfl rfl).ev (by omega) rfl)
   ·
    exact (stepS_val (.int .u32 ((cl (chR s ((fillR s).size / 64))).getD k 0)) _ rfl rfl rfl Low.refl (fun _ => TB_val rfl rfl) fun _ _ _ lw kp kn => q_cell (.int .u32 ((cl (chR s ((fillR s).size / 64))).getD k 0)) rfl Tryz.underlying64 (TB_at (kn 7 _ rfl rfl) rfl rfl).ev (fun _ e => by rw [e]; exact nums_cell (lw.blk kg4_19) k (by rw [(cl_len (chR s ((fillR s).size / 64)))]; omega)) rfl)
   ·
    exact (stepS_val (.int .u32 (((cl (chR s ((fillR s).size / 64))).getD k 0).fdiv (2 ^ min (16 : Int).toNat 32))) _ rfl rfl rfl Low.refl (fun _ => TB_val rfl rfl) fun _ _ _ lw kp kn => q_shr (((cl (chR s ((fillR s).size / 64))).getD k 0).fdiv (2 ^ min (16 : Int).toNat 32)) rfl (TB_at (kn 8 _ rfl rfl) rfl rfl).ev rfl (by first | omega | exact u64_nonneg _) rfl rfl)
   ·
    exact (stepS_val (.int .u8 (IntKind.u8.wrap (((cl (chR s ((fillR s).size / 64))).getD k 0).fdiv (2 ^ min (16 : Int).toNat 32)))) _ rfl rfl rfl Low.refl (fun _ => TB_val rfl rfl) fun _ _ _ lw kp kn => q_conv _ rfl (TB_at (kn 9 _ rfl rfl) rfl rfl).ev Tryz.underlying64 Tryz.underlying5 rfl rfl)
   ·
    exact (stepS_val (.int .i64 ((k : Nat) : Int)) _ rfl rfl rfl Low.refl (fun _ => TB_val rfl rfl) fun _ _ _ lw kp kn => q_move _ _ rfl (kp _ _ rfl s7_20).ev rfl)
   ·
    exact (stepS_val (.pointer (some ⟨g4, k, none⟩)) _ rfl rfl rfl Low.refl (fun _ => TB_val rfl rfl) fun _ _ _ lw kp kn => q_idx (j := k) rfl Tryz.underlying68 sz64 (kp _ _ rfl s4_20).ev (TB_at (kn 11 _ rfl rfl) rfl rfl).ev (by omega) rfl)
   ·
    exact (stepS_val (.int .u32 ((cl (chR s ((fillR s).size / 64))).getD k 0)) _ rfl rfl rfl Low.refl (fun _ => TB_val rfl rfl) fun _ _ _ lw kp kn => q_cell (.int .u32 ((cl (chR s ((fillR s).size / 64))).getD k 0)) rfl Tryz.underlying64 (TB_at (kn 12 _ rfl rfl) rfl rfl).ev (fun _ e => by rw [e]; exact nums_cell (lw.blk kg4_19) k (by rw [(cl_len (chR s ((fillR s).size / 64)))]; omega)) rfl)
   ·
    exact (stepS_val (.int .u32 (((cl (chR s ((fillR s).size / 64))).getD k 0).fdiv (2 ^ min (8 : Int).toNat 32))) _ rfl rfl rfl Low.refl (fun _ => TB_val rfl rfl) fun _ _ _ lw kp kn => q_shr (((cl (chR s ((fillR s).size / 64))).getD k 0).fdiv (2 ^ min (8 : Int).toNat 32)) rfl (TB_at (kn 13 _ rfl rfl) rfl rfl).ev rfl (by first | omega | exact u64_nonneg _) rfl rfl)
   ·
    exact (stepS_val (.int .u8 (IntKind.u8.wrap (((cl (chR s ((fillR s).size / 64))).getD k 0).fdiv (2 ^ min (8 : Int).toNat 32)))) _ rfl rfl rfl Low.refl (fun _ => TB_val rfl rfl) fun _ _ _ lw kp kn => q_conv _ rfl (TB_at (kn 14 _ rfl rfl) rfl rfl).ev Tryz.underlying64 Tryz.underlying5 rfl rfl)
   ·
    exact (stepS_val (.int .i64 ((k : Nat) : Int)) _ rfl rfl rfl Low.refl (fun _ => TB_val rfl rfl) fun _ _ _ lw kp kn => q_move _ _ rfl (kp _ _ rfl s7_20).ev rfl)
   ·
    exact (stepS_val (.pointer (some ⟨g4, k, none⟩)) _ rfl rfl rfl Low.refl (fun _ => TB_val rfl rfl) fun _ _ _ lw kp kn => q_idx (j := k) rfl Tryz.underlying68 sz64 (kp _ _ rfl s4_20).ev (TB_at (kn 16 _ rfl rfl) rfl rfl).ev (by omega) rfl)
   ·
    exact (stepS_val (.int .u32 ((cl (chR s ((fillR s).size / 64))).getD k 0)) _ rfl rfl rfl Low.refl (fun _ => TB_val rfl rfl) fun _ _ _ lw kp kn => q_cell (.int .u32 ((cl (chR s ((fillR s).size / 64))).getD k 0)) rfl Tryz.underlying64 (TB_at (kn 17 _ rfl rfl) rfl rfl).ev (fun _ e => by rw [e]; exact nums_cell (lw.blk kg4_19) k (by rw [(cl_len (chR s ((fillR s).size / 64)))]; omega)) rfl)
   ·
    exact (stepS_val (.int .u8 (IntKind.u8.wrap ((cl (chR s ((fillR s).size / 64))).getD k 0))) _ rfl rfl rfl Low.refl (fun _ => TB_val rfl rfl) fun _ _ _ lw kp kn => q_conv _ rfl (TB_at (kn 18 _ rfl rfl) rfl rfl).ev Tryz.underlying64 Tryz.underlying5 rfl rfl)
   ·
    exact (stepS _ rfl rfl fun _ _ _ lw kp kn => l_build4 rfl rfl Tryz.underlying54 byte5 (TB_at (kn 5 _ rfl rfl) rfl rfl).ev (TB_at (kn 10 _ rfl rfl) rfl rfl).ev (TB_at (kn 15 _ rfl rfl) rfl rfl).ev (TB_at (kn 19 _ rfl rfl) rfl rfl).ev (fun _ _ hg k h => l_end ⟨_, rfl, h, TB_new rfl (Nat.le_trans lw.ge hg) k⟩))
   intro a21 w21 z21 h21 kp kn
   have s4_21 := kp _ _ rfl s4_20
   have s6_21 := kp _ _ rfl s6_20
   have s7_21 := kp _ _ rfl s7_20
   have s25_21 := kp _ _ rfl s25_20
   have s28_21 := TB_at (kn 0 _ rfl) rfl rfl
   obtain ⟨g48_21, s48_21, hg21, k21⟩ := TB_blk (kn 20 _ rfl) rfl
   clear kp kn
   have lt_g4_g48_21 := Nat.lt_of_lt_of_le (heap_lt kg4_19) hg21
   have geg48_21 := Nat.le_trans low19.ge hg21
   have kg4_21 := h21.blk kg4_19
   have ox6_21 := ox6_19.low h21
   simp only [List.drop_succ_cons, List.drop_zero]
   refine l_appR (B := w0.heap.size) (ys := [IntKind.u8.wrap (((cl (chR s ((fillR s).size / 64))).getD k 0).fdiv (2 ^ min (24 : Int).toNat 32)), IntKind.u8.wrap (((cl (chR s ((fillR s).size / 64))).getD k 0).fdiv (2 ^ min (16 : Int).toNat 32)), IntKind.u8.wrap (((cl (chR s ((fillR s).size / 64))).getD k 0).fdiv (2 ^ min (8 : Int).toNat 32)), IntKind.u8.wrap ((cl (chR s ((fillR s).size / 64))).getD k 0)]) rfl rfl Tryz.underlying54 Tryz.underlying54 byte5 s28_21.ev s48_21.ev k21 ox6_21 (low19.trans h21).ge (by rw [(outR_len _ k)]; simp only [List.length_cons, List.length_nil]; omega) ?_
   intro v22 w22 o22 gr22
   have kg4_22 := gr22.blk kg4_21 rfl
   have lw22 := (low19.trans h21).gr gr22
   refine l_q rfl (q_assign _ _ rfl (At.hit z21 rfl).ev ?_)
   refine l_end (e_fresh z21.p2 ?_)
   intro a23 z23 m23
   have s4_23 := m23 _ _ (s4_21.n2)
   have s6_23 := m23 _ _ (At.hit z21.put rfl)
   have s7_23 := m23 _ _ (s7_21.n2)
   have low23 := lw22
   clear m23
   refine e_in (e_then (c_region ?_))
   refine l_q rfl (q_move _ _ rfl s7_23.ev ?_)
   refine l_q rfl (q_add (((k + 1 : Nat) : Int)) rfl (At.hit z23 rfl).ev rfl (i64_is (by omega) (by omega) (by omega)) ?_)
   refine l_q rfl (q_assign _ _ rfl (At.hit z23.put rfl).ev ?_)
   refine l_end (e_fresh z23.p3 ?_)
   intro a24 z24 m24
   have s4_24 := m24 _ _ (s4_23.n3)
   have s6_24 := m24 _ _ (s6_23.n3)
   have s7_24 := m24 _ _ (At.hit z23.p2 rfl)
   clear m24
   exact ⟨v22, z24, s4_24, s6_24, s7_24, kg4_22, o22, low23⟩
  ·
   intro a25 w25 h
   obtain ⟨v6_25, z25, s4_25, s6_25, s7_25, kg4_25, ox6_25, low25⟩ := h
   clear kg4_15 low15 s4_18 s6_18 s7_18 z18
   refine c_seq (c_seq (c_region ?_))
   refine l_q rfl (q_move _ _ rfl s7_25.ev ?_)
   refine l_q rfl (q_lss false rfl (At.hit z25 rfl).ev rfl (decide_eq_false (by omega)) ?_)
   refine l_end (e_fresh z25.p2 ?_)
   intro a26 z26 m26
   have s4_26 := m26 _ _ (s4_25.n2)
   have s6_26 := m26 _ _ (s6_25.n2)
   have s7_26 := m26 _ _ (s7_25.n2)
   have s25_26 := m26 _ _ (At.hit z25.put rfl)
   clear m26
   refine e_then (c_false s25_26 ?_)
   refine wp_exit (x_then (x_then (in_exit (e_then (c_seq (c_region ?_))))))
   refine l_q rfl (q_move _ _ rfl s6_26.ev ?_)
   refine l_q rfl (q_str rfl Tryz.underlying54 Tryz.underlying5 Tryz.underlying9 (At.hit z26 rfl).ev (fun _ e => by rw [e]; exact ox6_25) ?_)
   refine l_q rfl (q_assign _ _ rfl (At.hit z26.put rfl).ev ?_)
   refine l_end (e_fresh z26.p3 ?_)
   intro a27 z27 m27
   have s2_27 := m27 _ _ (At.hit z26.p2 rfl)
   clear m27
   refine e_then (wp_ret (r_tmp rfl z27.defers s2_27 ?_))
   exact ⟨rfl, low25⟩
end Go.Proofs.YtfjhnnpdaggnbaaGreatDoor.Q
end
/-! Shelf -/
section
namespace Go.Proofs
open Go.Shelf
def Tryz.lays105_ren : Go.Shelf.Ren := ⟨fun | 105 => 62 | 212 => 76 | 99 => 77 | 165 => 78 | 166 => 79 | 170 => 80 | 169 => 81 | 263 => 90 | 264 => 91 | 206 => 92 | 240 => 93 | 241 => 94 | 276 => 100 | 277 => 101 | n => n, fun | 9 => 9 | 3 => 3 | 4 => 4 | 20 => 20 | 0 => 0 | 46 => 79 | 109 => 103 | 5 => 5 | 72 => 108 | 76 => 112 | 51 => 64 | 146 => 122 | 53 => 87 | 148 => 124 | 70 => 106 | 37 => 54 | 75 => 111 | 127 => 126 | 164 => 132 | 80 => 42 | n => n, fun | n => n⟩
theorem Tryz.lays105 : Go.Proofs.Lays.n105 Tryz.prog Tryz.lays105_ren := {
  mixed := by kernel_rfl
  f99 := Tryz.func77.trans (congrArg some (by kernel_rfl))
  f105 := Tryz.func62.trans (congrArg some (by kernel_rfl))
  f165 := Tryz.func78.trans (congrArg some (by kernel_rfl))
  f166 := Tryz.func79.trans (congrArg some (by kernel_rfl))
  f169 := Tryz.func81.trans (congrArg some (by kernel_rfl))
  f170 := Tryz.func80.trans (congrArg some (by kernel_rfl))
  f206 := Tryz.func92.trans (congrArg some (by kernel_rfl))
  f212 := Tryz.func76.trans (congrArg some (by kernel_rfl))
  f240 := Tryz.func93.trans (congrArg some (by kernel_rfl))
  f241 := Tryz.func94.trans (congrArg some (by kernel_rfl))
  f263 := Tryz.func90.trans (congrArg some (by kernel_rfl))
  f264 := Tryz.func91.trans (congrArg some (by kernel_rfl))
  f276 := Tryz.func100.trans (congrArg some (by kernel_rfl))
  f277 := Tryz.func101.trans (congrArg some (by kernel_rfl))
  t0 := Tryz.underlying0
  a0 := Tryz.isAgg0
  z0 := Tryz.sizeOf0
  v0 := Tryz.zeroValue0
  t3 := Tryz.underlying3
  a3 := Tryz.isAgg3
  z3 := Tryz.sizeOf3
  v3 := Tryz.zeroValue3
  t4 := Tryz.underlying4
  a4 := Tryz.isAgg4
  z4 := Tryz.sizeOf4
  v4 := Tryz.zeroValue4
  t5 := Tryz.underlying5
  a5 := Tryz.isAgg5
  z5 := Tryz.sizeOf5
  v5 := Tryz.zeroValue5
  t9 := Tryz.underlying9
  a9 := Tryz.isAgg9
  z9 := Tryz.sizeOf9
  v9 := Tryz.zeroValue9
  t20 := Tryz.underlying20
  a20 := Tryz.isAgg20
  z20 := Tryz.sizeOf20
  v20 := Tryz.zeroValue20
  t37 := Tryz.underlying54
  a37 := Tryz.isAgg54
  z37 := Tryz.sizeOf54
  v37 := Tryz.zeroValue54
  t46 := Tryz.underlying79
  a46 := Tryz.isAgg79
  z46 := Tryz.sizeOf79
  v46 := Tryz.zeroValue79
  t51 := Tryz.underlying64
  a51 := Tryz.isAgg64
  z51 := Tryz.sizeOf64
  v51 := Tryz.zeroValue64
  t53 := Tryz.underlying87
  a53 := Tryz.isAgg87
  z53 := Tryz.sizeOf87
  v53 := Tryz.zeroValue87
  t70 := Tryz.underlying106
  a70 := Tryz.isAgg106
  z70 := Tryz.sizeOf106
  v70 := Tryz.zeroValue106
  t72 := Tryz.underlying108
  a72 := Tryz.isAgg108
  z72 := Tryz.sizeOf108
  v72 := Tryz.zeroValue108
  t75 := Tryz.underlying111
  a75 := Tryz.isAgg111
  z75 := Tryz.sizeOf111
  v75 := Tryz.zeroValue111
  t76 := Tryz.underlying112
  a76 := Tryz.isAgg112
  z76 := Tryz.sizeOf112
  v76 := Tryz.zeroValue112
  t109 := Tryz.underlying103
  a109 := Tryz.isAgg103
  z109 := Tryz.sizeOf103
  v109 := Tryz.zeroValue103
  t127 := Tryz.underlying126
  a127 := Tryz.isAgg126
  z127 := Tryz.sizeOf126
  v127 := Tryz.zeroValue126
  t146 := Tryz.underlying122
  a146 := Tryz.isAgg122
  z146 := Tryz.sizeOf122
  v146 := Tryz.zeroValue122
  t148 := Tryz.underlying124
  a148 := Tryz.isAgg124
  z148 := Tryz.sizeOf124
  v148 := Tryz.zeroValue124
  t164 := Tryz.underlying132
  a164 := Tryz.isAgg132
  z164 := Tryz.sizeOf132
  v164 := Tryz.zeroValue132 }
theorem Tryz.Builder_Extra_105 : Builder.Extra Tryz.prog Tryz.lays105_ren := {
  sizeBuilder := by kernel_rfl
  liesBuilder := by kernel_rfl
  t5 := Tryz.underlying5
  a5 := Tryz.isAgg5
  z5 := Tryz.sizeOf5
  v5 := Tryz.zeroValue5
  infoByte := by kernel_rfl
  cellsByte := by kernel_rfl
  sizeByte := by kernel_rfl
  neB5 := by decide }
open Go.RowKit Go.Lib in
theorem Tryz.strings_Repeat (s : ByteArray) (c : Nat) (w : World) (hc : c ≤ 9223372036854775807) (hlen : s.size * c ≤ 140737488355328) :
    Calls Tryz.prog 62 #[.string s, .int .i64 c] w fun e w' => e = .returned (.string ⟨(Lib.repeatL s.data.toList c).toArray⟩) ∧ Below w.heap.size w w' := Any.strings_Repeat Tryz.lays105 Tryz.Builder_Extra_105 s c w hc hlen
def Tryz.laysM171_ren : Go.Shelf.Ren := ⟨fun | 171 => 34 | 243 => 57 | 246 => 73 | 283 => 86 | 284 => 87 | 285 => 88 | 286 => 89 | 129 => 96 | 317 => 95 | 318 => 97 | 319 => 98 | 320 => 99 | 337 => 102 | 338 => 103 | n => n, fun | 3 => 3 | 9 => 9 | 2 => 2 | 4 => 4 | 171 => 117 | 0 => 0 | 53 => 87 | 37 => 54 | 5 => 5 | 173 => 120 | 212 => 128 | 51 => 64 | 20 => 20 | 213 => 129 | 46 => 79 | 232 => 136 | 233 => 86 | n => n, fun | 17 => 0 | 18 => 2 | 19 => 3 | n => n⟩
theorem Tryz.laysM171 : Go.Proofs.LaysM.n171 Tryz.prog Tryz.laysM171_ren := {
  mixed := by kernel_rfl
  f129 := Tryz.func96.trans (congrArg some (by kernel_rfl))
  f171 := Tryz.func34.trans (congrArg some (by kernel_rfl))
  f243 := Tryz.func57.trans (congrArg some (by kernel_rfl))
  f246 := Tryz.func73.trans (congrArg some (by kernel_rfl))
  f283 := Tryz.func86.trans (congrArg some (by kernel_rfl))
  f284 := Tryz.func87.trans (congrArg some (by kernel_rfl))
  f285 := Tryz.func88.trans (congrArg some (by kernel_rfl))
  f286 := Tryz.func89.trans (congrArg some (by kernel_rfl))
  f317 := Tryz.func95.trans (congrArg some (by kernel_rfl))
  f318 := Tryz.func97.trans (congrArg some (by kernel_rfl))
  f319 := Tryz.func98.trans (congrArg some (by kernel_rfl))
  f320 := Tryz.func99.trans (congrArg some (by kernel_rfl))
  f337 := Tryz.func102.trans (congrArg some (by kernel_rfl))
  f338 := Tryz.func103.trans (congrArg some (by kernel_rfl))
  t0 := Tryz.underlying0
  a0 := Tryz.isAgg0
  z0 := Tryz.sizeOf0
  v0 := Tryz.zeroValue0
  t2 := Tryz.underlying2
  a2 := Tryz.isAgg2
  z2 := Tryz.sizeOf2
  v2 := Tryz.zeroValue2
  t3 := Tryz.underlying3
  a3 := Tryz.isAgg3
  z3 := Tryz.sizeOf3
  v3 := Tryz.zeroValue3
  t4 := Tryz.underlying4
  a4 := Tryz.isAgg4
  z4 := Tryz.sizeOf4
  v4 := Tryz.zeroValue4
  t5 := Tryz.underlying5
  a5 := Tryz.isAgg5
  z5 := Tryz.sizeOf5
  v5 := Tryz.zeroValue5
  t9 := Tryz.underlying9
  a9 := Tryz.isAgg9
  z9 := Tryz.sizeOf9
  v9 := Tryz.zeroValue9
  t20 := Tryz.underlying20
  a20 := Tryz.isAgg20
  z20 := Tryz.sizeOf20
  v20 := Tryz.zeroValue20
  t37 := Tryz.underlying54
  a37 := Tryz.isAgg54
  z37 := Tryz.sizeOf54
  v37 := Tryz.zeroValue54
  t46 := Tryz.underlying79
  a46 := Tryz.isAgg79
  z46 := Tryz.sizeOf79
  v46 := Tryz.zeroValue79
  t51 := Tryz.underlying64
  a51 := Tryz.isAgg64
  z51 := Tryz.sizeOf64
  v51 := Tryz.zeroValue64
  t53 := Tryz.underlying87
  a53 := Tryz.isAgg87
  z53 := Tryz.sizeOf87
  v53 := Tryz.zeroValue87
  t171 := Tryz.underlying117
  a171 := Tryz.isAgg117
  z171 := Tryz.sizeOf117
  v171 := Tryz.zeroValue117
  t173 := Tryz.underlying120
  a173 := Tryz.isAgg120
  z173 := Tryz.sizeOf120
  v173 := Tryz.zeroValue120
  t212 := Tryz.underlying128
  a212 := Tryz.isAgg128
  z212 := Tryz.sizeOf128
  v212 := Tryz.zeroValue128
  t213 := Tryz.underlying129
  a213 := Tryz.isAgg129
  z213 := Tryz.sizeOf129
  t232 := Tryz.underlying136
  a232 := Tryz.isAgg136
  z232 := Tryz.sizeOf136
  v232 := Tryz.zeroValue136
  t233 := Tryz.underlying86
  a233 := Tryz.isAgg86
  z233 := Tryz.sizeOf86
  v233 := Tryz.zeroValue86
  g17 := by kernel_rfl
  g18 := by kernel_rfl
  g19 := by kernel_rfl
  i0 := by kernel_rfl
  i2 := by kernel_rfl
  i3 := by kernel_rfl
  i4 := by kernel_rfl
  i5 := by kernel_rfl
  i9 := by kernel_rfl
  i20 := by kernel_rfl
  i37 := by kernel_rfl
  i46 := by kernel_rfl
  i51 := by kernel_rfl
  i53 := by kernel_rfl
  i171 := by kernel_rfl
  i173 := by kernel_rfl
  i212 := by kernel_rfl
  i232 := by kernel_rfl
  i233 := by kernel_rfl
  m17 := by kernel_rfl
  m18 := by kernel_rfl
  m19 := by kernel_rfl }
end Go.Proofs
end
/-! A6 -/
section
namespace Go.Proofs.YtfjhnnpdaggnbaaGreatDoor.Q
open Go.Proofs.YtfjhnnpdaggnbaaGreatDoorW.PrintWords (bytesOf bytesOf_length)
open Go.RowKit Go.Proofs.YtfjhnnpdaggnbaaGreatDoor.P
set_option linter.unusedVariables false
set_option linter.unusedSimpArgs false
set_option maxRecDepth 100000
set_option maxHeartbeats 4000000
attribute [local irreducible] wpList wpQuiet qch Code.wp Oper.quiet Act.put At Region.wanted yielded
def f80 (s : ByteArray) : ByteArray := s ++ (⟨#[128]⟩ : ByteArray)
theorem f80_size (s : ByteArray) : (f80 s).size = s.size + 1 := by rw [f80, ByteArray.size_append]; rfl
def padL (s : ByteArray) : ByteArray := ⟨(Lib.repeatL (⟨#[0]⟩ : ByteArray).data.toList ((120 - ((f80 s).size) % 64) % 64)).toArray⟩
theorem repeat_zero : ∀ n, Lib.repeatL [(0 : UInt8)] n = List.replicate n 0
  | 0 => rfl
  | n + 1 => by rw [Lib.repeatL, repeat_zero n]; rfl
theorem padL_size (s : ByteArray) : (padL s).size = (120 - (s.size + 1) % 64) % 64 := by
  unfold padL
  show (Lib.repeatL [(0 : UInt8)] _).toArray.size = _
  rw [repeat_zero, f80_size]
  simp
theorem Repeat0.calls (c : Nat) (hc : c ≤ 64) (w0 : World) : Calls Tryz.prog 62 #[.string ⟨#[0]⟩, .int .i64 (c : Int)] w0 fun e w' => e = .returned (.string ⟨(Lib.repeatL (⟨#[0]⟩ : ByteArray).data.toList c).toArray⟩) ∧ Low w0 w' :=
  Tryz.strings_Repeat ⟨#[0]⟩ c w0 (by omega) (by show 1 * c ≤ _; omega)
def lenByteL (s : ByteArray) (k : Nat) : Int := IntKind.u8.wrap ((IntKind.u64.wrap (8 * IntKind.u64.wrap (s.size : Int))).fdiv (2 ^ min (56 - 8 * ((k : Nat) : Int)).toNat 64))
def fL (s : ByteArray) : Nat → ByteArray
  | 0 => f80 s ++ padL s
  | k + 1 => fL s k ++ strOfNums [lenByteL s k]
theorem fL_size (s : ByteArray) : ∀ k, (fL s k).size = s.size + 1 + (120 - (s.size + 1) % 64) % 64 + k
  | 0 => by rw [fL, ByteArray.size_append, f80_size, padL_size]; rfl
  | k + 1 => by rw [fL, ByteArray.size_append, fL_size s k, strOfNums_size]; rfl
def fillL (s : ByteArray) : ByteArray := fL s 8
theorem lit_size : (⟨#[128]⟩ : ByteArray).size = 1 := rfl
theorem FillL.calls (s : ByteArray) (hs : s.size ≤ 140737488350000) (w0 : World) : Calls Tryz.prog 44 #[.string s] w0 fun e w' => e = .returned (.string (fillL s)) ∧ Low w0 w' := by
 refine c_fun (R := _) Tryz.func44 rfl 33 rfl (Nat.le_of_ble_eq_true rfl) ?_
 intro a z hA
 have s0 := hA 0 _ rfl
 clear hA
 refine c_seq (c_region ?_)
 refine l_q rfl (q_assign _ _ rfl rfl ?_)
 refine l_end (e_fresh z.put ?_)
 intro a1 z1 m1
 have s0_1 := m1 _ _ (s0.n1)
 clear m1
 refine e_then (c_seq (c_region ?_))
 refine l_q rfl (q_move _ _ rfl s0_1.ev ?_)
 refine l_q rfl (q_len rfl rfl Tryz.underlying9 (At.hit z1 rfl).ev ?_)
 refine l_q rfl (q_conv _ rfl (At.hit z1.put rfl).ev Tryz.underlying3 Tryz.underlying87 rfl ?_)
 refine l_q rfl (q_mul _ rfl rfl (At.hit z1.p2 rfl).ev rfl ?_)
 refine l_q rfl (q_assign _ _ rfl (At.hit z1.p3 rfl).ev ?_)
 refine l_end (e_fresh z1.p5 ?_)
 intro a2 z2 m2
 have s0_2 := m2 _ _ (s0_1.n5)
 have s3_2 := m2 _ _ (At.hit z1.p4 rfl)
 clear m2
 refine e_then (c_seq (c_region ?_))
 refine l_q rfl (q_move _ _ rfl s0_2.ev ?_)
 refine l_q rfl (q_cat rfl (At.hit z2 rfl).ev rfl (by simp only [ByteArray.size_append, f80_size, padL_size, fL_size, strOfNums_size, lit_size, List.length_cons, List.length_nil]; omega) ?_)
 refine l_q rfl (q_assign _ _ rfl (At.hit z2.put rfl).ev ?_)
 refine l_end (e_fresh z2.p3 ?_)
 intro a3 z3 m3
 have s3_3 := m3 _ _ (s3_2.n3)
 have s4_3 := m3 _ _ (At.hit z2.p2 rfl)
 clear m3
 refine e_then (c_seq (c_region ?_))
 refine l_q rfl (q_move _ _ rfl s4_3.ev ?_)
 refine l_q rfl (q_move _ _ rfl (s4_3.n1).ev ?_)
 refine l_q rfl (q_len rfl rfl Tryz.underlying9 (At.hit z3.put rfl).ev ?_)
 refine l_q rfl (q_rem (m := ((f80 s).size)) (n := 64) (by omega) rfl ((At.hit z3.p2 rfl).same (congrArg (Value.int .i64) (show ((((f80 s).size : Nat) : Int) : Int) = ((((f80 s).size) : Nat) : Int) by omega))).ev rfl ?_)
 refine l_q rfl (q_sub ((120 - (((((f80 s).size)) % 64 : Nat) : Int))) rfl rfl (At.hit z3.p3 rfl).ev (i64_is (by omega) (by omega) (by omega)) ?_)
 refine l_q rfl (q_rem (m := 120 - ((((f80 s).size)) % 64)) (n := 64) (by omega) rfl ((At.hit z3.p4 rfl).same (congrArg (Value.int .i64) (show ((120 - (((((f80 s).size)) % 64 : Nat) : Int)) : Int) = ((120 - ((((f80 s).size)) % 64) : Nat) : Int) by omega))).ev rfl ?_)
 refine l_call (fun v w' => v = .string (padL s) ∧ Low w0 w') rfl rfl rfl Tryz.func62 rfl (args2 rfl rfl (At.hit z3.p5 rfl).ev) ((Repeat0.calls (((120 - ((((f80 s).size)) % 64)) % 64)) (by omega) _).mono fun _ _ ⟨e, k⟩ => ⟨_, e, rfl, k⟩) ?_
 rintro _ w4 ⟨rfl, h4⟩
 refine l_q rfl (q_cat rfl ((At.hit z3 rfl).n6).ev (At.hit z3.p6 rfl).ev (by simp only [ByteArray.size_append, f80_size, padL_size, fL_size, strOfNums_size, lit_size, List.length_cons, List.length_nil]; omega) ?_)
 refine l_fresh z3.p8 ?_
 intro a5 z5 m5
 have s3_5 := m5 _ _ (s3_3.n8)
 have s4_5 := m5 _ _ (s4_3.n8)
 have s19_5 := m5 _ _ (At.hit z3.p7 rfl)
 clear m5
 refine l_q rfl (q_assign _ _ rfl s19_5.ev ?_)
 refine l_end (e_fresh z5.put ?_)
 intro a6 z6 m6
 have s3_6 := m6 _ _ (s3_5.n1)
 have s4_6 := m6 _ _ (At.hit z5 rfl)
 have low6 := h4
 clear m6
 refine e_then (c_seq (c_seq (c_region ?_)))
 refine l_q rfl (q_assign _ _ rfl rfl ?_)
 refine l_end (e_fresh z6.put ?_)
 intro a7 z7 m7
 have s3_7 := m7 _ _ (s3_6.n1)
 have s4_7 := m7 _ _ (s4_6.n1)
 have s5_7 := m7 _ _ (At.hit z6 rfl)
 clear m7
 refine e_then (wp_block (c_loop 8 (fun k a w => Fr 33 a ∧ At a 3 (.int .u64 (IntKind.u64.wrap (8 * (IntKind.u64.wrap ((s.size : Nat) : Int))))) ∧ At a 4 (.string (fL s k)) ∧ At a 5 (.int .i64 (56 - 8 * ((k : Nat) : Int))) ∧ Low w0 w) ?_ ?_ ?_))
 ·
  exact ⟨z7, s3_7, s4_7, (s5_7.same (congrArg (Value.int .i64) (by omega))), low6⟩
 ·
  intro k a8 w8 hk8 h
  obtain ⟨z8, s3_8, s4_8, s5_8, low8⟩ := h
  clear low6 s3_7 s4_7 s5_7 z7
  refine c_seq (c_seq (c_region ?_))
  refine l_q rfl (q_move _ _ rfl s5_8.ev ?_)
  refine l_q rfl (q_geq true rfl (At.hit z8 rfl).ev rfl (decide_eq_true (by omega)) ?_)
  refine l_end (e_fresh z8.p2 ?_)
  intro a9 z9 m9
  have s3_9 := m9 _ _ (s3_8.n2)
  have s4_9 := m9 _ _ (s4_8.n2)
  have s5_9 := m9 _ _ (s5_8.n2)
  have s21_9 := m9 _ _ (At.hit z8.put rfl)
  clear m9
  refine e_then (c_true s21_9 ?_)
  refine wp_skip (e_then (c_seq (wp_block (c_region ?_))))
  refine l_q rfl (q_move _ _ rfl s4_9.ev ?_)
  refine l_q rfl (q_move _ _ rfl (s3_9.n1).ev ?_)
  refine l_q rfl (q_move _ _ rfl (s5_9.n2).ev ?_)
  refine l_q rfl (q_shr ((IntKind.u64.wrap (8 * (IntKind.u64.wrap ((s.size : Nat) : Int)))).fdiv (2 ^ min ((56 - 8 * ((k : Nat) : Int)) : Int).toNat 64)) rfl ((At.hit z9.put rfl).n1).ev (At.hit z9.p2 rfl).ev (by first | omega | exact u64_nonneg _) rfl ?_)
  refine l_q rfl (q_conv _ rfl (At.hit z9.p3 rfl).ev Tryz.underlying87 Tryz.underlying5 rfl ?_)
  refine l_build1 rfl rfl Tryz.underlying54 byte5 (At.hit z9.p4 rfl).ev ?_
  intro g29_10 w10 hg10 k10 h10
  have geg29_10 := Nat.le_trans low8.ge hg10
  refine l_q rfl (q_str rfl Tryz.underlying54 Tryz.underlying5 Tryz.underlying9 (At.hit z9.p5 rfl).ev (fun _ e => by rw [e]; exact (ownB_new (B := w0.heap.size) geg29_10 k10 rfl)) ?_)
  refine l_q rfl (q_cat rfl ((At.hit z9 rfl).n6).ev (At.hit z9.p6 rfl).ev (by simp only [ByteArray.size_append, f80_size, padL_size, fL_size, strOfNums_size, lit_size, List.length_cons, List.length_nil]; omega) ?_)
  refine l_fresh z9.p8 ?_
  intro a11 z11 m11
  have s3_11 := m11 _ _ (s3_9.n8)
  have s4_11 := m11 _ _ (s4_9.n8)
  have s5_11 := m11 _ _ (s5_9.n8)
  have s31_11 := m11 _ _ (At.hit z9.p7 rfl)
  clear m11
  refine l_q rfl (q_assign _ _ rfl s31_11.ev ?_)
  refine l_end (e_fresh z11.put ?_)
  intro a12 z12 m12
  have s3_12 := m12 _ _ (s3_11.n1)
  have s4_12 := m12 _ _ (At.hit z11 rfl)
  have s5_12 := m12 _ _ (s5_11.n1)
  have low12 := (low8.trans h10)
  clear m12
  refine e_in (e_then (c_region ?_))
  refine l_q rfl (q_move _ _ rfl s5_12.ev ?_)
  refine l_q rfl (q_sub ((48 - 8 * ((k : Nat) : Int))) rfl (At.hit z12 rfl).ev rfl (i64_is (by omega) (by omega) (by omega)) ?_)
  refine l_q rfl (q_assign _ _ rfl (At.hit z12.put rfl).ev ?_)
  refine l_end (e_fresh z12.p3 ?_)
  intro a13 z13 m13
  have s3_13 := m13 _ _ (s3_12.n3)
  have s4_13 := m13 _ _ (s4_12.n3)
  have s5_13 := m13 _ _ (At.hit z12.p2 rfl)
  clear m13
  exact ⟨z13, s3_13, s4_13, (s5_13.same (congrArg (Value.int .i64) (by omega))), low12⟩
 ·
  intro a14 w14 h
  obtain ⟨z14, s3_14, s4_14, s5_14, low14⟩ := h
  clear low6 s3_7 s4_7 s5_7 z7
  refine c_seq (c_seq (c_region ?_))
  refine l_q rfl (q_move _ _ rfl s5_14.ev ?_)
  refine l_q rfl (q_geq false rfl (At.hit z14 rfl).ev rfl (decide_eq_false (by omega)) ?_)
  refine l_end (e_fresh z14.p2 ?_)
  intro a15 z15 m15
  have s3_15 := m15 _ _ (s3_14.n2)
  have s4_15 := m15 _ _ (s4_14.n2)
  have s5_15 := m15 _ _ (s5_14.n2)
  have s21_15 := m15 _ _ (At.hit z14.put rfl)
  clear m15
  refine e_then (c_false s21_15 ?_)
  refine wp_exit (x_then (x_then (in_exit (e_then (c_seq (c_region ?_))))))
  refine l_q rfl (q_move _ _ rfl s4_15.ev ?_)
  refine l_q rfl (q_assign _ _ rfl (At.hit z15 rfl).ev ?_)
  refine l_end (e_fresh z15.p2 ?_)
  intro a16 z16 m16
  have s2_16 := m16 _ _ (At.hit z15.put rfl)
  clear m16
  refine e_then (wp_ret (r_tmp rfl z16.defers s2_16 ?_))
  exact ⟨rfl, low14⟩
end Go.Proofs.YtfjhnnpdaggnbaaGreatDoor.Q
end
