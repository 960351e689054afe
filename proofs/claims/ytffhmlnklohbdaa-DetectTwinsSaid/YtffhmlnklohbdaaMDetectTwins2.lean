/- Merged out of this session's texts by a program (wip/gen/merge.py): declarations that this claim doesn't name are left out. -/
import Derived.Test.YtffhmlnklohbdaaMDetectTwins1
set_option linter.unusedVariables false
set_option linter.unusedSimpArgs false
/-! A2 -/
section
namespace Go.Proofs.Ytffhmlnklohbdaa.Q
open Go.RowKit Go.Proofs.Ytffhmlnklohbdaa.P
set_option linter.unusedVariables false
set_option linter.unusedSimpArgs false
set_option maxRecDepth 100000
set_option maxHeartbeats 4000000
attribute [local irreducible] wpList wpQuiet qch Code.wp Oper.quiet Act.put At Region.wanted yielded
theorem sz23 : (Try.prog.info? 23).map (·.size) = some 3 := by kernel_rfl
theorem sz29 : (Try.prog.info? 29).map (·.size) = some 3 := by kernel_rfl
def up (l : List Int) (K : Nat) (rt : Int → Int) : Nat → List Int
  | 0 => l
  | k + 1 => (up l K rt k).set (k + K + 21) (rt (Go.bits .xor .u32 (Go.bits .xor .u32 (Go.bits .xor .u32 ((up l K rt k).getD (k + K + 18) 0) ((up l K rt k).getD (k + K + 13) 0)) ((up l K rt k).getD (k + K + 7) 0)) ((up l K rt k).getD (k + K + 5) 0)))
theorem up_len (l : List Int) (K : Nat) (rt : Int → Int) (h : l.length = 85) : ∀ k, (up l K rt k).length = 85
  | 0 => h
  | k + 1 => by rw [up, List.length_set, up_len l K rt h k]
def dnL (l : List Int) (K : Nat) : Nat → List Int
  | 0 => l
  | k + 1 => (dnL l K k).set ((K + 4) - k) (Go.bits .xor .u32 (Go.bits .xor .u32 (Go.bits .xor .u32 (rotl ((dnL l K k).getD ((K + 20) - k) 0) 31) ((dnL l K k).getD ((K + 17) - k) 0)) ((dnL l K k).getD ((K + 12) - k) 0)) ((dnL l K k).getD ((K + 6) - k) 0))
theorem dnL_len (l : List Int) (K : Nat) (h : l.length = 85) : ∀ k, (dnL l K k).length = 85
  | 0 => h
  | k + 1 => by rw [dnL, List.length_set, dnL_len l K h k]
def dnR (l : List Int) (K : Nat) : Nat → List Int
  | 0 => l
  | k + 1 => (dnR l K k).set ((K + 4) - k) (Go.bits .xor .u32 (Go.bits .xor .u32 (Go.bits .xor .u32 (rotr ((dnR l K k).getD ((K + 20) - k) 0) 31) ((dnR l K k).getD ((K + 17) - k) 0)) ((dnR l K k).getD ((K + 12) - k) 0)) ((dnR l K k).getD ((K + 6) - k) 0))
theorem dnR_len (l : List Int) (K : Nat) (h : l.length = 85) : ∀ k, (dnR l K k).length = 85
  | 0 => h
  | k + 1 => by rw [dnR, List.length_set, dnR_len l K h k]
def beginL (two : Bool) (K B : Nat) : List Int :=
  let l := (List.replicate 85 0).set (K + 20) (IntKind.u32.wrap (1 * 2 ^ min ((B : Nat) : Int).toNat 32))
  if two then (l.set (K + 6) (rotl 1 ((B + 31 : Nat) : Int))).set (K + 8) ((l.set (K + 6) (rotl 1 ((B + 31 : Nat) : Int))).getD (K + 6) 0) else l
theorem beginL_len (two : Bool) (K B : Nat) : (beginL two K B).length = 85 := by
  unfold beginL
  cases two <;> simp
def beginR (two : Bool) (K B : Nat) : List Int :=
  let l := (List.replicate 85 0).set (K + 20) (IntKind.u32.wrap (1 * 2 ^ min (IntKind.u64.wrap ((B : Nat) : Int)).toNat 32))
  if two then (l.set (K + 6) (IntKind.u32.wrap (1 * 2 ^ min (IntKind.u64.wrap (((B + 31) % 32 : Nat) : Int)).toNat 32))).set (K + 8) (IntKind.u32.wrap (1 * 2 ^ min (IntKind.u64.wrap (((B + 31) % 32 : Nat) : Int)).toNat 32)) else l
theorem beginR_len (two : Bool) (K B : Nat) : (beginR two K B).length = 85 := by
  unfold beginR
  cases two <;> simp
def rowL (two : Bool) (K B : Nat) : List Int := dnL (up (beginL two K B) K (fun x => rotl x 1) (64 - K)) K (K + 5)
theorem rowL_len (two : Bool) (K B : Nat) : (rowL two K B).length = 85 := dnL_len _ K (up_len _ K _ (beginL_len two K B) _) _
def rowR (two : Bool) (K B : Nat) : List Int := dnR (up (beginR two K B) K (fun x => rotr x 1) (64 - K)) K (K + 5)
def diffL (d : List Int) : Nat → List Int
  | 0 => List.replicate 80 0
  | t + 1 => (diffL d t).set t (Go.bits .xor .u32 (Go.bits .xor .u32 (Go.bits .xor .u32 (d.getD (t + 5) 0) (rotl (d.getD (t + 4) 0) 5)) (d.getD (t + 3) 0)) (rotl (Go.bits .xor .u32 (Go.bits .xor .u32 (d.getD (t + 2) 0) (d.getD (t + 1) 0)) (d.getD t 0)) 30))
theorem diffL_len (d : List Int) : ∀ t, (diffL d t).length = 80
  | 0 => List.length_replicate
  | t + 1 => by rw [diffL, List.length_set, diffL_len d t]
def diffR (d : List Int) : Nat → List Int
  | 0 => List.replicate 80 0
  | t + 1 => (diffR d t).set t (Go.bits .xor .u32 (Go.bits .xor .u32 (Go.bits .xor .u32 (Go.bits .xor .u32 (Go.bits .xor .u32 (d.getD (t + 5) 0) (rotr (d.getD (t + 4) 0) 5)) (d.getD (t + 3) 0)) (rotr (d.getD (t + 2) 0) 30)) (rotr (d.getD (t + 1) 0) 30)) (rotr (d.getD t 0) 30))
theorem diffR_len (d : List Int) : ∀ t, (diffR d t).length = 80
  | 0 => List.length_replicate
  | t + 1 => by rw [diffR, List.length_set, diffR_len d t]
theorem Row1.calls (K B : Nat) (hK : K ≤ 64) (hB : B ≤ 31) (w0 : World) : Calls Try.prog 20 #[.agg #[.int .i64 1, .int .i64 (K : Int), .int .i64 (B : Int)]] w0 fun e w' => e = .returned (.agg (nums .u32 (rowL false K B))) ∧ Low w0 w' := by
  refine c_fun (R := _) Try.func20 rfl 90 rfl (Nat.le_of_ble_eq_true rfl) ?_
  intro a z hA
  have s0 := hA 0 _ rfl
  clear hA
  refine c_seq ?_
  refine c_region ?_
  refine l_box rfl rfl s0.ev ?_
  intro g1 w1 hg1 k1 h1
  have geg1 := Nat.le_trans (Low.refl _).ge hg1
  refine l_alloc rfl rfl zero48 ?_
  intro g2 w2 hg2 k2 h2
  have lt_g1_g2 := Nat.lt_of_lt_of_le (heap_lt k1) hg2
  have geg2 := Nat.le_trans h1.ge hg2
  have kg1_2 := h2.blk k1
  refine l_end ?_
  refine e_fresh z.put.put ?_
  intro a3 z3 m3
  have s1_3 := m3 _ _ ((At.hit z rfl).ne rfl)
  have s2_3 := m3 _ _ (At.hit z.put rfl)
  have low3 := (h1.trans h2)
  clear m3
  refine e_then ?_
  refine c_seq ?_
  refine c_region ?_
  refine l_alloc rfl rfl zero48 ?_
  intro g3 w4 hg4 k4 h4
  have lt_g1_g3 := Nat.lt_of_lt_of_le (heap_lt kg1_2) hg4
  have lt_g2_g3 := Nat.lt_of_lt_of_le (heap_lt k2) hg4
  have geg3 := Nat.le_trans low3.ge hg4
  have kg1_4 := h4.blk kg1_2
  have kg2_4 := h4.blk k2
  refine l_end ?_
  refine e_fresh z3.put ?_
  intro a5 z5 m5
  have s1_5 := m5 _ _ (s1_3.ne rfl)
  have s2_5 := m5 _ _ (s2_3.ne rfl)
  have s3_5 := m5 _ _ (At.hit z3 rfl)
  have low5 := (low3.trans h4)
  clear m5
  refine e_then ?_
  refine c_seq ?_
  refine c_region ?_
  refine l_q rfl (q_fld 1 rfl (by kernel_rfl) s1_5.ev ?_)
  refine l_q rfl (q_cell (.int .i64 ((K : Nat) : Int)) rfl Try.underlying3 (At.hit z5 rfl).ev (fun _ e => by rw [e]; exact (cells_at kg1_4 1).trans rfl) ?_)
  refine l_q rfl (q_add (((K + 5 : Nat) : Int)) rfl (At.hit z5.put rfl).ev rfl (i64_is (by omega) (by omega) (by omega)) ?_)
  refine l_q rfl (q_assign _ _ rfl (At.hit z5.put.put rfl).ev ?_)
  refine l_end ?_
  refine e_fresh z5.put.put.put.put ?_
  intro a6 z6 m6
  have s1_6 := m6 _ _ ((((s1_5.ne rfl).ne rfl).ne rfl).ne rfl)
  have s2_6 := m6 _ _ ((((s2_5.ne rfl).ne rfl).ne rfl).ne rfl)
  have s3_6 := m6 _ _ ((((s3_5.ne rfl).ne rfl).ne rfl).ne rfl)
  have s4_6 := m6 _ _ (At.hit z5.put.put.put rfl)
  clear m6
  refine e_then ?_
  refine c_seq ?_
  refine c_region ?_
  refine l_q rfl (q_move _ _ rfl s4_6.ev ?_)
  refine l_q rfl (q_add (((K + 20 : Nat) : Int)) rfl (At.hit z6 rfl).ev rfl (i64_is (by omega) (by omega) (by omega)) ?_)
  refine l_q rfl (q_fld 2 rfl (by kernel_rfl) ((s1_6.ne rfl).ne rfl).ev ?_)
  refine l_q rfl (q_cell (.int .i64 ((B : Nat) : Int)) rfl Try.underlying3 (At.hit z6.put.put rfl).ev (fun _ e => by rw [e]; exact (cells_at kg1_4 2).trans rfl) ?_)
  refine l_q rfl (q_shl (IntKind.u32.wrap (1 * 2 ^ min (((B : Nat) : Int) : Int).toNat 32)) rfl rfl (At.hit z6.put.put.put rfl).ev (by first | omega | exact u64_nonneg _) rfl ?_)
  refine l_q rfl (q_idx (j := K + 20) rfl Try.underlying48 sz30 (((((s3_6.ne rfl).ne rfl).ne rfl).ne rfl).ne rfl).ev ((((At.hit z6.put rfl).ne rfl).ne rfl).ne rfl).ev (by omega) ?_)
  refine l_cell (j := (K + 20)) (v := .int .u32 (IntKind.u32.wrap (1 * 2 ^ min (((B : Nat) : Int) : Int).toNat 32))) rfl rfl rfl sz30 (At.hit z6.put.put.put.put.put rfl).ev ((At.hit z6.put.put.put.put rfl).ne rfl).ev rfl k4 (by rw [(nums_size _ _).trans (List.length_replicate)]; omega) ?_
  intro w7 k7 u7
  rw [nums_put] at k7
  have kg1_7 := u7.blk kg1_4 (by omega)
  have kg2_7 := u7.blk kg2_4 (by omega)
  refine l_end ?_
  refine e_fresh z6.put.put.put.put.put.put ?_
  intro a8 z8 m8
  have s1_8 := m8 _ _ ((((((s1_6.ne rfl).ne rfl).ne rfl).ne rfl).ne rfl).ne rfl)
  have s2_8 := m8 _ _ ((((((s2_6.ne rfl).ne rfl).ne rfl).ne rfl).ne rfl).ne rfl)
  have s3_8 := m8 _ _ ((((((s3_6.ne rfl).ne rfl).ne rfl).ne rfl).ne rfl).ne rfl)
  have s4_8 := m8 _ _ ((((((s4_6.ne rfl).ne rfl).ne rfl).ne rfl).ne rfl).ne rfl)
  have low8 := (low5.upd u7 geg3)
  clear m8
  refine e_then ?_
  refine c_seq ?_
  refine c_seq ?_
  refine c_region ?_
  refine l_q rfl (q_fld 0 rfl (by kernel_rfl) s1_8.ev ?_)
  refine l_q rfl (q_cell (.int .i64 1) rfl Try.underlying3 (At.hit z8 rfl).ev (fun _ e => by rw [e]; exact (cells_at kg1_7 0).trans rfl) ?_)
  refine l_q rfl (q_eql false rfl (At.hit z8.put rfl).ev rfl (decide_eq_false (by omega)) ?_)
  refine l_end ?_
  refine e_fresh z8.put.put.put ?_
  intro a9 z9 m9
  have s1_9 := m9 _ _ (((s1_8.ne rfl).ne rfl).ne rfl)
  have s2_9 := m9 _ _ (((s2_8.ne rfl).ne rfl).ne rfl)
  have s3_9 := m9 _ _ (((s3_8.ne rfl).ne rfl).ne rfl)
  have s4_9 := m9 _ _ (((s4_8.ne rfl).ne rfl).ne rfl)
  have s18_9 := m9 _ _ (At.hit z8.put.put rfl)
  clear m9
  refine e_then ?_
  refine c_false s18_9 ?_
  refine wp_skip ?_
  refine e_then ?_
  refine c_seq ?_
  refine c_seq ?_
  refine c_region ?_
  refine l_q rfl (q_move _ _ rfl s4_9.ev ?_)
  refine l_q rfl (q_add (((K + 21 : Nat) : Int)) rfl (At.hit z9 rfl).ev rfl (i64_is (by omega) (by omega) (by omega)) ?_)
  refine l_q rfl (q_assign _ _ rfl (At.hit z9.put rfl).ev ?_)
  refine l_end ?_
  refine e_fresh z9.put.put.put ?_
  intro a10 z10 m10
  have s2_10 := m10 _ _ (((s2_9.ne rfl).ne rfl).ne rfl)
  have s3_10 := m10 _ _ (((s3_9.ne rfl).ne rfl).ne rfl)
  have s4_10 := m10 _ _ (((s4_9.ne rfl).ne rfl).ne rfl)
  have s5_10 := m10 _ _ (At.hit z9.put.put rfl)
  clear m10
  refine e_then ?_
  refine wp_block ?_
  refine c_loop (64 - K) (fun k a w => Fr 90 a ∧ At a 2 (.pointer (some ⟨g2, 0, none⟩)) ∧ At a 3 (.pointer (some ⟨g3, 0, none⟩)) ∧ At a 4 (.int .i64 ((K + 5 : Nat) : Int)) ∧ At a 5 (.int .i64 ((k + K + 21 : Nat) : Int)) ∧ w.heap[g2]? = some (.cells (nums .u32 (List.replicate 85 0)) 48) ∧ w.heap[g3]? = some (.cells (nums .u32 (up (beginL false K B) K (fun x => rotl x 1) k)) 48) ∧ Low w0 w) ?_ ?_ ?_
  · exact ⟨z10, s2_10, s3_10, s4_10, (s5_10.same (congrArg (Value.int .i64) (by omega))), kg2_7, k7, low8⟩
  · intro k a11 w11 hk11 h
    obtain ⟨z11, s2_11, s3_11, s4_11, s5_11, kg2_11, kg3_11, low11⟩ := h
    clear k7 kg2_7 low8 s2_10 s3_10 s4_10 s5_10 z10
    refine c_seq ?_
    refine c_seq ?_
    refine c_region ?_
    refine l_q rfl (q_move _ _ rfl s5_11.ev ?_)
    refine l_q rfl (q_lss true rfl (At.hit z11 rfl).ev rfl (decide_eq_true (by omega)) ?_)
    refine l_end ?_
    refine e_fresh z11.put.put ?_
    intro a12 z12 m12
    have s2_12 := m12 _ _ ((s2_11.ne rfl).ne rfl)
    have s3_12 := m12 _ _ ((s3_11.ne rfl).ne rfl)
    have s4_12 := m12 _ _ ((s4_11.ne rfl).ne rfl)
    have s5_12 := m12 _ _ ((s5_11.ne rfl).ne rfl)
    have s36_12 := m12 _ _ (At.hit z11.put rfl)
    clear m12
    refine e_then ?_
    refine c_true s36_12 ?_
    refine wp_skip ?_
    refine e_then ?_
    refine c_seq ?_
    refine wp_block ?_
    refine region_low_tail 22 hm (by kernel_rfl) ?_
    simp only [List.take_succ_cons, List.take_zero, List.drop_succ_cons, List.drop_zero]
    refine qs (q_move _ _ rfl s5_12.ev ?_)
    refine qs (q_move _ _ rfl (s5_12.ne rfl).ev ?_)
    refine qs (q_sub (((k + K + 18 : Nat) : Int)) rfl (At.hit z12.put rfl).ev rfl (i64_is (by omega) (by omega) (by omega)) ?_)
    refine qs (q_idx (j := k + K + 18) rfl Try.underlying48 sz30 (((s3_12.ne rfl).ne rfl).ne rfl).ev (At.hit z12.put.put rfl).ev (by omega) ?_)
    refine qs (q_cell (.int .u32 ((up (beginL false K B) K (fun x => rotl x 1) k).getD (k + K + 18) 0)) rfl Try.underlying30 (At.hit z12.put.put.put rfl).ev (fun _ h => nums_cell (h.blk kg3_11) (k + K + 18) (by rw [(up_len _ K _ (beginL_len false K B) _)]; omega)) ?_)
    refine qs (q_move _ _ rfl (((((s5_12.ne rfl).ne rfl).ne rfl).ne rfl).ne rfl).ev ?_)
    refine qs (q_sub (((k + K + 13 : Nat) : Int)) rfl (At.hit z12.put.put.put.put.put rfl).ev rfl (i64_is (by omega) (by omega) (by omega)) ?_)
    refine qs (q_idx (j := k + K + 13) rfl Try.underlying48 sz30 (((((((s3_12.ne rfl).ne rfl).ne rfl).ne rfl).ne rfl).ne rfl).ne rfl).ev (At.hit z12.put.put.put.put.put.put rfl).ev (by omega) ?_)
    refine q_fresh z12.put.put.put.put.put.put.put.put ?_
    intro a13 z13 m13
    have s2_13 := m13 _ _ ((((((((s2_12.ne rfl).ne rfl).ne rfl).ne rfl).ne rfl).ne rfl).ne rfl).ne rfl)
    have s3_13 := m13 _ _ ((((((((s3_12.ne rfl).ne rfl).ne rfl).ne rfl).ne rfl).ne rfl).ne rfl).ne rfl)
    have s4_13 := m13 _ _ ((((((((s4_12.ne rfl).ne rfl).ne rfl).ne rfl).ne rfl).ne rfl).ne rfl).ne rfl)
    have s5_13 := m13 _ _ ((((((((s5_12.ne rfl).ne rfl).ne rfl).ne rfl).ne rfl).ne rfl).ne rfl).ne rfl)
    have s39_13 := m13 _ _ ((((((((At.hit z12 rfl).ne rfl).ne rfl).ne rfl).ne rfl).ne rfl).ne rfl).ne rfl)
    have s43_13 := m13 _ _ ((((At.hit z12.put.put.put.put rfl).ne rfl).ne rfl).ne rfl)
    have s46_13 := m13 _ _ (At.hit z12.put.put.put.put.put.put.put rfl)
    clear m13
    refine qs (q_cell (.int .u32 ((up (beginL false K B) K (fun x => rotl x 1) k).getD (k + K + 13) 0)) rfl Try.underlying30 s46_13.ev (fun _ h => nums_cell (h.blk kg3_11) (k + K + 13) (by rw [(up_len _ K _ (beginL_len false K B) _)]; omega)) ?_)
    refine qs (q_xor rfl (s43_13.ne rfl).ev (At.hit z13 rfl).ev ?_)
    refine qs (q_move _ _ rfl ((s5_13.ne rfl).ne rfl).ev ?_)
    refine qs (q_sub (((k + K + 7 : Nat) : Int)) rfl (At.hit z13.put.put rfl).ev rfl (i64_is (by omega) (by omega) (by omega)) ?_)
    refine qs (q_idx (j := k + K + 7) rfl Try.underlying48 sz30 ((((s3_13.ne rfl).ne rfl).ne rfl).ne rfl).ev (At.hit z13.put.put.put rfl).ev (by omega) ?_)
    refine qs (q_cell (.int .u32 ((up (beginL false K B) K (fun x => rotl x 1) k).getD (k + K + 7) 0)) rfl Try.underlying30 (At.hit z13.put.put.put.put rfl).ev (fun _ h => nums_cell (h.blk kg3_11) (k + K + 7) (by rw [(up_len _ K _ (beginL_len false K B) _)]; omega)) ?_)
    refine qs (q_xor rfl (((((At.hit z13.put rfl).ne rfl).ne rfl).ne rfl).ne rfl).ev (At.hit z13.put.put.put.put.put rfl).ev ?_)
    refine qs (q_move _ _ rfl (((((((s5_13.ne rfl).ne rfl).ne rfl).ne rfl).ne rfl).ne rfl).ne rfl).ev ?_)
    refine q_fresh z13.put.put.put.put.put.put.put.put ?_
    intro a14 z14 m14
    have s2_14 := m14 _ _ ((((((((s2_13.ne rfl).ne rfl).ne rfl).ne rfl).ne rfl).ne rfl).ne rfl).ne rfl)
    have s3_14 := m14 _ _ ((((((((s3_13.ne rfl).ne rfl).ne rfl).ne rfl).ne rfl).ne rfl).ne rfl).ne rfl)
    have s4_14 := m14 _ _ ((((((((s4_13.ne rfl).ne rfl).ne rfl).ne rfl).ne rfl).ne rfl).ne rfl).ne rfl)
    have s5_14 := m14 _ _ ((((((((s5_13.ne rfl).ne rfl).ne rfl).ne rfl).ne rfl).ne rfl).ne rfl).ne rfl)
    have s39_14 := m14 _ _ ((((((((s39_13.ne rfl).ne rfl).ne rfl).ne rfl).ne rfl).ne rfl).ne rfl).ne rfl)
    have s53_14 := m14 _ _ ((At.hit z13.put.put.put.put.put.put rfl).ne rfl)
    have s54_14 := m14 _ _ (At.hit z13.put.put.put.put.put.put.put rfl)
    clear m14
    refine qs (q_sub (((k + K + 5 : Nat) : Int)) rfl s54_14.ev rfl (i64_is (by omega) (by omega) (by omega)) ?_)
    refine qs (q_idx (j := k + K + 5) rfl Try.underlying48 sz30 (s3_14.ne rfl).ev (At.hit z14 rfl).ev (by omega) ?_)
    refine qs (q_cell (.int .u32 ((up (beginL false K B) K (fun x => rotl x 1) k).getD (k + K + 5) 0)) rfl Try.underlying30 (At.hit z14.put rfl).ev (fun _ h => nums_cell (h.blk kg3_11) (k + K + 5) (by rw [(up_len _ K _ (beginL_len false K B) _)]; omega)) ?_)
    refine qs (q_xor rfl (((s53_14.ne rfl).ne rfl).ne rfl).ev (At.hit z14.put.put rfl).ev ?_)
    refine qs (q_call (.int .u32 (rotl (Go.bits .xor .u32 (Go.bits .xor .u32 (Go.bits .xor .u32 ((up (beginL false K B) K (fun x => rotl x 1) k).getD (k + K + 18) 0) ((up (beginL false K B) K (fun x => rotl x 1) k).getD (k + K + 13) 0)) ((up (beginL false K B) K (fun x => rotl x 1) k).getD (k + K + 7) 0)) ((up (beginL false K B) K (fun x => rotl x 1) k).getD (k + K + 5) 0)) 1)) rfl rfl Try.func21 rfl (args2 rfl (At.hit z14.put.put.put rfl).ev rfl) (fun _ h => (RotL.calls (Go.bits .xor .u32 (Go.bits .xor .u32 (Go.bits .xor .u32 ((up (beginL false K B) K (fun x => rotl x 1) k).getD (k + K + 18) 0) ((up (beginL false K B) K (fun x => rotl x 1) k).getD (k + K + 13) 0)) ((up (beginL false K B) K (fun x => rotl x 1) k).getD (k + K + 7) 0)) ((up (beginL false K B) K (fun x => rotl x 1) k).getD (k + K + 5) 0)) 1 _).mono fun _ _ ⟨e, k⟩ => ⟨e, h.trans k⟩) ?_)
    refine qs (q_idx (j := k + K + 21) rfl Try.underlying48 sz30 (((((s3_14.ne rfl).ne rfl).ne rfl).ne rfl).ne rfl).ev (((((s39_14.ne rfl).ne rfl).ne rfl).ne rfl).ne rfl).ev (by omega) ?_)
    refine qz ?_
    intro w15 h15
    have kg2_15 := h15.blk kg2_11
    have kg3_15 := h15.blk kg3_11
    refine l_cell (j := (k + K + 21)) (v := .int .u32 (rotl (Go.bits .xor .u32 (Go.bits .xor .u32 (Go.bits .xor .u32 ((up (beginL false K B) K (fun x => rotl x 1) k).getD (k + K + 18) 0) ((up (beginL false K B) K (fun x => rotl x 1) k).getD (k + K + 13) 0)) ((up (beginL false K B) K (fun x => rotl x 1) k).getD (k + K + 7) 0)) ((up (beginL false K B) K (fun x => rotl x 1) k).getD (k + K + 5) 0)) 1)) rfl rfl rfl sz30 (At.hit z14.put.put.put.put.put rfl).ev ((At.hit z14.put.put.put.put rfl).ne rfl).ev rfl kg3_15 (by rw [(nums_size _ _).trans (up_len _ K _ (beginL_len false K B) _)]; omega) ?_
    intro w16 k16 u16
    rw [nums_put] at k16
    have kg2_16 := u16.blk kg2_15 (by omega)
    refine l_end ?_
    refine e_fresh z14.put.put.put.put.put.put ?_
    intro a17 z17 m17
    have s2_17 := m17 _ _ ((((((s2_14.ne rfl).ne rfl).ne rfl).ne rfl).ne rfl).ne rfl)
    have s3_17 := m17 _ _ ((((((s3_14.ne rfl).ne rfl).ne rfl).ne rfl).ne rfl).ne rfl)
    have s4_17 := m17 _ _ ((((((s4_14.ne rfl).ne rfl).ne rfl).ne rfl).ne rfl).ne rfl)
    have s5_17 := m17 _ _ ((((((s5_14.ne rfl).ne rfl).ne rfl).ne rfl).ne rfl).ne rfl)
    have low17 := ((low11.trans h15).upd u16 geg3)
    clear m17
    refine e_in ?_
    refine e_then ?_
    refine c_region ?_
    refine l_q rfl (q_move _ _ rfl s5_17.ev ?_)
    refine l_q rfl (q_add (((k + K + 22 : Nat) : Int)) rfl (At.hit z17 rfl).ev rfl (i64_is (by omega) (by omega) (by omega)) ?_)
    refine l_q rfl (q_assign _ _ rfl (At.hit z17.put rfl).ev ?_)
    refine l_end ?_
    refine e_fresh z17.put.put.put ?_
    intro a18 z18 m18
    have s2_18 := m18 _ _ (((s2_17.ne rfl).ne rfl).ne rfl)
    have s3_18 := m18 _ _ (((s3_17.ne rfl).ne rfl).ne rfl)
    have s4_18 := m18 _ _ (((s4_17.ne rfl).ne rfl).ne rfl)
    have s5_18 := m18 _ _ (At.hit z17.put.put rfl)
    clear m18
    exact ⟨z18, s2_18, s3_18, s4_18, (s5_18.same (congrArg (Value.int .i64) (by omega))), kg2_16, k16, low17⟩
  · intro a19 w19 h
    obtain ⟨z19, s2_19, s3_19, s4_19, s5_19, kg2_19, kg3_19, low19⟩ := h
    clear k7 kg2_7 low8 s2_10 s3_10 s4_10 s5_10 z10
    have s5_19 := s5_19.same (congrArg (Value.int .i64) (show _ = (85 : Int) by omega))
    refine c_seq ?_
    refine c_seq ?_
    refine c_region ?_
    refine l_q rfl (q_move _ _ rfl s5_19.ev ?_)
    refine l_q rfl (q_lss false rfl (At.hit z19 rfl).ev rfl (decide_eq_false (by omega)) ?_)
    refine l_end ?_
    refine e_fresh z19.put.put ?_
    intro a20 z20 m20
    have s2_20 := m20 _ _ ((s2_19.ne rfl).ne rfl)
    have s3_20 := m20 _ _ ((s3_19.ne rfl).ne rfl)
    have s4_20 := m20 _ _ ((s4_19.ne rfl).ne rfl)
    have s5_20 := m20 _ _ ((s5_19.ne rfl).ne rfl)
    have s36_20 := m20 _ _ (At.hit z19.put rfl)
    clear m20
    refine e_then ?_
    refine c_false s36_20 ?_
    refine wp_exit ?_
    refine x_then ?_
    refine x_then ?_
    refine in_exit ?_
    refine e_then ?_
    refine c_seq ?_
    refine c_seq ?_
    refine c_region ?_
    refine l_q rfl (q_move _ _ rfl s4_20.ev ?_)
    refine l_q rfl (q_sub (((K + 4 : Nat) : Int)) rfl (At.hit z20 rfl).ev rfl (i64_is (by omega) (by omega) (by omega)) ?_)
    refine l_q rfl (q_assign _ _ rfl (At.hit z20.put rfl).ev ?_)
    refine l_end ?_
    refine e_fresh z20.put.put.put ?_
    intro a21 z21 m21
    have s2_21 := m21 _ _ (((s2_20.ne rfl).ne rfl).ne rfl)
    have s3_21 := m21 _ _ (((s3_20.ne rfl).ne rfl).ne rfl)
    have s6_21 := m21 _ _ (At.hit z20.put.put rfl)
    clear m21
    refine e_then ?_
    refine wp_block ?_
    refine c_loop (K + 5) (fun k a w => Fr 90 a ∧ At a 2 (.pointer (some ⟨g2, 0, none⟩)) ∧ At a 3 (.pointer (some ⟨g3, 0, none⟩)) ∧ At a 6 (.int .i64 (((K : Nat) : Int) + 4 - ((k : Nat) : Int))) ∧ w.heap[g2]? = some (.cells (nums .u32 (List.replicate 85 0)) 48) ∧ w.heap[g3]? = some (.cells (nums .u32 (dnL (up (beginL false K B) K (fun x => rotl x 1) (64 - K)) K k)) 48) ∧ Low w0 w) ?_ ?_ ?_
    · exact ⟨z21, s2_21, s3_21, (s6_21.same (congrArg (Value.int .i64) (by omega))), kg2_19, kg3_19, low19⟩
    · intro k a22 w22 hk22 h
      obtain ⟨z22, s2_22, s3_22, s6_22, kg2_22, kg3_22, low22⟩ := h
      clear kg2_19 kg3_19 low19 s2_21 s3_21 s6_21 z21
      refine c_seq ?_
      refine c_seq ?_
      refine c_region ?_
      refine l_q rfl (q_move _ _ rfl s6_22.ev ?_)
      refine l_q rfl (q_geq true rfl (At.hit z22 rfl).ev rfl (decide_eq_true (by omega)) ?_)
      refine l_end ?_
      refine e_fresh z22.put.put ?_
      intro a23 z23 m23
      have s2_23 := m23 _ _ ((s2_22.ne rfl).ne rfl)
      have s3_23 := m23 _ _ ((s3_22.ne rfl).ne rfl)
      have s6_23 := m23 _ _ ((s6_22.ne rfl).ne rfl)
      have s64_23 := m23 _ _ (At.hit z22.put rfl)
      clear m23
      refine e_then ?_
      refine c_true s64_23 ?_
      refine wp_skip ?_
      refine e_then ?_
      refine c_seq ?_
      refine wp_block ?_
      refine region_low_tail 22 hm (by kernel_rfl) ?_
      simp only [List.take_succ_cons, List.take_zero, List.drop_succ_cons, List.drop_zero]
      refine qs (q_move _ _ rfl s6_23.ev ?_)
      refine qs (q_move _ _ rfl (s6_23.ne rfl).ev ?_)
      refine qs (q_add ((((K : Nat) : Int) + 20 - ((k : Nat) : Int))) rfl (At.hit z23.put rfl).ev rfl (i64_is (by omega) (by omega) (by omega)) ?_)
      refine qs (q_idx (j := (K + 20) - k) rfl Try.underlying48 sz30 (((s3_23.ne rfl).ne rfl).ne rfl).ev ((At.hit z23.put.put rfl).same (congrArg (Value.int .i64) (show ((((K : Nat) : Int) + 20 - ((k : Nat) : Int)) : Int) = (((K + 20) - k : Nat) : Int) by omega))).ev (by omega) ?_)
      refine qs (q_cell (.int .u32 ((dnL (up (beginL false K B) K (fun x => rotl x 1) (64 - K)) K k).getD ((K + 20) - k) 0)) rfl Try.underlying30 (At.hit z23.put.put.put rfl).ev (fun _ h => nums_cell (h.blk kg3_22) ((K + 20) - k) (by rw [(dnL_len _ K (up_len _ K _ (beginL_len false K B) _) _)]; omega)) ?_)
      refine qs (q_call (.int .u32 (rotl ((dnL (up (beginL false K B) K (fun x => rotl x 1) (64 - K)) K k).getD ((K + 20) - k) 0) 31)) rfl rfl Try.func21 rfl (args2 rfl (At.hit z23.put.put.put.put rfl).ev rfl) (fun _ h => (RotL.calls ((dnL (up (beginL false K B) K (fun x => rotl x 1) (64 - K)) K k).getD ((K + 20) - k) 0) 31 _).mono fun _ _ ⟨e, k⟩ => ⟨e, h.trans k⟩) ?_)
      refine qs (q_move _ _ rfl ((((((s6_23.ne rfl).ne rfl).ne rfl).ne rfl).ne rfl).ne rfl).ev ?_)
      refine qs (q_add ((((K : Nat) : Int) + 17 - ((k : Nat) : Int))) rfl (At.hit z23.put.put.put.put.put.put rfl).ev rfl (i64_is (by omega) (by omega) (by omega)) ?_)
      refine q_fresh z23.put.put.put.put.put.put.put.put ?_
      intro a24 z24 m24
      have s2_24 := m24 _ _ ((((((((s2_23.ne rfl).ne rfl).ne rfl).ne rfl).ne rfl).ne rfl).ne rfl).ne rfl)
      have s3_24 := m24 _ _ ((((((((s3_23.ne rfl).ne rfl).ne rfl).ne rfl).ne rfl).ne rfl).ne rfl).ne rfl)
      have s6_24 := m24 _ _ ((((((((s6_23.ne rfl).ne rfl).ne rfl).ne rfl).ne rfl).ne rfl).ne rfl).ne rfl)
      have s67_24 := m24 _ _ ((((((((At.hit z23 rfl).ne rfl).ne rfl).ne rfl).ne rfl).ne rfl).ne rfl).ne rfl)
      have s72_24 := m24 _ _ (((At.hit z23.put.put.put.put.put rfl).ne rfl).ne rfl)
      have s74_24 := m24 _ _ (At.hit z23.put.put.put.put.put.put.put rfl)
      clear m24
      refine qs (q_idx (j := (K + 17) - k) rfl Try.underlying48 sz30 s3_24.ev (s74_24.same (congrArg (Value.int .i64) (show ((((K : Nat) : Int) + 17 - ((k : Nat) : Int)) : Int) = (((K + 17) - k : Nat) : Int) by omega))).ev (by omega) ?_)
      refine qs (q_cell (.int .u32 ((dnL (up (beginL false K B) K (fun x => rotl x 1) (64 - K)) K k).getD ((K + 17) - k) 0)) rfl Try.underlying30 (At.hit z24 rfl).ev (fun _ h => nums_cell (h.blk kg3_22) ((K + 17) - k) (by rw [(dnL_len _ K (up_len _ K _ (beginL_len false K B) _) _)]; omega)) ?_)
      refine qs (q_xor rfl ((s72_24.ne rfl).ne rfl).ev (At.hit z24.put rfl).ev ?_)
      refine qs (q_move _ _ rfl (((s6_24.ne rfl).ne rfl).ne rfl).ev ?_)
      refine qs (q_add ((((K : Nat) : Int) + 12 - ((k : Nat) : Int))) rfl (At.hit z24.put.put.put rfl).ev rfl (i64_is (by omega) (by omega) (by omega)) ?_)
      refine qs (q_idx (j := (K + 12) - k) rfl Try.underlying48 sz30 (((((s3_24.ne rfl).ne rfl).ne rfl).ne rfl).ne rfl).ev ((At.hit z24.put.put.put.put rfl).same (congrArg (Value.int .i64) (show ((((K : Nat) : Int) + 12 - ((k : Nat) : Int)) : Int) = (((K + 12) - k : Nat) : Int) by omega))).ev (by omega) ?_)
      refine qs (q_cell (.int .u32 ((dnL (up (beginL false K B) K (fun x => rotl x 1) (64 - K)) K k).getD ((K + 12) - k) 0)) rfl Try.underlying30 (At.hit z24.put.put.put.put.put rfl).ev (fun _ h => nums_cell (h.blk kg3_22) ((K + 12) - k) (by rw [(dnL_len _ K (up_len _ K _ (beginL_len false K B) _) _)]; omega)) ?_)
      refine qs (q_xor rfl (((((At.hit z24.put.put rfl).ne rfl).ne rfl).ne rfl).ne rfl).ev (At.hit z24.put.put.put.put.put.put rfl).ev ?_)
      refine q_fresh z24.put.put.put.put.put.put.put.put ?_
      intro a25 z25 m25
      have s2_25 := m25 _ _ ((((((((s2_24.ne rfl).ne rfl).ne rfl).ne rfl).ne rfl).ne rfl).ne rfl).ne rfl)
      have s3_25 := m25 _ _ ((((((((s3_24.ne rfl).ne rfl).ne rfl).ne rfl).ne rfl).ne rfl).ne rfl).ne rfl)
      have s6_25 := m25 _ _ ((((((((s6_24.ne rfl).ne rfl).ne rfl).ne rfl).ne rfl).ne rfl).ne rfl).ne rfl)
      have s67_25 := m25 _ _ ((((((((s67_24.ne rfl).ne rfl).ne rfl).ne rfl).ne rfl).ne rfl).ne rfl).ne rfl)
      have s82_25 := m25 _ _ (At.hit z24.put.put.put.put.put.put.put rfl)
      clear m25
      refine qs (q_move _ _ rfl s6_25.ev ?_)
      refine qs (q_add ((((K : Nat) : Int) + 6 - ((k : Nat) : Int))) rfl (At.hit z25 rfl).ev rfl (i64_is (by omega) (by omega) (by omega)) ?_)
      refine qs (q_idx (j := (K + 6) - k) rfl Try.underlying48 sz30 ((s3_25.ne rfl).ne rfl).ev ((At.hit z25.put rfl).same (congrArg (Value.int .i64) (show ((((K : Nat) : Int) + 6 - ((k : Nat) : Int)) : Int) = (((K + 6) - k : Nat) : Int) by omega))).ev (by omega) ?_)
      refine qs (q_cell (.int .u32 ((dnL (up (beginL false K B) K (fun x => rotl x 1) (64 - K)) K k).getD ((K + 6) - k) 0)) rfl Try.underlying30 (At.hit z25.put.put rfl).ev (fun _ h => nums_cell (h.blk kg3_22) ((K + 6) - k) (by rw [(dnL_len _ K (up_len _ K _ (beginL_len false K B) _) _)]; omega)) ?_)
      refine qs (q_xor rfl ((((s82_25.ne rfl).ne rfl).ne rfl).ne rfl).ev (At.hit z25.put.put.put rfl).ev ?_)
      refine qs (q_idx (j := (K + 4) - k) rfl Try.underlying48 sz30 (((((s3_25.ne rfl).ne rfl).ne rfl).ne rfl).ne rfl).ev ((((((s67_25.ne rfl).ne rfl).ne rfl).ne rfl).ne rfl).same (congrArg (Value.int .i64) (show ((((K : Nat) : Int) + 4 - ((k : Nat) : Int)) : Int) = (((K + 4) - k : Nat) : Int) by omega))).ev (by omega) ?_)
      refine qz ?_
      intro w26 h26
      have kg2_26 := h26.blk kg2_22
      have kg3_26 := h26.blk kg3_22
      refine l_cell (j := ((K + 4) - k)) (v := .int .u32 (Go.bits .xor .u32 (Go.bits .xor .u32 (Go.bits .xor .u32 (rotl ((dnL (up (beginL false K B) K (fun x => rotl x 1) (64 - K)) K k).getD ((K + 20) - k) 0) 31) ((dnL (up (beginL false K B) K (fun x => rotl x 1) (64 - K)) K k).getD ((K + 17) - k) 0)) ((dnL (up (beginL false K B) K (fun x => rotl x 1) (64 - K)) K k).getD ((K + 12) - k) 0)) ((dnL (up (beginL false K B) K (fun x => rotl x 1) (64 - K)) K k).getD ((K + 6) - k) 0))) rfl rfl rfl sz30 (At.hit z25.put.put.put.put.put rfl).ev ((At.hit z25.put.put.put.put rfl).ne rfl).ev rfl kg3_26 (by rw [(nums_size _ _).trans (dnL_len _ K (up_len _ K _ (beginL_len false K B) _) _)]; omega) ?_
      intro w27 k27 u27
      rw [nums_put] at k27
      have kg2_27 := u27.blk kg2_26 (by omega)
      refine l_end ?_
      refine e_fresh z25.put.put.put.put.put.put ?_
      intro a28 z28 m28
      have s2_28 := m28 _ _ ((((((s2_25.ne rfl).ne rfl).ne rfl).ne rfl).ne rfl).ne rfl)
      have s3_28 := m28 _ _ ((((((s3_25.ne rfl).ne rfl).ne rfl).ne rfl).ne rfl).ne rfl)
      have s6_28 := m28 _ _ ((((((s6_25.ne rfl).ne rfl).ne rfl).ne rfl).ne rfl).ne rfl)
      have low28 := ((low22.trans h26).upd u27 geg3)
      clear m28
      refine e_in ?_
      refine e_then ?_
      refine c_region ?_
      refine l_q rfl (q_move _ _ rfl s6_28.ev ?_)
      refine l_q rfl (q_sub ((((K : Nat) : Int) + 3 - ((k : Nat) : Int))) rfl (At.hit z28 rfl).ev rfl (i64_is (by omega) (by omega) (by omega)) ?_)
      refine l_q rfl (q_assign _ _ rfl (At.hit z28.put rfl).ev ?_)
      refine l_end ?_
      refine e_fresh z28.put.put.put ?_
      intro a29 z29 m29
      have s2_29 := m29 _ _ (((s2_28.ne rfl).ne rfl).ne rfl)
      have s3_29 := m29 _ _ (((s3_28.ne rfl).ne rfl).ne rfl)
      have s6_29 := m29 _ _ (At.hit z28.put.put rfl)
      clear m29
      exact ⟨z29, s2_29, s3_29, (s6_29.same (congrArg (Value.int .i64) (by omega))), kg2_27, k27, low28⟩
    · intro a30 w30 h
      obtain ⟨z30, s2_30, s3_30, s6_30, kg2_30, kg3_30, low30⟩ := h
      clear kg2_19 kg3_19 low19 s2_21 s3_21 s6_21 z21
      have s6_30 := s6_30.same (congrArg (Value.int .i64) (show _ = ((-1) : Int) by omega))
      refine c_seq ?_
      refine c_seq ?_
      refine c_region ?_
      refine l_q rfl (q_move _ _ rfl s6_30.ev ?_)
      refine l_q rfl (q_geq false rfl (At.hit z30 rfl).ev rfl (decide_eq_false (by omega)) ?_)
      refine l_end ?_
      refine e_fresh z30.put.put ?_
      intro a31 z31 m31
      have s2_31 := m31 _ _ ((s2_30.ne rfl).ne rfl)
      have s3_31 := m31 _ _ ((s3_30.ne rfl).ne rfl)
      have s6_31 := m31 _ _ ((s6_30.ne rfl).ne rfl)
      have s64_31 := m31 _ _ (At.hit z30.put rfl)
      clear m31
      refine e_then ?_
      refine c_false s64_31 ?_
      refine wp_exit ?_
      refine x_then ?_
      refine x_then ?_
      refine in_exit ?_
      refine e_then ?_
      refine c_seq ?_
      refine c_region ?_
      refine l_q rfl (q_row rfl Try.underlying48 rfl (sz48.trans (congrArg some ((nums_size _ _).trans (dnL_len _ K (up_len _ K _ (beginL_len false K B) _) _)).symm)) s3_31.ev (fun _ e => by rw [e]; exact kg3_30) ?_)
      refine l_row rfl rfl rfl (sz48.trans (congrArg some ((nums_size _ _).trans (dnL_len _ K (up_len _ K _ (beginL_len false K B) _) _)).symm)) (s2_31.ne rfl).ev (At.hit z31 rfl).ev (nums_one _ _) kg2_30 (((nums_size _ _).trans (List.length_replicate)).trans ((nums_size _ _).trans (dnL_len _ K (up_len _ K _ (beginL_len false K B) _) _)).symm) ?_
      intro w32 k32 u32
      have kg3_32 := u32.blk kg3_30 (by omega)
      refine l_end ?_
      refine e_fresh z31.put ?_
      intro a33 z33 m33
      have s2_33 := m33 _ _ (s2_31.ne rfl)
      have low33 := (low30.upd u32 geg2)
      clear m33
      refine e_then ?_
      refine wp_ret ?_
      refine r_cell rfl z33.defers s2_33 k32 Try.underlying48 rfl (sz48.trans (congrArg some ((nums_size _ _).trans (dnL_len _ K (up_len _ K _ (beginL_len false K B) _) _)).symm)) ?_
      exact ⟨rfl, low33⟩
theorem Row2.calls (K B : Nat) (hK : K ≤ 64) (hB : B ≤ 31) (w0 : World) : Calls Try.prog 20 #[.agg #[.int .i64 2, .int .i64 (K : Int), .int .i64 (B : Int)]] w0 fun e w' => e = .returned (.agg (nums .u32 (rowL true K B))) ∧ Low w0 w' := by
  refine c_fun (R := _) Try.func20 rfl 90 rfl (Nat.le_of_ble_eq_true rfl) ?_
  intro a z hA
  have s0 := hA 0 _ rfl
  clear hA
  refine c_seq ?_
  refine c_region ?_
  refine l_box rfl rfl s0.ev ?_
  intro g1 w1 hg1 k1 h1
  have geg1 := Nat.le_trans (Low.refl _).ge hg1
  refine l_alloc rfl rfl zero48 ?_
  intro g2 w2 hg2 k2 h2
  have lt_g1_g2 := Nat.lt_of_lt_of_le (heap_lt k1) hg2
  have geg2 := Nat.le_trans h1.ge hg2
  have kg1_2 := h2.blk k1
  refine l_end ?_
  refine e_fresh z.put.put ?_
  intro a3 z3 m3
  have s1_3 := m3 _ _ ((At.hit z rfl).ne rfl)
  have s2_3 := m3 _ _ (At.hit z.put rfl)
  have low3 := (h1.trans h2)
  clear m3
  refine e_then ?_
  refine c_seq ?_
  refine c_region ?_
  refine l_alloc rfl rfl zero48 ?_
  intro g3 w4 hg4 k4 h4
  have lt_g1_g3 := Nat.lt_of_lt_of_le (heap_lt kg1_2) hg4
  have lt_g2_g3 := Nat.lt_of_lt_of_le (heap_lt k2) hg4
  have geg3 := Nat.le_trans low3.ge hg4
  have kg1_4 := h4.blk kg1_2
  have kg2_4 := h4.blk k2
  refine l_end ?_
  refine e_fresh z3.put ?_
  intro a5 z5 m5
  have s1_5 := m5 _ _ (s1_3.ne rfl)
  have s2_5 := m5 _ _ (s2_3.ne rfl)
  have s3_5 := m5 _ _ (At.hit z3 rfl)
  have low5 := (low3.trans h4)
  clear m5
  refine e_then ?_
  refine c_seq ?_
  refine c_region ?_
  refine l_q rfl (q_fld 1 rfl (by kernel_rfl) s1_5.ev ?_)
  refine l_q rfl (q_cell (.int .i64 ((K : Nat) : Int)) rfl Try.underlying3 (At.hit z5 rfl).ev (fun _ e => by rw [e]; exact (cells_at kg1_4 1).trans rfl) ?_)
  refine l_q rfl (q_add (((K + 5 : Nat) : Int)) rfl (At.hit z5.put rfl).ev rfl (i64_is (by omega) (by omega) (by omega)) ?_)
  refine l_q rfl (q_assign _ _ rfl (At.hit z5.put.put rfl).ev ?_)
  refine l_end ?_
  refine e_fresh z5.put.put.put.put ?_
  intro a6 z6 m6
  have s1_6 := m6 _ _ ((((s1_5.ne rfl).ne rfl).ne rfl).ne rfl)
  have s2_6 := m6 _ _ ((((s2_5.ne rfl).ne rfl).ne rfl).ne rfl)
  have s3_6 := m6 _ _ ((((s3_5.ne rfl).ne rfl).ne rfl).ne rfl)
  have s4_6 := m6 _ _ (At.hit z5.put.put.put rfl)
  clear m6
  refine e_then ?_
  refine c_seq ?_
  refine c_region ?_
  refine l_q rfl (q_move _ _ rfl s4_6.ev ?_)
  refine l_q rfl (q_add (((K + 20 : Nat) : Int)) rfl (At.hit z6 rfl).ev rfl (i64_is (by omega) (by omega) (by omega)) ?_)
  refine l_q rfl (q_fld 2 rfl (by kernel_rfl) ((s1_6.ne rfl).ne rfl).ev ?_)
  refine l_q rfl (q_cell (.int .i64 ((B : Nat) : Int)) rfl Try.underlying3 (At.hit z6.put.put rfl).ev (fun _ e => by rw [e]; exact (cells_at kg1_4 2).trans rfl) ?_)
  refine l_q rfl (q_shl (IntKind.u32.wrap (1 * 2 ^ min (((B : Nat) : Int) : Int).toNat 32)) rfl rfl (At.hit z6.put.put.put rfl).ev (by first | omega | exact u64_nonneg _) rfl ?_)
  refine l_q rfl (q_idx (j := K + 20) rfl Try.underlying48 sz30 (((((s3_6.ne rfl).ne rfl).ne rfl).ne rfl).ne rfl).ev ((((At.hit z6.put rfl).ne rfl).ne rfl).ne rfl).ev (by omega) ?_)
  refine l_cell (j := (K + 20)) (v := .int .u32 (IntKind.u32.wrap (1 * 2 ^ min (((B : Nat) : Int) : Int).toNat 32))) rfl rfl rfl sz30 (At.hit z6.put.put.put.put.put rfl).ev ((At.hit z6.put.put.put.put rfl).ne rfl).ev rfl k4 (by rw [(nums_size _ _).trans (List.length_replicate)]; omega) ?_
  intro w7 k7 u7
  rw [nums_put] at k7
  have kg1_7 := u7.blk kg1_4 (by omega)
  have kg2_7 := u7.blk kg2_4 (by omega)
  refine l_end ?_
  refine e_fresh z6.put.put.put.put.put.put ?_
  intro a8 z8 m8
  have s1_8 := m8 _ _ ((((((s1_6.ne rfl).ne rfl).ne rfl).ne rfl).ne rfl).ne rfl)
  have s2_8 := m8 _ _ ((((((s2_6.ne rfl).ne rfl).ne rfl).ne rfl).ne rfl).ne rfl)
  have s3_8 := m8 _ _ ((((((s3_6.ne rfl).ne rfl).ne rfl).ne rfl).ne rfl).ne rfl)
  have s4_8 := m8 _ _ ((((((s4_6.ne rfl).ne rfl).ne rfl).ne rfl).ne rfl).ne rfl)
  have low8 := (low5.upd u7 geg3)
  clear m8
  refine e_then ?_
  refine c_seq ?_
  refine c_seq ?_
  refine c_region ?_
  refine l_q rfl (q_fld 0 rfl (by kernel_rfl) s1_8.ev ?_)
  refine l_q rfl (q_cell (.int .i64 2) rfl Try.underlying3 (At.hit z8 rfl).ev (fun _ e => by rw [e]; exact (cells_at kg1_7 0).trans rfl) ?_)
  refine l_q rfl (q_eql true rfl (At.hit z8.put rfl).ev rfl (decide_eq_true (by omega)) ?_)
  refine l_end ?_
  refine e_fresh z8.put.put.put ?_
  intro a9 z9 m9
  have s1_9 := m9 _ _ (((s1_8.ne rfl).ne rfl).ne rfl)
  have s2_9 := m9 _ _ (((s2_8.ne rfl).ne rfl).ne rfl)
  have s3_9 := m9 _ _ (((s3_8.ne rfl).ne rfl).ne rfl)
  have s4_9 := m9 _ _ (((s4_8.ne rfl).ne rfl).ne rfl)
  have s18_9 := m9 _ _ (At.hit z8.put.put rfl)
  clear m9
  refine e_then ?_
  refine c_true s18_9 ?_
  refine c_seq ?_
  refine c_region ?_
  refine l_q rfl (q_move _ _ rfl s4_9.ev ?_)
  refine l_q rfl (q_add (((K + 6 : Nat) : Int)) rfl (At.hit z9 rfl).ev rfl (i64_is (by omega) (by omega) (by omega)) ?_)
  refine l_q rfl (q_fld 2 rfl (by kernel_rfl) ((s1_9.ne rfl).ne rfl).ev ?_)
  refine l_q rfl (q_cell (.int .i64 ((B : Nat) : Int)) rfl Try.underlying3 (At.hit z9.put.put rfl).ev (fun _ e => by rw [e]; exact (cells_at kg1_7 2).trans rfl) ?_)
  refine l_q rfl (q_add (((B + 31 : Nat) : Int)) rfl rfl (At.hit z9.put.put.put rfl).ev (i64_is (by omega) (by omega) (by omega)) ?_)
  refine l_call (fun v w' => v = .int .u32 (rotl 1 ((B + 31 : Nat) : Int)) ∧ Low w7 w') rfl rfl rfl Try.func21 rfl (args2 rfl rfl (At.hit z9.put.put.put.put rfl).ev) ((RotL.calls 1 ((B + 31 : Nat) : Int) _).mono fun _ _ ⟨e, k⟩ => ⟨_, e, rfl, k⟩) ?_
  rintro _ w10 ⟨rfl, h10⟩
  have kg1_10 := h10.blk kg1_7
  have kg2_10 := h10.blk kg2_7
  have kg3_10 := h10.blk k7
  refine l_q rfl (q_idx (j := K + 6) rfl Try.underlying48 sz30 ((((((s3_9.ne rfl).ne rfl).ne rfl).ne rfl).ne rfl).ne rfl).ev (((((At.hit z9.put rfl).ne rfl).ne rfl).ne rfl).ne rfl).ev (by omega) ?_)
  refine l_cell (j := (K + 6)) (v := .int .u32 (rotl 1 ((B + 31 : Nat) : Int))) rfl rfl rfl sz30 (At.hit z9.put.put.put.put.put.put rfl).ev ((At.hit z9.put.put.put.put.put rfl).ne rfl).ev rfl kg3_10 (by rw [(nums_size _ _).trans ((List.length_set ..).trans (List.length_replicate))]; omega) ?_
  intro w11 k11 u11
  rw [nums_put] at k11
  have kg1_11 := u11.blk kg1_10 (by omega)
  have kg2_11 := u11.blk kg2_10 (by omega)
  refine l_end ?_
  refine e_fresh z9.put.put.put.put.put.put.put ?_
  intro a12 z12 m12
  have s2_12 := m12 _ _ (((((((s2_9.ne rfl).ne rfl).ne rfl).ne rfl).ne rfl).ne rfl).ne rfl)
  have s3_12 := m12 _ _ (((((((s3_9.ne rfl).ne rfl).ne rfl).ne rfl).ne rfl).ne rfl).ne rfl)
  have s4_12 := m12 _ _ (((((((s4_9.ne rfl).ne rfl).ne rfl).ne rfl).ne rfl).ne rfl).ne rfl)
  have low12 := ((low8.trans h10).upd u11 geg3)
  clear m12
  refine e_then ?_
  refine c_region ?_
  refine l_q rfl (q_move _ _ rfl s4_12.ev ?_)
  refine l_q rfl (q_add (((K + 8 : Nat) : Int)) rfl (At.hit z12 rfl).ev rfl (i64_is (by omega) (by omega) (by omega)) ?_)
  refine l_q rfl (q_move _ _ rfl ((s4_12.ne rfl).ne rfl).ev ?_)
  refine l_q rfl (q_add (((K + 6 : Nat) : Int)) rfl (At.hit z12.put.put rfl).ev rfl (i64_is (by omega) (by omega) (by omega)) ?_)
  refine l_q rfl (q_idx (j := K + 6) rfl Try.underlying48 sz30 ((((s3_12.ne rfl).ne rfl).ne rfl).ne rfl).ev (At.hit z12.put.put.put rfl).ev (by omega) ?_)
  refine l_q rfl (q_cell (.int .u32 ((((List.replicate 85 0).set (K + 20) (IntKind.u32.wrap (1 * 2 ^ min (((B : Nat) : Int) : Int).toNat 32))).set (K + 6) (rotl 1 ((B + 31 : Nat) : Int))).getD (K + 6) 0)) rfl Try.underlying30 (At.hit z12.put.put.put.put rfl).ev (fun _ e => by rw [e]; exact nums_cell k11 (K + 6) (by rw [((List.length_set ..).trans ((List.length_set ..).trans (List.length_replicate)))]; omega)) ?_)
  refine l_q rfl (q_idx (j := K + 8) rfl Try.underlying48 sz30 ((((((s3_12.ne rfl).ne rfl).ne rfl).ne rfl).ne rfl).ne rfl).ev (((((At.hit z12.put rfl).ne rfl).ne rfl).ne rfl).ne rfl).ev (by omega) ?_)
  refine l_cell (j := (K + 8)) (v := .int .u32 ((((List.replicate 85 0).set (K + 20) (IntKind.u32.wrap (1 * 2 ^ min (((B : Nat) : Int) : Int).toNat 32))).set (K + 6) (rotl 1 ((B + 31 : Nat) : Int))).getD (K + 6) 0)) rfl rfl rfl sz30 (At.hit z12.put.put.put.put.put.put rfl).ev ((At.hit z12.put.put.put.put.put rfl).ne rfl).ev rfl k11 (by rw [(nums_size _ _).trans ((List.length_set ..).trans ((List.length_set ..).trans (List.length_replicate)))]; omega) ?_
  intro w13 k13 u13
  rw [nums_put] at k13
  have kg2_13 := u13.blk kg2_11 (by omega)
  refine l_end ?_
  refine e_fresh z12.put.put.put.put.put.put.put ?_
  intro a14 z14 m14
  have s2_14 := m14 _ _ (((((((s2_12.ne rfl).ne rfl).ne rfl).ne rfl).ne rfl).ne rfl).ne rfl)
  have s3_14 := m14 _ _ (((((((s3_12.ne rfl).ne rfl).ne rfl).ne rfl).ne rfl).ne rfl).ne rfl)
  have s4_14 := m14 _ _ (((((((s4_12.ne rfl).ne rfl).ne rfl).ne rfl).ne rfl).ne rfl).ne rfl)
  have low14 := (low12.upd u13 geg3)
  clear m14
  refine e_then ?_
  refine c_seq ?_
  refine c_seq ?_
  refine c_region ?_
  refine l_q rfl (q_move _ _ rfl s4_14.ev ?_)
  refine l_q rfl (q_add (((K + 21 : Nat) : Int)) rfl (At.hit z14 rfl).ev rfl (i64_is (by omega) (by omega) (by omega)) ?_)
  refine l_q rfl (q_assign _ _ rfl (At.hit z14.put rfl).ev ?_)
  refine l_end ?_
  refine e_fresh z14.put.put.put ?_
  intro a15 z15 m15
  have s2_15 := m15 _ _ (((s2_14.ne rfl).ne rfl).ne rfl)
  have s3_15 := m15 _ _ (((s3_14.ne rfl).ne rfl).ne rfl)
  have s4_15 := m15 _ _ (((s4_14.ne rfl).ne rfl).ne rfl)
  have s5_15 := m15 _ _ (At.hit z14.put.put rfl)
  clear m15
  refine e_then ?_
  refine wp_block ?_
  refine c_loop (64 - K) (fun k a w => Fr 90 a ∧ At a 2 (.pointer (some ⟨g2, 0, none⟩)) ∧ At a 3 (.pointer (some ⟨g3, 0, none⟩)) ∧ At a 4 (.int .i64 ((K + 5 : Nat) : Int)) ∧ At a 5 (.int .i64 ((k + K + 21 : Nat) : Int)) ∧ w.heap[g2]? = some (.cells (nums .u32 (List.replicate 85 0)) 48) ∧ w.heap[g3]? = some (.cells (nums .u32 (up (beginL true K B) K (fun x => rotl x 1) k)) 48) ∧ Low w0 w) ?_ ?_ ?_
  · exact ⟨z15, s2_15, s3_15, s4_15, (s5_15.same (congrArg (Value.int .i64) (by omega))), kg2_13, k13, low14⟩
  · intro k a16 w16 hk16 h
    obtain ⟨z16, s2_16, s3_16, s4_16, s5_16, kg2_16, kg3_16, low16⟩ := h
    clear k13 kg2_13 low14 s2_15 s3_15 s4_15 s5_15 z15
    refine c_seq ?_
    refine c_seq ?_
    refine c_region ?_
    refine l_q rfl (q_move _ _ rfl s5_16.ev ?_)
    refine l_q rfl (q_lss true rfl (At.hit z16 rfl).ev rfl (decide_eq_true (by omega)) ?_)
    refine l_end ?_
    refine e_fresh z16.put.put ?_
    intro a17 z17 m17
    have s2_17 := m17 _ _ ((s2_16.ne rfl).ne rfl)
    have s3_17 := m17 _ _ ((s3_16.ne rfl).ne rfl)
    have s4_17 := m17 _ _ ((s4_16.ne rfl).ne rfl)
    have s5_17 := m17 _ _ ((s5_16.ne rfl).ne rfl)
    have s36_17 := m17 _ _ (At.hit z16.put rfl)
    clear m17
    refine e_then ?_
    refine c_true s36_17 ?_
    refine wp_skip ?_
    refine e_then ?_
    refine c_seq ?_
    refine wp_block ?_
    refine region_low_tail 22 hm (by kernel_rfl) ?_
    simp only [List.take_succ_cons, List.take_zero, List.drop_succ_cons, List.drop_zero]
    refine qs (q_move _ _ rfl s5_17.ev ?_)
    refine qs (q_move _ _ rfl (s5_17.ne rfl).ev ?_)
    refine qs (q_sub (((k + K + 18 : Nat) : Int)) rfl (At.hit z17.put rfl).ev rfl (i64_is (by omega) (by omega) (by omega)) ?_)
    refine qs (q_idx (j := k + K + 18) rfl Try.underlying48 sz30 (((s3_17.ne rfl).ne rfl).ne rfl).ev (At.hit z17.put.put rfl).ev (by omega) ?_)
    refine qs (q_cell (.int .u32 ((up (beginL true K B) K (fun x => rotl x 1) k).getD (k + K + 18) 0)) rfl Try.underlying30 (At.hit z17.put.put.put rfl).ev (fun _ h => nums_cell (h.blk kg3_16) (k + K + 18) (by rw [(up_len _ K _ (beginL_len true K B) _)]; omega)) ?_)
    refine qs (q_move _ _ rfl (((((s5_17.ne rfl).ne rfl).ne rfl).ne rfl).ne rfl).ev ?_)
    refine qs (q_sub (((k + K + 13 : Nat) : Int)) rfl (At.hit z17.put.put.put.put.put rfl).ev rfl (i64_is (by omega) (by omega) (by omega)) ?_)
    refine qs (q_idx (j := k + K + 13) rfl Try.underlying48 sz30 (((((((s3_17.ne rfl).ne rfl).ne rfl).ne rfl).ne rfl).ne rfl).ne rfl).ev (At.hit z17.put.put.put.put.put.put rfl).ev (by omega) ?_)
    refine q_fresh z17.put.put.put.put.put.put.put.put ?_
    intro a18 z18 m18
    have s2_18 := m18 _ _ ((((((((s2_17.ne rfl).ne rfl).ne rfl).ne rfl).ne rfl).ne rfl).ne rfl).ne rfl)
    have s3_18 := m18 _ _ ((((((((s3_17.ne rfl).ne rfl).ne rfl).ne rfl).ne rfl).ne rfl).ne rfl).ne rfl)
    have s4_18 := m18 _ _ ((((((((s4_17.ne rfl).ne rfl).ne rfl).ne rfl).ne rfl).ne rfl).ne rfl).ne rfl)
    have s5_18 := m18 _ _ ((((((((s5_17.ne rfl).ne rfl).ne rfl).ne rfl).ne rfl).ne rfl).ne rfl).ne rfl)
    have s39_18 := m18 _ _ ((((((((At.hit z17 rfl).ne rfl).ne rfl).ne rfl).ne rfl).ne rfl).ne rfl).ne rfl)
    have s43_18 := m18 _ _ ((((At.hit z17.put.put.put.put rfl).ne rfl).ne rfl).ne rfl)
    have s46_18 := m18 _ _ (At.hit z17.put.put.put.put.put.put.put rfl)
    clear m18
    refine qs (q_cell (.int .u32 ((up (beginL true K B) K (fun x => rotl x 1) k).getD (k + K + 13) 0)) rfl Try.underlying30 s46_18.ev (fun _ h => nums_cell (h.blk kg3_16) (k + K + 13) (by rw [(up_len _ K _ (beginL_len true K B) _)]; omega)) ?_)
    refine qs (q_xor rfl (s43_18.ne rfl).ev (At.hit z18 rfl).ev ?_)
    refine qs (q_move _ _ rfl ((s5_18.ne rfl).ne rfl).ev ?_)
    refine qs (q_sub (((k + K + 7 : Nat) : Int)) rfl (At.hit z18.put.put rfl).ev rfl (i64_is (by omega) (by omega) (by omega)) ?_)
    refine qs (q_idx (j := k + K + 7) rfl Try.underlying48 sz30 ((((s3_18.ne rfl).ne rfl).ne rfl).ne rfl).ev (At.hit z18.put.put.put rfl).ev (by omega) ?_)
    refine qs (q_cell (.int .u32 ((up (beginL true K B) K (fun x => rotl x 1) k).getD (k + K + 7) 0)) rfl Try.underlying30 (At.hit z18.put.put.put.put rfl).ev (fun _ h => nums_cell (h.blk kg3_16) (k + K + 7) (by rw [(up_len _ K _ (beginL_len true K B) _)]; omega)) ?_)
    refine qs (q_xor rfl (((((At.hit z18.put rfl).ne rfl).ne rfl).ne rfl).ne rfl).ev (At.hit z18.put.put.put.put.put rfl).ev ?_)
    refine qs (q_move _ _ rfl (((((((s5_18.ne rfl).ne rfl).ne rfl).ne rfl).ne rfl).ne rfl).ne rfl).ev ?_)
    refine q_fresh z18.put.put.put.put.put.put.put.put ?_
    intro a19 z19 m19
    have s2_19 := m19 _ _ ((((((((s2_18.ne rfl).ne rfl).ne rfl).ne rfl).ne rfl).ne rfl).ne rfl).ne rfl)
    have s3_19 := m19 _ _ ((((((((s3_18.ne rfl).ne rfl).ne rfl).ne rfl).ne rfl).ne rfl).ne rfl).ne rfl)
    have s4_19 := m19 _ _ ((((((((s4_18.ne rfl).ne rfl).ne rfl).ne rfl).ne rfl).ne rfl).ne rfl).ne rfl)
    have s5_19 := m19 _ _ ((((((((s5_18.ne rfl).ne rfl).ne rfl).ne rfl).ne rfl).ne rfl).ne rfl).ne rfl)
    have s39_19 := m19 _ _ ((((((((s39_18.ne rfl).ne rfl).ne rfl).ne rfl).ne rfl).ne rfl).ne rfl).ne rfl)
    have s53_19 := m19 _ _ ((At.hit z18.put.put.put.put.put.put rfl).ne rfl)
    have s54_19 := m19 _ _ (At.hit z18.put.put.put.put.put.put.put rfl)
    clear m19
    refine qs (q_sub (((k + K + 5 : Nat) : Int)) rfl s54_19.ev rfl (i64_is (by omega) (by omega) (by omega)) ?_)
    refine qs (q_idx (j := k + K + 5) rfl Try.underlying48 sz30 (s3_19.ne rfl).ev (At.hit z19 rfl).ev (by omega) ?_)
    refine qs (q_cell (.int .u32 ((up (beginL true K B) K (fun x => rotl x 1) k).getD (k + K + 5) 0)) rfl Try.underlying30 (At.hit z19.put rfl).ev (fun _ h => nums_cell (h.blk kg3_16) (k + K + 5) (by rw [(up_len _ K _ (beginL_len true K B) _)]; omega)) ?_)
    refine qs (q_xor rfl (((s53_19.ne rfl).ne rfl).ne rfl).ev (At.hit z19.put.put rfl).ev ?_)
    refine qs (q_call (.int .u32 (rotl (Go.bits .xor .u32 (Go.bits .xor .u32 (Go.bits .xor .u32 ((up (beginL true K B) K (fun x => rotl x 1) k).getD (k + K + 18) 0) ((up (beginL true K B) K (fun x => rotl x 1) k).getD (k + K + 13) 0)) ((up (beginL true K B) K (fun x => rotl x 1) k).getD (k + K + 7) 0)) ((up (beginL true K B) K (fun x => rotl x 1) k).getD (k + K + 5) 0)) 1)) rfl rfl Try.func21 rfl (args2 rfl (At.hit z19.put.put.put rfl).ev rfl) (fun _ h => (RotL.calls (Go.bits .xor .u32 (Go.bits .xor .u32 (Go.bits .xor .u32 ((up (beginL true K B) K (fun x => rotl x 1) k).getD (k + K + 18) 0) ((up (beginL true K B) K (fun x => rotl x 1) k).getD (k + K + 13) 0)) ((up (beginL true K B) K (fun x => rotl x 1) k).getD (k + K + 7) 0)) ((up (beginL true K B) K (fun x => rotl x 1) k).getD (k + K + 5) 0)) 1 _).mono fun _ _ ⟨e, k⟩ => ⟨e, h.trans k⟩) ?_)
    refine qs (q_idx (j := k + K + 21) rfl Try.underlying48 sz30 (((((s3_19.ne rfl).ne rfl).ne rfl).ne rfl).ne rfl).ev (((((s39_19.ne rfl).ne rfl).ne rfl).ne rfl).ne rfl).ev (by omega) ?_)
    refine qz ?_
    intro w20 h20
    have kg2_20 := h20.blk kg2_16
    have kg3_20 := h20.blk kg3_16
    refine l_cell (j := (k + K + 21)) (v := .int .u32 (rotl (Go.bits .xor .u32 (Go.bits .xor .u32 (Go.bits .xor .u32 ((up (beginL true K B) K (fun x => rotl x 1) k).getD (k + K + 18) 0) ((up (beginL true K B) K (fun x => rotl x 1) k).getD (k + K + 13) 0)) ((up (beginL true K B) K (fun x => rotl x 1) k).getD (k + K + 7) 0)) ((up (beginL true K B) K (fun x => rotl x 1) k).getD (k + K + 5) 0)) 1)) rfl rfl rfl sz30 (At.hit z19.put.put.put.put.put rfl).ev ((At.hit z19.put.put.put.put rfl).ne rfl).ev rfl kg3_20 (by rw [(nums_size _ _).trans (up_len _ K _ (beginL_len true K B) _)]; omega) ?_
    intro w21 k21 u21
    rw [nums_put] at k21
    have kg2_21 := u21.blk kg2_20 (by omega)
    refine l_end ?_
    refine e_fresh z19.put.put.put.put.put.put ?_
    intro a22 z22 m22
    have s2_22 := m22 _ _ ((((((s2_19.ne rfl).ne rfl).ne rfl).ne rfl).ne rfl).ne rfl)
    have s3_22 := m22 _ _ ((((((s3_19.ne rfl).ne rfl).ne rfl).ne rfl).ne rfl).ne rfl)
    have s4_22 := m22 _ _ ((((((s4_19.ne rfl).ne rfl).ne rfl).ne rfl).ne rfl).ne rfl)
    have s5_22 := m22 _ _ ((((((s5_19.ne rfl).ne rfl).ne rfl).ne rfl).ne rfl).ne rfl)
    have low22 := ((low16.trans h20).upd u21 geg3)
    clear m22
    refine e_in ?_
    refine e_then ?_
    refine c_region ?_
    refine l_q rfl (q_move _ _ rfl s5_22.ev ?_)
    refine l_q rfl (q_add (((k + K + 22 : Nat) : Int)) rfl (At.hit z22 rfl).ev rfl (i64_is (by omega) (by omega) (by omega)) ?_)
    refine l_q rfl (q_assign _ _ rfl (At.hit z22.put rfl).ev ?_)
    refine l_end ?_
    refine e_fresh z22.put.put.put ?_
    intro a23 z23 m23
    have s2_23 := m23 _ _ (((s2_22.ne rfl).ne rfl).ne rfl)
    have s3_23 := m23 _ _ (((s3_22.ne rfl).ne rfl).ne rfl)
    have s4_23 := m23 _ _ (((s4_22.ne rfl).ne rfl).ne rfl)
    have s5_23 := m23 _ _ (At.hit z22.put.put rfl)
    clear m23
    exact ⟨z23, s2_23, s3_23, s4_23, (s5_23.same (congrArg (Value.int .i64) (by omega))), kg2_21, k21, low22⟩
  · intro a24 w24 h
    obtain ⟨z24, s2_24, s3_24, s4_24, s5_24, kg2_24, kg3_24, low24⟩ := h
    clear k13 kg2_13 low14 s2_15 s3_15 s4_15 s5_15 z15
    have s5_24 := s5_24.same (congrArg (Value.int .i64) (show _ = (85 : Int) by omega))
    refine c_seq ?_
    refine c_seq ?_
    refine c_region ?_
    refine l_q rfl (q_move _ _ rfl s5_24.ev ?_)
    refine l_q rfl (q_lss false rfl (At.hit z24 rfl).ev rfl (decide_eq_false (by omega)) ?_)
    refine l_end ?_
    refine e_fresh z24.put.put ?_
    intro a25 z25 m25
    have s2_25 := m25 _ _ ((s2_24.ne rfl).ne rfl)
    have s3_25 := m25 _ _ ((s3_24.ne rfl).ne rfl)
    have s4_25 := m25 _ _ ((s4_24.ne rfl).ne rfl)
    have s5_25 := m25 _ _ ((s5_24.ne rfl).ne rfl)
    have s36_25 := m25 _ _ (At.hit z24.put rfl)
    clear m25
    refine e_then ?_
    refine c_false s36_25 ?_
    refine wp_exit ?_
    refine x_then ?_
    refine x_then ?_
    refine in_exit ?_
    refine e_then ?_
    refine c_seq ?_
    refine c_seq ?_
    refine c_region ?_
    refine l_q rfl (q_move _ _ rfl s4_25.ev ?_)
    refine l_q rfl (q_sub (((K + 4 : Nat) : Int)) rfl (At.hit z25 rfl).ev rfl (i64_is (by omega) (by omega) (by omega)) ?_)
    refine l_q rfl (q_assign _ _ rfl (At.hit z25.put rfl).ev ?_)
    refine l_end ?_
    refine e_fresh z25.put.put.put ?_
    intro a26 z26 m26
    have s2_26 := m26 _ _ (((s2_25.ne rfl).ne rfl).ne rfl)
    have s3_26 := m26 _ _ (((s3_25.ne rfl).ne rfl).ne rfl)
    have s6_26 := m26 _ _ (At.hit z25.put.put rfl)
    clear m26
    refine e_then ?_
    refine wp_block ?_
    refine c_loop (K + 5) (fun k a w => Fr 90 a ∧ At a 2 (.pointer (some ⟨g2, 0, none⟩)) ∧ At a 3 (.pointer (some ⟨g3, 0, none⟩)) ∧ At a 6 (.int .i64 (((K : Nat) : Int) + 4 - ((k : Nat) : Int))) ∧ w.heap[g2]? = some (.cells (nums .u32 (List.replicate 85 0)) 48) ∧ w.heap[g3]? = some (.cells (nums .u32 (dnL (up (beginL true K B) K (fun x => rotl x 1) (64 - K)) K k)) 48) ∧ Low w0 w) ?_ ?_ ?_
    · exact ⟨z26, s2_26, s3_26, (s6_26.same (congrArg (Value.int .i64) (by omega))), kg2_24, kg3_24, low24⟩
    · intro k a27 w27 hk27 h
      obtain ⟨z27, s2_27, s3_27, s6_27, kg2_27, kg3_27, low27⟩ := h
      clear kg2_24 kg3_24 low24 s2_26 s3_26 s6_26 z26
      refine c_seq ?_
      refine c_seq ?_
      refine c_region ?_
      refine l_q rfl (q_move _ _ rfl s6_27.ev ?_)
      refine l_q rfl (q_geq true rfl (At.hit z27 rfl).ev rfl (decide_eq_true (by omega)) ?_)
      refine l_end ?_
      refine e_fresh z27.put.put ?_
      intro a28 z28 m28
      have s2_28 := m28 _ _ ((s2_27.ne rfl).ne rfl)
      have s3_28 := m28 _ _ ((s3_27.ne rfl).ne rfl)
      have s6_28 := m28 _ _ ((s6_27.ne rfl).ne rfl)
      have s64_28 := m28 _ _ (At.hit z27.put rfl)
      clear m28
      refine e_then ?_
      refine c_true s64_28 ?_
      refine wp_skip ?_
      refine e_then ?_
      refine c_seq ?_
      refine wp_block ?_
      refine region_low_tail 22 hm (by kernel_rfl) ?_
      simp only [List.take_succ_cons, List.take_zero, List.drop_succ_cons, List.drop_zero]
      refine qs (q_move _ _ rfl s6_28.ev ?_)
      refine qs (q_move _ _ rfl (s6_28.ne rfl).ev ?_)
      refine qs (q_add ((((K : Nat) : Int) + 20 - ((k : Nat) : Int))) rfl (At.hit z28.put rfl).ev rfl (i64_is (by omega) (by omega) (by omega)) ?_)
      refine qs (q_idx (j := (K + 20) - k) rfl Try.underlying48 sz30 (((s3_28.ne rfl).ne rfl).ne rfl).ev ((At.hit z28.put.put rfl).same (congrArg (Value.int .i64) (show ((((K : Nat) : Int) + 20 - ((k : Nat) : Int)) : Int) = (((K + 20) - k : Nat) : Int) by omega))).ev (by omega) ?_)
      refine qs (q_cell (.int .u32 ((dnL (up (beginL true K B) K (fun x => rotl x 1) (64 - K)) K k).getD ((K + 20) - k) 0)) rfl Try.underlying30 (At.hit z28.put.put.put rfl).ev (fun _ h => nums_cell (h.blk kg3_27) ((K + 20) - k) (by rw [(dnL_len _ K (up_len _ K _ (beginL_len true K B) _) _)]; omega)) ?_)
      refine qs (q_call (.int .u32 (rotl ((dnL (up (beginL true K B) K (fun x => rotl x 1) (64 - K)) K k).getD ((K + 20) - k) 0) 31)) rfl rfl Try.func21 rfl (args2 rfl (At.hit z28.put.put.put.put rfl).ev rfl) (fun _ h => (RotL.calls ((dnL (up (beginL true K B) K (fun x => rotl x 1) (64 - K)) K k).getD ((K + 20) - k) 0) 31 _).mono fun _ _ ⟨e, k⟩ => ⟨e, h.trans k⟩) ?_)
      refine qs (q_move _ _ rfl ((((((s6_28.ne rfl).ne rfl).ne rfl).ne rfl).ne rfl).ne rfl).ev ?_)
      refine qs (q_add ((((K : Nat) : Int) + 17 - ((k : Nat) : Int))) rfl (At.hit z28.put.put.put.put.put.put rfl).ev rfl (i64_is (by omega) (by omega) (by omega)) ?_)
      refine q_fresh z28.put.put.put.put.put.put.put.put ?_
      intro a29 z29 m29
      have s2_29 := m29 _ _ ((((((((s2_28.ne rfl).ne rfl).ne rfl).ne rfl).ne rfl).ne rfl).ne rfl).ne rfl)
      have s3_29 := m29 _ _ ((((((((s3_28.ne rfl).ne rfl).ne rfl).ne rfl).ne rfl).ne rfl).ne rfl).ne rfl)
      have s6_29 := m29 _ _ ((((((((s6_28.ne rfl).ne rfl).ne rfl).ne rfl).ne rfl).ne rfl).ne rfl).ne rfl)
      have s67_29 := m29 _ _ ((((((((At.hit z28 rfl).ne rfl).ne rfl).ne rfl).ne rfl).ne rfl).ne rfl).ne rfl)
      have s72_29 := m29 _ _ (((At.hit z28.put.put.put.put.put rfl).ne rfl).ne rfl)
      have s74_29 := m29 _ _ (At.hit z28.put.put.put.put.put.put.put rfl)
      clear m29
      refine qs (q_idx (j := (K + 17) - k) rfl Try.underlying48 sz30 s3_29.ev (s74_29.same (congrArg (Value.int .i64) (show ((((K : Nat) : Int) + 17 - ((k : Nat) : Int)) : Int) = (((K + 17) - k : Nat) : Int) by omega))).ev (by omega) ?_)
      refine qs (q_cell (.int .u32 ((dnL (up (beginL true K B) K (fun x => rotl x 1) (64 - K)) K k).getD ((K + 17) - k) 0)) rfl Try.underlying30 (At.hit z29 rfl).ev (fun _ h => nums_cell (h.blk kg3_27) ((K + 17) - k) (by rw [(dnL_len _ K (up_len _ K _ (beginL_len true K B) _) _)]; omega)) ?_)
      refine qs (q_xor rfl ((s72_29.ne rfl).ne rfl).ev (At.hit z29.put rfl).ev ?_)
      refine qs (q_move _ _ rfl (((s6_29.ne rfl).ne rfl).ne rfl).ev ?_)
      refine qs (q_add ((((K : Nat) : Int) + 12 - ((k : Nat) : Int))) rfl (At.hit z29.put.put.put rfl).ev rfl (i64_is (by omega) (by omega) (by omega)) ?_)
      refine qs (q_idx (j := (K + 12) - k) rfl Try.underlying48 sz30 (((((s3_29.ne rfl).ne rfl).ne rfl).ne rfl).ne rfl).ev ((At.hit z29.put.put.put.put rfl).same (congrArg (Value.int .i64) (show ((((K : Nat) : Int) + 12 - ((k : Nat) : Int)) : Int) = (((K + 12) - k : Nat) : Int) by omega))).ev (by omega) ?_)
      refine qs (q_cell (.int .u32 ((dnL (up (beginL true K B) K (fun x => rotl x 1) (64 - K)) K k).getD ((K + 12) - k) 0)) rfl Try.underlying30 (At.hit z29.put.put.put.put.put rfl).ev (fun _ h => nums_cell (h.blk kg3_27) ((K + 12) - k) (by rw [(dnL_len _ K (up_len _ K _ (beginL_len true K B) _) _)]; omega)) ?_)
      refine qs (q_xor rfl (((((At.hit z29.put.put rfl).ne rfl).ne rfl).ne rfl).ne rfl).ev (At.hit z29.put.put.put.put.put.put rfl).ev ?_)
      refine q_fresh z29.put.put.put.put.put.put.put.put ?_
      intro a30 z30 m30
      have s2_30 := m30 _ _ ((((((((s2_29.ne rfl).ne rfl).ne rfl).ne rfl).ne rfl).ne rfl).ne rfl).ne rfl)
      have s3_30 := m30 _ _ ((((((((s3_29.ne rfl).ne rfl).ne rfl).ne rfl).ne rfl).ne rfl).ne rfl).ne rfl)
      have s6_30 := m30 _ _ ((((((((s6_29.ne rfl).ne rfl).ne rfl).ne rfl).ne rfl).ne rfl).ne rfl).ne rfl)
      have s67_30 := m30 _ _ ((((((((s67_29.ne rfl).ne rfl).ne rfl).ne rfl).ne rfl).ne rfl).ne rfl).ne rfl)
      have s82_30 := m30 _ _ (At.hit z29.put.put.put.put.put.put.put rfl)
      clear m30
      refine qs (q_move _ _ rfl s6_30.ev ?_)
      refine qs (q_add ((((K : Nat) : Int) + 6 - ((k : Nat) : Int))) rfl (At.hit z30 rfl).ev rfl (i64_is (by omega) (by omega) (by omega)) ?_)
      refine qs (q_idx (j := (K + 6) - k) rfl Try.underlying48 sz30 ((s3_30.ne rfl).ne rfl).ev ((At.hit z30.put rfl).same (congrArg (Value.int .i64) (show ((((K : Nat) : Int) + 6 - ((k : Nat) : Int)) : Int) = (((K + 6) - k : Nat) : Int) by omega))).ev (by omega) ?_)
      refine qs (q_cell (.int .u32 ((dnL (up (beginL true K B) K (fun x => rotl x 1) (64 - K)) K k).getD ((K + 6) - k) 0)) rfl Try.underlying30 (At.hit z30.put.put rfl).ev (fun _ h => nums_cell (h.blk kg3_27) ((K + 6) - k) (by rw [(dnL_len _ K (up_len _ K _ (beginL_len true K B) _) _)]; omega)) ?_)
      refine qs (q_xor rfl ((((s82_30.ne rfl).ne rfl).ne rfl).ne rfl).ev (At.hit z30.put.put.put rfl).ev ?_)
      refine qs (q_idx (j := (K + 4) - k) rfl Try.underlying48 sz30 (((((s3_30.ne rfl).ne rfl).ne rfl).ne rfl).ne rfl).ev ((((((s67_30.ne rfl).ne rfl).ne rfl).ne rfl).ne rfl).same (congrArg (Value.int .i64) (show ((((K : Nat) : Int) + 4 - ((k : Nat) : Int)) : Int) = (((K + 4) - k : Nat) : Int) by omega))).ev (by omega) ?_)
      refine qz ?_
      intro w31 h31
      have kg2_31 := h31.blk kg2_27
      have kg3_31 := h31.blk kg3_27
      refine l_cell (j := ((K + 4) - k)) (v := .int .u32 (Go.bits .xor .u32 (Go.bits .xor .u32 (Go.bits .xor .u32 (rotl ((dnL (up (beginL true K B) K (fun x => rotl x 1) (64 - K)) K k).getD ((K + 20) - k) 0) 31) ((dnL (up (beginL true K B) K (fun x => rotl x 1) (64 - K)) K k).getD ((K + 17) - k) 0)) ((dnL (up (beginL true K B) K (fun x => rotl x 1) (64 - K)) K k).getD ((K + 12) - k) 0)) ((dnL (up (beginL true K B) K (fun x => rotl x 1) (64 - K)) K k).getD ((K + 6) - k) 0))) rfl rfl rfl sz30 (At.hit z30.put.put.put.put.put rfl).ev ((At.hit z30.put.put.put.put rfl).ne rfl).ev rfl kg3_31 (by rw [(nums_size _ _).trans (dnL_len _ K (up_len _ K _ (beginL_len true K B) _) _)]; omega) ?_
      intro w32 k32 u32
      rw [nums_put] at k32
      have kg2_32 := u32.blk kg2_31 (by omega)
      refine l_end ?_
      refine e_fresh z30.put.put.put.put.put.put ?_
      intro a33 z33 m33
      have s2_33 := m33 _ _ ((((((s2_30.ne rfl).ne rfl).ne rfl).ne rfl).ne rfl).ne rfl)
      have s3_33 := m33 _ _ ((((((s3_30.ne rfl).ne rfl).ne rfl).ne rfl).ne rfl).ne rfl)
      have s6_33 := m33 _ _ ((((((s6_30.ne rfl).ne rfl).ne rfl).ne rfl).ne rfl).ne rfl)
      have low33 := ((low27.trans h31).upd u32 geg3)
      clear m33
      refine e_in ?_
      refine e_then ?_
      refine c_region ?_
      refine l_q rfl (q_move _ _ rfl s6_33.ev ?_)
      refine l_q rfl (q_sub ((((K : Nat) : Int) + 3 - ((k : Nat) : Int))) rfl (At.hit z33 rfl).ev rfl (i64_is (by omega) (by omega) (by omega)) ?_)
      refine l_q rfl (q_assign _ _ rfl (At.hit z33.put rfl).ev ?_)
      refine l_end ?_
      refine e_fresh z33.put.put.put ?_
      intro a34 z34 m34
      have s2_34 := m34 _ _ (((s2_33.ne rfl).ne rfl).ne rfl)
      have s3_34 := m34 _ _ (((s3_33.ne rfl).ne rfl).ne rfl)
      have s6_34 := m34 _ _ (At.hit z33.put.put rfl)
      clear m34
      exact ⟨z34, s2_34, s3_34, (s6_34.same (congrArg (Value.int .i64) (by omega))), kg2_32, k32, low33⟩
    · intro a35 w35 h
      obtain ⟨z35, s2_35, s3_35, s6_35, kg2_35, kg3_35, low35⟩ := h
      clear kg2_24 kg3_24 low24 s2_26 s3_26 s6_26 z26
      have s6_35 := s6_35.same (congrArg (Value.int .i64) (show _ = ((-1) : Int) by omega))
      refine c_seq ?_
      refine c_seq ?_
      refine c_region ?_
      refine l_q rfl (q_move _ _ rfl s6_35.ev ?_)
      refine l_q rfl (q_geq false rfl (At.hit z35 rfl).ev rfl (decide_eq_false (by omega)) ?_)
      refine l_end ?_
      refine e_fresh z35.put.put ?_
      intro a36 z36 m36
      have s2_36 := m36 _ _ ((s2_35.ne rfl).ne rfl)
      have s3_36 := m36 _ _ ((s3_35.ne rfl).ne rfl)
      have s6_36 := m36 _ _ ((s6_35.ne rfl).ne rfl)
      have s64_36 := m36 _ _ (At.hit z35.put rfl)
      clear m36
      refine e_then ?_
      refine c_false s64_36 ?_
      refine wp_exit ?_
      refine x_then ?_
      refine x_then ?_
      refine in_exit ?_
      refine e_then ?_
      refine c_seq ?_
      refine c_region ?_
      refine l_q rfl (q_row rfl Try.underlying48 rfl (sz48.trans (congrArg some ((nums_size _ _).trans (dnL_len _ K (up_len _ K _ (beginL_len true K B) _) _)).symm)) s3_36.ev (fun _ e => by rw [e]; exact kg3_35) ?_)
      refine l_row rfl rfl rfl (sz48.trans (congrArg some ((nums_size _ _).trans (dnL_len _ K (up_len _ K _ (beginL_len true K B) _) _)).symm)) (s2_36.ne rfl).ev (At.hit z36 rfl).ev (nums_one _ _) kg2_35 (((nums_size _ _).trans (List.length_replicate)).trans ((nums_size _ _).trans (dnL_len _ K (up_len _ K _ (beginL_len true K B) _) _)).symm) ?_
      intro w37 k37 u37
      have kg3_37 := u37.blk kg3_35 (by omega)
      refine l_end ?_
      refine e_fresh z36.put ?_
      intro a38 z38 m38
      have s2_38 := m38 _ _ (s2_36.ne rfl)
      have low38 := (low35.upd u37 geg2)
      clear m38
      refine e_then ?_
      refine wp_ret ?_
      refine r_cell rfl z38.defers s2_38 k37 Try.underlying48 rfl (sz48.trans (congrArg some ((nums_size _ _).trans (dnL_len _ K (up_len _ K _ (beginL_len true K B) _) _)).symm)) ?_
      exact ⟨rfl, low38⟩
theorem DL_1.calls (K B : Nat) (hK : K ≤ 64) (hB : B ≤ 31) (w0 : World) : Calls Try.prog 9 #[.agg #[.int .i64 1, .int .i64 (K : Int), .int .i64 (B : Int)]] w0 fun e w' => e = .returned (.agg (nums .u32 (diffL (rowL false K B) 80))) ∧ Low w0 w' := by
  refine c_fun (R := _) Try.func9 rfl 77 rfl (Nat.le_of_ble_eq_true rfl) ?_
  intro a z hA
  have s0 := hA 0 _ rfl
  clear hA
  refine c_seq ?_
  refine c_region ?_
  refine l_box rfl rfl s0.ev ?_
  intro g1 w1 hg1 k1 h1
  have geg1 := Nat.le_trans (Low.refl _).ge hg1
  refine l_alloc rfl rfl zero32 ?_
  intro g2 w2 hg2 k2 h2
  have lt_g1_g2 := Nat.lt_of_lt_of_le (heap_lt k1) hg2
  have geg2 := Nat.le_trans h1.ge hg2
  have kg1_2 := h2.blk k1
  refine l_end ?_
  refine e_fresh z.put.put ?_
  intro a3 z3 m3
  have s1_3 := m3 _ _ ((At.hit z rfl).ne rfl)
  have s2_3 := m3 _ _ (At.hit z.put rfl)
  have low3 := (h1.trans h2)
  clear m3
  refine e_then ?_
  refine c_seq ?_
  refine c_region ?_
  refine l_alloc rfl rfl zero32 ?_
  intro g3 w4 hg4 k4 h4
  have lt_g1_g3 := Nat.lt_of_lt_of_le (heap_lt kg1_2) hg4
  have lt_g2_g3 := Nat.lt_of_lt_of_le (heap_lt k2) hg4
  have geg3 := Nat.le_trans low3.ge hg4
  have kg1_4 := h4.blk kg1_2
  have kg2_4 := h4.blk k2
  refine l_end ?_
  refine e_fresh z3.put ?_
  intro a5 z5 m5
  have s1_5 := m5 _ _ (s1_3.ne rfl)
  have s2_5 := m5 _ _ (s2_3.ne rfl)
  have s3_5 := m5 _ _ (At.hit z3 rfl)
  have low5 := (low3.trans h4)
  clear m5
  refine e_then ?_
  refine c_seq ?_
  refine c_seq ?_
  refine c_region ?_
  refine l_q rfl (q_fld 0 rfl (by kernel_rfl) s1_5.ev ?_)
  refine l_q rfl (q_cell (.int .i64 1) rfl Try.underlying3 (At.hit z5 rfl).ev (fun _ e => by rw [e]; exact (cells_at kg1_4 0).trans rfl) ?_)
  refine l_q rfl (q_lss false rfl (At.hit z5.put rfl).ev rfl (decide_eq_false (by omega)) ?_)
  refine l_q rfl (q_move _ _ rfl (At.hit z5.put.put rfl).ev ?_)
  refine l_qg (wanted_is (j := 3) (d := 10) (b := false) rfl rfl (At.hit z5.put.put.put rfl) rfl) (q_fld 0 rfl (by kernel_rfl) ((((s1_5.ne rfl).ne rfl).ne rfl).ne rfl).ev ?_)
  refine l_qg (wanted_is (j := 3) (d := 10) (b := false) rfl rfl ((At.hit z5.put.put.put rfl).ne rfl) rfl) (q_cell (.int .i64 1) rfl Try.underlying3 (At.hit z5.put.put.put.put rfl).ev (fun _ e => by rw [e]; exact (cells_at kg1_4 0).trans rfl) ?_)
  refine l_qg (wanted_is (j := 3) (d := 10) (b := false) rfl rfl (((At.hit z5.put.put.put rfl).ne rfl).ne rfl) rfl) (q_gtr false rfl (At.hit z5.put.put.put.put.put rfl).ev rfl (decide_eq_false (by omega)) ?_)
  refine l_q rfl (q_pick (b := false) (.bool false) rfl ((((At.hit z5.put.put.put rfl).ne rfl).ne rfl).ne rfl).ev (At.hit z5.put.put.put.put.put.put rfl).ev ?_)
  refine l_fresh z5.put.put.put.put.put.put.put.put ?_
  intro a6 z6 m6
  have s1_6 := m6 _ _ ((((((((s1_5.ne rfl).ne rfl).ne rfl).ne rfl).ne rfl).ne rfl).ne rfl).ne rfl)
  have s2_6 := m6 _ _ ((((((((s2_5.ne rfl).ne rfl).ne rfl).ne rfl).ne rfl).ne rfl).ne rfl).ne rfl)
  have s3_6 := m6 _ _ ((((((((s3_5.ne rfl).ne rfl).ne rfl).ne rfl).ne rfl).ne rfl).ne rfl).ne rfl)
  have s14_6 := m6 _ _ (At.hit z5.put.put.put.put.put.put.put rfl)
  clear m6
  refine l_q rfl (q_move _ _ rfl s14_6.ev ?_)
  refine l_qg (wanted_is (j := 8) (d := 15) (b := false) rfl rfl (At.hit z6 rfl) rfl) (q_fld 1 rfl (by kernel_rfl) (s1_6.ne rfl).ev ?_)
  refine l_qg (wanted_is (j := 8) (d := 15) (b := false) rfl rfl ((At.hit z6 rfl).ne rfl) rfl) (q_cell (.int .i64 ((K : Nat) : Int)) rfl Try.underlying3 (At.hit z6.put rfl).ev (fun _ e => by rw [e]; exact (cells_at kg1_4 1).trans rfl) ?_)
  refine l_qg (wanted_is (j := 8) (d := 15) (b := false) rfl rfl (((At.hit z6 rfl).ne rfl).ne rfl) rfl) (q_lss false rfl (At.hit z6.put.put rfl).ev rfl (decide_eq_false (by omega)) ?_)
  refine l_q rfl (q_pick (b := false) (.bool false) rfl ((((At.hit z6 rfl).ne rfl).ne rfl).ne rfl).ev (At.hit z6.put.put.put rfl).ev ?_)
  refine l_q rfl (q_move _ _ rfl (At.hit z6.put.put.put.put rfl).ev ?_)
  refine l_qg (wanted_is (j := 13) (d := 20) (b := false) rfl rfl (At.hit z6.put.put.put.put.put rfl) rfl) (q_fld 1 rfl (by kernel_rfl) ((((((s1_6.ne rfl).ne rfl).ne rfl).ne rfl).ne rfl).ne rfl).ev ?_)
  refine l_qg (wanted_is (j := 13) (d := 20) (b := false) rfl rfl ((At.hit z6.put.put.put.put.put rfl).ne rfl) rfl) (q_cell (.int .i64 ((K : Nat) : Int)) rfl Try.underlying3 (At.hit z6.put.put.put.put.put.put rfl).ev (fun _ e => by rw [e]; exact (cells_at kg1_4 1).trans rfl) ?_)
  refine l_fresh z6.put.put.put.put.put.put.put.put ?_
  intro a7 z7 m7
  have s1_7 := m7 _ _ ((((((((s1_6.ne rfl).ne rfl).ne rfl).ne rfl).ne rfl).ne rfl).ne rfl).ne rfl)
  have s2_7 := m7 _ _ ((((((((s2_6.ne rfl).ne rfl).ne rfl).ne rfl).ne rfl).ne rfl).ne rfl).ne rfl)
  have s3_7 := m7 _ _ ((((((((s3_6.ne rfl).ne rfl).ne rfl).ne rfl).ne rfl).ne rfl).ne rfl).ne rfl)
  have s20_7 := m7 _ _ (((At.hit z6.put.put.put.put.put rfl).ne rfl).ne rfl)
  have s22_7 := m7 _ _ (At.hit z6.put.put.put.put.put.put.put rfl)
  clear m7
  refine l_qg (wanted_is (j := 13) (d := 20) (b := false) rfl rfl s20_7 rfl) (q_gtr false rfl s22_7.ev rfl (decide_eq_false (by omega)) ?_)
  refine l_q rfl (q_pick (b := false) (.bool false) rfl (s20_7.ne rfl).ev (At.hit z7 rfl).ev ?_)
  refine l_q rfl (q_move _ _ rfl (At.hit z7.put rfl).ev ?_)
  refine l_qg (wanted_is (j := 18) (d := 25) (b := false) rfl rfl (At.hit z7.put.put rfl) rfl) (q_fld 2 rfl (by kernel_rfl) (((s1_7.ne rfl).ne rfl).ne rfl).ev ?_)
  refine l_qg (wanted_is (j := 18) (d := 25) (b := false) rfl rfl ((At.hit z7.put.put rfl).ne rfl) rfl) (q_cell (.int .i64 ((B : Nat) : Int)) rfl Try.underlying3 (At.hit z7.put.put.put rfl).ev (fun _ e => by rw [e]; exact (cells_at kg1_4 2).trans rfl) ?_)
  refine l_qg (wanted_is (j := 18) (d := 25) (b := false) rfl rfl (((At.hit z7.put.put rfl).ne rfl).ne rfl) rfl) (q_lss false rfl (At.hit z7.put.put.put.put rfl).ev rfl (decide_eq_false (by omega)) ?_)
  refine l_q rfl (q_pick (b := false) (.bool false) rfl ((((At.hit z7.put.put rfl).ne rfl).ne rfl).ne rfl).ev (At.hit z7.put.put.put.put.put rfl).ev ?_)
  refine l_q rfl (q_move _ _ rfl (At.hit z7.put.put.put.put.put.put rfl).ev ?_)
  refine l_fresh z7.put.put.put.put.put.put.put.put ?_
  intro a8 z8 m8
  have s1_8 := m8 _ _ ((((((((s1_7.ne rfl).ne rfl).ne rfl).ne rfl).ne rfl).ne rfl).ne rfl).ne rfl)
  have s2_8 := m8 _ _ ((((((((s2_7.ne rfl).ne rfl).ne rfl).ne rfl).ne rfl).ne rfl).ne rfl).ne rfl)
  have s3_8 := m8 _ _ ((((((((s3_7.ne rfl).ne rfl).ne rfl).ne rfl).ne rfl).ne rfl).ne rfl).ne rfl)
  have s30_8 := m8 _ _ (At.hit z7.put.put.put.put.put.put.put rfl)
  clear m8
  refine l_qg (wanted_is (j := 23) (d := 30) (b := false) rfl rfl s30_8 rfl) (q_fld 2 rfl (by kernel_rfl) s1_8.ev ?_)
  refine l_qg (wanted_is (j := 23) (d := 30) (b := false) rfl rfl (s30_8.ne rfl) rfl) (q_cell (.int .i64 ((B : Nat) : Int)) rfl Try.underlying3 (At.hit z8 rfl).ev (fun _ e => by rw [e]; exact (cells_at kg1_4 2).trans rfl) ?_)
  refine l_qg (wanted_is (j := 23) (d := 30) (b := false) rfl rfl ((s30_8.ne rfl).ne rfl) rfl) (q_gtr false rfl (At.hit z8.put rfl).ev rfl (decide_eq_false (by omega)) ?_)
  refine l_q rfl (q_pick (b := false) (.bool false) rfl (((s30_8.ne rfl).ne rfl).ne rfl).ev (At.hit z8.put.put rfl).ev ?_)
  refine l_end ?_
  refine e_fresh z8.put.put.put.put ?_
  intro a9 z9 m9
  have s1_9 := m9 _ _ ((((s1_8.ne rfl).ne rfl).ne rfl).ne rfl)
  have s2_9 := m9 _ _ ((((s2_8.ne rfl).ne rfl).ne rfl).ne rfl)
  have s3_9 := m9 _ _ ((((s3_8.ne rfl).ne rfl).ne rfl).ne rfl)
  have s34_9 := m9 _ _ (At.hit z8.put.put.put rfl)
  clear m9
  refine e_then ?_
  refine c_false s34_9 ?_
  refine wp_skip ?_
  refine e_then ?_
  refine c_seq ?_
  refine c_region ?_
  refine l_q rfl (q_row rfl Try.underlying23 rfl (sz23.trans (congrArg some rfl.symm)) s1_9.ev (fun _ e => by rw [e]; exact kg1_4) ?_)
  refine l_call (fun v w' => v = .agg (nums .u32 (rowL false K B)) ∧ Low w4 w') rfl rfl rfl Try.func20 rfl (args1 rfl (At.hit z9 rfl).ev) ((Row1.calls K B hK hB _).mono fun _ _ ⟨e, k⟩ => ⟨_, e, rfl, k⟩) ?_
  rintro _ w10 ⟨rfl, h10⟩
  have kg1_10 := h10.blk kg1_4
  have kg2_10 := h10.blk kg2_4
  have kg3_10 := h10.blk k4
  refine l_alloc rfl rfl zero48 ?_
  intro g4 w11 hg11 k11 h11
  have lt_g1_g4 := Nat.lt_of_lt_of_le (heap_lt kg1_10) hg11
  have lt_g2_g4 := Nat.lt_of_lt_of_le (heap_lt kg2_10) hg11
  have lt_g3_g4 := Nat.lt_of_lt_of_le (heap_lt kg3_10) hg11
  have geg4 := Nat.le_trans (low5.trans h10).ge hg11
  have kg1_11 := h11.blk kg1_10
  have kg2_11 := h11.blk kg2_10
  have kg3_11 := h11.blk kg3_10
  refine l_row rfl rfl rfl (sz48.trans (congrArg some ((nums_size _ _).trans (rowL_len false K B)).symm)) (At.hit z9.put.put rfl).ev ((At.hit z9.put rfl).ne rfl).ev (nums_one _ _) k11 (((nums_size _ _).trans (List.length_replicate)).trans ((nums_size _ _).trans (rowL_len false K B)).symm) ?_
  intro w12 k12 u12
  have kg1_12 := u12.blk kg1_11 (by omega)
  have kg2_12 := u12.blk kg2_11 (by omega)
  have kg3_12 := u12.blk kg3_11 (by omega)
  refine l_end ?_
  refine e_fresh z9.put.put.put ?_
  intro a13 z13 m13
  have s2_13 := m13 _ _ (((s2_9.ne rfl).ne rfl).ne rfl)
  have s3_13 := m13 _ _ (((s3_9.ne rfl).ne rfl).ne rfl)
  have s4_13 := m13 _ _ (At.hit z9.put.put rfl)
  have low13 := (((low5.trans h10).trans h11).upd u12 geg4)
  clear m13
  refine e_then ?_
  refine c_seq ?_
  refine c_seq ?_
  refine c_region ?_
  refine l_q rfl (q_move _ _ rfl rfl ?_)
  refine l_end ?_
  refine e_fresh z13.put ?_
  intro a14 z14 m14
  have s2_14 := m14 _ _ (s2_13.ne rfl)
  have s3_14 := m14 _ _ (s3_13.ne rfl)
  have s4_14 := m14 _ _ (s4_13.ne rfl)
  have s38_14 := m14 _ _ (At.hit z13 rfl)
  clear m14
  refine e_then ?_
  refine wp_block ?_
  refine c_loop 80 (fun t a w => Fr 77 a ∧ At a 2 (.pointer (some ⟨g2, 0, none⟩)) ∧ At a 3 (.pointer (some ⟨g3, 0, none⟩)) ∧ At a 4 (.pointer (some ⟨g4, 0, none⟩)) ∧ At a 38 (.int .i64 ((t : Nat) : Int)) ∧ w.heap[g2]? = some (.cells (nums .u32 (List.replicate 80 0)) 32) ∧ w.heap[g3]? = some (.cells (nums .u32 (diffL (rowL false K B) t)) 32) ∧ w.heap[g4]? = some (.cells (nums .u32 (rowL false K B)) 48) ∧ Low w0 w) ?_ ?_ ?_
  · exact ⟨z14, s2_14, s3_14, s4_14, s38_14, kg2_12, kg3_12, k12, low13⟩
  · intro t a15 w15 hk15 h
    obtain ⟨z15, s2_15, s3_15, s4_15, s38_15, kg2_15, kg3_15, kg4_15, low15⟩ := h
    clear k12 kg2_12 kg3_12 low13 s2_14 s38_14 s3_14 s4_14 z14
    refine c_seq ?_
    refine c_region ?_
    refine l_q rfl (q_lss true rfl s38_15.ev rfl (decide_eq_true (by omega)) ?_)
    refine l_end ?_
    refine e_fresh z15.put ?_
    intro a16 z16 m16
    have s2_16 := m16 _ _ (s2_15.ne rfl)
    have s3_16 := m16 _ _ (s3_15.ne rfl)
    have s4_16 := m16 _ _ (s4_15.ne rfl)
    have s38_16 := m16 _ _ (s38_15.ne rfl)
    have s39_16 := m16 _ _ (At.hit z15 rfl)
    clear m16
    refine e_then ?_
    refine c_seq ?_
    refine c_true s39_16 ?_
    refine wp_skip ?_
    refine e_then ?_
    refine c_seq ?_
    refine wp_block ?_
    refine c_seq ?_
    refine c_region ?_
    refine l_q rfl (q_move _ _ rfl s38_16.ev ?_)
    refine l_q rfl (q_assign _ _ rfl (At.hit z16 rfl).ev ?_)
    refine l_end ?_
    refine e_fresh z16.put.put ?_
    intro a17 z17 m17
    have s2_17 := m17 _ _ ((s2_16.ne rfl).ne rfl)
    have s3_17 := m17 _ _ ((s3_16.ne rfl).ne rfl)
    have s4_17 := m17 _ _ ((s4_16.ne rfl).ne rfl)
    have s5_17 := m17 _ _ (At.hit z16.put rfl)
    have s38_17 := m17 _ _ ((s38_16.ne rfl).ne rfl)
    clear m17
    refine e_then ?_
    refine c_seq ?_
    refine c_region ?_
    refine l_q rfl (q_move _ _ rfl s5_17.ev ?_)
    refine l_q rfl (q_add (((t + 5 : Nat) : Int)) rfl (At.hit z17 rfl).ev rfl (i64_is (by omega) (by omega) (by omega)) ?_)
    refine l_q rfl (q_assign _ _ rfl (At.hit z17.put rfl).ev ?_)
    refine l_end ?_
    refine e_fresh z17.put.put.put ?_
    intro a18 z18 m18
    have s2_18 := m18 _ _ (((s2_17.ne rfl).ne rfl).ne rfl)
    have s3_18 := m18 _ _ (((s3_17.ne rfl).ne rfl).ne rfl)
    have s4_18 := m18 _ _ (((s4_17.ne rfl).ne rfl).ne rfl)
    have s5_18 := m18 _ _ (((s5_17.ne rfl).ne rfl).ne rfl)
    have s6_18 := m18 _ _ (At.hit z17.put.put rfl)
    have s38_18 := m18 _ _ (((s38_17.ne rfl).ne rfl).ne rfl)
    clear m18
    refine e_then ?_
    refine region_low_tail 32 hm (by kernel_rfl) ?_
    simp only [List.take_succ_cons, List.take_zero, List.drop_succ_cons, List.drop_zero]
    refine qs (q_move _ _ rfl s5_18.ev ?_)
    refine qs (q_move _ _ rfl (s6_18.ne rfl).ev ?_)
    refine qs (q_idx (j := t + 5) rfl Try.underlying48 sz30 ((s4_18.ne rfl).ne rfl).ev (At.hit z18.put rfl).ev (by omega) ?_)
    refine qs (q_cell (.int .u32 ((rowL false K B).getD (t + 5) 0)) rfl Try.underlying30 (At.hit z18.put.put rfl).ev (fun _ h => nums_cell (h.blk kg4_15) (t + 5) (by rw [(rowL_len false K B)]; omega)) ?_)
    refine qs (q_move _ _ rfl ((((s6_18.ne rfl).ne rfl).ne rfl).ne rfl).ev ?_)
    refine qs (q_sub (((t + 4 : Nat) : Int)) rfl (At.hit z18.put.put.put.put rfl).ev rfl (i64_is (by omega) (by omega) (by omega)) ?_)
    refine qs (q_idx (j := t + 4) rfl Try.underlying48 sz30 ((((((s4_18.ne rfl).ne rfl).ne rfl).ne rfl).ne rfl).ne rfl).ev (At.hit z18.put.put.put.put.put rfl).ev (by omega) ?_)
    refine qs (q_cell (.int .u32 ((rowL false K B).getD (t + 4) 0)) rfl Try.underlying30 (At.hit z18.put.put.put.put.put.put rfl).ev (fun _ h => nums_cell (h.blk kg4_15) (t + 4) (by rw [(rowL_len false K B)]; omega)) ?_)
    refine q_fresh z18.put.put.put.put.put.put.put.put ?_
    intro a19 z19 m19
    have s2_19 := m19 _ _ ((((((((s2_18.ne rfl).ne rfl).ne rfl).ne rfl).ne rfl).ne rfl).ne rfl).ne rfl)
    have s3_19 := m19 _ _ ((((((((s3_18.ne rfl).ne rfl).ne rfl).ne rfl).ne rfl).ne rfl).ne rfl).ne rfl)
    have s4_19 := m19 _ _ ((((((((s4_18.ne rfl).ne rfl).ne rfl).ne rfl).ne rfl).ne rfl).ne rfl).ne rfl)
    have s6_19 := m19 _ _ ((((((((s6_18.ne rfl).ne rfl).ne rfl).ne rfl).ne rfl).ne rfl).ne rfl).ne rfl)
    have s38_19 := m19 _ _ ((((((((s38_18.ne rfl).ne rfl).ne rfl).ne rfl).ne rfl).ne rfl).ne rfl).ne rfl)
    have s43_19 := m19 _ _ ((((((((At.hit z18 rfl).ne rfl).ne rfl).ne rfl).ne rfl).ne rfl).ne rfl).ne rfl)
    have s46_19 := m19 _ _ (((((At.hit z18.put.put.put rfl).ne rfl).ne rfl).ne rfl).ne rfl)
    have s50_19 := m19 _ _ (At.hit z18.put.put.put.put.put.put.put rfl)
    clear m19
    refine qs (q_call (.int .u32 (rotl ((rowL false K B).getD (t + 4) 0) 5)) rfl rfl Try.func21 rfl (args2 rfl s50_19.ev rfl) (fun _ h => (RotL.calls ((rowL false K B).getD (t + 4) 0) 5 _).mono fun _ _ ⟨e, k⟩ => ⟨e, h.trans k⟩) ?_)
    refine qs (q_xor rfl (s46_19.ne rfl).ev (At.hit z19 rfl).ev ?_)
    refine qs (q_move _ _ rfl ((s6_19.ne rfl).ne rfl).ev ?_)
    refine qs (q_sub (((t + 3 : Nat) : Int)) rfl (At.hit z19.put.put rfl).ev rfl (i64_is (by omega) (by omega) (by omega)) ?_)
    refine qs (q_idx (j := t + 3) rfl Try.underlying48 sz30 ((((s4_19.ne rfl).ne rfl).ne rfl).ne rfl).ev (At.hit z19.put.put.put rfl).ev (by omega) ?_)
    refine qs (q_cell (.int .u32 ((rowL false K B).getD (t + 3) 0)) rfl Try.underlying30 (At.hit z19.put.put.put.put rfl).ev (fun _ h => nums_cell (h.blk kg4_15) (t + 3) (by rw [(rowL_len false K B)]; omega)) ?_)
    refine qs (q_xor rfl (((((At.hit z19.put rfl).ne rfl).ne rfl).ne rfl).ne rfl).ev (At.hit z19.put.put.put.put.put rfl).ev ?_)
    refine qs (q_move _ _ rfl (((((((s6_19.ne rfl).ne rfl).ne rfl).ne rfl).ne rfl).ne rfl).ne rfl).ev ?_)
    refine q_fresh z19.put.put.put.put.put.put.put.put ?_
    intro a20 z20 m20
    have s2_20 := m20 _ _ ((((((((s2_19.ne rfl).ne rfl).ne rfl).ne rfl).ne rfl).ne rfl).ne rfl).ne rfl)
    have s3_20 := m20 _ _ ((((((((s3_19.ne rfl).ne rfl).ne rfl).ne rfl).ne rfl).ne rfl).ne rfl).ne rfl)
    have s4_20 := m20 _ _ ((((((((s4_19.ne rfl).ne rfl).ne rfl).ne rfl).ne rfl).ne rfl).ne rfl).ne rfl)
    have s6_20 := m20 _ _ ((((((((s6_19.ne rfl).ne rfl).ne rfl).ne rfl).ne rfl).ne rfl).ne rfl).ne rfl)
    have s38_20 := m20 _ _ ((((((((s38_19.ne rfl).ne rfl).ne rfl).ne rfl).ne rfl).ne rfl).ne rfl).ne rfl)
    have s43_20 := m20 _ _ ((((((((s43_19.ne rfl).ne rfl).ne rfl).ne rfl).ne rfl).ne rfl).ne rfl).ne rfl)
    have s57_20 := m20 _ _ ((At.hit z19.put.put.put.put.put.put rfl).ne rfl)
    have s58_20 := m20 _ _ (At.hit z19.put.put.put.put.put.put.put rfl)
    clear m20
    refine qs (q_sub (((t + 2 : Nat) : Int)) rfl s58_20.ev rfl (i64_is (by omega) (by omega) (by omega)) ?_)
    refine qs (q_idx (j := t + 2) rfl Try.underlying48 sz30 (s4_20.ne rfl).ev (At.hit z20 rfl).ev (by omega) ?_)
    refine qs (q_cell (.int .u32 ((rowL false K B).getD (t + 2) 0)) rfl Try.underlying30 (At.hit z20.put rfl).ev (fun _ h => nums_cell (h.blk kg4_15) (t + 2) (by rw [(rowL_len false K B)]; omega)) ?_)
    refine qs (q_move _ _ rfl (((s6_20.ne rfl).ne rfl).ne rfl).ev ?_)
    refine qs (q_sub (((t + 1 : Nat) : Int)) rfl (At.hit z20.put.put.put rfl).ev rfl (i64_is (by omega) (by omega) (by omega)) ?_)
    refine qs (q_idx (j := t + 1) rfl Try.underlying48 sz30 (((((s4_20.ne rfl).ne rfl).ne rfl).ne rfl).ne rfl).ev (At.hit z20.put.put.put.put rfl).ev (by omega) ?_)
    refine qs (q_cell (.int .u32 ((rowL false K B).getD (t + 1) 0)) rfl Try.underlying30 (At.hit z20.put.put.put.put.put rfl).ev (fun _ h => nums_cell (h.blk kg4_15) (t + 1) (by rw [(rowL_len false K B)]; omega)) ?_)
    refine qs (q_xor rfl (((((At.hit z20.put.put rfl).ne rfl).ne rfl).ne rfl).ne rfl).ev (At.hit z20.put.put.put.put.put.put rfl).ev ?_)
    refine q_fresh z20.put.put.put.put.put.put.put.put ?_
    intro a21 z21 m21
    have s2_21 := m21 _ _ ((((((((s2_20.ne rfl).ne rfl).ne rfl).ne rfl).ne rfl).ne rfl).ne rfl).ne rfl)
    have s3_21 := m21 _ _ ((((((((s3_20.ne rfl).ne rfl).ne rfl).ne rfl).ne rfl).ne rfl).ne rfl).ne rfl)
    have s4_21 := m21 _ _ ((((((((s4_20.ne rfl).ne rfl).ne rfl).ne rfl).ne rfl).ne rfl).ne rfl).ne rfl)
    have s6_21 := m21 _ _ ((((((((s6_20.ne rfl).ne rfl).ne rfl).ne rfl).ne rfl).ne rfl).ne rfl).ne rfl)
    have s38_21 := m21 _ _ ((((((((s38_20.ne rfl).ne rfl).ne rfl).ne rfl).ne rfl).ne rfl).ne rfl).ne rfl)
    have s43_21 := m21 _ _ ((((((((s43_20.ne rfl).ne rfl).ne rfl).ne rfl).ne rfl).ne rfl).ne rfl).ne rfl)
    have s57_21 := m21 _ _ ((((((((s57_20.ne rfl).ne rfl).ne rfl).ne rfl).ne rfl).ne rfl).ne rfl).ne rfl)
    have s66_21 := m21 _ _ (At.hit z20.put.put.put.put.put.put.put rfl)
    clear m21
    refine qs (q_move _ _ rfl s6_21.ev ?_)
    refine qs (q_sub (((t : Nat) : Int)) rfl (At.hit z21 rfl).ev rfl (i64_is (by omega) (by omega) (by omega)) ?_)
    refine qs (q_idx (j := t) rfl Try.underlying48 sz30 ((s4_21.ne rfl).ne rfl).ev (At.hit z21.put rfl).ev (by omega) ?_)
    refine qs (q_cell (.int .u32 ((rowL false K B).getD t 0)) rfl Try.underlying30 (At.hit z21.put.put rfl).ev (fun _ h => nums_cell (h.blk kg4_15) t (by rw [(rowL_len false K B)]; omega)) ?_)
    refine qs (q_xor rfl ((((s66_21.ne rfl).ne rfl).ne rfl).ne rfl).ev (At.hit z21.put.put.put rfl).ev ?_)
    refine qs (q_call (.int .u32 (rotl (Go.bits .xor .u32 (Go.bits .xor .u32 ((rowL false K B).getD (t + 2) 0) ((rowL false K B).getD (t + 1) 0)) ((rowL false K B).getD t 0)) 30)) rfl rfl Try.func21 rfl (args2 rfl (At.hit z21.put.put.put.put rfl).ev rfl) (fun _ h => (RotL.calls (Go.bits .xor .u32 (Go.bits .xor .u32 ((rowL false K B).getD (t + 2) 0) ((rowL false K B).getD (t + 1) 0)) ((rowL false K B).getD t 0)) 30 _).mono fun _ _ ⟨e, k⟩ => ⟨e, h.trans k⟩) ?_)
    refine qs (q_xor rfl ((((((s57_21.ne rfl).ne rfl).ne rfl).ne rfl).ne rfl).ne rfl).ev (At.hit z21.put.put.put.put.put rfl).ev ?_)
    refine qs (q_idx (j := t) rfl Try.underlying32 sz30 (((((((s3_21.ne rfl).ne rfl).ne rfl).ne rfl).ne rfl).ne rfl).ne rfl).ev (((((((s43_21.ne rfl).ne rfl).ne rfl).ne rfl).ne rfl).ne rfl).ne rfl).ev (by omega) ?_)
    refine qz ?_
    intro w22 h22
    have kg2_22 := h22.blk kg2_15
    have kg3_22 := h22.blk kg3_15
    have kg4_22 := h22.blk kg4_15
    refine l_cell (j := t) (v := .int .u32 (Go.bits .xor .u32 (Go.bits .xor .u32 (Go.bits .xor .u32 ((rowL false K B).getD (t + 5) 0) (rotl ((rowL false K B).getD (t + 4) 0) 5)) ((rowL false K B).getD (t + 3) 0)) (rotl (Go.bits .xor .u32 (Go.bits .xor .u32 ((rowL false K B).getD (t + 2) 0) ((rowL false K B).getD (t + 1) 0)) ((rowL false K B).getD t 0)) 30))) rfl rfl rfl sz30 (At.hit z21.put.put.put.put.put.put.put rfl).ev ((At.hit z21.put.put.put.put.put.put rfl).ne rfl).ev rfl kg3_22 (by rw [(nums_size _ _).trans (diffL_len _ _)]; omega) ?_
    intro w23 k23 u23
    rw [nums_put] at k23
    have kg2_23 := u23.blk kg2_22 (by omega)
    have kg4_23 := u23.blk kg4_22 (by omega)
    refine l_end ?_
    refine e_fresh z21.put.put.put.put.put.put.put.put ?_
    intro a24 z24 m24
    have s2_24 := m24 _ _ ((((((((s2_21.ne rfl).ne rfl).ne rfl).ne rfl).ne rfl).ne rfl).ne rfl).ne rfl)
    have s3_24 := m24 _ _ ((((((((s3_21.ne rfl).ne rfl).ne rfl).ne rfl).ne rfl).ne rfl).ne rfl).ne rfl)
    have s4_24 := m24 _ _ ((((((((s4_21.ne rfl).ne rfl).ne rfl).ne rfl).ne rfl).ne rfl).ne rfl).ne rfl)
    have s38_24 := m24 _ _ ((((((((s38_21.ne rfl).ne rfl).ne rfl).ne rfl).ne rfl).ne rfl).ne rfl).ne rfl)
    have low24 := ((low15.trans h22).upd u23 geg3)
    clear m24
    refine e_in ?_
    refine e_then ?_
    refine c_region ?_
    refine l_q rfl (q_add (((t + 1 : Nat) : Int)) rfl s38_24.ev rfl (i64_is (by omega) (by omega) (by omega)) ?_)
    refine l_q rfl (q_move _ _ rfl (At.hit z24 rfl).ev ?_)
    refine l_end ?_
    refine e_fresh z24.put.put ?_
    intro a25 z25 m25
    have s2_25 := m25 _ _ ((s2_24.ne rfl).ne rfl)
    have s3_25 := m25 _ _ ((s3_24.ne rfl).ne rfl)
    have s4_25 := m25 _ _ ((s4_24.ne rfl).ne rfl)
    have s38_25 := m25 _ _ (At.hit z24.put rfl)
    clear m25
    exact ⟨z25, s2_25, s3_25, s4_25, s38_25, kg2_23, k23, kg4_23, low24⟩
  · intro a26 w26 h
    obtain ⟨z26, s2_26, s3_26, s4_26, s38_26, kg2_26, kg3_26, kg4_26, low26⟩ := h
    clear k12 kg2_12 kg3_12 low13 s2_14 s38_14 s3_14 s4_14 z14
    refine c_seq ?_
    refine c_region ?_
    refine l_q rfl (q_lss false rfl s38_26.ev rfl (decide_eq_false (by omega)) ?_)
    refine l_end ?_
    refine e_fresh z26.put ?_
    intro a27 z27 m27
    have s2_27 := m27 _ _ (s2_26.ne rfl)
    have s3_27 := m27 _ _ (s3_26.ne rfl)
    have s4_27 := m27 _ _ (s4_26.ne rfl)
    have s38_27 := m27 _ _ (s38_26.ne rfl)
    have s39_27 := m27 _ _ (At.hit z26 rfl)
    clear m27
    refine e_then ?_
    refine c_seq ?_
    refine c_false s39_27 ?_
    refine wp_exit ?_
    refine x_then ?_
    refine x_then ?_
    refine in_exit ?_
    refine e_then ?_
    refine c_seq ?_
    refine c_region ?_
    refine l_q rfl (q_row rfl Try.underlying32 rfl (sz32.trans (congrArg some ((nums_size _ _).trans (diffL_len _ _)).symm)) s3_27.ev (fun _ e => by rw [e]; exact kg3_26) ?_)
    refine l_row rfl rfl rfl (sz32.trans (congrArg some ((nums_size _ _).trans (diffL_len _ _)).symm)) (s2_27.ne rfl).ev (At.hit z27 rfl).ev (nums_one _ _) kg2_26 (((nums_size _ _).trans (List.length_replicate)).trans ((nums_size _ _).trans (diffL_len _ _)).symm) ?_
    intro w28 k28 u28
    have kg3_28 := u28.blk kg3_26 (by omega)
    have kg4_28 := u28.blk kg4_26 (by omega)
    refine l_end ?_
    refine e_fresh z27.put ?_
    intro a29 z29 m29
    have s2_29 := m29 _ _ (s2_27.ne rfl)
    have low29 := (low26.upd u28 geg2)
    clear m29
    refine e_then ?_
    refine wp_ret ?_
    refine r_cell rfl z29.defers s2_29 k28 Try.underlying32 rfl (sz32.trans (congrArg some ((nums_size _ _).trans (diffL_len _ _)).symm)) ?_
    exact ⟨rfl, low29⟩
theorem DL_2.calls (K B : Nat) (hK : K ≤ 64) (hB : B ≤ 31) (w0 : World) : Calls Try.prog 9 #[.agg #[.int .i64 2, .int .i64 (K : Int), .int .i64 (B : Int)]] w0 fun e w' => e = .returned (.agg (nums .u32 (diffL (rowL true K B) 80))) ∧ Low w0 w' := by
  refine c_fun (R := _) Try.func9 rfl 77 rfl (Nat.le_of_ble_eq_true rfl) ?_
  intro a z hA
  have s0 := hA 0 _ rfl
  clear hA
  refine c_seq ?_
  refine c_region ?_
  refine l_box rfl rfl s0.ev ?_
  intro g1 w1 hg1 k1 h1
  have geg1 := Nat.le_trans (Low.refl _).ge hg1
  refine l_alloc rfl rfl zero32 ?_
  intro g2 w2 hg2 k2 h2
  have lt_g1_g2 := Nat.lt_of_lt_of_le (heap_lt k1) hg2
  have geg2 := Nat.le_trans h1.ge hg2
  have kg1_2 := h2.blk k1
  refine l_end ?_
  refine e_fresh z.put.put ?_
  intro a3 z3 m3
  have s1_3 := m3 _ _ ((At.hit z rfl).ne rfl)
  have s2_3 := m3 _ _ (At.hit z.put rfl)
  have low3 := (h1.trans h2)
  clear m3
  refine e_then ?_
  refine c_seq ?_
  refine c_region ?_
  refine l_alloc rfl rfl zero32 ?_
  intro g3 w4 hg4 k4 h4
  have lt_g1_g3 := Nat.lt_of_lt_of_le (heap_lt kg1_2) hg4
  have lt_g2_g3 := Nat.lt_of_lt_of_le (heap_lt k2) hg4
  have geg3 := Nat.le_trans low3.ge hg4
  have kg1_4 := h4.blk kg1_2
  have kg2_4 := h4.blk k2
  refine l_end ?_
  refine e_fresh z3.put ?_
  intro a5 z5 m5
  have s1_5 := m5 _ _ (s1_3.ne rfl)
  have s2_5 := m5 _ _ (s2_3.ne rfl)
  have s3_5 := m5 _ _ (At.hit z3 rfl)
  have low5 := (low3.trans h4)
  clear m5
  refine e_then ?_
  refine c_seq ?_
  refine c_seq ?_
  refine c_region ?_
  refine l_q rfl (q_fld 0 rfl (by kernel_rfl) s1_5.ev ?_)
  refine l_q rfl (q_cell (.int .i64 2) rfl Try.underlying3 (At.hit z5 rfl).ev (fun _ e => by rw [e]; exact (cells_at kg1_4 0).trans rfl) ?_)
  refine l_q rfl (q_lss false rfl (At.hit z5.put rfl).ev rfl (decide_eq_false (by omega)) ?_)
  refine l_q rfl (q_move _ _ rfl (At.hit z5.put.put rfl).ev ?_)
  refine l_qg (wanted_is (j := 3) (d := 10) (b := false) rfl rfl (At.hit z5.put.put.put rfl) rfl) (q_fld 0 rfl (by kernel_rfl) ((((s1_5.ne rfl).ne rfl).ne rfl).ne rfl).ev ?_)
  refine l_qg (wanted_is (j := 3) (d := 10) (b := false) rfl rfl ((At.hit z5.put.put.put rfl).ne rfl) rfl) (q_cell (.int .i64 2) rfl Try.underlying3 (At.hit z5.put.put.put.put rfl).ev (fun _ e => by rw [e]; exact (cells_at kg1_4 0).trans rfl) ?_)
  refine l_qg (wanted_is (j := 3) (d := 10) (b := false) rfl rfl (((At.hit z5.put.put.put rfl).ne rfl).ne rfl) rfl) (q_gtr false rfl (At.hit z5.put.put.put.put.put rfl).ev rfl (decide_eq_false (by omega)) ?_)
  refine l_q rfl (q_pick (b := false) (.bool false) rfl ((((At.hit z5.put.put.put rfl).ne rfl).ne rfl).ne rfl).ev (At.hit z5.put.put.put.put.put.put rfl).ev ?_)
  refine l_fresh z5.put.put.put.put.put.put.put.put ?_
  intro a6 z6 m6
  have s1_6 := m6 _ _ ((((((((s1_5.ne rfl).ne rfl).ne rfl).ne rfl).ne rfl).ne rfl).ne rfl).ne rfl)
  have s2_6 := m6 _ _ ((((((((s2_5.ne rfl).ne rfl).ne rfl).ne rfl).ne rfl).ne rfl).ne rfl).ne rfl)
  have s3_6 := m6 _ _ ((((((((s3_5.ne rfl).ne rfl).ne rfl).ne rfl).ne rfl).ne rfl).ne rfl).ne rfl)
  have s14_6 := m6 _ _ (At.hit z5.put.put.put.put.put.put.put rfl)
  clear m6
  refine l_q rfl (q_move _ _ rfl s14_6.ev ?_)
  refine l_qg (wanted_is (j := 8) (d := 15) (b := false) rfl rfl (At.hit z6 rfl) rfl) (q_fld 1 rfl (by kernel_rfl) (s1_6.ne rfl).ev ?_)
  refine l_qg (wanted_is (j := 8) (d := 15) (b := false) rfl rfl ((At.hit z6 rfl).ne rfl) rfl) (q_cell (.int .i64 ((K : Nat) : Int)) rfl Try.underlying3 (At.hit z6.put rfl).ev (fun _ e => by rw [e]; exact (cells_at kg1_4 1).trans rfl) ?_)
  refine l_qg (wanted_is (j := 8) (d := 15) (b := false) rfl rfl (((At.hit z6 rfl).ne rfl).ne rfl) rfl) (q_lss false rfl (At.hit z6.put.put rfl).ev rfl (decide_eq_false (by omega)) ?_)
  refine l_q rfl (q_pick (b := false) (.bool false) rfl ((((At.hit z6 rfl).ne rfl).ne rfl).ne rfl).ev (At.hit z6.put.put.put rfl).ev ?_)
  refine l_q rfl (q_move _ _ rfl (At.hit z6.put.put.put.put rfl).ev ?_)
  refine l_qg (wanted_is (j := 13) (d := 20) (b := false) rfl rfl (At.hit z6.put.put.put.put.put rfl) rfl) (q_fld 1 rfl (by kernel_rfl) ((((((s1_6.ne rfl).ne rfl).ne rfl).ne rfl).ne rfl).ne rfl).ev ?_)
  refine l_qg (wanted_is (j := 13) (d := 20) (b := false) rfl rfl ((At.hit z6.put.put.put.put.put rfl).ne rfl) rfl) (q_cell (.int .i64 ((K : Nat) : Int)) rfl Try.underlying3 (At.hit z6.put.put.put.put.put.put rfl).ev (fun _ e => by rw [e]; exact (cells_at kg1_4 1).trans rfl) ?_)
  refine l_fresh z6.put.put.put.put.put.put.put.put ?_
  intro a7 z7 m7
  have s1_7 := m7 _ _ ((((((((s1_6.ne rfl).ne rfl).ne rfl).ne rfl).ne rfl).ne rfl).ne rfl).ne rfl)
  have s2_7 := m7 _ _ ((((((((s2_6.ne rfl).ne rfl).ne rfl).ne rfl).ne rfl).ne rfl).ne rfl).ne rfl)
  have s3_7 := m7 _ _ ((((((((s3_6.ne rfl).ne rfl).ne rfl).ne rfl).ne rfl).ne rfl).ne rfl).ne rfl)
  have s20_7 := m7 _ _ (((At.hit z6.put.put.put.put.put rfl).ne rfl).ne rfl)
  have s22_7 := m7 _ _ (At.hit z6.put.put.put.put.put.put.put rfl)
  clear m7
  refine l_qg (wanted_is (j := 13) (d := 20) (b := false) rfl rfl s20_7 rfl) (q_gtr false rfl s22_7.ev rfl (decide_eq_false (by omega)) ?_)
  refine l_q rfl (q_pick (b := false) (.bool false) rfl (s20_7.ne rfl).ev (At.hit z7 rfl).ev ?_)
  refine l_q rfl (q_move _ _ rfl (At.hit z7.put rfl).ev ?_)
  refine l_qg (wanted_is (j := 18) (d := 25) (b := false) rfl rfl (At.hit z7.put.put rfl) rfl) (q_fld 2 rfl (by kernel_rfl) (((s1_7.ne rfl).ne rfl).ne rfl).ev ?_)
  refine l_qg (wanted_is (j := 18) (d := 25) (b := false) rfl rfl ((At.hit z7.put.put rfl).ne rfl) rfl) (q_cell (.int .i64 ((B : Nat) : Int)) rfl Try.underlying3 (At.hit z7.put.put.put rfl).ev (fun _ e => by rw [e]; exact (cells_at kg1_4 2).trans rfl) ?_)
  refine l_qg (wanted_is (j := 18) (d := 25) (b := false) rfl rfl (((At.hit z7.put.put rfl).ne rfl).ne rfl) rfl) (q_lss false rfl (At.hit z7.put.put.put.put rfl).ev rfl (decide_eq_false (by omega)) ?_)
  refine l_q rfl (q_pick (b := false) (.bool false) rfl ((((At.hit z7.put.put rfl).ne rfl).ne rfl).ne rfl).ev (At.hit z7.put.put.put.put.put rfl).ev ?_)
  refine l_q rfl (q_move _ _ rfl (At.hit z7.put.put.put.put.put.put rfl).ev ?_)
  refine l_fresh z7.put.put.put.put.put.put.put.put ?_
  intro a8 z8 m8
  have s1_8 := m8 _ _ ((((((((s1_7.ne rfl).ne rfl).ne rfl).ne rfl).ne rfl).ne rfl).ne rfl).ne rfl)
  have s2_8 := m8 _ _ ((((((((s2_7.ne rfl).ne rfl).ne rfl).ne rfl).ne rfl).ne rfl).ne rfl).ne rfl)
  have s3_8 := m8 _ _ ((((((((s3_7.ne rfl).ne rfl).ne rfl).ne rfl).ne rfl).ne rfl).ne rfl).ne rfl)
  have s30_8 := m8 _ _ (At.hit z7.put.put.put.put.put.put.put rfl)
  clear m8
  refine l_qg (wanted_is (j := 23) (d := 30) (b := false) rfl rfl s30_8 rfl) (q_fld 2 rfl (by kernel_rfl) s1_8.ev ?_)
  refine l_qg (wanted_is (j := 23) (d := 30) (b := false) rfl rfl (s30_8.ne rfl) rfl) (q_cell (.int .i64 ((B : Nat) : Int)) rfl Try.underlying3 (At.hit z8 rfl).ev (fun _ e => by rw [e]; exact (cells_at kg1_4 2).trans rfl) ?_)
  refine l_qg (wanted_is (j := 23) (d := 30) (b := false) rfl rfl ((s30_8.ne rfl).ne rfl) rfl) (q_gtr false rfl (At.hit z8.put rfl).ev rfl (decide_eq_false (by omega)) ?_)
  refine l_q rfl (q_pick (b := false) (.bool false) rfl (((s30_8.ne rfl).ne rfl).ne rfl).ev (At.hit z8.put.put rfl).ev ?_)
  refine l_end ?_
  refine e_fresh z8.put.put.put.put ?_
  intro a9 z9 m9
  have s1_9 := m9 _ _ ((((s1_8.ne rfl).ne rfl).ne rfl).ne rfl)
  have s2_9 := m9 _ _ ((((s2_8.ne rfl).ne rfl).ne rfl).ne rfl)
  have s3_9 := m9 _ _ ((((s3_8.ne rfl).ne rfl).ne rfl).ne rfl)
  have s34_9 := m9 _ _ (At.hit z8.put.put.put rfl)
  clear m9
  refine e_then ?_
  refine c_false s34_9 ?_
  refine wp_skip ?_
  refine e_then ?_
  refine c_seq ?_
  refine c_region ?_
  refine l_q rfl (q_row rfl Try.underlying23 rfl (sz23.trans (congrArg some rfl.symm)) s1_9.ev (fun _ e => by rw [e]; exact kg1_4) ?_)
  refine l_call (fun v w' => v = .agg (nums .u32 (rowL true K B)) ∧ Low w4 w') rfl rfl rfl Try.func20 rfl (args1 rfl (At.hit z9 rfl).ev) ((Row2.calls K B hK hB _).mono fun _ _ ⟨e, k⟩ => ⟨_, e, rfl, k⟩) ?_
  rintro _ w10 ⟨rfl, h10⟩
  have kg1_10 := h10.blk kg1_4
  have kg2_10 := h10.blk kg2_4
  have kg3_10 := h10.blk k4
  refine l_alloc rfl rfl zero48 ?_
  intro g4 w11 hg11 k11 h11
  have lt_g1_g4 := Nat.lt_of_lt_of_le (heap_lt kg1_10) hg11
  have lt_g2_g4 := Nat.lt_of_lt_of_le (heap_lt kg2_10) hg11
  have lt_g3_g4 := Nat.lt_of_lt_of_le (heap_lt kg3_10) hg11
  have geg4 := Nat.le_trans (low5.trans h10).ge hg11
  have kg1_11 := h11.blk kg1_10
  have kg2_11 := h11.blk kg2_10
  have kg3_11 := h11.blk kg3_10
  refine l_row rfl rfl rfl (sz48.trans (congrArg some ((nums_size _ _).trans (rowL_len true K B)).symm)) (At.hit z9.put.put rfl).ev ((At.hit z9.put rfl).ne rfl).ev (nums_one _ _) k11 (((nums_size _ _).trans (List.length_replicate)).trans ((nums_size _ _).trans (rowL_len true K B)).symm) ?_
  intro w12 k12 u12
  have kg1_12 := u12.blk kg1_11 (by omega)
  have kg2_12 := u12.blk kg2_11 (by omega)
  have kg3_12 := u12.blk kg3_11 (by omega)
  refine l_end ?_
  refine e_fresh z9.put.put.put ?_
  intro a13 z13 m13
  have s2_13 := m13 _ _ (((s2_9.ne rfl).ne rfl).ne rfl)
  have s3_13 := m13 _ _ (((s3_9.ne rfl).ne rfl).ne rfl)
  have s4_13 := m13 _ _ (At.hit z9.put.put rfl)
  have low13 := (((low5.trans h10).trans h11).upd u12 geg4)
  clear m13
  refine e_then ?_
  refine c_seq ?_
  refine c_seq ?_
  refine c_region ?_
  refine l_q rfl (q_move _ _ rfl rfl ?_)
  refine l_end ?_
  refine e_fresh z13.put ?_
  intro a14 z14 m14
  have s2_14 := m14 _ _ (s2_13.ne rfl)
  have s3_14 := m14 _ _ (s3_13.ne rfl)
  have s4_14 := m14 _ _ (s4_13.ne rfl)
  have s38_14 := m14 _ _ (At.hit z13 rfl)
  clear m14
  refine e_then ?_
  refine wp_block ?_
  refine c_loop 80 (fun t a w => Fr 77 a ∧ At a 2 (.pointer (some ⟨g2, 0, none⟩)) ∧ At a 3 (.pointer (some ⟨g3, 0, none⟩)) ∧ At a 4 (.pointer (some ⟨g4, 0, none⟩)) ∧ At a 38 (.int .i64 ((t : Nat) : Int)) ∧ w.heap[g2]? = some (.cells (nums .u32 (List.replicate 80 0)) 32) ∧ w.heap[g3]? = some (.cells (nums .u32 (diffL (rowL true K B) t)) 32) ∧ w.heap[g4]? = some (.cells (nums .u32 (rowL true K B)) 48) ∧ Low w0 w) ?_ ?_ ?_
  · exact ⟨z14, s2_14, s3_14, s4_14, s38_14, kg2_12, kg3_12, k12, low13⟩
  · intro t a15 w15 hk15 h
    obtain ⟨z15, s2_15, s3_15, s4_15, s38_15, kg2_15, kg3_15, kg4_15, low15⟩ := h
    clear k12 kg2_12 kg3_12 low13 s2_14 s38_14 s3_14 s4_14 z14
    refine c_seq ?_
    refine c_region ?_
    refine l_q rfl (q_lss true rfl s38_15.ev rfl (decide_eq_true (by omega)) ?_)
    refine l_end ?_
    refine e_fresh z15.put ?_
    intro a16 z16 m16
    have s2_16 := m16 _ _ (s2_15.ne rfl)
    have s3_16 := m16 _ _ (s3_15.ne rfl)
    have s4_16 := m16 _ _ (s4_15.ne rfl)
    have s38_16 := m16 _ _ (s38_15.ne rfl)
    have s39_16 := m16 _ _ (At.hit z15 rfl)
    clear m16
    refine e_then ?_
    refine c_seq ?_
    refine c_true s39_16 ?_
    refine wp_skip ?_
    refine e_then ?_
    refine c_seq ?_
    refine wp_block ?_
    refine c_seq ?_
    refine c_region ?_
    refine l_q rfl (q_move _ _ rfl s38_16.ev ?_)
    refine l_q rfl (q_assign _ _ rfl (At.hit z16 rfl).ev ?_)
    refine l_end ?_
    refine e_fresh z16.put.put ?_
    intro a17 z17 m17
    have s2_17 := m17 _ _ ((s2_16.ne rfl).ne rfl)
    have s3_17 := m17 _ _ ((s3_16.ne rfl).ne rfl)
    have s4_17 := m17 _ _ ((s4_16.ne rfl).ne rfl)
    have s5_17 := m17 _ _ (At.hit z16.put rfl)
    have s38_17 := m17 _ _ ((s38_16.ne rfl).ne rfl)
    clear m17
    refine e_then ?_
    refine c_seq ?_
    refine c_region ?_
    refine l_q rfl (q_move _ _ rfl s5_17.ev ?_)
    refine l_q rfl (q_add (((t + 5 : Nat) : Int)) rfl (At.hit z17 rfl).ev rfl (i64_is (by omega) (by omega) (by omega)) ?_)
    refine l_q rfl (q_assign _ _ rfl (At.hit z17.put rfl).ev ?_)
    refine l_end ?_
    refine e_fresh z17.put.put.put ?_
    intro a18 z18 m18
    have s2_18 := m18 _ _ (((s2_17.ne rfl).ne rfl).ne rfl)
    have s3_18 := m18 _ _ (((s3_17.ne rfl).ne rfl).ne rfl)
    have s4_18 := m18 _ _ (((s4_17.ne rfl).ne rfl).ne rfl)
    have s5_18 := m18 _ _ (((s5_17.ne rfl).ne rfl).ne rfl)
    have s6_18 := m18 _ _ (At.hit z17.put.put rfl)
    have s38_18 := m18 _ _ (((s38_17.ne rfl).ne rfl).ne rfl)
    clear m18
    refine e_then ?_
    refine region_low_tail 32 hm (by kernel_rfl) ?_
    simp only [List.take_succ_cons, List.take_zero, List.drop_succ_cons, List.drop_zero]
    refine qs (q_move _ _ rfl s5_18.ev ?_)
    refine qs (q_move _ _ rfl (s6_18.ne rfl).ev ?_)
    refine qs (q_idx (j := t + 5) rfl Try.underlying48 sz30 ((s4_18.ne rfl).ne rfl).ev (At.hit z18.put rfl).ev (by omega) ?_)
    refine qs (q_cell (.int .u32 ((rowL true K B).getD (t + 5) 0)) rfl Try.underlying30 (At.hit z18.put.put rfl).ev (fun _ h => nums_cell (h.blk kg4_15) (t + 5) (by rw [(rowL_len true K B)]; omega)) ?_)
    refine qs (q_move _ _ rfl ((((s6_18.ne rfl).ne rfl).ne rfl).ne rfl).ev ?_)
    refine qs (q_sub (((t + 4 : Nat) : Int)) rfl (At.hit z18.put.put.put.put rfl).ev rfl (i64_is (by omega) (by omega) (by omega)) ?_)
    refine qs (q_idx (j := t + 4) rfl Try.underlying48 sz30 ((((((s4_18.ne rfl).ne rfl).ne rfl).ne rfl).ne rfl).ne rfl).ev (At.hit z18.put.put.put.put.put rfl).ev (by omega) ?_)
    refine qs (q_cell (.int .u32 ((rowL true K B).getD (t + 4) 0)) rfl Try.underlying30 (At.hit z18.put.put.put.put.put.put rfl).ev (fun _ h => nums_cell (h.blk kg4_15) (t + 4) (by rw [(rowL_len true K B)]; omega)) ?_)
    refine q_fresh z18.put.put.put.put.put.put.put.put ?_
    intro a19 z19 m19
    have s2_19 := m19 _ _ ((((((((s2_18.ne rfl).ne rfl).ne rfl).ne rfl).ne rfl).ne rfl).ne rfl).ne rfl)
    have s3_19 := m19 _ _ ((((((((s3_18.ne rfl).ne rfl).ne rfl).ne rfl).ne rfl).ne rfl).ne rfl).ne rfl)
    have s4_19 := m19 _ _ ((((((((s4_18.ne rfl).ne rfl).ne rfl).ne rfl).ne rfl).ne rfl).ne rfl).ne rfl)
    have s6_19 := m19 _ _ ((((((((s6_18.ne rfl).ne rfl).ne rfl).ne rfl).ne rfl).ne rfl).ne rfl).ne rfl)
    have s38_19 := m19 _ _ ((((((((s38_18.ne rfl).ne rfl).ne rfl).ne rfl).ne rfl).ne rfl).ne rfl).ne rfl)
    have s43_19 := m19 _ _ ((((((((At.hit z18 rfl).ne rfl).ne rfl).ne rfl).ne rfl).ne rfl).ne rfl).ne rfl)
    have s46_19 := m19 _ _ (((((At.hit z18.put.put.put rfl).ne rfl).ne rfl).ne rfl).ne rfl)
    have s50_19 := m19 _ _ (At.hit z18.put.put.put.put.put.put.put rfl)
    clear m19
    refine qs (q_call (.int .u32 (rotl ((rowL true K B).getD (t + 4) 0) 5)) rfl rfl Try.func21 rfl (args2 rfl s50_19.ev rfl) (fun _ h => (RotL.calls ((rowL true K B).getD (t + 4) 0) 5 _).mono fun _ _ ⟨e, k⟩ => ⟨e, h.trans k⟩) ?_)
    refine qs (q_xor rfl (s46_19.ne rfl).ev (At.hit z19 rfl).ev ?_)
    refine qs (q_move _ _ rfl ((s6_19.ne rfl).ne rfl).ev ?_)
    refine qs (q_sub (((t + 3 : Nat) : Int)) rfl (At.hit z19.put.put rfl).ev rfl (i64_is (by omega) (by omega) (by omega)) ?_)
    refine qs (q_idx (j := t + 3) rfl Try.underlying48 sz30 ((((s4_19.ne rfl).ne rfl).ne rfl).ne rfl).ev (At.hit z19.put.put.put rfl).ev (by omega) ?_)
    refine qs (q_cell (.int .u32 ((rowL true K B).getD (t + 3) 0)) rfl Try.underlying30 (At.hit z19.put.put.put.put rfl).ev (fun _ h => nums_cell (h.blk kg4_15) (t + 3) (by rw [(rowL_len true K B)]; omega)) ?_)
    refine qs (q_xor rfl (((((At.hit z19.put rfl).ne rfl).ne rfl).ne rfl).ne rfl).ev (At.hit z19.put.put.put.put.put rfl).ev ?_)
    refine qs (q_move _ _ rfl (((((((s6_19.ne rfl).ne rfl).ne rfl).ne rfl).ne rfl).ne rfl).ne rfl).ev ?_)
    refine q_fresh z19.put.put.put.put.put.put.put.put ?_
    intro a20 z20 m20
    have s2_20 := m20 _ _ ((((((((s2_19.ne rfl).ne rfl).ne rfl).ne rfl).ne rfl).ne rfl).ne rfl).ne rfl)
    have s3_20 := m20 _ _ ((((((((s3_19.ne rfl).ne rfl).ne rfl).ne rfl).ne rfl).ne rfl).ne rfl).ne rfl)
    have s4_20 := m20 _ _ ((((((((s4_19.ne rfl).ne rfl).ne rfl).ne rfl).ne rfl).ne rfl).ne rfl).ne rfl)
    have s6_20 := m20 _ _ ((((((((s6_19.ne rfl).ne rfl).ne rfl).ne rfl).ne rfl).ne rfl).ne rfl).ne rfl)
    have s38_20 := m20 _ _ ((((((((s38_19.ne rfl).ne rfl).ne rfl).ne rfl).ne rfl).ne rfl).ne rfl).ne rfl)
    have s43_20 := m20 _ _ ((((((((s43_19.ne rfl).ne rfl).ne rfl).ne rfl).ne rfl).ne rfl).ne rfl).ne rfl)
    have s57_20 := m20 _ _ ((At.hit z19.put.put.put.put.put.put rfl).ne rfl)
    have s58_20 := m20 _ _ (At.hit z19.put.put.put.put.put.put.put rfl)
    clear m20
    refine qs (q_sub (((t + 2 : Nat) : Int)) rfl s58_20.ev rfl (i64_is (by omega) (by omega) (by omega)) ?_)
    refine qs (q_idx (j := t + 2) rfl Try.underlying48 sz30 (s4_20.ne rfl).ev (At.hit z20 rfl).ev (by omega) ?_)
    refine qs (q_cell (.int .u32 ((rowL true K B).getD (t + 2) 0)) rfl Try.underlying30 (At.hit z20.put rfl).ev (fun _ h => nums_cell (h.blk kg4_15) (t + 2) (by rw [(rowL_len true K B)]; omega)) ?_)
    refine qs (q_move _ _ rfl (((s6_20.ne rfl).ne rfl).ne rfl).ev ?_)
    refine qs (q_sub (((t + 1 : Nat) : Int)) rfl (At.hit z20.put.put.put rfl).ev rfl (i64_is (by omega) (by omega) (by omega)) ?_)
    refine qs (q_idx (j := t + 1) rfl Try.underlying48 sz30 (((((s4_20.ne rfl).ne rfl).ne rfl).ne rfl).ne rfl).ev (At.hit z20.put.put.put.put rfl).ev (by omega) ?_)
    refine qs (q_cell (.int .u32 ((rowL true K B).getD (t + 1) 0)) rfl Try.underlying30 (At.hit z20.put.put.put.put.put rfl).ev (fun _ h => nums_cell (h.blk kg4_15) (t + 1) (by rw [(rowL_len true K B)]; omega)) ?_)
    refine qs (q_xor rfl (((((At.hit z20.put.put rfl).ne rfl).ne rfl).ne rfl).ne rfl).ev (At.hit z20.put.put.put.put.put.put rfl).ev ?_)
    refine q_fresh z20.put.put.put.put.put.put.put.put ?_
    intro a21 z21 m21
    have s2_21 := m21 _ _ ((((((((s2_20.ne rfl).ne rfl).ne rfl).ne rfl).ne rfl).ne rfl).ne rfl).ne rfl)
    have s3_21 := m21 _ _ ((((((((s3_20.ne rfl).ne rfl).ne rfl).ne rfl).ne rfl).ne rfl).ne rfl).ne rfl)
    have s4_21 := m21 _ _ ((((((((s4_20.ne rfl).ne rfl).ne rfl).ne rfl).ne rfl).ne rfl).ne rfl).ne rfl)
    have s6_21 := m21 _ _ ((((((((s6_20.ne rfl).ne rfl).ne rfl).ne rfl).ne rfl).ne rfl).ne rfl).ne rfl)
    have s38_21 := m21 _ _ ((((((((s38_20.ne rfl).ne rfl).ne rfl).ne rfl).ne rfl).ne rfl).ne rfl).ne rfl)
    have s43_21 := m21 _ _ ((((((((s43_20.ne rfl).ne rfl).ne rfl).ne rfl).ne rfl).ne rfl).ne rfl).ne rfl)
    have s57_21 := m21 _ _ ((((((((s57_20.ne rfl).ne rfl).ne rfl).ne rfl).ne rfl).ne rfl).ne rfl).ne rfl)
    have s66_21 := m21 _ _ (At.hit z20.put.put.put.put.put.put.put rfl)
    clear m21
    refine qs (q_move _ _ rfl s6_21.ev ?_)
    refine qs (q_sub (((t : Nat) : Int)) rfl (At.hit z21 rfl).ev rfl (i64_is (by omega) (by omega) (by omega)) ?_)
    refine qs (q_idx (j := t) rfl Try.underlying48 sz30 ((s4_21.ne rfl).ne rfl).ev (At.hit z21.put rfl).ev (by omega) ?_)
    refine qs (q_cell (.int .u32 ((rowL true K B).getD t 0)) rfl Try.underlying30 (At.hit z21.put.put rfl).ev (fun _ h => nums_cell (h.blk kg4_15) t (by rw [(rowL_len true K B)]; omega)) ?_)
    refine qs (q_xor rfl ((((s66_21.ne rfl).ne rfl).ne rfl).ne rfl).ev (At.hit z21.put.put.put rfl).ev ?_)
    refine qs (q_call (.int .u32 (rotl (Go.bits .xor .u32 (Go.bits .xor .u32 ((rowL true K B).getD (t + 2) 0) ((rowL true K B).getD (t + 1) 0)) ((rowL true K B).getD t 0)) 30)) rfl rfl Try.func21 rfl (args2 rfl (At.hit z21.put.put.put.put rfl).ev rfl) (fun _ h => (RotL.calls (Go.bits .xor .u32 (Go.bits .xor .u32 ((rowL true K B).getD (t + 2) 0) ((rowL true K B).getD (t + 1) 0)) ((rowL true K B).getD t 0)) 30 _).mono fun _ _ ⟨e, k⟩ => ⟨e, h.trans k⟩) ?_)
    refine qs (q_xor rfl ((((((s57_21.ne rfl).ne rfl).ne rfl).ne rfl).ne rfl).ne rfl).ev (At.hit z21.put.put.put.put.put rfl).ev ?_)
    refine qs (q_idx (j := t) rfl Try.underlying32 sz30 (((((((s3_21.ne rfl).ne rfl).ne rfl).ne rfl).ne rfl).ne rfl).ne rfl).ev (((((((s43_21.ne rfl).ne rfl).ne rfl).ne rfl).ne rfl).ne rfl).ne rfl).ev (by omega) ?_)
    refine qz ?_
    intro w22 h22
    have kg2_22 := h22.blk kg2_15
    have kg3_22 := h22.blk kg3_15
    have kg4_22 := h22.blk kg4_15
    refine l_cell (j := t) (v := .int .u32 (Go.bits .xor .u32 (Go.bits .xor .u32 (Go.bits .xor .u32 ((rowL true K B).getD (t + 5) 0) (rotl ((rowL true K B).getD (t + 4) 0) 5)) ((rowL true K B).getD (t + 3) 0)) (rotl (Go.bits .xor .u32 (Go.bits .xor .u32 ((rowL true K B).getD (t + 2) 0) ((rowL true K B).getD (t + 1) 0)) ((rowL true K B).getD t 0)) 30))) rfl rfl rfl sz30 (At.hit z21.put.put.put.put.put.put.put rfl).ev ((At.hit z21.put.put.put.put.put.put rfl).ne rfl).ev rfl kg3_22 (by rw [(nums_size _ _).trans (diffL_len _ _)]; omega) ?_
    intro w23 k23 u23
    rw [nums_put] at k23
    have kg2_23 := u23.blk kg2_22 (by omega)
    have kg4_23 := u23.blk kg4_22 (by omega)
    refine l_end ?_
    refine e_fresh z21.put.put.put.put.put.put.put.put ?_
    intro a24 z24 m24
    have s2_24 := m24 _ _ ((((((((s2_21.ne rfl).ne rfl).ne rfl).ne rfl).ne rfl).ne rfl).ne rfl).ne rfl)
    have s3_24 := m24 _ _ ((((((((s3_21.ne rfl).ne rfl).ne rfl).ne rfl).ne rfl).ne rfl).ne rfl).ne rfl)
    have s4_24 := m24 _ _ ((((((((s4_21.ne rfl).ne rfl).ne rfl).ne rfl).ne rfl).ne rfl).ne rfl).ne rfl)
    have s38_24 := m24 _ _ ((((((((s38_21.ne rfl).ne rfl).ne rfl).ne rfl).ne rfl).ne rfl).ne rfl).ne rfl)
    have low24 := ((low15.trans h22).upd u23 geg3)
    clear m24
    refine e_in ?_
    refine e_then ?_
    refine c_region ?_
    refine l_q rfl (q_add (((t + 1 : Nat) : Int)) rfl s38_24.ev rfl (i64_is (by omega) (by omega) (by omega)) ?_)
    refine l_q rfl (q_move _ _ rfl (At.hit z24 rfl).ev ?_)
    refine l_end ?_
    refine e_fresh z24.put.put ?_
    intro a25 z25 m25
    have s2_25 := m25 _ _ ((s2_24.ne rfl).ne rfl)
    have s3_25 := m25 _ _ ((s3_24.ne rfl).ne rfl)
    have s4_25 := m25 _ _ ((s4_24.ne rfl).ne rfl)
    have s38_25 := m25 _ _ (At.hit z24.put rfl)
    clear m25
    exact ⟨z25, s2_25, s3_25, s4_25, s38_25, kg2_23, k23, kg4_23, low24⟩
  · intro a26 w26 h
    obtain ⟨z26, s2_26, s3_26, s4_26, s38_26, kg2_26, kg3_26, kg4_26, low26⟩ := h
    clear k12 kg2_12 kg3_12 low13 s2_14 s38_14 s3_14 s4_14 z14
    refine c_seq ?_
    refine c_region ?_
    refine l_q rfl (q_lss false rfl s38_26.ev rfl (decide_eq_false (by omega)) ?_)
    refine l_end ?_
    refine e_fresh z26.put ?_
    intro a27 z27 m27
    have s2_27 := m27 _ _ (s2_26.ne rfl)
    have s3_27 := m27 _ _ (s3_26.ne rfl)
    have s4_27 := m27 _ _ (s4_26.ne rfl)
    have s38_27 := m27 _ _ (s38_26.ne rfl)
    have s39_27 := m27 _ _ (At.hit z26 rfl)
    clear m27
    refine e_then ?_
    refine c_seq ?_
    refine c_false s39_27 ?_
    refine wp_exit ?_
    refine x_then ?_
    refine x_then ?_
    refine in_exit ?_
    refine e_then ?_
    refine c_seq ?_
    refine c_region ?_
    refine l_q rfl (q_row rfl Try.underlying32 rfl (sz32.trans (congrArg some ((nums_size _ _).trans (diffL_len _ _)).symm)) s3_27.ev (fun _ e => by rw [e]; exact kg3_26) ?_)
    refine l_row rfl rfl rfl (sz32.trans (congrArg some ((nums_size _ _).trans (diffL_len _ _)).symm)) (s2_27.ne rfl).ev (At.hit z27 rfl).ev (nums_one _ _) kg2_26 (((nums_size _ _).trans (List.length_replicate)).trans ((nums_size _ _).trans (diffL_len _ _)).symm) ?_
    intro w28 k28 u28
    have kg3_28 := u28.blk kg3_26 (by omega)
    have kg4_28 := u28.blk kg4_26 (by omega)
    refine l_end ?_
    refine e_fresh z27.put ?_
    intro a29 z29 m29
    have s2_29 := m29 _ _ (s2_27.ne rfl)
    have low29 := (low26.upd u28 geg2)
    clear m29
    refine e_then ?_
    refine wp_ret ?_
    refine r_cell rfl z29.defers s2_29 k28 Try.underlying32 rfl (sz32.trans (congrArg some ((nums_size _ _).trans (diffL_len _ _)).symm)) ?_
    exact ⟨rfl, low29⟩
theorem DL_bad0.calls (ty K B : Int) (hy : ty < 1) (w0 : World) : Calls Try.prog 9 #[.agg #[.int .i64 ty, .int .i64 K, .int .i64 B]] w0 fun e w' => e = .returned (.agg (nums .u32 (List.replicate 80 0))) ∧ Low w0 w' := by
  refine c_fun (R := _) Try.func9 rfl 77 rfl (Nat.le_of_ble_eq_true rfl) ?_
  intro a z hA
  have s0 := hA 0 _ rfl
  clear hA
  refine c_seq ?_
  refine c_region ?_
  refine l_box rfl rfl s0.ev ?_
  intro g1 w1 hg1 k1 h1
  have geg1 := Nat.le_trans (Low.refl _).ge hg1
  refine l_alloc rfl rfl zero32 ?_
  intro g2 w2 hg2 k2 h2
  have lt_g1_g2 := Nat.lt_of_lt_of_le (heap_lt k1) hg2
  have geg2 := Nat.le_trans h1.ge hg2
  have kg1_2 := h2.blk k1
  refine l_end ?_
  refine e_fresh z.put.put ?_
  intro a3 z3 m3
  have s1_3 := m3 _ _ ((At.hit z rfl).ne rfl)
  have s2_3 := m3 _ _ (At.hit z.put rfl)
  have low3 := (h1.trans h2)
  clear m3
  refine e_then ?_
  refine c_seq ?_
  refine c_region ?_
  refine l_alloc rfl rfl zero32 ?_
  intro g3 w4 hg4 k4 h4
  have lt_g1_g3 := Nat.lt_of_lt_of_le (heap_lt kg1_2) hg4
  have lt_g2_g3 := Nat.lt_of_lt_of_le (heap_lt k2) hg4
  have geg3 := Nat.le_trans low3.ge hg4
  have kg1_4 := h4.blk kg1_2
  have kg2_4 := h4.blk k2
  refine l_end ?_
  refine e_fresh z3.put ?_
  intro a5 z5 m5
  have s1_5 := m5 _ _ (s1_3.ne rfl)
  have s2_5 := m5 _ _ (s2_3.ne rfl)
  have s3_5 := m5 _ _ (At.hit z3 rfl)
  have low5 := (low3.trans h4)
  clear m5
  refine e_then ?_
  refine c_seq ?_
  refine c_seq ?_
  refine c_region ?_
  refine l_q rfl (q_fld 0 rfl (by kernel_rfl) s1_5.ev ?_)
  refine l_q rfl (q_cell (.int .i64 ty) rfl Try.underlying3 (At.hit z5 rfl).ev (fun _ e => by rw [e]; exact (cells_at kg1_4 0).trans rfl) ?_)
  refine l_q rfl (q_lss true rfl (At.hit z5.put rfl).ev rfl (decide_eq_true (by omega)) ?_)
  refine l_q rfl (q_move _ _ rfl (At.hit z5.put.put rfl).ev ?_)
  refine l_skip (wanted_is (j := 3) (d := 10) (b := true) rfl rfl (At.hit z5.put.put.put rfl) rfl) ?_
  refine l_skip (wanted_is (j := 3) (d := 10) (b := true) rfl rfl ((At.hit z5.put.put.put rfl).ne rfl) rfl) ?_
  refine l_skip (wanted_is (j := 3) (d := 10) (b := true) rfl rfl (((At.hit z5.put.put.put rfl).ne rfl).ne rfl) rfl) ?_
  refine l_q rfl (q_pick (b := true) (.bool true) rfl ((((At.hit z5.put.put.put rfl).ne rfl).ne rfl).ne rfl).ev rfl ?_)
  refine l_fresh z5.put.put.put.put.put.put.put.put ?_
  intro a6 z6 m6
  have s1_6 := m6 _ _ ((((((((s1_5.ne rfl).ne rfl).ne rfl).ne rfl).ne rfl).ne rfl).ne rfl).ne rfl)
  have s2_6 := m6 _ _ ((((((((s2_5.ne rfl).ne rfl).ne rfl).ne rfl).ne rfl).ne rfl).ne rfl).ne rfl)
  have s3_6 := m6 _ _ ((((((((s3_5.ne rfl).ne rfl).ne rfl).ne rfl).ne rfl).ne rfl).ne rfl).ne rfl)
  have s14_6 := m6 _ _ (At.hit z5.put.put.put.put.put.put.put rfl)
  clear m6
  refine l_q rfl (q_move _ _ rfl s14_6.ev ?_)
  refine l_skip (wanted_is (j := 8) (d := 15) (b := true) rfl rfl (At.hit z6 rfl) rfl) ?_
  refine l_skip (wanted_is (j := 8) (d := 15) (b := true) rfl rfl ((At.hit z6 rfl).ne rfl) rfl) ?_
  refine l_skip (wanted_is (j := 8) (d := 15) (b := true) rfl rfl (((At.hit z6 rfl).ne rfl).ne rfl) rfl) ?_
  refine l_q rfl (q_pick (b := true) (.bool true) rfl ((((At.hit z6 rfl).ne rfl).ne rfl).ne rfl).ev rfl ?_)
  refine l_q rfl (q_move _ _ rfl (At.hit z6.put.put.put.put rfl).ev ?_)
  refine l_skip (wanted_is (j := 13) (d := 20) (b := true) rfl rfl (At.hit z6.put.put.put.put.put rfl) rfl) ?_
  refine l_skip (wanted_is (j := 13) (d := 20) (b := true) rfl rfl ((At.hit z6.put.put.put.put.put rfl).ne rfl) rfl) ?_
  refine l_fresh z6.put.put.put.put.put.put.put.put ?_
  intro a7 z7 m7
  have s1_7 := m7 _ _ ((((((((s1_6.ne rfl).ne rfl).ne rfl).ne rfl).ne rfl).ne rfl).ne rfl).ne rfl)
  have s2_7 := m7 _ _ ((((((((s2_6.ne rfl).ne rfl).ne rfl).ne rfl).ne rfl).ne rfl).ne rfl).ne rfl)
  have s3_7 := m7 _ _ ((((((((s3_6.ne rfl).ne rfl).ne rfl).ne rfl).ne rfl).ne rfl).ne rfl).ne rfl)
  have s20_7 := m7 _ _ (((At.hit z6.put.put.put.put.put rfl).ne rfl).ne rfl)
  have s22_7 := m7 _ _ (At.hit z6.put.put.put.put.put.put.put rfl)
  clear m7
  refine l_skip (wanted_is (j := 13) (d := 20) (b := true) rfl rfl s20_7 rfl) ?_
  refine l_q rfl (q_pick (b := true) (.bool true) rfl (s20_7.ne rfl).ev rfl ?_)
  refine l_q rfl (q_move _ _ rfl (At.hit z7.put rfl).ev ?_)
  refine l_skip (wanted_is (j := 18) (d := 25) (b := true) rfl rfl (At.hit z7.put.put rfl) rfl) ?_
  refine l_skip (wanted_is (j := 18) (d := 25) (b := true) rfl rfl ((At.hit z7.put.put rfl).ne rfl) rfl) ?_
  refine l_skip (wanted_is (j := 18) (d := 25) (b := true) rfl rfl (((At.hit z7.put.put rfl).ne rfl).ne rfl) rfl) ?_
  refine l_q rfl (q_pick (b := true) (.bool true) rfl ((((At.hit z7.put.put rfl).ne rfl).ne rfl).ne rfl).ev rfl ?_)
  refine l_q rfl (q_move _ _ rfl (At.hit z7.put.put.put.put.put.put rfl).ev ?_)
  refine l_fresh z7.put.put.put.put.put.put.put.put ?_
  intro a8 z8 m8
  have s1_8 := m8 _ _ ((((((((s1_7.ne rfl).ne rfl).ne rfl).ne rfl).ne rfl).ne rfl).ne rfl).ne rfl)
  have s2_8 := m8 _ _ ((((((((s2_7.ne rfl).ne rfl).ne rfl).ne rfl).ne rfl).ne rfl).ne rfl).ne rfl)
  have s3_8 := m8 _ _ ((((((((s3_7.ne rfl).ne rfl).ne rfl).ne rfl).ne rfl).ne rfl).ne rfl).ne rfl)
  have s30_8 := m8 _ _ (At.hit z7.put.put.put.put.put.put.put rfl)
  clear m8
  refine l_skip (wanted_is (j := 23) (d := 30) (b := true) rfl rfl s30_8 rfl) ?_
  refine l_skip (wanted_is (j := 23) (d := 30) (b := true) rfl rfl (s30_8.ne rfl) rfl) ?_
  refine l_skip (wanted_is (j := 23) (d := 30) (b := true) rfl rfl ((s30_8.ne rfl).ne rfl) rfl) ?_
  refine l_q rfl (q_pick (b := true) (.bool true) rfl (((s30_8.ne rfl).ne rfl).ne rfl).ev rfl ?_)
  refine l_end ?_
  refine e_fresh z8.put.put.put.put ?_
  intro a9 z9 m9
  have s1_9 := m9 _ _ ((((s1_8.ne rfl).ne rfl).ne rfl).ne rfl)
  have s2_9 := m9 _ _ ((((s2_8.ne rfl).ne rfl).ne rfl).ne rfl)
  have s3_9 := m9 _ _ ((((s3_8.ne rfl).ne rfl).ne rfl).ne rfl)
  have s34_9 := m9 _ _ (At.hit z8.put.put.put rfl)
  clear m9
  refine e_then ?_
  refine c_true s34_9 ?_
  refine c_seq ?_
  refine c_region ?_
  refine l_q rfl (q_row rfl Try.underlying32 rfl (sz32.trans (congrArg some ((nums_size _ _).trans (List.length_replicate)).symm)) s3_9.ev (fun _ e => by rw [e]; exact k4) ?_)
  refine l_row rfl rfl rfl (sz32.trans (congrArg some ((nums_size _ _).trans (List.length_replicate)).symm)) (s2_9.ne rfl).ev (At.hit z9 rfl).ev (nums_one _ _) kg2_4 (((nums_size _ _).trans (List.length_replicate)).trans ((nums_size _ _).trans (List.length_replicate)).symm) ?_
  intro w10 k10 u10
  have kg1_10 := u10.blk kg1_4 (by omega)
  have kg3_10 := u10.blk k4 (by omega)
  refine l_end ?_
  refine e_fresh z9.put ?_
  intro a11 z11 m11
  have s2_11 := m11 _ _ (s2_9.ne rfl)
  have low11 := (low5.upd u10 geg2)
  clear m11
  refine e_then ?_
  refine wp_ret ?_
  refine ret_then ?_
  refine r_cell rfl z11.defers s2_11 k10 Try.underlying32 rfl (sz32.trans (congrArg some ((nums_size _ _).trans (List.length_replicate)).symm)) ?_
  exact ⟨rfl, low11⟩
theorem DL_bad1.calls (ty K B : Int) (h0 : ¬ ty < 1) (hy : ty > 2) (w0 : World) : Calls Try.prog 9 #[.agg #[.int .i64 ty, .int .i64 K, .int .i64 B]] w0 fun e w' => e = .returned (.agg (nums .u32 (List.replicate 80 0))) ∧ Low w0 w' := by
  refine c_fun (R := _) Try.func9 rfl 77 rfl (Nat.le_of_ble_eq_true rfl) ?_
  intro a z hA
  have s0 := hA 0 _ rfl
  clear hA
  refine c_seq ?_
  refine c_region ?_
  refine l_box rfl rfl s0.ev ?_
  intro g1 w1 hg1 k1 h1
  have geg1 := Nat.le_trans (Low.refl _).ge hg1
  refine l_alloc rfl rfl zero32 ?_
  intro g2 w2 hg2 k2 h2
  have lt_g1_g2 := Nat.lt_of_lt_of_le (heap_lt k1) hg2
  have geg2 := Nat.le_trans h1.ge hg2
  have kg1_2 := h2.blk k1
  refine l_end ?_
  refine e_fresh z.put.put ?_
  intro a3 z3 m3
  have s1_3 := m3 _ _ ((At.hit z rfl).ne rfl)
  have s2_3 := m3 _ _ (At.hit z.put rfl)
  have low3 := (h1.trans h2)
  clear m3
  refine e_then ?_
  refine c_seq ?_
  refine c_region ?_
  refine l_alloc rfl rfl zero32 ?_
  intro g3 w4 hg4 k4 h4
  have lt_g1_g3 := Nat.lt_of_lt_of_le (heap_lt kg1_2) hg4
  have lt_g2_g3 := Nat.lt_of_lt_of_le (heap_lt k2) hg4
  have geg3 := Nat.le_trans low3.ge hg4
  have kg1_4 := h4.blk kg1_2
  have kg2_4 := h4.blk k2
  refine l_end ?_
  refine e_fresh z3.put ?_
  intro a5 z5 m5
  have s1_5 := m5 _ _ (s1_3.ne rfl)
  have s2_5 := m5 _ _ (s2_3.ne rfl)
  have s3_5 := m5 _ _ (At.hit z3 rfl)
  have low5 := (low3.trans h4)
  clear m5
  refine e_then ?_
  refine c_seq ?_
  refine c_seq ?_
  refine c_region ?_
  refine l_q rfl (q_fld 0 rfl (by kernel_rfl) s1_5.ev ?_)
  refine l_q rfl (q_cell (.int .i64 ty) rfl Try.underlying3 (At.hit z5 rfl).ev (fun _ e => by rw [e]; exact (cells_at kg1_4 0).trans rfl) ?_)
  refine l_q rfl (q_lss false rfl (At.hit z5.put rfl).ev rfl (decide_eq_false (by omega)) ?_)
  refine l_q rfl (q_move _ _ rfl (At.hit z5.put.put rfl).ev ?_)
  refine l_qg (wanted_is (j := 3) (d := 10) (b := false) rfl rfl (At.hit z5.put.put.put rfl) rfl) (q_fld 0 rfl (by kernel_rfl) ((((s1_5.ne rfl).ne rfl).ne rfl).ne rfl).ev ?_)
  refine l_qg (wanted_is (j := 3) (d := 10) (b := false) rfl rfl ((At.hit z5.put.put.put rfl).ne rfl) rfl) (q_cell (.int .i64 ty) rfl Try.underlying3 (At.hit z5.put.put.put.put rfl).ev (fun _ e => by rw [e]; exact (cells_at kg1_4 0).trans rfl) ?_)
  refine l_qg (wanted_is (j := 3) (d := 10) (b := false) rfl rfl (((At.hit z5.put.put.put rfl).ne rfl).ne rfl) rfl) (q_gtr true rfl (At.hit z5.put.put.put.put.put rfl).ev rfl (decide_eq_true (by omega)) ?_)
  refine l_q rfl (q_pick (b := false) (.bool true) rfl ((((At.hit z5.put.put.put rfl).ne rfl).ne rfl).ne rfl).ev (At.hit z5.put.put.put.put.put.put rfl).ev ?_)
  refine l_fresh z5.put.put.put.put.put.put.put.put ?_
  intro a6 z6 m6
  have s1_6 := m6 _ _ ((((((((s1_5.ne rfl).ne rfl).ne rfl).ne rfl).ne rfl).ne rfl).ne rfl).ne rfl)
  have s2_6 := m6 _ _ ((((((((s2_5.ne rfl).ne rfl).ne rfl).ne rfl).ne rfl).ne rfl).ne rfl).ne rfl)
  have s3_6 := m6 _ _ ((((((((s3_5.ne rfl).ne rfl).ne rfl).ne rfl).ne rfl).ne rfl).ne rfl).ne rfl)
  have s14_6 := m6 _ _ (At.hit z5.put.put.put.put.put.put.put rfl)
  clear m6
  refine l_q rfl (q_move _ _ rfl s14_6.ev ?_)
  refine l_skip (wanted_is (j := 8) (d := 15) (b := true) rfl rfl (At.hit z6 rfl) rfl) ?_
  refine l_skip (wanted_is (j := 8) (d := 15) (b := true) rfl rfl ((At.hit z6 rfl).ne rfl) rfl) ?_
  refine l_skip (wanted_is (j := 8) (d := 15) (b := true) rfl rfl (((At.hit z6 rfl).ne rfl).ne rfl) rfl) ?_
  refine l_q rfl (q_pick (b := true) (.bool true) rfl ((((At.hit z6 rfl).ne rfl).ne rfl).ne rfl).ev rfl ?_)
  refine l_q rfl (q_move _ _ rfl (At.hit z6.put.put.put.put rfl).ev ?_)
  refine l_skip (wanted_is (j := 13) (d := 20) (b := true) rfl rfl (At.hit z6.put.put.put.put.put rfl) rfl) ?_
  refine l_skip (wanted_is (j := 13) (d := 20) (b := true) rfl rfl ((At.hit z6.put.put.put.put.put rfl).ne rfl) rfl) ?_
  refine l_fresh z6.put.put.put.put.put.put.put.put ?_
  intro a7 z7 m7
  have s1_7 := m7 _ _ ((((((((s1_6.ne rfl).ne rfl).ne rfl).ne rfl).ne rfl).ne rfl).ne rfl).ne rfl)
  have s2_7 := m7 _ _ ((((((((s2_6.ne rfl).ne rfl).ne rfl).ne rfl).ne rfl).ne rfl).ne rfl).ne rfl)
  have s3_7 := m7 _ _ ((((((((s3_6.ne rfl).ne rfl).ne rfl).ne rfl).ne rfl).ne rfl).ne rfl).ne rfl)
  have s20_7 := m7 _ _ (((At.hit z6.put.put.put.put.put rfl).ne rfl).ne rfl)
  have s22_7 := m7 _ _ (At.hit z6.put.put.put.put.put.put.put rfl)
  clear m7
  refine l_skip (wanted_is (j := 13) (d := 20) (b := true) rfl rfl s20_7 rfl) ?_
  refine l_q rfl (q_pick (b := true) (.bool true) rfl (s20_7.ne rfl).ev rfl ?_)
  refine l_q rfl (q_move _ _ rfl (At.hit z7.put rfl).ev ?_)
  refine l_skip (wanted_is (j := 18) (d := 25) (b := true) rfl rfl (At.hit z7.put.put rfl) rfl) ?_
  refine l_skip (wanted_is (j := 18) (d := 25) (b := true) rfl rfl ((At.hit z7.put.put rfl).ne rfl) rfl) ?_
  refine l_skip (wanted_is (j := 18) (d := 25) (b := true) rfl rfl (((At.hit z7.put.put rfl).ne rfl).ne rfl) rfl) ?_
  refine l_q rfl (q_pick (b := true) (.bool true) rfl ((((At.hit z7.put.put rfl).ne rfl).ne rfl).ne rfl).ev rfl ?_)
  refine l_q rfl (q_move _ _ rfl (At.hit z7.put.put.put.put.put.put rfl).ev ?_)
  refine l_fresh z7.put.put.put.put.put.put.put.put ?_
  intro a8 z8 m8
  have s1_8 := m8 _ _ ((((((((s1_7.ne rfl).ne rfl).ne rfl).ne rfl).ne rfl).ne rfl).ne rfl).ne rfl)
  have s2_8 := m8 _ _ ((((((((s2_7.ne rfl).ne rfl).ne rfl).ne rfl).ne rfl).ne rfl).ne rfl).ne rfl)
  have s3_8 := m8 _ _ ((((((((s3_7.ne rfl).ne rfl).ne rfl).ne rfl).ne rfl).ne rfl).ne rfl).ne rfl)
  have s30_8 := m8 _ _ (At.hit z7.put.put.put.put.put.put.put rfl)
  clear m8
  refine l_skip (wanted_is (j := 23) (d := 30) (b := true) rfl rfl s30_8 rfl) ?_
  refine l_skip (wanted_is (j := 23) (d := 30) (b := true) rfl rfl (s30_8.ne rfl) rfl) ?_
  refine l_skip (wanted_is (j := 23) (d := 30) (b := true) rfl rfl ((s30_8.ne rfl).ne rfl) rfl) ?_
  refine l_q rfl (q_pick (b := true) (.bool true) rfl (((s30_8.ne rfl).ne rfl).ne rfl).ev rfl ?_)
  refine l_end ?_
  refine e_fresh z8.put.put.put.put ?_
  intro a9 z9 m9
  have s1_9 := m9 _ _ ((((s1_8.ne rfl).ne rfl).ne rfl).ne rfl)
  have s2_9 := m9 _ _ ((((s2_8.ne rfl).ne rfl).ne rfl).ne rfl)
  have s3_9 := m9 _ _ ((((s3_8.ne rfl).ne rfl).ne rfl).ne rfl)
  have s34_9 := m9 _ _ (At.hit z8.put.put.put rfl)
  clear m9
  refine e_then ?_
  refine c_true s34_9 ?_
  refine c_seq ?_
  refine c_region ?_
  refine l_q rfl (q_row rfl Try.underlying32 rfl (sz32.trans (congrArg some ((nums_size _ _).trans (List.length_replicate)).symm)) s3_9.ev (fun _ e => by rw [e]; exact k4) ?_)
  refine l_row rfl rfl rfl (sz32.trans (congrArg some ((nums_size _ _).trans (List.length_replicate)).symm)) (s2_9.ne rfl).ev (At.hit z9 rfl).ev (nums_one _ _) kg2_4 (((nums_size _ _).trans (List.length_replicate)).trans ((nums_size _ _).trans (List.length_replicate)).symm) ?_
  intro w10 k10 u10
  have kg1_10 := u10.blk kg1_4 (by omega)
  have kg3_10 := u10.blk k4 (by omega)
  refine l_end ?_
  refine e_fresh z9.put ?_
  intro a11 z11 m11
  have s2_11 := m11 _ _ (s2_9.ne rfl)
  have low11 := (low5.upd u10 geg2)
  clear m11
  refine e_then ?_
  refine wp_ret ?_
  refine ret_then ?_
  refine r_cell rfl z11.defers s2_11 k10 Try.underlying32 rfl (sz32.trans (congrArg some ((nums_size _ _).trans (List.length_replicate)).symm)) ?_
  exact ⟨rfl, low11⟩
theorem DL_bad2.calls (ty K B : Int) (h0 : ¬ ty < 1) (h1 : ¬ ty > 2) (hy : K < 0) (w0 : World) : Calls Try.prog 9 #[.agg #[.int .i64 ty, .int .i64 K, .int .i64 B]] w0 fun e w' => e = .returned (.agg (nums .u32 (List.replicate 80 0))) ∧ Low w0 w' := by
  refine c_fun (R := _) Try.func9 rfl 77 rfl (Nat.le_of_ble_eq_true rfl) ?_
  intro a z hA
  have s0 := hA 0 _ rfl
  clear hA
  refine c_seq ?_
  refine c_region ?_
  refine l_box rfl rfl s0.ev ?_
  intro g1 w1 hg1 k1 h1
  have geg1 := Nat.le_trans (Low.refl _).ge hg1
  refine l_alloc rfl rfl zero32 ?_
  intro g2 w2 hg2 k2 h2
  have lt_g1_g2 := Nat.lt_of_lt_of_le (heap_lt k1) hg2
  have geg2 := Nat.le_trans h1.ge hg2
  have kg1_2 := h2.blk k1
  refine l_end ?_
  refine e_fresh z.put.put ?_
  intro a3 z3 m3
  have s1_3 := m3 _ _ ((At.hit z rfl).ne rfl)
  have s2_3 := m3 _ _ (At.hit z.put rfl)
  have low3 := (h1.trans h2)
  clear m3
  refine e_then ?_
  refine c_seq ?_
  refine c_region ?_
  refine l_alloc rfl rfl zero32 ?_
  intro g3 w4 hg4 k4 h4
  have lt_g1_g3 := Nat.lt_of_lt_of_le (heap_lt kg1_2) hg4
  have lt_g2_g3 := Nat.lt_of_lt_of_le (heap_lt k2) hg4
  have geg3 := Nat.le_trans low3.ge hg4
  have kg1_4 := h4.blk kg1_2
  have kg2_4 := h4.blk k2
  refine l_end ?_
  refine e_fresh z3.put ?_
  intro a5 z5 m5
  have s1_5 := m5 _ _ (s1_3.ne rfl)
  have s2_5 := m5 _ _ (s2_3.ne rfl)
  have s3_5 := m5 _ _ (At.hit z3 rfl)
  have low5 := (low3.trans h4)
  clear m5
  refine e_then ?_
  refine c_seq ?_
  refine c_seq ?_
  refine c_region ?_
  refine l_q rfl (q_fld 0 rfl (by kernel_rfl) s1_5.ev ?_)
  refine l_q rfl (q_cell (.int .i64 ty) rfl Try.underlying3 (At.hit z5 rfl).ev (fun _ e => by rw [e]; exact (cells_at kg1_4 0).trans rfl) ?_)
  refine l_q rfl (q_lss false rfl (At.hit z5.put rfl).ev rfl (decide_eq_false (by omega)) ?_)
  refine l_q rfl (q_move _ _ rfl (At.hit z5.put.put rfl).ev ?_)
  refine l_qg (wanted_is (j := 3) (d := 10) (b := false) rfl rfl (At.hit z5.put.put.put rfl) rfl) (q_fld 0 rfl (by kernel_rfl) ((((s1_5.ne rfl).ne rfl).ne rfl).ne rfl).ev ?_)
  refine l_qg (wanted_is (j := 3) (d := 10) (b := false) rfl rfl ((At.hit z5.put.put.put rfl).ne rfl) rfl) (q_cell (.int .i64 ty) rfl Try.underlying3 (At.hit z5.put.put.put.put rfl).ev (fun _ e => by rw [e]; exact (cells_at kg1_4 0).trans rfl) ?_)
  refine l_qg (wanted_is (j := 3) (d := 10) (b := false) rfl rfl (((At.hit z5.put.put.put rfl).ne rfl).ne rfl) rfl) (q_gtr false rfl (At.hit z5.put.put.put.put.put rfl).ev rfl (decide_eq_false (by omega)) ?_)
  refine l_q rfl (q_pick (b := false) (.bool false) rfl ((((At.hit z5.put.put.put rfl).ne rfl).ne rfl).ne rfl).ev (At.hit z5.put.put.put.put.put.put rfl).ev ?_)
  refine l_fresh z5.put.put.put.put.put.put.put.put ?_
  intro a6 z6 m6
  have s1_6 := m6 _ _ ((((((((s1_5.ne rfl).ne rfl).ne rfl).ne rfl).ne rfl).ne rfl).ne rfl).ne rfl)
  have s2_6 := m6 _ _ ((((((((s2_5.ne rfl).ne rfl).ne rfl).ne rfl).ne rfl).ne rfl).ne rfl).ne rfl)
  have s3_6 := m6 _ _ ((((((((s3_5.ne rfl).ne rfl).ne rfl).ne rfl).ne rfl).ne rfl).ne rfl).ne rfl)
  have s14_6 := m6 _ _ (At.hit z5.put.put.put.put.put.put.put rfl)
  clear m6
  refine l_q rfl (q_move _ _ rfl s14_6.ev ?_)
  refine l_qg (wanted_is (j := 8) (d := 15) (b := false) rfl rfl (At.hit z6 rfl) rfl) (q_fld 1 rfl (by kernel_rfl) (s1_6.ne rfl).ev ?_)
  refine l_qg (wanted_is (j := 8) (d := 15) (b := false) rfl rfl ((At.hit z6 rfl).ne rfl) rfl) (q_cell (.int .i64 K) rfl Try.underlying3 (At.hit z6.put rfl).ev (fun _ e => by rw [e]; exact (cells_at kg1_4 1).trans rfl) ?_)
  refine l_qg (wanted_is (j := 8) (d := 15) (b := false) rfl rfl (((At.hit z6 rfl).ne rfl).ne rfl) rfl) (q_lss true rfl (At.hit z6.put.put rfl).ev rfl (decide_eq_true (by omega)) ?_)
  refine l_q rfl (q_pick (b := false) (.bool true) rfl ((((At.hit z6 rfl).ne rfl).ne rfl).ne rfl).ev (At.hit z6.put.put.put rfl).ev ?_)
  refine l_q rfl (q_move _ _ rfl (At.hit z6.put.put.put.put rfl).ev ?_)
  refine l_skip (wanted_is (j := 13) (d := 20) (b := true) rfl rfl (At.hit z6.put.put.put.put.put rfl) rfl) ?_
  refine l_skip (wanted_is (j := 13) (d := 20) (b := true) rfl rfl ((At.hit z6.put.put.put.put.put rfl).ne rfl) rfl) ?_
  refine l_fresh z6.put.put.put.put.put.put.put.put ?_
  intro a7 z7 m7
  have s1_7 := m7 _ _ ((((((((s1_6.ne rfl).ne rfl).ne rfl).ne rfl).ne rfl).ne rfl).ne rfl).ne rfl)
  have s2_7 := m7 _ _ ((((((((s2_6.ne rfl).ne rfl).ne rfl).ne rfl).ne rfl).ne rfl).ne rfl).ne rfl)
  have s3_7 := m7 _ _ ((((((((s3_6.ne rfl).ne rfl).ne rfl).ne rfl).ne rfl).ne rfl).ne rfl).ne rfl)
  have s20_7 := m7 _ _ (((At.hit z6.put.put.put.put.put rfl).ne rfl).ne rfl)
  have s22_7 := m7 _ _ (At.hit z6.put.put.put.put.put.put.put rfl)
  clear m7
  refine l_skip (wanted_is (j := 13) (d := 20) (b := true) rfl rfl s20_7 rfl) ?_
  refine l_q rfl (q_pick (b := true) (.bool true) rfl (s20_7.ne rfl).ev rfl ?_)
  refine l_q rfl (q_move _ _ rfl (At.hit z7.put rfl).ev ?_)
  refine l_skip (wanted_is (j := 18) (d := 25) (b := true) rfl rfl (At.hit z7.put.put rfl) rfl) ?_
  refine l_skip (wanted_is (j := 18) (d := 25) (b := true) rfl rfl ((At.hit z7.put.put rfl).ne rfl) rfl) ?_
  refine l_skip (wanted_is (j := 18) (d := 25) (b := true) rfl rfl (((At.hit z7.put.put rfl).ne rfl).ne rfl) rfl) ?_
  refine l_q rfl (q_pick (b := true) (.bool true) rfl ((((At.hit z7.put.put rfl).ne rfl).ne rfl).ne rfl).ev rfl ?_)
  refine l_q rfl (q_move _ _ rfl (At.hit z7.put.put.put.put.put.put rfl).ev ?_)
  refine l_fresh z7.put.put.put.put.put.put.put.put ?_
  intro a8 z8 m8
  have s1_8 := m8 _ _ ((((((((s1_7.ne rfl).ne rfl).ne rfl).ne rfl).ne rfl).ne rfl).ne rfl).ne rfl)
  have s2_8 := m8 _ _ ((((((((s2_7.ne rfl).ne rfl).ne rfl).ne rfl).ne rfl).ne rfl).ne rfl).ne rfl)
  have s3_8 := m8 _ _ ((((((((s3_7.ne rfl).ne rfl).ne rfl).ne rfl).ne rfl).ne rfl).ne rfl).ne rfl)
  have s30_8 := m8 _ _ (At.hit z7.put.put.put.put.put.put.put rfl)
  clear m8
  refine l_skip (wanted_is (j := 23) (d := 30) (b := true) rfl rfl s30_8 rfl) ?_
  refine l_skip (wanted_is (j := 23) (d := 30) (b := true) rfl rfl (s30_8.ne rfl) rfl) ?_
  refine l_skip (wanted_is (j := 23) (d := 30) (b := true) rfl rfl ((s30_8.ne rfl).ne rfl) rfl) ?_
  refine l_q rfl (q_pick (b := true) (.bool true) rfl (((s30_8.ne rfl).ne rfl).ne rfl).ev rfl ?_)
  refine l_end ?_
  refine e_fresh z8.put.put.put.put ?_
  intro a9 z9 m9
  have s1_9 := m9 _ _ ((((s1_8.ne rfl).ne rfl).ne rfl).ne rfl)
  have s2_9 := m9 _ _ ((((s2_8.ne rfl).ne rfl).ne rfl).ne rfl)
  have s3_9 := m9 _ _ ((((s3_8.ne rfl).ne rfl).ne rfl).ne rfl)
  have s34_9 := m9 _ _ (At.hit z8.put.put.put rfl)
  clear m9
  refine e_then ?_
  refine c_true s34_9 ?_
  refine c_seq ?_
  refine c_region ?_
  refine l_q rfl (q_row rfl Try.underlying32 rfl (sz32.trans (congrArg some ((nums_size _ _).trans (List.length_replicate)).symm)) s3_9.ev (fun _ e => by rw [e]; exact k4) ?_)
  refine l_row rfl rfl rfl (sz32.trans (congrArg some ((nums_size _ _).trans (List.length_replicate)).symm)) (s2_9.ne rfl).ev (At.hit z9 rfl).ev (nums_one _ _) kg2_4 (((nums_size _ _).trans (List.length_replicate)).trans ((nums_size _ _).trans (List.length_replicate)).symm) ?_
  intro w10 k10 u10
  have kg1_10 := u10.blk kg1_4 (by omega)
  have kg3_10 := u10.blk k4 (by omega)
  refine l_end ?_
  refine e_fresh z9.put ?_
  intro a11 z11 m11
  have s2_11 := m11 _ _ (s2_9.ne rfl)
  have low11 := (low5.upd u10 geg2)
  clear m11
  refine e_then ?_
  refine wp_ret ?_
  refine ret_then ?_
  refine r_cell rfl z11.defers s2_11 k10 Try.underlying32 rfl (sz32.trans (congrArg some ((nums_size _ _).trans (List.length_replicate)).symm)) ?_
  exact ⟨rfl, low11⟩
theorem DL_bad3.calls (ty K B : Int) (h0 : ¬ ty < 1) (h1 : ¬ ty > 2) (h2 : ¬ K < 0) (hy : K > 64) (w0 : World) : Calls Try.prog 9 #[.agg #[.int .i64 ty, .int .i64 K, .int .i64 B]] w0 fun e w' => e = .returned (.agg (nums .u32 (List.replicate 80 0))) ∧ Low w0 w' := by
  refine c_fun (R := _) Try.func9 rfl 77 rfl (Nat.le_of_ble_eq_true rfl) ?_
  intro a z hA
  have s0 := hA 0 _ rfl
  clear hA
  refine c_seq ?_
  refine c_region ?_
  refine l_box rfl rfl s0.ev ?_
  intro g1 w1 hg1 k1 h1
  have geg1 := Nat.le_trans (Low.refl _).ge hg1
  refine l_alloc rfl rfl zero32 ?_
  intro g2 w2 hg2 k2 h2
  have lt_g1_g2 := Nat.lt_of_lt_of_le (heap_lt k1) hg2
  have geg2 := Nat.le_trans h1.ge hg2
  have kg1_2 := h2.blk k1
  refine l_end ?_
  refine e_fresh z.put.put ?_
  intro a3 z3 m3
  have s1_3 := m3 _ _ ((At.hit z rfl).ne rfl)
  have s2_3 := m3 _ _ (At.hit z.put rfl)
  have low3 := (h1.trans h2)
  clear m3
  refine e_then ?_
  refine c_seq ?_
  refine c_region ?_
  refine l_alloc rfl rfl zero32 ?_
  intro g3 w4 hg4 k4 h4
  have lt_g1_g3 := Nat.lt_of_lt_of_le (heap_lt kg1_2) hg4
  have lt_g2_g3 := Nat.lt_of_lt_of_le (heap_lt k2) hg4
  have geg3 := Nat.le_trans low3.ge hg4
  have kg1_4 := h4.blk kg1_2
  have kg2_4 := h4.blk k2
  refine l_end ?_
  refine e_fresh z3.put ?_
  intro a5 z5 m5
  have s1_5 := m5 _ _ (s1_3.ne rfl)
  have s2_5 := m5 _ _ (s2_3.ne rfl)
  have s3_5 := m5 _ _ (At.hit z3 rfl)
  have low5 := (low3.trans h4)
  clear m5
  refine e_then ?_
  refine c_seq ?_
  refine c_seq ?_
  refine c_region ?_
  refine l_q rfl (q_fld 0 rfl (by kernel_rfl) s1_5.ev ?_)
  refine l_q rfl (q_cell (.int .i64 ty) rfl Try.underlying3 (At.hit z5 rfl).ev (fun _ e => by rw [e]; exact (cells_at kg1_4 0).trans rfl) ?_)
  refine l_q rfl (q_lss false rfl (At.hit z5.put rfl).ev rfl (decide_eq_false (by omega)) ?_)
  refine l_q rfl (q_move _ _ rfl (At.hit z5.put.put rfl).ev ?_)
  refine l_qg (wanted_is (j := 3) (d := 10) (b := false) rfl rfl (At.hit z5.put.put.put rfl) rfl) (q_fld 0 rfl (by kernel_rfl) ((((s1_5.ne rfl).ne rfl).ne rfl).ne rfl).ev ?_)
  refine l_qg (wanted_is (j := 3) (d := 10) (b := false) rfl rfl ((At.hit z5.put.put.put rfl).ne rfl) rfl) (q_cell (.int .i64 ty) rfl Try.underlying3 (At.hit z5.put.put.put.put rfl).ev (fun _ e => by rw [e]; exact (cells_at kg1_4 0).trans rfl) ?_)
  refine l_qg (wanted_is (j := 3) (d := 10) (b := false) rfl rfl (((At.hit z5.put.put.put rfl).ne rfl).ne rfl) rfl) (q_gtr false rfl (At.hit z5.put.put.put.put.put rfl).ev rfl (decide_eq_false (by omega)) ?_)
  refine l_q rfl (q_pick (b := false) (.bool false) rfl ((((At.hit z5.put.put.put rfl).ne rfl).ne rfl).ne rfl).ev (At.hit z5.put.put.put.put.put.put rfl).ev ?_)
  refine l_fresh z5.put.put.put.put.put.put.put.put ?_
  intro a6 z6 m6
  have s1_6 := m6 _ _ ((((((((s1_5.ne rfl).ne rfl).ne rfl).ne rfl).ne rfl).ne rfl).ne rfl).ne rfl)
  have s2_6 := m6 _ _ ((((((((s2_5.ne rfl).ne rfl).ne rfl).ne rfl).ne rfl).ne rfl).ne rfl).ne rfl)
  have s3_6 := m6 _ _ ((((((((s3_5.ne rfl).ne rfl).ne rfl).ne rfl).ne rfl).ne rfl).ne rfl).ne rfl)
  have s14_6 := m6 _ _ (At.hit z5.put.put.put.put.put.put.put rfl)
  clear m6
  refine l_q rfl (q_move _ _ rfl s14_6.ev ?_)
  refine l_qg (wanted_is (j := 8) (d := 15) (b := false) rfl rfl (At.hit z6 rfl) rfl) (q_fld 1 rfl (by kernel_rfl) (s1_6.ne rfl).ev ?_)
  refine l_qg (wanted_is (j := 8) (d := 15) (b := false) rfl rfl ((At.hit z6 rfl).ne rfl) rfl) (q_cell (.int .i64 K) rfl Try.underlying3 (At.hit z6.put rfl).ev (fun _ e => by rw [e]; exact (cells_at kg1_4 1).trans rfl) ?_)
  refine l_qg (wanted_is (j := 8) (d := 15) (b := false) rfl rfl (((At.hit z6 rfl).ne rfl).ne rfl) rfl) (q_lss false rfl (At.hit z6.put.put rfl).ev rfl (decide_eq_false (by omega)) ?_)
  refine l_q rfl (q_pick (b := false) (.bool false) rfl ((((At.hit z6 rfl).ne rfl).ne rfl).ne rfl).ev (At.hit z6.put.put.put rfl).ev ?_)
  refine l_q rfl (q_move _ _ rfl (At.hit z6.put.put.put.put rfl).ev ?_)
  refine l_qg (wanted_is (j := 13) (d := 20) (b := false) rfl rfl (At.hit z6.put.put.put.put.put rfl) rfl) (q_fld 1 rfl (by kernel_rfl) ((((((s1_6.ne rfl).ne rfl).ne rfl).ne rfl).ne rfl).ne rfl).ev ?_)
  refine l_qg (wanted_is (j := 13) (d := 20) (b := false) rfl rfl ((At.hit z6.put.put.put.put.put rfl).ne rfl) rfl) (q_cell (.int .i64 K) rfl Try.underlying3 (At.hit z6.put.put.put.put.put.put rfl).ev (fun _ e => by rw [e]; exact (cells_at kg1_4 1).trans rfl) ?_)
  refine l_fresh z6.put.put.put.put.put.put.put.put ?_
  intro a7 z7 m7
  have s1_7 := m7 _ _ ((((((((s1_6.ne rfl).ne rfl).ne rfl).ne rfl).ne rfl).ne rfl).ne rfl).ne rfl)
  have s2_7 := m7 _ _ ((((((((s2_6.ne rfl).ne rfl).ne rfl).ne rfl).ne rfl).ne rfl).ne rfl).ne rfl)
  have s3_7 := m7 _ _ ((((((((s3_6.ne rfl).ne rfl).ne rfl).ne rfl).ne rfl).ne rfl).ne rfl).ne rfl)
  have s20_7 := m7 _ _ (((At.hit z6.put.put.put.put.put rfl).ne rfl).ne rfl)
  have s22_7 := m7 _ _ (At.hit z6.put.put.put.put.put.put.put rfl)
  clear m7
  refine l_qg (wanted_is (j := 13) (d := 20) (b := false) rfl rfl s20_7 rfl) (q_gtr true rfl s22_7.ev rfl (decide_eq_true (by omega)) ?_)
  refine l_q rfl (q_pick (b := false) (.bool true) rfl (s20_7.ne rfl).ev (At.hit z7 rfl).ev ?_)
  refine l_q rfl (q_move _ _ rfl (At.hit z7.put rfl).ev ?_)
  refine l_skip (wanted_is (j := 18) (d := 25) (b := true) rfl rfl (At.hit z7.put.put rfl) rfl) ?_
  refine l_skip (wanted_is (j := 18) (d := 25) (b := true) rfl rfl ((At.hit z7.put.put rfl).ne rfl) rfl) ?_
  refine l_skip (wanted_is (j := 18) (d := 25) (b := true) rfl rfl (((At.hit z7.put.put rfl).ne rfl).ne rfl) rfl) ?_
  refine l_q rfl (q_pick (b := true) (.bool true) rfl ((((At.hit z7.put.put rfl).ne rfl).ne rfl).ne rfl).ev rfl ?_)
  refine l_q rfl (q_move _ _ rfl (At.hit z7.put.put.put.put.put.put rfl).ev ?_)
  refine l_fresh z7.put.put.put.put.put.put.put.put ?_
  intro a8 z8 m8
  have s1_8 := m8 _ _ ((((((((s1_7.ne rfl).ne rfl).ne rfl).ne rfl).ne rfl).ne rfl).ne rfl).ne rfl)
  have s2_8 := m8 _ _ ((((((((s2_7.ne rfl).ne rfl).ne rfl).ne rfl).ne rfl).ne rfl).ne rfl).ne rfl)
  have s3_8 := m8 _ _ ((((((((s3_7.ne rfl).ne rfl).ne rfl).ne rfl).ne rfl).ne rfl).ne rfl).ne rfl)
  have s30_8 := m8 _ _ (At.hit z7.put.put.put.put.put.put.put rfl)
  clear m8
  refine l_skip (wanted_is (j := 23) (d := 30) (b := true) rfl rfl s30_8 rfl) ?_
  refine l_skip (wanted_is (j := 23) (d := 30) (b := true) rfl rfl (s30_8.ne rfl) rfl) ?_
  refine l_skip (wanted_is (j := 23) (d := 30) (b := true) rfl rfl ((s30_8.ne rfl).ne rfl) rfl) ?_
  refine l_q rfl (q_pick (b := true) (.bool true) rfl (((s30_8.ne rfl).ne rfl).ne rfl).ev rfl ?_)
  refine l_end ?_
  refine e_fresh z8.put.put.put.put ?_
  intro a9 z9 m9
  have s1_9 := m9 _ _ ((((s1_8.ne rfl).ne rfl).ne rfl).ne rfl)
  have s2_9 := m9 _ _ ((((s2_8.ne rfl).ne rfl).ne rfl).ne rfl)
  have s3_9 := m9 _ _ ((((s3_8.ne rfl).ne rfl).ne rfl).ne rfl)
  have s34_9 := m9 _ _ (At.hit z8.put.put.put rfl)
  clear m9
  refine e_then ?_
  refine c_true s34_9 ?_
  refine c_seq ?_
  refine c_region ?_
  refine l_q rfl (q_row rfl Try.underlying32 rfl (sz32.trans (congrArg some ((nums_size _ _).trans (List.length_replicate)).symm)) s3_9.ev (fun _ e => by rw [e]; exact k4) ?_)
  refine l_row rfl rfl rfl (sz32.trans (congrArg some ((nums_size _ _).trans (List.length_replicate)).symm)) (s2_9.ne rfl).ev (At.hit z9 rfl).ev (nums_one _ _) kg2_4 (((nums_size _ _).trans (List.length_replicate)).trans ((nums_size _ _).trans (List.length_replicate)).symm) ?_
  intro w10 k10 u10
  have kg1_10 := u10.blk kg1_4 (by omega)
  have kg3_10 := u10.blk k4 (by omega)
  refine l_end ?_
  refine e_fresh z9.put ?_
  intro a11 z11 m11
  have s2_11 := m11 _ _ (s2_9.ne rfl)
  have low11 := (low5.upd u10 geg2)
  clear m11
  refine e_then ?_
  refine wp_ret ?_
  refine ret_then ?_
  refine r_cell rfl z11.defers s2_11 k10 Try.underlying32 rfl (sz32.trans (congrArg some ((nums_size _ _).trans (List.length_replicate)).symm)) ?_
  exact ⟨rfl, low11⟩
theorem DL_bad4.calls (ty K B : Int) (h0 : ¬ ty < 1) (h1 : ¬ ty > 2) (h2 : ¬ K < 0) (h3 : ¬ K > 64) (hy : B < 0) (w0 : World) : Calls Try.prog 9 #[.agg #[.int .i64 ty, .int .i64 K, .int .i64 B]] w0 fun e w' => e = .returned (.agg (nums .u32 (List.replicate 80 0))) ∧ Low w0 w' := by
  refine c_fun (R := _) Try.func9 rfl 77 rfl (Nat.le_of_ble_eq_true rfl) ?_
  intro a z hA
  have s0 := hA 0 _ rfl
  clear hA
  refine c_seq ?_
  refine c_region ?_
  refine l_box rfl rfl s0.ev ?_
  intro g1 w1 hg1 k1 h1
  have geg1 := Nat.le_trans (Low.refl _).ge hg1
  refine l_alloc rfl rfl zero32 ?_
  intro g2 w2 hg2 k2 h2
  have lt_g1_g2 := Nat.lt_of_lt_of_le (heap_lt k1) hg2
  have geg2 := Nat.le_trans h1.ge hg2
  have kg1_2 := h2.blk k1
  refine l_end ?_
  refine e_fresh z.put.put ?_
  intro a3 z3 m3
  have s1_3 := m3 _ _ ((At.hit z rfl).ne rfl)
  have s2_3 := m3 _ _ (At.hit z.put rfl)
  have low3 := (h1.trans h2)
  clear m3
  refine e_then ?_
  refine c_seq ?_
  refine c_region ?_
  refine l_alloc rfl rfl zero32 ?_
  intro g3 w4 hg4 k4 h4
  have lt_g1_g3 := Nat.lt_of_lt_of_le (heap_lt kg1_2) hg4
  have lt_g2_g3 := Nat.lt_of_lt_of_le (heap_lt k2) hg4
  have geg3 := Nat.le_trans low3.ge hg4
  have kg1_4 := h4.blk kg1_2
  have kg2_4 := h4.blk k2
  refine l_end ?_
  refine e_fresh z3.put ?_
  intro a5 z5 m5
  have s1_5 := m5 _ _ (s1_3.ne rfl)
  have s2_5 := m5 _ _ (s2_3.ne rfl)
  have s3_5 := m5 _ _ (At.hit z3 rfl)
  have low5 := (low3.trans h4)
  clear m5
  refine e_then ?_
  refine c_seq ?_
  refine c_seq ?_
  refine c_region ?_
  refine l_q rfl (q_fld 0 rfl (by kernel_rfl) s1_5.ev ?_)
  refine l_q rfl (q_cell (.int .i64 ty) rfl Try.underlying3 (At.hit z5 rfl).ev (fun _ e => by rw [e]; exact (cells_at kg1_4 0).trans rfl) ?_)
  refine l_q rfl (q_lss false rfl (At.hit z5.put rfl).ev rfl (decide_eq_false (by omega)) ?_)
  refine l_q rfl (q_move _ _ rfl (At.hit z5.put.put rfl).ev ?_)
  refine l_qg (wanted_is (j := 3) (d := 10) (b := false) rfl rfl (At.hit z5.put.put.put rfl) rfl) (q_fld 0 rfl (by kernel_rfl) ((((s1_5.ne rfl).ne rfl).ne rfl).ne rfl).ev ?_)
  refine l_qg (wanted_is (j := 3) (d := 10) (b := false) rfl rfl ((At.hit z5.put.put.put rfl).ne rfl) rfl) (q_cell (.int .i64 ty) rfl Try.underlying3 (At.hit z5.put.put.put.put rfl).ev (fun _ e => by rw [e]; exact (cells_at kg1_4 0).trans rfl) ?_)
  refine l_qg (wanted_is (j := 3) (d := 10) (b := false) rfl rfl (((At.hit z5.put.put.put rfl).ne rfl).ne rfl) rfl) (q_gtr false rfl (At.hit z5.put.put.put.put.put rfl).ev rfl (decide_eq_false (by omega)) ?_)
  refine l_q rfl (q_pick (b := false) (.bool false) rfl ((((At.hit z5.put.put.put rfl).ne rfl).ne rfl).ne rfl).ev (At.hit z5.put.put.put.put.put.put rfl).ev ?_)
  refine l_fresh z5.put.put.put.put.put.put.put.put ?_
  intro a6 z6 m6
  have s1_6 := m6 _ _ ((((((((s1_5.ne rfl).ne rfl).ne rfl).ne rfl).ne rfl).ne rfl).ne rfl).ne rfl)
  have s2_6 := m6 _ _ ((((((((s2_5.ne rfl).ne rfl).ne rfl).ne rfl).ne rfl).ne rfl).ne rfl).ne rfl)
  have s3_6 := m6 _ _ ((((((((s3_5.ne rfl).ne rfl).ne rfl).ne rfl).ne rfl).ne rfl).ne rfl).ne rfl)
  have s14_6 := m6 _ _ (At.hit z5.put.put.put.put.put.put.put rfl)
  clear m6
  refine l_q rfl (q_move _ _ rfl s14_6.ev ?_)
  refine l_qg (wanted_is (j := 8) (d := 15) (b := false) rfl rfl (At.hit z6 rfl) rfl) (q_fld 1 rfl (by kernel_rfl) (s1_6.ne rfl).ev ?_)
  refine l_qg (wanted_is (j := 8) (d := 15) (b := false) rfl rfl ((At.hit z6 rfl).ne rfl) rfl) (q_cell (.int .i64 K) rfl Try.underlying3 (At.hit z6.put rfl).ev (fun _ e => by rw [e]; exact (cells_at kg1_4 1).trans rfl) ?_)
  refine l_qg (wanted_is (j := 8) (d := 15) (b := false) rfl rfl (((At.hit z6 rfl).ne rfl).ne rfl) rfl) (q_lss false rfl (At.hit z6.put.put rfl).ev rfl (decide_eq_false (by omega)) ?_)
  refine l_q rfl (q_pick (b := false) (.bool false) rfl ((((At.hit z6 rfl).ne rfl).ne rfl).ne rfl).ev (At.hit z6.put.put.put rfl).ev ?_)
  refine l_q rfl (q_move _ _ rfl (At.hit z6.put.put.put.put rfl).ev ?_)
  refine l_qg (wanted_is (j := 13) (d := 20) (b := false) rfl rfl (At.hit z6.put.put.put.put.put rfl) rfl) (q_fld 1 rfl (by kernel_rfl) ((((((s1_6.ne rfl).ne rfl).ne rfl).ne rfl).ne rfl).ne rfl).ev ?_)
  refine l_qg (wanted_is (j := 13) (d := 20) (b := false) rfl rfl ((At.hit z6.put.put.put.put.put rfl).ne rfl) rfl) (q_cell (.int .i64 K) rfl Try.underlying3 (At.hit z6.put.put.put.put.put.put rfl).ev (fun _ e => by rw [e]; exact (cells_at kg1_4 1).trans rfl) ?_)
  refine l_fresh z6.put.put.put.put.put.put.put.put ?_
  intro a7 z7 m7
  have s1_7 := m7 _ _ ((((((((s1_6.ne rfl).ne rfl).ne rfl).ne rfl).ne rfl).ne rfl).ne rfl).ne rfl)
  have s2_7 := m7 _ _ ((((((((s2_6.ne rfl).ne rfl).ne rfl).ne rfl).ne rfl).ne rfl).ne rfl).ne rfl)
  have s3_7 := m7 _ _ ((((((((s3_6.ne rfl).ne rfl).ne rfl).ne rfl).ne rfl).ne rfl).ne rfl).ne rfl)
  have s20_7 := m7 _ _ (((At.hit z6.put.put.put.put.put rfl).ne rfl).ne rfl)
  have s22_7 := m7 _ _ (At.hit z6.put.put.put.put.put.put.put rfl)
  clear m7
  refine l_qg (wanted_is (j := 13) (d := 20) (b := false) rfl rfl s20_7 rfl) (q_gtr false rfl s22_7.ev rfl (decide_eq_false (by omega)) ?_)
  refine l_q rfl (q_pick (b := false) (.bool false) rfl (s20_7.ne rfl).ev (At.hit z7 rfl).ev ?_)
  refine l_q rfl (q_move _ _ rfl (At.hit z7.put rfl).ev ?_)
  refine l_qg (wanted_is (j := 18) (d := 25) (b := false) rfl rfl (At.hit z7.put.put rfl) rfl) (q_fld 2 rfl (by kernel_rfl) (((s1_7.ne rfl).ne rfl).ne rfl).ev ?_)
  refine l_qg (wanted_is (j := 18) (d := 25) (b := false) rfl rfl ((At.hit z7.put.put rfl).ne rfl) rfl) (q_cell (.int .i64 B) rfl Try.underlying3 (At.hit z7.put.put.put rfl).ev (fun _ e => by rw [e]; exact (cells_at kg1_4 2).trans rfl) ?_)
  refine l_qg (wanted_is (j := 18) (d := 25) (b := false) rfl rfl (((At.hit z7.put.put rfl).ne rfl).ne rfl) rfl) (q_lss true rfl (At.hit z7.put.put.put.put rfl).ev rfl (decide_eq_true (by omega)) ?_)
  refine l_q rfl (q_pick (b := false) (.bool true) rfl ((((At.hit z7.put.put rfl).ne rfl).ne rfl).ne rfl).ev (At.hit z7.put.put.put.put.put rfl).ev ?_)
  refine l_q rfl (q_move _ _ rfl (At.hit z7.put.put.put.put.put.put rfl).ev ?_)
  refine l_fresh z7.put.put.put.put.put.put.put.put ?_
  intro a8 z8 m8
  have s1_8 := m8 _ _ ((((((((s1_7.ne rfl).ne rfl).ne rfl).ne rfl).ne rfl).ne rfl).ne rfl).ne rfl)
  have s2_8 := m8 _ _ ((((((((s2_7.ne rfl).ne rfl).ne rfl).ne rfl).ne rfl).ne rfl).ne rfl).ne rfl)
  have s3_8 := m8 _ _ ((((((((s3_7.ne rfl).ne rfl).ne rfl).ne rfl).ne rfl).ne rfl).ne rfl).ne rfl)
  have s30_8 := m8 _ _ (At.hit z7.put.put.put.put.put.put.put rfl)
  clear m8
  refine l_skip (wanted_is (j := 23) (d := 30) (b := true) rfl rfl s30_8 rfl) ?_
  refine l_skip (wanted_is (j := 23) (d := 30) (b := true) rfl rfl (s30_8.ne rfl) rfl) ?_
  refine l_skip (wanted_is (j := 23) (d := 30) (b := true) rfl rfl ((s30_8.ne rfl).ne rfl) rfl) ?_
  refine l_q rfl (q_pick (b := true) (.bool true) rfl (((s30_8.ne rfl).ne rfl).ne rfl).ev rfl ?_)
  refine l_end ?_
  refine e_fresh z8.put.put.put.put ?_
  intro a9 z9 m9
  have s1_9 := m9 _ _ ((((s1_8.ne rfl).ne rfl).ne rfl).ne rfl)
  have s2_9 := m9 _ _ ((((s2_8.ne rfl).ne rfl).ne rfl).ne rfl)
  have s3_9 := m9 _ _ ((((s3_8.ne rfl).ne rfl).ne rfl).ne rfl)
  have s34_9 := m9 _ _ (At.hit z8.put.put.put rfl)
  clear m9
  refine e_then ?_
  refine c_true s34_9 ?_
  refine c_seq ?_
  refine c_region ?_
  refine l_q rfl (q_row rfl Try.underlying32 rfl (sz32.trans (congrArg some ((nums_size _ _).trans (List.length_replicate)).symm)) s3_9.ev (fun _ e => by rw [e]; exact k4) ?_)
  refine l_row rfl rfl rfl (sz32.trans (congrArg some ((nums_size _ _).trans (List.length_replicate)).symm)) (s2_9.ne rfl).ev (At.hit z9 rfl).ev (nums_one _ _) kg2_4 (((nums_size _ _).trans (List.length_replicate)).trans ((nums_size _ _).trans (List.length_replicate)).symm) ?_
  intro w10 k10 u10
  have kg1_10 := u10.blk kg1_4 (by omega)
  have kg3_10 := u10.blk k4 (by omega)
  refine l_end ?_
  refine e_fresh z9.put ?_
  intro a11 z11 m11
  have s2_11 := m11 _ _ (s2_9.ne rfl)
  have low11 := (low5.upd u10 geg2)
  clear m11
  refine e_then ?_
  refine wp_ret ?_
  refine ret_then ?_
  refine r_cell rfl z11.defers s2_11 k10 Try.underlying32 rfl (sz32.trans (congrArg some ((nums_size _ _).trans (List.length_replicate)).symm)) ?_
  exact ⟨rfl, low11⟩
theorem DL_bad5.calls (ty K B : Int) (h0 : ¬ ty < 1) (h1 : ¬ ty > 2) (h2 : ¬ K < 0) (h3 : ¬ K > 64) (h4 : ¬ B < 0) (hy : B > 31) (w0 : World) : Calls Try.prog 9 #[.agg #[.int .i64 ty, .int .i64 K, .int .i64 B]] w0 fun e w' => e = .returned (.agg (nums .u32 (List.replicate 80 0))) ∧ Low w0 w' := by
  refine c_fun (R := _) Try.func9 rfl 77 rfl (Nat.le_of_ble_eq_true rfl) ?_
  intro a z hA
  have s0 := hA 0 _ rfl
  clear hA
  refine c_seq ?_
  refine c_region ?_
  refine l_box rfl rfl s0.ev ?_
  intro g1 w1 hg1 k1 h1
  have geg1 := Nat.le_trans (Low.refl _).ge hg1
  refine l_alloc rfl rfl zero32 ?_
  intro g2 w2 hg2 k2 h2
  have lt_g1_g2 := Nat.lt_of_lt_of_le (heap_lt k1) hg2
  have geg2 := Nat.le_trans h1.ge hg2
  have kg1_2 := h2.blk k1
  refine l_end ?_
  refine e_fresh z.put.put ?_
  intro a3 z3 m3
  have s1_3 := m3 _ _ ((At.hit z rfl).ne rfl)
  have s2_3 := m3 _ _ (At.hit z.put rfl)
  have low3 := (h1.trans h2)
  clear m3
  refine e_then ?_
  refine c_seq ?_
  refine c_region ?_
  refine l_alloc rfl rfl zero32 ?_
  intro g3 w4 hg4 k4 h4
  have lt_g1_g3 := Nat.lt_of_lt_of_le (heap_lt kg1_2) hg4
  have lt_g2_g3 := Nat.lt_of_lt_of_le (heap_lt k2) hg4
  have geg3 := Nat.le_trans low3.ge hg4
  have kg1_4 := h4.blk kg1_2
  have kg2_4 := h4.blk k2
  refine l_end ?_
  refine e_fresh z3.put ?_
  intro a5 z5 m5
  have s1_5 := m5 _ _ (s1_3.ne rfl)
  have s2_5 := m5 _ _ (s2_3.ne rfl)
  have s3_5 := m5 _ _ (At.hit z3 rfl)
  have low5 := (low3.trans h4)
  clear m5
  refine e_then ?_
  refine c_seq ?_
  refine c_seq ?_
  refine c_region ?_
  refine l_q rfl (q_fld 0 rfl (by kernel_rfl) s1_5.ev ?_)
  refine l_q rfl (q_cell (.int .i64 ty) rfl Try.underlying3 (At.hit z5 rfl).ev (fun _ e => by rw [e]; exact (cells_at kg1_4 0).trans rfl) ?_)
  refine l_q rfl (q_lss false rfl (At.hit z5.put rfl).ev rfl (decide_eq_false (by omega)) ?_)
  refine l_q rfl (q_move _ _ rfl (At.hit z5.put.put rfl).ev ?_)
  refine l_qg (wanted_is (j := 3) (d := 10) (b := false) rfl rfl (At.hit z5.put.put.put rfl) rfl) (q_fld 0 rfl (by kernel_rfl) ((((s1_5.ne rfl).ne rfl).ne rfl).ne rfl).ev ?_)
  refine l_qg (wanted_is (j := 3) (d := 10) (b := false) rfl rfl ((At.hit z5.put.put.put rfl).ne rfl) rfl) (q_cell (.int .i64 ty) rfl Try.underlying3 (At.hit z5.put.put.put.put rfl).ev (fun _ e => by rw [e]; exact (cells_at kg1_4 0).trans rfl) ?_)
  refine l_qg (wanted_is (j := 3) (d := 10) (b := false) rfl rfl (((At.hit z5.put.put.put rfl).ne rfl).ne rfl) rfl) (q_gtr false rfl (At.hit z5.put.put.put.put.put rfl).ev rfl (decide_eq_false (by omega)) ?_)
  refine l_q rfl (q_pick (b := false) (.bool false) rfl ((((At.hit z5.put.put.put rfl).ne rfl).ne rfl).ne rfl).ev (At.hit z5.put.put.put.put.put.put rfl).ev ?_)
  refine l_fresh z5.put.put.put.put.put.put.put.put ?_
  intro a6 z6 m6
  have s1_6 := m6 _ _ ((((((((s1_5.ne rfl).ne rfl).ne rfl).ne rfl).ne rfl).ne rfl).ne rfl).ne rfl)
  have s2_6 := m6 _ _ ((((((((s2_5.ne rfl).ne rfl).ne rfl).ne rfl).ne rfl).ne rfl).ne rfl).ne rfl)
  have s3_6 := m6 _ _ ((((((((s3_5.ne rfl).ne rfl).ne rfl).ne rfl).ne rfl).ne rfl).ne rfl).ne rfl)
  have s14_6 := m6 _ _ (At.hit z5.put.put.put.put.put.put.put rfl)
  clear m6
  refine l_q rfl (q_move _ _ rfl s14_6.ev ?_)
  refine l_qg (wanted_is (j := 8) (d := 15) (b := false) rfl rfl (At.hit z6 rfl) rfl) (q_fld 1 rfl (by kernel_rfl) (s1_6.ne rfl).ev ?_)
  refine l_qg (wanted_is (j := 8) (d := 15) (b := false) rfl rfl ((At.hit z6 rfl).ne rfl) rfl) (q_cell (.int .i64 K) rfl Try.underlying3 (At.hit z6.put rfl).ev (fun _ e => by rw [e]; exact (cells_at kg1_4 1).trans rfl) ?_)
  refine l_qg (wanted_is (j := 8) (d := 15) (b := false) rfl rfl (((At.hit z6 rfl).ne rfl).ne rfl) rfl) (q_lss false rfl (At.hit z6.put.put rfl).ev rfl (decide_eq_false (by omega)) ?_)
  refine l_q rfl (q_pick (b := false) (.bool false) rfl ((((At.hit z6 rfl).ne rfl).ne rfl).ne rfl).ev (At.hit z6.put.put.put rfl).ev ?_)
  refine l_q rfl (q_move _ _ rfl (At.hit z6.put.put.put.put rfl).ev ?_)
  refine l_qg (wanted_is (j := 13) (d := 20) (b := false) rfl rfl (At.hit z6.put.put.put.put.put rfl) rfl) (q_fld 1 rfl (by kernel_rfl) ((((((s1_6.ne rfl).ne rfl).ne rfl).ne rfl).ne rfl).ne rfl).ev ?_)
  refine l_qg (wanted_is (j := 13) (d := 20) (b := false) rfl rfl ((At.hit z6.put.put.put.put.put rfl).ne rfl) rfl) (q_cell (.int .i64 K) rfl Try.underlying3 (At.hit z6.put.put.put.put.put.put rfl).ev (fun _ e => by rw [e]; exact (cells_at kg1_4 1).trans rfl) ?_)
  refine l_fresh z6.put.put.put.put.put.put.put.put ?_
  intro a7 z7 m7
  have s1_7 := m7 _ _ ((((((((s1_6.ne rfl).ne rfl).ne rfl).ne rfl).ne rfl).ne rfl).ne rfl).ne rfl)
  have s2_7 := m7 _ _ ((((((((s2_6.ne rfl).ne rfl).ne rfl).ne rfl).ne rfl).ne rfl).ne rfl).ne rfl)
  have s3_7 := m7 _ _ ((((((((s3_6.ne rfl).ne rfl).ne rfl).ne rfl).ne rfl).ne rfl).ne rfl).ne rfl)
  have s20_7 := m7 _ _ (((At.hit z6.put.put.put.put.put rfl).ne rfl).ne rfl)
  have s22_7 := m7 _ _ (At.hit z6.put.put.put.put.put.put.put rfl)
  clear m7
  refine l_qg (wanted_is (j := 13) (d := 20) (b := false) rfl rfl s20_7 rfl) (q_gtr false rfl s22_7.ev rfl (decide_eq_false (by omega)) ?_)
  refine l_q rfl (q_pick (b := false) (.bool false) rfl (s20_7.ne rfl).ev (At.hit z7 rfl).ev ?_)
  refine l_q rfl (q_move _ _ rfl (At.hit z7.put rfl).ev ?_)
  refine l_qg (wanted_is (j := 18) (d := 25) (b := false) rfl rfl (At.hit z7.put.put rfl) rfl) (q_fld 2 rfl (by kernel_rfl) (((s1_7.ne rfl).ne rfl).ne rfl).ev ?_)
  refine l_qg (wanted_is (j := 18) (d := 25) (b := false) rfl rfl ((At.hit z7.put.put rfl).ne rfl) rfl) (q_cell (.int .i64 B) rfl Try.underlying3 (At.hit z7.put.put.put rfl).ev (fun _ e => by rw [e]; exact (cells_at kg1_4 2).trans rfl) ?_)
  refine l_qg (wanted_is (j := 18) (d := 25) (b := false) rfl rfl (((At.hit z7.put.put rfl).ne rfl).ne rfl) rfl) (q_lss false rfl (At.hit z7.put.put.put.put rfl).ev rfl (decide_eq_false (by omega)) ?_)
  refine l_q rfl (q_pick (b := false) (.bool false) rfl ((((At.hit z7.put.put rfl).ne rfl).ne rfl).ne rfl).ev (At.hit z7.put.put.put.put.put rfl).ev ?_)
  refine l_q rfl (q_move _ _ rfl (At.hit z7.put.put.put.put.put.put rfl).ev ?_)
  refine l_fresh z7.put.put.put.put.put.put.put.put ?_
  intro a8 z8 m8
  have s1_8 := m8 _ _ ((((((((s1_7.ne rfl).ne rfl).ne rfl).ne rfl).ne rfl).ne rfl).ne rfl).ne rfl)
  have s2_8 := m8 _ _ ((((((((s2_7.ne rfl).ne rfl).ne rfl).ne rfl).ne rfl).ne rfl).ne rfl).ne rfl)
  have s3_8 := m8 _ _ ((((((((s3_7.ne rfl).ne rfl).ne rfl).ne rfl).ne rfl).ne rfl).ne rfl).ne rfl)
  have s30_8 := m8 _ _ (At.hit z7.put.put.put.put.put.put.put rfl)
  clear m8
  refine l_qg (wanted_is (j := 23) (d := 30) (b := false) rfl rfl s30_8 rfl) (q_fld 2 rfl (by kernel_rfl) s1_8.ev ?_)
  refine l_qg (wanted_is (j := 23) (d := 30) (b := false) rfl rfl (s30_8.ne rfl) rfl) (q_cell (.int .i64 B) rfl Try.underlying3 (At.hit z8 rfl).ev (fun _ e => by rw [e]; exact (cells_at kg1_4 2).trans rfl) ?_)
  refine l_qg (wanted_is (j := 23) (d := 30) (b := false) rfl rfl ((s30_8.ne rfl).ne rfl) rfl) (q_gtr true rfl (At.hit z8.put rfl).ev rfl (decide_eq_true (by omega)) ?_)
  refine l_q rfl (q_pick (b := false) (.bool true) rfl (((s30_8.ne rfl).ne rfl).ne rfl).ev (At.hit z8.put.put rfl).ev ?_)
  refine l_end ?_
  refine e_fresh z8.put.put.put.put ?_
  intro a9 z9 m9
  have s1_9 := m9 _ _ ((((s1_8.ne rfl).ne rfl).ne rfl).ne rfl)
  have s2_9 := m9 _ _ ((((s2_8.ne rfl).ne rfl).ne rfl).ne rfl)
  have s3_9 := m9 _ _ ((((s3_8.ne rfl).ne rfl).ne rfl).ne rfl)
  have s34_9 := m9 _ _ (At.hit z8.put.put.put rfl)
  clear m9
  refine e_then ?_
  refine c_true s34_9 ?_
  refine c_seq ?_
  refine c_region ?_
  refine l_q rfl (q_row rfl Try.underlying32 rfl (sz32.trans (congrArg some ((nums_size _ _).trans (List.length_replicate)).symm)) s3_9.ev (fun _ e => by rw [e]; exact k4) ?_)
  refine l_row rfl rfl rfl (sz32.trans (congrArg some ((nums_size _ _).trans (List.length_replicate)).symm)) (s2_9.ne rfl).ev (At.hit z9 rfl).ev (nums_one _ _) kg2_4 (((nums_size _ _).trans (List.length_replicate)).trans ((nums_size _ _).trans (List.length_replicate)).symm) ?_
  intro w10 k10 u10
  have kg1_10 := u10.blk kg1_4 (by omega)
  have kg3_10 := u10.blk k4 (by omega)
  refine l_end ?_
  refine e_fresh z9.put ?_
  intro a11 z11 m11
  have s2_11 := m11 _ _ (s2_9.ne rfl)
  have low11 := (low5.upd u10 geg2)
  clear m11
  refine e_then ?_
  refine wp_ret ?_
  refine ret_then ?_
  refine r_cell rfl z11.defers s2_11 k10 Try.underlying32 rfl (sz32.trans (congrArg some ((nums_size _ _).trans (List.length_replicate)).symm)) ?_
  exact ⟨rfl, low11⟩
end Go.Proofs.Ytffhmlnklohbdaa.Q
end
