/- Merged out of this session's texts by a program (wip/gen/merge.py): declarations that this claim doesn't name are left out. -/
import Derived.Test.YtfjhnnpdaggnbaaDoorMIdentRow1
import Derived.Shelf.Strings.Repeat
import Derived.Shelf.Strconv.Itoa3
import Derived.Shelf.LaysM
set_option linter.unusedVariables false
set_option linter.unusedSimpArgs false
/-! A2 -/
section
namespace Go.Proofs.YtfjhnnpdaggnbaaDoor.Q
open Go.RowKit Go.Proofs.YtfjhnnpdaggnbaaDoor.P
set_option linter.unusedVariables false
set_option linter.unusedSimpArgs false
set_option maxRecDepth 100000
set_option maxHeartbeats 4000000
attribute [local irreducible] wpList wpQuiet qch Code.wp Oper.quiet Act.put At Region.wanted yielded
theorem sz62 : (Tryd.prog.info? 62).map (·.size) = some 3 := by kernel_rfl
def up (l : List Int) (K : Nat) (rt : Int → Int) : Nat → List Int
  | 0 => l
  | k + 1 => (up l K rt k).set (k + K + 21) (rt (Go.bits .xor .u32 (Go.bits .xor .u32 (Go.bits .xor .u32 ((up l K rt k).getD (k + K + 18) 0) ((up l K rt k).getD (k + K + 13) 0)) ((up l K rt k).getD (k + K + 7) 0)) ((up l K rt k).getD (k + K + 5) 0)))
theorem up_len (l : List Int) (K : Nat) (rt : Int → Int) (h : l.length = 85) : ∀ k, (up l K rt k).length = 85
  | 0 => h
  | k + 1 => by rw [up, List.length_set, up_len l K rt h k]
def dnL (l : List Int) (K : Nat) : Nat → List Int
  | 0 => l
  | k + 1 => (dnL l K k).set ((K + 4) - k) (Go.bits .xor .u32 (Go.bits .xor .u32 (Go.bits .xor .u32 (rotl ((dnL l K k).getD ((K + 20) - k) 0) 31) ((dnL l K k).getD ((K + 17) - k) 0)) ((dnL l K k).getD ((K + 12) - k) 0)) ((dnL l K k).getD ((K + 6) - k) 0))
theorem dnL_len (l : List Int) (K : Nat) (h : l.length = 85) : ∀ k, (dnL l K k).length = 85
  | 0 => h
  | k + 1 => by rw [dnL, List.length_set, dnL_len l K h k]
def beginL (two : Bool) (K B : Nat) : List Int :=
  let l := (List.replicate 85 0).set (K + 20) (IntKind.u32.wrap (1 * 2 ^ min ((B : Nat) : Int).toNat 32))
  if two then (l.set (K + 6) (rotl 1 ((B + 31 : Nat) : Int))).set (K + 8) ((l.set (K + 6) (rotl 1 ((B + 31 : Nat) : Int))).getD (K + 6) 0) else l
theorem beginL_len (two : Bool) (K B : Nat) : (beginL two K B).length = 85 := by
  unfold beginL
  cases two <;> simp
def rowL (two : Bool) (K B : Nat) : List Int := dnL (up (beginL two K B) K (fun x => rotl x 1) (64 - K)) K (K + 5)
theorem rowL_len (two : Bool) (K B : Nat) : (rowL two K B).length = 85 := dnL_len _ K (up_len _ K _ (beginL_len two K B) _) _
def diffL (d : List Int) : Nat → List Int
  | 0 => List.replicate 80 0
  | t + 1 => (diffL d t).set t (Go.bits .xor .u32 (Go.bits .xor .u32 (Go.bits .xor .u32 (d.getD (t + 5) 0) (rotl (d.getD (t + 4) 0) 5)) (d.getD (t + 3) 0)) (rotl (Go.bits .xor .u32 (Go.bits .xor .u32 (d.getD (t + 2) 0) (d.getD (t + 1) 0)) (d.getD t 0)) 30))
theorem diffL_len (d : List Int) : ∀ t, (diffL d t).length = 80
  | 0 => List.length_replicate
  | t + 1 => by rw [diffL, List.length_set, diffL_len d t]
theorem Row1.calls (K B : Nat) (hK : K ≤ 64) (hB : B ≤ 31) (w0 : World) : Calls Tryd.prog 43 #[.agg #[.int .i64 1, .int .i64 (K : Int), .int .i64 (B : Int)]] w0 fun e w' => e = .returned (.agg (nums .u32 (rowL false K B))) ∧ Low w0 w' := by
  refine c_fun (R := _) Tryd.func43 rfl 90 rfl (Nat.le_of_ble_eq_true rfl) ?_
  intro a z hA
  have s0 := hA 0 _ rfl
  clear hA
  refine c_seq ?_
  refine c_region ?_
  refine l_box rfl rfl s0.ev ?_
  intro g1 w1 hg1 k1 h1
  have geg1 := Nat.le_trans (Low.refl _).ge hg1
  refine l_alloc rfl rfl zero80 ?_
  intro g2 w2 hg2 k2 h2
  have lt_g1_g2 := Nat.lt_of_lt_of_le (heap_lt k1) hg2
  have geg2 := Nat.le_trans h1.ge hg2
  have kg1_2 := h2.blk k1
  refine l_end ?_
  refine e_fresh z.put.put ?_
  intro a3 z3 m3
  have s1_3 := m3 _ _ ((At.hit z rfl).ne rfl)
  have s2_3 := m3 _ _ (At.hit z.put rfl)
  have low3 := (h1.trans h2)
  clear m3
  refine e_then ?_
  refine c_seq ?_
  refine c_region ?_
  refine l_alloc rfl rfl zero80 ?_
  intro g3 w4 hg4 k4 h4
  have lt_g1_g3 := Nat.lt_of_lt_of_le (heap_lt kg1_2) hg4
  have lt_g2_g3 := Nat.lt_of_lt_of_le (heap_lt k2) hg4
  have geg3 := Nat.le_trans low3.ge hg4
  have kg1_4 := h4.blk kg1_2
  have kg2_4 := h4.blk k2
  refine l_end ?_
  refine e_fresh z3.put ?_
  intro a5 z5 m5
  have s1_5 := m5 _ _ (s1_3.ne rfl)
  have s2_5 := m5 _ _ (s2_3.ne rfl)
  have s3_5 := m5 _ _ (At.hit z3 rfl)
  have low5 := (low3.trans h4)
  clear m5
  refine e_then ?_
  refine c_seq ?_
  refine c_region ?_
  refine l_q rfl (q_fld 1 rfl (by kernel_rfl) s1_5.ev ?_)
  refine l_q rfl (q_cell (.int .i64 ((K : Nat) : Int)) rfl Tryd.underlying3 (At.hit z5 rfl).ev (fun _ e => by rw [e]; exact (cells_at kg1_4 1).trans rfl) ?_)
  refine l_q rfl (q_add (((K + 5 : Nat) : Int)) rfl (At.hit z5.put rfl).ev rfl (i64_is (by omega) (by omega) (by omega)) ?_)
  refine l_q rfl (q_assign _ _ rfl (At.hit z5.put.put rfl).ev ?_)
  refine l_end ?_
  refine e_fresh z5.put.put.put.put ?_
  intro a6 z6 m6
  have s1_6 := m6 _ _ ((((s1_5.ne rfl).ne rfl).ne rfl).ne rfl)
  have s2_6 := m6 _ _ ((((s2_5.ne rfl).ne rfl).ne rfl).ne rfl)
  have s3_6 := m6 _ _ ((((s3_5.ne rfl).ne rfl).ne rfl).ne rfl)
  have s4_6 := m6 _ _ (At.hit z5.put.put.put rfl)
  clear m6
  refine e_then ?_
  refine c_seq ?_
  refine c_region ?_
  refine l_q rfl (q_move _ _ rfl s4_6.ev ?_)
  refine l_q rfl (q_add (((K + 20 : Nat) : Int)) rfl (At.hit z6 rfl).ev rfl (i64_is (by omega) (by omega) (by omega)) ?_)
  refine l_q rfl (q_fld 2 rfl (by kernel_rfl) ((s1_6.ne rfl).ne rfl).ev ?_)
  refine l_q rfl (q_cell (.int .i64 ((B : Nat) : Int)) rfl Tryd.underlying3 (At.hit z6.put.put rfl).ev (fun _ e => by rw [e]; exact (cells_at kg1_4 2).trans rfl) ?_)
  refine l_q rfl (q_shl (IntKind.u32.wrap (1 * 2 ^ min (((B : Nat) : Int) : Int).toNat 32)) rfl rfl (At.hit z6.put.put.put rfl).ev (by first | omega | exact u64_nonneg _) rfl ?_)
  refine l_q rfl (q_idx (j := K + 20) rfl Tryd.underlying80 sz63 (((((s3_6.ne rfl).ne rfl).ne rfl).ne rfl).ne rfl).ev ((((At.hit z6.put rfl).ne rfl).ne rfl).ne rfl).ev (by omega) ?_)
  refine l_cell (j := (K + 20)) (v := .int .u32 (IntKind.u32.wrap (1 * 2 ^ min (((B : Nat) : Int) : Int).toNat 32))) rfl rfl rfl sz63 (At.hit z6.put.put.put.put.put rfl).ev ((At.hit z6.put.put.put.put rfl).ne rfl).ev rfl k4 (by rw [(nums_size _ _).trans (List.length_replicate)]; omega) ?_
  intro w7 k7 u7
  rw [nums_put] at k7
  have kg1_7 := u7.blk kg1_4 (by omega)
  have kg2_7 := u7.blk kg2_4 (by omega)
  refine l_end ?_
  refine e_fresh z6.put.put.put.put.put.put ?_
  intro a8 z8 m8
  have s1_8 := m8 _ _ ((((((s1_6.ne rfl).ne rfl).ne rfl).ne rfl).ne rfl).ne rfl)
  have s2_8 := m8 _ _ ((((((s2_6.ne rfl).ne rfl).ne rfl).ne rfl).ne rfl).ne rfl)
  have s3_8 := m8 _ _ ((((((s3_6.ne rfl).ne rfl).ne rfl).ne rfl).ne rfl).ne rfl)
  have s4_8 := m8 _ _ ((((((s4_6.ne rfl).ne rfl).ne rfl).ne rfl).ne rfl).ne rfl)
  have low8 := (low5.upd u7 geg3)
  clear m8
  refine e_then ?_
  refine c_seq ?_
  refine c_seq ?_
  refine c_region ?_
  refine l_q rfl (q_fld 0 rfl (by kernel_rfl) s1_8.ev ?_)
  refine l_q rfl (q_cell (.int .i64 1) rfl Tryd.underlying3 (At.hit z8 rfl).ev (fun _ e => by rw [e]; exact (cells_at kg1_7 0).trans rfl) ?_)
  refine l_q rfl (q_eql false rfl (At.hit z8.put rfl).ev rfl (decide_eq_false (by omega)) ?_)
  refine l_end ?_
  refine e_fresh z8.put.put.put ?_
  intro a9 z9 m9
  have s1_9 := m9 _ _ (((s1_8.ne rfl).ne rfl).ne rfl)
  have s2_9 := m9 _ _ (((s2_8.ne rfl).ne rfl).ne rfl)
  have s3_9 := m9 _ _ (((s3_8.ne rfl).ne rfl).ne rfl)
  have s4_9 := m9 _ _ (((s4_8.ne rfl).ne rfl).ne rfl)
  have s18_9 := m9 _ _ (At.hit z8.put.put rfl)
  clear m9
  refine e_then ?_
  refine c_false s18_9 ?_
  refine wp_skip ?_
  refine e_then ?_
  refine c_seq ?_
  refine c_seq ?_
  refine c_region ?_
  refine l_q rfl (q_move _ _ rfl s4_9.ev ?_)
  refine l_q rfl (q_add (((K + 21 : Nat) : Int)) rfl (At.hit z9 rfl).ev rfl (i64_is (by omega) (by omega) (by omega)) ?_)
  refine l_q rfl (q_assign _ _ rfl (At.hit z9.put rfl).ev ?_)
  refine l_end ?_
  refine e_fresh z9.put.put.put ?_
  intro a10 z10 m10
  have s2_10 := m10 _ _ (((s2_9.ne rfl).ne rfl).ne rfl)
  have s3_10 := m10 _ _ (((s3_9.ne rfl).ne rfl).ne rfl)
  have s4_10 := m10 _ _ (((s4_9.ne rfl).ne rfl).ne rfl)
  have s5_10 := m10 _ _ (At.hit z9.put.put rfl)
  clear m10
  refine e_then ?_
  refine wp_block ?_
  refine c_loop (64 - K) (fun k a w => Fr 90 a ∧ At a 2 (.pointer (some ⟨g2, 0, none⟩)) ∧ At a 3 (.pointer (some ⟨g3, 0, none⟩)) ∧ At a 4 (.int .i64 ((K + 5 : Nat) : Int)) ∧ At a 5 (.int .i64 ((k + K + 21 : Nat) : Int)) ∧ w.heap[g2]? = some (.cells (nums .u32 (List.replicate 85 0)) 80) ∧ w.heap[g3]? = some (.cells (nums .u32 (up (beginL false K B) K (fun x => rotl x 1) k)) 80) ∧ Low w0 w) ?_ ?_ ?_
  · exact ⟨z10, s2_10, s3_10, s4_10, (s5_10.same (congrArg (Value.int .i64) (by omega))), kg2_7, k7, low8⟩
  · intro k a11 w11 hk11 h
    obtain ⟨z11, s2_11, s3_11, s4_11, s5_11, kg2_11, kg3_11, low11⟩ := h
    clear k7 kg2_7 low8 s2_10 s3_10 s4_10 s5_10 z10
    refine c_seq ?_
    refine c_seq ?_
    refine c_region ?_
    refine l_q rfl (q_move _ _ rfl s5_11.ev ?_)
    refine l_q rfl (q_lss true rfl (At.hit z11 rfl).ev rfl (decide_eq_true (by omega)) ?_)
    refine l_end ?_
    refine e_fresh z11.put.put ?_
    intro a12 z12 m12
    have s2_12 := m12 _ _ ((s2_11.ne rfl).ne rfl)
    have s3_12 := m12 _ _ ((s3_11.ne rfl).ne rfl)
    have s4_12 := m12 _ _ ((s4_11.ne rfl).ne rfl)
    have s5_12 := m12 _ _ ((s5_11.ne rfl).ne rfl)
    have s36_12 := m12 _ _ (At.hit z11.put rfl)
    clear m12
    refine e_then ?_
    refine c_true s36_12 ?_
    refine wp_skip ?_
    refine e_then ?_
    refine c_seq ?_
    refine wp_block ?_
    refine region_low_tail 22 hm (by kernel_rfl) ?_
    simp only [List.take_succ_cons, List.take_zero, List.drop_succ_cons, List.drop_zero]
    refine qs (q_move _ _ rfl s5_12.ev ?_)
    refine qs (q_move _ _ rfl (s5_12.ne rfl).ev ?_)
    refine qs (q_sub (((k + K + 18 : Nat) : Int)) rfl (At.hit z12.put rfl).ev rfl (i64_is (by omega) (by omega) (by omega)) ?_)
    refine qs (q_idx (j := k + K + 18) rfl Tryd.underlying80 sz63 (((s3_12.ne rfl).ne rfl).ne rfl).ev (At.hit z12.put.put rfl).ev (by omega) ?_)
    refine qs (q_cell (.int .u32 ((up (beginL false K B) K (fun x => rotl x 1) k).getD (k + K + 18) 0)) rfl Tryd.underlying63 (At.hit z12.put.put.put rfl).ev (fun _ h => nums_cell (h.blk kg3_11) (k + K + 18) (by rw [(up_len _ K _ (beginL_len false K B) _)]; omega)) ?_)
    refine qs (q_move _ _ rfl (((((s5_12.ne rfl).ne rfl).ne rfl).ne rfl).ne rfl).ev ?_)
    refine qs (q_sub (((k + K + 13 : Nat) : Int)) rfl (At.hit z12.put.put.put.put.put rfl).ev rfl (i64_is (by omega) (by omega) (by omega)) ?_)
    refine qs (q_idx (j := k + K + 13) rfl Tryd.underlying80 sz63 (((((((s3_12.ne rfl).ne rfl).ne rfl).ne rfl).ne rfl).ne rfl).ne rfl).ev (At.hit z12.put.put.put.put.put.put rfl).ev (by omega) ?_)
    refine q_fresh z12.put.put.put.put.put.put.put.put ?_
    intro a13 z13 m13
    have s2_13 := m13 _ _ ((((((((s2_12.ne rfl).ne rfl).ne rfl).ne rfl).ne rfl).ne rfl).ne rfl).ne rfl)
    have s3_13 := m13 _ _ ((((((((s3_12.ne rfl).ne rfl).ne rfl).ne rfl).ne rfl).ne rfl).ne rfl).ne rfl)
    have s4_13 := m13 _ _ ((((((((s4_12.ne rfl).ne rfl).ne rfl).ne rfl).ne rfl).ne rfl).ne rfl).ne rfl)
    have s5_13 := m13 _ _ ((((((((s5_12.ne rfl).ne rfl).ne rfl).ne rfl).ne rfl).ne rfl).ne rfl).ne rfl)
    have s39_13 := m13 _ _ ((((((((At.hit z12 rfl).ne rfl).ne rfl).ne rfl).ne rfl).ne rfl).ne rfl).ne rfl)
    have s43_13 := m13 _ _ ((((At.hit z12.put.put.put.put rfl).ne rfl).ne rfl).ne rfl)
    have s46_13 := m13 _ _ (At.hit z12.put.put.put.put.put.put.put rfl)
    clear m13
    refine qs (q_cell (.int .u32 ((up (beginL false K B) K (fun x => rotl x 1) k).getD (k + K + 13) 0)) rfl Tryd.underlying63 s46_13.ev (fun _ h => nums_cell (h.blk kg3_11) (k + K + 13) (by rw [(up_len _ K _ (beginL_len false K B) _)]; omega)) ?_)
    refine qs (q_xor rfl (s43_13.ne rfl).ev (At.hit z13 rfl).ev ?_)
    refine qs (q_move _ _ rfl ((s5_13.ne rfl).ne rfl).ev ?_)
    refine qs (q_sub (((k + K + 7 : Nat) : Int)) rfl (At.hit z13.put.put rfl).ev rfl (i64_is (by omega) (by omega) (by omega)) ?_)
    refine qs (q_idx (j := k + K + 7) rfl Tryd.underlying80 sz63 ((((s3_13.ne rfl).ne rfl).ne rfl).ne rfl).ev (At.hit z13.put.put.put rfl).ev (by omega) ?_)
    refine qs (q_cell (.int .u32 ((up (beginL false K B) K (fun x => rotl x 1) k).getD (k + K + 7) 0)) rfl Tryd.underlying63 (At.hit z13.put.put.put.put rfl).ev (fun _ h => nums_cell (h.blk kg3_11) (k + K + 7) (by rw [(up_len _ K _ (beginL_len false K B) _)]; omega)) ?_)
    refine qs (q_xor rfl (((((At.hit z13.put rfl).ne rfl).ne rfl).ne rfl).ne rfl).ev (At.hit z13.put.put.put.put.put rfl).ev ?_)
    refine qs (q_move _ _ rfl (((((((s5_13.ne rfl).ne rfl).ne rfl).ne rfl).ne rfl).ne rfl).ne rfl).ev ?_)
    refine q_fresh z13.put.put.put.put.put.put.put.put ?_
    intro a14 z14 m14
    have s2_14 := m14 _ _ ((((((((s2_13.ne rfl).ne rfl).ne rfl).ne rfl).ne rfl).ne rfl).ne rfl).ne rfl)
    have s3_14 := m14 _ _ ((((((((s3_13.ne rfl).ne rfl).ne rfl).ne rfl).ne rfl).ne rfl).ne rfl).ne rfl)
    have s4_14 := m14 _ _ ((((((((s4_13.ne rfl).ne rfl).ne rfl).ne rfl).ne rfl).ne rfl).ne rfl).ne rfl)
    have s5_14 := m14 _ _ ((((((((s5_13.ne rfl).ne rfl).ne rfl).ne rfl).ne rfl).ne rfl).ne rfl).ne rfl)
    have s39_14 := m14 _ _ ((((((((s39_13.ne rfl).ne rfl).ne rfl).ne rfl).ne rfl).ne rfl).ne rfl).ne rfl)
    have s53_14 := m14 _ _ ((At.hit z13.put.put.put.put.put.put rfl).ne rfl)
    have s54_14 := m14 _ _ (At.hit z13.put.put.put.put.put.put.put rfl)
    clear m14
    refine qs (q_sub (((k + K + 5 : Nat) : Int)) rfl s54_14.ev rfl (i64_is (by omega) (by omega) (by omega)) ?_)
    refine qs (q_idx (j := k + K + 5) rfl Tryd.underlying80 sz63 (s3_14.ne rfl).ev (At.hit z14 rfl).ev (by omega) ?_)
    refine qs (q_cell (.int .u32 ((up (beginL false K B) K (fun x => rotl x 1) k).getD (k + K + 5) 0)) rfl Tryd.underlying63 (At.hit z14.put rfl).ev (fun _ h => nums_cell (h.blk kg3_11) (k + K + 5) (by rw [(up_len _ K _ (beginL_len false K B) _)]; omega)) ?_)
    refine qs (q_xor rfl (((s53_14.ne rfl).ne rfl).ne rfl).ev (At.hit z14.put.put rfl).ev ?_)
    refine qs (q_call (.int .u32 (rotl (Go.bits .xor .u32 (Go.bits .xor .u32 (Go.bits .xor .u32 ((up (beginL false K B) K (fun x => rotl x 1) k).getD (k + K + 18) 0) ((up (beginL false K B) K (fun x => rotl x 1) k).getD (k + K + 13) 0)) ((up (beginL false K B) K (fun x => rotl x 1) k).getD (k + K + 7) 0)) ((up (beginL false K B) K (fun x => rotl x 1) k).getD (k + K + 5) 0)) 1)) rfl rfl Tryd.func44 rfl (args2 rfl (At.hit z14.put.put.put rfl).ev rfl) (fun _ h => (RotL.calls (Go.bits .xor .u32 (Go.bits .xor .u32 (Go.bits .xor .u32 ((up (beginL false K B) K (fun x => rotl x 1) k).getD (k + K + 18) 0) ((up (beginL false K B) K (fun x => rotl x 1) k).getD (k + K + 13) 0)) ((up (beginL false K B) K (fun x => rotl x 1) k).getD (k + K + 7) 0)) ((up (beginL false K B) K (fun x => rotl x 1) k).getD (k + K + 5) 0)) 1 _).mono fun _ _ ⟨e, k⟩ => ⟨e, h.trans k⟩) ?_)
    refine qs (q_idx (j := k + K + 21) rfl Tryd.underlying80 sz63 (((((s3_14.ne rfl).ne rfl).ne rfl).ne rfl).ne rfl).ev (((((s39_14.ne rfl).ne rfl).ne rfl).ne rfl).ne rfl).ev (by omega) ?_)
    refine qz ?_
    intro w15 h15
    have kg2_15 := h15.blk kg2_11
    have kg3_15 := h15.blk kg3_11
    refine l_cell (j := (k + K + 21)) (v := .int .u32 (rotl (Go.bits .xor .u32 (Go.bits .xor .u32 (Go.bits .xor .u32 ((up (beginL false K B) K (fun x => rotl x 1) k).getD (k + K + 18) 0) ((up (beginL false K B) K (fun x => rotl x 1) k).getD (k + K + 13) 0)) ((up (beginL false K B) K (fun x => rotl x 1) k).getD (k + K + 7) 0)) ((up (beginL false K B) K (fun x => rotl x 1) k).getD (k + K + 5) 0)) 1)) rfl rfl rfl sz63 (At.hit z14.put.put.put.put.put rfl).ev ((At.hit z14.put.put.put.put rfl).ne rfl).ev rfl kg3_15 (by rw [(nums_size _ _).trans (up_len _ K _ (beginL_len false K B) _)]; omega) ?_
    intro w16 k16 u16
    rw [nums_put] at k16
    have kg2_16 := u16.blk kg2_15 (by omega)
    refine l_end ?_
    refine e_fresh z14.put.put.put.put.put.put ?_
    intro a17 z17 m17
    have s2_17 := m17 _ _ ((((((s2_14.ne rfl).ne rfl).ne rfl).ne rfl).ne rfl).ne rfl)
    have s3_17 := m17 _ _ ((((((s3_14.ne rfl).ne rfl).ne rfl).ne rfl).ne rfl).ne rfl)
    have s4_17 := m17 _ _ ((((((s4_14.ne rfl).ne rfl).ne rfl).ne rfl).ne rfl).ne rfl)
    have s5_17 := m17 _ _ ((((((s5_14.ne rfl).ne rfl).ne rfl).ne rfl).ne rfl).ne rfl)
    have low17 := ((low11.trans h15).upd u16 geg3)
    clear m17
    refine e_in ?_
    refine e_then ?_
    refine c_region ?_
    refine l_q rfl (q_move _ _ rfl s5_17.ev ?_)
    refine l_q rfl (q_add (((k + K + 22 : Nat) : Int)) rfl (At.hit z17 rfl).ev rfl (i64_is (by omega) (by omega) (by omega)) ?_)
    refine l_q rfl (q_assign _ _ rfl (At.hit z17.put rfl).ev ?_)
    refine l_end ?_
    refine e_fresh z17.put.put.put ?_
    intro a18 z18 m18
    have s2_18 := m18 _ _ (((s2_17.ne rfl).ne rfl).ne rfl)
    have s3_18 := m18 _ _ (((s3_17.ne rfl).ne rfl).ne rfl)
    have s4_18 := m18 _ _ (((s4_17.ne rfl).ne rfl).ne rfl)
    have s5_18 := m18 _ _ (At.hit z17.put.put rfl)
    clear m18
    exact ⟨z18, s2_18, s3_18, s4_18, (s5_18.same (congrArg (Value.int .i64) (by omega))), kg2_16, k16, low17⟩
  · intro a19 w19 h
    obtain ⟨z19, s2_19, s3_19, s4_19, s5_19, kg2_19, kg3_19, low19⟩ := h
    clear k7 kg2_7 low8 s2_10 s3_10 s4_10 s5_10 z10
    have s5_19 := s5_19.same (congrArg (Value.int .i64) (show _ = (85 : Int) by omega))
    refine c_seq ?_
    refine c_seq ?_
    refine c_region ?_
    refine l_q rfl (q_move _ _ rfl s5_19.ev ?_)
    refine l_q rfl (q_lss false rfl (At.hit z19 rfl).ev rfl (decide_eq_false (by omega)) ?_)
    refine l_end ?_
    refine e_fresh z19.put.put ?_
    intro a20 z20 m20
    have s2_20 := m20 _ _ ((s2_19.ne rfl).ne rfl)
    have s3_20 := m20 _ _ ((s3_19.ne rfl).ne rfl)
    have s4_20 := m20 _ _ ((s4_19.ne rfl).ne rfl)
    have s5_20 := m20 _ _ ((s5_19.ne rfl).ne rfl)
    have s36_20 := m20 _ _ (At.hit z19.put rfl)
    clear m20
    refine e_then ?_
    refine c_false s36_20 ?_
    refine wp_exit ?_
    refine x_then ?_
    refine x_then ?_
    refine in_exit ?_
    refine e_then ?_
    refine c_seq ?_
    refine c_seq ?_
    refine c_region ?_
    refine l_q rfl (q_move _ _ rfl s4_20.ev ?_)
    refine l_q rfl (q_sub (((K + 4 : Nat) : Int)) rfl (At.hit z20 rfl).ev rfl (i64_is (by omega) (by omega) (by omega)) ?_)
    refine l_q rfl (q_assign _ _ rfl (At.hit z20.put rfl).ev ?_)
    refine l_end ?_
    refine e_fresh z20.put.put.put ?_
    intro a21 z21 m21
    have s2_21 := m21 _ _ (((s2_20.ne rfl).ne rfl).ne rfl)
    have s3_21 := m21 _ _ (((s3_20.ne rfl).ne rfl).ne rfl)
    have s6_21 := m21 _ _ (At.hit z20.put.put rfl)
    clear m21
    refine e_then ?_
    refine wp_block ?_
    refine c_loop (K + 5) (fun k a w => Fr 90 a ∧ At a 2 (.pointer (some ⟨g2, 0, none⟩)) ∧ At a 3 (.pointer (some ⟨g3, 0, none⟩)) ∧ At a 6 (.int .i64 (((K : Nat) : Int) + 4 - ((k : Nat) : Int))) ∧ w.heap[g2]? = some (.cells (nums .u32 (List.replicate 85 0)) 80) ∧ w.heap[g3]? = some (.cells (nums .u32 (dnL (up (beginL false K B) K (fun x => rotl x 1) (64 - K)) K k)) 80) ∧ Low w0 w) ?_ ?_ ?_
    · exact ⟨z21, s2_21, s3_21, (s6_21.same (congrArg (Value.int .i64) (by omega))), kg2_19, kg3_19, low19⟩
    · intro k a22 w22 hk22 h
      obtain ⟨z22, s2_22, s3_22, s6_22, kg2_22, kg3_22, low22⟩ := h
      clear kg2_19 kg3_19 low19 s2_21 s3_21 s6_21 z21
      refine c_seq ?_
      refine c_seq ?_
      refine c_region ?_
      refine l_q rfl (q_move _ _ rfl s6_22.ev ?_)
      refine l_q rfl (q_geq true rfl (At.hit z22 rfl).ev rfl (decide_eq_true (by omega)) ?_)
      refine l_end ?_
      refine e_fresh z22.put.put ?_
      intro a23 z23 m23
      have s2_23 := m23 _ _ ((s2_22.ne rfl).ne rfl)
      have s3_23 := m23 _ _ ((s3_22.ne rfl).ne rfl)
      have s6_23 := m23 _ _ ((s6_22.ne rfl).ne rfl)
      have s64_23 := m23 _ _ (At.hit z22.put rfl)
      clear m23
      refine e_then ?_
      refine c_true s64_23 ?_
      refine wp_skip ?_
      refine e_then ?_
      refine c_seq ?_
      refine wp_block ?_
      refine region_low_tail 22 hm (by kernel_rfl) ?_
      simp only [List.take_succ_cons, List.take_zero, List.drop_succ_cons, List.drop_zero]
      refine qs (q_move _ _ rfl s6_23.ev ?_)
      refine qs (q_move _ _ rfl (s6_23.ne rfl).ev ?_)
      refine qs (q_add ((((K : Nat) : Int) + 20 - ((k : Nat) : Int))) rfl (At.hit z23.put rfl).ev rfl (i64_is (by omega) (by omega) (by omega)) ?_)
      refine qs (q_idx (j := (K + 20) - k) rfl Tryd.underlying80 sz63 (((s3_23.ne rfl).ne rfl).ne rfl).ev ((At.hit z23.put.put rfl).same (congrArg (Value.int .i64) (show ((((K : Nat) : Int) + 20 - ((k : Nat) : Int)) : Int) = (((K + 20) - k : Nat) : Int) by omega))).ev (by omega) ?_)
      refine qs (q_cell (.int .u32 ((dnL (up (beginL false K B) K (fun x => rotl x 1) (64 - K)) K k).getD ((K + 20) - k) 0)) rfl Tryd.underlying63 (At.hit z23.put.put.put rfl).ev (fun _ h => nums_cell (h.blk kg3_22) ((K + 20) - k) (by rw [(dnL_len _ K (up_len _ K _ (beginL_len false K B) _) _)]; omega)) ?_)
      refine qs (q_call (.int .u32 (rotl ((dnL (up (beginL false K B) K (fun x => rotl x 1) (64 - K)) K k).getD ((K + 20) - k) 0) 31)) rfl rfl Tryd.func44 rfl (args2 rfl (At.hit z23.put.put.put.put rfl).ev rfl) (fun _ h => (RotL.calls ((dnL (up (beginL false K B) K (fun x => rotl x 1) (64 - K)) K k).getD ((K + 20) - k) 0) 31 _).mono fun _ _ ⟨e, k⟩ => ⟨e, h.trans k⟩) ?_)
      refine qs (q_move _ _ rfl ((((((s6_23.ne rfl).ne rfl).ne rfl).ne rfl).ne rfl).ne rfl).ev ?_)
      refine qs (q_add ((((K : Nat) : Int) + 17 - ((k : Nat) : Int))) rfl (At.hit z23.put.put.put.put.put.put rfl).ev rfl (i64_is (by omega) (by omega) (by omega)) ?_)
      refine q_fresh z23.put.put.put.put.put.put.put.put ?_
      intro a24 z24 m24
      have s2_24 := m24 _ _ ((((((((s2_23.ne rfl).ne rfl).ne rfl).ne rfl).ne rfl).ne rfl).ne rfl).ne rfl)
      have s3_24 := m24 _ _ ((((((((s3_23.ne rfl).ne rfl).ne rfl).ne rfl).ne rfl).ne rfl).ne rfl).ne rfl)
      have s6_24 := m24 _ _ ((((((((s6_23.ne rfl).ne rfl).ne rfl).ne rfl).ne rfl).ne rfl).ne rfl).ne rfl)
      have s67_24 := m24 _ _ ((((((((At.hit z23 rfl).ne rfl).ne rfl).ne rfl).ne rfl).ne rfl).ne rfl).ne rfl)
      have s72_24 := m24 _ _ (((At.hit z23.put.put.put.put.put rfl).ne rfl).ne rfl)
      have s74_24 := m24 _ _ (At.hit z23.put.put.put.put.put.put.put rfl)
      clear m24
      refine qs (q_idx (j := (K + 17) - k) rfl Tryd.underlying80 sz63 s3_24.ev (s74_24.same (congrArg (Value.int .i64) (show ((((K : Nat) : Int) + 17 - ((k : Nat) : Int)) : Int) = (((K + 17) - k : Nat) : Int) by omega))).ev (by omega) ?_)
      refine qs (q_cell (.int .u32 ((dnL (up (beginL false K B) K (fun x => rotl x 1) (64 - K)) K k).getD ((K + 17) - k) 0)) rfl Tryd.underlying63 (At.hit z24 rfl).ev (fun _ h => nums_cell (h.blk kg3_22) ((K + 17) - k) (by rw [(dnL_len _ K (up_len _ K _ (beginL_len false K B) _) _)]; omega)) ?_)
      refine qs (q_xor rfl ((s72_24.ne rfl).ne rfl).ev (At.hit z24.put rfl).ev ?_)
      refine qs (q_move _ _ rfl (((s6_24.ne rfl).ne rfl).ne rfl).ev ?_)
      refine qs (q_add ((((K : Nat) : Int) + 12 - ((k : Nat) : Int))) rfl (At.hit z24.put.put.put rfl).ev rfl (i64_is (by omega) (by omega) (by omega)) ?_)
      refine qs (q_idx (j := (K + 12) - k) rfl Tryd.underlying80 sz63 (((((s3_24.ne rfl).ne rfl).ne rfl).ne rfl).ne rfl).ev ((At.hit z24.put.put.put.put rfl).same (congrArg (Value.int .i64) (show ((((K : Nat) : Int) + 12 - ((k : Nat) : Int)) : Int) = (((K + 12) - k : Nat) : Int) by omega))).ev (by omega) ?_)
      refine qs (q_cell (.int .u32 ((dnL (up (beginL false K B) K (fun x => rotl x 1) (64 - K)) K k).getD ((K + 12) - k) 0)) rfl Tryd.underlying63 (At.hit z24.put.put.put.put.put rfl).ev (fun _ h => nums_cell (h.blk kg3_22) ((K + 12) - k) (by rw [(dnL_len _ K (up_len _ K _ (beginL_len false K B) _) _)]; omega)) ?_)
      refine qs (q_xor rfl (((((At.hit z24.put.put rfl).ne rfl).ne rfl).ne rfl).ne rfl).ev (At.hit z24.put.put.put.put.put.put rfl).ev ?_)
      refine q_fresh z24.put.put.put.put.put.put.put.put ?_
      intro a25 z25 m25
      have s2_25 := m25 _ _ ((((((((s2_24.ne rfl).ne rfl).ne rfl).ne rfl).ne rfl).ne rfl).ne rfl).ne rfl)
      have s3_25 := m25 _ _ ((((((((s3_24.ne rfl).ne rfl).ne rfl).ne rfl).ne rfl).ne rfl).ne rfl).ne rfl)
      have s6_25 := m25 _ _ ((((((((s6_24.ne rfl).ne rfl).ne rfl).ne rfl).ne rfl).ne rfl).ne rfl).ne rfl)
      have s67_25 := m25 _ _ ((((((((s67_24.ne rfl).ne rfl).ne rfl).ne rfl).ne rfl).ne rfl).ne rfl).ne rfl)
      have s82_25 := m25 _ _ (At.hit z24.put.put.put.put.put.put.put rfl)
      clear m25
      refine qs (q_move _ _ rfl s6_25.ev ?_)
      refine qs (q_add ((((K : Nat) : Int) + 6 - ((k : Nat) : Int))) rfl (At.hit z25 rfl).ev rfl (i64_is (by omega) (by omega) (by omega)) ?_)
      refine qs (q_idx (j := (K + 6) - k) rfl Tryd.underlying80 sz63 ((s3_25.ne rfl).ne rfl).ev ((At.hit z25.put rfl).same (congrArg (Value.int .i64) (show ((((K : Nat) : Int) + 6 - ((k : Nat) : Int)) : Int) = (((K + 6) - k : Nat) : Int) by omega))).ev (by omega) ?_)
      refine qs (q_cell (.int .u32 ((dnL (up (beginL false K B) K (fun x => rotl x 1) (64 - K)) K k).getD ((K + 6) - k) 0)) rfl Tryd.underlying63 (At.hit z25.put.put rfl).ev (fun _ h => nums_cell (h.blk kg3_22) ((K + 6) - k) (by rw [(dnL_len _ K (up_len _ K _ (beginL_len false K B) _) _)]; omega)) ?_)
      refine qs (q_xor rfl ((((s82_25.ne rfl).ne rfl).ne rfl).ne rfl).ev (At.hit z25.put.put.put rfl).ev ?_)
      refine qs (q_idx (j := (K + 4) - k) rfl Tryd.underlying80 sz63 (((((s3_25.ne rfl).ne rfl).ne rfl).ne rfl).ne rfl).ev ((((((s67_25.ne rfl).ne rfl).ne rfl).ne rfl).ne rfl).same (congrArg (Value.int .i64) (show ((((K : Nat) : Int) + 4 - ((k : Nat) : Int)) : Int) = (((K + 4) - k : Nat) : Int) by omega))).ev (by omega) ?_)
      refine qz ?_
      intro w26 h26
      have kg2_26 := h26.blk kg2_22
      have kg3_26 := h26.blk kg3_22
      refine l_cell (j := ((K + 4) - k)) (v := .int .u32 (Go.bits .xor .u32 (Go.bits .xor .u32 (Go.bits .xor .u32 (rotl ((dnL (up (beginL false K B) K (fun x => rotl x 1) (64 - K)) K k).getD ((K + 20) - k) 0) 31) ((dnL (up (beginL false K B) K (fun x => rotl x 1) (64 - K)) K k).getD ((K + 17) - k) 0)) ((dnL (up (beginL false K B) K (fun x => rotl x 1) (64 - K)) K k).getD ((K + 12) - k) 0)) ((dnL (up (beginL false K B) K (fun x => rotl x 1) (64 - K)) K k).getD ((K + 6) - k) 0))) rfl rfl rfl sz63 (At.hit z25.put.put.put.put.put rfl).ev ((At.hit z25.put.put.put.put rfl).ne rfl).ev rfl kg3_26 (by rw [(nums_size _ _).trans (dnL_len _ K (up_len _ K _ (beginL_len false K B) _) _)]; omega) ?_
      intro w27 k27 u27
      rw [nums_put] at k27
      have kg2_27 := u27.blk kg2_26 (by omega)
      refine l_end ?_
      refine e_fresh z25.put.put.put.put.put.put ?_
      intro a28 z28 m28
      have s2_28 := m28 _ _ ((((((s2_25.ne rfl).ne rfl).ne rfl).ne rfl).ne rfl).ne rfl)
      have s3_28 := m28 _ _ ((((((s3_25.ne rfl).ne rfl).ne rfl).ne rfl).ne rfl).ne rfl)
      have s6_28 := m28 _ _ ((((((s6_25.ne rfl).ne rfl).ne rfl).ne rfl).ne rfl).ne rfl)
      have low28 := ((low22.trans h26).upd u27 geg3)
      clear m28
      refine e_in ?_
      refine e_then ?_
      refine c_region ?_
      refine l_q rfl (q_move _ _ rfl s6_28.ev ?_)
      refine l_q rfl (q_sub ((((K : Nat) : Int) + 3 - ((k : Nat) : Int))) rfl (At.hit z28 rfl).ev rfl (i64_is (by omega) (by omega) (by omega)) ?_)
      refine l_q rfl (q_assign _ _ rfl (At.hit z28.put rfl).ev ?_)
      refine l_end ?_
      refine e_fresh z28.put.put.put ?_
      intro a29 z29 m29
      have s2_29 := m29 _ _ (((s2_28.ne rfl).ne rfl).ne rfl)
      have s3_29 := m29 _ _ (((s3_28.ne rfl).ne rfl).ne rfl)
      have s6_29 := m29 _ _ (At.hit z28.put.put rfl)
      clear m29
      exact ⟨z29, s2_29, s3_29, (s6_29.same (congrArg (Value.int .i64) (by omega))), kg2_27, k27, low28⟩
    · intro a30 w30 h
      obtain ⟨z30, s2_30, s3_30, s6_30, kg2_30, kg3_30, low30⟩ := h
      clear kg2_19 kg3_19 low19 s2_21 s3_21 s6_21 z21
      have s6_30 := s6_30.same (congrArg (Value.int .i64) (show _ = ((-1) : Int) by omega))
      refine c_seq ?_
      refine c_seq ?_
      refine c_region ?_
      refine l_q rfl (q_move _ _ rfl s6_30.ev ?_)
      refine l_q rfl (q_geq false rfl (At.hit z30 rfl).ev rfl (decide_eq_false (by omega)) ?_)
      refine l_end ?_
      refine e_fresh z30.put.put ?_
      intro a31 z31 m31
      have s2_31 := m31 _ _ ((s2_30.ne rfl).ne rfl)
      have s3_31 := m31 _ _ ((s3_30.ne rfl).ne rfl)
      have s6_31 := m31 _ _ ((s6_30.ne rfl).ne rfl)
      have s64_31 := m31 _ _ (At.hit z30.put rfl)
      clear m31
      refine e_then ?_
      refine c_false s64_31 ?_
      refine wp_exit ?_
      refine x_then ?_
      refine x_then ?_
      refine in_exit ?_
      refine e_then ?_
      refine c_seq ?_
      refine c_region ?_
      refine l_q rfl (q_row rfl Tryd.underlying80 rfl (sz80.trans (congrArg some ((nums_size _ _).trans (dnL_len _ K (up_len _ K _ (beginL_len false K B) _) _)).symm)) s3_31.ev (fun _ e => by rw [e]; exact kg3_30) ?_)
      refine l_row rfl rfl rfl (sz80.trans (congrArg some ((nums_size _ _).trans (dnL_len _ K (up_len _ K _ (beginL_len false K B) _) _)).symm)) (s2_31.ne rfl).ev (At.hit z31 rfl).ev (nums_one _ _) kg2_30 (((nums_size _ _).trans (List.length_replicate)).trans ((nums_size _ _).trans (dnL_len _ K (up_len _ K _ (beginL_len false K B) _) _)).symm) ?_
      intro w32 k32 u32
      have kg3_32 := u32.blk kg3_30 (by omega)
      refine l_end ?_
      refine e_fresh z31.put ?_
      intro a33 z33 m33
      have s2_33 := m33 _ _ (s2_31.ne rfl)
      have low33 := (low30.upd u32 geg2)
      clear m33
      refine e_then ?_
      refine wp_ret ?_
      refine r_cell rfl z33.defers s2_33 k32 Tryd.underlying80 rfl (sz80.trans (congrArg some ((nums_size _ _).trans (dnL_len _ K (up_len _ K _ (beginL_len false K B) _) _)).symm)) ?_
      exact ⟨rfl, low33⟩
theorem Row2.calls (K B : Nat) (hK : K ≤ 64) (hB : B ≤ 31) (w0 : World) : Calls Tryd.prog 43 #[.agg #[.int .i64 2, .int .i64 (K : Int), .int .i64 (B : Int)]] w0 fun e w' => e = .returned (.agg (nums .u32 (rowL true K B))) ∧ Low w0 w' := by
  refine c_fun (R := _) Tryd.func43 rfl 90 rfl (Nat.le_of_ble_eq_true rfl) ?_
  intro a z hA
  have s0 := hA 0 _ rfl
  clear hA
  refine c_seq ?_
  refine c_region ?_
  refine l_box rfl rfl s0.ev ?_
  intro g1 w1 hg1 k1 h1
  have geg1 := Nat.le_trans (Low.refl _).ge hg1
  refine l_alloc rfl rfl zero80 ?_
  intro g2 w2 hg2 k2 h2
  have lt_g1_g2 := Nat.lt_of_lt_of_le (heap_lt k1) hg2
  have geg2 := Nat.le_trans h1.ge hg2
  have kg1_2 := h2.blk k1
  refine l_end ?_
  refine e_fresh z.put.put ?_
  intro a3 z3 m3
  have s1_3 := m3 _ _ ((At.hit z rfl).ne rfl)
  have s2_3 := m3 _ _ (At.hit z.put rfl)
  have low3 := (h1.trans h2)
  clear m3
  refine e_then ?_
  refine c_seq ?_
  refine c_region ?_
  refine l_alloc rfl rfl zero80 ?_
  intro g3 w4 hg4 k4 h4
  have lt_g1_g3 := Nat.lt_of_lt_of_le (heap_lt kg1_2) hg4
  have lt_g2_g3 := Nat.lt_of_lt_of_le (heap_lt k2) hg4
  have geg3 := Nat.le_trans low3.ge hg4
  have kg1_4 := h4.blk kg1_2
  have kg2_4 := h4.blk k2
  refine l_end ?_
  refine e_fresh z3.put ?_
  intro a5 z5 m5
  have s1_5 := m5 _ _ (s1_3.ne rfl)
  have s2_5 := m5 _ _ (s2_3.ne rfl)
  have s3_5 := m5 _ _ (At.hit z3 rfl)
  have low5 := (low3.trans h4)
  clear m5
  refine e_then ?_
  refine c_seq ?_
  refine c_region ?_
  refine l_q rfl (q_fld 1 rfl (by kernel_rfl) s1_5.ev ?_)
  refine l_q rfl (q_cell (.int .i64 ((K : Nat) : Int)) rfl Tryd.underlying3 (At.hit z5 rfl).ev (fun _ e => by rw [e]; exact (cells_at kg1_4 1).trans rfl) ?_)
  refine l_q rfl (q_add (((K + 5 : Nat) : Int)) rfl (At.hit z5.put rfl).ev rfl (i64_is (by omega) (by omega) (by omega)) ?_)
  refine l_q rfl (q_assign _ _ rfl (At.hit z5.put.put rfl).ev ?_)
  refine l_end ?_
  refine e_fresh z5.put.put.put.put ?_
  intro a6 z6 m6
  have s1_6 := m6 _ _ ((((s1_5.ne rfl).ne rfl).ne rfl).ne rfl)
  have s2_6 := m6 _ _ ((((s2_5.ne rfl).ne rfl).ne rfl).ne rfl)
  have s3_6 := m6 _ _ ((((s3_5.ne rfl).ne rfl).ne rfl).ne rfl)
  have s4_6 := m6 _ _ (At.hit z5.put.put.put rfl)
  clear m6
  refine e_then ?_
  refine c_seq ?_
  refine c_region ?_
  refine l_q rfl (q_move _ _ rfl s4_6.ev ?_)
  refine l_q rfl (q_add (((K + 20 : Nat) : Int)) rfl (At.hit z6 rfl).ev rfl (i64_is (by omega) (by omega) (by omega)) ?_)
  refine l_q rfl (q_fld 2 rfl (by kernel_rfl) ((s1_6.ne rfl).ne rfl).ev ?_)
  refine l_q rfl (q_cell (.int .i64 ((B : Nat) : Int)) rfl Tryd.underlying3 (At.hit z6.put.put rfl).ev (fun _ e => by rw [e]; exact (cells_at kg1_4 2).trans rfl) ?_)
  refine l_q rfl (q_shl (IntKind.u32.wrap (1 * 2 ^ min (((B : Nat) : Int) : Int).toNat 32)) rfl rfl (At.hit z6.put.put.put rfl).ev (by first | omega | exact u64_nonneg _) rfl ?_)
  refine l_q rfl (q_idx (j := K + 20) rfl Tryd.underlying80 sz63 (((((s3_6.ne rfl).ne rfl).ne rfl).ne rfl).ne rfl).ev ((((At.hit z6.put rfl).ne rfl).ne rfl).ne rfl).ev (by omega) ?_)
  refine l_cell (j := (K + 20)) (v := .int .u32 (IntKind.u32.wrap (1 * 2 ^ min (((B : Nat) : Int) : Int).toNat 32))) rfl rfl rfl sz63 (At.hit z6.put.put.put.put.put rfl).ev ((At.hit z6.put.put.put.put rfl).ne rfl).ev rfl k4 (by rw [(nums_size _ _).trans (List.length_replicate)]; omega) ?_
  intro w7 k7 u7
  rw [nums_put] at k7
  have kg1_7 := u7.blk kg1_4 (by omega)
  have kg2_7 := u7.blk kg2_4 (by omega)
  refine l_end ?_
  refine e_fresh z6.put.put.put.put.put.put ?_
  intro a8 z8 m8
  have s1_8 := m8 _ _ ((((((s1_6.ne rfl).ne rfl).ne rfl).ne rfl).ne rfl).ne rfl)
  have s2_8 := m8 _ _ ((((((s2_6.ne rfl).ne rfl).ne rfl).ne rfl).ne rfl).ne rfl)
  have s3_8 := m8 _ _ ((((((s3_6.ne rfl).ne rfl).ne rfl).ne rfl).ne rfl).ne rfl)
  have s4_8 := m8 _ _ ((((((s4_6.ne rfl).ne rfl).ne rfl).ne rfl).ne rfl).ne rfl)
  have low8 := (low5.upd u7 geg3)
  clear m8
  refine e_then ?_
  refine c_seq ?_
  refine c_seq ?_
  refine c_region ?_
  refine l_q rfl (q_fld 0 rfl (by kernel_rfl) s1_8.ev ?_)
  refine l_q rfl (q_cell (.int .i64 2) rfl Tryd.underlying3 (At.hit z8 rfl).ev (fun _ e => by rw [e]; exact (cells_at kg1_7 0).trans rfl) ?_)
  refine l_q rfl (q_eql true rfl (At.hit z8.put rfl).ev rfl (decide_eq_true (by omega)) ?_)
  refine l_end ?_
  refine e_fresh z8.put.put.put ?_
  intro a9 z9 m9
  have s1_9 := m9 _ _ (((s1_8.ne rfl).ne rfl).ne rfl)
  have s2_9 := m9 _ _ (((s2_8.ne rfl).ne rfl).ne rfl)
  have s3_9 := m9 _ _ (((s3_8.ne rfl).ne rfl).ne rfl)
  have s4_9 := m9 _ _ (((s4_8.ne rfl).ne rfl).ne rfl)
  have s18_9 := m9 _ _ (At.hit z8.put.put rfl)
  clear m9
  refine e_then ?_
  refine c_true s18_9 ?_
  refine c_seq ?_
  refine c_region ?_
  refine l_q rfl (q_move _ _ rfl s4_9.ev ?_)
  refine l_q rfl (q_add (((K + 6 : Nat) : Int)) rfl (At.hit z9 rfl).ev rfl (i64_is (by omega) (by omega) (by omega)) ?_)
  refine l_q rfl (q_fld 2 rfl (by kernel_rfl) ((s1_9.ne rfl).ne rfl).ev ?_)
  refine l_q rfl (q_cell (.int .i64 ((B : Nat) : Int)) rfl Tryd.underlying3 (At.hit z9.put.put rfl).ev (fun _ e => by rw [e]; exact (cells_at kg1_7 2).trans rfl) ?_)
  refine l_q rfl (q_add (((B + 31 : Nat) : Int)) rfl rfl (At.hit z9.put.put.put rfl).ev (i64_is (by omega) (by omega) (by omega)) ?_)
  refine l_call (fun v w' => v = .int .u32 (rotl 1 ((B + 31 : Nat) : Int)) ∧ Low w7 w') rfl rfl rfl Tryd.func44 rfl (args2 rfl rfl (At.hit z9.put.put.put.put rfl).ev) ((RotL.calls 1 ((B + 31 : Nat) : Int) _).mono fun _ _ ⟨e, k⟩ => ⟨_, e, rfl, k⟩) ?_
  rintro _ w10 ⟨rfl, h10⟩
  have kg1_10 := h10.blk kg1_7
  have kg2_10 := h10.blk kg2_7
  have kg3_10 := h10.blk k7
  refine l_q rfl (q_idx (j := K + 6) rfl Tryd.underlying80 sz63 ((((((s3_9.ne rfl).ne rfl).ne rfl).ne rfl).ne rfl).ne rfl).ev (((((At.hit z9.put rfl).ne rfl).ne rfl).ne rfl).ne rfl).ev (by omega) ?_)
  refine l_cell (j := (K + 6)) (v := .int .u32 (rotl 1 ((B + 31 : Nat) : Int))) rfl rfl rfl sz63 (At.hit z9.put.put.put.put.put.put rfl).ev ((At.hit z9.put.put.put.put.put rfl).ne rfl).ev rfl kg3_10 (by rw [(nums_size _ _).trans ((List.length_set ..).trans (List.length_replicate))]; omega) ?_
  intro w11 k11 u11
  rw [nums_put] at k11
  have kg1_11 := u11.blk kg1_10 (by omega)
  have kg2_11 := u11.blk kg2_10 (by omega)
  refine l_end ?_
  refine e_fresh z9.put.put.put.put.put.put.put ?_
  intro a12 z12 m12
  have s2_12 := m12 _ _ (((((((s2_9.ne rfl).ne rfl).ne rfl).ne rfl).ne rfl).ne rfl).ne rfl)
  have s3_12 := m12 _ _ (((((((s3_9.ne rfl).ne rfl).ne rfl).ne rfl).ne rfl).ne rfl).ne rfl)
  have s4_12 := m12 _ _ (((((((s4_9.ne rfl).ne rfl).ne rfl).ne rfl).ne rfl).ne rfl).ne rfl)
  have low12 := ((low8.trans h10).upd u11 geg3)
  clear m12
  refine e_then ?_
  refine c_region ?_
  refine l_q rfl (q_move _ _ rfl s4_12.ev ?_)
  refine l_q rfl (q_add (((K + 8 : Nat) : Int)) rfl (At.hit z12 rfl).ev rfl (i64_is (by omega) (by omega) (by omega)) ?_)
  refine l_q rfl (q_move _ _ rfl ((s4_12.ne rfl).ne rfl).ev ?_)
  refine l_q rfl (q_add (((K + 6 : Nat) : Int)) rfl (At.hit z12.put.put rfl).ev rfl (i64_is (by omega) (by omega) (by omega)) ?_)
  refine l_q rfl (q_idx (j := K + 6) rfl Tryd.underlying80 sz63 ((((s3_12.ne rfl).ne rfl).ne rfl).ne rfl).ev (At.hit z12.put.put.put rfl).ev (by omega) ?_)
  refine l_q rfl (q_cell (.int .u32 ((((List.replicate 85 0).set (K + 20) (IntKind.u32.wrap (1 * 2 ^ min (((B : Nat) : Int) : Int).toNat 32))).set (K + 6) (rotl 1 ((B + 31 : Nat) : Int))).getD (K + 6) 0)) rfl Tryd.underlying63 (At.hit z12.put.put.put.put rfl).ev (fun _ e => by rw [e]; exact nums_cell k11 (K + 6) (by rw [((List.length_set ..).trans ((List.length_set ..).trans (List.length_replicate)))]; omega)) ?_)
  refine l_q rfl (q_idx (j := K + 8) rfl Tryd.underlying80 sz63 ((((((s3_12.ne rfl).ne rfl).ne rfl).ne rfl).ne rfl).ne rfl).ev (((((At.hit z12.put rfl).ne rfl).ne rfl).ne rfl).ne rfl).ev (by omega) ?_)
  refine l_cell (j := (K + 8)) (v := .int .u32 ((((List.replicate 85 0).set (K + 20) (IntKind.u32.wrap (1 * 2 ^ min (((B : Nat) : Int) : Int).toNat 32))).set (K + 6) (rotl 1 ((B + 31 : Nat) : Int))).getD (K + 6) 0)) rfl rfl rfl sz63 (At.hit z12.put.put.put.put.put.put rfl).ev ((At.hit z12.put.put.put.put.put rfl).ne rfl).ev rfl k11 (by rw [(nums_size _ _).trans ((List.length_set ..).trans ((List.length_set ..).trans (List.length_replicate)))]; omega) ?_
  intro w13 k13 u13
  rw [nums_put] at k13
  have kg2_13 := u13.blk kg2_11 (by omega)
  refine l_end ?_
  refine e_fresh z12.put.put.put.put.put.put.put ?_
  intro a14 z14 m14
  have s2_14 := m14 _ _ (((((((s2_12.ne rfl).ne rfl).ne rfl).ne rfl).ne rfl).ne rfl).ne rfl)
  have s3_14 := m14 _ _ (((((((s3_12.ne rfl).ne rfl).ne rfl).ne rfl).ne rfl).ne rfl).ne rfl)
  have s4_14 := m14 _ _ (((((((s4_12.ne rfl).ne rfl).ne rfl).ne rfl).ne rfl).ne rfl).ne rfl)
  have low14 := (low12.upd u13 geg3)
  clear m14
  refine e_then ?_
  refine c_seq ?_
  refine c_seq ?_
  refine c_region ?_
  refine l_q rfl (q_move _ _ rfl s4_14.ev ?_)
  refine l_q rfl (q_add (((K + 21 : Nat) : Int)) rfl (At.hit z14 rfl).ev rfl (i64_is (by omega) (by omega) (by omega)) ?_)
  refine l_q rfl (q_assign _ _ rfl (At.hit z14.put rfl).ev ?_)
  refine l_end ?_
  refine e_fresh z14.put.put.put ?_
  intro a15 z15 m15
  have s2_15 := m15 _ _ (((s2_14.ne rfl).ne rfl).ne rfl)
  have s3_15 := m15 _ _ (((s3_14.ne rfl).ne rfl).ne rfl)
  have s4_15 := m15 _ _ (((s4_14.ne rfl).ne rfl).ne rfl)
  have s5_15 := m15 _ _ (At.hit z14.put.put rfl)
  clear m15
  refine e_then ?_
  refine wp_block ?_
  refine c_loop (64 - K) (fun k a w => Fr 90 a ∧ At a 2 (.pointer (some ⟨g2, 0, none⟩)) ∧ At a 3 (.pointer (some ⟨g3, 0, none⟩)) ∧ At a 4 (.int .i64 ((K + 5 : Nat) : Int)) ∧ At a 5 (.int .i64 ((k + K + 21 : Nat) : Int)) ∧ w.heap[g2]? = some (.cells (nums .u32 (List.replicate 85 0)) 80) ∧ w.heap[g3]? = some (.cells (nums .u32 (up (beginL true K B) K (fun x => rotl x 1) k)) 80) ∧ Low w0 w) ?_ ?_ ?_
  · exact ⟨z15, s2_15, s3_15, s4_15, (s5_15.same (congrArg (Value.int .i64) (by omega))), kg2_13, k13, low14⟩
  · intro k a16 w16 hk16 h
    obtain ⟨z16, s2_16, s3_16, s4_16, s5_16, kg2_16, kg3_16, low16⟩ := h
    clear k13 kg2_13 low14 s2_15 s3_15 s4_15 s5_15 z15
    refine c_seq ?_
    refine c_seq ?_
    refine c_region ?_
    refine l_q rfl (q_move _ _ rfl s5_16.ev ?_)
    refine l_q rfl (q_lss true rfl (At.hit z16 rfl).ev rfl (decide_eq_true (by omega)) ?_)
    refine l_end ?_
    refine e_fresh z16.put.put ?_
    intro a17 z17 m17
    have s2_17 := m17 _ _ ((s2_16.ne rfl).ne rfl)
    have s3_17 := m17 _ _ ((s3_16.ne rfl).ne rfl)
    have s4_17 := m17 _ _ ((s4_16.ne rfl).ne rfl)
    have s5_17 := m17 _ _ ((s5_16.ne rfl).ne rfl)
    have s36_17 := m17 _ _ (At.hit z16.put rfl)
    clear m17
    refine e_then ?_
    refine c_true s36_17 ?_
    refine wp_skip ?_
    refine e_then ?_
    refine c_seq ?_
    refine wp_block ?_
    refine region_low_tail 22 hm (by kernel_rfl) ?_
    simp only [List.take_succ_cons, List.take_zero, List.drop_succ_cons, List.drop_zero]
    refine qs (q_move _ _ rfl s5_17.ev ?_)
    refine qs (q_move _ _ rfl (s5_17.ne rfl).ev ?_)
    refine qs (q_sub (((k + K + 18 : Nat) : Int)) rfl (At.hit z17.put rfl).ev rfl (i64_is (by omega) (by omega) (by omega)) ?_)
    refine qs (q_idx (j := k + K + 18) rfl Tryd.underlying80 sz63 (((s3_17.ne rfl).ne rfl).ne rfl).ev (At.hit z17.put.put rfl).ev (by omega) ?_)
    refine qs (q_cell (.int .u32 ((up (beginL true K B) K (fun x => rotl x 1) k).getD (k + K + 18) 0)) rfl Tryd.underlying63 (At.hit z17.put.put.put rfl).ev (fun _ h => nums_cell (h.blk kg3_16) (k + K + 18) (by rw [(up_len _ K _ (beginL_len true K B) _)]; omega)) ?_)
    refine qs (q_move _ _ rfl (((((s5_17.ne rfl).ne rfl).ne rfl).ne rfl).ne rfl).ev ?_)
    refine qs (q_sub (((k + K + 13 : Nat) : Int)) rfl (At.hit z17.put.put.put.put.put rfl).ev rfl (i64_is (by omega) (by omega) (by omega)) ?_)
    refine qs (q_idx (j := k + K + 13) rfl Tryd.underlying80 sz63 (((((((s3_17.ne rfl).ne rfl).ne rfl).ne rfl).ne rfl).ne rfl).ne rfl).ev (At.hit z17.put.put.put.put.put.put rfl).ev (by omega) ?_)
    refine q_fresh z17.put.put.put.put.put.put.put.put ?_
    intro a18 z18 m18
    have s2_18 := m18 _ _ ((((((((s2_17.ne rfl).ne rfl).ne rfl).ne rfl).ne rfl).ne rfl).ne rfl).ne rfl)
    have s3_18 := m18 _ _ ((((((((s3_17.ne rfl).ne rfl).ne rfl).ne rfl).ne rfl).ne rfl).ne rfl).ne rfl)
    have s4_18 := m18 _ _ ((((((((s4_17.ne rfl).ne rfl).ne rfl).ne rfl).ne rfl).ne rfl).ne rfl).ne rfl)
    have s5_18 := m18 _ _ ((((((((s5_17.ne rfl).ne rfl).ne rfl).ne rfl).ne rfl).ne rfl).ne rfl).ne rfl)
    have s39_18 := m18 _ _ ((((((((At.hit z17 rfl).ne rfl).ne rfl).ne rfl).ne rfl).ne rfl).ne rfl).ne rfl)
    have s43_18 := m18 _ _ ((((At.hit z17.put.put.put.put rfl).ne rfl).ne rfl).ne rfl)
    have s46_18 := m18 _ _ (At.hit z17.put.put.put.put.put.put.put rfl)
    clear m18
    refine qs (q_cell (.int .u32 ((up (beginL true K B) K (fun x => rotl x 1) k).getD (k + K + 13) 0)) rfl Tryd.underlying63 s46_18.ev (fun _ h => nums_cell (h.blk kg3_16) (k + K + 13) (by rw [(up_len _ K _ (beginL_len true K B) _)]; omega)) ?_)
    refine qs (q_xor rfl (s43_18.ne rfl).ev (At.hit z18 rfl).ev ?_)
    refine qs (q_move _ _ rfl ((s5_18.ne rfl).ne rfl).ev ?_)
    refine qs (q_sub (((k + K + 7 : Nat) : Int)) rfl (At.hit z18.put.put rfl).ev rfl (i64_is (by omega) (by omega) (by omega)) ?_)
    refine qs (q_idx (j := k + K + 7) rfl Tryd.underlying80 sz63 ((((s3_18.ne rfl).ne rfl).ne rfl).ne rfl).ev (At.hit z18.put.put.put rfl).ev (by omega) ?_)
    refine qs (q_cell (.int .u32 ((up (beginL true K B) K (fun x => rotl x 1) k).getD (k + K + 7) 0)) rfl Tryd.underlying63 (At.hit z18.put.put.put.put rfl).ev (fun _ h => nums_cell (h.blk kg3_16) (k + K + 7) (by rw [(up_len _ K _ (beginL_len true K B) _)]; omega)) ?_)
    refine qs (q_xor rfl (((((At.hit z18.put rfl).ne rfl).ne rfl).ne rfl).ne rfl).ev (At.hit z18.put.put.put.put.put rfl).ev ?_)
    refine qs (q_move _ _ rfl (((((((s5_18.ne rfl).ne rfl).ne rfl).ne rfl).ne rfl).ne rfl).ne rfl).ev ?_)
    refine q_fresh z18.put.put.put.put.put.put.put.put ?_
    intro a19 z19 m19
    have s2_19 := m19 _ _ ((((((((s2_18.ne rfl).ne rfl).ne rfl).ne rfl).ne rfl).ne rfl).ne rfl).ne rfl)
    have s3_19 := m19 _ _ ((((((((s3_18.ne rfl).ne rfl).ne rfl).ne rfl).ne rfl).ne rfl).ne rfl).ne rfl)
    have s4_19 := m19 _ _ ((((((((s4_18.ne rfl).ne rfl).ne rfl).ne rfl).ne rfl).ne rfl).ne rfl).ne rfl)
    have s5_19 := m19 _ _ ((((((((s5_18.ne rfl).ne rfl).ne rfl).ne rfl).ne rfl).ne rfl).ne rfl).ne rfl)
    have s39_19 := m19 _ _ ((((((((s39_18.ne rfl).ne rfl).ne rfl).ne rfl).ne rfl).ne rfl).ne rfl).ne rfl)
    have s53_19 := m19 _ _ ((At.hit z18.put.put.put.put.put.put rfl).ne rfl)
    have s54_19 := m19 _ _ (At.hit z18.put.put.put.put.put.put.put rfl)
    clear m19
    refine qs (q_sub (((k + K + 5 : Nat) : Int)) rfl s54_19.ev rfl (i64_is (by omega) (by omega) (by omega)) ?_)
    refine qs (q_idx (j := k + K + 5) rfl Tryd.underlying80 sz63 (s3_19.ne rfl).ev (At.hit z19 rfl).ev (by omega) ?_)
    refine qs (q_cell (.int .u32 ((up (beginL true K B) K (fun x => rotl x 1) k).getD (k + K + 5) 0)) rfl Tryd.underlying63 (At.hit z19.put rfl).ev (fun _ h => nums_cell (h.blk kg3_16) (k + K + 5) (by rw [(up_len _ K _ (beginL_len true K B) _)]; omega)) ?_)
    refine qs (q_xor rfl (((s53_19.ne rfl).ne rfl).ne rfl).ev (At.hit z19.put.put rfl).ev ?_)
    refine qs (q_call (.int .u32 (rotl (Go.bits .xor .u32 (Go.bits .xor .u32 (Go.bits .xor .u32 ((up (beginL true K B) K (fun x => rotl x 1) k).getD (k + K + 18) 0) ((up (beginL true K B) K (fun x => rotl x 1) k).getD (k + K + 13) 0)) ((up (beginL true K B) K (fun x => rotl x 1) k).getD (k + K + 7) 0)) ((up (beginL true K B) K (fun x => rotl x 1) k).getD (k + K + 5) 0)) 1)) rfl rfl Tryd.func44 rfl (args2 rfl (At.hit z19.put.put.put rfl).ev rfl) (fun _ h => (RotL.calls (Go.bits .xor .u32 (Go.bits .xor .u32 (Go.bits .xor .u32 ((up (beginL true K B) K (fun x => rotl x 1) k).getD (k + K + 18) 0) ((up (beginL true K B) K (fun x => rotl x 1) k).getD (k + K + 13) 0)) ((up (beginL true K B) K (fun x => rotl x 1) k).getD (k + K + 7) 0)) ((up (beginL true K B) K (fun x => rotl x 1) k).getD (k + K + 5) 0)) 1 _).mono fun _ _ ⟨e, k⟩ => ⟨e, h.trans k⟩) ?_)
    refine qs (q_idx (j := k + K + 21) rfl Tryd.underlying80 sz63 (((((s3_19.ne rfl).ne rfl).ne rfl).ne rfl).ne rfl).ev (((((s39_19.ne rfl).ne rfl).ne rfl).ne rfl).ne rfl).ev (by omega) ?_)
    refine qz ?_
    intro w20 h20
    have kg2_20 := h20.blk kg2_16
    have kg3_20 := h20.blk kg3_16
    refine l_cell (j := (k + K + 21)) (v := .int .u32 (rotl (Go.bits .xor .u32 (Go.bits .xor .u32 (Go.bits .xor .u32 ((up (beginL true K B) K (fun x => rotl x 1) k).getD (k + K + 18) 0) ((up (beginL true K B) K (fun x => rotl x 1) k).getD (k + K + 13) 0)) ((up (beginL true K B) K (fun x => rotl x 1) k).getD (k + K + 7) 0)) ((up (beginL true K B) K (fun x => rotl x 1) k).getD (k + K + 5) 0)) 1)) rfl rfl rfl sz63 (At.hit z19.put.put.put.put.put rfl).ev ((At.hit z19.put.put.put.put rfl).ne rfl).ev rfl kg3_20 (by rw [(nums_size _ _).trans (up_len _ K _ (beginL_len true K B) _)]; omega) ?_
    intro w21 k21 u21
    rw [nums_put] at k21
    have kg2_21 := u21.blk kg2_20 (by omega)
    refine l_end ?_
    refine e_fresh z19.put.put.put.put.put.put ?_
    intro a22 z22 m22
    have s2_22 := m22 _ _ ((((((s2_19.ne rfl).ne rfl).ne rfl).ne rfl).ne rfl).ne rfl)
    have s3_22 := m22 _ _ ((((((s3_19.ne rfl).ne rfl).ne rfl).ne rfl).ne rfl).ne rfl)
    have s4_22 := m22 _ _ ((((((s4_19.ne rfl).ne rfl).ne rfl).ne rfl).ne rfl).ne rfl)
    have s5_22 := m22 _ _ ((((((s5_19.ne rfl).ne rfl).ne rfl).ne rfl).ne rfl).ne rfl)
    have low22 := ((low16.trans h20).upd u21 geg3)
    clear m22
    refine e_in ?_
    refine e_then ?_
    refine c_region ?_
    refine l_q rfl (q_move _ _ rfl s5_22.ev ?_)
    refine l_q rfl (q_add (((k + K + 22 : Nat) : Int)) rfl (At.hit z22 rfl).ev rfl (i64_is (by omega) (by omega) (by omega)) ?_)
    refine l_q rfl (q_assign _ _ rfl (At.hit z22.put rfl).ev ?_)
    refine l_end ?_
    refine e_fresh z22.put.put.put ?_
    intro a23 z23 m23
    have s2_23 := m23 _ _ (((s2_22.ne rfl).ne rfl).ne rfl)
    have s3_23 := m23 _ _ (((s3_22.ne rfl).ne rfl).ne rfl)
    have s4_23 := m23 _ _ (((s4_22.ne rfl).ne rfl).ne rfl)
    have s5_23 := m23 _ _ (At.hit z22.put.put rfl)
    clear m23
    exact ⟨z23, s2_23, s3_23, s4_23, (s5_23.same (congrArg (Value.int .i64) (by omega))), kg2_21, k21, low22⟩
  · intro a24 w24 h
    obtain ⟨z24, s2_24, s3_24, s4_24, s5_24, kg2_24, kg3_24, low24⟩ := h
    clear k13 kg2_13 low14 s2_15 s3_15 s4_15 s5_15 z15
    have s5_24 := s5_24.same (congrArg (Value.int .i64) (show _ = (85 : Int) by omega))
    refine c_seq ?_
    refine c_seq ?_
    refine c_region ?_
    refine l_q rfl (q_move _ _ rfl s5_24.ev ?_)
    refine l_q rfl (q_lss false rfl (At.hit z24 rfl).ev rfl (decide_eq_false (by omega)) ?_)
    refine l_end ?_
    refine e_fresh z24.put.put ?_
    intro a25 z25 m25
    have s2_25 := m25 _ _ ((s2_24.ne rfl).ne rfl)
    have s3_25 := m25 _ _ ((s3_24.ne rfl).ne rfl)
    have s4_25 := m25 _ _ ((s4_24.ne rfl).ne rfl)
    have s5_25 := m25 _ _ ((s5_24.ne rfl).ne rfl)
    have s36_25 := m25 _ _ (At.hit z24.put rfl)
    clear m25
    refine e_then ?_
    refine c_false s36_25 ?_
    refine wp_exit ?_
    refine x_then ?_
    refine x_then ?_
    refine in_exit ?_
    refine e_then ?_
    refine c_seq ?_
    refine c_seq ?_
    refine c_region ?_
    refine l_q rfl (q_move _ _ rfl s4_25.ev ?_)
    refine l_q rfl (q_sub (((K + 4 : Nat) : Int)) rfl (At.hit z25 rfl).ev rfl (i64_is (by omega) (by omega) (by omega)) ?_)
    refine l_q rfl (q_assign _ _ rfl (At.hit z25.put rfl).ev ?_)
    refine l_end ?_
    refine e_fresh z25.put.put.put ?_
    intro a26 z26 m26
    have s2_26 := m26 _ _ (((s2_25.ne rfl).ne rfl).ne rfl)
    have s3_26 := m26 _ _ (((s3_25.ne rfl).ne rfl).ne rfl)
    have s6_26 := m26 _ _ (At.hit z25.put.put rfl)
    clear m26
    refine e_then ?_
    refine wp_block ?_
    refine c_loop (K + 5) (fun k a w => Fr 90 a ∧ At a 2 (.pointer (some ⟨g2, 0, none⟩)) ∧ At a 3 (.pointer (some ⟨g3, 0, none⟩)) ∧ At a 6 (.int .i64 (((K : Nat) : Int) + 4 - ((k : Nat) : Int))) ∧ w.heap[g2]? = some (.cells (nums .u32 (List.replicate 85 0)) 80) ∧ w.heap[g3]? = some (.cells (nums .u32 (dnL (up (beginL true K B) K (fun x => rotl x 1) (64 - K)) K k)) 80) ∧ Low w0 w) ?_ ?_ ?_
    · exact ⟨z26, s2_26, s3_26, (s6_26.same (congrArg (Value.int .i64) (by omega))), kg2_24, kg3_24, low24⟩
    · intro k a27 w27 hk27 h
      obtain ⟨z27, s2_27, s3_27, s6_27, kg2_27, kg3_27, low27⟩ := h
      clear kg2_24 kg3_24 low24 s2_26 s3_26 s6_26 z26
      refine c_seq ?_
      refine c_seq ?_
      refine c_region ?_
      refine l_q rfl (q_move _ _ rfl s6_27.ev ?_)
      refine l_q rfl (q_geq true rfl (At.hit z27 rfl).ev rfl (decide_eq_true (by omega)) ?_)
      refine l_end ?_
      refine e_fresh z27.put.put ?_
      intro a28 z28 m28
      have s2_28 := m28 _ _ ((s2_27.ne rfl).ne rfl)
      have s3_28 := m28 _ _ ((s3_27.ne rfl).ne rfl)
      have s6_28 := m28 _ _ ((s6_27.ne rfl).ne rfl)
      have s64_28 := m28 _ _ (At.hit z27.put rfl)
      clear m28
      refine e_then ?_
      refine c_true s64_28 ?_
      refine wp_skip ?_
      refine e_then ?_
      refine c_seq ?_
      refine wp_block ?_
      refine region_low_tail 22 hm (by kernel_rfl) ?_
      simp only [List.take_succ_cons, List.take_zero, List.drop_succ_cons, List.drop_zero]
      refine qs (q_move _ _ rfl s6_28.ev ?_)
      refine qs (q_move _ _ rfl (s6_28.ne rfl).ev ?_)
      refine qs (q_add ((((K : Nat) : Int) + 20 - ((k : Nat) : Int))) rfl (At.hit z28.put rfl).ev rfl (i64_is (by omega) (by omega) (by omega)) ?_)
      refine qs (q_idx (j := (K + 20) - k) rfl Tryd.underlying80 sz63 (((s3_28.ne rfl).ne rfl).ne rfl).ev ((At.hit z28.put.put rfl).same (congrArg (Value.int .i64) (show ((((K : Nat) : Int) + 20 - ((k : Nat) : Int)) : Int) = (((K + 20) - k : Nat) : Int) by omega))).ev (by omega) ?_)
      refine qs (q_cell (.int .u32 ((dnL (up (beginL true K B) K (fun x => rotl x 1) (64 - K)) K k).getD ((K + 20) - k) 0)) rfl Tryd.underlying63 (At.hit z28.put.put.put rfl).ev (fun _ h => nums_cell (h.blk kg3_27) ((K + 20) - k) (by rw [(dnL_len _ K (up_len _ K _ (beginL_len true K B) _) _)]; omega)) ?_)
      refine qs (q_call (.int .u32 (rotl ((dnL (up (beginL true K B) K (fun x => rotl x 1) (64 - K)) K k).getD ((K + 20) - k) 0) 31)) rfl rfl Tryd.func44 rfl (args2 rfl (At.hit z28.put.put.put.put rfl).ev rfl) (fun _ h => (RotL.calls ((dnL (up (beginL true K B) K (fun x => rotl x 1) (64 - K)) K k).getD ((K + 20) - k) 0) 31 _).mono fun _ _ ⟨e, k⟩ => ⟨e, h.trans k⟩) ?_)
      refine qs (q_move _ _ rfl ((((((s6_28.ne rfl).ne rfl).ne rfl).ne rfl).ne rfl).ne rfl).ev ?_)
      refine qs (q_add ((((K : Nat) : Int) + 17 - ((k : Nat) : Int))) rfl (At.hit z28.put.put.put.put.put.put rfl).ev rfl (i64_is (by omega) (by omega) (by omega)) ?_)
      refine q_fresh z28.put.put.put.put.put.put.put.put ?_
      intro a29 z29 m29
      have s2_29 := m29 _ _ ((((((((s2_28.ne rfl).ne rfl).ne rfl).ne rfl).ne rfl).ne rfl).ne rfl).ne rfl)
      have s3_29 := m29 _ _ ((((((((s3_28.ne rfl).ne rfl).ne rfl).ne rfl).ne rfl).ne rfl).ne rfl).ne rfl)
      have s6_29 := m29 _ _ ((((((((s6_28.ne rfl).ne rfl).ne rfl).ne rfl).ne rfl).ne rfl).ne rfl).ne rfl)
      have s67_29 := m29 _ _ ((((((((At.hit z28 rfl).ne rfl).ne rfl).ne rfl).ne rfl).ne rfl).ne rfl).ne rfl)
      have s72_29 := m29 _ _ (((At.hit z28.put.put.put.put.put rfl).ne rfl).ne rfl)
      have s74_29 := m29 _ _ (At.hit z28.put.put.put.put.put.put.put rfl)
      clear m29
      refine qs (q_idx (j := (K + 17) - k) rfl Tryd.underlying80 sz63 s3_29.ev (s74_29.same (congrArg (Value.int .i64) (show ((((K : Nat) : Int) + 17 - ((k : Nat) : Int)) : Int) = (((K + 17) - k : Nat) : Int) by omega))).ev (by omega) ?_)
      refine qs (q_cell (.int .u32 ((dnL (up (beginL true K B) K (fun x => rotl x 1) (64 - K)) K k).getD ((K + 17) - k) 0)) rfl Tryd.underlying63 (At.hit z29 rfl).ev (fun _ h => nums_cell (h.blk kg3_27) ((K + 17) - k) (by rw [(dnL_len _ K (up_len _ K _ (beginL_len true K B) _) _)]; omega)) ?_)
      refine qs (q_xor rfl ((s72_29.ne rfl).ne rfl).ev (At.hit z29.put rfl).ev ?_)
      refine qs (q_move _ _ rfl (((s6_29.ne rfl).ne rfl).ne rfl).ev ?_)
      refine qs (q_add ((((K : Nat) : Int) + 12 - ((k : Nat) : Int))) rfl (At.hit z29.put.put.put rfl).ev rfl (i64_is (by omega) (by omega) (by omega)) ?_)
      refine qs (q_idx (j := (K + 12) - k) rfl Tryd.underlying80 sz63 (((((s3_29.ne rfl).ne rfl).ne rfl).ne rfl).ne rfl).ev ((At.hit z29.put.put.put.put rfl).same (congrArg (Value.int .i64) (show ((((K : Nat) : Int) + 12 - ((k : Nat) : Int)) : Int) = (((K + 12) - k : Nat) : Int) by omega))).ev (by omega) ?_)
      refine qs (q_cell (.int .u32 ((dnL (up (beginL true K B) K (fun x => rotl x 1) (64 - K)) K k).getD ((K + 12) - k) 0)) rfl Tryd.underlying63 (At.hit z29.put.put.put.put.put rfl).ev (fun _ h => nums_cell (h.blk kg3_27) ((K + 12) - k) (by rw [(dnL_len _ K (up_len _ K _ (beginL_len true K B) _) _)]; omega)) ?_)
      refine qs (q_xor rfl (((((At.hit z29.put.put rfl).ne rfl).ne rfl).ne rfl).ne rfl).ev (At.hit z29.put.put.put.put.put.put rfl).ev ?_)
      refine q_fresh z29.put.put.put.put.put.put.put.put ?_
      intro a30 z30 m30
      have s2_30 := m30 _ _ ((((((((s2_29.ne rfl).ne rfl).ne rfl).ne rfl).ne rfl).ne rfl).ne rfl).ne rfl)
      have s3_30 := m30 _ _ ((((((((s3_29.ne rfl).ne rfl).ne rfl).ne rfl).ne rfl).ne rfl).ne rfl).ne rfl)
      have s6_30 := m30 _ _ ((((((((s6_29.ne rfl).ne rfl).ne rfl).ne rfl).ne rfl).ne rfl).ne rfl).ne rfl)
      have s67_30 := m30 _ _ ((((((((s67_29.ne rfl).ne rfl).ne rfl).ne rfl).ne rfl).ne rfl).ne rfl).ne rfl)
      have s82_30 := m30 _ _ (At.hit z29.put.put.put.put.put.put.put rfl)
      clear m30
      refine qs (q_move _ _ rfl s6_30.ev ?_)
      refine qs (q_add ((((K : Nat) : Int) + 6 - ((k : Nat) : Int))) rfl (At.hit z30 rfl).ev rfl (i64_is (by omega) (by omega) (by omega)) ?_)
      refine qs (q_idx (j := (K + 6) - k) rfl Tryd.underlying80 sz63 ((s3_30.ne rfl).ne rfl).ev ((At.hit z30.put rfl).same (congrArg (Value.int .i64) (show ((((K : Nat) : Int) + 6 - ((k : Nat) : Int)) : Int) = (((K + 6) - k : Nat) : Int) by omega))).ev (by omega) ?_)
      refine qs (q_cell (.int .u32 ((dnL (up (beginL true K B) K (fun x => rotl x 1) (64 - K)) K k).getD ((K + 6) - k) 0)) rfl Tryd.underlying63 (At.hit z30.put.put rfl).ev (fun _ h => nums_cell (h.blk kg3_27) ((K + 6) - k) (by rw [(dnL_len _ K (up_len _ K _ (beginL_len true K B) _) _)]; omega)) ?_)
      refine qs (q_xor rfl ((((s82_30.ne rfl).ne rfl).ne rfl).ne rfl).ev (At.hit z30.put.put.put rfl).ev ?_)
      refine qs (q_idx (j := (K + 4) - k) rfl Tryd.underlying80 sz63 (((((s3_30.ne rfl).ne rfl).ne rfl).ne rfl).ne rfl).ev ((((((s67_30.ne rfl).ne rfl).ne rfl).ne rfl).ne rfl).same (congrArg (Value.int .i64) (show ((((K : Nat) : Int) + 4 - ((k : Nat) : Int)) : Int) = (((K + 4) - k : Nat) : Int) by omega))).ev (by omega) ?_)
      refine qz ?_
      intro w31 h31
      have kg2_31 := h31.blk kg2_27
      have kg3_31 := h31.blk kg3_27
      refine l_cell (j := ((K + 4) - k)) (v := .int .u32 (Go.bits .xor .u32 (Go.bits .xor .u32 (Go.bits .xor .u32 (rotl ((dnL (up (beginL true K B) K (fun x => rotl x 1) (64 - K)) K k).getD ((K + 20) - k) 0) 31) ((dnL (up (beginL true K B) K (fun x => rotl x 1) (64 - K)) K k).getD ((K + 17) - k) 0)) ((dnL (up (beginL true K B) K (fun x => rotl x 1) (64 - K)) K k).getD ((K + 12) - k) 0)) ((dnL (up (beginL true K B) K (fun x => rotl x 1) (64 - K)) K k).getD ((K + 6) - k) 0))) rfl rfl rfl sz63 (At.hit z30.put.put.put.put.put rfl).ev ((At.hit z30.put.put.put.put rfl).ne rfl).ev rfl kg3_31 (by rw [(nums_size _ _).trans (dnL_len _ K (up_len _ K _ (beginL_len true K B) _) _)]; omega) ?_
      intro w32 k32 u32
      rw [nums_put] at k32
      have kg2_32 := u32.blk kg2_31 (by omega)
      refine l_end ?_
      refine e_fresh z30.put.put.put.put.put.put ?_
      intro a33 z33 m33
      have s2_33 := m33 _ _ ((((((s2_30.ne rfl).ne rfl).ne rfl).ne rfl).ne rfl).ne rfl)
      have s3_33 := m33 _ _ ((((((s3_30.ne rfl).ne rfl).ne rfl).ne rfl).ne rfl).ne rfl)
      have s6_33 := m33 _ _ ((((((s6_30.ne rfl).ne rfl).ne rfl).ne rfl).ne rfl).ne rfl)
      have low33 := ((low27.trans h31).upd u32 geg3)
      clear m33
      refine e_in ?_
      refine e_then ?_
      refine c_region ?_
      refine l_q rfl (q_move _ _ rfl s6_33.ev ?_)
      refine l_q rfl (q_sub ((((K : Nat) : Int) + 3 - ((k : Nat) : Int))) rfl (At.hit z33 rfl).ev rfl (i64_is (by omega) (by omega) (by omega)) ?_)
      refine l_q rfl (q_assign _ _ rfl (At.hit z33.put rfl).ev ?_)
      refine l_end ?_
      refine e_fresh z33.put.put.put ?_
      intro a34 z34 m34
      have s2_34 := m34 _ _ (((s2_33.ne rfl).ne rfl).ne rfl)
      have s3_34 := m34 _ _ (((s3_33.ne rfl).ne rfl).ne rfl)
      have s6_34 := m34 _ _ (At.hit z33.put.put rfl)
      clear m34
      exact ⟨z34, s2_34, s3_34, (s6_34.same (congrArg (Value.int .i64) (by omega))), kg2_32, k32, low33⟩
    · intro a35 w35 h
      obtain ⟨z35, s2_35, s3_35, s6_35, kg2_35, kg3_35, low35⟩ := h
      clear kg2_24 kg3_24 low24 s2_26 s3_26 s6_26 z26
      have s6_35 := s6_35.same (congrArg (Value.int .i64) (show _ = ((-1) : Int) by omega))
      refine c_seq ?_
      refine c_seq ?_
      refine c_region ?_
      refine l_q rfl (q_move _ _ rfl s6_35.ev ?_)
      refine l_q rfl (q_geq false rfl (At.hit z35 rfl).ev rfl (decide_eq_false (by omega)) ?_)
      refine l_end ?_
      refine e_fresh z35.put.put ?_
      intro a36 z36 m36
      have s2_36 := m36 _ _ ((s2_35.ne rfl).ne rfl)
      have s3_36 := m36 _ _ ((s3_35.ne rfl).ne rfl)
      have s6_36 := m36 _ _ ((s6_35.ne rfl).ne rfl)
      have s64_36 := m36 _ _ (At.hit z35.put rfl)
      clear m36
      refine e_then ?_
      refine c_false s64_36 ?_
      refine wp_exit ?_
      refine x_then ?_
      refine x_then ?_
      refine in_exit ?_
      refine e_then ?_
      refine c_seq ?_
      refine c_region ?_
      refine l_q rfl (q_row rfl Tryd.underlying80 rfl (sz80.trans (congrArg some ((nums_size _ _).trans (dnL_len _ K (up_len _ K _ (beginL_len true K B) _) _)).symm)) s3_36.ev (fun _ e => by rw [e]; exact kg3_35) ?_)
      refine l_row rfl rfl rfl (sz80.trans (congrArg some ((nums_size _ _).trans (dnL_len _ K (up_len _ K _ (beginL_len true K B) _) _)).symm)) (s2_36.ne rfl).ev (At.hit z36 rfl).ev (nums_one _ _) kg2_35 (((nums_size _ _).trans (List.length_replicate)).trans ((nums_size _ _).trans (dnL_len _ K (up_len _ K _ (beginL_len true K B) _) _)).symm) ?_
      intro w37 k37 u37
      have kg3_37 := u37.blk kg3_35 (by omega)
      refine l_end ?_
      refine e_fresh z36.put ?_
      intro a38 z38 m38
      have s2_38 := m38 _ _ (s2_36.ne rfl)
      have low38 := (low35.upd u37 geg2)
      clear m38
      refine e_then ?_
      refine wp_ret ?_
      refine r_cell rfl z38.defers s2_38 k37 Tryd.underlying80 rfl (sz80.trans (congrArg some ((nums_size _ _).trans (dnL_len _ K (up_len _ K _ (beginL_len true K B) _) _)).symm)) ?_
      exact ⟨rfl, low38⟩
theorem DL_1.calls (K B : Nat) (hK : K ≤ 64) (hB : B ≤ 31) (w0 : World) : Calls Tryd.prog 33 #[.agg #[.int .i64 1, .int .i64 (K : Int), .int .i64 (B : Int)]] w0 fun e w' => e = .returned (.agg (nums .u32 (diffL (rowL false K B) 80))) ∧ Low w0 w' := by
  refine c_fun (R := _) Tryd.func33 rfl 77 rfl (Nat.le_of_ble_eq_true rfl) ?_
  intro a z hA
  have s0 := hA 0 _ rfl
  clear hA
  refine c_seq ?_
  refine c_region ?_
  refine l_box rfl rfl s0.ev ?_
  intro g1 w1 hg1 k1 h1
  have geg1 := Nat.le_trans (Low.refl _).ge hg1
  refine l_alloc rfl rfl zero65 ?_
  intro g2 w2 hg2 k2 h2
  have lt_g1_g2 := Nat.lt_of_lt_of_le (heap_lt k1) hg2
  have geg2 := Nat.le_trans h1.ge hg2
  have kg1_2 := h2.blk k1
  refine l_end ?_
  refine e_fresh z.put.put ?_
  intro a3 z3 m3
  have s1_3 := m3 _ _ ((At.hit z rfl).ne rfl)
  have s2_3 := m3 _ _ (At.hit z.put rfl)
  have low3 := (h1.trans h2)
  clear m3
  refine e_then ?_
  refine c_seq ?_
  refine c_region ?_
  refine l_alloc rfl rfl zero65 ?_
  intro g3 w4 hg4 k4 h4
  have lt_g1_g3 := Nat.lt_of_lt_of_le (heap_lt kg1_2) hg4
  have lt_g2_g3 := Nat.lt_of_lt_of_le (heap_lt k2) hg4
  have geg3 := Nat.le_trans low3.ge hg4
  have kg1_4 := h4.blk kg1_2
  have kg2_4 := h4.blk k2
  refine l_end ?_
  refine e_fresh z3.put ?_
  intro a5 z5 m5
  have s1_5 := m5 _ _ (s1_3.ne rfl)
  have s2_5 := m5 _ _ (s2_3.ne rfl)
  have s3_5 := m5 _ _ (At.hit z3 rfl)
  have low5 := (low3.trans h4)
  clear m5
  refine e_then ?_
  refine c_seq ?_
  refine c_seq ?_
  refine c_region ?_
  refine l_q rfl (q_fld 0 rfl (by kernel_rfl) s1_5.ev ?_)
  refine l_q rfl (q_cell (.int .i64 1) rfl Tryd.underlying3 (At.hit z5 rfl).ev (fun _ e => by rw [e]; exact (cells_at kg1_4 0).trans rfl) ?_)
  refine l_q rfl (q_lss false rfl (At.hit z5.put rfl).ev rfl (decide_eq_false (by omega)) ?_)
  refine l_q rfl (q_move _ _ rfl (At.hit z5.put.put rfl).ev ?_)
  refine l_qg (wanted_is (j := 3) (d := 10) (b := false) rfl rfl (At.hit z5.put.put.put rfl) rfl) (q_fld 0 rfl (by kernel_rfl) ((((s1_5.ne rfl).ne rfl).ne rfl).ne rfl).ev ?_)
  refine l_qg (wanted_is (j := 3) (d := 10) (b := false) rfl rfl ((At.hit z5.put.put.put rfl).ne rfl) rfl) (q_cell (.int .i64 1) rfl Tryd.underlying3 (At.hit z5.put.put.put.put rfl).ev (fun _ e => by rw [e]; exact (cells_at kg1_4 0).trans rfl) ?_)
  refine l_qg (wanted_is (j := 3) (d := 10) (b := false) rfl rfl (((At.hit z5.put.put.put rfl).ne rfl).ne rfl) rfl) (q_gtr false rfl (At.hit z5.put.put.put.put.put rfl).ev rfl (decide_eq_false (by omega)) ?_)
  refine l_q rfl (q_pick (b := false) (.bool false) rfl ((((At.hit z5.put.put.put rfl).ne rfl).ne rfl).ne rfl).ev (At.hit z5.put.put.put.put.put.put rfl).ev ?_)
  refine l_fresh z5.put.put.put.put.put.put.put.put ?_
  intro a6 z6 m6
  have s1_6 := m6 _ _ ((((((((s1_5.ne rfl).ne rfl).ne rfl).ne rfl).ne rfl).ne rfl).ne rfl).ne rfl)
  have s2_6 := m6 _ _ ((((((((s2_5.ne rfl).ne rfl).ne rfl).ne rfl).ne rfl).ne rfl).ne rfl).ne rfl)
  have s3_6 := m6 _ _ ((((((((s3_5.ne rfl).ne rfl).ne rfl).ne rfl).ne rfl).ne rfl).ne rfl).ne rfl)
  have s14_6 := m6 _ _ (At.hit z5.put.put.put.put.put.put.put rfl)
  clear m6
  refine l_q rfl (q_move _ _ rfl s14_6.ev ?_)
  refine l_qg (wanted_is (j := 8) (d := 15) (b := false) rfl rfl (At.hit z6 rfl) rfl) (q_fld 1 rfl (by kernel_rfl) (s1_6.ne rfl).ev ?_)
  refine l_qg (wanted_is (j := 8) (d := 15) (b := false) rfl rfl ((At.hit z6 rfl).ne rfl) rfl) (q_cell (.int .i64 ((K : Nat) : Int)) rfl Tryd.underlying3 (At.hit z6.put rfl).ev (fun _ e => by rw [e]; exact (cells_at kg1_4 1).trans rfl) ?_)
  refine l_qg (wanted_is (j := 8) (d := 15) (b := false) rfl rfl (((At.hit z6 rfl).ne rfl).ne rfl) rfl) (q_lss false rfl (At.hit z6.put.put rfl).ev rfl (decide_eq_false (by omega)) ?_)
  refine l_q rfl (q_pick (b := false) (.bool false) rfl ((((At.hit z6 rfl).ne rfl).ne rfl).ne rfl).ev (At.hit z6.put.put.put rfl).ev ?_)
  refine l_q rfl (q_move _ _ rfl (At.hit z6.put.put.put.put rfl).ev ?_)
  refine l_qg (wanted_is (j := 13) (d := 20) (b := false) rfl rfl (At.hit z6.put.put.put.put.put rfl) rfl) (q_fld 1 rfl (by kernel_rfl) ((((((s1_6.ne rfl).ne rfl).ne rfl).ne rfl).ne rfl).ne rfl).ev ?_)
  refine l_qg (wanted_is (j := 13) (d := 20) (b := false) rfl rfl ((At.hit z6.put.put.put.put.put rfl).ne rfl) rfl) (q_cell (.int .i64 ((K : Nat) : Int)) rfl Tryd.underlying3 (At.hit z6.put.put.put.put.put.put rfl).ev (fun _ e => by rw [e]; exact (cells_at kg1_4 1).trans rfl) ?_)
  refine l_fresh z6.put.put.put.put.put.put.put.put ?_
  intro a7 z7 m7
  have s1_7 := m7 _ _ ((((((((s1_6.ne rfl).ne rfl).ne rfl).ne rfl).ne rfl).ne rfl).ne rfl).ne rfl)
  have s2_7 := m7 _ _ ((((((((s2_6.ne rfl).ne rfl).ne rfl).ne rfl).ne rfl).ne rfl).ne rfl).ne rfl)
  have s3_7 := m7 _ _ ((((((((s3_6.ne rfl).ne rfl).ne rfl).ne rfl).ne rfl).ne rfl).ne rfl).ne rfl)
  have s20_7 := m7 _ _ (((At.hit z6.put.put.put.put.put rfl).ne rfl).ne rfl)
  have s22_7 := m7 _ _ (At.hit z6.put.put.put.put.put.put.put rfl)
  clear m7
  refine l_qg (wanted_is (j := 13) (d := 20) (b := false) rfl rfl s20_7 rfl) (q_gtr false rfl s22_7.ev rfl (decide_eq_false (by omega)) ?_)
  refine l_q rfl (q_pick (b := false) (.bool false) rfl (s20_7.ne rfl).ev (At.hit z7 rfl).ev ?_)
  refine l_q rfl (q_move _ _ rfl (At.hit z7.put rfl).ev ?_)
  refine l_qg (wanted_is (j := 18) (d := 25) (b := false) rfl rfl (At.hit z7.put.put rfl) rfl) (q_fld 2 rfl (by kernel_rfl) (((s1_7.ne rfl).ne rfl).ne rfl).ev ?_)
  refine l_qg (wanted_is (j := 18) (d := 25) (b := false) rfl rfl ((At.hit z7.put.put rfl).ne rfl) rfl) (q_cell (.int .i64 ((B : Nat) : Int)) rfl Tryd.underlying3 (At.hit z7.put.put.put rfl).ev (fun _ e => by rw [e]; exact (cells_at kg1_4 2).trans rfl) ?_)
  refine l_qg (wanted_is (j := 18) (d := 25) (b := false) rfl rfl (((At.hit z7.put.put rfl).ne rfl).ne rfl) rfl) (q_lss false rfl (At.hit z7.put.put.put.put rfl).ev rfl (decide_eq_false (by omega)) ?_)
  refine l_q rfl (q_pick (b := false) (.bool false) rfl ((((At.hit z7.put.put rfl).ne rfl).ne rfl).ne rfl).ev (At.hit z7.put.put.put.put.put rfl).ev ?_)
  refine l_q rfl (q_move _ _ rfl (At.hit z7.put.put.put.put.put.put rfl).ev ?_)
  refine l_fresh z7.put.put.put.put.put.put.put.put ?_
  intro a8 z8 m8
  have s1_8 := m8 _ _ ((((((((s1_7.ne rfl).ne rfl).ne rfl).ne rfl).ne rfl).ne rfl).ne rfl).ne rfl)
  have s2_8 := m8 _ _ ((((((((s2_7.ne rfl).ne rfl).ne rfl).ne rfl).ne rfl).ne rfl).ne rfl).ne rfl)
  have s3_8 := m8 _ _ ((((((((s3_7.ne rfl).ne rfl).ne rfl).ne rfl).ne rfl).ne rfl).ne rfl).ne rfl)
  have s30_8 := m8 _ _ (At.hit z7.put.put.put.put.put.put.put rfl)
  clear m8
  refine l_qg (wanted_is (j := 23) (d := 30) (b := false) rfl rfl s30_8 rfl) (q_fld 2 rfl (by kernel_rfl) s1_8.ev ?_)
  refine l_qg (wanted_is (j := 23) (d := 30) (b := false) rfl rfl (s30_8.ne rfl) rfl) (q_cell (.int .i64 ((B : Nat) : Int)) rfl Tryd.underlying3 (At.hit z8 rfl).ev (fun _ e => by rw [e]; exact (cells_at kg1_4 2).trans rfl) ?_)
  refine l_qg (wanted_is (j := 23) (d := 30) (b := false) rfl rfl ((s30_8.ne rfl).ne rfl) rfl) (q_gtr false rfl (At.hit z8.put rfl).ev rfl (decide_eq_false (by omega)) ?_)
  refine l_q rfl (q_pick (b := false) (.bool false) rfl (((s30_8.ne rfl).ne rfl).ne rfl).ev (At.hit z8.put.put rfl).ev ?_)
  refine l_end ?_
  refine e_fresh z8.put.put.put.put ?_
  intro a9 z9 m9
  have s1_9 := m9 _ _ ((((s1_8.ne rfl).ne rfl).ne rfl).ne rfl)
  have s2_9 := m9 _ _ ((((s2_8.ne rfl).ne rfl).ne rfl).ne rfl)
  have s3_9 := m9 _ _ ((((s3_8.ne rfl).ne rfl).ne rfl).ne rfl)
  have s34_9 := m9 _ _ (At.hit z8.put.put.put rfl)
  clear m9
  refine e_then ?_
  refine c_false s34_9 ?_
  refine wp_skip ?_
  refine e_then ?_
  refine c_seq ?_
  refine c_region ?_
  refine l_q rfl (q_row rfl Tryd.underlying62 rfl (sz62.trans (congrArg some rfl.symm)) s1_9.ev (fun _ e => by rw [e]; exact kg1_4) ?_)
  refine l_call (fun v w' => v = .agg (nums .u32 (rowL false K B)) ∧ Low w4 w') rfl rfl rfl Tryd.func43 rfl (args1 rfl (At.hit z9 rfl).ev) ((Row1.calls K B hK hB _).mono fun _ _ ⟨e, k⟩ => ⟨_, e, rfl, k⟩) ?_
  rintro _ w10 ⟨rfl, h10⟩
  have kg1_10 := h10.blk kg1_4
  have kg2_10 := h10.blk kg2_4
  have kg3_10 := h10.blk k4
  refine l_alloc rfl rfl zero80 ?_
  intro g4 w11 hg11 k11 h11
  have lt_g1_g4 := Nat.lt_of_lt_of_le (heap_lt kg1_10) hg11
  have lt_g2_g4 := Nat.lt_of_lt_of_le (heap_lt kg2_10) hg11
  have lt_g3_g4 := Nat.lt_of_lt_of_le (heap_lt kg3_10) hg11
  have geg4 := Nat.le_trans (low5.trans h10).ge hg11
  have kg1_11 := h11.blk kg1_10
  have kg2_11 := h11.blk kg2_10
  have kg3_11 := h11.blk kg3_10
  refine l_row rfl rfl rfl (sz80.trans (congrArg some ((nums_size _ _).trans (rowL_len false K B)).symm)) (At.hit z9.put.put rfl).ev ((At.hit z9.put rfl).ne rfl).ev (nums_one _ _) k11 (((nums_size _ _).trans (List.length_replicate)).trans ((nums_size _ _).trans (rowL_len false K B)).symm) ?_
  intro w12 k12 u12
  have kg1_12 := u12.blk kg1_11 (by omega)
  have kg2_12 := u12.blk kg2_11 (by omega)
  have kg3_12 := u12.blk kg3_11 (by omega)
  refine l_end ?_
  refine e_fresh z9.put.put.put ?_
  intro a13 z13 m13
  have s2_13 := m13 _ _ (((s2_9.ne rfl).ne rfl).ne rfl)
  have s3_13 := m13 _ _ (((s3_9.ne rfl).ne rfl).ne rfl)
  have s4_13 := m13 _ _ (At.hit z9.put.put rfl)
  have low13 := (((low5.trans h10).trans h11).upd u12 geg4)
  clear m13
  refine e_then ?_
  refine c_seq ?_
  refine c_seq ?_
  refine c_region ?_
  refine l_q rfl (q_move _ _ rfl rfl ?_)
  refine l_end ?_
  refine e_fresh z13.put ?_
  intro a14 z14 m14
  have s2_14 := m14 _ _ (s2_13.ne rfl)
  have s3_14 := m14 _ _ (s3_13.ne rfl)
  have s4_14 := m14 _ _ (s4_13.ne rfl)
  have s38_14 := m14 _ _ (At.hit z13 rfl)
  clear m14
  refine e_then ?_
  refine wp_block ?_
  refine c_loop 80 (fun t a w => Fr 77 a ∧ At a 2 (.pointer (some ⟨g2, 0, none⟩)) ∧ At a 3 (.pointer (some ⟨g3, 0, none⟩)) ∧ At a 4 (.pointer (some ⟨g4, 0, none⟩)) ∧ At a 38 (.int .i64 ((t : Nat) : Int)) ∧ w.heap[g2]? = some (.cells (nums .u32 (List.replicate 80 0)) 65) ∧ w.heap[g3]? = some (.cells (nums .u32 (diffL (rowL false K B) t)) 65) ∧ w.heap[g4]? = some (.cells (nums .u32 (rowL false K B)) 80) ∧ Low w0 w) ?_ ?_ ?_
  · exact ⟨z14, s2_14, s3_14, s4_14, s38_14, kg2_12, kg3_12, k12, low13⟩
  · intro t a15 w15 hk15 h
    obtain ⟨z15, s2_15, s3_15, s4_15, s38_15, kg2_15, kg3_15, kg4_15, low15⟩ := h
    clear k12 kg2_12 kg3_12 low13 s2_14 s38_14 s3_14 s4_14 z14
    refine c_seq ?_
    refine c_region ?_
    refine l_q rfl (q_lss true rfl s38_15.ev rfl (decide_eq_true (by omega)) ?_)
    refine l_end ?_
    refine e_fresh z15.put ?_
    intro a16 z16 m16
    have s2_16 := m16 _ _ (s2_15.ne rfl)
    have s3_16 := m16 _ _ (s3_15.ne rfl)
    have s4_16 := m16 _ _ (s4_15.ne rfl)
    have s38_16 := m16 _ _ (s38_15.ne rfl)
    have s39_16 := m16 _ _ (At.hit z15 rfl)
    clear m16
    refine e_then ?_
    refine c_seq ?_
    refine c_true s39_16 ?_
    refine wp_skip ?_
    refine e_then ?_
    refine c_seq ?_
    refine wp_block ?_
    refine c_seq ?_
    refine c_region ?_
    refine l_q rfl (q_move _ _ rfl s38_16.ev ?_)
    refine l_q rfl (q_assign _ _ rfl (At.hit z16 rfl).ev ?_)
    refine l_end ?_
    refine e_fresh z16.put.put ?_
    intro a17 z17 m17
    have s2_17 := m17 _ _ ((s2_16.ne rfl).ne rfl)
    have s3_17 := m17 _ _ ((s3_16.ne rfl).ne rfl)
    have s4_17 := m17 _ _ ((s4_16.ne rfl).ne rfl)
    have s5_17 := m17 _ _ (At.hit z16.put rfl)
    have s38_17 := m17 _ _ ((s38_16.ne rfl).ne rfl)
    clear m17
    refine e_then ?_
    refine c_seq ?_
    refine c_region ?_
    refine l_q rfl (q_move _ _ rfl s5_17.ev ?_)
    refine l_q rfl (q_add (((t + 5 : Nat) : Int)) rfl (At.hit z17 rfl).ev rfl (i64_is (by omega) (by omega) (by omega)) ?_)
    refine l_q rfl (q_assign _ _ rfl (At.hit z17.put rfl).ev ?_)
    refine l_end ?_
    refine e_fresh z17.put.put.put ?_
    intro a18 z18 m18
    have s2_18 := m18 _ _ (((s2_17.ne rfl).ne rfl).ne rfl)
    have s3_18 := m18 _ _ (((s3_17.ne rfl).ne rfl).ne rfl)
    have s4_18 := m18 _ _ (((s4_17.ne rfl).ne rfl).ne rfl)
    have s5_18 := m18 _ _ (((s5_17.ne rfl).ne rfl).ne rfl)
    have s6_18 := m18 _ _ (At.hit z17.put.put rfl)
    have s38_18 := m18 _ _ (((s38_17.ne rfl).ne rfl).ne rfl)
    clear m18
    refine e_then ?_
    refine region_low_tail 32 hm (by kernel_rfl) ?_
    simp only [List.take_succ_cons, List.take_zero, List.drop_succ_cons, List.drop_zero]
    refine qs (q_move _ _ rfl s5_18.ev ?_)
    refine qs (q_move _ _ rfl (s6_18.ne rfl).ev ?_)
    refine qs (q_idx (j := t + 5) rfl Tryd.underlying80 sz63 ((s4_18.ne rfl).ne rfl).ev (At.hit z18.put rfl).ev (by omega) ?_)
    refine qs (q_cell (.int .u32 ((rowL false K B).getD (t + 5) 0)) rfl Tryd.underlying63 (At.hit z18.put.put rfl).ev (fun _ h => nums_cell (h.blk kg4_15) (t + 5) (by rw [(rowL_len false K B)]; omega)) ?_)
    refine qs (q_move _ _ rfl ((((s6_18.ne rfl).ne rfl).ne rfl).ne rfl).ev ?_)
    refine qs (q_sub (((t + 4 : Nat) : Int)) rfl (At.hit z18.put.put.put.put rfl).ev rfl (i64_is (by omega) (by omega) (by omega)) ?_)
    refine qs (q_idx (j := t + 4) rfl Tryd.underlying80 sz63 ((((((s4_18.ne rfl).ne rfl).ne rfl).ne rfl).ne rfl).ne rfl).ev (At.hit z18.put.put.put.put.put rfl).ev (by omega) ?_)
    refine qs (q_cell (.int .u32 ((rowL false K B).getD (t + 4) 0)) rfl Tryd.underlying63 (At.hit z18.put.put.put.put.put.put rfl).ev (fun _ h => nums_cell (h.blk kg4_15) (t + 4) (by rw [(rowL_len false K B)]; omega)) ?_)
    refine q_fresh z18.put.put.put.put.put.put.put.put ?_
    intro a19 z19 m19
    have s2_19 := m19 _ _ ((((((((s2_18.ne rfl).ne rfl).ne rfl).ne rfl).ne rfl).ne rfl).ne rfl).ne rfl)
    have s3_19 := m19 _ _ ((((((((s3_18.ne rfl).ne rfl).ne rfl).ne rfl).ne rfl).ne rfl).ne rfl).ne rfl)
    have s4_19 := m19 _ _ ((((((((s4_18.ne rfl).ne rfl).ne rfl).ne rfl).ne rfl).ne rfl).ne rfl).ne rfl)
    have s6_19 := m19 _ _ ((((((((s6_18.ne rfl).ne rfl).ne rfl).ne rfl).ne rfl).ne rfl).ne rfl).ne rfl)
    have s38_19 := m19 _ _ ((((((((s38_18.ne rfl).ne rfl).ne rfl).ne rfl).ne rfl).ne rfl).ne rfl).ne rfl)
    have s43_19 := m19 _ _ ((((((((At.hit z18 rfl).ne rfl).ne rfl).ne rfl).ne rfl).ne rfl).ne rfl).ne rfl)
    have s46_19 := m19 _ _ (((((At.hit z18.put.put.put rfl).ne rfl).ne rfl).ne rfl).ne rfl)
    have s50_19 := m19 _ _ (At.hit z18.put.put.put.put.put.put.put rfl)
    clear m19
    refine qs (q_call (.int .u32 (rotl ((rowL false K B).getD (t + 4) 0) 5)) rfl rfl Tryd.func44 rfl (args2 rfl s50_19.ev rfl) (fun _ h => (RotL.calls ((rowL false K B).getD (t + 4) 0) 5 _).mono fun _ _ ⟨e, k⟩ => ⟨e, h.trans k⟩) ?_)
    refine qs (q_xor rfl (s46_19.ne rfl).ev (At.hit z19 rfl).ev ?_)
    refine qs (q_move _ _ rfl ((s6_19.ne rfl).ne rfl).ev ?_)
    refine qs (q_sub (((t + 3 : Nat) : Int)) rfl (At.hit z19.put.put rfl).ev rfl (i64_is (by omega) (by omega) (by omega)) ?_)
    refine qs (q_idx (j := t + 3) rfl Tryd.underlying80 sz63 ((((s4_19.ne rfl).ne rfl).ne rfl).ne rfl).ev (At.hit z19.put.put.put rfl).ev (by omega) ?_)
    refine qs (q_cell (.int .u32 ((rowL false K B).getD (t + 3) 0)) rfl Tryd.underlying63 (At.hit z19.put.put.put.put rfl).ev (fun _ h => nums_cell (h.blk kg4_15) (t + 3) (by rw [(rowL_len false K B)]; omega)) ?_)
    refine qs (q_xor rfl (((((At.hit z19.put rfl).ne rfl).ne rfl).ne rfl).ne rfl).ev (At.hit z19.put.put.put.put.put rfl).ev ?_)
    refine qs (q_move _ _ rfl (((((((s6_19.ne rfl).ne rfl).ne rfl).ne rfl).ne rfl).ne rfl).ne rfl).ev ?_)
    refine q_fresh z19.put.put.put.put.put.put.put.put ?_
    intro a20 z20 m20
    have s2_20 := m20 _ _ ((((((((s2_19.ne rfl).ne rfl).ne rfl).ne rfl).ne rfl).ne rfl).ne rfl).ne rfl)
    have s3_20 := m20 _ _ ((((((((s3_19.ne rfl).ne rfl).ne rfl).ne rfl).ne rfl).ne rfl).ne rfl).ne rfl)
    have s4_20 := m20 _ _ ((((((((s4_19.ne rfl).ne rfl).ne rfl).ne rfl).ne rfl).ne rfl).ne rfl).ne rfl)
    have s6_20 := m20 _ _ ((((((((s6_19.ne rfl).ne rfl).ne rfl).ne rfl).ne rfl).ne rfl).ne rfl).ne rfl)
    have s38_20 := m20 _ _ ((((((((s38_19.ne rfl).ne rfl).ne rfl).ne rfl).ne rfl).ne rfl).ne rfl).ne rfl)
    have s43_20 := m20 _ _ ((((((((s43_19.ne rfl).ne rfl).ne rfl).ne rfl).ne rfl).ne rfl).ne rfl).ne rfl)
    have s57_20 := m20 _ _ ((At.hit z19.put.put.put.put.put.put rfl).ne rfl)
    have s58_20 := m20 _ _ (At.hit z19.put.put.put.put.put.put.put rfl)
    clear m20
    refine qs (q_sub (((t + 2 : Nat) : Int)) rfl s58_20.ev rfl (i64_is (by omega) (by omega) (by omega)) ?_)
    refine qs (q_idx (j := t + 2) rfl Tryd.underlying80 sz63 (s4_20.ne rfl).ev (At.hit z20 rfl).ev (by omega) ?_)
    refine qs (q_cell (.int .u32 ((rowL false K B).getD (t + 2) 0)) rfl Tryd.underlying63 (At.hit z20.put rfl).ev (fun _ h => nums_cell (h.blk kg4_15) (t + 2) (by rw [(rowL_len false K B)]; omega)) ?_)
    refine qs (q_move _ _ rfl (((s6_20.ne rfl).ne rfl).ne rfl).ev ?_)
    refine qs (q_sub (((t + 1 : Nat) : Int)) rfl (At.hit z20.put.put.put rfl).ev rfl (i64_is (by omega) (by omega) (by omega)) ?_)
    refine qs (q_idx (j := t + 1) rfl Tryd.underlying80 sz63 (((((s4_20.ne rfl).ne rfl).ne rfl).ne rfl).ne rfl).ev (At.hit z20.put.put.put.put rfl).ev (by omega) ?_)
    refine qs (q_cell (.int .u32 ((rowL false K B).getD (t + 1) 0)) rfl Tryd.underlying63 (At.hit z20.put.put.put.put.put rfl).ev (fun _ h => nums_cell (h.blk kg4_15) (t + 1) (by rw [(rowL_len false K B)]; omega)) ?_)
    refine qs (q_xor rfl (((((At.hit z20.put.put rfl).ne rfl).ne rfl).ne rfl).ne rfl).ev (At.hit z20.put.put.put.put.put.put rfl).ev ?_)
    refine q_fresh z20.put.put.put.put.put.put.put.put ?_
    intro a21 z21 m21
    have s2_21 := m21 _ _ ((((((((s2_20.ne rfl).ne rfl).ne rfl).ne rfl).ne rfl).ne rfl).ne rfl).ne rfl)
    have s3_21 := m21 _ _ ((((((((s3_20.ne rfl).ne rfl).ne rfl).ne rfl).ne rfl).ne rfl).ne rfl).ne rfl)
    have s4_21 := m21 _ _ ((((((((s4_20.ne rfl).ne rfl).ne rfl).ne rfl).ne rfl).ne rfl).ne rfl).ne rfl)
    have s6_21 := m21 _ _ ((((((((s6_20.ne rfl).ne rfl).ne rfl).ne rfl).ne rfl).ne rfl).ne rfl).ne rfl)
    have s38_21 := m21 _ _ ((((((((s38_20.ne rfl).ne rfl).ne rfl).ne rfl).ne rfl).ne rfl).ne rfl).ne rfl)
    have s43_21 := m21 _ _ ((((((((s43_20.ne rfl).ne rfl).ne rfl).ne rfl).ne rfl).ne rfl).ne rfl).ne rfl)
    have s57_21 := m21 _ _ ((((((((s57_20.ne rfl).ne rfl).ne rfl).ne rfl).ne rfl).ne rfl).ne rfl).ne rfl)
    have s66_21 := m21 _ _ (At.hit z20.put.put.put.put.put.put.put rfl)
    clear m21
    refine qs (q_move _ _ rfl s6_21.ev ?_)
    refine qs (q_sub (((t : Nat) : Int)) rfl (At.hit z21 rfl).ev rfl (i64_is (by omega) (by omega) (by omega)) ?_)
    refine qs (q_idx (j := t) rfl Tryd.underlying80 sz63 ((s4_21.ne rfl).ne rfl).ev (At.hit z21.put rfl).ev (by omega) ?_)
    refine qs (q_cell (.int .u32 ((rowL false K B).getD t 0)) rfl Tryd.underlying63 (At.hit z21.put.put rfl).ev (fun _ h => nums_cell (h.blk kg4_15) t (by rw [(rowL_len false K B)]; omega)) ?_)
    refine qs (q_xor rfl ((((s66_21.ne rfl).ne rfl).ne rfl).ne rfl).ev (At.hit z21.put.put.put rfl).ev ?_)
    refine qs (q_call (.int .u32 (rotl (Go.bits .xor .u32 (Go.bits .xor .u32 ((rowL false K B).getD (t + 2) 0) ((rowL false K B).getD (t + 1) 0)) ((rowL false K B).getD t 0)) 30)) rfl rfl Tryd.func44 rfl (args2 rfl (At.hit z21.put.put.put.put rfl).ev rfl) (fun _ h => (RotL.calls (Go.bits .xor .u32 (Go.bits .xor .u32 ((rowL false K B).getD (t + 2) 0) ((rowL false K B).getD (t + 1) 0)) ((rowL false K B).getD t 0)) 30 _).mono fun _ _ ⟨e, k⟩ => ⟨e, h.trans k⟩) ?_)
    refine qs (q_xor rfl ((((((s57_21.ne rfl).ne rfl).ne rfl).ne rfl).ne rfl).ne rfl).ev (At.hit z21.put.put.put.put.put rfl).ev ?_)
    refine qs (q_idx (j := t) rfl Tryd.underlying65 sz63 (((((((s3_21.ne rfl).ne rfl).ne rfl).ne rfl).ne rfl).ne rfl).ne rfl).ev (((((((s43_21.ne rfl).ne rfl).ne rfl).ne rfl).ne rfl).ne rfl).ne rfl).ev (by omega) ?_)
    refine qz ?_
    intro w22 h22
    have kg2_22 := h22.blk kg2_15
    have kg3_22 := h22.blk kg3_15
    have kg4_22 := h22.blk kg4_15
    refine l_cell (j := t) (v := .int .u32 (Go.bits .xor .u32 (Go.bits .xor .u32 (Go.bits .xor .u32 ((rowL false K B).getD (t + 5) 0) (rotl ((rowL false K B).getD (t + 4) 0) 5)) ((rowL false K B).getD (t + 3) 0)) (rotl (Go.bits .xor .u32 (Go.bits .xor .u32 ((rowL false K B).getD (t + 2) 0) ((rowL false K B).getD (t + 1) 0)) ((rowL false K B).getD t 0)) 30))) rfl rfl rfl sz63 (At.hit z21.put.put.put.put.put.put.put rfl).ev ((At.hit z21.put.put.put.put.put.put rfl).ne rfl).ev rfl kg3_22 (by rw [(nums_size _ _).trans (diffL_len _ _)]; omega) ?_
    intro w23 k23 u23
    rw [nums_put] at k23
    have kg2_23 := u23.blk kg2_22 (by omega)
    have kg4_23 := u23.blk kg4_22 (by omega)
    refine l_end ?_
    refine e_fresh z21.put.put.put.put.put.put.put.put ?_
    intro a24 z24 m24
    have s2_24 := m24 _ _ ((((((((s2_21.ne rfl).ne rfl).ne rfl).ne rfl).ne rfl).ne rfl).ne rfl).ne rfl)
    have s3_24 := m24 _ _ ((((((((s3_21.ne rfl).ne rfl).ne rfl).ne rfl).ne rfl).ne rfl).ne rfl).ne rfl)
    have s4_24 := m24 _ _ ((((((((s4_21.ne rfl).ne rfl).ne rfl).ne rfl).ne rfl).ne rfl).ne rfl).ne rfl)
    have s38_24 := m24 _ _ ((((((((s38_21.ne rfl).ne rfl).ne rfl).ne rfl).ne rfl).ne rfl).ne rfl).ne rfl)
    have low24 := ((low15.trans h22).upd u23 geg3)
    clear m24
    refine e_in ?_
    refine e_then ?_
    refine c_region ?_
    refine l_q rfl (q_add (((t + 1 : Nat) : Int)) rfl s38_24.ev rfl (i64_is (by omega) (by omega) (by omega)) ?_)
    refine l_q rfl (q_move _ _ rfl (At.hit z24 rfl).ev ?_)
    refine l_end ?_
    refine e_fresh z24.put.put ?_
    intro a25 z25 m25
    have s2_25 := m25 _ _ ((s2_24.ne rfl).ne rfl)
    have s3_25 := m25 _ _ ((s3_24.ne rfl).ne rfl)
    have s4_25 := m25 _ _ ((s4_24.ne rfl).ne rfl)
    have s38_25 := m25 _ _ (At.hit z24.put rfl)
    clear m25
    exact ⟨z25, s2_25, s3_25, s4_25, s38_25, kg2_23, k23, kg4_23, low24⟩
  · intro a26 w26 h
    obtain ⟨z26, s2_26, s3_26, s4_26, s38_26, kg2_26, kg3_26, kg4_26, low26⟩ := h
    clear k12 kg2_12 kg3_12 low13 s2_14 s38_14 s3_14 s4_14 z14
    refine c_seq ?_
    refine c_region ?_
    refine l_q rfl (q_lss false rfl s38_26.ev rfl (decide_eq_false (by omega)) ?_)
    refine l_end ?_
    refine e_fresh z26.put ?_
    intro a27 z27 m27
    have s2_27 := m27 _ _ (s2_26.ne rfl)
    have s3_27 := m27 _ _ (s3_26.ne rfl)
    have s4_27 := m27 _ _ (s4_26.ne rfl)
    have s38_27 := m27 _ _ (s38_26.ne rfl)
    have s39_27 := m27 _ _ (At.hit z26 rfl)
    clear m27
    refine e_then ?_
    refine c_seq ?_
    refine c_false s39_27 ?_
    refine wp_exit ?_
    refine x_then ?_
    refine x_then ?_
    refine in_exit ?_
    refine e_then ?_
    refine c_seq ?_
    refine c_region ?_
    refine l_q rfl (q_row rfl Tryd.underlying65 rfl (sz65.trans (congrArg some ((nums_size _ _).trans (diffL_len _ _)).symm)) s3_27.ev (fun _ e => by rw [e]; exact kg3_26) ?_)
    refine l_row rfl rfl rfl (sz65.trans (congrArg some ((nums_size _ _).trans (diffL_len _ _)).symm)) (s2_27.ne rfl).ev (At.hit z27 rfl).ev (nums_one _ _) kg2_26 (((nums_size _ _).trans (List.length_replicate)).trans ((nums_size _ _).trans (diffL_len _ _)).symm) ?_
    intro w28 k28 u28
    have kg3_28 := u28.blk kg3_26 (by omega)
    have kg4_28 := u28.blk kg4_26 (by omega)
    refine l_end ?_
    refine e_fresh z27.put ?_
    intro a29 z29 m29
    have s2_29 := m29 _ _ (s2_27.ne rfl)
    have low29 := (low26.upd u28 geg2)
    clear m29
    refine e_then ?_
    refine wp_ret ?_
    refine r_cell rfl z29.defers s2_29 k28 Tryd.underlying65 rfl (sz65.trans (congrArg some ((nums_size _ _).trans (diffL_len _ _)).symm)) ?_
    exact ⟨rfl, low29⟩
theorem DL_2.calls (K B : Nat) (hK : K ≤ 64) (hB : B ≤ 31) (w0 : World) : Calls Tryd.prog 33 #[.agg #[.int .i64 2, .int .i64 (K : Int), .int .i64 (B : Int)]] w0 fun e w' => e = .returned (.agg (nums .u32 (diffL (rowL true K B) 80))) ∧ Low w0 w' := by
  refine c_fun (R := _) Tryd.func33 rfl 77 rfl (Nat.le_of_ble_eq_true rfl) ?_
  intro a z hA
  have s0 := hA 0 _ rfl
  clear hA
  refine c_seq ?_
  refine c_region ?_
  refine l_box rfl rfl s0.ev ?_
  intro g1 w1 hg1 k1 h1
  have geg1 := Nat.le_trans (Low.refl _).ge hg1
  refine l_alloc rfl rfl zero65 ?_
  intro g2 w2 hg2 k2 h2
  have lt_g1_g2 := Nat.lt_of_lt_of_le (heap_lt k1) hg2
  have geg2 := Nat.le_trans h1.ge hg2
  have kg1_2 := h2.blk k1
  refine l_end ?_
  refine e_fresh z.put.put ?_
  intro a3 z3 m3
  have s1_3 := m3 _ _ ((At.hit z rfl).ne rfl)
  have s2_3 := m3 _ _ (At.hit z.put rfl)
  have low3 := (h1.trans h2)
  clear m3
  refine e_then ?_
  refine c_seq ?_
  refine c_region ?_
  refine l_alloc rfl rfl zero65 ?_
  intro g3 w4 hg4 k4 h4
  have lt_g1_g3 := Nat.lt_of_lt_of_le (heap_lt kg1_2) hg4
  have lt_g2_g3 := Nat.lt_of_lt_of_le (heap_lt k2) hg4
  have geg3 := Nat.le_trans low3.ge hg4
  have kg1_4 := h4.blk kg1_2
  have kg2_4 := h4.blk k2
  refine l_end ?_
  refine e_fresh z3.put ?_
  intro a5 z5 m5
  have s1_5 := m5 _ _ (s1_3.ne rfl)
  have s2_5 := m5 _ _ (s2_3.ne rfl)
  have s3_5 := m5 _ _ (At.hit z3 rfl)
  have low5 := (low3.trans h4)
  clear m5
  refine e_then ?_
  refine c_seq ?_
  refine c_seq ?_
  refine c_region ?_
  refine l_q rfl (q_fld 0 rfl (by kernel_rfl) s1_5.ev ?_)
  refine l_q rfl (q_cell (.int .i64 2) rfl Tryd.underlying3 (At.hit z5 rfl).ev (fun _ e => by rw [e]; exact (cells_at kg1_4 0).trans rfl) ?_)
  refine l_q rfl (q_lss false rfl (At.hit z5.put rfl).ev rfl (decide_eq_false (by omega)) ?_)
  refine l_q rfl (q_move _ _ rfl (At.hit z5.put.put rfl).ev ?_)
  refine l_qg (wanted_is (j := 3) (d := 10) (b := false) rfl rfl (At.hit z5.put.put.put rfl) rfl) (q_fld 0 rfl (by kernel_rfl) ((((s1_5.ne rfl).ne rfl).ne rfl).ne rfl).ev ?_)
  refine l_qg (wanted_is (j := 3) (d := 10) (b := false) rfl rfl ((At.hit z5.put.put.put rfl).ne rfl) rfl) (q_cell (.int .i64 2) rfl Tryd.underlying3 (At.hit z5.put.put.put.put rfl).ev (fun _ e => by rw [e]; exact (cells_at kg1_4 0).trans rfl) ?_)
  refine l_qg (wanted_is (j := 3) (d := 10) (b := false) rfl rfl (((At.hit z5.put.put.put rfl).ne rfl).ne rfl) rfl) (q_gtr false rfl (At.hit z5.put.put.put.put.put rfl).ev rfl (decide_eq_false (by omega)) ?_)
  refine l_q rfl (q_pick (b := false) (.bool false) rfl ((((At.hit z5.put.put.put rfl).ne rfl).ne rfl).ne rfl).ev (At.hit z5.put.put.put.put.put.put rfl).ev ?_)
  refine l_fresh z5.put.put.put.put.put.put.put.put ?_
  intro a6 z6 m6
  have s1_6 := m6 _ _ ((((((((s1_5.ne rfl).ne rfl).ne rfl).ne rfl).ne rfl).ne rfl).ne rfl).ne rfl)
  have s2_6 := m6 _ _ ((((((((s2_5.ne rfl).ne rfl).ne rfl).ne rfl).ne rfl).ne rfl).ne rfl).ne rfl)
  have s3_6 := m6 _ _ ((((((((s3_5.ne rfl).ne rfl).ne rfl).ne rfl).ne rfl).ne rfl).ne rfl).ne rfl)
  have s14_6 := m6 _ _ (At.hit z5.put.put.put.put.put.put.put rfl)
  clear m6
  refine l_q rfl (q_move _ _ rfl s14_6.ev ?_)
  refine l_qg (wanted_is (j := 8) (d := 15) (b := false) rfl rfl (At.hit z6 rfl) rfl) (q_fld 1 rfl (by kernel_rfl) (s1_6.ne rfl).ev ?_)
  refine l_qg (wanted_is (j := 8) (d := 15) (b := false) rfl rfl ((At.hit z6 rfl).ne rfl) rfl) (q_cell (.int .i64 ((K : Nat) : Int)) rfl Tryd.underlying3 (At.hit z6.put rfl).ev (fun _ e => by rw [e]; exact (cells_at kg1_4 1).trans rfl) ?_)
  refine l_qg (wanted_is (j := 8) (d := 15) (b := false) rfl rfl (((At.hit z6 rfl).ne rfl).ne rfl) rfl) (q_lss false rfl (At.hit z6.put.put rfl).ev rfl (decide_eq_false (by omega)) ?_)
  refine l_q rfl (q_pick (b := false) (.bool false) rfl ((((At.hit z6 rfl).ne rfl).ne rfl).ne rfl).ev (At.hit z6.put.put.put rfl).ev ?_)
  refine l_q rfl (q_move _ _ rfl (At.hit z6.put.put.put.put rfl).ev ?_)
  refine l_qg (wanted_is (j := 13) (d := 20) (b := false) rfl rfl (At.hit z6.put.put.put.put.put rfl) rfl) (q_fld 1 rfl (by kernel_rfl) ((((((s1_6.ne rfl).ne rfl).ne rfl).ne rfl).ne rfl).ne rfl).ev ?_)
  refine l_qg (wanted_is (j := 13) (d := 20) (b := false) rfl rfl ((At.hit z6.put.put.put.put.put rfl).ne rfl) rfl) (q_cell (.int .i64 ((K : Nat) : Int)) rfl Tryd.underlying3 (At.hit z6.put.put.put.put.put.put rfl).ev (fun _ e => by rw [e]; exact (cells_at kg1_4 1).trans rfl) ?_)
  refine l_fresh z6.put.put.put.put.put.put.put.put ?_
  intro a7 z7 m7
  have s1_7 := m7 _ _ ((((((((s1_6.ne rfl).ne rfl).ne rfl).ne rfl).ne rfl).ne rfl).ne rfl).ne rfl)
  have s2_7 := m7 _ _ ((((((((s2_6.ne rfl).ne rfl).ne rfl).ne rfl).ne rfl).ne rfl).ne rfl).ne rfl)
  have s3_7 := m7 _ _ ((((((((s3_6.ne rfl).ne rfl).ne rfl).ne rfl).ne rfl).ne rfl).ne rfl).ne rfl)
  have s20_7 := m7 _ _ (((At.hit z6.put.put.put.put.put rfl).ne rfl).ne rfl)
  have s22_7 := m7 _ _ (At.hit z6.put.put.put.put.put.put.put rfl)
  clear m7
  refine l_qg (wanted_is (j := 13) (d := 20) (b := false) rfl rfl s20_7 rfl) (q_gtr false rfl s22_7.ev rfl (decide_eq_false (by omega)) ?_)
  refine l_q rfl (q_pick (b := false) (.bool false) rfl (s20_7.ne rfl).ev (At.hit z7 rfl).ev ?_)
  refine l_q rfl (q_move _ _ rfl (At.hit z7.put rfl).ev ?_)
  refine l_qg (wanted_is (j := 18) (d := 25) (b := false) rfl rfl (At.hit z7.put.put rfl) rfl) (q_fld 2 rfl (by kernel_rfl) (((s1_7.ne rfl).ne rfl).ne rfl).ev ?_)
  refine l_qg (wanted_is (j := 18) (d := 25) (b := false) rfl rfl ((At.hit z7.put.put rfl).ne rfl) rfl) (q_cell (.int .i64 ((B : Nat) : Int)) rfl Tryd.underlying3 (At.hit z7.put.put.put rfl).ev (fun _ e => by rw [e]; exact (cells_at kg1_4 2).trans rfl) ?_)
  refine l_qg (wanted_is (j := 18) (d := 25) (b := false) rfl rfl (((At.hit z7.put.put rfl).ne rfl).ne rfl) rfl) (q_lss false rfl (At.hit z7.put.put.put.put rfl).ev rfl (decide_eq_false (by omega)) ?_)
  refine l_q rfl (q_pick (b := false) (.bool false) rfl ((((At.hit z7.put.put rfl).ne rfl).ne rfl).ne rfl).ev (At.hit z7.put.put.put.put.put rfl).ev ?_)
  refine l_q rfl (q_move _ _ rfl (At.hit z7.put.put.put.put.put.put rfl).ev ?_)
  refine l_fresh z7.put.put.put.put.put.put.put.put ?_
  intro a8 z8 m8
  have s1_8 := m8 _ _ ((((((((s1_7.ne rfl).ne rfl).ne rfl).ne rfl).ne rfl).ne rfl).ne rfl).ne rfl)
  have s2_8 := m8 _ _ ((((((((s2_7.ne rfl).ne rfl).ne rfl).ne rfl).ne rfl).ne rfl).ne rfl).ne rfl)
  have s3_8 := m8 _ _ ((((((((s3_7.ne rfl).ne rfl).ne rfl).ne rfl).ne rfl).ne rfl).ne rfl).ne rfl)
  have s30_8 := m8 _ _ (At.hit z7.put.put.put.put.put.put.put rfl)
  clear m8
  refine l_qg (wanted_is (j := 23) (d := 30) (b := false) rfl rfl s30_8 rfl) (q_fld 2 rfl (by kernel_rfl) s1_8.ev ?_)
  refine l_qg (wanted_is (j := 23) (d := 30) (b := false) rfl rfl (s30_8.ne rfl) rfl) (q_cell (.int .i64 ((B : Nat) : Int)) rfl Tryd.underlying3 (At.hit z8 rfl).ev (fun _ e => by rw [e]; exact (cells_at kg1_4 2).trans rfl) ?_)
  refine l_qg (wanted_is (j := 23) (d := 30) (b := false) rfl rfl ((s30_8.ne rfl).ne rfl) rfl) (q_gtr false rfl (At.hit z8.put rfl).ev rfl (decide_eq_false (by omega)) ?_)
  refine l_q rfl (q_pick (b := false) (.bool false) rfl (((s30_8.ne rfl).ne rfl).ne rfl).ev (At.hit z8.put.put rfl).ev ?_)
  refine l_end ?_
  refine e_fresh z8.put.put.put.put ?_
  intro a9 z9 m9
  have s1_9 := m9 _ _ ((((s1_8.ne rfl).ne rfl).ne rfl).ne rfl)
  have s2_9 := m9 _ _ ((((s2_8.ne rfl).ne rfl).ne rfl).ne rfl)
  have s3_9 := m9 _ _ ((((s3_8.ne rfl).ne rfl).ne rfl).ne rfl)
  have s34_9 := m9 _ _ (At.hit z8.put.put.put rfl)
  clear m9
  refine e_then ?_
  refine c_false s34_9 ?_
  refine wp_skip ?_
  refine e_then ?_
  refine c_seq ?_
  refine c_region ?_
  refine l_q rfl (q_row rfl Tryd.underlying62 rfl (sz62.trans (congrArg some rfl.symm)) s1_9.ev (fun _ e => by rw [e]; exact kg1_4) ?_)
  refine l_call (fun v w' => v = .agg (nums .u32 (rowL true K B)) ∧ Low w4 w') rfl rfl rfl Tryd.func43 rfl (args1 rfl (At.hit z9 rfl).ev) ((Row2.calls K B hK hB _).mono fun _ _ ⟨e, k⟩ => ⟨_, e, rfl, k⟩) ?_
  rintro _ w10 ⟨rfl, h10⟩
  have kg1_10 := h10.blk kg1_4
  have kg2_10 := h10.blk kg2_4
  have kg3_10 := h10.blk k4
  refine l_alloc rfl rfl zero80 ?_
  intro g4 w11 hg11 k11 h11
  have lt_g1_g4 := Nat.lt_of_lt_of_le (heap_lt kg1_10) hg11
  have lt_g2_g4 := Nat.lt_of_lt_of_le (heap_lt kg2_10) hg11
  have lt_g3_g4 := Nat.lt_of_lt_of_le (heap_lt kg3_10) hg11
  have geg4 := Nat.le_trans (low5.trans h10).ge hg11
  have kg1_11 := h11.blk kg1_10
  have kg2_11 := h11.blk kg2_10
  have kg3_11 := h11.blk kg3_10
  refine l_row rfl rfl rfl (sz80.trans (congrArg some ((nums_size _ _).trans (rowL_len true K B)).symm)) (At.hit z9.put.put rfl).ev ((At.hit z9.put rfl).ne rfl).ev (nums_one _ _) k11 (((nums_size _ _).trans (List.length_replicate)).trans ((nums_size _ _).trans (rowL_len true K B)).symm) ?_
  intro w12 k12 u12
  have kg1_12 := u12.blk kg1_11 (by omega)
  have kg2_12 := u12.blk kg2_11 (by omega)
  have kg3_12 := u12.blk kg3_11 (by omega)
  refine l_end ?_
  refine e_fresh z9.put.put.put ?_
  intro a13 z13 m13
  have s2_13 := m13 _ _ (((s2_9.ne rfl).ne rfl).ne rfl)
  have s3_13 := m13 _ _ (((s3_9.ne rfl).ne rfl).ne rfl)
  have s4_13 := m13 _ _ (At.hit z9.put.put rfl)
  have low13 := (((low5.trans h10).trans h11).upd u12 geg4)
  clear m13
  refine e_then ?_
  refine c_seq ?_
  refine c_seq ?_
  refine c_region ?_
  refine l_q rfl (q_move _ _ rfl rfl ?_)
  refine l_end ?_
  refine e_fresh z13.put ?_
  intro a14 z14 m14
  have s2_14 := m14 _ _ (s2_13.ne rfl)
  have s3_14 := m14 _ _ (s3_13.ne rfl)
  have s4_14 := m14 _ _ (s4_13.ne rfl)
  have s38_14 := m14 _ _ (At.hit z13 rfl)
  clear m14
  refine e_then ?_
  refine wp_block ?_
  refine c_loop 80 (fun t a w => Fr 77 a ∧ At a 2 (.pointer (some ⟨g2, 0, none⟩)) ∧ At a 3 (.pointer (some ⟨g3, 0, none⟩)) ∧ At a 4 (.pointer (some ⟨g4, 0, none⟩)) ∧ At a 38 (.int .i64 ((t : Nat) : Int)) ∧ w.heap[g2]? = some (.cells (nums .u32 (List.replicate 80 0)) 65) ∧ w.heap[g3]? = some (.cells (nums .u32 (diffL (rowL true K B) t)) 65) ∧ w.heap[g4]? = some (.cells (nums .u32 (rowL true K B)) 80) ∧ Low w0 w) ?_ ?_ ?_
  · exact ⟨z14, s2_14, s3_14, s4_14, s38_14, kg2_12, kg3_12, k12, low13⟩
  · intro t a15 w15 hk15 h
    obtain ⟨z15, s2_15, s3_15, s4_15, s38_15, kg2_15, kg3_15, kg4_15, low15⟩ := h
    clear k12 kg2_12 kg3_12 low13 s2_14 s38_14 s3_14 s4_14 z14
    refine c_seq ?_
    refine c_region ?_
    refine l_q rfl (q_lss true rfl s38_15.ev rfl (decide_eq_true (by omega)) ?_)
    refine l_end ?_
    refine e_fresh z15.put ?_
    intro a16 z16 m16
    have s2_16 := m16 _ _ (s2_15.ne rfl)
    have s3_16 := m16 _ _ (s3_15.ne rfl)
    have s4_16 := m16 _ _ (s4_15.ne rfl)
    have s38_16 := m16 _ _ (s38_15.ne rfl)
    have s39_16 := m16 _ _ (At.hit z15 rfl)
    clear m16
    refine e_then ?_
    refine c_seq ?_
    refine c_true s39_16 ?_
    refine wp_skip ?_
    refine e_then ?_
    refine c_seq ?_
    refine wp_block ?_
    refine c_seq ?_
    refine c_region ?_
    refine l_q rfl (q_move _ _ rfl s38_16.ev ?_)
    refine l_q rfl (q_assign _ _ rfl (At.hit z16 rfl).ev ?_)
    refine l_end ?_
    refine e_fresh z16.put.put ?_
    intro a17 z17 m17
    have s2_17 := m17 _ _ ((s2_16.ne rfl).ne rfl)
    have s3_17 := m17 _ _ ((s3_16.ne rfl).ne rfl)
    have s4_17 := m17 _ _ ((s4_16.ne rfl).ne rfl)
    have s5_17 := m17 _ _ (At.hit z16.put rfl)
    have s38_17 := m17 _ _ ((s38_16.ne rfl).ne rfl)
    clear m17
    refine e_then ?_
    refine c_seq ?_
    refine c_region ?_
    refine l_q rfl (q_move _ _ rfl s5_17.ev ?_)
    refine l_q rfl (q_add (((t + 5 : Nat) : Int)) rfl (At.hit z17 rfl).ev rfl (i64_is (by omega) (by omega) (by omega)) ?_)
    refine l_q rfl (q_assign _ _ rfl (At.hit z17.put rfl).ev ?_)
    refine l_end ?_
    refine e_fresh z17.put.put.put ?_
    intro a18 z18 m18
    have s2_18 := m18 _ _ (((s2_17.ne rfl).ne rfl).ne rfl)
    have s3_18 := m18 _ _ (((s3_17.ne rfl).ne rfl).ne rfl)
    have s4_18 := m18 _ _ (((s4_17.ne rfl).ne rfl).ne rfl)
    have s5_18 := m18 _ _ (((s5_17.ne rfl).ne rfl).ne rfl)
    have s6_18 := m18 _ _ (At.hit z17.put.put rfl)
    have s38_18 := m18 _ _ (((s38_17.ne rfl).ne rfl).ne rfl)
    clear m18
    refine e_then ?_
    refine region_low_tail 32 hm (by kernel_rfl) ?_
    simp only [List.take_succ_cons, List.take_zero, List.drop_succ_cons, List.drop_zero]
    refine qs (q_move _ _ rfl s5_18.ev ?_)
    refine qs (q_move _ _ rfl (s6_18.ne rfl).ev ?_)
    refine qs (q_idx (j := t + 5) rfl Tryd.underlying80 sz63 ((s4_18.ne rfl).ne rfl).ev (At.hit z18.put rfl).ev (by omega) ?_)
    refine qs (q_cell (.int .u32 ((rowL true K B).getD (t + 5) 0)) rfl Tryd.underlying63 (At.hit z18.put.put rfl).ev (fun _ h => nums_cell (h.blk kg4_15) (t + 5) (by rw [(rowL_len true K B)]; omega)) ?_)
    refine qs (q_move _ _ rfl ((((s6_18.ne rfl).ne rfl).ne rfl).ne rfl).ev ?_)
    refine qs (q_sub (((t + 4 : Nat) : Int)) rfl (At.hit z18.put.put.put.put rfl).ev rfl (i64_is (by omega) (by omega) (by omega)) ?_)
    refine qs (q_idx (j := t + 4) rfl Tryd.underlying80 sz63 ((((((s4_18.ne rfl).ne rfl).ne rfl).ne rfl).ne rfl).ne rfl).ev (At.hit z18.put.put.put.put.put rfl).ev (by omega) ?_)
    refine qs (q_cell (.int .u32 ((rowL true K B).getD (t + 4) 0)) rfl Tryd.underlying63 (At.hit z18.put.put.put.put.put.put rfl).ev (fun _ h => nums_cell (h.blk kg4_15) (t + 4) (by rw [(rowL_len true K B)]; omega)) ?_)
    refine q_fresh z18.put.put.put.put.put.put.put.put ?_
    intro a19 z19 m19
    have s2_19 := m19 _ _ ((((((((s2_18.ne rfl).ne rfl).ne rfl).ne rfl).ne rfl).ne rfl).ne rfl).ne rfl)
    have s3_19 := m19 _ _ ((((((((s3_18.ne rfl).ne rfl).ne rfl).ne rfl).ne rfl).ne rfl).ne rfl).ne rfl)
    have s4_19 := m19 _ _ ((((((((s4_18.ne rfl).ne rfl).ne rfl).ne rfl).ne rfl).ne rfl).ne rfl).ne rfl)
    have s6_19 := m19 _ _ ((((((((s6_18.ne rfl).ne rfl).ne rfl).ne rfl).ne rfl).ne rfl).ne rfl).ne rfl)
    have s38_19 := m19 _ _ ((((((((s38_18.ne rfl).ne rfl).ne rfl).ne rfl).ne rfl).ne rfl).ne rfl).ne rfl)
    have s43_19 := m19 _ _ ((((((((At.hit z18 rfl).ne rfl).ne rfl).ne rfl).ne rfl).ne rfl).ne rfl).ne rfl)
    have s46_19 := m19 _ _ (((((At.hit z18.put.put.put rfl).ne rfl).ne rfl).ne rfl).ne rfl)
    have s50_19 := m19 _ _ (At.hit z18.put.put.put.put.put.put.put rfl)
    clear m19
    refine qs (q_call (.int .u32 (rotl ((rowL true K B).getD (t + 4) 0) 5)) rfl rfl Tryd.func44 rfl (args2 rfl s50_19.ev rfl) (fun _ h => (RotL.calls ((rowL true K B).getD (t + 4) 0) 5 _).mono fun _ _ ⟨e, k⟩ => ⟨e, h.trans k⟩) ?_)
    refine qs (q_xor rfl (s46_19.ne rfl).ev (At.hit z19 rfl).ev ?_)
    refine qs (q_move _ _ rfl ((s6_19.ne rfl).ne rfl).ev ?_)
    refine qs (q_sub (((t + 3 : Nat) : Int)) rfl (At.hit z19.put.put rfl).ev rfl (i64_is (by omega) (by omega) (by omega)) ?_)
    refine qs (q_idx (j := t + 3) rfl Tryd.underlying80 sz63 ((((s4_19.ne rfl).ne rfl).ne rfl).ne rfl).ev (At.hit z19.put.put.put rfl).ev (by omega) ?_)
    refine qs (q_cell (.int .u32 ((rowL true K B).getD (t + 3) 0)) rfl Tryd.underlying63 (At.hit z19.put.put.put.put rfl).ev (fun _ h => nums_cell (h.blk kg4_15) (t + 3) (by rw [(rowL_len true K B)]; omega)) ?_)
    refine qs (q_xor rfl (((((At.hit z19.put rfl).ne rfl).ne rfl).ne rfl).ne rfl).ev (At.hit z19.put.put.put.put.put rfl).ev ?_)
    refine qs (q_move _ _ rfl (((((((s6_19.ne rfl).ne rfl).ne rfl).ne rfl).ne rfl).ne rfl).ne rfl).ev ?_)
    refine q_fresh z19.put.put.put.put.put.put.put.put ?_
    intro a20 z20 m20
    have s2_20 := m20 _ _ ((((((((s2_19.ne rfl).ne rfl).ne rfl).ne rfl).ne rfl).ne rfl).ne rfl).ne rfl)
    have s3_20 := m20 _ _ ((((((((s3_19.ne rfl).ne rfl).ne rfl).ne rfl).ne rfl).ne rfl).ne rfl).ne rfl)
    have s4_20 := m20 _ _ ((((((((s4_19.ne rfl).ne rfl).ne rfl).ne rfl).ne rfl).ne rfl).ne rfl).ne rfl)
    have s6_20 := m20 _ _ ((((((((s6_19.ne rfl).ne rfl).ne rfl).ne rfl).ne rfl).ne rfl).ne rfl).ne rfl)
    have s38_20 := m20 _ _ ((((((((s38_19.ne rfl).ne rfl).ne rfl).ne rfl).ne rfl).ne rfl).ne rfl).ne rfl)
    have s43_20 := m20 _ _ ((((((((s43_19.ne rfl).ne rfl).ne rfl).ne rfl).ne rfl).ne rfl).ne rfl).ne rfl)
    have s57_20 := m20 _ _ ((At.hit z19.put.put.put.put.put.put rfl).ne rfl)
    have s58_20 := m20 _ _ (At.hit z19.put.put.put.put.put.put.put rfl)
    clear m20
    refine qs (q_sub (((t + 2 : Nat) : Int)) rfl s58_20.ev rfl (i64_is (by omega) (by omega) (by omega)) ?_)
    refine qs (q_idx (j := t + 2) rfl Tryd.underlying80 sz63 (s4_20.ne rfl).ev (At.hit z20 rfl).ev (by omega) ?_)
    refine qs (q_cell (.int .u32 ((rowL true K B).getD (t + 2) 0)) rfl Tryd.underlying63 (At.hit z20.put rfl).ev (fun _ h => nums_cell (h.blk kg4_15) (t + 2) (by rw [(rowL_len true K B)]; omega)) ?_)
    refine qs (q_move _ _ rfl (((s6_20.ne rfl).ne rfl).ne rfl).ev ?_)
    refine qs (q_sub (((t + 1 : Nat) : Int)) rfl (At.hit z20.put.put.put rfl).ev rfl (i64_is (by omega) (by omega) (by omega)) ?_)
    refine qs (q_idx (j := t + 1) rfl Tryd.underlying80 sz63 (((((s4_20.ne rfl).ne rfl).ne rfl).ne rfl).ne rfl).ev (At.hit z20.put.put.put.put rfl).ev (by omega) ?_)
    refine qs (q_cell (.int .u32 ((rowL true K B).getD (t + 1) 0)) rfl Tryd.underlying63 (At.hit z20.put.put.put.put.put rfl).ev (fun _ h => nums_cell (h.blk kg4_15) (t + 1) (by rw [(rowL_len true K B)]; omega)) ?_)
    refine qs (q_xor rfl (((((At.hit z20.put.put rfl).ne rfl).ne rfl).ne rfl).ne rfl).ev (At.hit z20.put.put.put.put.put.put rfl).ev ?_)
    refine q_fresh z20.put.put.put.put.put.put.put.put ?_
    intro a21 z21 m21
    have s2_21 := m21 _ _ ((((((((s2_20.ne rfl).ne rfl).ne rfl).ne rfl).ne rfl).ne rfl).ne rfl).ne rfl)
    have s3_21 := m21 _ _ ((((((((s3_20.ne rfl).ne rfl).ne rfl).ne rfl).ne rfl).ne rfl).ne rfl).ne rfl)
    have s4_21 := m21 _ _ ((((((((s4_20.ne rfl).ne rfl).ne rfl).ne rfl).ne rfl).ne rfl).ne rfl).ne rfl)
    have s6_21 := m21 _ _ ((((((((s6_20.ne rfl).ne rfl).ne rfl).ne rfl).ne rfl).ne rfl).ne rfl).ne rfl)
    have s38_21 := m21 _ _ ((((((((s38_20.ne rfl).ne rfl).ne rfl).ne rfl).ne rfl).ne rfl).ne rfl).ne rfl)
    have s43_21 := m21 _ _ ((((((((s43_20.ne rfl).ne rfl).ne rfl).ne rfl).ne rfl).ne rfl).ne rfl).ne rfl)
    have s57_21 := m21 _ _ ((((((((s57_20.ne rfl).ne rfl).ne rfl).ne rfl).ne rfl).ne rfl).ne rfl).ne rfl)
    have s66_21 := m21 _ _ (At.hit z20.put.put.put.put.put.put.put rfl)
    clear m21
    refine qs (q_move _ _ rfl s6_21.ev ?_)
    refine qs (q_sub (((t : Nat) : Int)) rfl (At.hit z21 rfl).ev rfl (i64_is (by omega) (by omega) (by omega)) ?_)
    refine qs (q_idx (j := t) rfl Tryd.underlying80 sz63 ((s4_21.ne rfl).ne rfl).ev (At.hit z21.put rfl).ev (by omega) ?_)
    refine qs (q_cell (.int .u32 ((rowL true K B).getD t 0)) rfl Tryd.underlying63 (At.hit z21.put.put rfl).ev (fun _ h => nums_cell (h.blk kg4_15) t (by rw [(rowL_len true K B)]; omega)) ?_)
    refine qs (q_xor rfl ((((s66_21.ne rfl).ne rfl).ne rfl).ne rfl).ev (At.hit z21.put.put.put rfl).ev ?_)
    refine qs (q_call (.int .u32 (rotl (Go.bits .xor .u32 (Go.bits .xor .u32 ((rowL true K B).getD (t + 2) 0) ((rowL true K B).getD (t + 1) 0)) ((rowL true K B).getD t 0)) 30)) rfl rfl Tryd.func44 rfl (args2 rfl (At.hit z21.put.put.put.put rfl).ev rfl) (fun _ h => (RotL.calls (Go.bits .xor .u32 (Go.bits .xor .u32 ((rowL true K B).getD (t + 2) 0) ((rowL true K B).getD (t + 1) 0)) ((rowL true K B).getD t 0)) 30 _).mono fun _ _ ⟨e, k⟩ => ⟨e, h.trans k⟩) ?_)
    refine qs (q_xor rfl ((((((s57_21.ne rfl).ne rfl).ne rfl).ne rfl).ne rfl).ne rfl).ev (At.hit z21.put.put.put.put.put rfl).ev ?_)
    refine qs (q_idx (j := t) rfl Tryd.underlying65 sz63 (((((((s3_21.ne rfl).ne rfl).ne rfl).ne rfl).ne rfl).ne rfl).ne rfl).ev (((((((s43_21.ne rfl).ne rfl).ne rfl).ne rfl).ne rfl).ne rfl).ne rfl).ev (by omega) ?_)
    refine qz ?_
    intro w22 h22
    have kg2_22 := h22.blk kg2_15
    have kg3_22 := h22.blk kg3_15
    have kg4_22 := h22.blk kg4_15
    refine l_cell (j := t) (v := .int .u32 (Go.bits .xor .u32 (Go.bits .xor .u32 (Go.bits .xor .u32 ((rowL true K B).getD (t + 5) 0) (rotl ((rowL true K B).getD (t + 4) 0) 5)) ((rowL true K B).getD (t + 3) 0)) (rotl (Go.bits .xor .u32 (Go.bits .xor .u32 ((rowL true K B).getD (t + 2) 0) ((rowL true K B).getD (t + 1) 0)) ((rowL true K B).getD t 0)) 30))) rfl rfl rfl sz63 (At.hit z21.put.put.put.put.put.put.put rfl).ev ((At.hit z21.put.put.put.put.put.put rfl).ne rfl).ev rfl kg3_22 (by rw [(nums_size _ _).trans (diffL_len _ _)]; omega) ?_
    intro w23 k23 u23
    rw [nums_put] at k23
    have kg2_23 := u23.blk kg2_22 (by omega)
    have kg4_23 := u23.blk kg4_22 (by omega)
    refine l_end ?_
    refine e_fresh z21.put.put.put.put.put.put.put.put ?_
    intro a24 z24 m24
    have s2_24 := m24 _ _ ((((((((s2_21.ne rfl).ne rfl).ne rfl).ne rfl).ne rfl).ne rfl).ne rfl).ne rfl)
    have s3_24 := m24 _ _ ((((((((s3_21.ne rfl).ne rfl).ne rfl).ne rfl).ne rfl).ne rfl).ne rfl).ne rfl)
    have s4_24 := m24 _ _ ((((((((s4_21.ne rfl).ne rfl).ne rfl).ne rfl).ne rfl).ne rfl).ne rfl).ne rfl)
    have s38_24 := m24 _ _ ((((((((s38_21.ne rfl).ne rfl).ne rfl).ne rfl).ne rfl).ne rfl).ne rfl).ne rfl)
    have low24 := ((low15.trans h22).upd u23 geg3)
    clear m24
    refine e_in ?_
    refine e_then ?_
    refine c_region ?_
    refine l_q rfl (q_add (((t + 1 : Nat) : Int)) rfl s38_24.ev rfl (i64_is (by omega) (by omega) (by omega)) ?_)
    refine l_q rfl (q_move _ _ rfl (At.hit z24 rfl).ev ?_)
    refine l_end ?_
    refine e_fresh z24.put.put ?_
    intro a25 z25 m25
    have s2_25 := m25 _ _ ((s2_24.ne rfl).ne rfl)
    have s3_25 := m25 _ _ ((s3_24.ne rfl).ne rfl)
    have s4_25 := m25 _ _ ((s4_24.ne rfl).ne rfl)
    have s38_25 := m25 _ _ (At.hit z24.put rfl)
    clear m25
    exact ⟨z25, s2_25, s3_25, s4_25, s38_25, kg2_23, k23, kg4_23, low24⟩
  · intro a26 w26 h
    obtain ⟨z26, s2_26, s3_26, s4_26, s38_26, kg2_26, kg3_26, kg4_26, low26⟩ := h
    clear k12 kg2_12 kg3_12 low13 s2_14 s38_14 s3_14 s4_14 z14
    refine c_seq ?_
    refine c_region ?_
    refine l_q rfl (q_lss false rfl s38_26.ev rfl (decide_eq_false (by omega)) ?_)
    refine l_end ?_
    refine e_fresh z26.put ?_
    intro a27 z27 m27
    have s2_27 := m27 _ _ (s2_26.ne rfl)
    have s3_27 := m27 _ _ (s3_26.ne rfl)
    have s4_27 := m27 _ _ (s4_26.ne rfl)
    have s38_27 := m27 _ _ (s38_26.ne rfl)
    have s39_27 := m27 _ _ (At.hit z26 rfl)
    clear m27
    refine e_then ?_
    refine c_seq ?_
    refine c_false s39_27 ?_
    refine wp_exit ?_
    refine x_then ?_
    refine x_then ?_
    refine in_exit ?_
    refine e_then ?_
    refine c_seq ?_
    refine c_region ?_
    refine l_q rfl (q_row rfl Tryd.underlying65 rfl (sz65.trans (congrArg some ((nums_size _ _).trans (diffL_len _ _)).symm)) s3_27.ev (fun _ e => by rw [e]; exact kg3_26) ?_)
    refine l_row rfl rfl rfl (sz65.trans (congrArg some ((nums_size _ _).trans (diffL_len _ _)).symm)) (s2_27.ne rfl).ev (At.hit z27 rfl).ev (nums_one _ _) kg2_26 (((nums_size _ _).trans (List.length_replicate)).trans ((nums_size _ _).trans (diffL_len _ _)).symm) ?_
    intro w28 k28 u28
    have kg3_28 := u28.blk kg3_26 (by omega)
    have kg4_28 := u28.blk kg4_26 (by omega)
    refine l_end ?_
    refine e_fresh z27.put ?_
    intro a29 z29 m29
    have s2_29 := m29 _ _ (s2_27.ne rfl)
    have low29 := (low26.upd u28 geg2)
    clear m29
    refine e_then ?_
    refine wp_ret ?_
    refine r_cell rfl z29.defers s2_29 k28 Tryd.underlying65 rfl (sz65.trans (congrArg some ((nums_size _ _).trans (diffL_len _ _)).symm)) ?_
    exact ⟨rfl, low29⟩
theorem DL_bad0.calls (ty K B : Int) (hy : ty < 1) (w0 : World) : Calls Tryd.prog 33 #[.agg #[.int .i64 ty, .int .i64 K, .int .i64 B]] w0 fun e w' => e = .returned (.agg (nums .u32 (List.replicate 80 0))) ∧ Low w0 w' := by
  refine c_fun (R := _) Tryd.func33 rfl 77 rfl (Nat.le_of_ble_eq_true rfl) ?_
  intro a z hA
  have s0 := hA 0 _ rfl
  clear hA
  refine c_seq ?_
  refine c_region ?_
  refine l_box rfl rfl s0.ev ?_
  intro g1 w1 hg1 k1 h1
  have geg1 := Nat.le_trans (Low.refl _).ge hg1
  refine l_alloc rfl rfl zero65 ?_
  intro g2 w2 hg2 k2 h2
  have lt_g1_g2 := Nat.lt_of_lt_of_le (heap_lt k1) hg2
  have geg2 := Nat.le_trans h1.ge hg2
  have kg1_2 := h2.blk k1
  refine l_end ?_
  refine e_fresh z.put.put ?_
  intro a3 z3 m3
  have s1_3 := m3 _ _ ((At.hit z rfl).ne rfl)
  have s2_3 := m3 _ _ (At.hit z.put rfl)
  have low3 := (h1.trans h2)
  clear m3
  refine e_then ?_
  refine c_seq ?_
  refine c_region ?_
  refine l_alloc rfl rfl zero65 ?_
  intro g3 w4 hg4 k4 h4
  have lt_g1_g3 := Nat.lt_of_lt_of_le (heap_lt kg1_2) hg4
  have lt_g2_g3 := Nat.lt_of_lt_of_le (heap_lt k2) hg4
  have geg3 := Nat.le_trans low3.ge hg4
  have kg1_4 := h4.blk kg1_2
  have kg2_4 := h4.blk k2
  refine l_end ?_
  refine e_fresh z3.put ?_
  intro a5 z5 m5
  have s1_5 := m5 _ _ (s1_3.ne rfl)
  have s2_5 := m5 _ _ (s2_3.ne rfl)
  have s3_5 := m5 _ _ (At.hit z3 rfl)
  have low5 := (low3.trans h4)
  clear m5
  refine e_then ?_
  refine c_seq ?_
  refine c_seq ?_
  refine c_region ?_
  refine l_q rfl (q_fld 0 rfl (by kernel_rfl) s1_5.ev ?_)
  refine l_q rfl (q_cell (.int .i64 ty) rfl Tryd.underlying3 (At.hit z5 rfl).ev (fun _ e => by rw [e]; exact (cells_at kg1_4 0).trans rfl) ?_)
  refine l_q rfl (q_lss true rfl (At.hit z5.put rfl).ev rfl (decide_eq_true (by omega)) ?_)
  refine l_q rfl (q_move _ _ rfl (At.hit z5.put.put rfl).ev ?_)
  refine l_skip (wanted_is (j := 3) (d := 10) (b := true) rfl rfl (At.hit z5.put.put.put rfl) rfl) ?_
  refine l_skip (wanted_is (j := 3) (d := 10) (b := true) rfl rfl ((At.hit z5.put.put.put rfl).ne rfl) rfl) ?_
  refine l_skip (wanted_is (j := 3) (d := 10) (b := true) rfl rfl (((At.hit z5.put.put.put rfl).ne rfl).ne rfl) rfl) ?_
  refine l_q rfl (q_pick (b := true) (.bool true) rfl ((((At.hit z5.put.put.put rfl).ne rfl).ne rfl).ne rfl).ev rfl ?_)
  refine l_fresh z5.put.put.put.put.put.put.put.put ?_
  intro a6 z6 m6
  have s1_6 := m6 _ _ ((((((((s1_5.ne rfl).ne rfl).ne rfl).ne rfl).ne rfl).ne rfl).ne rfl).ne rfl)
  have s2_6 := m6 _ _ ((((((((s2_5.ne rfl).ne rfl).ne rfl).ne rfl).ne rfl).ne rfl).ne rfl).ne rfl)
  have s3_6 := m6 _ _ ((((((((s3_5.ne rfl).ne rfl).ne rfl).ne rfl).ne rfl).ne rfl).ne rfl).ne rfl)
  have s14_6 := m6 _ _ (At.hit z5.put.put.put.put.put.put.put rfl)
  clear m6
  refine l_q rfl (q_move _ _ rfl s14_6.ev ?_)
  refine l_skip (wanted_is (j := 8) (d := 15) (b := true) rfl rfl (At.hit z6 rfl) rfl) ?_
  refine l_skip (wanted_is (j := 8) (d := 15) (b := true) rfl rfl ((At.hit z6 rfl).ne rfl) rfl) ?_
  refine l_skip (wanted_is (j := 8) (d := 15) (b := true) rfl rfl (((At.hit z6 rfl).ne rfl).ne rfl) rfl) ?_
  refine l_q rfl (q_pick (b := true) (.bool true) rfl ((((At.hit z6 rfl).ne rfl).ne rfl).ne rfl).ev rfl ?_)
  refine l_q rfl (q_move _ _ rfl (At.hit z6.put.put.put.put rfl).ev ?_)
  refine l_skip (wanted_is (j := 13) (d := 20) (b := true) rfl rfl (At.hit z6.put.put.put.put.put rfl) rfl) ?_
  refine l_skip (wanted_is (j := 13) (d := 20) (b := true) rfl rfl ((At.hit z6.put.put.put.put.put rfl).ne rfl) rfl) ?_
  refine l_fresh z6.put.put.put.put.put.put.put.put ?_
  intro a7 z7 m7
  have s1_7 := m7 _ _ ((((((((s1_6.ne rfl).ne rfl).ne rfl).ne rfl).ne rfl).ne rfl).ne rfl).ne rfl)
  have s2_7 := m7 _ _ ((((((((s2_6.ne rfl).ne rfl).ne rfl).ne rfl).ne rfl).ne rfl).ne rfl).ne rfl)
  have s3_7 := m7 _ _ ((((((((s3_6.ne rfl).ne rfl).ne rfl).ne rfl).ne rfl).ne rfl).ne rfl).ne rfl)
  have s20_7 := m7 _ _ (((At.hit z6.put.put.put.put.put rfl).ne rfl).ne rfl)
  have s22_7 := m7 _ _ (At.hit z6.put.put.put.put.put.put.put rfl)
  clear m7
  refine l_skip (wanted_is (j := 13) (d := 20) (b := true) rfl rfl s20_7 rfl) ?_
  refine l_q rfl (q_pick (b := true) (.bool true) rfl (s20_7.ne rfl).ev rfl ?_)
  refine l_q rfl (q_move _ _ rfl (At.hit z7.put rfl).ev ?_)
  refine l_skip (wanted_is (j := 18) (d := 25) (b := true) rfl rfl (At.hit z7.put.put rfl) rfl) ?_
  refine l_skip (wanted_is (j := 18) (d := 25) (b := true) rfl rfl ((At.hit z7.put.put rfl).ne rfl) rfl) ?_
  refine l_skip (wanted_is (j := 18) (d := 25) (b := true) rfl rfl (((At.hit z7.put.put rfl).ne rfl).ne rfl) rfl) ?_
  refine l_q rfl (q_pick (b := true) (.bool true) rfl ((((At.hit z7.put.put rfl).ne rfl).ne rfl).ne rfl).ev rfl ?_)
  refine l_q rfl (q_move _ _ rfl (At.hit z7.put.put.put.put.put.put rfl).ev ?_)
  refine l_fresh z7.put.put.put.put.put.put.put.put ?_
  intro a8 z8 m8
  have s1_8 := m8 _ _ ((((((((s1_7.ne rfl).ne rfl).ne rfl).ne rfl).ne rfl).ne rfl).ne rfl).ne rfl)
  have s2_8 := m8 _ _ ((((((((s2_7.ne rfl).ne rfl).ne rfl).ne rfl).ne rfl).ne rfl).ne rfl).ne rfl)
  have s3_8 := m8 _ _ ((((((((s3_7.ne rfl).ne rfl).ne rfl).ne rfl).ne rfl).ne rfl).ne rfl).ne rfl)
  have s30_8 := m8 _ _ (At.hit z7.put.put.put.put.put.put.put rfl)
  clear m8
  refine l_skip (wanted_is (j := 23) (d := 30) (b := true) rfl rfl s30_8 rfl) ?_
  refine l_skip (wanted_is (j := 23) (d := 30) (b := true) rfl rfl (s30_8.ne rfl) rfl) ?_
  refine l_skip (wanted_is (j := 23) (d := 30) (b := true) rfl rfl ((s30_8.ne rfl).ne rfl) rfl) ?_
  refine l_q rfl (q_pick (b := true) (.bool true) rfl (((s30_8.ne rfl).ne rfl).ne rfl).ev rfl ?_)
  refine l_end ?_
  refine e_fresh z8.put.put.put.put ?_
  intro a9 z9 m9
  have s1_9 := m9 _ _ ((((s1_8.ne rfl).ne rfl).ne rfl).ne rfl)
  have s2_9 := m9 _ _ ((((s2_8.ne rfl).ne rfl).ne rfl).ne rfl)
  have s3_9 := m9 _ _ ((((s3_8.ne rfl).ne rfl).ne rfl).ne rfl)
  have s34_9 := m9 _ _ (At.hit z8.put.put.put rfl)
  clear m9
  refine e_then ?_
  refine c_true s34_9 ?_
  refine c_seq ?_
  refine c_region ?_
  refine l_q rfl (q_row rfl Tryd.underlying65 rfl (sz65.trans (congrArg some ((nums_size _ _).trans (List.length_replicate)).symm)) s3_9.ev (fun _ e => by rw [e]; exact k4) ?_)
  refine l_row rfl rfl rfl (sz65.trans (congrArg some ((nums_size _ _).trans (List.length_replicate)).symm)) (s2_9.ne rfl).ev (At.hit z9 rfl).ev (nums_one _ _) kg2_4 (((nums_size _ _).trans (List.length_replicate)).trans ((nums_size _ _).trans (List.length_replicate)).symm) ?_
  intro w10 k10 u10
  have kg1_10 := u10.blk kg1_4 (by omega)
  have kg3_10 := u10.blk k4 (by omega)
  refine l_end ?_
  refine e_fresh z9.put ?_
  intro a11 z11 m11
  have s2_11 := m11 _ _ (s2_9.ne rfl)
  have low11 := (low5.upd u10 geg2)
  clear m11
  refine e_then ?_
  refine wp_ret ?_
  refine ret_then ?_
  refine r_cell rfl z11.defers s2_11 k10 Tryd.underlying65 rfl (sz65.trans (congrArg some ((nums_size _ _).trans (List.length_replicate)).symm)) ?_
  exact ⟨rfl, low11⟩
theorem DL_bad1.calls (ty K B : Int) (h0 : ¬ ty < 1) (hy : ty > 2) (w0 : World) : Calls Tryd.prog 33 #[.agg #[.int .i64 ty, .int .i64 K, .int .i64 B]] w0 fun e w' => e = .returned (.agg (nums .u32 (List.replicate 80 0))) ∧ Low w0 w' := by
  refine c_fun (R := _) Tryd.func33 rfl 77 rfl (Nat.le_of_ble_eq_true rfl) ?_
  intro a z hA
  have s0 := hA 0 _ rfl
  clear hA
  refine c_seq ?_
  refine c_region ?_
  refine l_box rfl rfl s0.ev ?_
  intro g1 w1 hg1 k1 h1
  have geg1 := Nat.le_trans (Low.refl _).ge hg1
  refine l_alloc rfl rfl zero65 ?_
  intro g2 w2 hg2 k2 h2
  have lt_g1_g2 := Nat.lt_of_lt_of_le (heap_lt k1) hg2
  have geg2 := Nat.le_trans h1.ge hg2
  have kg1_2 := h2.blk k1
  refine l_end ?_
  refine e_fresh z.put.put ?_
  intro a3 z3 m3
  have s1_3 := m3 _ _ ((At.hit z rfl).ne rfl)
  have s2_3 := m3 _ _ (At.hit z.put rfl)
  have low3 := (h1.trans h2)
  clear m3
  refine e_then ?_
  refine c_seq ?_
  refine c_region ?_
  refine l_alloc rfl rfl zero65 ?_
  intro g3 w4 hg4 k4 h4
  have lt_g1_g3 := Nat.lt_of_lt_of_le (heap_lt kg1_2) hg4
  have lt_g2_g3 := Nat.lt_of_lt_of_le (heap_lt k2) hg4
  have geg3 := Nat.le_trans low3.ge hg4
  have kg1_4 := h4.blk kg1_2
  have kg2_4 := h4.blk k2
  refine l_end ?_
  refine e_fresh z3.put ?_
  intro a5 z5 m5
  have s1_5 := m5 _ _ (s1_3.ne rfl)
  have s2_5 := m5 _ _ (s2_3.ne rfl)
  have s3_5 := m5 _ _ (At.hit z3 rfl)
  have low5 := (low3.trans h4)
  clear m5
  refine e_then ?_
  refine c_seq ?_
  refine c_seq ?_
  refine c_region ?_
  refine l_q rfl (q_fld 0 rfl (by kernel_rfl) s1_5.ev ?_)
  refine l_q rfl (q_cell (.int .i64 ty) rfl Tryd.underlying3 (At.hit z5 rfl).ev (fun _ e => by rw [e]; exact (cells_at kg1_4 0).trans rfl) ?_)
  refine l_q rfl (q_lss false rfl (At.hit z5.put rfl).ev rfl (decide_eq_false (by omega)) ?_)
  refine l_q rfl (q_move _ _ rfl (At.hit z5.put.put rfl).ev ?_)
  refine l_qg (wanted_is (j := 3) (d := 10) (b := false) rfl rfl (At.hit z5.put.put.put rfl) rfl) (q_fld 0 rfl (by kernel_rfl) ((((s1_5.ne rfl).ne rfl).ne rfl).ne rfl).ev ?_)
  refine l_qg (wanted_is (j := 3) (d := 10) (b := false) rfl rfl ((At.hit z5.put.put.put rfl).ne rfl) rfl) (q_cell (.int .i64 ty) rfl Tryd.underlying3 (At.hit z5.put.put.put.put rfl).ev (fun _ e => by rw [e]; exact (cells_at kg1_4 0).trans rfl) ?_)
  refine l_qg (wanted_is (j := 3) (d := 10) (b := false) rfl rfl (((At.hit z5.put.put.put rfl).ne rfl).ne rfl) rfl) (q_gtr true rfl (At.hit z5.put.put.put.put.put rfl).ev rfl (decide_eq_true (by omega)) ?_)
  refine l_q rfl (q_pick (b := false) (.bool true) rfl ((((At.hit z5.put.put.put rfl).ne rfl).ne rfl).ne rfl).ev (At.hit z5.put.put.put.put.put.put rfl).ev ?_)
  refine l_fresh z5.put.put.put.put.put.put.put.put ?_
  intro a6 z6 m6
  have s1_6 := m6 _ _ ((((((((s1_5.ne rfl).ne rfl).ne rfl).ne rfl).ne rfl).ne rfl).ne rfl).ne rfl)
  have s2_6 := m6 _ _ ((((((((s2_5.ne rfl).ne rfl).ne rfl).ne rfl).ne rfl).ne rfl).ne rfl).ne rfl)
  have s3_6 := m6 _ _ ((((((((s3_5.ne rfl).ne rfl).ne rfl).ne rfl).ne rfl).ne rfl).ne rfl).ne rfl)
  have s14_6 := m6 _ _ (At.hit z5.put.put.put.put.put.put.put rfl)
  clear m6
  refine l_q rfl (q_move _ _ rfl s14_6.ev ?_)
  refine l_skip (wanted_is (j := 8) (d := 15) (b := true) rfl rfl (At.hit z6 rfl) rfl) ?_
  refine l_skip (wanted_is (j := 8) (d := 15) (b := true) rfl rfl ((At.hit z6 rfl).ne rfl) rfl) ?_
  refine l_skip (wanted_is (j := 8) (d := 15) (b := true) rfl rfl (((At.hit z6 rfl).ne rfl).ne rfl) rfl) ?_
  refine l_q rfl (q_pick (b := true) (.bool true) rfl ((((At.hit z6 rfl).ne rfl).ne rfl).ne rfl).ev rfl ?_)
  refine l_q rfl (q_move _ _ rfl (At.hit z6.put.put.put.put rfl).ev ?_)
  refine l_skip (wanted_is (j := 13) (d := 20) (b := true) rfl rfl (At.hit z6.put.put.put.put.put rfl) rfl) ?_
  refine l_skip (wanted_is (j := 13) (d := 20) (b := true) rfl rfl ((At.hit z6.put.put.put.put.put rfl).ne rfl) rfl) ?_
  refine l_fresh z6.put.put.put.put.put.put.put.put ?_
  intro a7 z7 m7
  have s1_7 := m7 _ _ ((((((((s1_6.ne rfl).ne rfl).ne rfl).ne rfl).ne rfl).ne rfl).ne rfl).ne rfl)
  have s2_7 := m7 _ _ ((((((((s2_6.ne rfl).ne rfl).ne rfl).ne rfl).ne rfl).ne rfl).ne rfl).ne rfl)
  have s3_7 := m7 _ _ ((((((((s3_6.ne rfl).ne rfl).ne rfl).ne rfl).ne rfl).ne rfl).ne rfl).ne rfl)
  have s20_7 := m7 _ _ (((At.hit z6.put.put.put.put.put rfl).ne rfl).ne rfl)
  have s22_7 := m7 _ _ (At.hit z6.put.put.put.put.put.put.put rfl)
  clear m7
  refine l_skip (wanted_is (j := 13) (d := 20) (b := true) rfl rfl s20_7 rfl) ?_
  refine l_q rfl (q_pick (b := true) (.bool true) rfl (s20_7.ne rfl).ev rfl ?_)
  refine l_q rfl (q_move _ _ rfl (At.hit z7.put rfl).ev ?_)
  refine l_skip (wanted_is (j := 18) (d := 25) (b := true) rfl rfl (At.hit z7.put.put rfl) rfl) ?_
  refine l_skip (wanted_is (j := 18) (d := 25) (b := true) rfl rfl ((At.hit z7.put.put rfl).ne rfl) rfl) ?_
  refine l_skip (wanted_is (j := 18) (d := 25) (b := true) rfl rfl (((At.hit z7.put.put rfl).ne rfl).ne rfl) rfl) ?_
  refine l_q rfl (q_pick (b := true) (.bool true) rfl ((((At.hit z7.put.put rfl).ne rfl).ne rfl).ne rfl).ev rfl ?_)
  refine l_q rfl (q_move _ _ rfl (At.hit z7.put.put.put.put.put.put rfl).ev ?_)
  refine l_fresh z7.put.put.put.put.put.put.put.put ?_
  intro a8 z8 m8
  have s1_8 := m8 _ _ ((((((((s1_7.ne rfl).ne rfl).ne rfl).ne rfl).ne rfl).ne rfl).ne rfl).ne rfl)
  have s2_8 := m8 _ _ ((((((((s2_7.ne rfl).ne rfl).ne rfl).ne rfl).ne rfl).ne rfl).ne rfl).ne rfl)
  have s3_8 := m8 _ _ ((((((((s3_7.ne rfl).ne rfl).ne rfl).ne rfl).ne rfl).ne rfl).ne rfl).ne rfl)
  have s30_8 := m8 _ _ (At.hit z7.put.put.put.put.put.put.put rfl)
  clear m8
  refine l_skip (wanted_is (j := 23) (d := 30) (b := true) rfl rfl s30_8 rfl) ?_
  refine l_skip (wanted_is (j := 23) (d := 30) (b := true) rfl rfl (s30_8.ne rfl) rfl) ?_
  refine l_skip (wanted_is (j := 23) (d := 30) (b := true) rfl rfl ((s30_8.ne rfl).ne rfl) rfl) ?_
  refine l_q rfl (q_pick (b := true) (.bool true) rfl (((s30_8.ne rfl).ne rfl).ne rfl).ev rfl ?_)
  refine l_end ?_
  refine e_fresh z8.put.put.put.put ?_
  intro a9 z9 m9
  have s1_9 := m9 _ _ ((((s1_8.ne rfl).ne rfl).ne rfl).ne rfl)
  have s2_9 := m9 _ _ ((((s2_8.ne rfl).ne rfl).ne rfl).ne rfl)
  have s3_9 := m9 _ _ ((((s3_8.ne rfl).ne rfl).ne rfl).ne rfl)
  have s34_9 := m9 _ _ (At.hit z8.put.put.put rfl)
  clear m9
  refine e_then ?_
  refine c_true s34_9 ?_
  refine c_seq ?_
  refine c_region ?_
  refine l_q rfl (q_row rfl Tryd.underlying65 rfl (sz65.trans (congrArg some ((nums_size _ _).trans (List.length_replicate)).symm)) s3_9.ev (fun _ e => by rw [e]; exact k4) ?_)
  refine l_row rfl rfl rfl (sz65.trans (congrArg some ((nums_size _ _).trans (List.length_replicate)).symm)) (s2_9.ne rfl).ev (At.hit z9 rfl).ev (nums_one _ _) kg2_4 (((nums_size _ _).trans (List.length_replicate)).trans ((nums_size _ _).trans (List.length_replicate)).symm) ?_
  intro w10 k10 u10
  have kg1_10 := u10.blk kg1_4 (by omega)
  have kg3_10 := u10.blk k4 (by omega)
  refine l_end ?_
  refine e_fresh z9.put ?_
  intro a11 z11 m11
  have s2_11 := m11 _ _ (s2_9.ne rfl)
  have low11 := (low5.upd u10 geg2)
  clear m11
  refine e_then ?_
  refine wp_ret ?_
  refine ret_then ?_
  refine r_cell rfl z11.defers s2_11 k10 Tryd.underlying65 rfl (sz65.trans (congrArg some ((nums_size _ _).trans (List.length_replicate)).symm)) ?_
  exact ⟨rfl, low11⟩
theorem DL_bad2.calls (ty K B : Int) (h0 : ¬ ty < 1) (h1 : ¬ ty > 2) (hy : K < 0) (w0 : World) : Calls Tryd.prog 33 #[.agg #[.int .i64 ty, .int .i64 K, .int .i64 B]] w0 fun e w' => e = .returned (.agg (nums .u32 (List.replicate 80 0))) ∧ Low w0 w' := by
  refine c_fun (R := _) Tryd.func33 rfl 77 rfl (Nat.le_of_ble_eq_true rfl) ?_
  intro a z hA
  have s0 := hA 0 _ rfl
  clear hA
  refine c_seq ?_
  refine c_region ?_
  refine l_box rfl rfl s0.ev ?_
  intro g1 w1 hg1 k1 h1
  have geg1 := Nat.le_trans (Low.refl _).ge hg1
  refine l_alloc rfl rfl zero65 ?_
  intro g2 w2 hg2 k2 h2
  have lt_g1_g2 := Nat.lt_of_lt_of_le (heap_lt k1) hg2
  have geg2 := Nat.le_trans h1.ge hg2
  have kg1_2 := h2.blk k1
  refine l_end ?_
  refine e_fresh z.put.put ?_
  intro a3 z3 m3
  have s1_3 := m3 _ _ ((At.hit z rfl).ne rfl)
  have s2_3 := m3 _ _ (At.hit z.put rfl)
  have low3 := (h1.trans h2)
  clear m3
  refine e_then ?_
  refine c_seq ?_
  refine c_region ?_
  refine l_alloc rfl rfl zero65 ?_
  intro g3 w4 hg4 k4 h4
  have lt_g1_g3 := Nat.lt_of_lt_of_le (heap_lt kg1_2) hg4
  have lt_g2_g3 := Nat.lt_of_lt_of_le (heap_lt k2) hg4
  have geg3 := Nat.le_trans low3.ge hg4
  have kg1_4 := h4.blk kg1_2
  have kg2_4 := h4.blk k2
  refine l_end ?_
  refine e_fresh z3.put ?_
  intro a5 z5 m5
  have s1_5 := m5 _ _ (s1_3.ne rfl)
  have s2_5 := m5 _ _ (s2_3.ne rfl)
  have s3_5 := m5 _ _ (At.hit z3 rfl)
  have low5 := (low3.trans h4)
  clear m5
  refine e_then ?_
  refine c_seq ?_
  refine c_seq ?_
  refine c_region ?_
  refine l_q rfl (q_fld 0 rfl (by kernel_rfl) s1_5.ev ?_)
  refine l_q rfl (q_cell (.int .i64 ty) rfl Tryd.underlying3 (At.hit z5 rfl).ev (fun _ e => by rw [e]; exact (cells_at kg1_4 0).trans rfl) ?_)
  refine l_q rfl (q_lss false rfl (At.hit z5.put rfl).ev rfl (decide_eq_false (by omega)) ?_)
  refine l_q rfl (q_move _ _ rfl (At.hit z5.put.put rfl).ev ?_)
  refine l_qg (wanted_is (j := 3) (d := 10) (b := false) rfl rfl (At.hit z5.put.put.put rfl) rfl) (q_fld 0 rfl (by kernel_rfl) ((((s1_5.ne rfl).ne rfl).ne rfl).ne rfl).ev ?_)
  refine l_qg (wanted_is (j := 3) (d := 10) (b := false) rfl rfl ((At.hit z5.put.put.put rfl).ne rfl) rfl) (q_cell (.int .i64 ty) rfl Tryd.underlying3 (At.hit z5.put.put.put.put rfl).ev (fun _ e => by rw [e]; exact (cells_at kg1_4 0).trans rfl) ?_)
  refine l_qg (wanted_is (j := 3) (d := 10) (b := false) rfl rfl (((At.hit z5.put.put.put rfl).ne rfl).ne rfl) rfl) (q_gtr false rfl (At.hit z5.put.put.put.put.put rfl).ev rfl (decide_eq_false (by omega)) ?_)
  refine l_q rfl (q_pick (b := false) (.bool false) rfl ((((At.hit z5.put.put.put rfl).ne rfl).ne rfl).ne rfl).ev (At.hit z5.put.put.put.put.put.put rfl).ev ?_)
  refine l_fresh z5.put.put.put.put.put.put.put.put ?_
  intro a6 z6 m6
  have s1_6 := m6 _ _ ((((((((s1_5.ne rfl).ne rfl).ne rfl).ne rfl).ne rfl).ne rfl).ne rfl).ne rfl)
  have s2_6 := m6 _ _ ((((((((s2_5.ne rfl).ne rfl).ne rfl).ne rfl).ne rfl).ne rfl).ne rfl).ne rfl)
  have s3_6 := m6 _ _ ((((((((s3_5.ne rfl).ne rfl).ne rfl).ne rfl).ne rfl).ne rfl).ne rfl).ne rfl)
  have s14_6 := m6 _ _ (At.hit z5.put.put.put.put.put.put.put rfl)
  clear m6
  refine l_q rfl (q_move _ _ rfl s14_6.ev ?_)
  refine l_qg (wanted_is (j := 8) (d := 15) (b := false) rfl rfl (At.hit z6 rfl) rfl) (q_fld 1 rfl (by kernel_rfl) (s1_6.ne rfl).ev ?_)
  refine l_qg (wanted_is (j := 8) (d := 15) (b := false) rfl rfl ((At.hit z6 rfl).ne rfl) rfl) (q_cell (.int .i64 K) rfl Tryd.underlying3 (At.hit z6.put rfl).ev (fun _ e => by rw [e]; exact (cells_at kg1_4 1).trans rfl) ?_)
  refine l_qg (wanted_is (j := 8) (d := 15) (b := false) rfl rfl (((At.hit z6 rfl).ne rfl).ne rfl) rfl) (q_lss true rfl (At.hit z6.put.put rfl).ev rfl (decide_eq_true (by omega)) ?_)
  refine l_q rfl (q_pick (b := false) (.bool true) rfl ((((At.hit z6 rfl).ne rfl).ne rfl).ne rfl).ev (At.hit z6.put.put.put rfl).ev ?_)
  refine l_q rfl (q_move _ _ rfl (At.hit z6.put.put.put.put rfl).ev ?_)
  refine l_skip (wanted_is (j := 13) (d := 20) (b := true) rfl rfl (At.hit z6.put.put.put.put.put rfl) rfl) ?_
  refine l_skip (wanted_is (j := 13) (d := 20) (b := true) rfl rfl ((At.hit z6.put.put.put.put.put rfl).ne rfl) rfl) ?_
  refine l_fresh z6.put.put.put.put.put.put.put.put ?_
  intro a7 z7 m7
  have s1_7 := m7 _ _ ((((((((s1_6.ne rfl).ne rfl).ne rfl).ne rfl).ne rfl).ne rfl).ne rfl).ne rfl)
  have s2_7 := m7 _ _ ((((((((s2_6.ne rfl).ne rfl).ne rfl).ne rfl).ne rfl).ne rfl).ne rfl).ne rfl)
  have s3_7 := m7 _ _ ((((((((s3_6.ne rfl).ne rfl).ne rfl).ne rfl).ne rfl).ne rfl).ne rfl).ne rfl)
  have s20_7 := m7 _ _ (((At.hit z6.put.put.put.put.put rfl).ne rfl).ne rfl)
  have s22_7 := m7 _ _ (At.hit z6.put.put.put.put.put.put.put rfl)
  clear m7
  refine l_skip (wanted_is (j := 13) (d := 20) (b := true) rfl rfl s20_7 rfl) ?_
  refine l_q rfl (q_pick (b := true) (.bool true) rfl (s20_7.ne rfl).ev rfl ?_)
  refine l_q rfl (q_move _ _ rfl (At.hit z7.put rfl).ev ?_)
  refine l_skip (wanted_is (j := 18) (d := 25) (b := true) rfl rfl (At.hit z7.put.put rfl) rfl) ?_
  refine l_skip (wanted_is (j := 18) (d := 25) (b := true) rfl rfl ((At.hit z7.put.put rfl).ne rfl) rfl) ?_
  refine l_skip (wanted_is (j := 18) (d := 25) (b := true) rfl rfl (((At.hit z7.put.put rfl).ne rfl).ne rfl) rfl) ?_
  refine l_q rfl (q_pick (b := true) (.bool true) rfl ((((At.hit z7.put.put rfl).ne rfl).ne rfl).ne rfl).ev rfl ?_)
  refine l_q rfl (q_move _ _ rfl (At.hit z7.put.put.put.put.put.put rfl).ev ?_)
  refine l_fresh z7.put.put.put.put.put.put.put.put ?_
  intro a8 z8 m8
  have s1_8 := m8 _ _ ((((((((s1_7.ne rfl).ne rfl).ne rfl).ne rfl).ne rfl).ne rfl).ne rfl).ne rfl)
  have s2_8 := m8 _ _ ((((((((s2_7.ne rfl).ne rfl).ne rfl).ne rfl).ne rfl).ne rfl).ne rfl).ne rfl)
  have s3_8 := m8 _ _ ((((((((s3_7.ne rfl).ne rfl).ne rfl).ne rfl).ne rfl).ne rfl).ne rfl).ne rfl)
  have s30_8 := m8 _ _ (At.hit z7.put.put.put.put.put.put.put rfl)
  clear m8
  refine l_skip (wanted_is (j := 23) (d := 30) (b := true) rfl rfl s30_8 rfl) ?_
  refine l_skip (wanted_is (j := 23) (d := 30) (b := true) rfl rfl (s30_8.ne rfl) rfl) ?_
  refine l_skip (wanted_is (j := 23) (d := 30) (b := true) rfl rfl ((s30_8.ne rfl).ne rfl) rfl) ?_
  refine l_q rfl (q_pick (b := true) (.bool true) rfl (((s30_8.ne rfl).ne rfl).ne rfl).ev rfl ?_)
  refine l_end ?_
  refine e_fresh z8.put.put.put.put ?_
  intro a9 z9 m9
  have s1_9 := m9 _ _ ((((s1_8.ne rfl).ne rfl).ne rfl).ne rfl)
  have s2_9 := m9 _ _ ((((s2_8.ne rfl).ne rfl).ne rfl).ne rfl)
  have s3_9 := m9 _ _ ((((s3_8.ne rfl).ne rfl).ne rfl).ne rfl)
  have s34_9 := m9 _ _ (At.hit z8.put.put.put rfl)
  clear m9
  refine e_then ?_
  refine c_true s34_9 ?_
  refine c_seq ?_
  refine c_region ?_
  refine l_q rfl (q_row rfl Tryd.underlying65 rfl (sz65.trans (congrArg some ((nums_size _ _).trans (List.length_replicate)).symm)) s3_9.ev (fun _ e => by rw [e]; exact k4) ?_)
  refine l_row rfl rfl rfl (sz65.trans (congrArg some ((nums_size _ _).trans (List.length_replicate)).symm)) (s2_9.ne rfl).ev (At.hit z9 rfl).ev (nums_one _ _) kg2_4 (((nums_size _ _).trans (List.length_replicate)).trans ((nums_size _ _).trans (List.length_replicate)).symm) ?_
  intro w10 k10 u10
  have kg1_10 := u10.blk kg1_4 (by omega)
  have kg3_10 := u10.blk k4 (by omega)
  refine l_end ?_
  refine e_fresh z9.put ?_
  intro a11 z11 m11
  have s2_11 := m11 _ _ (s2_9.ne rfl)
  have low11 := (low5.upd u10 geg2)
  clear m11
  refine e_then ?_
  refine wp_ret ?_
  refine ret_then ?_
  refine r_cell rfl z11.defers s2_11 k10 Tryd.underlying65 rfl (sz65.trans (congrArg some ((nums_size _ _).trans (List.length_replicate)).symm)) ?_
  exact ⟨rfl, low11⟩
theorem DL_bad3.calls (ty K B : Int) (h0 : ¬ ty < 1) (h1 : ¬ ty > 2) (h2 : ¬ K < 0) (hy : K > 64) (w0 : World) : Calls Tryd.prog 33 #[.agg #[.int .i64 ty, .int .i64 K, .int .i64 B]] w0 fun e w' => e = .returned (.agg (nums .u32 (List.replicate 80 0))) ∧ Low w0 w' := by
  refine c_fun (R := _) Tryd.func33 rfl 77 rfl (Nat.le_of_ble_eq_true rfl) ?_
  intro a z hA
  have s0 := hA 0 _ rfl
  clear hA
  refine c_seq ?_
  refine c_region ?_
  refine l_box rfl rfl s0.ev ?_
  intro g1 w1 hg1 k1 h1
  have geg1 := Nat.le_trans (Low.refl _).ge hg1
  refine l_alloc rfl rfl zero65 ?_
  intro g2 w2 hg2 k2 h2
  have lt_g1_g2 := Nat.lt_of_lt_of_le (heap_lt k1) hg2
  have geg2 := Nat.le_trans h1.ge hg2
  have kg1_2 := h2.blk k1
  refine l_end ?_
  refine e_fresh z.put.put ?_
  intro a3 z3 m3
  have s1_3 := m3 _ _ ((At.hit z rfl).ne rfl)
  have s2_3 := m3 _ _ (At.hit z.put rfl)
  have low3 := (h1.trans h2)
  clear m3
  refine e_then ?_
  refine c_seq ?_
  refine c_region ?_
  refine l_alloc rfl rfl zero65 ?_
  intro g3 w4 hg4 k4 h4
  have lt_g1_g3 := Nat.lt_of_lt_of_le (heap_lt kg1_2) hg4
  have lt_g2_g3 := Nat.lt_of_lt_of_le (heap_lt k2) hg4
  have geg3 := Nat.le_trans low3.ge hg4
  have kg1_4 := h4.blk kg1_2
  have kg2_4 := h4.blk k2
  refine l_end ?_
  refine e_fresh z3.put ?_
  intro a5 z5 m5
  have s1_5 := m5 _ _ (s1_3.ne rfl)
  have s2_5 := m5 _ _ (s2_3.ne rfl)
  have s3_5 := m5 _ _ (At.hit z3 rfl)
  have low5 := (low3.trans h4)
  clear m5
  refine e_then ?_
  refine c_seq ?_
  refine c_seq ?_
  refine c_region ?_
  refine l_q rfl (q_fld 0 rfl (by kernel_rfl) s1_5.ev ?_)
  refine l_q rfl (q_cell (.int .i64 ty) rfl Tryd.underlying3 (At.hit z5 rfl).ev (fun _ e => by rw [e]; exact (cells_at kg1_4 0).trans rfl) ?_)
  refine l_q rfl (q_lss false rfl (At.hit z5.put rfl).ev rfl (decide_eq_false (by omega)) ?_)
  refine l_q rfl (q_move _ _ rfl (At.hit z5.put.put rfl).ev ?_)
  refine l_qg (wanted_is (j := 3) (d := 10) (b := false) rfl rfl (At.hit z5.put.put.put rfl) rfl) (q_fld 0 rfl (by kernel_rfl) ((((s1_5.ne rfl).ne rfl).ne rfl).ne rfl).ev ?_)
  refine l_qg (wanted_is (j := 3) (d := 10) (b := false) rfl rfl ((At.hit z5.put.put.put rfl).ne rfl) rfl) (q_cell (.int .i64 ty) rfl Tryd.underlying3 (At.hit z5.put.put.put.put rfl).ev (fun _ e => by rw [e]; exact (cells_at kg1_4 0).trans rfl) ?_)
  refine l_qg (wanted_is (j := 3) (d := 10) (b := false) rfl rfl (((At.hit z5.put.put.put rfl).ne rfl).ne rfl) rfl) (q_gtr false rfl (At.hit z5.put.put.put.put.put rfl).ev rfl (decide_eq_false (by omega)) ?_)
  refine l_q rfl (q_pick (b := false) (.bool false) rfl ((((At.hit z5.put.put.put rfl).ne rfl).ne rfl).ne rfl).ev (At.hit z5.put.put.put.put.put.put rfl).ev ?_)
  refine l_fresh z5.put.put.put.put.put.put.put.put ?_
  intro a6 z6 m6
  have s1_6 := m6 _ _ ((((((((s1_5.ne rfl).ne rfl).ne rfl).ne rfl).ne rfl).ne rfl).ne rfl).ne rfl)
  have s2_6 := m6 _ _ ((((((((s2_5.ne rfl).ne rfl).ne rfl).ne rfl).ne rfl).ne rfl).ne rfl).ne rfl)
  have s3_6 := m6 _ _ ((((((((s3_5.ne rfl).ne rfl).ne rfl).ne rfl).ne rfl).ne rfl).ne rfl).ne rfl)
  have s14_6 := m6 _ _ (At.hit z5.put.put.put.put.put.put.put rfl)
  clear m6
  refine l_q rfl (q_move _ _ rfl s14_6.ev ?_)
  refine l_qg (wanted_is (j := 8) (d := 15) (b := false) rfl rfl (At.hit z6 rfl) rfl) (q_fld 1 rfl (by kernel_rfl) (s1_6.ne rfl).ev ?_)
  refine l_qg (wanted_is (j := 8) (d := 15) (b := false) rfl rfl ((At.hit z6 rfl).ne rfl) rfl) (q_cell (.int .i64 K) rfl Tryd.underlying3 (At.hit z6.put rfl).ev (fun _ e => by rw [e]; exact (cells_at kg1_4 1).trans rfl) ?_)
  refine l_qg (wanted_is (j := 8) (d := 15) (b := false) rfl rfl (((At.hit z6 rfl).ne rfl).ne rfl) rfl) (q_lss false rfl (At.hit z6.put.put rfl).ev rfl (decide_eq_false (by omega)) ?_)
  refine l_q rfl (q_pick (b := false) (.bool false) rfl ((((At.hit z6 rfl).ne rfl).ne rfl).ne rfl).ev (At.hit z6.put.put.put rfl).ev ?_)
  refine l_q rfl (q_move _ _ rfl (At.hit z6.put.put.put.put rfl).ev ?_)
  refine l_qg (wanted_is (j := 13) (d := 20) (b := false) rfl rfl (At.hit z6.put.put.put.put.put rfl) rfl) (q_fld 1 rfl (by kernel_rfl) ((((((s1_6.ne rfl).ne rfl).ne rfl).ne rfl).ne rfl).ne rfl).ev ?_)
  refine l_qg (wanted_is (j := 13) (d := 20) (b := false) rfl rfl ((At.hit z6.put.put.put.put.put rfl).ne rfl) rfl) (q_cell (.int .i64 K) rfl Tryd.underlying3 (At.hit z6.put.put.put.put.put.put rfl).ev (fun _ e => by rw [e]; exact (cells_at kg1_4 1).trans rfl) ?_)
  refine l_fresh z6.put.put.put.put.put.put.put.put ?_
  intro a7 z7 m7
  have s1_7 := m7 _ _ ((((((((s1_6.ne rfl).ne rfl).ne rfl).ne rfl).ne rfl).ne rfl).ne rfl).ne rfl)
  have s2_7 := m7 _ _ ((((((((s2_6.ne rfl).ne rfl).ne rfl).ne rfl).ne rfl).ne rfl).ne rfl).ne rfl)
  have s3_7 := m7 _ _ ((((((((s3_6.ne rfl).ne rfl).ne rfl).ne rfl).ne rfl).ne rfl).ne rfl).ne rfl)
  have s20_7 := m7 _ _ (((At.hit z6.put.put.put.put.put rfl).ne rfl).ne rfl)
  have s22_7 := m7 _ _ (At.hit z6.put.put.put.put.put.put.put rfl)
  clear m7
  refine l_qg (wanted_is (j := 13) (d := 20) (b := false) rfl rfl s20_7 rfl) (q_gtr true rfl s22_7.ev rfl (decide_eq_true (by omega)) ?_)
  refine l_q rfl (q_pick (b := false) (.bool true) rfl (s20_7.ne rfl).ev (At.hit z7 rfl).ev ?_)
  refine l_q rfl (q_move _ _ rfl (At.hit z7.put rfl).ev ?_)
  refine l_skip (wanted_is (j := 18) (d := 25) (b := true) rfl rfl (At.hit z7.put.put rfl) rfl) ?_
  refine l_skip (wanted_is (j := 18) (d := 25) (b := true) rfl rfl ((At.hit z7.put.put rfl).ne rfl) rfl) ?_
  refine l_skip (wanted_is (j := 18) (d := 25) (b := true) rfl rfl (((At.hit z7.put.put rfl).ne rfl).ne rfl) rfl) ?_
  refine l_q rfl (q_pick (b := true) (.bool true) rfl ((((At.hit z7.put.put rfl).ne rfl).ne rfl).ne rfl).ev rfl ?_)
  refine l_q rfl (q_move _ _ rfl (At.hit z7.put.put.put.put.put.put rfl).ev ?_)
  refine l_fresh z7.put.put.put.put.put.put.put.put ?_
  intro a8 z8 m8
  have s1_8 := m8 _ _ ((((((((s1_7.ne rfl).ne rfl).ne rfl).ne rfl).ne rfl).ne rfl).ne rfl).ne rfl)
  have s2_8 := m8 _ _ ((((((((s2_7.ne rfl).ne rfl).ne rfl).ne rfl).ne rfl).ne rfl).ne rfl).ne rfl)
  have s3_8 := m8 _ _ ((((((((s3_7.ne rfl).ne rfl).ne rfl).ne rfl).ne rfl).ne rfl).ne rfl).ne rfl)
  have s30_8 := m8 _ _ (At.hit z7.put.put.put.put.put.put.put rfl)
  clear m8
  refine l_skip (wanted_is (j := 23) (d := 30) (b := true) rfl rfl s30_8 rfl) ?_
  refine l_skip (wanted_is (j := 23) (d := 30) (b := true) rfl rfl (s30_8.ne rfl) rfl) ?_
  refine l_skip (wanted_is (j := 23) (d := 30) (b := true) rfl rfl ((s30_8.ne rfl).ne rfl) rfl) ?_
  refine l_q rfl (q_pick (b := true) (.bool true) rfl (((s30_8.ne rfl).ne rfl).ne rfl).ev rfl ?_)
  refine l_end ?_
  refine e_fresh z8.put.put.put.put ?_
  intro a9 z9 m9
  have s1_9 := m9 _ _ ((((s1_8.ne rfl).ne rfl).ne rfl).ne rfl)
  have s2_9 := m9 _ _ ((((s2_8.ne rfl).ne rfl).ne rfl).ne rfl)
  have s3_9 := m9 _ _ ((((s3_8.ne rfl).ne rfl).ne rfl).ne rfl)
  have s34_9 := m9 _ _ (At.hit z8.put.put.put rfl)
  clear m9
  refine e_then ?_
  refine c_true s34_9 ?_
  refine c_seq ?_
  refine c_region ?_
  refine l_q rfl (q_row rfl Tryd.underlying65 rfl (sz65.trans (congrArg some ((nums_size _ _).trans (List.length_replicate)).symm)) s3_9.ev (fun _ e => by rw [e]; exact k4) ?_)
  refine l_row rfl rfl rfl (sz65.trans (congrArg some ((nums_size _ _).trans (List.length_replicate)).symm)) (s2_9.ne rfl).ev (At.hit z9 rfl).ev (nums_one _ _) kg2_4 (((nums_size _ _).trans (List.length_replicate)).trans ((nums_size _ _).trans (List.length_replicate)).symm) ?_
  intro w10 k10 u10
  have kg1_10 := u10.blk kg1_4 (by omega)
  have kg3_10 := u10.blk k4 (by omega)
  refine l_end ?_
  refine e_fresh z9.put ?_
  intro a11 z11 m11
  have s2_11 := m11 _ _ (s2_9.ne rfl)
  have low11 := (low5.upd u10 geg2)
  clear m11
  refine e_then ?_
  refine wp_ret ?_
  refine ret_then ?_
  refine r_cell rfl z11.defers s2_11 k10 Tryd.underlying65 rfl (sz65.trans (congrArg some ((nums_size _ _).trans (List.length_replicate)).symm)) ?_
  exact ⟨rfl, low11⟩
theorem DL_bad4.calls (ty K B : Int) (h0 : ¬ ty < 1) (h1 : ¬ ty > 2) (h2 : ¬ K < 0) (h3 : ¬ K > 64) (hy : B < 0) (w0 : World) : Calls Tryd.prog 33 #[.agg #[.int .i64 ty, .int .i64 K, .int .i64 B]] w0 fun e w' => e = .returned (.agg (nums .u32 (List.replicate 80 0))) ∧ Low w0 w' := by
  refine c_fun (R := _) Tryd.func33 rfl 77 rfl (Nat.le_of_ble_eq_true rfl) ?_
  intro a z hA
  have s0 := hA 0 _ rfl
  clear hA
  refine c_seq ?_
  refine c_region ?_
  refine l_box rfl rfl s0.ev ?_
  intro g1 w1 hg1 k1 h1
  have geg1 := Nat.le_trans (Low.refl _).ge hg1
  refine l_alloc rfl rfl zero65 ?_
  intro g2 w2 hg2 k2 h2
  have lt_g1_g2 := Nat.lt_of_lt_of_le (heap_lt k1) hg2
  have geg2 := Nat.le_trans h1.ge hg2
  have kg1_2 := h2.blk k1
  refine l_end ?_
  refine e_fresh z.put.put ?_
  intro a3 z3 m3
  have s1_3 := m3 _ _ ((At.hit z rfl).ne rfl)
  have s2_3 := m3 _ _ (At.hit z.put rfl)
  have low3 := (h1.trans h2)
  clear m3
  refine e_then ?_
  refine c_seq ?_
  refine c_region ?_
  refine l_alloc rfl rfl zero65 ?_
  intro g3 w4 hg4 k4 h4
  have lt_g1_g3 := Nat.lt_of_lt_of_le (heap_lt kg1_2) hg4
  have lt_g2_g3 := Nat.lt_of_lt_of_le (heap_lt k2) hg4
  have geg3 := Nat.le_trans low3.ge hg4
  have kg1_4 := h4.blk kg1_2
  have kg2_4 := h4.blk k2
  refine l_end ?_
  refine e_fresh z3.put ?_
  intro a5 z5 m5
  have s1_5 := m5 _ _ (s1_3.ne rfl)
  have s2_5 := m5 _ _ (s2_3.ne rfl)
  have s3_5 := m5 _ _ (At.hit z3 rfl)
  have low5 := (low3.trans h4)
  clear m5
  refine e_then ?_
  refine c_seq ?_
  refine c_seq ?_
  refine c_region ?_
  refine l_q rfl (q_fld 0 rfl (by kernel_rfl) s1_5.ev ?_)
  refine l_q rfl (q_cell (.int .i64 ty) rfl Tryd.underlying3 (At.hit z5 rfl).ev (fun _ e => by rw [e]; exact (cells_at kg1_4 0).trans rfl) ?_)
  refine l_q rfl (q_lss false rfl (At.hit z5.put rfl).ev rfl (decide_eq_false (by omega)) ?_)
  refine l_q rfl (q_move _ _ rfl (At.hit z5.put.put rfl).ev ?_)
  refine l_qg (wanted_is (j := 3) (d := 10) (b := false) rfl rfl (At.hit z5.put.put.put rfl) rfl) (q_fld 0 rfl (by kernel_rfl) ((((s1_5.ne rfl).ne rfl).ne rfl).ne rfl).ev ?_)
  refine l_qg (wanted_is (j := 3) (d := 10) (b := false) rfl rfl ((At.hit z5.put.put.put rfl).ne rfl) rfl) (q_cell (.int .i64 ty) rfl Tryd.underlying3 (At.hit z5.put.put.put.put rfl).ev (fun _ e => by rw [e]; exact (cells_at kg1_4 0).trans rfl) ?_)
  refine l_qg (wanted_is (j := 3) (d := 10) (b := false) rfl rfl (((At.hit z5.put.put.put rfl).ne rfl).ne rfl) rfl) (q_gtr false rfl (At.hit z5.put.put.put.put.put rfl).ev rfl (decide_eq_false (by omega)) ?_)
  refine l_q rfl (q_pick (b := false) (.bool false) rfl ((((At.hit z5.put.put.put rfl).ne rfl).ne rfl).ne rfl).ev (At.hit z5.put.put.put.put.put.put rfl).ev ?_)
  refine l_fresh z5.put.put.put.put.put.put.put.put ?_
  intro a6 z6 m6
  have s1_6 := m6 _ _ ((((((((s1_5.ne rfl).ne rfl).ne rfl).ne rfl).ne rfl).ne rfl).ne rfl).ne rfl)
  have s2_6 := m6 _ _ ((((((((s2_5.ne rfl).ne rfl).ne rfl).ne rfl).ne rfl).ne rfl).ne rfl).ne rfl)
  have s3_6 := m6 _ _ ((((((((s3_5.ne rfl).ne rfl).ne rfl).ne rfl).ne rfl).ne rfl).ne rfl).ne rfl)
  have s14_6 := m6 _ _ (At.hit z5.put.put.put.put.put.put.put rfl)
  clear m6
  refine l_q rfl (q_move _ _ rfl s14_6.ev ?_)
  refine l_qg (wanted_is (j := 8) (d := 15) (b := false) rfl rfl (At.hit z6 rfl) rfl) (q_fld 1 rfl (by kernel_rfl) (s1_6.ne rfl).ev ?_)
  refine l_qg (wanted_is (j := 8) (d := 15) (b := false) rfl rfl ((At.hit z6 rfl).ne rfl) rfl) (q_cell (.int .i64 K) rfl Tryd.underlying3 (At.hit z6.put rfl).ev (fun _ e => by rw [e]; exact (cells_at kg1_4 1).trans rfl) ?_)
  refine l_qg (wanted_is (j := 8) (d := 15) (b := false) rfl rfl (((At.hit z6 rfl).ne rfl).ne rfl) rfl) (q_lss false rfl (At.hit z6.put.put rfl).ev rfl (decide_eq_false (by omega)) ?_)
  refine l_q rfl (q_pick (b := false) (.bool false) rfl ((((At.hit z6 rfl).ne rfl).ne rfl).ne rfl).ev (At.hit z6.put.put.put rfl).ev ?_)
  refine l_q rfl (q_move _ _ rfl (At.hit z6.put.put.put.put rfl).ev ?_)
  refine l_qg (wanted_is (j := 13) (d := 20) (b := false) rfl rfl (At.hit z6.put.put.put.put.put rfl) rfl) (q_fld 1 rfl (by kernel_rfl) ((((((s1_6.ne rfl).ne rfl).ne rfl).ne rfl).ne rfl).ne rfl).ev ?_)
  refine l_qg (wanted_is (j := 13) (d := 20) (b := false) rfl rfl ((At.hit z6.put.put.put.put.put rfl).ne rfl) rfl) (q_cell (.int .i64 K) rfl Tryd.underlying3 (At.hit z6.put.put.put.put.put.put rfl).ev (fun _ e => by rw [e]; exact (cells_at kg1_4 1).trans rfl) ?_)
  refine l_fresh z6.put.put.put.put.put.put.put.put ?_
  intro a7 z7 m7
  have s1_7 := m7 _ _ ((((((((s1_6.ne rfl).ne rfl).ne rfl).ne rfl).ne rfl).ne rfl).ne rfl).ne rfl)
  have s2_7 := m7 _ _ ((((((((s2_6.ne rfl).ne rfl).ne rfl).ne rfl).ne rfl).ne rfl).ne rfl).ne rfl)
  have s3_7 := m7 _ _ ((((((((s3_6.ne rfl).ne rfl).ne rfl).ne rfl).ne rfl).ne rfl).ne rfl).ne rfl)
  have s20_7 := m7 _ _ (((At.hit z6.put.put.put.put.put rfl).ne rfl).ne rfl)
  have s22_7 := m7 _ _ (At.hit z6.put.put.put.put.put.put.put rfl)
  clear m7
  refine l_qg (wanted_is (j := 13) (d := 20) (b := false) rfl rfl s20_7 rfl) (q_gtr false rfl s22_7.ev rfl (decide_eq_false (by omega)) ?_)
  refine l_q rfl (q_pick (b := false) (.bool false) rfl (s20_7.ne rfl).ev (At.hit z7 rfl).ev ?_)
  refine l_q rfl (q_move _ _ rfl (At.hit z7.put rfl).ev ?_)
  refine l_qg (wanted_is (j := 18) (d := 25) (b := false) rfl rfl (At.hit z7.put.put rfl) rfl) (q_fld 2 rfl (by kernel_rfl) (((s1_7.ne rfl).ne rfl).ne rfl).ev ?_)
  refine l_qg (wanted_is (j := 18) (d := 25) (b := false) rfl rfl ((At.hit z7.put.put rfl).ne rfl) rfl) (q_cell (.int .i64 B) rfl Tryd.underlying3 (At.hit z7.put.put.put rfl).ev (fun _ e => by rw [e]; exact (cells_at kg1_4 2).trans rfl) ?_)
  refine l_qg (wanted_is (j := 18) (d := 25) (b := false) rfl rfl (((At.hit z7.put.put rfl).ne rfl).ne rfl) rfl) (q_lss true rfl (At.hit z7.put.put.put.put rfl).ev rfl (decide_eq_true (by omega)) ?_)
  refine l_q rfl (q_pick (b := false) (.bool true) rfl ((((At.hit z7.put.put rfl).ne rfl).ne rfl).ne rfl).ev (At.hit z7.put.put.put.put.put rfl).ev ?_)
  refine l_q rfl (q_move _ _ rfl (At.hit z7.put.put.put.put.put.put rfl).ev ?_)
  refine l_fresh z7.put.put.put.put.put.put.put.put ?_
  intro a8 z8 m8
  have s1_8 := m8 _ _ ((((((((s1_7.ne rfl).ne rfl).ne rfl).ne rfl).ne rfl).ne rfl).ne rfl).ne rfl)
  have s2_8 := m8 _ _ ((((((((s2_7.ne rfl).ne rfl).ne rfl).ne rfl).ne rfl).ne rfl).ne rfl).ne rfl)
  have s3_8 := m8 _ _ ((((((((s3_7.ne rfl).ne rfl).ne rfl).ne rfl).ne rfl).ne rfl).ne rfl).ne rfl)
  have s30_8 := m8 _ _ (At.hit z7.put.put.put.put.put.put.put rfl)
  clear m8
  refine l_skip (wanted_is (j := 23) (d := 30) (b := true) rfl rfl s30_8 rfl) ?_
  refine l_skip (wanted_is (j := 23) (d := 30) (b := true) rfl rfl (s30_8.ne rfl) rfl) ?_
  refine l_skip (wanted_is (j := 23) (d := 30) (b := true) rfl rfl ((s30_8.ne rfl).ne rfl) rfl) ?_
  refine l_q rfl (q_pick (b := true) (.bool true) rfl (((s30_8.ne rfl).ne rfl).ne rfl).ev rfl ?_)
  refine l_end ?_
  refine e_fresh z8.put.put.put.put ?_
  intro a9 z9 m9
  have s1_9 := m9 _ _ ((((s1_8.ne rfl).ne rfl).ne rfl).ne rfl)
  have s2_9 := m9 _ _ ((((s2_8.ne rfl).ne rfl).ne rfl).ne rfl)
  have s3_9 := m9 _ _ ((((s3_8.ne rfl).ne rfl).ne rfl).ne rfl)
  have s34_9 := m9 _ _ (At.hit z8.put.put.put rfl)
  clear m9
  refine e_then ?_
  refine c_true s34_9 ?_
  refine c_seq ?_
  refine c_region ?_
  refine l_q rfl (q_row rfl Tryd.underlying65 rfl (sz65.trans (congrArg some ((nums_size _ _).trans (List.length_replicate)).symm)) s3_9.ev (fun _ e => by rw [e]; exact k4) ?_)
  refine l_row rfl rfl rfl (sz65.trans (congrArg some ((nums_size _ _).trans (List.length_replicate)).symm)) (s2_9.ne rfl).ev (At.hit z9 rfl).ev (nums_one _ _) kg2_4 (((nums_size _ _).trans (List.length_replicate)).trans ((nums_size _ _).trans (List.length_replicate)).symm) ?_
  intro w10 k10 u10
  have kg1_10 := u10.blk kg1_4 (by omega)
  have kg3_10 := u10.blk k4 (by omega)
  refine l_end ?_
  refine e_fresh z9.put ?_
  intro a11 z11 m11
  have s2_11 := m11 _ _ (s2_9.ne rfl)
  have low11 := (low5.upd u10 geg2)
  clear m11
  refine e_then ?_
  refine wp_ret ?_
  refine ret_then ?_
  refine r_cell rfl z11.defers s2_11 k10 Tryd.underlying65 rfl (sz65.trans (congrArg some ((nums_size _ _).trans (List.length_replicate)).symm)) ?_
  exact ⟨rfl, low11⟩
theorem DL_bad5.calls (ty K B : Int) (h0 : ¬ ty < 1) (h1 : ¬ ty > 2) (h2 : ¬ K < 0) (h3 : ¬ K > 64) (h4 : ¬ B < 0) (hy : B > 31) (w0 : World) : Calls Tryd.prog 33 #[.agg #[.int .i64 ty, .int .i64 K, .int .i64 B]] w0 fun e w' => e = .returned (.agg (nums .u32 (List.replicate 80 0))) ∧ Low w0 w' := by
  refine c_fun (R := _) Tryd.func33 rfl 77 rfl (Nat.le_of_ble_eq_true rfl) ?_
  intro a z hA
  have s0 := hA 0 _ rfl
  clear hA
  refine c_seq ?_
  refine c_region ?_
  refine l_box rfl rfl s0.ev ?_
  intro g1 w1 hg1 k1 h1
  have geg1 := Nat.le_trans (Low.refl _).ge hg1
  refine l_alloc rfl rfl zero65 ?_
  intro g2 w2 hg2 k2 h2
  have lt_g1_g2 := Nat.lt_of_lt_of_le (heap_lt k1) hg2
  have geg2 := Nat.le_trans h1.ge hg2
  have kg1_2 := h2.blk k1
  refine l_end ?_
  refine e_fresh z.put.put ?_
  intro a3 z3 m3
  have s1_3 := m3 _ _ ((At.hit z rfl).ne rfl)
  have s2_3 := m3 _ _ (At.hit z.put rfl)
  have low3 := (h1.trans h2)
  clear m3
  refine e_then ?_
  refine c_seq ?_
  refine c_region ?_
  refine l_alloc rfl rfl zero65 ?_
  intro g3 w4 hg4 k4 h4
  have lt_g1_g3 := Nat.lt_of_lt_of_le (heap_lt kg1_2) hg4
  have lt_g2_g3 := Nat.lt_of_lt_of_le (heap_lt k2) hg4
  have geg3 := Nat.le_trans low3.ge hg4
  have kg1_4 := h4.blk kg1_2
  have kg2_4 := h4.blk k2
  refine l_end ?_
  refine e_fresh z3.put ?_
  intro a5 z5 m5
  have s1_5 := m5 _ _ (s1_3.ne rfl)
  have s2_5 := m5 _ _ (s2_3.ne rfl)
  have s3_5 := m5 _ _ (At.hit z3 rfl)
  have low5 := (low3.trans h4)
  clear m5
  refine e_then ?_
  refine c_seq ?_
  refine c_seq ?_
  refine c_region ?_
  refine l_q rfl (q_fld 0 rfl (by kernel_rfl) s1_5.ev ?_)
  refine l_q rfl (q_cell (.int .i64 ty) rfl Tryd.underlying3 (At.hit z5 rfl).ev (fun _ e => by rw [e]; exact (cells_at kg1_4 0).trans rfl) ?_)
  refine l_q rfl (q_lss false rfl (At.hit z5.put rfl).ev rfl (decide_eq_false (by omega)) ?_)
  refine l_q rfl (q_move _ _ rfl (At.hit z5.put.put rfl).ev ?_)
  refine l_qg (wanted_is (j := 3) (d := 10) (b := false) rfl rfl (At.hit z5.put.put.put rfl) rfl) (q_fld 0 rfl (by kernel_rfl) ((((s1_5.ne rfl).ne rfl).ne rfl).ne rfl).ev ?_)
  refine l_qg (wanted_is (j := 3) (d := 10) (b := false) rfl rfl ((At.hit z5.put.put.put rfl).ne rfl) rfl) (q_cell (.int .i64 ty) rfl Tryd.underlying3 (At.hit z5.put.put.put.put rfl).ev (fun _ e => by rw [e]; exact (cells_at kg1_4 0).trans rfl) ?_)
  refine l_qg (wanted_is (j := 3) (d := 10) (b := false) rfl rfl (((At.hit z5.put.put.put rfl).ne rfl).ne rfl) rfl) (q_gtr false rfl (At.hit z5.put.put.put.put.put rfl).ev rfl (decide_eq_false (by omega)) ?_)
  refine l_q rfl (q_pick (b := false) (.bool false) rfl ((((At.hit z5.put.put.put rfl).ne rfl).ne rfl).ne rfl).ev (At.hit z5.put.put.put.put.put.put rfl).ev ?_)
  refine l_fresh z5.put.put.put.put.put.put.put.put ?_
  intro a6 z6 m6
  have s1_6 := m6 _ _ ((((((((s1_5.ne rfl).ne rfl).ne rfl).ne rfl).ne rfl).ne rfl).ne rfl).ne rfl)
  have s2_6 := m6 _ _ ((((((((s2_5.ne rfl).ne rfl).ne rfl).ne rfl).ne rfl).ne rfl).ne rfl).ne rfl)
  have s3_6 := m6 _ _ ((((((((s3_5.ne rfl).ne rfl).ne rfl).ne rfl).ne rfl).ne rfl).ne rfl).ne rfl)
  have s14_6 := m6 _ _ (At.hit z5.put.put.put.put.put.put.put rfl)
  clear m6
  refine l_q rfl (q_move _ _ rfl s14_6.ev ?_)
  refine l_qg (wanted_is (j := 8) (d := 15) (b := false) rfl rfl (At.hit z6 rfl) rfl) (q_fld 1 rfl (by kernel_rfl) (s1_6.ne rfl).ev ?_)
  refine l_qg (wanted_is (j := 8) (d := 15) (b := false) rfl rfl ((At.hit z6 rfl).ne rfl) rfl) (q_cell (.int .i64 K) rfl Tryd.underlying3 (At.hit z6.put rfl).ev (fun _ e => by rw [e]; exact (cells_at kg1_4 1).trans rfl) ?_)
  refine l_qg (wanted_is (j := 8) (d := 15) (b := false) rfl rfl (((At.hit z6 rfl).ne rfl).ne rfl) rfl) (q_lss false rfl (At.hit z6.put.put rfl).ev rfl (decide_eq_false (by omega)) ?_)
  refine l_q rfl (q_pick (b := false) (.bool false) rfl ((((At.hit z6 rfl).ne rfl).ne rfl).ne rfl).ev (At.hit z6.put.put.put rfl).ev ?_)
  refine l_q rfl (q_move _ _ rfl (At.hit z6.put.put.put.put rfl).ev ?_)
  refine l_qg (wanted_is (j := 13) (d := 20) (b := false) rfl rfl (At.hit z6.put.put.put.put.put rfl) rfl) (q_fld 1 rfl (by kernel_rfl) ((((((s1_6.ne rfl).ne rfl).ne rfl).ne rfl).ne rfl).ne rfl).ev ?_)
  refine l_qg (wanted_is (j := 13) (d := 20) (b := false) rfl rfl ((At.hit z6.put.put.put.put.put rfl).ne rfl) rfl) (q_cell (.int .i64 K) rfl Tryd.underlying3 (At.hit z6.put.put.put.put.put.put rfl).ev (fun _ e => by rw [e]; exact (cells_at kg1_4 1).trans rfl) ?_)
  refine l_fresh z6.put.put.put.put.put.put.put.put ?_
  intro a7 z7 m7
  have s1_7 := m7 _ _ ((((((((s1_6.ne rfl).ne rfl).ne rfl).ne rfl).ne rfl).ne rfl).ne rfl).ne rfl)
  have s2_7 := m7 _ _ ((((((((s2_6.ne rfl).ne rfl).ne rfl).ne rfl).ne rfl).ne rfl).ne rfl).ne rfl)
  have s3_7 := m7 _ _ ((((((((s3_6.ne rfl).ne rfl).ne rfl).ne rfl).ne rfl).ne rfl).ne rfl).ne rfl)
  have s20_7 := m7 _ _ (((At.hit z6.put.put.put.put.put rfl).ne rfl).ne rfl)
  have s22_7 := m7 _ _ (At.hit z6.put.put.put.put.put.put.put rfl)
  clear m7
  refine l_qg (wanted_is (j := 13) (d := 20) (b := false) rfl rfl s20_7 rfl) (q_gtr false rfl s22_7.ev rfl (decide_eq_false (by omega)) ?_)
  refine l_q rfl (q_pick (b := false) (.bool false) rfl (s20_7.ne rfl).ev (At.hit z7 rfl).ev ?_)
  refine l_q rfl (q_move _ _ rfl (At.hit z7.put rfl).ev ?_)
  refine l_qg (wanted_is (j := 18) (d := 25) (b := false) rfl rfl (At.hit z7.put.put rfl) rfl) (q_fld 2 rfl (by kernel_rfl) (((s1_7.ne rfl).ne rfl).ne rfl).ev ?_)
  refine l_qg (wanted_is (j := 18) (d := 25) (b := false) rfl rfl ((At.hit z7.put.put rfl).ne rfl) rfl) (q_cell (.int .i64 B) rfl Tryd.underlying3 (At.hit z7.put.put.put rfl).ev (fun _ e => by rw [e]; exact (cells_at kg1_4 2).trans rfl) ?_)
  refine l_qg (wanted_is (j := 18) (d := 25) (b := false) rfl rfl (((At.hit z7.put.put rfl).ne rfl).ne rfl) rfl) (q_lss false rfl (At.hit z7.put.put.put.put rfl).ev rfl (decide_eq_false (by omega)) ?_)
  refine l_q rfl (q_pick (b := false) (.bool false) rfl ((((At.hit z7.put.put rfl).ne rfl).ne rfl).ne rfl).ev (At.hit z7.put.put.put.put.put rfl).ev ?_)
  refine l_q rfl (q_move _ _ rfl (At.hit z7.put.put.put.put.put.put rfl).ev ?_)
  refine l_fresh z7.put.put.put.put.put.put.put.put ?_
  intro a8 z8 m8
  have s1_8 := m8 _ _ ((((((((s1_7.ne rfl).ne rfl).ne rfl).ne rfl).ne rfl).ne rfl).ne rfl).ne rfl)
  have s2_8 := m8 _ _ ((((((((s2_7.ne rfl).ne rfl).ne rfl).ne rfl).ne rfl).ne rfl).ne rfl).ne rfl)
  have s3_8 := m8 _ _ ((((((((s3_7.ne rfl).ne rfl).ne rfl).ne rfl).ne rfl).ne rfl).ne rfl).ne rfl)
  have s30_8 := m8 _ _ (At.hit z7.put.put.put.put.put.put.put rfl)
  clear m8
  refine l_qg (wanted_is (j := 23) (d := 30) (b := false) rfl rfl s30_8 rfl) (q_fld 2 rfl (by kernel_rfl) s1_8.ev ?_)
  refine l_qg (wanted_is (j := 23) (d := 30) (b := false) rfl rfl (s30_8.ne rfl) rfl) (q_cell (.int .i64 B) rfl Tryd.underlying3 (At.hit z8 rfl).ev (fun _ e => by rw [e]; exact (cells_at kg1_4 2).trans rfl) ?_)
  refine l_qg (wanted_is (j := 23) (d := 30) (b := false) rfl rfl ((s30_8.ne rfl).ne rfl) rfl) (q_gtr true rfl (At.hit z8.put rfl).ev rfl (decide_eq_true (by omega)) ?_)
  refine l_q rfl (q_pick (b := false) (.bool true) rfl (((s30_8.ne rfl).ne rfl).ne rfl).ev (At.hit z8.put.put rfl).ev ?_)
  refine l_end ?_
  refine e_fresh z8.put.put.put.put ?_
  intro a9 z9 m9
  have s1_9 := m9 _ _ ((((s1_8.ne rfl).ne rfl).ne rfl).ne rfl)
  have s2_9 := m9 _ _ ((((s2_8.ne rfl).ne rfl).ne rfl).ne rfl)
  have s3_9 := m9 _ _ ((((s3_8.ne rfl).ne rfl).ne rfl).ne rfl)
  have s34_9 := m9 _ _ (At.hit z8.put.put.put rfl)
  clear m9
  refine e_then ?_
  refine c_true s34_9 ?_
  refine c_seq ?_
  refine c_region ?_
  refine l_q rfl (q_row rfl Tryd.underlying65 rfl (sz65.trans (congrArg some ((nums_size _ _).trans (List.length_replicate)).symm)) s3_9.ev (fun _ e => by rw [e]; exact k4) ?_)
  refine l_row rfl rfl rfl (sz65.trans (congrArg some ((nums_size _ _).trans (List.length_replicate)).symm)) (s2_9.ne rfl).ev (At.hit z9 rfl).ev (nums_one _ _) kg2_4 (((nums_size _ _).trans (List.length_replicate)).trans ((nums_size _ _).trans (List.length_replicate)).symm) ?_
  intro w10 k10 u10
  have kg1_10 := u10.blk kg1_4 (by omega)
  have kg3_10 := u10.blk k4 (by omega)
  refine l_end ?_
  refine e_fresh z9.put ?_
  intro a11 z11 m11
  have s2_11 := m11 _ _ (s2_9.ne rfl)
  have low11 := (low5.upd u10 geg2)
  clear m11
  refine e_then ?_
  refine wp_ret ?_
  refine ret_then ?_
  refine r_cell rfl z11.defers s2_11 k10 Tryd.underlying65 rfl (sz65.trans (congrArg some ((nums_size _ _).trans (List.length_replicate)).symm)) ?_
  exact ⟨rfl, low11⟩
end Go.Proofs.YtfjhnnpdaggnbaaDoor.Q
end
/-! A3 -/
section
namespace Go.Proofs.YtfjhnnpdaggnbaaDoor.Q
open Go.RowKit Go.Proofs.YtfjhnnpdaggnbaaDoor.P
set_option linter.unusedVariables false
set_option linter.unusedSimpArgs false
set_option maxRecDepth 100000
set_option maxHeartbeats 4000000
attribute [local irreducible] wpList wpQuiet qch Code.wp Oper.quiet Act.put At Region.wanted yielded
def okV (ty K B : Int) : Bool := decide (1 ≤ ty ∧ ty ≤ 2 ∧ 0 ≤ K ∧ K ≤ 64 ∧ 0 ≤ B ∧ B ≤ 31)
def differenceL (ty K B : Int) : List Int := if okV ty K B then diffL (rowL (decide (ty = 2)) K.toNat B.toNat) 80 else List.replicate 80 0
theorem differenceL_len (ty K B : Int) : (differenceL ty K B).length = 80 := by
  unfold differenceL
  split
  · exact diffL_len _ _
  · exact List.length_replicate
theorem DifferenceL.calls (ty K B : Int) (w0 : World) : Calls Tryd.prog 33 #[.agg #[.int .i64 ty, .int .i64 K, .int .i64 B]] w0 fun e w' => e = .returned (.agg (nums .u32 (differenceL ty K B))) ∧ Low w0 w' := by
  by_cases h : 1 ≤ ty ∧ ty ≤ 2 ∧ 0 ≤ K ∧ K ≤ 64 ∧ 0 ≤ B ∧ B ≤ 31
  · obtain ⟨t1, t2, k1, k2, b1, b2⟩ := h
    obtain ⟨k, rfl⟩ := Int.eq_ofNat_of_zero_le k1
    obtain ⟨b, rfl⟩ := Int.eq_ofNat_of_zero_le b1
    unfold differenceL
    rw [show okV ty k b = true from decide_eq_true ⟨t1, t2, k1, k2, b1, b2⟩, if_pos rfl]
    rcases (by omega : ty = 1 ∨ ty = 2) with rfl | rfl
    · exact DL_1.calls k b (by omega) (by omega) w0
    · exact DL_2.calls k b (by omega) (by omega) w0
  · unfold differenceL
    rw [show okV ty K B = false from decide_eq_false h, if_neg (by decide)]
    by_cases h0 : ty < 1
    · exact DL_bad0.calls ty K B h0 w0
    by_cases h1 : ty > 2
    · exact DL_bad1.calls ty K B h0 h1 w0
    by_cases h2 : K < 0
    · exact DL_bad2.calls ty K B h0 h1 h2 w0
    by_cases h3 : K > 64
    · exact DL_bad3.calls ty K B h0 h1 h2 h3 w0
    by_cases h4 : B < 0
    · exact DL_bad4.calls ty K B h0 h1 h2 h3 h4 w0
    by_cases h5 : B > 31
    · exact DL_bad5.calls ty K B h0 h1 h2 h3 h4 h5 w0
    omega
end Go.Proofs.YtfjhnnpdaggnbaaDoor.Q
end
/-! A4 -/
section
namespace Go.Proofs.YtfjhnnpdaggnbaaDoor.Q
open Go.RowKit Go.Proofs.YtfjhnnpdaggnbaaDoor.P
set_option linter.unusedVariables false
set_option linter.unusedSimpArgs false
set_option maxRecDepth 100000
set_option maxHeartbeats 4000000
attribute [local irreducible] wpList wpQuiet qch Code.wp Oper.quiet Act.put At Region.wanted yielded
def stepsX (l m : List Int) (x : Ch) (f : Ch → Int → Int → Ch) (t0 : Nat) : Nat → Ch
  | 0 => x
  | k + 1 => f (stepsX l m x f t0 k) ((k + t0 : Nat) : Int) (Go.bits .xor .u32 (l.getD (k + t0) 0) (m.getD (k + t0) 0))
def stepsO (l : List Int) (x : Ch) (t0 : Nat) : Nat → Ch
  | 0 => x
  | k + 1 => stepL (stepsO l x t0 k) ((k + t0 : Nat) : Int) (l.getD (k + t0) 0)
def backX (l m : List Int) (x : Ch) (f : Ch → Int → Int → Ch) : Nat → Ch
  | 0 => x
  | k + 1 => f (backX l m x f k) (57 - ((k : Nat) : Int)) (Go.bits .xor .u32 (l.getD (57 - k) 0) (m.getD (57 - k) 0))
def meetsL (c : Ch) (l m : List Int) : Bool :=
  decide (addL (cl (backX l m (stepsL l c 58) backL 58)) (cl (stepsX l m (stepsL l c 58) stepL 58 22)) 5 = addL (cl c) (cl (stepsO l (stepsL l c 58) 58 22)) 5)
theorem MeetsL.calls (c : Ch) (l m : List Int) (hl : l.length = 80) (hm' : m.length = 80) (gl gm om : Nat) (w0 : World) (kl : w0.heap[gl]? = some (.cells (nums .u32 l) 65)) (km : RdW w0 gm om m) : Calls Tryd.prog 37 #[.agg (nums .u32 (cl c)), .pointer (some ⟨gl, 0, none⟩), .pointer (some ⟨gm, om, none⟩)] w0 fun e w' => e = .returned (.bool (meetsL c l m)) ∧ Low w0 w' := by
  refine c_fun (R := _) Tryd.func37 rfl 81 rfl (Nat.le_of_ble_eq_true rfl) ?_
  intro a z hA
  have s0 := hA 0 _ rfl
  have s1 := hA 1 _ rfl
  have s2 := hA 2 _ rfl
  clear hA
  refine c_seq ?_
  refine c_region ?_
  refine l_box rfl rfl s0.ev ?_
  intro g3 w1 hg1 k1 h1
  have ngl_g3 := Nat.ne_of_lt (Nat.lt_of_lt_of_le (heap_lt kl) hg1)
  have ngm_g3 := Nat.ne_of_lt (Nat.lt_of_lt_of_le km.lt hg1)
  have geg3 := Nat.le_trans (Low.refl _).ge hg1
  have kgl_1 := h1.blk kl
  have kgm_1 := km.low h1
  refine l_q rfl (q_assign _ _ rfl rfl ?_)
  refine l_end ?_
  refine e_fresh z.put.put ?_
  intro a2 z2 m2
  have s1_2 := m2 _ _ ((s1.ne rfl).ne rfl)
  have s2_2 := m2 _ _ ((s2.ne rfl).ne rfl)
  have s3_2 := m2 _ _ ((At.hit z rfl).ne rfl)
  have low2 := h1
  clear m2
  refine e_then ?_
  refine c_seq ?_
  refine c_region ?_
  refine l_q rfl (q_row rfl Tryd.underlying68 rfl (sz68.trans (congrArg some ((nums_size _ _).trans (cl_len c)).symm)) s3_2.ev (fun _ e => by rw [e]; exact k1) ?_)
  refine l_alloc rfl rfl zero68 ?_
  intro g7 w3 hg3 k3 h3
  have lt_g3_g7 := Nat.lt_of_lt_of_le (heap_lt k1) hg3
  have ngl_g7 := Nat.ne_of_lt (Nat.lt_of_lt_of_le (heap_lt kgl_1) hg3)
  have ngm_g7 := Nat.ne_of_lt (Nat.lt_of_lt_of_le kgm_1.lt hg3)
  have geg7 := Nat.le_trans low2.ge hg3
  have kgl_3 := h3.blk kgl_1
  have kgm_3 := kgm_1.low h3
  have kg3_3 := h3.blk k1
  refine l_row rfl rfl rfl (sz68.trans (congrArg some ((nums_size _ _).trans (cl_len c)).symm)) (At.hit z2.put rfl).ev ((At.hit z2 rfl).ne rfl).ev (nums_one _ _) k3 (((nums_size _ _).trans (List.length_replicate)).trans ((nums_size _ _).trans (cl_len c)).symm) ?_
  intro w4 k4 u4
  have kgl_4 := u4.blk kgl_3 (by omega)
  have kgm_4 := kgm_3.upd u4 (by omega)
  have kg3_4 := u4.blk kg3_3 (by omega)
  refine l_end ?_
  refine e_fresh z2.put.put ?_
  intro a5 z5 m5
  have s1_5 := m5 _ _ ((s1_2.ne rfl).ne rfl)
  have s2_5 := m5 _ _ ((s2_2.ne rfl).ne rfl)
  have s3_5 := m5 _ _ ((s3_2.ne rfl).ne rfl)
  have s7_5 := m5 _ _ (At.hit z2.put rfl)
  have low5 := ((low2.trans h3).upd u4 geg7)
  clear m5
  refine e_then ?_
  refine c_seq ?_
  refine c_seq ?_
  refine c_region ?_
  refine l_q rfl (q_move _ _ rfl rfl ?_)
  refine l_end ?_
  refine e_fresh z5.put ?_
  intro a6 z6 m6
  have s1_6 := m6 _ _ (s1_5.ne rfl)
  have s2_6 := m6 _ _ (s2_5.ne rfl)
  have s3_6 := m6 _ _ (s3_5.ne rfl)
  have s7_6 := m6 _ _ (s7_5.ne rfl)
  have s15_6 := m6 _ _ (At.hit z5 rfl)
  clear m6
  refine e_then ?_
  refine wp_block ?_
  refine c_loop 58 (fun k a w => Fr 81 a ∧ At a 1 (.pointer (some ⟨gl, 0, none⟩)) ∧ At a 2 (.pointer (some ⟨gm, om, none⟩)) ∧ At a 3 (.pointer (some ⟨g3, 0, none⟩)) ∧ At a 7 (.pointer (some ⟨g7, 0, none⟩)) ∧ At a 15 (.int .i64 ((k : Nat) : Int)) ∧ w.heap[g3]? = some (.cells (nums .u32 (cl c)) 68) ∧ w.heap[g7]? = some (.cells (nums .u32 (cl (stepsL l c k))) 68) ∧ w.heap[gl]? = some (.cells (nums .u32 l) 65) ∧ RdW w gm om m ∧ Low w0 w) ?_ ?_ ?_
  · exact ⟨z6, s1_6, s2_6, s3_6, s7_6, s15_6, kg3_4, k4, kgl_4, kgm_4, low5⟩
  · intro k a7 w7 hk7 h
    obtain ⟨z7, s1_7, s2_7, s3_7, s7_7, s15_7, kg3_7, kg7_7, kgl_7, kgm_7, low7⟩ := h
    clear k4 kg3_4 kgl_4 kgm_4 low5 s15_6 s1_6 s2_6 s3_6 s7_6 z6
    refine c_seq ?_
    refine c_region ?_
    refine l_q rfl (q_lss true rfl s15_7.ev rfl (decide_eq_true (by omega)) ?_)
    refine l_end ?_
    refine e_fresh z7.put ?_
    intro a8 z8 m8
    have s1_8 := m8 _ _ (s1_7.ne rfl)
    have s2_8 := m8 _ _ (s2_7.ne rfl)
    have s3_8 := m8 _ _ (s3_7.ne rfl)
    have s7_8 := m8 _ _ (s7_7.ne rfl)
    have s15_8 := m8 _ _ (s15_7.ne rfl)
    have s16_8 := m8 _ _ (At.hit z7 rfl)
    clear m8
    refine e_then ?_
    refine c_seq ?_
    refine c_true s16_8 ?_
    refine wp_skip ?_
    refine e_then ?_
    refine c_seq ?_
    refine wp_block ?_
    refine c_seq ?_
    refine c_region ?_
    refine l_q rfl (q_move _ _ rfl s15_8.ev ?_)
    refine l_q rfl (q_assign _ _ rfl (At.hit z8 rfl).ev ?_)
    refine l_end ?_
    refine e_fresh z8.put.put ?_
    intro a9 z9 m9
    have s1_9 := m9 _ _ ((s1_8.ne rfl).ne rfl)
    have s2_9 := m9 _ _ ((s2_8.ne rfl).ne rfl)
    have s3_9 := m9 _ _ ((s3_8.ne rfl).ne rfl)
    have s7_9 := m9 _ _ ((s7_8.ne rfl).ne rfl)
    have s8_9 := m9 _ _ (At.hit z8.put rfl)
    have s15_9 := m9 _ _ ((s15_8.ne rfl).ne rfl)
    clear m9
    refine e_then ?_
    refine region_low_tail 8 hm (by kernel_rfl) ?_
    simp only [List.take_succ_cons, List.take_zero, List.drop_succ_cons, List.drop_zero]
    refine qs (q_row rfl Tryd.underlying68 rfl (sz68.trans (congrArg some ((nums_size _ _).trans (cl_len (stepsL l c k))).symm)) s7_9.ev (fun _ h => h.blk kg7_7) ?_)
    refine qs (q_move _ _ rfl (s8_9.ne rfl).ev ?_)
    refine qs (q_move _ _ rfl ((s1_9.ne rfl).ne rfl).ev ?_)
    refine qs (q_move _ _ rfl (((s8_9.ne rfl).ne rfl).ne rfl).ev ?_)
    refine qs (q_nil rfl ((At.hit z9.put.put rfl).ne rfl).ev ?_)
    refine qs (q_idx (j := k) rfl Tryd.underlying65 sz63 (At.hit z9.put.put.put.put rfl).ev ((At.hit z9.put.put.put rfl).ne rfl).ev (by omega) ?_)
    refine qs (q_cell (.int .u32 (l.getD k 0)) rfl Tryd.underlying63 (At.hit z9.put.put.put.put.put rfl).ev (fun _ h => nums_cell (h.blk kgl_7) k (by rw [hl]; omega)) ?_)
    refine qs (q_call (.agg (nums .u32 (cl (stepL (stepsL l c k) ((k : Nat) : Int) (l.getD k 0))))) rfl rfl Tryd.func46 rfl (args3 rfl (((((((At.hit z9 rfl).ne rfl).ne rfl).ne rfl).ne rfl).ne rfl).ne rfl).ev ((((((At.hit z9.put rfl).ne rfl).ne rfl).ne rfl).ne rfl).ne rfl).ev (At.hit z9.put.put.put.put.put.put rfl).ev) (fun _ h => (StepL.calls (stepsL l c k) ((k : Nat) : Int) (l.getD k 0) _).mono fun _ _ ⟨e, k⟩ => ⟨e, h.trans k⟩) ?_)
    refine qz ?_
    intro w10 h10
    have kg3_10 := h10.blk kg3_7
    have kg7_10 := h10.blk kg7_7
    have kgl_10 := h10.blk kgl_7
    have kgm_10 := kgm_7.low h10
    refine l_row rfl rfl rfl (sz68.trans (congrArg some ((nums_size _ _).trans (cl_len (stepL (stepsL l c k) ((k : Nat) : Int) (l.getD k 0)))).symm)) ((((((((s7_9.ne rfl).ne rfl).ne rfl).ne rfl).ne rfl).ne rfl).ne rfl).ne rfl).ev (At.hit z9.put.put.put.put.put.put.put rfl).ev (nums_one _ _) kg7_10 (((nums_size _ _).trans (cl_len (stepsL l c k))).trans ((nums_size _ _).trans (cl_len (stepL (stepsL l c k) ((k : Nat) : Int) (l.getD k 0)))).symm) ?_
    intro w11 k11 u11
    have kg3_11 := u11.blk kg3_10 (by omega)
    have kgl_11 := u11.blk kgl_10 (by omega)
    have kgm_11 := kgm_10.upd u11 (by omega)
    refine l_end ?_
    refine e_fresh z9.put.put.put.put.put.put.put.put ?_
    intro a12 z12 m12
    have s1_12 := m12 _ _ ((((((((s1_9.ne rfl).ne rfl).ne rfl).ne rfl).ne rfl).ne rfl).ne rfl).ne rfl)
    have s2_12 := m12 _ _ ((((((((s2_9.ne rfl).ne rfl).ne rfl).ne rfl).ne rfl).ne rfl).ne rfl).ne rfl)
    have s3_12 := m12 _ _ ((((((((s3_9.ne rfl).ne rfl).ne rfl).ne rfl).ne rfl).ne rfl).ne rfl).ne rfl)
    have s7_12 := m12 _ _ ((((((((s7_9.ne rfl).ne rfl).ne rfl).ne rfl).ne rfl).ne rfl).ne rfl).ne rfl)
    have s15_12 := m12 _ _ ((((((((s15_9.ne rfl).ne rfl).ne rfl).ne rfl).ne rfl).ne rfl).ne rfl).ne rfl)
    have low12 := ((low7.trans h10).upd u11 geg7)
    clear m12
    refine e_in ?_
    refine e_then ?_
    refine c_region ?_
    refine l_q rfl (q_add (((k + 1 : Nat) : Int)) rfl s15_12.ev rfl (i64_is (by omega) (by omega) (by omega)) ?_)
    refine l_q rfl (q_move _ _ rfl (At.hit z12 rfl).ev ?_)
    refine l_end ?_
    refine e_fresh z12.put.put ?_
    intro a13 z13 m13
    have s1_13 := m13 _ _ ((s1_12.ne rfl).ne rfl)
    have s2_13 := m13 _ _ ((s2_12.ne rfl).ne rfl)
    have s3_13 := m13 _ _ ((s3_12.ne rfl).ne rfl)
    have s7_13 := m13 _ _ ((s7_12.ne rfl).ne rfl)
    have s15_13 := m13 _ _ (At.hit z12.put rfl)
    clear m13
    exact ⟨z13, s1_13, s2_13, s3_13, s7_13, s15_13, kg3_11, k11, kgl_11, kgm_11, low12⟩
  · intro a14 w14 h
    obtain ⟨z14, s1_14, s2_14, s3_14, s7_14, s15_14, kg3_14, kg7_14, kgl_14, kgm_14, low14⟩ := h
    clear k4 kg3_4 kgl_4 kgm_4 low5 s15_6 s1_6 s2_6 s3_6 s7_6 z6
    refine c_seq ?_
    refine c_region ?_
    refine l_q rfl (q_lss false rfl s15_14.ev rfl (decide_eq_false (by omega)) ?_)
    refine l_end ?_
    refine e_fresh z14.put ?_
    intro a15 z15 m15
    have s1_15 := m15 _ _ (s1_14.ne rfl)
    have s2_15 := m15 _ _ (s2_14.ne rfl)
    have s3_15 := m15 _ _ (s3_14.ne rfl)
    have s7_15 := m15 _ _ (s7_14.ne rfl)
    have s15_15 := m15 _ _ (s15_14.ne rfl)
    have s16_15 := m15 _ _ (At.hit z14 rfl)
    clear m15
    refine e_then ?_
    refine c_seq ?_
    refine c_false s16_15 ?_
    refine wp_exit ?_
    refine x_then ?_
    refine x_then ?_
    refine in_exit ?_
    refine e_then ?_
    refine c_seq ?_
    refine region_told [.val (.agg (nums .u32 (cl (stepsL l c 58)))), .val (.agg (nums .u32 (cl (stepsL l c 58)))), .val (.agg (nums .u32 (cl (stepsL l c 58)))), .new (nums .u32 (List.replicate 5 0)) 68 6 (nums .u32 (cl (stepsL l c 58))), .new (nums .u32 (List.replicate 5 0)) 68 7 (nums .u32 (cl (stepsL l c 58))), .new (nums .u32 (List.replicate 5 0)) 68 8 (nums .u32 (cl (stepsL l c 58))), .put 3 0, .put 4 1, .put 5 2] hm (by kernel_rfl) rfl z15 (allO_cons ?_ (allO_cons ?_ (allO_cons ?_ (allO_cons (stepO_new _ rfl rfl rfl zero68) (allO_cons (stepO_new _ rfl rfl rfl zero68) (allO_cons (stepO_new _ rfl rfl rfl zero68) (allO_cons (stepO_put rfl rfl rfl rfl rfl rfl rfl rfl (((nums_size _ _).trans (List.length_replicate)).trans ((nums_size _ _).trans (cl_len (stepsL l c 58))).symm) (nums_one _ _) (sz68.trans (congrArg some ((nums_size _ _).trans (cl_len (stepsL l c 58))).symm))) (allO_cons (stepO_put rfl rfl rfl rfl rfl rfl rfl rfl (((nums_size _ _).trans (List.length_replicate)).trans ((nums_size _ _).trans (cl_len (stepsL l c 58))).symm) (nums_one _ _) (sz68.trans (congrArg some ((nums_size _ _).trans (cl_len (stepsL l c 58))).symm))) (allO_cons (stepO_put rfl rfl rfl rfl rfl rfl rfl rfl (((nums_size _ _).trans (List.length_replicate)).trans ((nums_size _ _).trans (cl_len (stepsL l c 58))).symm) (nums_one _ _) (sz68.trans (congrArg some ((nums_size _ _).trans (cl_len (stepsL l c 58))).symm))) allO_nil))))))))) ?_
    · exact stepO_val _ rfl rfl fun _ _ _ lw kp kn => q_row rfl Tryd.underlying68 rfl (sz68.trans (congrArg some ((nums_size _ _).trans (cl_len (stepsL l c 58))).symm)) (kp _ _ rfl s7_15).ev (fun _ h => h.blk (lw.blk kg7_14)) rfl
    · exact stepO_val _ rfl rfl fun _ _ _ lw kp kn => q_row rfl Tryd.underlying68 rfl (sz68.trans (congrArg some ((nums_size _ _).trans (cl_len (stepsL l c 58))).symm)) (kp _ _ rfl s7_15).ev (fun _ h => h.blk (lw.blk kg7_14)) rfl
    · exact stepO_val _ rfl rfl fun _ _ _ lw kp kn => q_row rfl Tryd.underlying68 rfl (sz68.trans (congrArg some ((nums_size _ _).trans (cl_len (stepsL l c 58))).symm)) (kp _ _ rfl s7_15).ev (fun _ h => h.blk (lw.blk kg7_14)) rfl
    intro a16 w16 G D
    have bg3_16 := (heap_lt kg3_14)
    have bg7_16 := (heap_lt kg7_14)
    have bgl_16 := (heap_lt kgl_14)
    have bgm_16 := kgm_14.lt
    have sg9 := D.ptr 3 _ _ _ _ _ rfl rfl
    have hgg9 := D.ge 3 _ _ _ _ _ rfl rfl
    have kg9 := D.blk 3 _ _ _ _ _ rfl rfl
    have geg9 := Nat.le_trans low14.ge hgg9
    have sg10 := D.ptr 4 _ _ _ _ _ rfl rfl
    have hgg10 := D.ge 4 _ _ _ _ _ rfl rfl
    have kg10 := D.blk 4 _ _ _ _ _ rfl rfl
    have geg10 := Nat.le_trans low14.ge hgg10
    have sg11 := D.ptr 5 _ _ _ _ _ rfl rfl
    have hgg11 := D.ge 5 _ _ _ _ _ rfl rfl
    have kg11 := D.blk 5 _ _ _ _ _ rfl rfl
    have geg11 := Nat.le_trans low14.ge hgg11
    have d16_3_4 := D.ne 3 4 _ _ _ _ _ _ _ _ rfl rfl rfl
    have d16_3_5 := D.ne 3 5 _ _ _ _ _ _ _ _ rfl rfl rfl
    have d16_4_5 := D.ne 4 5 _ _ _ _ _ _ _ _ rfl rfl rfl
    have h16 := D.low
    have kg3_16 := h16.blk kg3_14
    have kg7_16 := h16.blk kg7_14
    have kgl_16 := h16.blk kgl_14
    have kgm_16 := kgm_14.low h16
    have z16 := D.fr
    have s1_16 := (D.keep _ _ rfl s1_15)
    have s2_16 := (D.keep _ _ rfl s2_15)
    have s3_16 := (D.keep _ _ rfl s3_15)
    have s7_16 := (D.keep _ _ rfl s7_15)
    have s15_16 := (D.keep _ _ rfl s15_15)
    have s16_16 := (D.keep _ _ rfl s16_15)
    have s27_16 := (D.val 0 _ _ rfl rfl)
    have s28_16 := (D.val 1 _ _ rfl rfl)
    have s29_16 := (D.val 2 _ _ rfl rfl)
    clear D
    generalize G 3 = g9 at *
    generalize G 4 = g10 at *
    generalize G 5 = g11 at *
    refine e_fresh z16 ?_
    intro a17 z17 m17
    have s1_17 := m17 _ _ s1_16
    have s2_17 := m17 _ _ s2_16
    have s3_17 := m17 _ _ s3_16
    have s9_17 := m17 _ _ sg9
    have s10_17 := m17 _ _ sg10
    have s11_17 := m17 _ _ sg11
    have low17 := (low14.trans h16)
    clear m17
    refine e_then ?_
    refine c_seq ?_
    refine c_seq ?_
    refine c_region ?_
    refine l_q rfl (q_assign _ _ rfl rfl ?_)
    refine l_end ?_
    refine e_fresh z17.put ?_
    intro a18 z18 m18
    have s1_18 := m18 _ _ (s1_17.ne rfl)
    have s2_18 := m18 _ _ (s2_17.ne rfl)
    have s3_18 := m18 _ _ (s3_17.ne rfl)
    have s9_18 := m18 _ _ (s9_17.ne rfl)
    have s10_18 := m18 _ _ (s10_17.ne rfl)
    have s11_18 := m18 _ _ (s11_17.ne rfl)
    have s12_18 := m18 _ _ (At.hit z17 rfl)
    clear m18
    refine e_then ?_
    refine wp_block ?_
    refine c_loop 22 (fun k a w => Fr 81 a ∧ At a 1 (.pointer (some ⟨gl, 0, none⟩)) ∧ At a 2 (.pointer (some ⟨gm, om, none⟩)) ∧ At a 3 (.pointer (some ⟨g3, 0, none⟩)) ∧ At a 9 (.pointer (some ⟨g9, 0, none⟩)) ∧ At a 10 (.pointer (some ⟨g10, 0, none⟩)) ∧ At a 11 (.pointer (some ⟨g11, 0, none⟩)) ∧ At a 12 (.int .i64 ((k + 58 : Nat) : Int)) ∧ w.heap[g10]? = some (.cells (nums .u32 (cl (stepsL l c 58))) 68) ∧ w.heap[g11]? = some (.cells (nums .u32 (cl (stepsX l m (stepsL l c 58) stepL 58 k))) 68) ∧ w.heap[g3]? = some (.cells (nums .u32 (cl c)) 68) ∧ w.heap[g9]? = some (.cells (nums .u32 (cl (stepsO l (stepsL l c 58) 58 k))) 68) ∧ w.heap[gl]? = some (.cells (nums .u32 l) 65) ∧ RdW w gm om m ∧ Low w0 w) ?_ ?_ ?_
    · exact ⟨z18, s1_18, s2_18, s3_18, s9_18, s10_18, s11_18, (s12_18.same (congrArg (Value.int .i64) (by omega))), kg10, kg11, kg3_16, kg9, kgl_16, kgm_16, low17⟩
    · intro k a19 w19 hk19 h
      obtain ⟨z19, s1_19, s2_19, s3_19, s9_19, s10_19, s11_19, s12_19, kg10_19, kg11_19, kg3_19, kg9_19, kgl_19, kgm_19, low19⟩ := h
      clear kg10 kg11 kg3_16 kg9 kgl_16 kgm_16 low17 s10_18 s11_18 s12_18 s1_18 s2_18 s3_18 s9_18 z18
      refine c_seq ?_
      refine c_seq ?_
      refine c_region ?_
      refine l_q rfl (q_move _ _ rfl s12_19.ev ?_)
      refine l_q rfl (q_lss true rfl (At.hit z19 rfl).ev rfl (decide_eq_true (by omega)) ?_)
      refine l_end ?_
      refine e_fresh z19.put.put ?_
      intro a20 z20 m20
      have s1_20 := m20 _ _ ((s1_19.ne rfl).ne rfl)
      have s2_20 := m20 _ _ ((s2_19.ne rfl).ne rfl)
      have s3_20 := m20 _ _ ((s3_19.ne rfl).ne rfl)
      have s9_20 := m20 _ _ ((s9_19.ne rfl).ne rfl)
      have s10_20 := m20 _ _ ((s10_19.ne rfl).ne rfl)
      have s11_20 := m20 _ _ ((s11_19.ne rfl).ne rfl)
      have s12_20 := m20 _ _ ((s12_19.ne rfl).ne rfl)
      have s31_20 := m20 _ _ (At.hit z19.put rfl)
      clear m20
      refine e_then ?_
      refine c_true s31_20 ?_
      refine wp_skip ?_
      refine e_then ?_
      refine c_seq ?_
      refine wp_block ?_
      refine c_seq ?_
      refine region_low_tail 8 hm (by kernel_rfl) ?_
      simp only [List.take_succ_cons, List.take_zero, List.drop_succ_cons, List.drop_zero]
      refine qs (q_row rfl Tryd.underlying68 rfl (sz68.trans (congrArg some ((nums_size _ _).trans (cl_len (stepsO l (stepsL l c 58) 58 k))).symm)) s9_20.ev (fun _ h => h.blk kg9_19) ?_)
      refine qs (q_move _ _ rfl (s12_20.ne rfl).ev ?_)
      refine qs (q_move _ _ rfl ((s1_20.ne rfl).ne rfl).ev ?_)
      refine qs (q_move _ _ rfl (((s12_20.ne rfl).ne rfl).ne rfl).ev ?_)
      refine qs (q_nil rfl ((At.hit z20.put.put rfl).ne rfl).ev ?_)
      refine qs (q_idx (j := k + 58) rfl Tryd.underlying65 sz63 (At.hit z20.put.put.put.put rfl).ev ((At.hit z20.put.put.put rfl).ne rfl).ev (by omega) ?_)
      refine qs (q_cell (.int .u32 (l.getD (k + 58) 0)) rfl Tryd.underlying63 (At.hit z20.put.put.put.put.put rfl).ev (fun _ h => nums_cell (h.blk kgl_19) (k + 58) (by rw [hl]; omega)) ?_)
      refine qs (q_call (.agg (nums .u32 (cl (stepL (stepsO l (stepsL l c 58) 58 k) ((k + 58 : Nat) : Int) (l.getD (k + 58) 0))))) rfl rfl Tryd.func46 rfl (args3 rfl (((((((At.hit z20 rfl).ne rfl).ne rfl).ne rfl).ne rfl).ne rfl).ne rfl).ev ((((((At.hit z20.put rfl).ne rfl).ne rfl).ne rfl).ne rfl).ne rfl).ev (At.hit z20.put.put.put.put.put.put rfl).ev) (fun _ h => (StepL.calls (stepsO l (stepsL l c 58) 58 k) ((k + 58 : Nat) : Int) (l.getD (k + 58) 0) _).mono fun _ _ ⟨e, k⟩ => ⟨e, h.trans k⟩) ?_)
      refine qz ?_
      intro w21 h21
      have kg10_21 := h21.blk kg10_19
      have kg11_21 := h21.blk kg11_19
      have kg3_21 := h21.blk kg3_19
      have kg9_21 := h21.blk kg9_19
      have kgl_21 := h21.blk kgl_19
      have kgm_21 := kgm_19.low h21
      refine l_row rfl rfl rfl (sz68.trans (congrArg some ((nums_size _ _).trans (cl_len (stepL (stepsO l (stepsL l c 58) 58 k) ((k + 58 : Nat) : Int) (l.getD (k + 58) 0)))).symm)) ((((((((s9_20.ne rfl).ne rfl).ne rfl).ne rfl).ne rfl).ne rfl).ne rfl).ne rfl).ev (At.hit z20.put.put.put.put.put.put.put rfl).ev (nums_one _ _) kg9_21 (((nums_size _ _).trans (cl_len (stepsO l (stepsL l c 58) 58 k))).trans ((nums_size _ _).trans (cl_len (stepL (stepsO l (stepsL l c 58) 58 k) ((k + 58 : Nat) : Int) (l.getD (k + 58) 0)))).symm) ?_
      intro w22 k22 u22
      have kg10_22 := u22.blk kg10_21 (by omega)
      have kg11_22 := u22.blk kg11_21 (by omega)
      have kg3_22 := u22.blk kg3_21 (by omega)
      have kgl_22 := u22.blk kgl_21 (by omega)
      have kgm_22 := kgm_21.upd u22 (by omega)
      refine l_end ?_
      refine e_fresh z20.put.put.put.put.put.put.put.put ?_
      intro a23 z23 m23
      have s1_23 := m23 _ _ ((((((((s1_20.ne rfl).ne rfl).ne rfl).ne rfl).ne rfl).ne rfl).ne rfl).ne rfl)
      have s2_23 := m23 _ _ ((((((((s2_20.ne rfl).ne rfl).ne rfl).ne rfl).ne rfl).ne rfl).ne rfl).ne rfl)
      have s3_23 := m23 _ _ ((((((((s3_20.ne rfl).ne rfl).ne rfl).ne rfl).ne rfl).ne rfl).ne rfl).ne rfl)
      have s9_23 := m23 _ _ ((((((((s9_20.ne rfl).ne rfl).ne rfl).ne rfl).ne rfl).ne rfl).ne rfl).ne rfl)
      have s10_23 := m23 _ _ ((((((((s10_20.ne rfl).ne rfl).ne rfl).ne rfl).ne rfl).ne rfl).ne rfl).ne rfl)
      have s11_23 := m23 _ _ ((((((((s11_20.ne rfl).ne rfl).ne rfl).ne rfl).ne rfl).ne rfl).ne rfl).ne rfl)
      have s12_23 := m23 _ _ ((((((((s12_20.ne rfl).ne rfl).ne rfl).ne rfl).ne rfl).ne rfl).ne rfl).ne rfl)
      have low23 := ((low19.trans h21).upd u22 geg9)
      clear m23
      refine e_then ?_
      refine region_low_tail 14 hm (by kernel_rfl) ?_
      simp only [List.take_succ_cons, List.take_zero, List.drop_succ_cons, List.drop_zero]
      refine qs (q_row rfl Tryd.underlying68 rfl (sz68.trans (congrArg some ((nums_size _ _).trans (cl_len (stepsX l m (stepsL l c 58) stepL 58 k))).symm)) s11_23.ev (fun _ h => h.blk kg11_22) ?_)
      refine qs (q_move _ _ rfl (s12_23.ne rfl).ev ?_)
      refine qs (q_move _ _ rfl ((s1_23.ne rfl).ne rfl).ev ?_)
      refine qs (q_move _ _ rfl (((s12_23.ne rfl).ne rfl).ne rfl).ev ?_)
      refine qs (q_nil rfl ((At.hit z23.put.put rfl).ne rfl).ev ?_)
      refine qs (q_idx (j := k + 58) rfl Tryd.underlying65 sz63 (At.hit z23.put.put.put.put rfl).ev ((At.hit z23.put.put.put rfl).ne rfl).ev (by omega) ?_)
      refine qs (q_cell (.int .u32 (l.getD (k + 58) 0)) rfl Tryd.underlying63 (At.hit z23.put.put.put.put.put rfl).ev (fun _ h => nums_cell (h.blk kgl_22) (k + 58) (by rw [hl]; omega)) ?_)
      refine qs (q_move _ _ rfl (((((((s2_23.ne rfl).ne rfl).ne rfl).ne rfl).ne rfl).ne rfl).ne rfl).ev ?_)
      refine q_fresh z23.put.put.put.put.put.put.put.put ?_
      intro a24 z24 m24
      have s1_24 := m24 _ _ ((((((((s1_23.ne rfl).ne rfl).ne rfl).ne rfl).ne rfl).ne rfl).ne rfl).ne rfl)
      have s2_24 := m24 _ _ ((((((((s2_23.ne rfl).ne rfl).ne rfl).ne rfl).ne rfl).ne rfl).ne rfl).ne rfl)
      have s3_24 := m24 _ _ ((((((((s3_23.ne rfl).ne rfl).ne rfl).ne rfl).ne rfl).ne rfl).ne rfl).ne rfl)
      have s9_24 := m24 _ _ ((((((((s9_23.ne rfl).ne rfl).ne rfl).ne rfl).ne rfl).ne rfl).ne rfl).ne rfl)
      have s10_24 := m24 _ _ ((((((((s10_23.ne rfl).ne rfl).ne rfl).ne rfl).ne rfl).ne rfl).ne rfl).ne rfl)
      have s11_24 := m24 _ _ ((((((((s11_23.ne rfl).ne rfl).ne rfl).ne rfl).ne rfl).ne rfl).ne rfl).ne rfl)
      have s12_24 := m24 _ _ ((((((((s12_23.ne rfl).ne rfl).ne rfl).ne rfl).ne rfl).ne rfl).ne rfl).ne rfl)
      have s42_24 := m24 _ _ ((((((((At.hit z23 rfl).ne rfl).ne rfl).ne rfl).ne rfl).ne rfl).ne rfl).ne rfl)
      have s43_24 := m24 _ _ (((((((At.hit z23.put rfl).ne rfl).ne rfl).ne rfl).ne rfl).ne rfl).ne rfl)
      have s48_24 := m24 _ _ ((At.hit z23.put.put.put.put.put.put rfl).ne rfl)
      have s49_24 := m24 _ _ (At.hit z23.put.put.put.put.put.put.put rfl)
      clear m24
      refine qs (q_move _ _ rfl s12_24.ev ?_)
      refine qs (q_nil rfl (s49_24.ne rfl).ev ?_)
      refine qs (q_idxA (i := om) (j := k + 58) rfl Tryd.underlying65 sz63 (At.hit z24.put rfl).ev ((At.hit z24 rfl).ne rfl).ev (by omega) ?_)
      refine qs (q_cell (.int .u32 (m.getD (k + 58) 0)) rfl Tryd.underlying63 (At.hit z24.put.put rfl).ev (fun _ h => (kgm_22.low h).cell (k + 58) (by rw [hm']; omega)) ?_)
      refine qs (q_xor rfl ((((s48_24.ne rfl).ne rfl).ne rfl).ne rfl).ev (At.hit z24.put.put.put rfl).ev ?_)
      refine qs (q_call (.agg (nums .u32 (cl (stepL (stepsX l m (stepsL l c 58) stepL 58 k) ((k + 58 : Nat) : Int) (Go.bits .xor .u32 (l.getD (k + 58) 0) (m.getD (k + 58) 0)))))) rfl rfl Tryd.func46 rfl (args3 rfl (((((s42_24.ne rfl).ne rfl).ne rfl).ne rfl).ne rfl).ev (((((s43_24.ne rfl).ne rfl).ne rfl).ne rfl).ne rfl).ev (At.hit z24.put.put.put.put rfl).ev) (fun _ h => (StepL.calls (stepsX l m (stepsL l c 58) stepL 58 k) ((k + 58 : Nat) : Int) (Go.bits .xor .u32 (l.getD (k + 58) 0) (m.getD (k + 58) 0)) _).mono fun _ _ ⟨e, k⟩ => ⟨e, h.trans k⟩) ?_)
      refine qz ?_
      intro w25 h25
      have kg10_25 := h25.blk kg10_22
      have kg11_25 := h25.blk kg11_22
      have kg3_25 := h25.blk kg3_22
      have kg9_25 := h25.blk k22
      have kgl_25 := h25.blk kgl_22
      have kgm_25 := kgm_22.low h25
      refine l_row rfl rfl rfl (sz68.trans (congrArg some ((nums_size _ _).trans (cl_len (stepL (stepsX l m (stepsL l c 58) stepL 58 k) ((k + 58 : Nat) : Int) (Go.bits .xor .u32 (l.getD (k + 58) 0) (m.getD (k + 58) 0))))).symm)) ((((((s11_24.ne rfl).ne rfl).ne rfl).ne rfl).ne rfl).ne rfl).ev (At.hit z24.put.put.put.put.put rfl).ev (nums_one _ _) kg11_25 (((nums_size _ _).trans (cl_len (stepsX l m (stepsL l c 58) stepL 58 k))).trans ((nums_size _ _).trans (cl_len (stepL (stepsX l m (stepsL l c 58) stepL 58 k) ((k + 58 : Nat) : Int) (Go.bits .xor .u32 (l.getD (k + 58) 0) (m.getD (k + 58) 0))))).symm) ?_
      intro w26 k26 u26
      have kg10_26 := u26.blk kg10_25 (by omega)
      have kg3_26 := u26.blk kg3_25 (by omega)
      have kg9_26 := u26.blk kg9_25 (by omega)
      have kgl_26 := u26.blk kgl_25 (by omega)
      have kgm_26 := kgm_25.upd u26 (by omega)
      refine l_end ?_
      refine e_fresh z24.put.put.put.put.put.put ?_
      intro a27 z27 m27
      have s1_27 := m27 _ _ ((((((s1_24.ne rfl).ne rfl).ne rfl).ne rfl).ne rfl).ne rfl)
      have s2_27 := m27 _ _ ((((((s2_24.ne rfl).ne rfl).ne rfl).ne rfl).ne rfl).ne rfl)
      have s3_27 := m27 _ _ ((((((s3_24.ne rfl).ne rfl).ne rfl).ne rfl).ne rfl).ne rfl)
      have s9_27 := m27 _ _ ((((((s9_24.ne rfl).ne rfl).ne rfl).ne rfl).ne rfl).ne rfl)
      have s10_27 := m27 _ _ ((((((s10_24.ne rfl).ne rfl).ne rfl).ne rfl).ne rfl).ne rfl)
      have s11_27 := m27 _ _ ((((((s11_24.ne rfl).ne rfl).ne rfl).ne rfl).ne rfl).ne rfl)
      have s12_27 := m27 _ _ ((((((s12_24.ne rfl).ne rfl).ne rfl).ne rfl).ne rfl).ne rfl)
      have low27 := ((low23.trans h25).upd u26 geg11)
      clear m27
      refine e_in ?_
      refine e_then ?_
      refine c_region ?_
      refine l_q rfl (q_move _ _ rfl s12_27.ev ?_)
      refine l_q rfl (q_add (((k + 59 : Nat) : Int)) rfl (At.hit z27 rfl).ev rfl (i64_is (by omega) (by omega) (by omega)) ?_)
      refine l_q rfl (q_assign _ _ rfl (At.hit z27.put rfl).ev ?_)
      refine l_end ?_
      refine e_fresh z27.put.put.put ?_
      intro a28 z28 m28
      have s1_28 := m28 _ _ (((s1_27.ne rfl).ne rfl).ne rfl)
      have s2_28 := m28 _ _ (((s2_27.ne rfl).ne rfl).ne rfl)
      have s3_28 := m28 _ _ (((s3_27.ne rfl).ne rfl).ne rfl)
      have s9_28 := m28 _ _ (((s9_27.ne rfl).ne rfl).ne rfl)
      have s10_28 := m28 _ _ (((s10_27.ne rfl).ne rfl).ne rfl)
      have s11_28 := m28 _ _ (((s11_27.ne rfl).ne rfl).ne rfl)
      have s12_28 := m28 _ _ (At.hit z27.put.put rfl)
      clear m28
      exact ⟨z28, s1_28, s2_28, s3_28, s9_28, s10_28, s11_28, (s12_28.same (congrArg (Value.int .i64) (by omega))), kg10_26, k26, kg3_26, kg9_26, kgl_26, kgm_26, low27⟩
    · intro a29 w29 h
      obtain ⟨z29, s1_29, s2_29, s3_29, s9_29, s10_29, s11_29, s12_29, kg10_29, kg11_29, kg3_29, kg9_29, kgl_29, kgm_29, low29⟩ := h
      clear kg10 kg11 kg3_16 kg9 kgl_16 kgm_16 low17 s10_18 s11_18 s12_18 s1_18 s2_18 s3_18 s9_18 z18
      refine c_seq ?_
      refine c_seq ?_
      refine c_region ?_
      refine l_q rfl (q_move _ _ rfl s12_29.ev ?_)
      refine l_q rfl (q_lss false rfl (At.hit z29 rfl).ev rfl (decide_eq_false (by omega)) ?_)
      refine l_end ?_
      refine e_fresh z29.put.put ?_
      intro a30 z30 m30
      have s1_30 := m30 _ _ ((s1_29.ne rfl).ne rfl)
      have s2_30 := m30 _ _ ((s2_29.ne rfl).ne rfl)
      have s3_30 := m30 _ _ ((s3_29.ne rfl).ne rfl)
      have s9_30 := m30 _ _ ((s9_29.ne rfl).ne rfl)
      have s10_30 := m30 _ _ ((s10_29.ne rfl).ne rfl)
      have s11_30 := m30 _ _ ((s11_29.ne rfl).ne rfl)
      have s12_30 := m30 _ _ ((s12_29.ne rfl).ne rfl)
      have s31_30 := m30 _ _ (At.hit z29.put rfl)
      clear m30
      refine e_then ?_
      refine c_false s31_30 ?_
      refine wp_exit ?_
      refine x_then ?_
      refine x_then ?_
      refine in_exit ?_
      refine e_then ?_
      refine c_seq ?_
      refine c_seq ?_
      refine c_region ?_
      refine l_q rfl (q_assign _ _ rfl rfl ?_)
      refine l_end ?_
      refine e_fresh z30.put ?_
      intro a31 z31 m31
      have s1_31 := m31 _ _ (s1_30.ne rfl)
      have s2_31 := m31 _ _ (s2_30.ne rfl)
      have s3_31 := m31 _ _ (s3_30.ne rfl)
      have s9_31 := m31 _ _ (s9_30.ne rfl)
      have s10_31 := m31 _ _ (s10_30.ne rfl)
      have s11_31 := m31 _ _ (s11_30.ne rfl)
      have s13_31 := m31 _ _ (At.hit z30 rfl)
      clear m31
      refine e_then ?_
      refine wp_block ?_
      refine c_loop 58 (fun k a w => Fr 81 a ∧ At a 1 (.pointer (some ⟨gl, 0, none⟩)) ∧ At a 2 (.pointer (some ⟨gm, om, none⟩)) ∧ At a 3 (.pointer (some ⟨g3, 0, none⟩)) ∧ At a 9 (.pointer (some ⟨g9, 0, none⟩)) ∧ At a 10 (.pointer (some ⟨g10, 0, none⟩)) ∧ At a 11 (.pointer (some ⟨g11, 0, none⟩)) ∧ At a 13 (.int .i64 (57 - ((k : Nat) : Int))) ∧ w.heap[g10]? = some (.cells (nums .u32 (cl (backX l m (stepsL l c 58) backL k))) 68) ∧ w.heap[g11]? = some (.cells (nums .u32 (cl (stepsX l m (stepsL l c 58) stepL 58 22))) 68) ∧ w.heap[g3]? = some (.cells (nums .u32 (cl c)) 68) ∧ w.heap[g9]? = some (.cells (nums .u32 (cl (stepsO l (stepsL l c 58) 58 22))) 68) ∧ w.heap[gl]? = some (.cells (nums .u32 l) 65) ∧ RdW w gm om m ∧ Low w0 w) ?_ ?_ ?_
      · exact ⟨z31, s1_31, s2_31, s3_31, s9_31, s10_31, s11_31, (s13_31.same (congrArg (Value.int .i64) (by omega))), kg10_29, kg11_29, kg3_29, kg9_29, kgl_29, kgm_29, low29⟩
      · intro k a32 w32 hk32 h
        obtain ⟨z32, s1_32, s2_32, s3_32, s9_32, s10_32, s11_32, s13_32, kg10_32, kg11_32, kg3_32, kg9_32, kgl_32, kgm_32, low32⟩ := h
        clear kg10_29 kg11_29 kg3_29 kg9_29 kgl_29 kgm_29 low29 s10_31 s11_31 s13_31 s1_31 s2_31 s3_31 s9_31 z31
        refine c_seq ?_
        refine c_seq ?_
        refine c_region ?_
        refine l_q rfl (q_move _ _ rfl s13_32.ev ?_)
        refine l_q rfl (q_geq true rfl (At.hit z32 rfl).ev rfl (decide_eq_true (by omega)) ?_)
        refine l_end ?_
        refine e_fresh z32.put.put ?_
        intro a33 z33 m33
        have s1_33 := m33 _ _ ((s1_32.ne rfl).ne rfl)
        have s2_33 := m33 _ _ ((s2_32.ne rfl).ne rfl)
        have s3_33 := m33 _ _ ((s3_32.ne rfl).ne rfl)
        have s9_33 := m33 _ _ ((s9_32.ne rfl).ne rfl)
        have s10_33 := m33 _ _ ((s10_32.ne rfl).ne rfl)
        have s11_33 := m33 _ _ ((s11_32.ne rfl).ne rfl)
        have s13_33 := m33 _ _ ((s13_32.ne rfl).ne rfl)
        have s57_33 := m33 _ _ (At.hit z32.put rfl)
        clear m33
        refine e_then ?_
        refine c_true s57_33 ?_
        refine wp_skip ?_
        refine e_then ?_
        refine c_seq ?_
        refine wp_block ?_
        refine region_low_tail 14 hm (by kernel_rfl) ?_
        simp only [List.take_succ_cons, List.take_zero, List.drop_succ_cons, List.drop_zero]
        refine qs (q_row rfl Tryd.underlying68 rfl (sz68.trans (congrArg some ((nums_size _ _).trans (cl_len (backX l m (stepsL l c 58) backL k))).symm)) s10_33.ev (fun _ h => h.blk kg10_32) ?_)
        refine qs (q_move _ _ rfl (s13_33.ne rfl).ev ?_)
        refine qs (q_move _ _ rfl ((s1_33.ne rfl).ne rfl).ev ?_)
        refine qs (q_move _ _ rfl (((s13_33.ne rfl).ne rfl).ne rfl).ev ?_)
        refine qs (q_nil rfl ((At.hit z33.put.put rfl).ne rfl).ev ?_)
        refine qs (q_idx (j := 57 - k) rfl Tryd.underlying65 sz63 (At.hit z33.put.put.put.put rfl).ev (((At.hit z33.put.put.put rfl).ne rfl).same (congrArg (Value.int .i64) (show ((57 - ((k : Nat) : Int)) : Int) = ((57 - k : Nat) : Int) by omega))).ev (by omega) ?_)
        refine qs (q_cell (.int .u32 (l.getD (57 - k) 0)) rfl Tryd.underlying63 (At.hit z33.put.put.put.put.put rfl).ev (fun _ h => nums_cell (h.blk kgl_32) (57 - k) (by rw [hl]; omega)) ?_)
        refine qs (q_move _ _ rfl (((((((s2_33.ne rfl).ne rfl).ne rfl).ne rfl).ne rfl).ne rfl).ne rfl).ev ?_)
        refine q_fresh z33.put.put.put.put.put.put.put.put ?_
        intro a34 z34 m34
        have s1_34 := m34 _ _ ((((((((s1_33.ne rfl).ne rfl).ne rfl).ne rfl).ne rfl).ne rfl).ne rfl).ne rfl)
        have s2_34 := m34 _ _ ((((((((s2_33.ne rfl).ne rfl).ne rfl).ne rfl).ne rfl).ne rfl).ne rfl).ne rfl)
        have s3_34 := m34 _ _ ((((((((s3_33.ne rfl).ne rfl).ne rfl).ne rfl).ne rfl).ne rfl).ne rfl).ne rfl)
        have s9_34 := m34 _ _ ((((((((s9_33.ne rfl).ne rfl).ne rfl).ne rfl).ne rfl).ne rfl).ne rfl).ne rfl)
        have s10_34 := m34 _ _ ((((((((s10_33.ne rfl).ne rfl).ne rfl).ne rfl).ne rfl).ne rfl).ne rfl).ne rfl)
        have s11_34 := m34 _ _ ((((((((s11_33.ne rfl).ne rfl).ne rfl).ne rfl).ne rfl).ne rfl).ne rfl).ne rfl)
        have s13_34 := m34 _ _ ((((((((s13_33.ne rfl).ne rfl).ne rfl).ne rfl).ne rfl).ne rfl).ne rfl).ne rfl)
        have s60_34 := m34 _ _ ((((((((At.hit z33 rfl).ne rfl).ne rfl).ne rfl).ne rfl).ne rfl).ne rfl).ne rfl)
        have s61_34 := m34 _ _ (((((((At.hit z33.put rfl).ne rfl).ne rfl).ne rfl).ne rfl).ne rfl).ne rfl)
        have s66_34 := m34 _ _ ((At.hit z33.put.put.put.put.put.put rfl).ne rfl)
        have s67_34 := m34 _ _ (At.hit z33.put.put.put.put.put.put.put rfl)
        clear m34
        refine qs (q_move _ _ rfl s13_34.ev ?_)
        refine qs (q_nil rfl (s67_34.ne rfl).ev ?_)
        refine qs (q_idxA (i := om) (j := 57 - k) rfl Tryd.underlying65 sz63 (At.hit z34.put rfl).ev (((At.hit z34 rfl).ne rfl).same (congrArg (Value.int .i64) (show ((57 - ((k : Nat) : Int)) : Int) = ((57 - k : Nat) : Int) by omega))).ev (by omega) ?_)
        refine qs (q_cell (.int .u32 (m.getD (57 - k) 0)) rfl Tryd.underlying63 (At.hit z34.put.put rfl).ev (fun _ h => (kgm_32.low h).cell (57 - k) (by rw [hm']; omega)) ?_)
        refine qs (q_xor rfl ((((s66_34.ne rfl).ne rfl).ne rfl).ne rfl).ev (At.hit z34.put.put.put rfl).ev ?_)
        refine qs (q_call (.agg (nums .u32 (cl (backL (backX l m (stepsL l c 58) backL k) (57 - ((k : Nat) : Int)) (Go.bits .xor .u32 (l.getD (57 - k) 0) (m.getD (57 - k) 0)))))) rfl rfl Tryd.func47 rfl (args3 rfl (((((s60_34.ne rfl).ne rfl).ne rfl).ne rfl).ne rfl).ev (((((s61_34.ne rfl).ne rfl).ne rfl).ne rfl).ne rfl).ev (At.hit z34.put.put.put.put rfl).ev) (fun _ h => (BackL.calls (backX l m (stepsL l c 58) backL k) (57 - ((k : Nat) : Int)) (Go.bits .xor .u32 (l.getD (57 - k) 0) (m.getD (57 - k) 0)) _).mono fun _ _ ⟨e, k⟩ => ⟨e, h.trans k⟩) ?_)
        refine qz ?_
        intro w35 h35
        have kg10_35 := h35.blk kg10_32
        have kg11_35 := h35.blk kg11_32
        have kg3_35 := h35.blk kg3_32
        have kg9_35 := h35.blk kg9_32
        have kgl_35 := h35.blk kgl_32
        have kgm_35 := kgm_32.low h35
        refine l_row rfl rfl rfl (sz68.trans (congrArg some ((nums_size _ _).trans (cl_len (backL (backX l m (stepsL l c 58) backL k) (57 - ((k : Nat) : Int)) (Go.bits .xor .u32 (l.getD (57 - k) 0) (m.getD (57 - k) 0))))).symm)) ((((((s10_34.ne rfl).ne rfl).ne rfl).ne rfl).ne rfl).ne rfl).ev (At.hit z34.put.put.put.put.put rfl).ev (nums_one _ _) kg10_35 (((nums_size _ _).trans (cl_len (backX l m (stepsL l c 58) backL k))).trans ((nums_size _ _).trans (cl_len (backL (backX l m (stepsL l c 58) backL k) (57 - ((k : Nat) : Int)) (Go.bits .xor .u32 (l.getD (57 - k) 0) (m.getD (57 - k) 0))))).symm) ?_
        intro w36 k36 u36
        have kg11_36 := u36.blk kg11_35 (by omega)
        have kg3_36 := u36.blk kg3_35 (by omega)
        have kg9_36 := u36.blk kg9_35 (by omega)
        have kgl_36 := u36.blk kgl_35 (by omega)
        have kgm_36 := kgm_35.upd u36 (by omega)
        refine l_end ?_
        refine e_fresh z34.put.put.put.put.put.put ?_
        intro a37 z37 m37
        have s1_37 := m37 _ _ ((((((s1_34.ne rfl).ne rfl).ne rfl).ne rfl).ne rfl).ne rfl)
        have s2_37 := m37 _ _ ((((((s2_34.ne rfl).ne rfl).ne rfl).ne rfl).ne rfl).ne rfl)
        have s3_37 := m37 _ _ ((((((s3_34.ne rfl).ne rfl).ne rfl).ne rfl).ne rfl).ne rfl)
        have s9_37 := m37 _ _ ((((((s9_34.ne rfl).ne rfl).ne rfl).ne rfl).ne rfl).ne rfl)
        have s10_37 := m37 _ _ ((((((s10_34.ne rfl).ne rfl).ne rfl).ne rfl).ne rfl).ne rfl)
        have s11_37 := m37 _ _ ((((((s11_34.ne rfl).ne rfl).ne rfl).ne rfl).ne rfl).ne rfl)
        have s13_37 := m37 _ _ ((((((s13_34.ne rfl).ne rfl).ne rfl).ne rfl).ne rfl).ne rfl)
        have low37 := ((low32.trans h35).upd u36 geg10)
        clear m37
        refine e_in ?_
        refine e_then ?_
        refine c_region ?_
        refine l_q rfl (q_move _ _ rfl s13_37.ev ?_)
        refine l_q rfl (q_sub ((56 - ((k : Nat) : Int))) rfl (At.hit z37 rfl).ev rfl (i64_is (by omega) (by omega) (by omega)) ?_)
        refine l_q rfl (q_assign _ _ rfl (At.hit z37.put rfl).ev ?_)
        refine l_end ?_
        refine e_fresh z37.put.put.put ?_
        intro a38 z38 m38
        have s1_38 := m38 _ _ (((s1_37.ne rfl).ne rfl).ne rfl)
        have s2_38 := m38 _ _ (((s2_37.ne rfl).ne rfl).ne rfl)
        have s3_38 := m38 _ _ (((s3_37.ne rfl).ne rfl).ne rfl)
        have s9_38 := m38 _ _ (((s9_37.ne rfl).ne rfl).ne rfl)
        have s10_38 := m38 _ _ (((s10_37.ne rfl).ne rfl).ne rfl)
        have s11_38 := m38 _ _ (((s11_37.ne rfl).ne rfl).ne rfl)
        have s13_38 := m38 _ _ (At.hit z37.put.put rfl)
        clear m38
        exact ⟨z38, s1_38, s2_38, s3_38, s9_38, s10_38, s11_38, (s13_38.same (congrArg (Value.int .i64) (by omega))), k36, kg11_36, kg3_36, kg9_36, kgl_36, kgm_36, low37⟩
      · intro a39 w39 h
        obtain ⟨z39, s1_39, s2_39, s3_39, s9_39, s10_39, s11_39, s13_39, kg10_39, kg11_39, kg3_39, kg9_39, kgl_39, kgm_39, low39⟩ := h
        clear kg10_29 kg11_29 kg3_29 kg9_29 kgl_29 kgm_29 low29 s10_31 s11_31 s13_31 s1_31 s2_31 s3_31 s9_31 z31
        refine c_seq ?_
        refine c_seq ?_
        refine c_region ?_
        refine l_q rfl (q_move _ _ rfl s13_39.ev ?_)
        refine l_q rfl (q_geq false rfl (At.hit z39 rfl).ev rfl (decide_eq_false (by omega)) ?_)
        refine l_end ?_
        refine e_fresh z39.put.put ?_
        intro a40 z40 m40
        have s1_40 := m40 _ _ ((s1_39.ne rfl).ne rfl)
        have s2_40 := m40 _ _ ((s2_39.ne rfl).ne rfl)
        have s3_40 := m40 _ _ ((s3_39.ne rfl).ne rfl)
        have s9_40 := m40 _ _ ((s9_39.ne rfl).ne rfl)
        have s10_40 := m40 _ _ ((s10_39.ne rfl).ne rfl)
        have s11_40 := m40 _ _ ((s11_39.ne rfl).ne rfl)
        have s13_40 := m40 _ _ ((s13_39.ne rfl).ne rfl)
        have s57_40 := m40 _ _ (At.hit z39.put rfl)
        clear m40
        refine e_then ?_
        refine c_false s57_40 ?_
        refine wp_exit ?_
        refine x_then ?_
        refine x_then ?_
        refine in_exit ?_
        refine e_then ?_
        refine c_seq ?_
        refine region_low hm (by kernel_rfl) ?_
        refine qs (q_row rfl Tryd.underlying68 rfl (sz68.trans (congrArg some ((nums_size _ _).trans (cl_len (backX l m (stepsL l c 58) backL 58))).symm)) s10_40.ev (fun _ h => h.blk kg10_39) ?_)
        refine qs (q_row rfl Tryd.underlying68 rfl (sz68.trans (congrArg some ((nums_size _ _).trans (cl_len (stepsX l m (stepsL l c 58) stepL 58 22))).symm)) (s11_40.ne rfl).ev (fun _ h => h.blk kg11_39) ?_)
        refine qs (q_call (.agg (nums .u32 (addL (cl (backX l m (stepsL l c 58) backL 58)) (cl (stepsX l m (stepsL l c 58) stepL 58 22)) 5))) rfl rfl Tryd.func48 rfl (args2 rfl ((At.hit z40 rfl).ne rfl).ev (At.hit z40.put rfl).ev) (fun _ h => (Sum2.calls (backX l m (stepsL l c 58) backL 58) (stepsX l m (stepsL l c 58) stepL 58 22) _).mono fun _ _ ⟨e, k⟩ => ⟨e, h.trans k⟩) ?_)
        refine qs (q_row rfl Tryd.underlying68 rfl (sz68.trans (congrArg some ((nums_size _ _).trans (cl_len c)).symm)) (((s3_40.ne rfl).ne rfl).ne rfl).ev (fun _ h => h.blk kg3_39) ?_)
        refine qs (q_row rfl Tryd.underlying68 rfl (sz68.trans (congrArg some ((nums_size _ _).trans (cl_len (stepsO l (stepsL l c 58) 58 22))).symm)) ((((s9_40.ne rfl).ne rfl).ne rfl).ne rfl).ev (fun _ h => h.blk kg9_39) ?_)
        refine qs (q_call (.agg (nums .u32 (addL (cl c) (cl (stepsO l (stepsL l c 58) 58 22)) 5))) rfl rfl Tryd.func48 rfl (args2 rfl ((At.hit z40.put.put.put rfl).ne rfl).ev (At.hit z40.put.put.put.put rfl).ev) (fun _ h => (Sum2.calls c (stepsO l (stepsL l c 58) 58 22) _).mono fun _ _ ⟨e, k⟩ => ⟨e, h.trans k⟩) ?_)
        refine qs (q_eqrow _ rfl Tryd.eqGuardType68 Tryd.underlying68 Tryd.underlying63 info63 cells63 ((((At.hit z40.put.put rfl).ne rfl).ne rfl).ne rfl).ev (At.hit z40.put.put.put.put.put rfl).ev (addL_len (cl (backX l m (stepsL l c 58) backL 58)) _ 5) (addL_len (cl c) _ 5) rfl ?_)
        refine qs (q_assign _ _ rfl (At.hit z40.put.put.put.put.put.put rfl).ev ?_)
        refine qz ?_
        intro w41 h41
        have kg10_41 := h41.blk kg10_39
        have kg11_41 := h41.blk kg11_39
        have kg3_41 := h41.blk kg3_39
        have kg9_41 := h41.blk kg9_39
        have kgl_41 := h41.blk kgl_39
        have kgm_41 := kgm_39.low h41
        refine e_id ?_
        refine e_fresh z40.put.put.put.put.put.put.put.put ?_
        intro a42 z42 m42
        have s6_42 := m42 _ _ (At.hit z40.put.put.put.put.put.put.put rfl)
        have low42 := (low39.trans h41)
        clear m42
        refine e_then ?_
        refine wp_ret ?_
        refine r_tmp rfl z42.defers s6_42 ?_
        exact ⟨rfl, low42⟩
end Go.Proofs.YtfjhnnpdaggnbaaDoor.Q
end
/-! A5 -/
section
namespace Go.Proofs.YtfjhnnpdaggnbaaDoor.Q
open Go.Proofs.YtfjhnnpdaggnbaaDoorW.PrintWords (bytesOf bytesOf_length)
open Go.RowKit Go.Proofs.YtfjhnnpdaggnbaaDoor.P
set_option linter.unusedVariables false
set_option linter.unusedSimpArgs false
set_option maxRecDepth 100000
set_option maxHeartbeats 4000000
attribute [local irreducible] wpList wpQuiet qch Code.wp Oper.quiet Act.put At Region.wanted yielded
theorem byte5 : byteB Tryd.prog 5 = true := by kernel_rfl
def chOf (l : List Int) : Ch := (l.getD 0 0, l.getD 1 0, l.getD 2 0, l.getD 3 0, l.getD 4 0)
theorem cl_chOf (l : List Int) (h : l.length = 5) : cl (chOf l) = l := by
  match l, h with
  | [_, _, _, _, _], _ => rfl
def prL (c : Ch) (s : ByteArray) : Ch := chOf (pressL c s)
theorem cl_prL (c : Ch) (s : ByteArray) : cl (prL c s) = pressL c s := cl_chOf _ (addL_len (cl c) _ 5)
theorem PrL.calls (c : Ch) (s : ByteArray) (hs : s.size ≤ 9223372036854775807) (w0 : World) : Calls Tryd.prog 38 #[.agg (nums .u32 (cl c)), .string s] w0 fun e w' => e = .returned (.agg (nums .u32 (cl (prL c s)))) ∧ Low w0 w' := by
  rw [cl_prL]
  exact PressL.calls c s hs w0
def outR (x : Ch) : Nat → List Int
  | 0 => []
  | k + 1 => outR x k ++ [IntKind.u8.wrap (((cl x).getD k 0).fdiv (2 ^ min (24 : Int).toNat 32)), IntKind.u8.wrap (((cl x).getD k 0).fdiv (2 ^ min (16 : Int).toNat 32)), IntKind.u8.wrap (((cl x).getD k 0).fdiv (2 ^ min (8 : Int).toNat 32)), IntKind.u8.wrap ((cl x).getD k 0)]
theorem outR_len (x : Ch) : ∀ k, (outR x k).length = 4 * k
  | 0 => rfl
  | k + 1 => by rw [outR, List.length_append, outR_len x k]; simp only [List.length_cons, List.length_nil]; omega
end Go.Proofs.YtfjhnnpdaggnbaaDoor.Q
end
/-! Shelf -/
section
namespace Go.Proofs
open Go.Shelf
def Tryd.lays105_ren : Go.Shelf.Ren := ⟨fun | 105 => 45 | 212 => 55 | 99 => 56 | 165 => 57 | 166 => 58 | 170 => 59 | 169 => 60 | 263 => 67 | 264 => 68 | 206 => 69 | 240 => 70 | 241 => 71 | 276 => 77 | 277 => 78 | n => n, fun | 9 => 9 | 3 => 3 | 4 => 4 | 20 => 20 | 0 => 0 | 46 => 74 | 109 => 92 | 5 => 5 | 72 => 96 | 76 => 100 | 51 => 63 | 146 => 110 | 53 => 77 | 148 => 112 | 70 => 94 | 37 => 36 | 75 => 99 | 127 => 114 | 164 => 120 | 80 => 34 | n => n, fun | n => n⟩
theorem Tryd.lays105 : Go.Proofs.Lays.n105 Tryd.prog Tryd.lays105_ren := {
  mixed := by kernel_rfl
  f99 := Tryd.func56.trans (congrArg some (by kernel_rfl))
  f105 := Tryd.func45.trans (congrArg some (by kernel_rfl))
  f165 := Tryd.func57.trans (congrArg some (by kernel_rfl))
  f166 := Tryd.func58.trans (congrArg some (by kernel_rfl))
  f169 := Tryd.func60.trans (congrArg some (by kernel_rfl))
  f170 := Tryd.func59.trans (congrArg some (by kernel_rfl))
  f206 := Tryd.func69.trans (congrArg some (by kernel_rfl))
  f212 := Tryd.func55.trans (congrArg some (by kernel_rfl))
  f240 := Tryd.func70.trans (congrArg some (by kernel_rfl))
  f241 := Tryd.func71.trans (congrArg some (by kernel_rfl))
  f263 := Tryd.func67.trans (congrArg some (by kernel_rfl))
  f264 := Tryd.func68.trans (congrArg some (by kernel_rfl))
  f276 := Tryd.func77.trans (congrArg some (by kernel_rfl))
  f277 := Tryd.func78.trans (congrArg some (by kernel_rfl))
  t0 := Tryd.underlying0
  a0 := Tryd.isAgg0
  z0 := Tryd.sizeOf0
  v0 := Tryd.zeroValue0
  t3 := Tryd.underlying3
  a3 := Tryd.isAgg3
  z3 := Tryd.sizeOf3
  v3 := Tryd.zeroValue3
  t4 := Tryd.underlying4
  a4 := Tryd.isAgg4
  z4 := Tryd.sizeOf4
  v4 := Tryd.zeroValue4
  t5 := Tryd.underlying5
  a5 := Tryd.isAgg5
  z5 := Tryd.sizeOf5
  v5 := Tryd.zeroValue5
  t9 := Tryd.underlying9
  a9 := Tryd.isAgg9
  z9 := Tryd.sizeOf9
  v9 := Tryd.zeroValue9
  t20 := Tryd.underlying20
  a20 := Tryd.isAgg20
  z20 := Tryd.sizeOf20
  v20 := Tryd.zeroValue20
  t37 := Tryd.underlying36
  a37 := Tryd.isAgg36
  z37 := Tryd.sizeOf36
  v37 := Tryd.zeroValue36
  t46 := Tryd.underlying74
  a46 := Tryd.isAgg74
  z46 := Tryd.sizeOf74
  v46 := Tryd.zeroValue74
  t51 := Tryd.underlying63
  a51 := Tryd.isAgg63
  z51 := Tryd.sizeOf63
  v51 := Tryd.zeroValue63
  t53 := Tryd.underlying77
  a53 := Tryd.isAgg77
  z53 := Tryd.sizeOf77
  v53 := Tryd.zeroValue77
  t70 := Tryd.underlying94
  a70 := Tryd.isAgg94
  z70 := Tryd.sizeOf94
  v70 := Tryd.zeroValue94
  t72 := Tryd.underlying96
  a72 := Tryd.isAgg96
  z72 := Tryd.sizeOf96
  v72 := Tryd.zeroValue96
  t75 := Tryd.underlying99
  a75 := Tryd.isAgg99
  z75 := Tryd.sizeOf99
  v75 := Tryd.zeroValue99
  t76 := Tryd.underlying100
  a76 := Tryd.isAgg100
  z76 := Tryd.sizeOf100
  v76 := Tryd.zeroValue100
  t109 := Tryd.underlying92
  a109 := Tryd.isAgg92
  z109 := Tryd.sizeOf92
  v109 := Tryd.zeroValue92
  t127 := Tryd.underlying114
  a127 := Tryd.isAgg114
  z127 := Tryd.sizeOf114
  v127 := Tryd.zeroValue114
  t146 := Tryd.underlying110
  a146 := Tryd.isAgg110
  z146 := Tryd.sizeOf110
  v146 := Tryd.zeroValue110
  t148 := Tryd.underlying112
  a148 := Tryd.isAgg112
  z148 := Tryd.sizeOf112
  v148 := Tryd.zeroValue112
  t164 := Tryd.underlying120
  a164 := Tryd.isAgg120
  z164 := Tryd.sizeOf120
  v164 := Tryd.zeroValue120 }
theorem Tryd.Builder_Extra_105 : Builder.Extra Tryd.prog Tryd.lays105_ren := {
  sizeBuilder := by kernel_rfl
  liesBuilder := by kernel_rfl
  t5 := Tryd.underlying5
  a5 := Tryd.isAgg5
  z5 := Tryd.sizeOf5
  v5 := Tryd.zeroValue5
  infoByte := by kernel_rfl
  cellsByte := by kernel_rfl
  sizeByte := by kernel_rfl
  neB5 := by decide }
open Go.RowKit Go.Lib in
theorem Tryd.strings_Repeat (s : ByteArray) (c : Nat) (w : World) (hc : c ≤ 9223372036854775807) (hlen : s.size * c ≤ 140737488355328) :
    Calls Tryd.prog 45 #[.string s, .int .i64 c] w fun e w' => e = .returned (.string ⟨(Lib.repeatL s.data.toList c).toArray⟩) ∧ Below w.heap.size w w' := Any.strings_Repeat Tryd.lays105 Tryd.Builder_Extra_105 s c w hc hlen
def Tryd.laysM171_ren : Go.Shelf.Ren := ⟨fun | 171 => 25 | 243 => 40 | 246 => 52 | 283 => 63 | 284 => 64 | 285 => 65 | 286 => 66 | 129 => 73 | 317 => 72 | 318 => 74 | 319 => 75 | 320 => 76 | 337 => 79 | 338 => 80 | n => n, fun | 3 => 3 | 9 => 9 | 2 => 2 | 4 => 4 | 171 => 105 | 0 => 0 | 53 => 77 | 37 => 36 | 5 => 5 | 173 => 108 | 212 => 116 | 51 => 63 | 20 => 20 | 213 => 117 | 46 => 74 | 232 => 124 | 233 => 76 | n => n, fun | 17 => 0 | 18 => 2 | 19 => 3 | n => n⟩
theorem Tryd.laysM171 : Go.Proofs.LaysM.n171 Tryd.prog Tryd.laysM171_ren := {
  mixed := by kernel_rfl
  f129 := Tryd.func73.trans (congrArg some (by kernel_rfl))
  f171 := Tryd.func25.trans (congrArg some (by kernel_rfl))
  f243 := Tryd.func40.trans (congrArg some (by kernel_rfl))
  f246 := Tryd.func52.trans (congrArg some (by kernel_rfl))
  f283 := Tryd.func63.trans (congrArg some (by kernel_rfl))
  f284 := Tryd.func64.trans (congrArg some (by kernel_rfl))
  f285 := Tryd.func65.trans (congrArg some (by kernel_rfl))
  f286 := Tryd.func66.trans (congrArg some (by kernel_rfl))
  f317 := Tryd.func72.trans (congrArg some (by kernel_rfl))
  f318 := Tryd.func74.trans (congrArg some (by kernel_rfl))
  f319 := Tryd.func75.trans (congrArg some (by kernel_rfl))
  f320 := Tryd.func76.trans (congrArg some (by kernel_rfl))
  f337 := Tryd.func79.trans (congrArg some (by kernel_rfl))
  f338 := Tryd.func80.trans (congrArg some (by kernel_rfl))
  t0 := Tryd.underlying0
  a0 := Tryd.isAgg0
  z0 := Tryd.sizeOf0
  v0 := Tryd.zeroValue0
  t2 := Tryd.underlying2
  a2 := Tryd.isAgg2
  z2 := Tryd.sizeOf2
  v2 := Tryd.zeroValue2
  t3 := Tryd.underlying3
  a3 := Tryd.isAgg3
  z3 := Tryd.sizeOf3
  v3 := Tryd.zeroValue3
  t4 := Tryd.underlying4
  a4 := Tryd.isAgg4
  z4 := Tryd.sizeOf4
  v4 := Tryd.zeroValue4
  t5 := Tryd.underlying5
  a5 := Tryd.isAgg5
  z5 := Tryd.sizeOf5
  v5 := Tryd.zeroValue5
  t9 := Tryd.underlying9
  a9 := Tryd.isAgg9
  z9 := Tryd.sizeOf9
  v9 := Tryd.zeroValue9
  t20 := Tryd.underlying20
  a20 := Tryd.isAgg20
  z20 := Tryd.sizeOf20
  v20 := Tryd.zeroValue20
  t37 := Tryd.underlying36
  a37 := Tryd.isAgg36
  z37 := Tryd.sizeOf36
  v37 := Tryd.zeroValue36
  t46 := Tryd.underlying74
  a46 := Tryd.isAgg74
  z46 := Tryd.sizeOf74
  v46 := Tryd.zeroValue74
  t51 := Tryd.underlying63
  a51 := Tryd.isAgg63
  z51 := Tryd.sizeOf63
  v51 := Tryd.zeroValue63
  t53 := Tryd.underlying77
  a53 := Tryd.isAgg77
  z53 := Tryd.sizeOf77
  v53 := Tryd.zeroValue77
  t171 := Tryd.underlying105
  a171 := Tryd.isAgg105
  z171 := Tryd.sizeOf105
  v171 := Tryd.zeroValue105
  t173 := Tryd.underlying108
  a173 := Tryd.isAgg108
  z173 := Tryd.sizeOf108
  v173 := Tryd.zeroValue108
  t212 := Tryd.underlying116
  a212 := Tryd.isAgg116
  z212 := Tryd.sizeOf116
  v212 := Tryd.zeroValue116
  t213 := Tryd.underlying117
  a213 := Tryd.isAgg117
  z213 := Tryd.sizeOf117
  t232 := Tryd.underlying124
  a232 := Tryd.isAgg124
  z232 := Tryd.sizeOf124
  v232 := Tryd.zeroValue124
  t233 := Tryd.underlying76
  a233 := Tryd.isAgg76
  z233 := Tryd.sizeOf76
  v233 := Tryd.zeroValue76
  g17 := by kernel_rfl
  g18 := by kernel_rfl
  g19 := by kernel_rfl
  i0 := by kernel_rfl
  i2 := by kernel_rfl
  i3 := by kernel_rfl
  i4 := by kernel_rfl
  i5 := by kernel_rfl
  i9 := by kernel_rfl
  i20 := by kernel_rfl
  i37 := by kernel_rfl
  i46 := by kernel_rfl
  i51 := by kernel_rfl
  i53 := by kernel_rfl
  i171 := by kernel_rfl
  i173 := by kernel_rfl
  i212 := by kernel_rfl
  i232 := by kernel_rfl
  i233 := by kernel_rfl
  m17 := by kernel_rfl
  m18 := by kernel_rfl
  m19 := by kernel_rfl }
end Go.Proofs
end
/-! A6 -/
section
namespace Go.Proofs.YtfjhnnpdaggnbaaDoor.Q
open Go.Proofs.YtfjhnnpdaggnbaaDoorW.PrintWords (bytesOf bytesOf_length)
open Go.RowKit Go.Proofs.YtfjhnnpdaggnbaaDoor.P
set_option linter.unusedVariables false
set_option linter.unusedSimpArgs false
set_option maxRecDepth 100000
set_option maxHeartbeats 4000000
attribute [local irreducible] wpList wpQuiet qch Code.wp Oper.quiet Act.put At Region.wanted yielded
def f80 (s : ByteArray) : ByteArray := s ++ (⟨#[128]⟩ : ByteArray)
theorem f80_size (s : ByteArray) : (f80 s).size = s.size + 1 := by rw [f80, ByteArray.size_append]; rfl
def padL (s : ByteArray) : ByteArray := ⟨(Lib.repeatL (⟨#[0]⟩ : ByteArray).data.toList ((120 - ((f80 s).size) % 64) % 64)).toArray⟩
theorem repeat_zero : ∀ n, Lib.repeatL [(0 : UInt8)] n = List.replicate n 0
  | 0 => rfl
  | n + 1 => by rw [Lib.repeatL, repeat_zero n]; rfl
theorem padL_size (s : ByteArray) : (padL s).size = (120 - (s.size + 1) % 64) % 64 := by
  unfold padL
  show (Lib.repeatL [(0 : UInt8)] _).toArray.size = _
  rw [repeat_zero, f80_size]
  simp
theorem Repeat0.calls (c : Nat) (hc : c ≤ 64) (w0 : World) : Calls Tryd.prog 45 #[.string ⟨#[0]⟩, .int .i64 (c : Int)] w0 fun e w' => e = .returned (.string ⟨(Lib.repeatL (⟨#[0]⟩ : ByteArray).data.toList c).toArray⟩) ∧ Low w0 w' :=
  Tryd.strings_Repeat ⟨#[0]⟩ c w0 (by omega) (by show 1 * c ≤ _; omega)
def lenByteL (s : ByteArray) (k : Nat) : Int := IntKind.u8.wrap ((IntKind.u64.wrap (8 * IntKind.u64.wrap (s.size : Int))).fdiv (2 ^ min (56 - 8 * ((k : Nat) : Int)).toNat 64))
def fL (s : ByteArray) : Nat → ByteArray
  | 0 => f80 s ++ padL s
  | k + 1 => fL s k ++ strOfNums [lenByteL s k]
theorem fL_size (s : ByteArray) : ∀ k, (fL s k).size = s.size + 1 + (120 - (s.size + 1) % 64) % 64 + k
  | 0 => by rw [fL, ByteArray.size_append, f80_size, padL_size]; rfl
  | k + 1 => by rw [fL, ByteArray.size_append, fL_size s k, strOfNums_size]; rfl
def fillL (s : ByteArray) : ByteArray := fL s 8
theorem lit_size : (⟨#[128]⟩ : ByteArray).size = 1 := rfl
theorem FillL.calls (s : ByteArray) (hs : s.size ≤ 140737488350000) (w0 : World) : Calls Tryd.prog 35 #[.string s] w0 fun e w' => e = .returned (.string (fillL s)) ∧ Low w0 w' := by
  refine c_fun (R := _) Tryd.func35 rfl 33 rfl (Nat.le_of_ble_eq_true rfl) ?_
  intro a z hA
  have s0 := hA 0 _ rfl
  clear hA
  refine c_seq ?_
  refine c_region ?_
  refine l_q rfl (q_assign _ _ rfl rfl ?_)
  refine l_end ?_
  refine e_fresh z.put ?_
  intro a1 z1 m1
  have s0_1 := m1 _ _ (s0.ne rfl)
  clear m1
  refine e_then ?_
  refine c_seq ?_
  refine c_region ?_
  refine l_q rfl (q_move _ _ rfl s0_1.ev ?_)
  refine l_q rfl (q_len rfl rfl Tryd.underlying9 (At.hit z1 rfl).ev ?_)
  refine l_q rfl (q_conv _ rfl (At.hit z1.put rfl).ev Tryd.underlying3 Tryd.underlying77 rfl ?_)
  refine l_q rfl (q_mul _ rfl rfl (At.hit z1.put.put rfl).ev rfl ?_)
  refine l_q rfl (q_assign _ _ rfl (At.hit z1.put.put.put rfl).ev ?_)
  refine l_end ?_
  refine e_fresh z1.put.put.put.put.put ?_
  intro a2 z2 m2
  have s0_2 := m2 _ _ (((((s0_1.ne rfl).ne rfl).ne rfl).ne rfl).ne rfl)
  have s3_2 := m2 _ _ (At.hit z1.put.put.put.put rfl)
  clear m2
  refine e_then ?_
  refine c_seq ?_
  refine c_region ?_
  refine l_q rfl (q_move _ _ rfl s0_2.ev ?_)
  refine l_q rfl (q_cat rfl (At.hit z2 rfl).ev rfl (by simp only [ByteArray.size_append, f80_size, padL_size, fL_size, strOfNums_size, lit_size, List.length_cons, List.length_nil]; omega) ?_)
  refine l_q rfl (q_assign _ _ rfl (At.hit z2.put rfl).ev ?_)
  refine l_end ?_
  refine e_fresh z2.put.put.put ?_
  intro a3 z3 m3
  have s3_3 := m3 _ _ (((s3_2.ne rfl).ne rfl).ne rfl)
  have s4_3 := m3 _ _ (At.hit z2.put.put rfl)
  clear m3
  refine e_then ?_
  refine c_seq ?_
  refine c_region ?_
  refine l_q rfl (q_move _ _ rfl s4_3.ev ?_)
  refine l_q rfl (q_move _ _ rfl (s4_3.ne rfl).ev ?_)
  refine l_q rfl (q_len rfl rfl Tryd.underlying9 (At.hit z3.put rfl).ev ?_)
  refine l_q rfl (q_rem (m := ((f80 s).size)) (n := 64) (by omega) rfl ((At.hit z3.put.put rfl).same (congrArg (Value.int .i64) (show ((((f80 s).size : Nat) : Int) : Int) = ((((f80 s).size) : Nat) : Int) by omega))).ev rfl ?_)
  refine l_q rfl (q_sub ((120 - (((((f80 s).size)) % 64 : Nat) : Int))) rfl rfl (At.hit z3.put.put.put rfl).ev (i64_is (by omega) (by omega) (by omega)) ?_)
  refine l_q rfl (q_rem (m := 120 - ((((f80 s).size)) % 64)) (n := 64) (by omega) rfl ((At.hit z3.put.put.put.put rfl).same (congrArg (Value.int .i64) (show ((120 - (((((f80 s).size)) % 64 : Nat) : Int)) : Int) = ((120 - ((((f80 s).size)) % 64) : Nat) : Int) by omega))).ev rfl ?_)
  refine l_call (fun v w' => v = .string (padL s) ∧ Low w0 w') rfl rfl rfl Tryd.func45 rfl (args2 rfl rfl (At.hit z3.put.put.put.put.put rfl).ev) ((Repeat0.calls (((120 - ((((f80 s).size)) % 64)) % 64)) (by omega) _).mono fun _ _ ⟨e, k⟩ => ⟨_, e, rfl, k⟩) ?_
  rintro _ w4 ⟨rfl, h4⟩
  refine l_q rfl (q_cat rfl (((((((At.hit z3 rfl).ne rfl).ne rfl).ne rfl).ne rfl).ne rfl).ne rfl).ev (At.hit z3.put.put.put.put.put.put rfl).ev (by simp only [ByteArray.size_append, f80_size, padL_size, fL_size, strOfNums_size, lit_size, List.length_cons, List.length_nil]; omega) ?_)
  refine l_fresh z3.put.put.put.put.put.put.put.put ?_
  intro a5 z5 m5
  have s3_5 := m5 _ _ ((((((((s3_3.ne rfl).ne rfl).ne rfl).ne rfl).ne rfl).ne rfl).ne rfl).ne rfl)
  have s4_5 := m5 _ _ ((((((((s4_3.ne rfl).ne rfl).ne rfl).ne rfl).ne rfl).ne rfl).ne rfl).ne rfl)
  have s19_5 := m5 _ _ (At.hit z3.put.put.put.put.put.put.put rfl)
  clear m5
  refine l_q rfl (q_assign _ _ rfl s19_5.ev ?_)
  refine l_end ?_
  refine e_fresh z5.put ?_
  intro a6 z6 m6
  have s3_6 := m6 _ _ (s3_5.ne rfl)
  have s4_6 := m6 _ _ (At.hit z5 rfl)
  have low6 := h4
  clear m6
  refine e_then ?_
  refine c_seq ?_
  refine c_seq ?_
  refine c_region ?_
  refine l_q rfl (q_assign _ _ rfl rfl ?_)
  refine l_end ?_
  refine e_fresh z6.put ?_
  intro a7 z7 m7
  have s3_7 := m7 _ _ (s3_6.ne rfl)
  have s4_7 := m7 _ _ (s4_6.ne rfl)
  have s5_7 := m7 _ _ (At.hit z6 rfl)
  clear m7
  refine e_then ?_
  refine wp_block ?_
  refine c_loop 8 (fun k a w => Fr 33 a ∧ At a 3 (.int .u64 (IntKind.u64.wrap (8 * (IntKind.u64.wrap ((s.size : Nat) : Int))))) ∧ At a 4 (.string (fL s k)) ∧ At a 5 (.int .i64 (56 - 8 * ((k : Nat) : Int))) ∧ Low w0 w) ?_ ?_ ?_
  · exact ⟨z7, s3_7, s4_7, (s5_7.same (congrArg (Value.int .i64) (by omega))), low6⟩
  · intro k a8 w8 hk8 h
    obtain ⟨z8, s3_8, s4_8, s5_8, low8⟩ := h
    clear low6 s3_7 s4_7 s5_7 z7
    refine c_seq ?_
    refine c_seq ?_
    refine c_region ?_
    refine l_q rfl (q_move _ _ rfl s5_8.ev ?_)
    refine l_q rfl (q_geq true rfl (At.hit z8 rfl).ev rfl (decide_eq_true (by omega)) ?_)
    refine l_end ?_
    refine e_fresh z8.put.put ?_
    intro a9 z9 m9
    have s3_9 := m9 _ _ ((s3_8.ne rfl).ne rfl)
    have s4_9 := m9 _ _ ((s4_8.ne rfl).ne rfl)
    have s5_9 := m9 _ _ ((s5_8.ne rfl).ne rfl)
    have s21_9 := m9 _ _ (At.hit z8.put rfl)
    clear m9
    refine e_then ?_
    refine c_true s21_9 ?_
    refine wp_skip ?_
    refine e_then ?_
    refine c_seq ?_
    refine wp_block ?_
    refine c_region ?_
    refine l_q rfl (q_move _ _ rfl s4_9.ev ?_)
    refine l_q rfl (q_move _ _ rfl (s3_9.ne rfl).ev ?_)
    refine l_q rfl (q_move _ _ rfl ((s5_9.ne rfl).ne rfl).ev ?_)
    refine l_q rfl (q_shr ((IntKind.u64.wrap (8 * (IntKind.u64.wrap ((s.size : Nat) : Int)))).fdiv (2 ^ min ((56 - 8 * ((k : Nat) : Int)) : Int).toNat 64)) rfl ((At.hit z9.put rfl).ne rfl).ev (At.hit z9.put.put rfl).ev (by first | omega | exact u64_nonneg _) rfl ?_)
    refine l_q rfl (q_conv _ rfl (At.hit z9.put.put.put rfl).ev Tryd.underlying77 Tryd.underlying5 rfl ?_)
    refine l_build1 rfl rfl Tryd.underlying36 byte5 (At.hit z9.put.put.put.put rfl).ev ?_
    intro g29_10 w10 hg10 k10 h10
    have geg29_10 := Nat.le_trans low8.ge hg10
    refine l_q rfl (q_str rfl Tryd.underlying36 Tryd.underlying5 Tryd.underlying9 (At.hit z9.put.put.put.put.put rfl).ev (fun _ e => by rw [e]; exact (ownB_new (B := w0.heap.size) geg29_10 k10 rfl)) ?_)
    refine l_q rfl (q_cat rfl (((((((At.hit z9 rfl).ne rfl).ne rfl).ne rfl).ne rfl).ne rfl).ne rfl).ev (At.hit z9.put.put.put.put.put.put rfl).ev (by simp only [ByteArray.size_append, f80_size, padL_size, fL_size, strOfNums_size, lit_size, List.length_cons, List.length_nil]; omega) ?_)
    refine l_fresh z9.put.put.put.put.put.put.put.put ?_
    intro a11 z11 m11
    have s3_11 := m11 _ _ ((((((((s3_9.ne rfl).ne rfl).ne rfl).ne rfl).ne rfl).ne rfl).ne rfl).ne rfl)
    have s4_11 := m11 _ _ ((((((((s4_9.ne rfl).ne rfl).ne rfl).ne rfl).ne rfl).ne rfl).ne rfl).ne rfl)
    have s5_11 := m11 _ _ ((((((((s5_9.ne rfl).ne rfl).ne rfl).ne rfl).ne rfl).ne rfl).ne rfl).ne rfl)
    have s31_11 := m11 _ _ (At.hit z9.put.put.put.put.put.put.put rfl)
    clear m11
    refine l_q rfl (q_assign _ _ rfl s31_11.ev ?_)
    refine l_end ?_
    refine e_fresh z11.put ?_
    intro a12 z12 m12
    have s3_12 := m12 _ _ (s3_11.ne rfl)
    have s4_12 := m12 _ _ (At.hit z11 rfl)
    have s5_12 := m12 _ _ (s5_11.ne rfl)
    have low12 := (low8.trans h10)
    clear m12
    refine e_in ?_
    refine e_then ?_
    refine c_region ?_
    refine l_q rfl (q_move _ _ rfl s5_12.ev ?_)
    refine l_q rfl (q_sub ((48 - 8 * ((k : Nat) : Int))) rfl (At.hit z12 rfl).ev rfl (i64_is (by omega) (by omega) (by omega)) ?_)
    refine l_q rfl (q_assign _ _ rfl (At.hit z12.put rfl).ev ?_)
    refine l_end ?_
    refine e_fresh z12.put.put.put ?_
    intro a13 z13 m13
    have s3_13 := m13 _ _ (((s3_12.ne rfl).ne rfl).ne rfl)
    have s4_13 := m13 _ _ (((s4_12.ne rfl).ne rfl).ne rfl)
    have s5_13 := m13 _ _ (At.hit z12.put.put rfl)
    clear m13
    exact ⟨z13, s3_13, s4_13, (s5_13.same (congrArg (Value.int .i64) (by omega))), low12⟩
  · intro a14 w14 h
    obtain ⟨z14, s3_14, s4_14, s5_14, low14⟩ := h
    clear low6 s3_7 s4_7 s5_7 z7
    refine c_seq ?_
    refine c_seq ?_
    refine c_region ?_
    refine l_q rfl (q_move _ _ rfl s5_14.ev ?_)
    refine l_q rfl (q_geq false rfl (At.hit z14 rfl).ev rfl (decide_eq_false (by omega)) ?_)
    refine l_end ?_
    refine e_fresh z14.put.put ?_
    intro a15 z15 m15
    have s3_15 := m15 _ _ ((s3_14.ne rfl).ne rfl)
    have s4_15 := m15 _ _ ((s4_14.ne rfl).ne rfl)
    have s5_15 := m15 _ _ ((s5_14.ne rfl).ne rfl)
    have s21_15 := m15 _ _ (At.hit z14.put rfl)
    clear m15
    refine e_then ?_
    refine c_false s21_15 ?_
    refine wp_exit ?_
    refine x_then ?_
    refine x_then ?_
    refine in_exit ?_
    refine e_then ?_
    refine c_seq ?_
    refine c_region ?_
    refine l_q rfl (q_move _ _ rfl s4_15.ev ?_)
    refine l_q rfl (q_assign _ _ rfl (At.hit z15 rfl).ev ?_)
    refine l_end ?_
    refine e_fresh z15.put.put ?_
    intro a16 z16 m16
    have s2_16 := m16 _ _ (At.hit z15.put rfl)
    clear m16
    refine e_then ?_
    refine wp_ret ?_
    refine r_tmp rfl z16.defers s2_16 ?_
    exact ⟨rfl, low14⟩
end Go.Proofs.YtfjhnnpdaggnbaaDoor.Q
end
/-! A7 -/
section
namespace Go.Proofs.YtfjhnnpdaggnbaaDoor.Q
open Go.RowKit Go.Proofs.YtfjhnnpdaggnbaaDoor.P
set_option linter.unusedVariables false
set_option linter.unusedSimpArgs false
set_option maxRecDepth 100000
set_option maxHeartbeats 4000000
attribute [local irreducible] wpList wpQuiet qch Code.wp Oper.quiet Act.put At Region.wanted yielded
end Go.Proofs.YtfjhnnpdaggnbaaDoor.Q
end
/-! S0 -/
section
namespace Go.Proofs.YtfjhnnpdaggnbaaDoor.Q
open Go.RowKit Go.Proofs.YtfjhnnpdaggnbaaDoor.P
open Go.Proofs.YtfjhnnpdaggnbaaDoorW.PrintWords (bytesOf bytesOf_length)
set_option maxRecDepth 100000
set_option maxHeartbeats 4000000
/-- a State's cells -/
def stC (c : Ch) (v : Value) (n : Int) : Array Value := #[.int .u32 c.1, .int .u32 c.2.1, .int .u32 c.2.2.1, .int .u32 c.2.2.2.1, .int .u32 c.2.2.2.2, v, .int .u64 n]
/-- a block of a list of bytes, and the chain behind the first k of them -/
def blk (L : List Int) (k : Nat) : ByteArray := strOfNums ((L.drop (64 * k)).take 64)
def chB (c : Ch) (L : List Int) : Nat → Ch
  | 0 => c
  | k + 1 => prL (chB c L k) (blk L k)
theorem drop_next (L : List Int) (k : Nat) : (L.drop (64 * k)).drop 64 = L.drop (64 * (k + 1)) := by
  rw [List.drop_drop]
  congr 1
theorem dropL_len {l : List Int} {x : ByteArray} {m : Nat} (hm : l.length = m) (k : Nat) : ((l ++ bytesOf x).drop (64 * k)).length = m + x.size - 64 * k := by
  rw [List.length_drop, List.length_append, bytesOf_length, hm]
theorem blk_size (L : List Int) (k : Nat) : (blk L k).size ≤ 64 := by
  rw [blk, strOfNums_size, List.length_take]
  omega
theorem made_128 : madeCells #[.int .u8 0] 128 = nums .u8 (List.replicate 128 0) := by kernel_rfl
theorem str9 : strE Tryd.prog 9 = true := by kernel_rfl
theorem built_new (c : Ch) : Tryd.prog.built 104 [(0, .agg (nums .u32 (cl c)))] = some (stC c (.slice none 0 0) 0) := by kernel_rfl
theorem built_copy (c : Ch) (A : Option Addr) (l cap : Nat) (n : Int) : Tryd.prog.built 104 [(0, .agg (nums .u32 (cl c))), (1, .slice A l cap), (2, .int .u64 n)] = some (stC c (.slice A l cap) n) := by kernel_rfl
end Go.Proofs.YtfjhnnpdaggnbaaDoor.Q
end
