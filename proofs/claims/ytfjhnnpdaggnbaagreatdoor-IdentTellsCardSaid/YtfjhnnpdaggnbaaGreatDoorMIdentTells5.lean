/- Merged out of this session's texts by a program (wip/gen/merge.py): declarations that this claim doesn't name are left out. -/
import Derived.Test.YtfjhnnpdaggnbaaGreatDoorMIdentTells4
import Derived.Lib.Strings
import Derived.Lib.ItoaNum
import Derived.ProofKit
import Derived.OpenShut
import Derived.SliceStrings
import Derived.SizedLaws
import Derived.Test.YtfjhnnpdaggnbaaGreatDoorRows
import Derived.Stop.LaidErr
import Derived.MakeChecks
set_option linter.unusedVariables false
set_option linter.unusedSimpArgs false
/-! Px4 -/
section
namespace Go.Proofs.YtfjhnnpdaggnbaaGreatDoor.P
open Go.RowKit Go.Proofs.YtfjhnnpdaggnbaaGreatDoorW.PrintWords Go.Proofs.YtfjhnnpdaggnbaaGreatDoorW.PrintLast Go.Proofs.YtfjhnnpdaggnbaaGreatDoorW.PrintMore
attribute [local go_sem] max2_int min2_int max_two min_two max_three min_three max_four min_four   -- for this text's walks alone
set_option linter.unusedVariables false
set_option linter.unusedSimpArgs false
def diptychref01_Digits.l0 : Nat → ByteArray → List Int → Int → Option (ByteArray)
  | 0, _, _, _ => none
  | k + 1, x0, x3, x4 => if x4 < (x0.size : Int) then (if 0 ≤ x4 then ((diptychref01_digit.f ((Int.tdiv (bt x0 x4) 16) % 256)).bind fun t128 => ((diptychref01_digit.f (Int.tmod (bt x0 x4) 16)).bind fun t129 => ((some (([t128, t129] : List Int) : List Int)).bind fun y130 => (if x3.length + y130.length < 140737488355328 then (diptychref01_Digits.l0 k x0 (x3 ++ y130) (wrap64 (x4 + 1))) else (none))))) else (none)) else (some (strOfNums x3))
def diptychref01_Digits.f (k : Nat) (a0 : ByteArray) : Option (ByteArray) := diptychref01_Digits.l0 k a0 ([] : List Int) 0
theorem diptychref01_Digits.mono_l : ∀ k, (∀ y0 y1 y2, LeO (diptychref01_Digits.l0 k y0 y1 y2) (diptychref01_Digits.l0 (k + 1) y0 y1 y2))
  | 0 => fun _ _ _ r h => by simp [diptychref01_Digits.l0] at h
  | k + 1 => by
    have ih0 := diptychref01_Digits.mono_l k
    · intro y0 y1 y2
      unfold diptychref01_Digits.l0
      repeat' first
      | (with_reducible exact ih0 _ _ _)
      | (with_reducible exact LeO.refl _)
      | (with_reducible exact LeO.none _)
      | (with_reducible refine LeO.ite ?_ ?_)
      | (with_reducible refine LeO.bind ?_ (fun _ => ?_))
      | exact ih0 _ _ _
      | exact LeO.none _
      | refine LeO.ite ?_ ?_
      | refine LeO.bind ?_ (fun _ => ?_)
theorem diptychref01_Digits.mono : ∀ a0 k, LeO (diptychref01_Digits.f k a0) (diptychref01_Digits.f (k + 1) a0) := by
  intro a0 k
  have ih0 := diptychref01_Digits.mono_l k
  unfold diptychref01_Digits.f
  repeat' first
      | (with_reducible exact ih0 _ _ _)
      | (with_reducible exact LeO.refl _)
      | (with_reducible exact LeO.none _)
      | (with_reducible refine LeO.ite ?_ ?_)
      | (with_reducible refine LeO.bind ?_ (fun _ => ?_))
      | exact ih0 _ _ _
      | exact LeO.none _
      | refine LeO.ite ?_ ?_
      | refine LeO.bind ?_ (fun _ => ?_)
def diptychref01_Digits.T5 : Bool × List (List Nat × List Nat) := (true, [([], []), ([], []), ([], []), ([1, 2], [1, 2]), ([3], [3]), ([4], [4]), ([], []), ([], []), ([6, 7], [6, 7]), ([8], [8]), ([9, 5], [9]), ([5, 10], [5, 10]), ([0, 11, 10], [0, 11]), ([12, 12, 0, 1, 2, 3, 4, 5, 6, 7, 8, 9, 10, 11, 12], [0, 12])])
def diptychref01_Digits.B5 : List Nat := [0, 0, 0, 6, 14, 30, 0, 0, 192, 448, 1022, 2046, 4095, 8191]
theorem diptychref01_Digits.tab5 : rtab .any (opsOf Tryz.f20 5) = diptychref01_Digits.T5 := by kernel_rfl
theorem diptychref01_Digits.bits5 : waitsOk diptychref01_Digits.T5.2 diptychref01_Digits.B5 = true := by kernel_rfl
set_option maxHeartbeats 8000000 in
set_option maxRecDepth 100000 in
theorem diptychref01_Digits.calls (k : Nat) (a0 : ByteArray) (r : ByteArray) (w : World) (h : diptychref01_Digits.f k a0 = some r) :
    Calls Tryz.prog 20 #[.string a0] w fun e w' => e = .returned (.string r) ∧ Below w.heap.size w w' := by
  have HB := Aside0.mk (Below.refl w.heap.size w)
  have H : (diptychref01_Digits.l0 k a0 ([] : List Int) 0) = some r := h
  clear h
  have H' := Aside0.mk H
  clear H
  go_enter Tryz.func20, Tryz.ntmps20
  go_wp2
  go_loopg [3, 4] k (fun kq v3 v4 w' => ∃ (x3_1 : List Int) (x4_1 : Int), v4 = .int .i64 x4_1 ∧ Aside0 (diptychref01_Digits.l0 kq a0 x3_1 x4_1 = some r) ∧ Aside0 (kq ≤ k) ∧ Aside0 (Kd.R (Kd.int .u8) 5 w' w.heap.size (fun _ => True) v3 x3_1) ∧ Aside0 (Below w.heap.size w w'))
  case atStart => exact ⟨(([] : List Int)), (0), (by first | rfl | (simp; done) | (simp [*]; done)), H', ⟨Nat.le_refl _⟩, ⟨by first | exact Kd.R_nil _ _ _ _ _ | exact Kd.N_nil _ _ _ _ _ | exact Kd.V_nil _ _ _ _ _ | exact Kd.Q_nil _ _ _ _ _ | exact Kd.S_nil _ _ _ _ _⟩, ⟨by repeat (first | (with_reducible first | exact HB.out | apply below_alloc | apply pw_below_drewN | apply below_drew1) | exact HB.out)⟩⟩
  case round =>
    clear H'
    obtain ⟨x3_1, x4_1, rfl, HA, HK1, HO_3, HB⟩ := hrel
    cases gk with
    | zero => exact absurd HA.out (by simp [diptychref01_Digits.l0])
    | succ k1 =>
      have H := HA.out
      clear HA
      simp only [diptychref01_Digits.l0] at H
      by_cases c2 : x4_1 < (a0.size : Int)
      · rw [if_pos c2] at H
        have c2b0 : decide (x4_1 < (a0.size : Int)) = true := decide_eq_true c2
        clear c2
        by_cases c3 : 0 ≤ x4_1
        · rw [if_pos c3] at H
          have c3b0 : decide (0 ≤ x4_1) = true := decide_eq_true c3
          clear c3
          replace H := Option.bind_eq_some_iff.mp H
          obtain ⟨t128, A50, H⟩ := H
          replace H : ((diptychref01_digit.f (Int.tmod (bt a0 x4_1) 16)).bind fun t129 => ((some (([t128, t129] : List Int) : List Int)).bind fun y130 => (if x3_1.length + y130.length < 140737488355328 then (diptychref01_Digits.l0 k1 a0 (x3_1 ++ y130) (wrap64 (x4_1 + 1))) else (none)))) = some r := H
          have A5 := Aside0.mk A50
          clear A50
          replace H := Option.bind_eq_some_iff.mp H
          obtain ⟨t129, A70, H⟩ := H
          replace H : ((some (([t128, t129] : List Int) : List Int)).bind fun y130 => (if x3_1.length + y130.length < 140737488355328 then (diptychref01_Digits.l0 k1 a0 (x3_1 ++ y130) (wrap64 (x4_1 + 1))) else (none))) = some r := H
          have A7 := Aside0.mk A70
          clear A70
          obtain ⟨y130, hy130⟩ : ∃ y_ : List Int, y_ = (([t128, t129] : List Int)) := ⟨_, rfl⟩
          replace H : (if x3_1.length + y130.length < 140737488355328 then (diptychref01_Digits.l0 k1 a0 (x3_1 ++ y130) (wrap64 (x4_1 + 1))) else (none)) = some r := by first | (rw [hy130]; with_reducible exact H) | (have H2_ := (Option.bind_some _ _).symm.trans H; rw [hy130]; with_reducible exact H2_) | (have H2_ := (Option.bind_some _ _).symm.trans H; with_reducible exact H2_) | with_reducible exact H | (rw [hy130]; exact H) | exact H
          have Ny130 := Aside0.mk hy130
          clear hy130
          by_cases c8 : x3_1.length + y130.length < 140737488355328
          · rw [if_pos c8] at H
            have LMc8 := Aside0.mk c8
            clear c8
            obtain ⟨y133, hy133⟩ : ∃ y_ : List Int, y_ = (x3_1 ++ y130) := ⟨_, rfl⟩
            replace H : (diptychref01_Digits.l0 k1 a0 y133 (wrap64 (x4_1 + 1))) = some r := by first | (rw [hy133]; with_reducible exact H) | (have H2_ := (Option.bind_some _ _).symm.trans H; rw [hy133]; with_reducible exact H2_) | (have H2_ := (Option.bind_some _ _).symm.trans H; with_reducible exact H2_) | with_reducible exact H | (rw [hy133]; exact H) | exact H
            have Ny133 := Aside0.mk hy133
            clear hy133
            have H' := Aside0.mk H
            clear H
            try go_wp2
            have n0_ := Aside0.mk (Kd.R_drew HO_3.out)
            have n1_ := Aside0.mk (below_drew1 HB.out)
            clear HO_3
            clear HB
            have HO_3 := n0_
            have HB := n1_
            clear n0_ n1_
            have p4 : 0 ≤ (x4_1 : Int) := of_decide_eq_true (by first | (with_reducible assumption) | assumption)
            have q4 : x4_1 < (a0.size : Int) := of_decide_eq_true (by first | (with_reducible assumption) | assumption)
            have hx4 := bt_at a0 x4_1
            replace p4 := eq_true p4
            replace q4 := eq_true q4
            have p6 : 0 ≤ (x4_1 : Int) := of_decide_eq_true (by first | (with_reducible assumption) | assumption)
            have q6 : x4_1 < (a0.size : Int) := of_decide_eq_true (by first | (with_reducible assumption) | assumption)
            have hx6 := bt_at a0 x4_1
            replace p6 := eq_true p6
            replace q6 := eq_true q6
            refine start_ (n := 14) (S := fun w' => True) (ds := []) #[false, false, false, false, false, false, false, false, false, false, false, false, false, false] (by kernel_rfl) rfl rfl trivial (fun hHeld => ?_); refine with_tabW diptychref01_Digits.tab5 diptychref01_Digits.bits5 (fun HT_ HW_ => ?_)
            generalize wr.drew = w9 at HO_3 HB hHeld ⊢
            refine pure_ (i := 0) (N := some 11) (v := ?_) (a' := ?_) #[true, false, false, false, false, false, false, false, false, false, false, false, false, false] rfl rfl (any_of HT_.out (by kernel_rfl)) (fun _ _ _ h => h) (Or.inl ⟨by rfl, ?_⟩) ?_ ?_
            rotate_left
            · intro w'
              go_simp
              with_reducible rfl
            rotate_left
            · simp only [Act.put, List.setIfInBounds_toArray, List.set_cons_zero, List.set_cons_succ, i64_w, i32_w]
              rfl
            refine pure_ (i := 1) (N := some 12) (v := ?_) (a' := ?_) #[true, true, false, false, false, false, false, false, false, false, false, false, false, false] rfl rfl (any_of HT_.out (by kernel_rfl)) (fun _ _ _ h => h) (Or.inl ⟨by rfl, ?_⟩) ?_ ?_
            rotate_left
            · intro w'
              go_simp
              with_reducible rfl
            rotate_left
            · simp only [Act.put, List.setIfInBounds_toArray, List.set_cons_zero, List.set_cons_succ, i64_w, i32_w]
              rfl
            refine pure_ (i := 2) (N := some 13) (v := ?_) (a' := ?_) #[true, true, true, false, false, false, false, false, false, false, false, false, false, false] rfl rfl (any_of HT_.out (by kernel_rfl)) (fun _ _ _ h => h) (Or.inl ⟨by rfl, ?_⟩) ?_ ?_
            rotate_left
            · intro w'
              go_simp
              with_reducible rfl
            rotate_left
            · simp only [Act.put, List.setIfInBounds_toArray, List.set_cons_zero, List.set_cons_succ, i64_w, i32_w]
              rfl
            refine pure_ (i := 3) (N := some 14) (v := ?_) (a' := ?_) #[true, true, true, true, false, false, false, false, false, false, false, false, false, false] rfl rfl (any_of HT_.out (by kernel_rfl)) (fun _ _ _ h => h) (Or.inl ⟨by rfl, ?_⟩) ?_ ?_
            rotate_left
            · intro w'
              go_simp
              with_reducible rfl
            rotate_left
            · simp only [Act.put, List.setIfInBounds_toArray, List.set_cons_zero, List.set_cons_succ, i64_w, i32_w]
              rfl
            refine pure_ (i := 4) (N := some 15) (v := ?_) (a' := ?_) #[true, true, true, true, true, false, false, false, false, false, false, false, false, false] rfl rfl (any_of HT_.out (by kernel_rfl)) (fun _ _ _ h => h) (Or.inl ⟨by rfl, ?_⟩) ?_ ?_
            rotate_left
            · intro w'
              go_simp
              with_reducible rfl
            rotate_left
            · simp only [Act.put, List.setIfInBounds_toArray, List.set_cons_zero, List.set_cons_succ, i64_w, i32_w]
              rfl
            refine pure_ (i := 6) (N := some 17) (v := ?_) (a' := ?_) #[true, true, true, true, true, false, true, false, false, false, false, false, false, false] rfl rfl (any_of HT_.out (by kernel_rfl)) (fun _ _ _ h => h) (Or.inl ⟨by rfl, ?_⟩) ?_ ?_
            rotate_left
            · intro w'
              go_simp
              with_reducible rfl
            rotate_left
            · simp only [Act.put, List.setIfInBounds_toArray, List.set_cons_zero, List.set_cons_succ, i64_w, i32_w]
              rfl
            refine pure_ (i := 7) (N := some 18) (v := ?_) (a' := ?_) #[true, true, true, true, true, false, true, true, false, false, false, false, false, false] rfl rfl (any_of HT_.out (by kernel_rfl)) (fun _ _ _ h => h) (Or.inl ⟨by rfl, ?_⟩) ?_ ?_
            rotate_left
            · intro w'
              go_simp
              with_reducible rfl
            rotate_left
            · simp only [Act.put, List.setIfInBounds_toArray, List.set_cons_zero, List.set_cons_succ, i64_w, i32_w]
              rfl
            refine pure_ (i := 8) (N := some 19) (v := ?_) (a' := ?_) #[true, true, true, true, true, false, true, true, true, false, false, false, false, false] rfl rfl (any_of HT_.out (by kernel_rfl)) (fun _ _ _ h => h) (Or.inl ⟨by rfl, ?_⟩) ?_ ?_
            rotate_left
            · intro w'
              go_simp
              with_reducible rfl
            rotate_left
            · simp only [Act.put, List.setIfInBounds_toArray, List.set_cons_zero, List.set_cons_succ, i64_w, i32_w]
              rfl
            refine pure_ (i := 9) (N := some 20) (v := ?_) (a' := ?_) #[true, true, true, true, true, false, true, true, true, true, false, false, false, false] rfl rfl (any_of HT_.out (by kernel_rfl)) (fun _ _ _ h => h) (Or.inl ⟨by rfl, ?_⟩) ?_ ?_
            rotate_left
            · intro w'
              go_simp
              with_reducible rfl
            rotate_left
            · simp only [Act.put, List.setIfInBounds_toArray, List.set_cons_zero, List.set_cons_succ, i64_w, i32_w]
              rfl
            refine one_ (i := 5) (N := some 16) #[true, true, true, true, true, true, true, true, true, true, false, false, false, false] rfl rfl (one_of HT_.out (by kernel_rfl)) (by decide) (fun K hK => ?_)
            refine goes_ Tryz.func37 (by kernel_rfl) rfl #[.int .u8 ((Int.tdiv (bt a0 x4_1) 16) % 256)] (by rfl) rfl rfl (by (try simp only [List.map_toArray, List.map_cons, List.map_nil]); first | done | rfl | (simp only [List.length_drop, List.length_take]; rfl)) ?_
            with_reducible refine (diptychref01_digit.calls ((Int.tdiv (bt a0 x4_1) 16) % 256) t128 _ A5.out).mono ?_
            rintro e w' ⟨rfl, ⟨nd, rfl⟩⟩
            refine ⟨_, rfl, ?_⟩
            refine hK.out _ _ trivial (fun hHeld => ?_)
            clear hK K
            refine norm_ (a' := ?_) ?_ ?_
            rotate_left
            · show Act.put _ (some 16) _ = _
              simp only [Act.put, List.setIfInBounds_toArray, List.set_cons_zero, List.set_cons_succ, i64_w, i32_w]
              rfl
            refine one_ (i := 10) (N := some 21) #[true, true, true, true, true, true, true, true, true, true, true, false, false, false] rfl rfl (one_of HT_.out (by kernel_rfl)) (by decide) (fun K hK => ?_)
            refine goes_ Tryz.func37 (by kernel_rfl) rfl #[.int .u8 (Int.tmod (bt a0 x4_1) 16)] (by rfl) rfl rfl (by (try simp only [List.map_toArray, List.map_cons, List.map_nil]); first | done | rfl | (simp only [List.length_drop, List.length_take]; rfl)) ?_
            with_reducible refine (diptychref01_digit.calls (Int.tmod (bt a0 x4_1) 16) t129 _ A7.out).mono ?_
            rintro e w' ⟨rfl, ⟨nd, rfl⟩⟩
            refine ⟨_, rfl, ?_⟩
            refine hK.out _ _ trivial (fun hHeld => ?_)
            clear hK K
            refine norm_ (a' := ?_) ?_ ?_
            rotate_left
            · show Act.put _ (some 21) _ = _
              simp only [Act.put, List.setIfInBounds_toArray, List.set_cons_zero, List.set_cons_succ, i64_w, i32_w]
              rfl
            refine one_ (i := 11) (N := some 22) #[true, true, true, true, true, true, true, true, true, true, true, true, false, false] rfl rfl (one_of HT_.out (by kernel_rfl)) (by decide) (fun K hK => ?_)
            refine Kd.R_lit_step (Kd.int .u8) _ 5 ?hg (N := 22) ?hd (xs := ([t128, t129] : List Int)) (inner := [.int .u8 t128, .int .u8 t129]) (ok := fun _ => True) (okp := fun _ => True) ?hr ?hp (fun _ hk => hk) trivial (Below.refl _ _) (Nat.le_refl _) (by simp) ?_; (case hd => rfl); (case hg => rfl); (case hr => first | (go_simp; done) | (go_simp; rfl)); (case hp => exact (Reps.one (show Kd.M (Kd.int .u8) _ _ _ t128 [.int .u8 t128] from rfl) (Reps.one (show Kd.M (Kd.int .u8) _ _ _ t129 [.int .u8 t129] from rfl) (Reps.none _ _))))
            intro v131 w10 ho11 hb hg_ hnew_
            clear hg_ hnew_
            (first | rw [← Ny130.out] at ho11 | (simp only [Int.reduceToNat] at ho11; rw [← Ny130.out] at ho11))
            have n0_ := Aside0.mk (Kd.R_elder' (by (with_reducible repeat (first | apply Kd.R_alloc | apply Kd.R_drewN | apply Kd.R_drew)); exact HO_3.out) (Kd.R_base ho11) hb)
            have n1_ := Aside0.mk (Kd.R_lower (Kd.R_new' ho11 (Kd.R_lt (by (with_reducible repeat (first | apply Kd.R_alloc | apply Kd.R_drewN | apply Kd.R_drew)); exact HO_3.out))) (below_size (by repeat (first | (with_reducible first | exact HB.out | apply below_alloc | apply pw_below_drewN | apply below_drew1) | exact HB.out))))
            have n2_ := Aside0.mk (below_step (by repeat (first | (with_reducible first | exact HB.out | apply below_alloc | apply pw_below_drewN | apply below_drew1) | exact HB.out)) hb)
            clear HO_3
            clear HB
            have HO_3 := n0_
            have HO132 := n1_
            have HB := n2_
            clear n0_ n1_ n2_
            clear hb ho11
            obtain ⟨Ao13, co13, eo13⟩ := Kd.R_slice HO132.out
            (first | subst eo13 | (injection eo13 with f1_ f2_ f3_; have f4_ := f1_.symm; have f5_ := f3_.symm; clear f1_ f2_ f3_; subst f4_; subst f5_))
            refine hK.out _ _ trivial (fun hHeld => ?_)
            clear hK K
            refine norm_ (a' := ?_) ?_ ?_
            rotate_left
            · show Act.put _ (some 22) _ = _
              simp only [Act.put, List.setIfInBounds_toArray, List.set_cons_zero, List.set_cons_succ, i64_w, i32_w]
              rfl
            refine one_ (i := 12) (N := some 23) #[true, true, true, true, true, true, true, true, true, true, true, true, true, false] rfl rfl (one_of HT_.out (by kernel_rfl)) (by decide) (fun K hK => ?_)
            refine Kd.R_append_rows_step (Kd.int .u8) (w0 := w) w.heap.size (by rfl) (.tmp 11) (.tmp 22) 54 5 (.int .u8 0) 1 rfl Tryz.underlying54 info5 rfl (by decide) (by omega) u3 x3_1 y130 _ _ _ (fun k_ => some k_ ≠ (.slice Ao13 y130.length co13 : Value).ownBlock) (fun _ => False) rfl rfl ?aO ?aR (fun _ _ h => h) (fun _ h => h.elim) ?aF ?aB ?aS ?aL ?_
            (case aR => repeat (first | exact (Kd.R_reads' HO132.out).2.2 | (with_reducible refine Kd.C_alloc ?_ _) | (with_reducible refine Kd.C_drewN ?_ _) | (with_reducible refine Kd.C_drew ?_)))
            (case aB => exact (by repeat (first | (with_reducible first | exact HB.out | apply below_alloc | apply pw_below_drewN | apply below_drew1) | exact HB.out)))
            (case aF => exact (fun k_ hk => Kd.fresh' (Kd.R_lt (by (with_reducible repeat (first | apply Kd.R_alloc | apply Kd.R_drewN | apply Kd.R_drew)); exact HO132.out)) k_ hk))
            (case aO => exact (by (with_reducible repeat (first | apply Kd.R_alloc | apply Kd.R_drewN | apply Kd.R_drew)); exact Kd.R_mono HO_3.out (fun _ hk => hk.2)))
            (case aS => exact (below_size (by repeat (first | (with_reducible first | exact HB.out | apply below_alloc | apply pw_below_drewN | apply below_drew1) | exact HB.out))))
            (case aL => have := LMc8.out; omega)
            intro v134 w12 ho hb hg hat
            rw [← Ny133.out] at ho
            have n0_ := Aside0.mk (Kd.R_after (ok := (fun _ => True)) (by (with_reducible repeat (first | apply Kd.R_alloc | apply Kd.R_drewN | apply Kd.R_drew)); exact HO132.out) hg hat)
            have n1_ := Aside0.mk (hb)
            have n2_ := Aside0.mk (ho)
            clear HO132
            clear HB
            clear HO_3
            have HO132 := n0_
            have HB := n1_
            have HO135 := n2_
            clear n0_ n1_ n2_
            clear ho hb hg hat
            refine hK.out _ _ trivial (fun hHeld => ?_)
            clear hK K
            refine norm_ (a' := ?_) ?_ ?_
            rotate_left
            · show Act.put _ (some 23) _ = _
              simp only [Act.put, List.setIfInBounds_toArray, List.set_cons_zero, List.set_cons_succ, i64_w, i32_w]
              rfl
            refine pure_ (i := 13) (N := some 3) (v := ?_) (a' := ?_) #[true, true, true, true, true, true, true, true, true, true, true, true, true, true] rfl rfl (any_of HT_.out (by kernel_rfl)) (fun _ _ _ h => h) (Or.inl ⟨by rfl, ?_⟩) ?_ ?_
            rotate_left
            · intro w'
              go_simp
              with_reducible rfl
            rotate_left
            · simp only [Act.put, List.setIfInBounds_toArray, List.set_cons_zero, List.set_cons_succ, i64_w, i32_w]
              rfl
            refine done_ (done_of HT_.out (by kernel_rfl)) ?_
            try go_wp2
            go_roundg k1
            case measure => have := HK1.out; omega
            case rel => exact ⟨(y133), (wrap64 (x4_1 + 1)), (by first | rfl | (simp; done) | (simp [*]; done)), H', ⟨by have := HK1.out; omega⟩, ⟨by (with_reducible repeat (first | apply Kd.R_alloc | apply Kd.R_drewN | apply Kd.R_drew)); exact Kd.R_mono HO135.out (fun _ hk => trivial)⟩, ⟨by repeat (first | (with_reducible first | exact HB.out | apply below_alloc | apply pw_below_drewN | apply below_drew1) | exact HB.out)⟩⟩
          · rw [if_neg c8] at H
            exact absurd H (by simp)
        · rw [if_neg c3] at H
          exact absurd H (by simp)
      · rw [if_neg c2] at H
        have c2b0 : decide (x4_1 < (a0.size : Int)) = false := decide_eq_false c2
        clear c2
        obtain rfl := Option.some.inj H
        have hcv14 := own_string (P := Tryz.prog) Tryz.underlying54 Tryz.underlying5 Tryz.underlying9 (Kd.own_of_R HO_3.out)
        go_wp2
        go_ret
        exact ⟨by first | rfl | (simp [errW_none, errW_some] <;> rfl) | (simp [*, errW_none, errW_some] <;> rfl), by repeat (first | (with_reducible first | exact HB.out | apply below_alloc | apply pw_below_drewN | apply below_drew1) | exact HB.out)⟩
def diptychref10_Word.f (a0 : Int) : Option (ByteArray) := if a0 = 1 then (some (⟨#[98, 108, 111, 98]⟩ : ByteArray)) else (if a0 = 2 then (some (⟨#[116, 114, 101, 101]⟩ : ByteArray)) else (if a0 = 3 then (some (⟨#[99, 111, 109, 109, 105, 116]⟩ : ByteArray)) else (if a0 = 4 then (some (⟨#[116, 97, 103]⟩ : ByteArray)) else (some (⟨#[]⟩ : ByteArray)))))
set_option maxHeartbeats 8000000 in
set_option maxRecDepth 100000 in
theorem diptychref10_Word.calls (a0 : Int) (r : ByteArray) (w : World) (h : diptychref10_Word.f a0 = some r) :
    Calls Tryz.prog 12 #[.int .i64 a0] w fun e w' => e = .returned (.string r) ∧ Drawn0 w w' := by
  have H : (if a0 = 1 then (some (⟨#[98, 108, 111, 98]⟩ : ByteArray)) else (if a0 = 2 then (some (⟨#[116, 114, 101, 101]⟩ : ByteArray)) else (if a0 = 3 then (some (⟨#[99, 111, 109, 109, 105, 116]⟩ : ByteArray)) else (if a0 = 4 then (some (⟨#[116, 97, 103]⟩ : ByteArray)) else (some (⟨#[]⟩ : ByteArray)))))) = some r := h
  clear h
  by_cases c2 : a0 = 1
  · rw [if_pos c2] at H
    have c2b0 : (a0 == 1) = true := beq_iff_eq.mpr c2
    have c2b1 : (a0 != 1) = false := bne_eq_false_iff_eq.mpr c2
    clear c2
    obtain rfl := Option.some.inj H
    go_enter Tryz.func12, Tryz.ntmps12
    go_wp2
    go_ret
    exact ⟨by first | rfl | (simp; done) | (simp [*]; done), by repeat (first | exact Drawn0.refl _ | apply Drawn0.step)⟩
  · rw [if_neg c2] at H
    have c2b0 : (a0 == 1) = false := beq_eq_false_iff_ne.mpr c2
    have c2b1 : (a0 != 1) = true := bne_iff_ne.mpr c2
    by_cases c3 : a0 = 2
    · rw [if_pos c3] at H
      have c3b0 : (a0 == 2) = true := beq_iff_eq.mpr c3
      have c3b1 : (a0 != 2) = false := bne_eq_false_iff_eq.mpr c3
      clear c3
      obtain rfl := Option.some.inj H
      go_enter Tryz.func12, Tryz.ntmps12
      go_wp2
      go_ret
      exact ⟨by first | rfl | (simp; done) | (simp [*]; done), by repeat (first | exact Drawn0.refl _ | apply Drawn0.step)⟩
    · rw [if_neg c3] at H
      have c3b0 : (a0 == 2) = false := beq_eq_false_iff_ne.mpr c3
      have c3b1 : (a0 != 2) = true := bne_iff_ne.mpr c3
      by_cases c4 : a0 = 3
      · rw [if_pos c4] at H
        have c4b0 : (a0 == 3) = true := beq_iff_eq.mpr c4
        have c4b1 : (a0 != 3) = false := bne_eq_false_iff_eq.mpr c4
        clear c4
        obtain rfl := Option.some.inj H
        go_enter Tryz.func12, Tryz.ntmps12
        go_wp2
        go_ret
        exact ⟨by first | rfl | (simp; done) | (simp [*]; done), by repeat (first | exact Drawn0.refl _ | apply Drawn0.step)⟩
      · rw [if_neg c4] at H
        have c4b0 : (a0 == 3) = false := beq_eq_false_iff_ne.mpr c4
        have c4b1 : (a0 != 3) = true := bne_iff_ne.mpr c4
        by_cases c5 : a0 = 4
        · rw [if_pos c5] at H
          have c5b0 : (a0 == 4) = true := beq_iff_eq.mpr c5
          have c5b1 : (a0 != 4) = false := bne_eq_false_iff_eq.mpr c5
          clear c5
          obtain rfl := Option.some.inj H
          go_enter Tryz.func12, Tryz.ntmps12
          go_wp2
          go_ret
          exact ⟨by first | rfl | (simp; done) | (simp [*]; done), by repeat (first | exact Drawn0.refl _ | apply Drawn0.step)⟩
        · rw [if_neg c5] at H
          have c5b0 : (a0 == 4) = false := beq_eq_false_iff_ne.mpr c5
          have c5b1 : (a0 != 4) = true := bne_iff_ne.mpr c5
          obtain rfl := Option.some.inj H
          go_enter Tryz.func12, Tryz.ntmps12
          go_wp2
          go_ret
          exact ⟨by first | rfl | (simp; done) | (simp [*]; done), by repeat (first | exact Drawn0.refl _ | apply Drawn0.step)⟩
def diptychref10_Kind.l0 : Nat → ByteArray → Int → Option (Int)
  | 0, _, _ => none
  | k + 1, x0, x3 => if x3 < 5 then ((diptychref10_Word.f x3).bind fun t136 => (if t136.toList = x0.toList then (some x3) else (diptychref10_Kind.l0 k x0 (wrap64 (x3 + 1))))) else (some 0)
def diptychref10_Kind.f (k : Nat) (a0 : ByteArray) : Option (Int) := diptychref10_Kind.l0 k a0 1
theorem diptychref10_Kind.mono_l : ∀ k, (∀ y0 y1, LeO (diptychref10_Kind.l0 k y0 y1) (diptychref10_Kind.l0 (k + 1) y0 y1))
  | 0 => fun _ _ r h => by simp [diptychref10_Kind.l0] at h
  | k + 1 => by
    have ih0 := diptychref10_Kind.mono_l k
    · intro y0 y1
      unfold diptychref10_Kind.l0
      repeat' first
      | (with_reducible exact ih0 _ _)
      | (with_reducible exact LeO.refl _)
      | (with_reducible exact LeO.none _)
      | (with_reducible refine LeO.ite ?_ ?_)
      | (with_reducible refine LeO.bind ?_ (fun _ => ?_))
      | exact ih0 _ _
      | exact LeO.none _
      | refine LeO.ite ?_ ?_
      | refine LeO.bind ?_ (fun _ => ?_)
theorem diptychref10_Kind.mono : ∀ a0 k, LeO (diptychref10_Kind.f k a0) (diptychref10_Kind.f (k + 1) a0) := by
  intro a0 k
  have ih0 := diptychref10_Kind.mono_l k
  unfold diptychref10_Kind.f
  repeat' first
      | (with_reducible exact ih0 _ _)
      | (with_reducible exact LeO.refl _)
      | (with_reducible exact LeO.none _)
      | (with_reducible refine LeO.ite ?_ ?_)
      | (with_reducible refine LeO.bind ?_ (fun _ => ?_))
      | exact ih0 _ _
      | exact LeO.none _
      | refine LeO.ite ?_ ?_
      | refine LeO.bind ?_ (fun _ => ?_)
set_option maxHeartbeats 8000000 in
set_option maxRecDepth 100000 in
theorem diptychref10_Kind.calls (k : Nat) (a0 : ByteArray) (r : Int) (w : World) (h : diptychref10_Kind.f k a0 = some r) :
    Calls Tryz.prog 14 #[.string a0] w fun e w' => e = .returned (.int .i64 r) ∧ Drawn0 w w' := by
  have H : (diptychref10_Kind.l0 k a0 1) = some r := h
  clear h
  have H' := Aside0.mk H
  clear H
  go_enter Tryz.func14, Tryz.ntmps14
  go_wp2
  go_loopg [3] k (fun kq v3 w' => ∃ (x3_1 : Int), v3 = .int .i64 x3_1 ∧ Aside0 (diptychref10_Kind.l0 kq a0 x3_1 = some r) ∧ Aside0 (kq ≤ k) ∧ Drawn0 w w')
  case atStart => exact ⟨(1), (by first | rfl | (simp; done) | (simp [*]; done)), H', ⟨Nat.le_refl _⟩, by repeat (first | exact Drawn0.refl _ | apply Drawn0.step)⟩
  case round =>
    clear H'
    try clear c1
    obtain ⟨x3_1, rfl, HA, HK1, ⟨m1, rfl⟩⟩ := hrel
    cases gk with
    | zero => exact absurd HA.out (by simp [diptychref10_Kind.l0])
    | succ k1 =>
      have H := HA.out
      clear HA
      simp only [diptychref10_Kind.l0] at H
      by_cases c2 : x3_1 < 5
      · rw [if_pos c2] at H
        have c2b0 : decide (x3_1 < 5) = true := decide_eq_true c2
        clear c2
        replace H := Option.bind_eq_some_iff.mp H
        obtain ⟨t136, A30, H⟩ := H
        replace H : (if t136.toList = a0.toList then (some x3_1) else (diptychref10_Kind.l0 k1 a0 (wrap64 (x3_1 + 1)))) = some r := H
        have A3 := Aside0.mk A30
        clear A30
        by_cases c4 : t136.toList = a0.toList
        · rw [if_pos c4] at H
          have c4b0 : (t136.toList == a0.toList) = true := beq_iff_eq.mpr c4
          have c4b1 : (t136.toList != a0.toList) = false := bne_eq_false_iff_eq.mpr c4
          clear c4
          obtain rfl := Option.some.inj H
          go_wp2_with (first | ((with_reducible refine gate_callee (f := 12) rfl ?_); refine goesL_ (some 9) rfl rfl Tryz.func12 (by kernel_rfl) rfl #[.int .i64 x3_1] rfl (by (try simp only [List.map_toArray, List.map_cons, List.map_nil]); first | done | rfl | (simp only [List.length_drop, List.length_take]; rfl)) ?_; (with_reducible refine (diptychref10_Word.calls x3_1 t136 _ A3.out).mono ?_); rintro e w' ⟨rfl, ⟨nd, rfl⟩⟩; refine ⟨_, rfl, ?_⟩))
          go_ret
          exact ⟨by first | rfl | (simp; done) | (simp [*]; done), by repeat (first | exact Drawn0.refl _ | apply Drawn0.step)⟩
        · rw [if_neg c4] at H
          have c4b0 : (t136.toList == a0.toList) = false := beq_eq_false_iff_ne.mpr c4
          have c4b1 : (t136.toList != a0.toList) = true := bne_iff_ne.mpr c4
          have H' := Aside0.mk H
          clear H
          go_wp2_with (first | ((with_reducible refine gate_callee (f := 12) rfl ?_); refine goesL_ (some 9) rfl rfl Tryz.func12 (by kernel_rfl) rfl #[.int .i64 x3_1] rfl (by (try simp only [List.map_toArray, List.map_cons, List.map_nil]); first | done | rfl | (simp only [List.length_drop, List.length_take]; rfl)) ?_; (with_reducible refine (diptychref10_Word.calls x3_1 t136 _ A3.out).mono ?_); rintro e w' ⟨rfl, ⟨nd, rfl⟩⟩; refine ⟨_, rfl, ?_⟩))
          go_roundg k1
          case measure => have := HK1.out; omega
          case rel => exact ⟨(wrap64 (x3_1 + 1)), (by first | rfl | (simp; done) | (simp [*]; done)), H', ⟨by have := HK1.out; omega⟩, by repeat (first | exact Drawn0.refl _ | apply Drawn0.step)⟩
      · rw [if_neg c2] at H
        have c2b0 : decide (x3_1 < 5) = false := decide_eq_false c2
        clear c2
        obtain rfl := Option.some.inj H
        go_wp2
        go_ret
        exact ⟨by first | rfl | (simp; done) | (simp [*]; done), by repeat (first | exact Drawn0.refl _ | apply Drawn0.step)⟩
end Go.Proofs.YtfjhnnpdaggnbaaGreatDoor.P
end
/-! Px5 -/
section
namespace Go.Proofs.YtfjhnnpdaggnbaaGreatDoor.P
open Go.RowKit Go.Proofs.YtfjhnnpdaggnbaaGreatDoorW.PrintWords Go.Proofs.YtfjhnnpdaggnbaaGreatDoorW.PrintLast Go.Proofs.YtfjhnnpdaggnbaaGreatDoorW.PrintMore
attribute [local go_sem] max2_int min2_int max_two min_two max_three min_three max_four min_four   -- for this text's walks alone
set_option linter.unusedVariables false
set_option linter.unusedSimpArgs false
def diptychref10_Decimal.l0 : Nat → Int → ByteArray → Option (ByteArray)
  | 0, _, _ => none
  | k + 1, x0, x3 => if x0 > 9 then ((some (([(wrap64 (48 + (Int.tmod x0 10))) % 256] : List Int) : List Int)).bind fun y137 => (if (strOfNums y137).size + x3.size ≤ 9223372036854775807 then (diptychref10_Decimal.l0 k (wrap64 (Int.tdiv x0 10)) ((strOfNums y137) ++ x3)) else (none))) else ((some (([(wrap64 (48 + x0)) % 256] : List Int) : List Int)).bind fun y140 => (if (strOfNums y140).size + x3.size ≤ 9223372036854775807 then (some ((strOfNums y140) ++ x3)) else (none)))
def diptychref10_Decimal.f (k : Nat) (a0 : Int) : Option (ByteArray) := diptychref10_Decimal.l0 k a0 (⟨#[]⟩ : ByteArray)
theorem diptychref10_Decimal.mono_l : ∀ k, (∀ y0 y1, LeO (diptychref10_Decimal.l0 k y0 y1) (diptychref10_Decimal.l0 (k + 1) y0 y1))
  | 0 => fun _ _ r h => by simp [diptychref10_Decimal.l0] at h
  | k + 1 => by
    have ih0 := diptychref10_Decimal.mono_l k
    · intro y0 y1
      unfold diptychref10_Decimal.l0
      repeat' first
      | (with_reducible exact ih0 _ _)
      | (with_reducible exact LeO.refl _)
      | (with_reducible exact LeO.none _)
      | (with_reducible refine LeO.ite ?_ ?_)
      | (with_reducible refine LeO.bind ?_ (fun _ => ?_))
      | exact ih0 _ _
      | exact LeO.none _
      | refine LeO.ite ?_ ?_
      | refine LeO.bind ?_ (fun _ => ?_)
theorem diptychref10_Decimal.mono : ∀ a0 k, LeO (diptychref10_Decimal.f k a0) (diptychref10_Decimal.f (k + 1) a0) := by
  intro a0 k
  have ih0 := diptychref10_Decimal.mono_l k
  unfold diptychref10_Decimal.f
  repeat' first
      | (with_reducible exact ih0 _ _)
      | (with_reducible exact LeO.refl _)
      | (with_reducible exact LeO.none _)
      | (with_reducible refine LeO.ite ?_ ?_)
      | (with_reducible refine LeO.bind ?_ (fun _ => ?_))
      | exact ih0 _ _
      | exact LeO.none _
      | refine LeO.ite ?_ ?_
      | refine LeO.bind ?_ (fun _ => ?_)
set_option maxHeartbeats 8000000 in
set_option maxRecDepth 100000 in
theorem diptychref10_Decimal.calls (k : Nat) (a0 : Int) (r : ByteArray) (w : World) (h : diptychref10_Decimal.f k a0 = some r) :
    Calls Tryz.prog 35 #[.int .i64 a0] w fun e w' => e = .returned (.string r) ∧ Below w.heap.size w w' := by
  have HB := Aside0.mk (Below.refl w.heap.size w)
  have H : (diptychref10_Decimal.l0 k a0 (⟨#[]⟩ : ByteArray)) = some r := h
  clear h
  have H' := Aside0.mk H
  clear H
  go_enter Tryz.func35, Tryz.ntmps35
  go_wp2
  go_loopg [0, 3] k (fun kq v0 v3 w' => ∃ (x0_1 : Int) (x3_1 : ByteArray), v0 = .int .i64 x0_1 ∧ v3 = .string x3_1 ∧ Aside0 (diptychref10_Decimal.l0 kq x0_1 x3_1 = some r) ∧ Aside0 (kq ≤ k) ∧ Aside0 (Below w.heap.size w w'))
  case atStart => exact ⟨(a0), ((⟨#[]⟩ : ByteArray)), (by first | rfl | (simp; done) | (simp [*]; done)), (by first | rfl | (simp; done) | (simp [*]; done)), H', ⟨Nat.le_refl _⟩, ⟨by repeat (first | (with_reducible first | exact HB.out | apply below_alloc | apply pw_below_drewN | apply below_drew1) | exact HB.out)⟩⟩
  case round =>
    clear H'
    obtain ⟨x0_1, x3_1, rfl, rfl, HA, HK1, HB⟩ := hrel
    cases gk with
    | zero => exact absurd HA.out (by simp [diptychref10_Decimal.l0])
    | succ k1 =>
      have H := HA.out
      clear HA
      simp only [diptychref10_Decimal.l0] at H
      by_cases c2 : x0_1 > 9
      · rw [if_pos c2] at H
        have c2b0 : decide (9 < x0_1) = true := decide_eq_true c2
        clear c2
        obtain ⟨y137, hy137⟩ : ∃ y_ : List Int, y_ = (([(wrap64 (48 + (Int.tmod x0_1 10))) % 256] : List Int)) := ⟨_, rfl⟩
        replace H : (if (strOfNums y137).size + x3_1.size ≤ 9223372036854775807 then (diptychref10_Decimal.l0 k1 (wrap64 (Int.tdiv x0_1 10)) ((strOfNums y137) ++ x3_1)) else (none)) = some r := by first | (rw [hy137]; with_reducible exact H) | (have H2_ := (Option.bind_some _ _).symm.trans H; rw [hy137]; with_reducible exact H2_) | (have H2_ := (Option.bind_some _ _).symm.trans H; with_reducible exact H2_) | with_reducible exact H | (rw [hy137]; exact H) | exact H
        have Ny137 := Aside0.mk hy137
        clear hy137
        by_cases c3 : (strOfNums y137).size + x3_1.size ≤ 9223372036854775807
        · rw [if_pos c3] at H
          have c3b0 := eq_true c3
          have c3b1 : decide ((strOfNums y137).size + x3_1.size ≤ 9223372036854775807) = true := decide_eq_true c3
          try have c3b2 : (9223372036854775807 < (strOfNums y137).size + x3_1.size) = False := eq_false (Nat.not_lt.2 c3)
          have H' := Aside0.mk H
          clear H
          go_wp2_with (first | ((with_reducible refine gate_dst (N := 10) rfl ?_); refine Kd.R_lit (Kd.int .u8) _ 5 ?hg (N := 10) ?hd (xs := ([(wrap64 (48 + (Int.tmod x0_1 10))) % 256] : List Int)) (inner := [.int .u8 ((wrap64 (48 + (Int.tmod x0_1 10))) % 256)]) (ok := fun _ => True) (okp := fun _ => True) ?hr ?hp (fun _ hk => hk) trivial (Below.refl _ _) (Nat.le_refl _) (by simp) ?_; (case hd => rfl); (case hg => rfl); (case hr => first | (go_simp; done) | (go_simp; rfl)); (case hp => exact (Reps.one (show Kd.M (Kd.int .u8) _ _ _ ((wrap64 (48 + (Int.tmod x0_1 10))) % 256) [.int .u8 ((wrap64 (48 + (Int.tmod x0_1 10))) % 256)] from rfl) (Reps.none _ _))); intro v138 w4 ho5 hb hg_ hnew_; clear hg_ hnew_; (first | rw [← Ny137.out] at ho5 | (simp only [Int.reduceToNat] at ho5; rw [← Ny137.out] at ho5)); have n0_ := Aside0.mk (Kd.R_lower ho5 (below_size (by repeat (first | (with_reducible first | exact HB.out | apply below_alloc | apply pw_below_drewN | apply below_drew1) | exact HB.out)))); have n1_ := Aside0.mk (below_step (by repeat (first | (with_reducible first | exact HB.out | apply below_alloc | apply pw_below_drewN | apply below_drew1) | exact HB.out)) hb); clear HB; have HO139 := n0_; have HB := n1_; clear n0_ n1_; clear hb ho5; have hcv6 := own_string (P := Tryz.prog) Tryz.underlying54 Tryz.underlying5 Tryz.underlying9 (Kd.own_of_R HO139.out)))
          go_roundg k1
          case measure => have := HK1.out; omega
          case rel => exact ⟨(wrap64 (Int.tdiv x0_1 10)), ((strOfNums y137) ++ x3_1), (by first | rfl | (simp; done) | (simp [*]; done)), (by first | rfl | (simp; done) | (simp [*]; done)), H', ⟨by have := HK1.out; omega⟩, ⟨by repeat (first | (with_reducible first | exact HB.out | apply below_alloc | apply pw_below_drewN | apply below_drew1) | exact HB.out)⟩⟩
        · rw [if_neg c3] at H
          exact absurd H (by simp)
      · rw [if_neg c2] at H
        have c2b0 : decide (9 < x0_1) = false := decide_eq_false c2
        clear c2
        obtain ⟨y140, hy140⟩ : ∃ y_ : List Int, y_ = (([(wrap64 (48 + x0_1)) % 256] : List Int)) := ⟨_, rfl⟩
        replace H : (if (strOfNums y140).size + x3_1.size ≤ 9223372036854775807 then (some ((strOfNums y140) ++ x3_1)) else (none)) = some r := by first | (rw [hy140]; with_reducible exact H) | (have H2_ := (Option.bind_some _ _).symm.trans H; rw [hy140]; with_reducible exact H2_) | (have H2_ := (Option.bind_some _ _).symm.trans H; with_reducible exact H2_) | with_reducible exact H | (rw [hy140]; exact H) | exact H
        have Ny140 := Aside0.mk hy140
        clear hy140
        by_cases c7 : (strOfNums y140).size + x3_1.size ≤ 9223372036854775807
        · rw [if_pos c7] at H
          have c7b0 := eq_true c7
          have c7b1 : decide ((strOfNums y140).size + x3_1.size ≤ 9223372036854775807) = true := decide_eq_true c7
          try have c7b2 : (9223372036854775807 < (strOfNums y140).size + x3_1.size) = False := eq_false (Nat.not_lt.2 c7)
          obtain rfl := Option.some.inj H
          go_wp2_with (first | ((with_reducible refine gate_dst (N := 19) rfl ?_); refine Kd.R_lit (Kd.int .u8) _ 5 ?hg (N := 19) ?hd (xs := ([(wrap64 (48 + x0_1)) % 256] : List Int)) (inner := [.int .u8 ((wrap64 (48 + x0_1)) % 256)]) (ok := fun _ => True) (okp := fun _ => True) ?hr ?hp (fun _ hk => hk) trivial (Below.refl _ _) (Nat.le_refl _) (by simp) ?_; (case hd => rfl); (case hg => rfl); (case hr => first | (go_simp; done) | (go_simp; rfl)); (case hp => exact (Reps.one (show Kd.M (Kd.int .u8) _ _ _ ((wrap64 (48 + x0_1)) % 256) [.int .u8 ((wrap64 (48 + x0_1)) % 256)] from rfl) (Reps.none _ _))); intro v141 w8 ho9 hb hg_ hnew_; clear hg_ hnew_; (first | rw [← Ny140.out] at ho9 | (simp only [Int.reduceToNat] at ho9; rw [← Ny140.out] at ho9)); have n0_ := Aside0.mk (Kd.R_lower ho9 (below_size (by repeat (first | (with_reducible first | exact HB.out | apply below_alloc | apply pw_below_drewN | apply below_drew1) | exact HB.out)))); have n1_ := Aside0.mk (below_step (by repeat (first | (with_reducible first | exact HB.out | apply below_alloc | apply pw_below_drewN | apply below_drew1) | exact HB.out)) hb); clear HB; have HO142 := n0_; have HB := n1_; clear n0_ n1_; clear hb ho9; have hcv10 := own_string (P := Tryz.prog) Tryz.underlying54 Tryz.underlying5 Tryz.underlying9 (Kd.own_of_R HO142.out)))
          go_ret
          exact ⟨by first | rfl | (simp [errW_none, errW_some] <;> rfl) | (simp [*, errW_none, errW_some] <;> rfl), by repeat (first | (with_reducible first | exact HB.out | apply below_alloc | apply pw_below_drewN | apply below_drew1) | exact HB.out)⟩
        · rw [if_neg c7] at H
          exact absurd H (by simp)
end Go.Proofs.YtfjhnnpdaggnbaaGreatDoor.P
end
/-! U0 -/
section
namespace Go.Proofs.YtfjhnnpdaggnbaaGreatDoor.U
open Go.RowKit Go.Proofs.YtfjhnnpdaggnbaaGreatDoorW.PrintWords
theorem w64 {x : Int} (h0 : -9223372036854775808 ≤ x) (h1 : x ≤ 9223372036854775807) : wrap64 x = x := by unfold wrap64; omega
theorem w64n {x : Int} {n : Nat} (e : x = (n : Int)) (h : n ≤ 4611686018427387904) : wrap64 x = (n : Int) := by rw [e, w64 (by omega) (by omega)]
theorem Ev.succ {α : Type} {g f : Nat → Option α} {r : α} (k : Ev f r) (h : ∀ n, f n = some r → g (n + 1) = some r) : Ev g r := by
  obtain ⟨K, k⟩ := k
  refine ⟨K + 1, fun n hn => ?_⟩
  obtain ⟨m, rfl⟩ : ∃ m, n = m + 1 := ⟨n - 1, by omega⟩
  exact h m (k m (by omega))
theorem Ev.one {α : Type} {g : Nat → Option α} {r : α} (h : ∀ n, g (n + 1) = some r) : Ev g r := by
  refine ⟨1, fun n hn => ?_⟩
  obtain ⟨m, rfl⟩ : ∃ m, n = m + 1 := ⟨n - 1, by omega⟩
  exact h m
theorem Ev.and {α β : Type} {f : Nat → Option α} {e : Nat → Option β} {a : α} {b : β} (h : Ev f a) (k : Ev e b) : ∃ K, ∀ n, K ≤ n → f n = some a ∧ e n = some b := by
  obtain ⟨K, h⟩ := h
  obtain ⟨K', k⟩ := k
  exact ⟨max K K', fun n hn => ⟨h n (by omega), k n (by omega)⟩⟩
theorem Ev.map {α β : Type} {f : Nat → Option α} {g : Nat → Option β} {a : α} {r : β} (h : Ev f a) (hg : ∀ n, f n = some a → g n = some r) : Ev g r := by
  obtain ⟨K, h⟩ := h
  exact ⟨K, fun n hn => hg n (h n hn)⟩
abbrev L (s : ByteArray) : List UInt8 := s.data.toList
theorem size_L (s : ByteArray) : s.size = (L s).length := (Array.length_toList).symm
theorem mk_L (l : List UInt8) : L ⟨l.toArray⟩ = l := rfl
theorem ext_L {s t : ByteArray} (h : L s = L t) : s = t := by
  cases s with | mk a => cases t with | mk b => simp only [L] at h; congr 1; exact Array.toList_inj.1 h
theorem append_L (a b : ByteArray) : L (a ++ b) = L a ++ L b := Joins.data_append a b
theorem bt_L (s : ByteArray) (i : Nat) : bt s (i : Int) = (((L s).getD i 0).toNat : Int) := by
  unfold bt
  by_cases h : i < s.size
  · have h' : i < (L s).length := by rw [← size_L]; exact h
    rw [dif_pos (by simpa using h)]
    simp [List.getD_eq_getElem?_getD, List.getElem?_eq_getElem h']
    rfl
  · have h' : ¬ i < (L s).length := by rw [← size_L]; exact h
    rw [dif_neg (by simpa using h)]
    simp [List.getD_eq_getElem?_getD, List.getElem?_eq_none (Nat.not_lt.1 h')]
theorem bt_lt (s : ByteArray) (i : Int) : bt s i < 256 := by have := (bt_range s i).2; omega
def ints (l : List UInt8) : List Int := l.map fun b => (b.toNat : Int)
theorem ints_length (l : List UInt8) : (ints l).length = l.length := by simp [ints]
theorem ints_append (a b : List UInt8) : ints (a ++ b) = ints a ++ ints b := by simp [ints]
theorem str_ints (l : List UInt8) : strOfNums (ints l) = ⟨l.toArray⟩ := by
  unfold strOfNums ints
  congr 2
  rw [List.map_map]
  conv => rhs; rw [← List.map_id l]
  apply List.map_congr_left
  intro b _
  simp
theorem set_mid {α : Type} (A B : List α) (z x : α) (n : Nat) (h : n = A.length) : (A ++ z :: B).set n x = A ++ x :: B := by
  subst h
  rw [List.set_append_right _ _ (Nat.le_refl _)]
  simp
theorem take_succ' {α : Type} (l : List α) (i : Nat) (h : i < l.length) (d : α) : l.take (i + 1) = l.take i ++ [l.getD i d] := by
  rw [List.take_succ_eq_append_getElem h, List.getD_eq_getElem?_getD, List.getElem?_eq_getElem h]
  rfl
theorem u8_ofNat (n : Nat) (h : n < 256) : (UInt8.ofNat n).toNat = n := by
  rw [UInt8.toNat_ofNat']; omega
end Go.Proofs.YtfjhnnpdaggnbaaGreatDoor.U
end
/-! HxI -/
section
namespace Go.Proofs.YtfjhnnpdaggnbaaGreatDoor.U
open Go.RowKit Go.Proofs.YtfjhnnpdaggnbaaGreatDoor.P Go.Proofs.YtfjhnnpdaggnbaaGreatDoorW.PrintWords
/-- A digit of four bits. -/
def hx (v : Nat) : UInt8 := if v < 10 then UInt8.ofNat (48 + v) else UInt8.ofNat (87 + v)
/-- The digits of bytes. -/
def digs : List UInt8 → List UInt8
  | [] => []
  | b :: r => hx (b.toNat / 16) :: hx (b.toNat % 16) :: digs r
/-- The value of a digit; 16: none. -/
def hv (c : UInt8) : Nat := if 48 ≤ c.toNat ∧ c.toNat ≤ 57 then c.toNat - 48 else if 97 ≤ c.toNat ∧ c.toNat ≤ 102 then c.toNat - 87 else 16
theorem digs_length : ∀ l : List UInt8, (digs l).length = 2 * l.length
  | [] => rfl
  | b :: r => by simp [digs, digs_length r]; omega
theorem digs_append : ∀ a b : List UInt8, digs (a ++ b) = digs a ++ digs b
  | [], _ => rfl
  | x :: a, b => by simp [digs, digs_append a b]
theorem hx_lt (v : Nat) (h : v < 16) : (hx v).toNat = if v < 10 then 48 + v else 87 + v := by
  unfold hx
  split <;> (rw [u8_ofNat _ (by omega)])
theorem tbl (v : Nat) (h : v < 16) : bt (⟨#[48, 49, 50, 51, 52, 53, 54, 55, 56, 57, 97, 98, 99, 100, 101, 102]⟩ : ByteArray) (v : Int) = ((hx v).toNat : Int) := by
  rw [bt_L]
  have : ∀ v : Fin 16, ([48, 49, 50, 51, 52, 53, 54, 55, 56, 57, 97, 98, 99, 100, 101, 102] : List UInt8).getD v.1 0 = hx v.1 := by decide +kernel
  exact congrArg (fun x : UInt8 => (x.toNat : Int)) (this ⟨v, h⟩)
theorem div16 (c : UInt8) : ((c.toNat : Int) / 16) = ((c.toNat / 16 : Nat) : Int) := by omega
theorem and15 (n : Nat) (h : n < 256) : Go.bits .and .u8 (n : Int) 15 = ((n % 16 : Nat) : Int) := by
  have : ∀ n : Fin 256, Go.bits .and .u8 ((n.1 : Nat) : Int) 15 = ((n.1 % 16 : Nat) : Int) := by decide +kernel
  exact this ⟨n, h⟩
theorem hexa_Digits_l0 (s : ByteArray) (hs : s.size ≤ 1099511627776) : ∀ (d i : Nat) (acc : List Int), i + d = s.size → acc = ints (digs ((L s).take i)) ++ List.replicate (2 * d) 0 →
    Ev (fun k => hexa_Digits.l0 k s acc (s.size : Int) (i : Int)) (⟨(digs (L s)).toArray⟩ : ByteArray) := by
  intro d
  induction d with
  | zero =>
    intro i acc hi ha
    refine Ev.one fun n => ?_
    simp only [hexa_Digits.l0]
    rw [if_neg (by omega), ha, List.take_of_length_le (by rw [← size_L]; omega)]
    simp [str_ints]
  | succ d ih =>
    intro i acc hi ha
    have hL : i < (L s).length := by rw [← size_L]; omega
    refine Ev.succ (ih (i + 1) (ints (digs ((L s).take (i + 1))) ++ List.replicate (2 * d) 0) (by omega) rfl) fun n hn => ?_
    have h0 := UInt8.toNat_lt ((L s).getD i 0)
    have hlen : acc.length = 2 * s.size := by
      rw [ha]; simp [ints_length, digs_length]; omega
    simp only [hexa_Digits.l0]
    rw [bt_L s i]
    generalize hc : (L s).getD i 0 = c at h0
    rw [div16 c, and15 _ h0, show wrap64 (2 * (i : Int)) = ((2 * i : Nat) : Int) from w64n (by omega) (by omega), show wrap64 (((2 * i : Nat) : Int) + 1) = ((2 * i + 1 : Nat) : Int) from w64n (by omega) (by omega),
      show wrap64 ((i : Int) + 1) = ((i + 1 : Nat) : Int) from w64n (by omega) (by omega), tbl _ (by omega), tbl _ (by omega)]
    rw [if_pos (by omega), if_pos (by omega), if_pos (by omega), if_pos (by omega), if_pos (by omega), if_pos (by omega), if_pos (by omega), if_pos (by omega), if_pos (by omega), if_pos (by omega), if_pos (by omega)]
    clear hlen
    refine Eq.trans ?_ hn
    congr 1
    have ht : (ints (digs ((L s).take i))).length = 2 * i := by rw [ints_length, digs_length, List.length_take]; omega
    rw [ha, show 2 * (d + 1) = (2 * d + 1) + 1 from by omega, List.replicate_succ, List.replicate_succ, Int.toNat_natCast, Int.toNat_natCast, set_mid _ _ _ _ _ ht.symm]
    rw [show ints (digs ((L s).take i)) ++ ((hx (c.toNat / 16)).toNat : Int) :: 0 :: List.replicate (2 * d) 0 = (ints (digs ((L s).take i)) ++ [((hx (c.toNat / 16)).toNat : Int)]) ++ 0 :: List.replicate (2 * d) 0 from by simp,
      set_mid _ _ _ _ _ (by simp [ht])]
    rw [take_succ' _ _ hL 0, digs_append, ints_append, hc]
    simp [digs, ints]
theorem hexa_Digits_ev (s : ByteArray) (hs : s.size ≤ 1099511627776) : Ev (fun k => hexa_Digits.f k s) (⟨(digs (L s)).toArray⟩ : ByteArray) := by
  refine Ev.map (hexa_Digits_l0 s hs s.size 0 (List.replicate (2 * s.size) 0) (by omega) (by simp [digs, ints])) fun n hn => ?_
  unfold hexa_Digits.f
  rw [show wrap64 (2 * (s.size : Int)) = ((2 * s.size : Nat) : Int) from w64n (by omega) (by omega), if_pos (by omega), if_pos (by omega), Int.toNat_natCast]
  exact hn
theorem digit_f (v : Nat) (h : v < 16) : diptychref01_digit.f (v : Int) = some ((hx v).toNat : Int) := by
  rw [hx_lt v h]
  unfold diptychref01_digit.f
  by_cases c : v < 10
  · rw [if_pos (by omega), if_pos c]; congr 1; omega
  · rw [if_neg (by omega), if_neg c]; congr 1; omega
theorem tdiv16 (c : UInt8) : Int.tdiv (c.toNat : Int) 16 % 256 = ((c.toNat / 16 : Nat) : Int) := by have := UInt8.toNat_lt c; rw [Int.tdiv_eq_ediv_of_nonneg (by omega)]; omega
theorem tmod16 (c : UInt8) : Int.tmod (c.toNat : Int) 16 = ((c.toNat % 16 : Nat) : Int) := by rw [Int.tmod_eq_emod_of_nonneg (by omega)]; omega
theorem ref_Digits_l0 (s : ByteArray) (hs : s.size ≤ 1099511627776) : ∀ (d i : Nat) (acc : List Int), i + d = s.size → acc = ints (digs ((L s).take i)) →
    Ev (fun k => diptychref01_Digits.l0 k s acc (i : Int)) (⟨(digs (L s)).toArray⟩ : ByteArray) := by
  intro d
  induction d with
  | zero =>
    intro i acc hi ha
    refine Ev.one fun n => ?_
    simp only [diptychref01_Digits.l0]
    rw [if_neg (by omega), ha, List.take_of_length_le (by rw [← size_L]; omega)]
    simp [str_ints]
  | succ d ih =>
    intro i acc hi ha
    have hL : i < (L s).length := by rw [← size_L]; omega
    refine Ev.succ (ih (i + 1) (ints (digs ((L s).take (i + 1)))) (by omega) rfl) fun n hn => ?_
    have h0 := UInt8.toNat_lt ((L s).getD i 0)
    simp only [diptychref01_Digits.l0]
    rw [bt_L s i]
    generalize hc : (L s).getD i 0 = c at h0
    rw [tdiv16 c, tmod16 c, show wrap64 ((i : Int) + 1) = ((i + 1 : Nat) : Int) from w64n (by omega) (by omega), digit_f _ (by omega), digit_f _ (by omega), if_pos (by omega), if_pos (by omega)]
    simp only [Option.bind_some]
    have hl : acc.length = 2 * i := by rw [ha, ints_length, digs_length, List.length_take]; omega
    rw [if_pos (by simp; omega)]
    refine Eq.trans ?_ hn
    congr 1
    rw [ha, take_succ' _ _ hL 0, digs_append, ints_append, hc]
    simp [digs, ints]
theorem ref_Digits_ev (s : ByteArray) (hs : s.size ≤ 1099511627776) : Ev (fun k => diptychref01_Digits.f k s) (⟨(digs (L s)).toArray⟩ : ByteArray) :=
  ref_Digits_l0 s hs s.size 0 [] (by omega) (by simp [digs, ints])
abbrev dec (u : Nat) : List UInt8 := Lib.decDigits u
theorem dec_one {u : Nat} (h : u < 10) : dec u = [UInt8.ofNat (48 + u)] := by unfold dec; rw [Lib.decDigits, dif_pos h]
theorem dec_more {u : Nat} (h : ¬ u < 10) : dec u = dec (u / 10) ++ [UInt8.ofNat (48 + u % 10)] := by
  show Lib.decDigits u = _
  rw [Lib.decDigits, dif_neg h]
theorem ba_len (l : List UInt8) : (⟨l.toArray⟩ : ByteArray).size = l.length := by rw [size_L, mk_L]
theorem dec_byte (v : Nat) (h : v < 10) : strOfNums [(wrap64 (48 + (v : Int))) % 256] = ⟨[UInt8.ofNat (48 + v)].toArray⟩ := by
  have e : [(wrap64 (48 + (v : Int))) % 256] = ints [UInt8.ofNat (48 + v)] := by
    simp only [ints, List.map_cons, List.map_nil]
    rw [u8_ofNat _ (by omega), show wrap64 (48 + (v : Int)) = ((48 + v : Nat) : Int) from w64n (by omega) (by omega)]
    congr 1
    omega
  rw [e, str_ints]
theorem Decimal_l0 : ∀ (d u : Nat) (acc : ByteArray), u ≤ d → u ≤ 2147483647 → acc.size ≤ 1099511627776 - 2 * u → Ev (fun k => diptychref10_Decimal.l0 k (u : Int) acc) (⟨(dec u ++ L acc).toArray⟩ : ByteArray) := by
  intro d
  induction d with
  | zero =>
    intro u acc h0 h1 h2
    obtain rfl : u = 0 := by omega
    refine Ev.one fun n => ?_
    have hb := dec_byte 0 (by omega)
    show diptychref10_Decimal.l0 (n + 1) ((0 : Nat) : Int) acc = _
    rw [diptychref10_Decimal.l0, if_neg (by omega), Option.bind_some, hb, ba_len, if_pos (by simp only [List.length_cons, List.length_nil]; omega)]
    congr 1
    apply ext_L
    rw [append_L, mk_L, mk_L, dec_one (by omega)]
  | succ d ih =>
    intro u acc h0 h1 h2
    by_cases c : u < 10
    · refine Ev.one fun n => ?_
      have hb := dec_byte u c
      show diptychref10_Decimal.l0 (n + 1) (u : Int) acc = _
      rw [diptychref10_Decimal.l0, if_neg (by omega), Option.bind_some, hb, ba_len, if_pos (by simp only [List.length_cons, List.length_nil]; omega)]
      congr 1
      apply ext_L
      rw [append_L, mk_L, mk_L, dec_one c]
    · have hb := dec_byte (u % 10) (by omega)
      have hr := ih (u / 10) ((⟨[UInt8.ofNat (48 + u % 10)].toArray⟩ : ByteArray) ++ acc) (by omega) (by omega) (by rw [size_L, append_L, List.length_append, mk_L, ← size_L]; simp only [List.length_cons, List.length_nil]; omega)
      rw [append_L, mk_L, ← List.append_assoc, ← dec_more c] at hr
      refine Ev.succ hr fun n hn => ?_
      show diptychref10_Decimal.l0 (n + 1) (u : Int) acc = _
      rw [diptychref10_Decimal.l0, if_pos (by omega), Option.bind_some, Int.tmod_eq_emod_of_nonneg (by omega), Int.tdiv_eq_ediv_of_nonneg (by omega), show (u : Int) % 10 = ((u % 10 : Nat) : Int) from by omega, hb, ba_len, if_pos (by simp only [List.length_cons, List.length_nil]; omega), show wrap64 ((u : Int) / 10) = ((u / 10 : Nat) : Int) from w64n (by omega) (by omega)]
      exact hn
/-- a number's digits, as_ a text -/
def decT (u : Nat) : ByteArray := ⟨(dec u).toArray⟩
theorem Decimal_ev (u : Nat) (h : u ≤ 2147483647) : Ev (fun k => diptychref10_Decimal.f k (u : Int)) (decT u) := by
  have := Decimal_l0 u u (⟨#[]⟩ : ByteArray) (Nat.le_refl _) h (by show 0 ≤ _; omega)
  rw [show L (⟨#[]⟩ : ByteArray) = [] from rfl, List.append_nil] at this
  exact this
end Go.Proofs.YtfjhnnpdaggnbaaGreatDoor.U
end
/-! I2 -/
section
namespace Go.Proofs.YtfjhnnpdaggnbaaGreatDoor.Q
open Go.Joins Go.RowKit Go.Shelf Go.Proofs.YtfjhnnpdaggnbaaGreatDoor.P Go.Proofs.YtfjhnnpdaggnbaaGreatDoorW.PrintWords Go.Proofs.YtfjhnnpdaggnbaaGreatDoorW.PrintMore
set_option maxRecDepth 100000
theorem wordR_f (k : Int) : diptychref10_Word.f k = some (word k) := by
  unfold diptychref10_Word.f word
  repeat' split
  all_goals rfl
theorem WordR.calls (k : Int) (w0 : World) : Calls Tryz.prog 12 #[.int .i64 k] w0 fun e w' => e = .returned (.string (word k)) ∧ Low w0 w' :=
  (diptychref10_Word.calls k _ w0 (wordR_f k)).mono fun _ _ ⟨e, h⟩ => ⟨e, h.below⟩
def kindS (w : ByteArray) : Int := if w = word 1 then 1 else if w = word 2 then 2 else if w = word 3 then 3 else if w = word 4 then 4 else 0
def WL : List ByteArray := [(⟨#[]⟩ : ByteArray), (⟨#[98, 108, 111, 98]⟩ : ByteArray), (⟨#[116, 114, 101, 101]⟩ : ByteArray), (⟨#[99, 111, 109, 109, 105, 116]⟩ : ByteArray), (⟨#[116, 97, 103]⟩ : ByteArray)]
theorem toList_inj {a b : ByteArray} : a.toList = b.toList ↔ a = b := by
  rw [Lib.toList_data, Lib.toList_data]
  exact ⟨fun h => ByteArray.ext (Array.toList_inj.1 h), fun h => by rw [h]⟩
theorem idx_yes (k : Nat) (w : ByteArray) (i : Nat) (hi : i < 5) (h : w = WL.getD i ByteArray.empty) : slices_Index_string_string.l0 (k + 1) WL w 5 (i : Int) = some (i : Int) := by
  rw [slices_Index_string_string.l0, if_pos (by omega), if_pos (by omega), if_pos (by show (i : Int) < 5; omega), if_pos (by rw [toList_inj, h]; simp [rdOf])]
theorem idx_no (k : Nat) (w : ByteArray) (i : Nat) (hi : i < 5) (h : ¬ w = WL.getD i ByteArray.empty) : slices_Index_string_string.l0 (k + 1) WL w 5 (i : Int) = slices_Index_string_string.l0 k WL w 5 ((i + 1 : Nat) : Int) := by
  rw [slices_Index_string_string.l0, if_pos (by omega), if_pos (by omega), if_pos (by show (i : Int) < 5; omega), if_neg (by rw [toList_inj]; simpa [rdOf] using h)]
  congr 1
  unfold wrap64
  omega
theorem idx_end (k : Nat) (w : ByteArray) : slices_Index_string_string.l0 (k + 1) WL w 5 ((5 : Nat) : Int) = some (-1) := by
  rw [slices_Index_string_string.l0, if_neg (by omega)]
theorem kindL_of (w : ByteArray) (j : Int) (h : slices_Index_string_string.l0 7 WL w 5 ((0 : Nat) : Int) = some j) : ident_Kind.f 7 w = some (mx 0 j) := by
  unfold ident_Kind.f ident_words.f
  show (slices_Index_string_string.f 7 WL w).bind _ = _
  unfold slices_Index_string_string.f
  show (slices_Index_string_string.l0 7 WL w 5 ((0 : Nat) : Int)).bind _ = _
  rw [h]
  rfl
theorem kindL_f (w : ByteArray) : ident_Kind.f 7 w = some (kindS w) := by
  by_cases h0 : w = WL.getD 0 ByteArray.empty
  · rw [kindL_of w 0 (idx_yes 6 w 0 (by omega) h0), h0]
    decide +kernel
  by_cases h1 : w = WL.getD 1 ByteArray.empty
  · rw [kindL_of w 1 (by rw [idx_no 6 w 0 (by omega) h0]; exact idx_yes 5 w 1 (by omega) h1), h1]
    decide +kernel
  by_cases h2 : w = WL.getD 2 ByteArray.empty
  · rw [kindL_of w 2 (by rw [idx_no 6 w 0 (by omega) h0, idx_no 5 w 1 (by omega) h1]; exact idx_yes 4 w 2 (by omega) h2), h2]
    decide +kernel
  by_cases h3 : w = WL.getD 3 ByteArray.empty
  · rw [kindL_of w 3 (by rw [idx_no 6 w 0 (by omega) h0, idx_no 5 w 1 (by omega) h1, idx_no 4 w 2 (by omega) h2]; exact idx_yes 3 w 3 (by omega) h3), h3]
    decide +kernel
  by_cases h4 : w = WL.getD 4 ByteArray.empty
  · rw [kindL_of w 4 (by rw [idx_no 6 w 0 (by omega) h0, idx_no 5 w 1 (by omega) h1, idx_no 4 w 2 (by omega) h2, idx_no 3 w 3 (by omega) h3]; exact idx_yes 2 w 4 (by omega) h4), h4]
    decide +kernel
  rw [kindL_of w (-1) (by rw [idx_no 6 w 0 (by omega) h0, idx_no 5 w 1 (by omega) h1, idx_no 4 w 2 (by omega) h2, idx_no 3 w 3 (by omega) h3, idx_no 2 w 4 (by omega) h4]; exact idx_end 1 w)]
  unfold kindS
  rw [if_neg (show ¬ w = word 1 from h1), if_neg (show ¬ w = word 2 from h2), if_neg (show ¬ w = word 3 from h3), if_neg (show ¬ w = word 4 from h4)]
  rfl
theorem KindL.calls (w : ByteArray) (w0 : World) : Calls Tryz.prog 13 #[.string w] w0 fun e w' => e = .returned (.int .i64 (kindS w)) ∧ Low w0 w' := ident_Kind.calls 7 w _ w0 (kindL_f w)
theorem kr_yes (k : Nat) (w : ByteArray) (i : Nat) (hi : i < 5) (h : w = word i) : diptychref10_Kind.l0 (k + 1) w (i : Int) = some (i : Int) := by
  rw [diptychref10_Kind.l0, if_pos (by omega), wordR_f, Option.bind_some, if_pos (by rw [h])]
theorem kr_no (k : Nat) (w : ByteArray) (i : Nat) (hi : i < 5) (h : ¬ w = word i) : diptychref10_Kind.l0 (k + 1) w (i : Int) = diptychref10_Kind.l0 k w ((i + 1 : Nat) : Int) := by
  rw [diptychref10_Kind.l0, if_pos (by omega), wordR_f, Option.bind_some, if_neg (by rw [toList_inj]; exact fun e => h e.symm)]
  congr 1
  unfold wrap64
  omega
theorem kindR_f (w : ByteArray) : diptychref10_Kind.f 7 w = some (kindS w) := by
  unfold diptychref10_Kind.f kindS
  show diptychref10_Kind.l0 7 w ((1 : Nat) : Int) = _
  by_cases h1 : w = word 1
  · rw [if_pos h1]
    exact kr_yes 6 w 1 (by omega) h1
  rw [if_neg h1, kr_no 6 w 1 (by omega) h1]
  by_cases h2 : w = word 2
  · rw [if_pos h2]
    exact kr_yes 5 w 2 (by omega) h2
  rw [if_neg h2, kr_no 5 w 2 (by omega) h2]
  by_cases h3 : w = word 3
  · rw [if_pos h3]
    exact kr_yes 4 w 3 (by omega) h3
  rw [if_neg h3, kr_no 4 w 3 (by omega) h3]
  by_cases h4 : w = word 4
  · rw [if_pos h4]
    exact kr_yes 3 w 4 (by omega) h4
  rw [if_neg h4, kr_no 3 w 4 (by omega) h4, diptychref10_Kind.l0, if_neg (by omega)]
theorem KindR.calls (w : ByteArray) (w0 : World) : Calls Tryz.prog 14 #[.string w] w0 fun e w' => e = .returned (.int .i64 (kindS w)) ∧ Low w0 w' :=
  (diptychref10_Kind.calls 7 w _ w0 (kindR_f w)).mono fun _ _ ⟨e, h⟩ => ⟨e, h.below⟩
theorem DecR.calls (n : Nat) (h : n ≤ 2147483647) (w0 : World) : Calls Tryz.prog 35 #[.int .i64 (n : Int)] w0 fun e w' => e = .returned (.string (itoaS n)) ∧ Low w0 w' := by
  obtain ⟨K, hK⟩ := U.Decimal_ev n h
  have e : itoaS n = U.decT n := by
    unfold itoaS U.decT
    rw [Lib.itoa_nonneg]
  rw [e]
  exact diptychref10_Decimal.calls K n _ w0 (hK K (Nat.le_refl _))
def digS (s : ByteArray) : ByteArray := ⟨(U.digs (U.L s)).toArray⟩
theorem DigR.calls (s : ByteArray) (h : s.size ≤ 1000) (w0 : World) : Calls Tryz.prog 20 #[.string s] w0 fun e w' => e = .returned (.string (digS s)) ∧ Low w0 w' := by
  obtain ⟨K, hK⟩ := U.ref_Digits_ev s (by omega)
  exact diptychref01_Digits.calls K s _ w0 (hK K (Nat.le_refl _))
theorem DigL.calls (s : ByteArray) (h : s.size ≤ 1000) (w0 : World) : Calls Tryz.prog 19 #[.agg #[.string s]] w0 fun e w' => e = .returned (.string (digS s)) ∧ Low w0 w' := by
  obtain ⟨K, hK⟩ := U.hexa_Digits_ev s (by omega)
  exact DigitsN.calls K s _ (hK K (Nat.le_refl _)) w0
theorem idS_err (s k : Int) (c : ByteArray) : (idS s k c).2 = 0 ∨ ((idS s k c).1 = ⟨#[]⟩ ∧ ¬ (idS s k c).2 = 0) := by
  unfold idS
  repeat' split
  all_goals first | exact .inl rfl | exact .inr ⟨rfl, (by decide)⟩
theorem idS_len (s k n : Int) (hs : (s = 2 ∧ n = 32) ∨ (s = 1 ∧ n = 20)) (c : ByteArray) (h : (idS s k c).2 = 0) : ((idS s k c).1.size : Int) = n := by
  unfold idS at h ⊢
  split at h
  · exact absurd h (by decide)
  rename_i h1
  rw [if_neg h1]
  split at h
  · exact absurd h (by decide)
  rename_i h2
  rw [if_neg h2]
  split at h
  · exact absurd h (by decide)
  rename_i h3
  rw [if_neg h3]
  rcases hs with ⟨rfl, rfl⟩ | ⟨rfl, rfl⟩
  · rw [if_pos (by decide)]
    show ((sumL2 _).size : Int) = 32
    rw [sumL2_size]
    rfl
  · rw [if_neg (by decide)] at h ⊢
    split at h
    · exact absurd h (by decide)
    rename_i h4
    rw [if_neg h4]
    show ((sumL _).size : Int) = 20
    rw [sumL, strOfNums_size, outR_len]
    rfl
theorem ofN_is (s k n : Int) (hs : (s = 2 ∧ n = 32) ∨ (s = 1 ∧ n = 20)) (c : ByteArray) : ofN s k n c = (idS s k c).1 ∧ ofE s k n c = (idS s k c).2 := by
  unfold ofN ofE
  rcases idS_err s k c with h | ⟨h1, h2⟩
  · rw [decide_eq_false (not_not_intro h)]
    unfold mkN mkE
    rw [decide_eq_false (not_not_intro (idS_len s k n hs c h))]
    exact ⟨rfl, h.symm⟩
  · rw [decide_eq_true h2]
    exact ⟨h1.symm, rfl⟩
/-- the document's name -/
noncomputable def markedB (x : ByteArray) : Bool := mblkR x ((fillR x).size / 64)
theorem marked_is (x : ByteArray) : marked x = markedB x := by
  unfold marked markedB
  rw [mblk_eq x _ (Nat.le_refl _), fill_eq]
end Go.Proofs.YtfjhnnpdaggnbaaGreatDoor.Q
end
/-! G8 -/
section
namespace Go.Proofs.YtfjhnnpdaggnbaaGreatDoor.Q
open Go.Proofs.YtfjhnnpdaggnbaaGreatDoorW.PrintWords (bytesOf bytesOf_length)
open Go.RowKit Go.Proofs.YtfjhnnpdaggnbaaGreatDoor.P
set_option linter.unusedVariables false
set_option linter.unusedSimpArgs false
set_option maxRecDepth 100000
set_option maxHeartbeats 4000000
attribute [local irreducible] wpList wpQuiet qch Code.wp Oper.quiet Act.put At Region.wanted yielded
theorem ScanRL.calls (s : ByteArray) (hs : s.size ≤ 140737488350000) (w0 : World) : Calls Tryz.prog 28 #[.string s] w0 fun e w' => e = .returned (.tuple #[.string (sumL s), .bool (marked s)]) ∧ Low w0 w' := by
  rw [sum_eq, marked_is]
  exact ScanR.calls s hs w0
theorem SumRL3.calls (s : ByteArray) (hs : s.size ≤ 140737488350000) (w0 : World) : Calls Tryz.prog 27 #[.string s] w0 fun e w' => e = .returned (.string (sumL2 s)) ∧ Low w0 w' := by
  rw [sum2_eq]
  exact SumR3.calls s hs w0
theorem nsize_bad {s : Int} (h1 : ¬ s = 1) (h2 : ¬ s = 2) : decide (nsize s = 0) = true := by
  unfold nsize
  rw [if_neg h1, if_neg h2]
  rfl
theorem OfWI.calls (kind : Int) (c : ByteArray) (hc : c.size ≤ 140737488340000) (w0 : World) (hG : Gd w0) : Calls Tryz.prog 7 #[.int .i64 kind, .string c] w0 fun e w' => e = .returned (.tuple #[.agg #[.string (idS 2 kind c).1], .int .i64 (idS 2 kind c).2]) ∧ Low w0 w' := by
  have q := OfW.calls kind c hc w0 hG
  rw [(ofN_is 2 kind 32 (.inl ⟨rfl, rfl⟩) c).1, (ofN_is 2 kind 32 (.inl ⟨rfl, rfl⟩) c).2] at q
  exact q
theorem OfNI.calls (kind : Int) (c : ByteArray) (hc : c.size ≤ 140737488340000) (w0 : World) (hG : Gd w0) : Calls Tryz.prog 8 #[.int .i64 kind, .string c] w0 fun e w' => e = .returned (.tuple #[.agg #[.string (idS 1 kind c).1], .int .i64 (idS 1 kind c).2]) ∧ Low w0 w' := by
  have q := OfN.calls kind c hc w0 hG
  rw [(ofN_is 1 kind 20 (.inr ⟨rfl, rfl⟩) c).1, (ofN_is 1 kind 20 (.inr ⟨rfl, rfl⟩) c).2] at q
  exact q
theorem idS_small (s k : Int) (c : ByteArray) : (idS s k c).1.size ≤ 1000 := by
  unfold idS
  repeat' split
  all_goals first | decide | (rw [sumL2_size]; decide) | (rw [sumL, strOfNums_size, outR_len]; decide)
theorem RowR.calls (kind : Int) (c : ByteArray) (hc : c.size ≤ 2147483647) (w0 : World) : Calls Tryz.prog 16 #[.int .i64 kind, .string c] w0 fun e w' => e = .returned (.string (row kind c)) ∧ Low w0 w' := by
 refine c_fun (R := _) Tryz.func16 rfl 18 rfl (Nat.le_of_ble_eq_true rfl) ?_
 intro a z hA
 have s0 := hA 0 _ rfl
 have s1 := hA 1 _ rfl
 clear hA
 refine c_seq (c_region ?_)
 refine l_q rfl (q_assign _ _ rfl rfl ?_)
 refine l_end (e_fresh z.put ?_)
 intro a1 z1 m1
 have s0_1 := m1 _ _ (s0.n1)
 have s1_1 := m1 _ _ (s1.n1)
 clear m1
 refine e_then (c_seq (c_seq (c_region ?_)))
 refine l_q rfl (q_move _ _ rfl s0_1.ev ?_)
 refine l_call (fun v w' => v = .string (word kind) ∧ Low w0 w') rfl rfl rfl Tryz.func12 rfl (args1 rfl (At.hit z1 rfl).ev) ((WordR.calls kind _).mono fun _ _ ⟨e, k⟩ => ⟨_, e, rfl, k⟩) ?_
 rintro _ w2 ⟨rfl, h2⟩
 refine l_q rfl (q_streq ((word kind).toList == (⟨#[]⟩ : ByteArray).toList) rfl (At.hit z1.put rfl).ev rfl rfl ?_)
 refine l_end (e_fresh z1.p3 ?_)
 intro a3 z3 m3
 have s0_3 := m3 _ _ (s0_1.n3)
 have s1_3 := m3 _ _ (s1_1.n3)
 have s7_3 := m3 _ _ (At.hit z1.p2 rfl)
 have low3 := h2
 clear m3
 refine e_then ?_
 cases hc4 : ((word kind).toList == (⟨#[]⟩ : ByteArray).toList) with
 | true =>
  have hs4 := s7_3.same (congrArg Value.bool hc4)
  refine c_true hs4 ?_
  refine c_seq (c_region ?_)
  refine l_q rfl (q_assign _ _ rfl rfl ?_)
  refine l_end (e_fresh z3.put ?_)
  intro a5 z5 m5
  have s4_5 := m5 _ _ (At.hit z3 rfl)
  clear m5
  refine e_then (wp_ret (ret_then (r_tmp rfl z5.defers s4_5 ?_)))
  exact ⟨by unfold row; rw [hc4]; rfl, low3⟩
 | false =>
  have hs4 := s7_3.same (congrArg Value.bool hc4)
  refine c_false hs4 ?_
  refine wp_skip (e_then (c_seq (c_region ?_)))
  refine l_q rfl (q_move _ _ rfl s0_3.ev ?_)
  refine l_call (fun v w' => v = .string (word kind) ∧ Low w2 w') rfl rfl rfl Tryz.func12 rfl (args1 rfl (At.hit z3 rfl).ev) ((WordR.calls kind _).mono fun _ _ ⟨e, k⟩ => ⟨_, e, rfl, k⟩) ?_
  rintro _ w6 ⟨rfl, h6⟩
  refine l_q rfl (q_cat rfl (At.hit z3.put rfl).ev rfl (by have hw := word_size kind; have hi := itoaS_size c.size (by omega); simp only [ByteArray.size_append, sz_sp, sz_z]; omega) ?_)
  refine l_q rfl (q_move _ _ rfl (s1_3.n3).ev ?_)
  refine l_q rfl (q_len rfl rfl Tryz.underlying9 (At.hit z3.p3 rfl).ev ?_)
  refine l_call (fun v w' => v = .string (itoaS c.size) ∧ Low w6 w') rfl rfl rfl Tryz.func35 rfl (args1 rfl (At.hit z3.p4 rfl).ev) ((DecR.calls c.size (by omega) _).mono fun _ _ ⟨e, k⟩ => ⟨_, e, rfl, k⟩) ?_
  rintro _ w7 ⟨rfl, h7⟩
  refine l_q rfl (q_cat rfl ((At.hit z3.p2 rfl).n3).ev (At.hit z3.p5 rfl).ev (by have hw := word_size kind; have hi := itoaS_size c.size (by omega); simp only [ByteArray.size_append, sz_sp, sz_z]; omega) ?_)
  refine l_q rfl (q_cat rfl (At.hit z3.p6 rfl).ev rfl (by have hw := word_size kind; have hi := itoaS_size c.size (by omega); simp only [ByteArray.size_append, sz_sp, sz_z]; omega) ?_)
  refine l_fresh z3.p8 ?_
  intro a8 z8 m8
  have s1_8 := m8 _ _ (s1_3.n8)
  have s15_8 := m8 _ _ (At.hit z3.p7 rfl)
  clear m8
  refine l_q rfl (q_move _ _ rfl s1_8.ev ?_)
  refine l_q rfl (q_cat rfl (s15_8.n1).ev (At.hit z8 rfl).ev (by have hw := word_size kind; have hi := itoaS_size c.size (by omega); simp only [ByteArray.size_append, sz_sp, sz_z]; omega) ?_)
  refine l_q rfl (q_assign _ _ rfl (At.hit z8.put rfl).ev ?_)
  refine l_end (e_fresh z8.p3 ?_)
  intro a9 z9 m9
  have s4_9 := m9 _ _ (At.hit z8.p2 rfl)
  have low9 := ((low3.trans h6).trans h7)
  clear m9
  refine e_then (wp_ret (r_tmp rfl z9.defers s4_9 ?_))
  exact ⟨by unfold row; rw [hc4]; rfl, low9⟩
theorem IdR_1.calls (kind : Int) (c : ByteArray) (hc : c.size ≤ 2147483647) (w0 : World) : Calls Tryz.prog 6 #[.int .i64 1, .int .i64 kind, .string c] w0 fun e w' => e = .returned (.tuple #[.string (idS 1 kind c).1, .int .i64 (idS 1 kind c).2]) ∧ Low w0 w' := by
 refine c_fun (R := _) Tryz.func6 rfl 37 rfl (Nat.le_of_ble_eq_true rfl) ?_
 intro a z hA
 have s0 := hA 0 _ rfl
 have s1 := hA 1 _ rfl
 have s2 := hA 2 _ rfl
 clear hA
 refine c_seq (c_region ?_)
 refine l_q rfl (q_assign _ _ rfl rfl ?_)
 refine l_q rfl (q_assign _ _ rfl rfl ?_)
 refine l_end (e_fresh z.p2 ?_)
 intro a1 z1 m1
 have s0_1 := m1 _ _ (s0.n2)
 have s1_1 := m1 _ _ (s1.n2)
 have s2_1 := m1 _ _ (s2.n2)
 clear m1
 refine e_then (c_seq (c_seq (c_region ?_)))
 refine l_q rfl (q_move _ _ rfl s1_1.ev ?_)
 refine l_call (fun v w' => v = .string (word kind) ∧ Low w0 w') rfl rfl rfl Tryz.func12 rfl (args1 rfl (At.hit z1 rfl).ev) ((WordR.calls kind _).mono fun _ _ ⟨e, k⟩ => ⟨_, e, rfl, k⟩) ?_
 rintro _ w2 ⟨rfl, h2⟩
 refine l_q rfl (q_streq ((word kind).toList == (⟨#[]⟩ : ByteArray).toList) rfl (At.hit z1.put rfl).ev rfl rfl ?_)
 refine l_end (e_fresh z1.p3 ?_)
 intro a3 z3 m3
 have s0_3 := m3 _ _ (s0_1.n3)
 have s1_3 := m3 _ _ (s1_1.n3)
 have s2_3 := m3 _ _ (s2_1.n3)
 have s12_3 := m3 _ _ (At.hit z1.p2 rfl)
 have low3 := h2
 clear m3
 refine e_then ?_
 cases hc4 : ((word kind).toList == (⟨#[]⟩ : ByteArray).toList) with
 | true =>
  have hs4 := s12_3.same (congrArg Value.bool hc4)
  refine c_true hs4 ?_
  refine c_seq (c_region ?_)
  refine l_q rfl (q_assign _ _ rfl rfl ?_)
  refine l_q rfl (q_assign _ _ rfl rfl ?_)
  refine l_end (e_fresh z3.p2 ?_)
  intro a5 z5 m5
  have s6_5 := m5 _ _ ((At.hit z3 rfl).n1)
  have s7_5 := m5 _ _ (At.hit z3.put rfl)
  clear m5
  refine e_then (wp_ret (ret_then (r_two rfl z5.defers s6_5 s7_5 ?_)))
  exact ⟨by unfold idS; rw [hc4]; rfl, low3⟩
 | false =>
  have hs4 := s12_3.same (congrArg Value.bool hc4)
  refine c_false hs4 ?_
  refine wp_skip (e_then (c_seq (c_seq (c_region ?_))))
  refine l_q rfl (q_move _ _ rfl s0_3.ev ?_)
  refine l_q rfl (q_neq false rfl (At.hit z3 rfl).ev rfl (decide_eq_false (by omega)) ?_)
  refine l_q rfl (q_move _ _ rfl (At.hit z3.put rfl).ev ?_)
  refine l_skip (wanted_is (j := 2) (d := 15) (b := false) rfl rfl (At.hit z3.p2 rfl) rfl) ?_
  refine l_skip (wanted_is (j := 2) (d := 15) (b := false) rfl rfl ((At.hit z3.p2 rfl).n1) rfl) ?_
  refine l_q rfl (q_pick (b := false) (.bool false) rfl ((At.hit z3.p2 rfl).n2).ev rfl ?_)
  refine l_end (e_fresh z3.p6 ?_)
  intro a6 z6 m6
  have s0_6 := m6 _ _ (s0_3.n6)
  have s1_6 := m6 _ _ (s1_3.n6)
  have s2_6 := m6 _ _ (s2_3.n6)
  have s18_6 := m6 _ _ (At.hit z3.p5 rfl)
  clear m6
  refine e_then (c_false s18_6 ?_)
  refine wp_skip (e_then (c_seq (c_seq (c_region ?_))))
  refine l_q rfl (q_move _ _ rfl s2_6.ev ?_)
  refine l_q rfl (q_len rfl rfl Tryz.underlying9 (At.hit z6 rfl).ev ?_)
  refine l_q rfl (q_gtr _ rfl (At.hit z6.put rfl).ev rfl rfl ?_)
  refine l_end (e_fresh z6.p3 ?_)
  intro a7 z7 m7
  have s0_7 := m7 _ _ (s0_6.n3)
  have s1_7 := m7 _ _ (s1_6.n3)
  have s2_7 := m7 _ _ (s2_6.n3)
  have s21_7 := m7 _ _ (At.hit z6.p2 rfl)
  clear m7
  refine e_then ?_
  cases hc8 : decide (((c.size : Nat) : Int) > 65536) with
  | true =>
   have hs8 := s21_7.same (congrArg Value.bool hc8)
   refine c_true hs8 ?_
   refine c_seq (c_region ?_)
   refine l_q rfl (q_assign _ _ rfl rfl ?_)
   refine l_q rfl (q_assign _ _ rfl rfl ?_)
   refine l_end (e_fresh z7.p2 ?_)
   intro a9 z9 m9
   have s6_9 := m9 _ _ ((At.hit z7 rfl).n1)
   have s7_9 := m9 _ _ (At.hit z7.put rfl)
   clear m9
   refine e_then (wp_ret (ret_then (r_two rfl z9.defers s6_9 s7_9 ?_)))
   exact ⟨by unfold idS; rw [hc4, hc8]; rfl, low3⟩
  | false =>
   have hs8 := s21_7.same (congrArg Value.bool hc8)
   refine c_false hs8 ?_
   refine wp_skip (e_then (c_seq (c_seq (c_region ?_))))
   refine l_q rfl (q_move _ _ rfl s0_7.ev ?_)
   refine l_q rfl (q_eql false rfl (At.hit z7 rfl).ev rfl (decide_eq_false (by omega)) ?_)
   refine l_end (e_fresh z7.p2 ?_)
   intro a10 z10 m10
   have s1_10 := m10 _ _ (s1_7.n2)
   have s2_10 := m10 _ _ (s2_7.n2)
   have s23_10 := m10 _ _ (At.hit z7.put rfl)
   clear m10
   refine e_then (c_false s23_10 ?_)
   refine wp_skip (e_then (c_seq (c_region ?_)))
   refine l_q rfl (q_move _ _ rfl s1_10.ev ?_)
   refine l_q rfl (q_move _ _ rfl (s2_10.n1).ev ?_)
   refine l_call (fun v w' => v = .string (row kind c) ∧ Low w2 w') rfl rfl rfl Tryz.func16 rfl (args2 rfl ((At.hit z10 rfl).n1).ev (At.hit z10.put rfl).ev) ((RowR.calls kind c hc _).mono fun _ _ ⟨e, k⟩ => ⟨_, e, rfl, k⟩) ?_
   rintro _ w11 ⟨rfl, h11⟩
   refine l_call (fun v w' => v = .tuple #[.string (sumL (row kind c)), .bool (marked (row kind c))] ∧ Low w11 w') rfl rfl rfl Tryz.func28 rfl (args1 rfl (At.hit z10.p2 rfl).ev) ((ScanRL.calls (row kind c) (Nat.le_trans (row_size kind c (by omega)) (by omega)) _).mono fun _ _ ⟨e, k⟩ => ⟨_, e, rfl, k⟩) ?_
   rintro _ w12 ⟨rfl, h12⟩
   refine l_q rfl (q_move _ _ rfl (At.hit z10.p3 rfl).ev ?_)
   refine l_q rfl (q_extract rfl (At.hit z10.p4 rfl).ev rfl ?_)
   refine l_q rfl (q_extract rfl ((At.hit z10.p4 rfl).n1).ev rfl ?_)
   refine l_q rfl (q_assign _ _ rfl ((At.hit z10.p5 rfl).n1).ev ?_)
   refine l_fresh z10.p8 ?_
   intro a13 z13 m13
   have s8_13 := m13 _ _ (At.hit z10.p7 rfl)
   have s34_13 := m13 _ _ ((At.hit z10.p6 rfl).n1)
   clear m13
   refine l_q rfl (q_assign _ _ rfl s34_13.ev ?_)
   refine l_end (e_fresh z13.put ?_)
   intro a14 z14 m14
   have s8_14 := m14 _ _ (s8_13.n1)
   have s9_14 := m14 _ _ (At.hit z13 rfl)
   have low14 := ((low3.trans h11).trans h12)
   clear m14
   refine e_then (c_seq (c_seq (c_region ?_)))
   refine l_q rfl (q_move _ _ rfl s9_14.ev ?_)
   refine l_end (e_fresh z14.put ?_)
   intro a15 z15 m15
   have s8_15 := m15 _ _ (s8_14.n1)
   have s35_15 := m15 _ _ (At.hit z14 rfl)
   clear m15
   refine e_then ?_
   cases hc16 : marked (row kind c) with
   | true =>
    have hs16 := s35_15.same (congrArg Value.bool hc16)
    refine c_true hs16 ?_
    refine c_seq (c_region ?_)
    refine l_q rfl (q_assign _ _ rfl rfl ?_)
    refine l_q rfl (q_assign _ _ rfl rfl ?_)
    refine l_end (e_fresh z15.p2 ?_)
    intro a17 z17 m17
    have s6_17 := m17 _ _ ((At.hit z15 rfl).n1)
    have s7_17 := m17 _ _ (At.hit z15.put rfl)
    clear m17
    refine e_then (wp_ret (ret_then (r_two rfl z17.defers s6_17 s7_17 ?_)))
    exact ⟨by unfold idS; rw [hc4, hc8, hc16]; rfl, low14⟩
   | false =>
    have hs16 := s35_15.same (congrArg Value.bool hc16)
    refine c_false hs16 ?_
    refine wp_skip (e_then (c_seq (c_region ?_)))
    refine l_q rfl (q_move _ _ rfl s8_15.ev ?_)
    refine l_q rfl (q_assign _ _ rfl (At.hit z15 rfl).ev ?_)
    refine l_q rfl (q_assign _ _ rfl rfl ?_)
    refine l_end (e_fresh z15.p3 ?_)
    intro a18 z18 m18
    have s6_18 := m18 _ _ ((At.hit z15.put rfl).n1)
    have s7_18 := m18 _ _ (At.hit z15.p2 rfl)
    clear m18
    refine e_then (wp_ret (r_two rfl z18.defers s6_18 s7_18 ?_))
    exact ⟨by unfold idS; rw [hc4, hc8, hc16]; rfl, low14⟩
theorem IdR_2.calls (kind : Int) (c : ByteArray) (hc : c.size ≤ 2147483647) (w0 : World) : Calls Tryz.prog 6 #[.int .i64 2, .int .i64 kind, .string c] w0 fun e w' => e = .returned (.tuple #[.string (idS 2 kind c).1, .int .i64 (idS 2 kind c).2]) ∧ Low w0 w' := by
 refine c_fun (R := _) Tryz.func6 rfl 37 rfl (Nat.le_of_ble_eq_true rfl) ?_
 intro a z hA
 have s0 := hA 0 _ rfl
 have s1 := hA 1 _ rfl
 have s2 := hA 2 _ rfl
 clear hA
 refine c_seq (c_region ?_)
 refine l_q rfl (q_assign _ _ rfl rfl ?_)
 refine l_q rfl (q_assign _ _ rfl rfl ?_)
 refine l_end (e_fresh z.p2 ?_)
 intro a1 z1 m1
 have s0_1 := m1 _ _ (s0.n2)
 have s1_1 := m1 _ _ (s1.n2)
 have s2_1 := m1 _ _ (s2.n2)
 clear m1
 refine e_then (c_seq (c_seq (c_region ?_)))
 refine l_q rfl (q_move _ _ rfl s1_1.ev ?_)
 refine l_call (fun v w' => v = .string (word kind) ∧ Low w0 w') rfl rfl rfl Tryz.func12 rfl (args1 rfl (At.hit z1 rfl).ev) ((WordR.calls kind _).mono fun _ _ ⟨e, k⟩ => ⟨_, e, rfl, k⟩) ?_
 rintro _ w2 ⟨rfl, h2⟩
 refine l_q rfl (q_streq ((word kind).toList == (⟨#[]⟩ : ByteArray).toList) rfl (At.hit z1.put rfl).ev rfl rfl ?_)
 refine l_end (e_fresh z1.p3 ?_)
 intro a3 z3 m3
 have s0_3 := m3 _ _ (s0_1.n3)
 have s1_3 := m3 _ _ (s1_1.n3)
 have s2_3 := m3 _ _ (s2_1.n3)
 have s12_3 := m3 _ _ (At.hit z1.p2 rfl)
 have low3 := h2
 clear m3
 refine e_then ?_
 cases hc4 : ((word kind).toList == (⟨#[]⟩ : ByteArray).toList) with
 | true =>
  have hs4 := s12_3.same (congrArg Value.bool hc4)
  refine c_true hs4 ?_
  refine c_seq (c_region ?_)
  refine l_q rfl (q_assign _ _ rfl rfl ?_)
  refine l_q rfl (q_assign _ _ rfl rfl ?_)
  refine l_end (e_fresh z3.p2 ?_)
  intro a5 z5 m5
  have s6_5 := m5 _ _ ((At.hit z3 rfl).n1)
  have s7_5 := m5 _ _ (At.hit z3.put rfl)
  clear m5
  refine e_then (wp_ret (ret_then (r_two rfl z5.defers s6_5 s7_5 ?_)))
  exact ⟨by unfold idS; rw [hc4]; rfl, low3⟩
 | false =>
  have hs4 := s12_3.same (congrArg Value.bool hc4)
  refine c_false hs4 ?_
  refine wp_skip (e_then (c_seq (c_seq (c_region ?_))))
  refine l_q rfl (q_move _ _ rfl s0_3.ev ?_)
  refine l_q rfl (q_neq true rfl (At.hit z3 rfl).ev rfl (decide_eq_true (by omega)) ?_)
  refine l_q rfl (q_move _ _ rfl (At.hit z3.put rfl).ev ?_)
  refine l_qg (wanted_is (j := 2) (d := 15) (b := true) rfl rfl (At.hit z3.p2 rfl) rfl) (q_move _ _ rfl (s0_3.n3).ev ?_)
  refine l_qg (wanted_is (j := 2) (d := 15) (b := true) rfl rfl ((At.hit z3.p2 rfl).n1) rfl) (q_neq false rfl (At.hit z3.p3 rfl).ev rfl (decide_eq_false (by omega)) ?_)
  refine l_q rfl (q_pick (b := true) (.bool false) rfl ((At.hit z3.p2 rfl).n2).ev (At.hit z3.p4 rfl).ev ?_)
  refine l_end (e_fresh z3.p6 ?_)
  intro a6 z6 m6
  have s0_6 := m6 _ _ (s0_3.n6)
  have s1_6 := m6 _ _ (s1_3.n6)
  have s2_6 := m6 _ _ (s2_3.n6)
  have s18_6 := m6 _ _ (At.hit z3.p5 rfl)
  clear m6
  refine e_then (c_false s18_6 ?_)
  refine wp_skip (e_then (c_seq (c_seq (c_region ?_))))
  refine l_q rfl (q_move _ _ rfl s2_6.ev ?_)
  refine l_q rfl (q_len rfl rfl Tryz.underlying9 (At.hit z6 rfl).ev ?_)
  refine l_q rfl (q_gtr _ rfl (At.hit z6.put rfl).ev rfl rfl ?_)
  refine l_end (e_fresh z6.p3 ?_)
  intro a7 z7 m7
  have s0_7 := m7 _ _ (s0_6.n3)
  have s1_7 := m7 _ _ (s1_6.n3)
  have s2_7 := m7 _ _ (s2_6.n3)
  have s21_7 := m7 _ _ (At.hit z6.p2 rfl)
  clear m7
  refine e_then ?_
  cases hc8 : decide (((c.size : Nat) : Int) > 65536) with
  | true =>
   have hs8 := s21_7.same (congrArg Value.bool hc8)
   refine c_true hs8 ?_
   refine c_seq (c_region ?_)
   refine l_q rfl (q_assign _ _ rfl rfl ?_)
   refine l_q rfl (q_assign _ _ rfl rfl ?_)
   refine l_end (e_fresh z7.p2 ?_)
   intro a9 z9 m9
   have s6_9 := m9 _ _ ((At.hit z7 rfl).n1)
   have s7_9 := m9 _ _ (At.hit z7.put rfl)
   clear m9
   refine e_then (wp_ret (ret_then (r_two rfl z9.defers s6_9 s7_9 ?_)))
   exact ⟨by unfold idS; rw [hc4, hc8]; rfl, low3⟩
  | false =>
   have hs8 := s21_7.same (congrArg Value.bool hc8)
   refine c_false hs8 ?_
   refine wp_skip (e_then (c_seq (c_seq (c_region ?_))))
   refine l_q rfl (q_move _ _ rfl s0_7.ev ?_)
   refine l_q rfl (q_eql true rfl (At.hit z7 rfl).ev rfl (decide_eq_true (by omega)) ?_)
   refine l_end (e_fresh z7.p2 ?_)
   intro a10 z10 m10
   have s1_10 := m10 _ _ (s1_7.n2)
   have s2_10 := m10 _ _ (s2_7.n2)
   have s23_10 := m10 _ _ (At.hit z7.put rfl)
   clear m10
   refine e_then (c_true s23_10 ?_)
   refine c_seq (c_region ?_)
   refine l_q rfl (q_move _ _ rfl s1_10.ev ?_)
   refine l_q rfl (q_move _ _ rfl (s2_10.n1).ev ?_)
   refine l_call (fun v w' => v = .string (row kind c) ∧ Low w2 w') rfl rfl rfl Tryz.func16 rfl (args2 rfl ((At.hit z10 rfl).n1).ev (At.hit z10.put rfl).ev) ((RowR.calls kind c hc _).mono fun _ _ ⟨e, k⟩ => ⟨_, e, rfl, k⟩) ?_
   rintro _ w11 ⟨rfl, h11⟩
   refine l_call (fun v w' => v = .string (sumL2 (row kind c)) ∧ Low w11 w') rfl rfl rfl Tryz.func27 rfl (args1 rfl (At.hit z10.p2 rfl).ev) ((SumRL3.calls (row kind c) (Nat.le_trans (row_size kind c (by omega)) (by omega)) _).mono fun _ _ ⟨e, k⟩ => ⟨_, e, rfl, k⟩) ?_
   rintro _ w12 ⟨rfl, h12⟩
   refine l_q rfl (q_assign _ _ rfl (At.hit z10.p3 rfl).ev ?_)
   refine l_q rfl (q_assign _ _ rfl rfl ?_)
   refine l_end (e_fresh z10.p6 ?_)
   intro a13 z13 m13
   have s6_13 := m13 _ _ ((At.hit z10.p4 rfl).n1)
   have s7_13 := m13 _ _ (At.hit z10.p5 rfl)
   have low13 := ((low3.trans h11).trans h12)
   clear m13
   refine e_then (wp_ret (ret_then (r_two rfl z13.defers s6_13 s7_13 ?_)))
   exact ⟨by unfold idS; rw [hc4, hc8]; rfl, low13⟩
theorem IdR_x.calls (space : Int) (hx1 : ¬ space = 1) (hx2 : ¬ space = 2) (kind : Int) (c : ByteArray) (hc : c.size ≤ 2147483647) (w0 : World) : Calls Tryz.prog 6 #[.int .i64 space, .int .i64 kind, .string c] w0 fun e w' => e = .returned (.tuple #[.string (idS space kind c).1, .int .i64 (idS space kind c).2]) ∧ Low w0 w' := by
 refine c_fun (R := _) Tryz.func6 rfl 37 rfl (Nat.le_of_ble_eq_true rfl) ?_
 intro a z hA
 have s0 := hA 0 _ rfl
 have s1 := hA 1 _ rfl
 have s2 := hA 2 _ rfl
 clear hA
 refine c_seq (c_region ?_)
 refine l_q rfl (q_assign _ _ rfl rfl ?_)
 refine l_q rfl (q_assign _ _ rfl rfl ?_)
 refine l_end (e_fresh z.p2 ?_)
 intro a1 z1 m1
 have s0_1 := m1 _ _ (s0.n2)
 have s1_1 := m1 _ _ (s1.n2)
 have s2_1 := m1 _ _ (s2.n2)
 clear m1
 refine e_then (c_seq (c_seq (c_region ?_)))
 refine l_q rfl (q_move _ _ rfl s1_1.ev ?_)
 refine l_call (fun v w' => v = .string (word kind) ∧ Low w0 w') rfl rfl rfl Tryz.func12 rfl (args1 rfl (At.hit z1 rfl).ev) ((WordR.calls kind _).mono fun _ _ ⟨e, k⟩ => ⟨_, e, rfl, k⟩) ?_
 rintro _ w2 ⟨rfl, h2⟩
 refine l_q rfl (q_streq ((word kind).toList == (⟨#[]⟩ : ByteArray).toList) rfl (At.hit z1.put rfl).ev rfl rfl ?_)
 refine l_end (e_fresh z1.p3 ?_)
 intro a3 z3 m3
 have s0_3 := m3 _ _ (s0_1.n3)
 have s1_3 := m3 _ _ (s1_1.n3)
 have s2_3 := m3 _ _ (s2_1.n3)
 have s12_3 := m3 _ _ (At.hit z1.p2 rfl)
 have low3 := h2
 clear m3
 refine e_then ?_
 cases hc4 : ((word kind).toList == (⟨#[]⟩ : ByteArray).toList) with
 | true =>
  have hs4 := s12_3.same (congrArg Value.bool hc4)
  refine c_true hs4 ?_
  refine c_seq (c_region ?_)
  refine l_q rfl (q_assign _ _ rfl rfl ?_)
  refine l_q rfl (q_assign _ _ rfl rfl ?_)
  refine l_end (e_fresh z3.p2 ?_)
  intro a5 z5 m5
  have s6_5 := m5 _ _ ((At.hit z3 rfl).n1)
  have s7_5 := m5 _ _ (At.hit z3.put rfl)
  clear m5
  refine e_then (wp_ret (ret_then (r_two rfl z5.defers s6_5 s7_5 ?_)))
  exact ⟨by unfold idS; rw [hc4]; rfl, low3⟩
 | false =>
  have hs4 := s12_3.same (congrArg Value.bool hc4)
  refine c_false hs4 ?_
  refine wp_skip (e_then (c_seq (c_seq (c_region ?_))))
  refine l_q rfl (q_move _ _ rfl s0_3.ev ?_)
  refine l_q rfl (q_neq true rfl (At.hit z3 rfl).ev rfl (decide_eq_true hx1) ?_)
  refine l_q rfl (q_move _ _ rfl (At.hit z3.put rfl).ev ?_)
  refine l_qg (wanted_is (j := 2) (d := 15) (b := true) rfl rfl (At.hit z3.p2 rfl) rfl) (q_move _ _ rfl (s0_3.n3).ev ?_)
  refine l_qg (wanted_is (j := 2) (d := 15) (b := true) rfl rfl ((At.hit z3.p2 rfl).n1) rfl) (q_neq true rfl (At.hit z3.p3 rfl).ev rfl (decide_eq_true hx2) ?_)
  refine l_q rfl (q_pick (b := true) (.bool true) rfl ((At.hit z3.p2 rfl).n2).ev (At.hit z3.p4 rfl).ev ?_)
  refine l_end (e_fresh z3.p6 ?_)
  intro a6 z6 m6
  have s0_6 := m6 _ _ (s0_3.n6)
  have s1_6 := m6 _ _ (s1_3.n6)
  have s2_6 := m6 _ _ (s2_3.n6)
  have s18_6 := m6 _ _ (At.hit z3.p5 rfl)
  clear m6
  refine e_then (c_true s18_6 ?_)
  refine c_seq (c_region ?_)
  refine l_q rfl (q_assign _ _ rfl rfl ?_)
  refine l_q rfl (q_assign _ _ rfl rfl ?_)
  refine l_end (e_fresh z6.p2 ?_)
  intro a7 z7 m7
  have s6_7 := m7 _ _ ((At.hit z6 rfl).n1)
  have s7_7 := m7 _ _ (At.hit z6.put rfl)
  clear m7
  refine e_then (wp_ret (ret_then (r_two rfl z7.defers s6_7 s7_7 ?_)))
  exact ⟨by unfold idS; rw [hc4, nsize_bad hx1 hx2]; rfl, low3⟩
theorem IdR.calls (space kind : Int) (c : ByteArray) (hc : c.size ≤ 2147483647) (w0 : World) : Calls Tryz.prog 6 #[.int .i64 space, .int .i64 kind, .string c] w0 fun e w' => e = .returned (.tuple #[.string (idS space kind c).1, .int .i64 (idS space kind c).2]) ∧ Low w0 w' := by
  by_cases h1 : space = 1
  · subst h1
    exact IdR_1.calls kind c hc w0
  by_cases h2 : space = 2
  · subst h2
    exact IdR_2.calls kind c hc w0
  exact IdR_x.calls space h1 h2 kind c hc w0
theorem Tells_a.calls (kind space : Int) (x c : ByteArray) (h1 : c.size > 1000) (w0 : World) (hG : Gd w0) : Calls Tryz.prog 3 #[.int .i64 kind, .int .i64 space, .string x, .string c] w0 fun e w' => e = .returned (.bool true) ∧ Low w0 w' := by
 refine c_fun (R := _) Tryz.func3 rfl 139 rfl (Nat.le_of_ble_eq_true rfl) ?_
 intro a z hA
 have s0 := hA 0 _ rfl
 have s1 := hA 1 _ rfl
 have s2 := hA 2 _ rfl
 have s3 := hA 3 _ rfl
 clear hA
 refine c_seq (c_region ?_)
 refine l_q rfl (q_assign _ _ rfl rfl ?_)
 refine l_end (e_fresh z.put ?_)
 intro a1 z1 m1
 have s0_1 := m1 _ _ (s0.n1)
 have s1_1 := m1 _ _ (s1.n1)
 have s2_1 := m1 _ _ (s2.n1)
 have s3_1 := m1 _ _ (s3.n1)
 clear m1
 refine e_then (c_seq (c_seq (c_region (l_call (fun v w' => v = .bool true ∧ Low w0 w') rfl rfl rfl Tryz.func4 rfl (show Array.map _ _ = (#[] : Array Value) from by simp) ((Awake10.calls _ (Gd.low hG (Low.refl _))).mono fun _ _ ⟨e, k⟩ => ⟨_, e, rfl, k⟩) ?_))))
 rintro _ w2 ⟨rfl, h2⟩
 refine l_q rfl (q_not (b := true) rfl (At.hit z1 rfl).ev ?_)
 refine l_end (e_fresh z1.p2 ?_)
 intro a3 z3 m3
 have s0_3 := m3 _ _ (s0_1.n2)
 have s1_3 := m3 _ _ (s1_1.n2)
 have s2_3 := m3 _ _ (s2_1.n2)
 have s3_3 := m3 _ _ (s3_1.n2)
 have s22_3 := m3 _ _ (At.hit z1.put rfl)
 have low3 := h2
 clear m3
 refine e_then (c_false s22_3 ?_)
 refine wp_skip (e_then (c_seq (c_seq (c_region ?_))))
 refine l_q rfl (q_move _ _ rfl s3_3.ev ?_)
 refine l_q rfl (q_len rfl rfl Tryz.underlying9 (At.hit z3 rfl).ev ?_)
 refine l_q rfl (q_gtr true rfl (At.hit z3.put rfl).ev rfl (decide_eq_true (by omega)) ?_)
 refine l_q rfl (q_move _ _ rfl (At.hit z3.p2 rfl).ev ?_)
 refine l_skip (wanted_is (j := 3) (d := 26) (b := true) rfl rfl (At.hit z3.p3 rfl) rfl) ?_
 refine l_skip (wanted_is (j := 3) (d := 26) (b := true) rfl rfl ((At.hit z3.p3 rfl).n1) rfl) ?_
 refine l_skip (wanted_is (j := 3) (d := 26) (b := true) rfl rfl ((At.hit z3.p3 rfl).n2) rfl) ?_
 refine l_q rfl (q_pick (b := true) (.bool true) rfl ((At.hit z3.p3 rfl).n3).ev rfl ?_)
 refine l_end (e_fresh z3.p8 ?_)
 intro a4 z4 m4
 have s0_4 := m4 _ _ (s0_3.n8)
 have s1_4 := m4 _ _ (s1_3.n8)
 have s2_4 := m4 _ _ (s2_3.n8)
 have s3_4 := m4 _ _ (s3_3.n8)
 have s30_4 := m4 _ _ (At.hit z3.p7 rfl)
 clear m4
 refine e_then (c_true s30_4 ?_)
 refine c_seq (c_region ?_)
 refine l_q rfl (q_assign _ _ rfl rfl ?_)
 refine l_end (e_fresh z4.put ?_)
 intro a5 z5 m5
 have s8_5 := m5 _ _ (At.hit z4 rfl)
 clear m5
 refine e_then (wp_ret (ret_then (r_tmp rfl z5.defers s8_5 ?_)))
 exact ⟨rfl, low3⟩
theorem Tells_b.calls (kind space : Int) (x c : ByteArray) (h1 : ¬ c.size > 1000) (h2 : x.size > 1000) (w0 : World) (hG : Gd w0) : Calls Tryz.prog 3 #[.int .i64 kind, .int .i64 space, .string x, .string c] w0 fun e w' => e = .returned (.bool true) ∧ Low w0 w' := by
 refine c_fun (R := _) Tryz.func3 rfl 139 rfl (Nat.le_of_ble_eq_true rfl) ?_
 intro a z hA
 have s0 := hA 0 _ rfl
 have s1 := hA 1 _ rfl
 have s2 := hA 2 _ rfl
 have s3 := hA 3 _ rfl
 clear hA
 refine c_seq (c_region ?_)
 refine l_q rfl (q_assign _ _ rfl rfl ?_)
 refine l_end (e_fresh z.put ?_)
 intro a1 z1 m1
 have s0_1 := m1 _ _ (s0.n1)
 have s1_1 := m1 _ _ (s1.n1)
 have s2_1 := m1 _ _ (s2.n1)
 have s3_1 := m1 _ _ (s3.n1)
 clear m1
 refine e_then (c_seq (c_seq (c_region (l_call (fun v w' => v = .bool true ∧ Low w0 w') rfl rfl rfl Tryz.func4 rfl (show Array.map _ _ = (#[] : Array Value) from by simp) ((Awake10.calls _ (Gd.low hG (Low.refl _))).mono fun _ _ ⟨e, k⟩ => ⟨_, e, rfl, k⟩) ?_))))
 rintro _ w2 ⟨rfl, h2⟩
 refine l_q rfl (q_not (b := true) rfl (At.hit z1 rfl).ev ?_)
 refine l_end (e_fresh z1.p2 ?_)
 intro a3 z3 m3
 have s0_3 := m3 _ _ (s0_1.n2)
 have s1_3 := m3 _ _ (s1_1.n2)
 have s2_3 := m3 _ _ (s2_1.n2)
 have s3_3 := m3 _ _ (s3_1.n2)
 have s22_3 := m3 _ _ (At.hit z1.put rfl)
 have low3 := h2
 clear m3
 refine e_then (c_false s22_3 ?_)
 refine wp_skip (e_then (c_seq (c_seq (c_region ?_))))
 refine l_q rfl (q_move _ _ rfl s3_3.ev ?_)
 refine l_q rfl (q_len rfl rfl Tryz.underlying9 (At.hit z3 rfl).ev ?_)
 refine l_q rfl (q_gtr false rfl (At.hit z3.put rfl).ev rfl (decide_eq_false (by omega)) ?_)
 refine l_q rfl (q_move _ _ rfl (At.hit z3.p2 rfl).ev ?_)
 refine l_qg (wanted_is (j := 3) (d := 26) (b := false) rfl rfl (At.hit z3.p3 rfl) rfl) (q_move _ _ rfl (s2_3.n4).ev ?_)
 refine l_qg (wanted_is (j := 3) (d := 26) (b := false) rfl rfl ((At.hit z3.p3 rfl).n1) rfl) (q_len rfl rfl Tryz.underlying9 (At.hit z3.p4 rfl).ev ?_)
 refine l_qg (wanted_is (j := 3) (d := 26) (b := false) rfl rfl ((At.hit z3.p3 rfl).n2) rfl) (q_gtr true rfl (At.hit z3.p5 rfl).ev rfl (decide_eq_true (by omega)) ?_)
 refine l_q rfl (q_pick (b := false) (.bool true) rfl ((At.hit z3.p3 rfl).n3).ev (At.hit z3.p6 rfl).ev ?_)
 refine l_end (e_fresh z3.p8 ?_)
 intro a4 z4 m4
 have s0_4 := m4 _ _ (s0_3.n8)
 have s1_4 := m4 _ _ (s1_3.n8)
 have s2_4 := m4 _ _ (s2_3.n8)
 have s3_4 := m4 _ _ (s3_3.n8)
 have s30_4 := m4 _ _ (At.hit z3.p7 rfl)
 clear m4
 refine e_then (c_true s30_4 ?_)
 refine c_seq (c_region ?_)
 refine l_q rfl (q_assign _ _ rfl rfl ?_)
 refine l_end (e_fresh z4.put ?_)
 intro a5 z5 m5
 have s8_5 := m5 _ _ (At.hit z4 rfl)
 clear m5
 refine e_then (wp_ret (ret_then (r_tmp rfl z5.defers s8_5 ?_)))
 exact ⟨rfl, low3⟩
theorem Tells_c.calls (kind space : Int) (x c : ByteArray) (h1 : ¬ c.size > 1000) (h2 : ¬ x.size > 1000) (w0 : World) (hG : Gd w0) : Calls Tryz.prog 3 #[.int .i64 kind, .int .i64 space, .string x, .string c] w0 fun e w' => e = .returned (.bool true) ∧ Low w0 w' := by
 refine c_fun (R := _) Tryz.func3 rfl 139 rfl (Nat.le_of_ble_eq_true rfl) ?_
 intro a z hA
 have s0 := hA 0 _ rfl
 have s1 := hA 1 _ rfl
 have s2 := hA 2 _ rfl
 have s3 := hA 3 _ rfl
 clear hA
 refine c_seq (c_region ?_)
 refine l_q rfl (q_assign _ _ rfl rfl ?_)
 refine l_end (e_fresh z.put ?_)
 intro a1 z1 m1
 have s0_1 := m1 _ _ (s0.n1)
 have s1_1 := m1 _ _ (s1.n1)
 have s2_1 := m1 _ _ (s2.n1)
 have s3_1 := m1 _ _ (s3.n1)
 clear m1
 refine e_then (c_seq (c_seq (c_region (l_call (fun v w' => v = .bool true ∧ Low w0 w') rfl rfl rfl Tryz.func4 rfl (show Array.map _ _ = (#[] : Array Value) from by simp) ((Awake10.calls _ (Gd.low hG (Low.refl _))).mono fun _ _ ⟨e, k⟩ => ⟨_, e, rfl, k⟩) ?_))))
 rintro _ w2 ⟨rfl, h2⟩
 refine l_q rfl (q_not (b := true) rfl (At.hit z1 rfl).ev ?_)
 refine l_end (e_fresh z1.p2 ?_)
 intro a3 z3 m3
 have s0_3 := m3 _ _ (s0_1.n2)
 have s1_3 := m3 _ _ (s1_1.n2)
 have s2_3 := m3 _ _ (s2_1.n2)
 have s3_3 := m3 _ _ (s3_1.n2)
 have s22_3 := m3 _ _ (At.hit z1.put rfl)
 have low3 := h2
 clear m3
 refine e_then (c_false s22_3 ?_)
 refine wp_skip (e_then (c_seq (c_seq (c_region ?_))))
 refine l_q rfl (q_move _ _ rfl s3_3.ev ?_)
 refine l_q rfl (q_len rfl rfl Tryz.underlying9 (At.hit z3 rfl).ev ?_)
 refine l_q rfl (q_gtr false rfl (At.hit z3.put rfl).ev rfl (decide_eq_false (by omega)) ?_)
 refine l_q rfl (q_move _ _ rfl (At.hit z3.p2 rfl).ev ?_)
 refine l_qg (wanted_is (j := 3) (d := 26) (b := false) rfl rfl (At.hit z3.p3 rfl) rfl) (q_move _ _ rfl (s2_3.n4).ev ?_)
 refine l_qg (wanted_is (j := 3) (d := 26) (b := false) rfl rfl ((At.hit z3.p3 rfl).n1) rfl) (q_len rfl rfl Tryz.underlying9 (At.hit z3.p4 rfl).ev ?_)
 refine l_qg (wanted_is (j := 3) (d := 26) (b := false) rfl rfl ((At.hit z3.p3 rfl).n2) rfl) (q_gtr false rfl (At.hit z3.p5 rfl).ev rfl (decide_eq_false (by omega)) ?_)
 refine l_q rfl (q_pick (b := false) (.bool false) rfl ((At.hit z3.p3 rfl).n3).ev (At.hit z3.p6 rfl).ev ?_)
 refine l_end (e_fresh z3.p8 ?_)
 intro a4 z4 m4
 have s0_4 := m4 _ _ (s0_3.n8)
 have s1_4 := m4 _ _ (s1_3.n8)
 have s2_4 := m4 _ _ (s2_3.n8)
 have s3_4 := m4 _ _ (s3_3.n8)
 have s30_4 := m4 _ _ (At.hit z3.p7 rfl)
 clear m4
 refine e_then (c_false s30_4 ?_)
 refine wp_skip (e_then (c_seq (c_region ?_)))
 refine l_q rfl (q_move _ _ rfl s1_4.ev ?_)
 refine l_q rfl (q_move _ _ rfl (s0_4.n1).ev ?_)
 refine l_q rfl (q_move _ _ rfl (s3_4.n2).ev ?_)
 refine l_call (fun v w' => v = .tuple #[.string ((idS space kind c).1), .int .i64 ((idS space kind c).2)] ∧ Low w2 w') rfl rfl rfl Tryz.func5 rfl (args3 rfl ((At.hit z4 rfl).n2).ev ((At.hit z4.put rfl).n1).ev (At.hit z4.p2 rfl).ev) ((Id.calls space kind c (by omega) _ (Gd.low hG low3)).mono fun _ _ ⟨e, k⟩ => ⟨_, e, rfl, k⟩) ?_
 rintro _ w5 ⟨rfl, h5⟩
 refine l_q rfl (q_move _ _ rfl (At.hit z4.p3 rfl).ev ?_)
 refine l_q rfl (q_extract rfl (At.hit z4.p4 rfl).ev rfl ?_)
 refine l_q rfl (q_extract rfl ((At.hit z4.p4 rfl).n1).ev rfl ?_)
 refine l_q rfl (q_assign _ _ rfl ((At.hit z4.p5 rfl).n1).ev ?_)
 refine l_fresh z4.p8 ?_
 intro a6 z6 m6
 have s0_6 := m6 _ _ (s0_4.n8)
 have s1_6 := m6 _ _ (s1_4.n8)
 have s2_6 := m6 _ _ (s2_4.n8)
 have s3_6 := m6 _ _ (s3_4.n8)
 have s9_6 := m6 _ _ (At.hit z4.p7 rfl)
 have s37_6 := m6 _ _ ((At.hit z4.p6 rfl).n1)
 clear m6
 refine l_q rfl (q_assign _ _ rfl s37_6.ev ?_)
 refine l_end (e_fresh z6.put ?_)
 intro a7 z7 m7
 have s0_7 := m7 _ _ (s0_6.n1)
 have s1_7 := m7 _ _ (s1_6.n1)
 have s2_7 := m7 _ _ (s2_6.n1)
 have s3_7 := m7 _ _ (s3_6.n1)
 have s9_7 := m7 _ _ (s9_6.n1)
 have s10_7 := m7 _ _ (At.hit z6 rfl)
 have low7 := (low3.trans h5)
 clear m7
 refine e_then (c_seq (c_region ?_))
 refine l_q rfl (q_move _ _ rfl s1_7.ev ?_)
 refine l_q rfl (q_move _ _ rfl (s0_7.n1).ev ?_)
 refine l_q rfl (q_move _ _ rfl (s3_7.n2).ev ?_)
 refine l_call (fun v w' => v = .tuple #[.string ((idS space kind c).1), .int .i64 ((idS space kind c).2)] ∧ Low w5 w') rfl rfl rfl Tryz.func6 rfl (args3 rfl ((At.hit z7 rfl).n2).ev ((At.hit z7.put rfl).n1).ev (At.hit z7.p2 rfl).ev) ((IdR.calls space kind c (by omega) _).mono fun _ _ ⟨e, k⟩ => ⟨_, e, rfl, k⟩) ?_
 rintro _ w8 ⟨rfl, h8⟩
 refine l_q rfl (q_move _ _ rfl (At.hit z7.p3 rfl).ev ?_)
 refine l_q rfl (q_extract rfl (At.hit z7.p4 rfl).ev rfl ?_)
 refine l_q rfl (q_extract rfl ((At.hit z7.p4 rfl).n1).ev rfl ?_)
 refine l_q rfl (q_assign _ _ rfl ((At.hit z7.p5 rfl).n1).ev ?_)
 refine l_fresh z7.p8 ?_
 intro a9 z9 m9
 have s0_9 := m9 _ _ (s0_7.n8)
 have s2_9 := m9 _ _ (s2_7.n8)
 have s3_9 := m9 _ _ (s3_7.n8)
 have s9_9 := m9 _ _ (s9_7.n8)
 have s10_9 := m9 _ _ (s10_7.n8)
 have s11_9 := m9 _ _ (At.hit z7.p7 rfl)
 have s44_9 := m9 _ _ ((At.hit z7.p6 rfl).n1)
 clear m9
 refine l_q rfl (q_assign _ _ rfl s44_9.ev ?_)
 refine l_end (e_fresh z9.put ?_)
 intro a10 z10 m10
 have s0_10 := m10 _ _ (s0_9.n1)
 have s2_10 := m10 _ _ (s2_9.n1)
 have s3_10 := m10 _ _ (s3_9.n1)
 have s9_10 := m10 _ _ (s9_9.n1)
 have s10_10 := m10 _ _ (s10_9.n1)
 have s11_10 := m10 _ _ (s11_9.n1)
 have s12_10 := m10 _ _ (At.hit z9 rfl)
 have low10 := (low7.trans h8)
 clear m10
 refine e_then (c_seq (c_region ?_))
 refine l_q rfl (q_move _ _ rfl s0_10.ev ?_)
 refine l_q rfl (q_move _ _ rfl (s3_10.n1).ev ?_)
 refine l_call (fun v w' => v = .tuple #[.agg (#[.string ((idS 2 kind c).1)]), .int .i64 ((idS 2 kind c).2)] ∧ Low w8 w') rfl rfl rfl Tryz.func7 rfl (args2 rfl ((At.hit z10 rfl).n1).ev (At.hit z10.put rfl).ev) ((OfWI.calls kind c (by omega) _ (Gd.low hG low10)).mono fun _ _ ⟨e, k⟩ => ⟨_, e, rfl, k⟩) ?_
 rintro _ w11 ⟨rfl, h11⟩
 refine l_q rfl (q_move _ _ rfl (At.hit z10.p2 rfl).ev ?_)
 refine l_q rfl (q_extract rfl (At.hit z10.p3 rfl).ev rfl ?_)
 refine l_q rfl (q_extract rfl ((At.hit z10.p3 rfl).n1).ev rfl ?_)
 refine l_alloc rfl rfl zero29 ?_
 intro g13 w12 hg12 k12 h12
 have geg13 := Nat.le_trans (low10.trans h11).ge hg12
 refine l_row rfl rfl rfl (sz29.trans (congrArg some rfl.symm)) (At.hit z10.p6 rfl).ev ((At.hit z10.p4 rfl).n2).ev (by simp [Value.oneCell']) k12 (rfl.trans rfl.symm) ?_
 intro w13 k13 u13
 refine l_q rfl (q_assign _ _ rfl ((At.hit z10.p5 rfl).n1).ev ?_)
 refine l_end (e_fresh z10.p8 ?_)
 intro a14 z14 m14
 have s0_14 := m14 _ _ (s0_10.n8)
 have s2_14 := m14 _ _ (s2_10.n8)
 have s3_14 := m14 _ _ (s3_10.n8)
 have s9_14 := m14 _ _ (s9_10.n8)
 have s10_14 := m14 _ _ (s10_10.n8)
 have s11_14 := m14 _ _ (s11_10.n8)
 have s12_14 := m14 _ _ (s12_10.n8)
 have s13_14 := m14 _ _ ((At.hit z10.p6 rfl).n1)
 have s14_14 := m14 _ _ (At.hit z10.p7 rfl)
 have low14 := (((low10.trans h11).trans h12).upd u13 geg13)
 clear m14
 refine e_then (c_seq (c_region ?_))
 refine l_q rfl (q_move _ _ rfl s0_14.ev ?_)
 refine l_q rfl (q_move _ _ rfl (s3_14.n1).ev ?_)
 refine l_call (fun v w' => v = .tuple #[.string ((idS 2 kind c).1), .int .i64 ((idS 2 kind c).2)] ∧ Low w13 w') rfl rfl rfl Tryz.func6 rfl (args3 rfl rfl ((At.hit z14 rfl).n1).ev (At.hit z14.put rfl).ev) ((IdR.calls 2 kind c (by omega) _).mono fun _ _ ⟨e, k⟩ => ⟨_, e, rfl, k⟩) ?_
 rintro _ w15 ⟨rfl, h15⟩
 have kg13_15 := h15.blk k13
 refine l_q rfl (q_move _ _ rfl (At.hit z14.p2 rfl).ev ?_)
 refine l_q rfl (q_extract rfl (At.hit z14.p3 rfl).ev rfl ?_)
 refine l_q rfl (q_extract rfl ((At.hit z14.p3 rfl).n1).ev rfl ?_)
 refine l_q rfl (q_assign _ _ rfl ((At.hit z14.p4 rfl).n1).ev ?_)
 refine l_q rfl (q_assign _ _ rfl ((At.hit z14.p5 rfl).n1).ev ?_)
 refine l_end (e_fresh z14.p8 ?_)
 intro a16 z16 m16
 have s0_16 := m16 _ _ (s0_14.n8)
 have s2_16 := m16 _ _ (s2_14.n8)
 have s3_16 := m16 _ _ (s3_14.n8)
 have s9_16 := m16 _ _ (s9_14.n8)
 have s10_16 := m16 _ _ (s10_14.n8)
 have s11_16 := m16 _ _ (s11_14.n8)
 have s12_16 := m16 _ _ (s12_14.n8)
 have s13_16 := m16 _ _ (s13_14.n8)
 have s14_16 := m16 _ _ (s14_14.n8)
 have s15_16 := m16 _ _ ((At.hit z14.p6 rfl).n1)
 have s16_16 := m16 _ _ (At.hit z14.p7 rfl)
 have low16 := (low14.trans h15)
 clear m16
 refine e_then (c_seq (c_region ?_))
 refine l_q rfl (q_move _ _ rfl s0_16.ev ?_)
 refine l_q rfl (q_move _ _ rfl (s3_16.n1).ev ?_)
 refine l_call (fun v w' => v = .tuple #[.agg (#[.string ((idS 1 kind c).1)]), .int .i64 ((idS 1 kind c).2)] ∧ Low w15 w') rfl rfl rfl Tryz.func8 rfl (args2 rfl ((At.hit z16 rfl).n1).ev (At.hit z16.put rfl).ev) ((OfNI.calls kind c (by omega) _ (Gd.low hG low16)).mono fun _ _ ⟨e, k⟩ => ⟨_, e, rfl, k⟩) ?_
 rintro _ w17 ⟨rfl, h17⟩
 have kg13_17 := h17.blk kg13_15
 refine l_q rfl (q_move _ _ rfl (At.hit z16.p2 rfl).ev ?_)
 refine l_q rfl (q_extract rfl (At.hit z16.p3 rfl).ev rfl ?_)
 refine l_q rfl (q_extract rfl ((At.hit z16.p3 rfl).n1).ev rfl ?_)
 refine l_alloc rfl rfl zero34 ?_
 intro g17 w18 hg18 k18 h18
 have lt_g13_g17 := Nat.lt_of_lt_of_le (heap_lt kg13_17) hg18
 have geg17 := Nat.le_trans (low16.trans h17).ge hg18
 have kg13_18 := h18.blk kg13_17
 refine l_row rfl rfl rfl (sz34.trans (congrArg some rfl.symm)) (At.hit z16.p6 rfl).ev ((At.hit z16.p4 rfl).n2).ev (by simp [Value.oneCell']) k18 (rfl.trans rfl.symm) ?_
 intro w19 k19 u19
 have kg13_19 := u19.blk kg13_18 (by omega)
 refine l_q rfl (q_assign _ _ rfl ((At.hit z16.p5 rfl).n1).ev ?_)
 refine l_end (e_fresh z16.p8 ?_)
 intro a20 z20 m20
 have s0_20 := m20 _ _ (s0_16.n8)
 have s2_20 := m20 _ _ (s2_16.n8)
 have s3_20 := m20 _ _ (s3_16.n8)
 have s9_20 := m20 _ _ (s9_16.n8)
 have s10_20 := m20 _ _ (s10_16.n8)
 have s11_20 := m20 _ _ (s11_16.n8)
 have s12_20 := m20 _ _ (s12_16.n8)
 have s13_20 := m20 _ _ (s13_16.n8)
 have s14_20 := m20 _ _ (s14_16.n8)
 have s15_20 := m20 _ _ (s15_16.n8)
 have s16_20 := m20 _ _ (s16_16.n8)
 have s17_20 := m20 _ _ ((At.hit z16.p6 rfl).n1)
 have s18_20 := m20 _ _ (At.hit z16.p7 rfl)
 have low20 := (((low16.trans h17).trans h18).upd u19 geg17)
 clear m20
 refine e_then (c_seq (c_region ?_))
 refine l_q rfl (q_move _ _ rfl s0_20.ev ?_)
 refine l_q rfl (q_move _ _ rfl (s3_20.n1).ev ?_)
 refine l_call (fun v w' => v = .tuple #[.string ((idS 1 kind c).1), .int .i64 ((idS 1 kind c).2)] ∧ Low w19 w') rfl rfl rfl Tryz.func6 rfl (args3 rfl rfl ((At.hit z20 rfl).n1).ev (At.hit z20.put rfl).ev) ((IdR.calls 1 kind c (by omega) _).mono fun _ _ ⟨e, k⟩ => ⟨_, e, rfl, k⟩) ?_
 rintro _ w21 ⟨rfl, h21⟩
 have kg13_21 := h21.blk kg13_19
 have kg17_21 := h21.blk k19
 refine l_q rfl (q_move _ _ rfl (At.hit z20.p2 rfl).ev ?_)
 refine l_q rfl (q_extract rfl (At.hit z20.p3 rfl).ev rfl ?_)
 refine l_q rfl (q_extract rfl ((At.hit z20.p3 rfl).n1).ev rfl ?_)
 refine l_q rfl (q_assign _ _ rfl ((At.hit z20.p4 rfl).n1).ev ?_)
 refine l_q rfl (q_assign _ _ rfl ((At.hit z20.p5 rfl).n1).ev ?_)
 refine l_end (e_fresh z20.p8 ?_)
 intro a22 z22 m22
 have s0_22 := m22 _ _ (s0_20.n8)
 have s2_22 := m22 _ _ (s2_20.n8)
 have s3_22 := m22 _ _ (s3_20.n8)
 have s9_22 := m22 _ _ (s9_20.n8)
 have s10_22 := m22 _ _ (s10_20.n8)
 have s11_22 := m22 _ _ (s11_20.n8)
 have s12_22 := m22 _ _ (s12_20.n8)
 have s13_22 := m22 _ _ (s13_20.n8)
 have s14_22 := m22 _ _ (s14_20.n8)
 have s15_22 := m22 _ _ (s15_20.n8)
 have s16_22 := m22 _ _ (s16_20.n8)
 have s17_22 := m22 _ _ (s17_20.n8)
 have s18_22 := m22 _ _ (s18_20.n8)
 have s19_22 := m22 _ _ ((At.hit z20.p6 rfl).n1)
 have s20_22 := m22 _ _ (At.hit z20.p7 rfl)
 have low22 := (low20.trans h21)
 clear m22
 refine e_then (c_seq (c_region ?_))
 refine l_q rfl (q_build (cs := #[]) rfl rfl (by kernel_rfl) ?_)
 refine l_call (fun v w' => v = .int .i64 2 ∧ Low w21 w') rfl rfl rfl Tryz.func9 rfl (args1 rfl (At.hit z22 rfl).ev) ((NumbW.calls _).mono fun _ _ ⟨e, k⟩ => ⟨_, e, rfl, k⟩) ?_
 rintro _ w23 ⟨rfl, h23⟩
 have kg13_23 := h23.blk kg13_21
 have kg17_23 := h23.blk kg17_21
 refine l_q rfl (q_eql true rfl (At.hit z22.put rfl).ev rfl (decide_eq_true rfl) ?_)
 refine l_q rfl (q_move _ _ rfl (At.hit z22.p2 rfl).ev ?_)
 refine l_qg (wanted_is (j := 3) (d := 72) (b := true) rfl rfl (At.hit z22.p3 rfl) rfl) (q_build (cs := #[]) rfl rfl (by kernel_rfl) ?_)
 refine l_callg (fun v w' => v = .int .i64 1 ∧ Low w23 w') (wanted_is (j := 3) (d := 72) (b := true) rfl rfl ((At.hit z22.p3 rfl).n1) rfl) rfl rfl Tryz.func10 rfl (args1 rfl (At.hit z22.p4 rfl).ev) ((NumbN.calls _).mono fun _ _ ⟨e, k⟩ => ⟨_, e, rfl, k⟩) ?_
 rintro _ w24 ⟨rfl, h24⟩
 have kg13_24 := h24.blk kg13_23
 have kg17_24 := h24.blk kg17_23
 refine l_qg (wanted_is (j := 3) (d := 72) (b := true) rfl rfl ((At.hit z22.p3 rfl).n2) rfl) (q_eql true rfl (At.hit z22.p5 rfl).ev rfl (decide_eq_true rfl) ?_)
 refine l_q rfl (q_pick (b := true) (.bool true) rfl ((At.hit z22.p3 rfl).n3).ev (At.hit z22.p6 rfl).ev ?_)
 refine l_fresh z22.p8 ?_
 intro a25 z25 m25
 have s0_25 := m25 _ _ (s0_22.n8)
 have s2_25 := m25 _ _ (s2_22.n8)
 have s3_25 := m25 _ _ (s3_22.n8)
 have s9_25 := m25 _ _ (s9_22.n8)
 have s10_25 := m25 _ _ (s10_22.n8)
 have s11_25 := m25 _ _ (s11_22.n8)
 have s12_25 := m25 _ _ (s12_22.n8)
 have s13_25 := m25 _ _ (s13_22.n8)
 have s14_25 := m25 _ _ (s14_22.n8)
 have s15_25 := m25 _ _ (s15_22.n8)
 have s16_25 := m25 _ _ (s16_22.n8)
 have s17_25 := m25 _ _ (s17_22.n8)
 have s18_25 := m25 _ _ (s18_22.n8)
 have s19_25 := m25 _ _ (s19_22.n8)
 have s20_25 := m25 _ _ (s20_22.n8)
 have s76_25 := m25 _ _ (At.hit z22.p7 rfl)
 clear m25
 refine l_q rfl (q_move _ _ rfl s76_25.ev ?_)
 refine l_qg (wanted_is (j := 8) (d := 77) (b := true) rfl rfl (At.hit z25 rfl) rfl) (q_move _ _ rfl (s0_25.n1).ev ?_)
 refine l_callg (fun v w' => v = .string (word kind) ∧ Low w24 w') (wanted_is (j := 8) (d := 77) (b := true) rfl rfl ((At.hit z25 rfl).n1) rfl) rfl rfl Tryz.func11 rfl (args1 rfl (At.hit z25.put rfl).ev) ((Word.calls kind _).mono fun _ _ ⟨e, k⟩ => ⟨_, e, rfl, k⟩) ?_
 rintro _ w26 ⟨rfl, h26⟩
 have kg13_26 := h26.blk kg13_24
 have kg17_26 := h26.blk kg17_24
 refine l_qg (wanted_is (j := 8) (d := 77) (b := true) rfl rfl ((At.hit z25 rfl).n2) rfl) (q_move _ _ rfl (s0_25.n3).ev ?_)
 refine l_callg (fun v w' => v = .string (word kind) ∧ Low w26 w') (wanted_is (j := 8) (d := 77) (b := true) rfl rfl ((At.hit z25 rfl).n3) rfl) rfl rfl Tryz.func12 rfl (args1 rfl (At.hit z25.p3 rfl).ev) ((WordR.calls kind _).mono fun _ _ ⟨e, k⟩ => ⟨_, e, rfl, k⟩) ?_
 rintro _ w27 ⟨rfl, h27⟩
 have kg13_27 := h27.blk kg13_26
 have kg17_27 := h27.blk kg17_26
 refine l_qg (wanted_is (j := 8) (d := 77) (b := true) rfl rfl ((At.hit z25 rfl).n4) rfl) (q_streq true rfl ((At.hit z25.p2 rfl).n2).ev (At.hit z25.p4 rfl).ev (beq_yes _) ?_)
 refine l_q rfl (q_pick (b := true) (.bool true) rfl ((At.hit z25 rfl).n5).ev (At.hit z25.p5 rfl).ev ?_)
 refine l_q rfl (q_move _ _ rfl (At.hit z25.p6 rfl).ev ?_)
 refine l_fresh z25.p8 ?_
 intro a28 z28 m28
 have s0_28 := m28 _ _ (s0_25.n8)
 have s2_28 := m28 _ _ (s2_25.n8)
 have s3_28 := m28 _ _ (s3_25.n8)
 have s9_28 := m28 _ _ (s9_25.n8)
 have s10_28 := m28 _ _ (s10_25.n8)
 have s11_28 := m28 _ _ (s11_25.n8)
 have s12_28 := m28 _ _ (s12_25.n8)
 have s13_28 := m28 _ _ (s13_25.n8)
 have s14_28 := m28 _ _ (s14_25.n8)
 have s15_28 := m28 _ _ (s15_25.n8)
 have s16_28 := m28 _ _ (s16_25.n8)
 have s17_28 := m28 _ _ (s17_25.n8)
 have s18_28 := m28 _ _ (s18_25.n8)
 have s19_28 := m28 _ _ (s19_25.n8)
 have s20_28 := m28 _ _ (s20_25.n8)
 have s84_28 := m28 _ _ (At.hit z25.p7 rfl)
 clear m28
 refine l_qg (wanted_is (j := 15) (d := 84) (b := true) rfl rfl s84_28 rfl) (q_move _ _ rfl s2_28.ev ?_)
 refine l_callg (fun v w' => v = .int .i64 (kindS x) ∧ Low w27 w') (wanted_is (j := 15) (d := 84) (b := true) rfl rfl (s84_28.n1) rfl) rfl rfl Tryz.func13 rfl (args1 rfl (At.hit z28 rfl).ev) ((KindL.calls x _).mono fun _ _ ⟨e, k⟩ => ⟨_, e, rfl, k⟩) ?_
 rintro _ w29 ⟨rfl, h29⟩
 have kg13_29 := h29.blk kg13_27
 have kg17_29 := h29.blk kg17_27
 refine l_qg (wanted_is (j := 15) (d := 84) (b := true) rfl rfl (s84_28.n2) rfl) (q_move _ _ rfl (s2_28.n2).ev ?_)
 refine l_callg (fun v w' => v = .int .i64 (kindS x) ∧ Low w29 w') (wanted_is (j := 15) (d := 84) (b := true) rfl rfl (s84_28.n3) rfl) rfl rfl Tryz.func14 rfl (args1 rfl (At.hit z28.p2 rfl).ev) ((KindR.calls x _).mono fun _ _ ⟨e, k⟩ => ⟨_, e, rfl, k⟩) ?_
 rintro _ w30 ⟨rfl, h30⟩
 have kg13_30 := h30.blk kg13_29
 have kg17_30 := h30.blk kg17_29
 refine l_qg (wanted_is (j := 15) (d := 84) (b := true) rfl rfl (s84_28.n4) rfl) (q_eql true rfl ((At.hit z28.put rfl).n2).ev (At.hit z28.p3 rfl).ev (decide_eq_true rfl) ?_)
 refine l_q rfl (q_pick (b := true) (.bool true) rfl (s84_28.n5).ev (At.hit z28.p4 rfl).ev ?_)
 refine l_q rfl (q_move _ _ rfl (At.hit z28.p5 rfl).ev ?_)
 refine l_qg (wanted_is (j := 22) (d := 91) (b := true) rfl rfl (At.hit z28.p6 rfl) rfl) (q_move _ _ rfl (s0_28.n7).ev ?_)
 refine l_fresh z28.p8 ?_
 intro a31 z31 m31
 have s0_31 := m31 _ _ (s0_28.n8)
 have s3_31 := m31 _ _ (s3_28.n8)
 have s9_31 := m31 _ _ (s9_28.n8)
 have s10_31 := m31 _ _ (s10_28.n8)
 have s11_31 := m31 _ _ (s11_28.n8)
 have s12_31 := m31 _ _ (s12_28.n8)
 have s13_31 := m31 _ _ (s13_28.n8)
 have s14_31 := m31 _ _ (s14_28.n8)
 have s15_31 := m31 _ _ (s15_28.n8)
 have s16_31 := m31 _ _ (s16_28.n8)
 have s17_31 := m31 _ _ (s17_28.n8)
 have s18_31 := m31 _ _ (s18_28.n8)
 have s19_31 := m31 _ _ (s19_28.n8)
 have s20_31 := m31 _ _ (s20_28.n8)
 have s91_31 := m31 _ _ ((At.hit z28.p6 rfl).n1)
 have s92_31 := m31 _ _ (At.hit z28.p7 rfl)
 clear m31
 refine l_qg (wanted_is (j := 22) (d := 91) (b := true) rfl rfl s91_31 rfl) (q_move _ _ rfl s3_31.ev ?_)
 refine l_callg (fun v w' => v = .string (row kind c) ∧ Low w30 w') (wanted_is (j := 22) (d := 91) (b := true) rfl rfl (s91_31.n1) rfl) rfl rfl Tryz.func15 rfl (args2 rfl (s92_31.n1).ev (At.hit z31 rfl).ev) ((Row.calls kind c (by omega) _ (Gd.low hG ((((((low22.trans h23).trans h24).trans h26).trans h27).trans h29).trans h30))).mono fun _ _ ⟨e, k⟩ => ⟨_, e, rfl, k⟩) ?_
 rintro _ w32 ⟨rfl, h32⟩
 have kg13_32 := h32.blk kg13_30
 have kg17_32 := h32.blk kg17_30
 refine l_qg (wanted_is (j := 22) (d := 91) (b := true) rfl rfl (s91_31.n2) rfl) (q_move _ _ rfl (s0_31.n2).ev ?_)
 refine l_qg (wanted_is (j := 22) (d := 91) (b := true) rfl rfl (s91_31.n3) rfl) (q_move _ _ rfl (s3_31.n3).ev ?_)
 refine l_callg (fun v w' => v = .string (row kind c) ∧ Low w32 w') (wanted_is (j := 22) (d := 91) (b := true) rfl rfl (s91_31.n4) rfl) rfl rfl Tryz.func16 rfl (args2 rfl ((At.hit z31.p2 rfl).n1).ev (At.hit z31.p3 rfl).ev) ((RowR.calls kind c (by omega) _).mono fun _ _ ⟨e, k⟩ => ⟨_, e, rfl, k⟩) ?_
 rintro _ w33 ⟨rfl, h33⟩
 have kg13_33 := h33.blk kg13_32
 have kg17_33 := h33.blk kg17_32
 refine l_qg (wanted_is (j := 22) (d := 91) (b := true) rfl rfl (s91_31.n5) rfl) (q_streq true rfl ((At.hit z31.put rfl).n3).ev (At.hit z31.p4 rfl).ev (beq_yes _) ?_)
 refine l_q rfl (q_pick (b := true) (.bool true) rfl (s91_31.n6).ev (At.hit z31.p5 rfl).ev ?_)
 refine l_q rfl (q_move _ _ rfl (At.hit z31.p6 rfl).ev ?_)
 refine l_fresh z31.p8 ?_
 intro a34 z34 m34
 have s9_34 := m34 _ _ (s9_31.n8)
 have s10_34 := m34 _ _ (s10_31.n8)
 have s11_34 := m34 _ _ (s11_31.n8)
 have s12_34 := m34 _ _ (s12_31.n8)
 have s13_34 := m34 _ _ (s13_31.n8)
 have s14_34 := m34 _ _ (s14_31.n8)
 have s15_34 := m34 _ _ (s15_31.n8)
 have s16_34 := m34 _ _ (s16_31.n8)
 have s17_34 := m34 _ _ (s17_31.n8)
 have s18_34 := m34 _ _ (s18_31.n8)
 have s19_34 := m34 _ _ (s19_31.n8)
 have s20_34 := m34 _ _ (s20_31.n8)
 have s100_34 := m34 _ _ (At.hit z31.p7 rfl)
 clear m34
 refine l_qg (wanted_is (j := 31) (d := 100) (b := true) rfl rfl s100_34 rfl) (q_move _ _ rfl s9_34.ev ?_)
 refine l_qg (wanted_is (j := 31) (d := 100) (b := true) rfl rfl (s100_34.n1) rfl) (q_move _ _ rfl (s11_34.n1).ev ?_)
 refine l_qg (wanted_is (j := 31) (d := 100) (b := true) rfl rfl (s100_34.n2) rfl) (q_streq true rfl ((At.hit z34 rfl).n1).ev (At.hit z34.put rfl).ev (beq_yes _) ?_)
 refine l_q rfl (q_pick (b := true) (.bool true) rfl (s100_34.n3).ev (At.hit z34.p2 rfl).ev ?_)
 refine l_q rfl (q_move _ _ rfl (At.hit z34.p3 rfl).ev ?_)
 refine l_qg (wanted_is (j := 36) (d := 105) (b := true) rfl rfl (At.hit z34.p4 rfl) rfl) (q_move _ _ rfl (s10_34.n5).ev ?_)
 refine l_qg (wanted_is (j := 36) (d := 105) (b := true) rfl rfl ((At.hit z34.p4 rfl).n1) rfl) (q_move _ _ rfl (s12_34.n6).ev ?_)
 refine l_qg (wanted_is (j := 36) (d := 105) (b := true) rfl rfl ((At.hit z34.p4 rfl).n2) rfl) (q_eql true rfl ((At.hit z34.p5 rfl).n1).ev (At.hit z34.p6 rfl).ev (decide_eq_true rfl) ?_)
 refine l_fresh z34.p8 ?_
 intro a35 z35 m35
 have s13_35 := m35 _ _ (s13_34.n8)
 have s14_35 := m35 _ _ (s14_34.n8)
 have s15_35 := m35 _ _ (s15_34.n8)
 have s16_35 := m35 _ _ (s16_34.n8)
 have s17_35 := m35 _ _ (s17_34.n8)
 have s18_35 := m35 _ _ (s18_34.n8)
 have s19_35 := m35 _ _ (s19_34.n8)
 have s20_35 := m35 _ _ (s20_34.n8)
 have s105_35 := m35 _ _ ((At.hit z34.p4 rfl).n3)
 have s108_35 := m35 _ _ (At.hit z34.p7 rfl)
 clear m35
 refine l_q rfl (q_pick (b := true) (.bool true) rfl s105_35.ev s108_35.ev ?_)
 refine l_q rfl (q_move _ _ rfl (At.hit z35 rfl).ev ?_)
 refine l_qg (wanted_is (j := 41) (d := 110) (b := true) rfl rfl (At.hit z35.put rfl) rfl) (q_row rfl Tryz.underlying29 rfl (sz29.trans (congrArg some rfl.symm)) (s13_35.n2).ev (fun _ e => by rw [e]; exact kg13_33) ?_)
 refine l_callg (fun v w' => v = .string ((idS 2 kind c).1) ∧ Low w33 w') (wanted_is (j := 41) (d := 110) (b := true) rfl rfl ((At.hit z35.put rfl).n1) rfl) rfl rfl Tryz.func17 rfl (args1 rfl (At.hit z35.p2 rfl).ev) ((BytesW.calls ((idS 2 kind c).1) _).mono fun _ _ ⟨e, k⟩ => ⟨_, e, rfl, k⟩) ?_
 rintro _ w36 ⟨rfl, h36⟩
 have kg13_36 := h36.blk kg13_33
 have kg17_36 := h36.blk kg17_33
 refine l_qg (wanted_is (j := 41) (d := 110) (b := true) rfl rfl ((At.hit z35.put rfl).n2) rfl) (q_move _ _ rfl (s15_35.n4).ev ?_)
 refine l_qg (wanted_is (j := 41) (d := 110) (b := true) rfl rfl ((At.hit z35.put rfl).n3) rfl) (q_streq true rfl ((At.hit z35.p3 rfl).n1).ev (At.hit z35.p4 rfl).ev (beq_yes _) ?_)
 refine l_q rfl (q_pick (b := true) (.bool true) rfl ((At.hit z35.put rfl).n4).ev (At.hit z35.p5 rfl).ev ?_)
 refine l_q rfl (q_move _ _ rfl (At.hit z35.p6 rfl).ev ?_)
 refine l_fresh z35.p8 ?_
 intro a37 z37 m37
 have s14_37 := m37 _ _ (s14_35.n8)
 have s16_37 := m37 _ _ (s16_35.n8)
 have s17_37 := m37 _ _ (s17_35.n8)
 have s18_37 := m37 _ _ (s18_35.n8)
 have s19_37 := m37 _ _ (s19_35.n8)
 have s20_37 := m37 _ _ (s20_35.n8)
 have s116_37 := m37 _ _ (At.hit z35.p7 rfl)
 clear m37
 refine l_qg (wanted_is (j := 47) (d := 116) (b := true) rfl rfl s116_37 rfl) (q_move _ _ rfl s14_37.ev ?_)
 refine l_qg (wanted_is (j := 47) (d := 116) (b := true) rfl rfl (s116_37.n1) rfl) (q_move _ _ rfl (s16_37.n1).ev ?_)
 refine l_qg (wanted_is (j := 47) (d := 116) (b := true) rfl rfl (s116_37.n2) rfl) (q_eql true rfl ((At.hit z37 rfl).n1).ev (At.hit z37.put rfl).ev (decide_eq_true rfl) ?_)
 refine l_q rfl (q_pick (b := true) (.bool true) rfl (s116_37.n3).ev (At.hit z37.p2 rfl).ev ?_)
 refine l_q rfl (q_move _ _ rfl (At.hit z37.p3 rfl).ev ?_)
 refine l_qg (wanted_is (j := 52) (d := 121) (b := true) rfl rfl (At.hit z37.p4 rfl) rfl) (q_row rfl Tryz.underlying34 rfl (sz34.trans (congrArg some rfl.symm)) (s17_37.n5).ev (fun _ e => by rw [e]; exact kg17_36) ?_)
 refine l_callg (fun v w' => v = .string ((idS 1 kind c).1) ∧ Low w36 w') (wanted_is (j := 52) (d := 121) (b := true) rfl rfl ((At.hit z37.p4 rfl).n1) rfl) rfl rfl Tryz.func18 rfl (args1 rfl (At.hit z37.p5 rfl).ev) ((BytesN.calls ((idS 1 kind c).1) _).mono fun _ _ ⟨e, k⟩ => ⟨_, e, rfl, k⟩) ?_
 rintro _ w38 ⟨rfl, h38⟩
 have kg13_38 := h38.blk kg13_36
 have kg17_38 := h38.blk kg17_36
 refine l_qg (wanted_is (j := 52) (d := 121) (b := true) rfl rfl ((At.hit z37.p4 rfl).n2) rfl) (q_move _ _ rfl (s19_37.n7).ev ?_)
 refine l_fresh z37.p8 ?_
 intro a39 z39 m39
 have s17_39 := m39 _ _ (s17_37.n8)
 have s18_39 := m39 _ _ (s18_37.n8)
 have s19_39 := m39 _ _ (s19_37.n8)
 have s20_39 := m39 _ _ (s20_37.n8)
 have s121_39 := m39 _ _ ((At.hit z37.p4 rfl).n3)
 have s123_39 := m39 _ _ ((At.hit z37.p6 rfl).n1)
 have s124_39 := m39 _ _ (At.hit z37.p7 rfl)
 clear m39
 refine l_qg (wanted_is (j := 52) (d := 121) (b := true) rfl rfl s121_39 rfl) (q_streq true rfl s123_39.ev s124_39.ev (beq_yes _) ?_)
 refine l_q rfl (q_pick (b := true) (.bool true) rfl (s121_39.n1).ev (At.hit z39 rfl).ev ?_)
 refine l_q rfl (q_move _ _ rfl (At.hit z39.put rfl).ev ?_)
 refine l_qg (wanted_is (j := 58) (d := 127) (b := true) rfl rfl (At.hit z39.p2 rfl) rfl) (q_move _ _ rfl (s18_39.n3).ev ?_)
 refine l_qg (wanted_is (j := 58) (d := 127) (b := true) rfl rfl ((At.hit z39.p2 rfl).n1) rfl) (q_move _ _ rfl (s20_39.n4).ev ?_)
 refine l_qg (wanted_is (j := 58) (d := 127) (b := true) rfl rfl ((At.hit z39.p2 rfl).n2) rfl) (q_eql true rfl ((At.hit z39.p3 rfl).n1).ev (At.hit z39.p4 rfl).ev (decide_eq_true rfl) ?_)
 refine l_q rfl (q_pick (b := true) (.bool true) rfl ((At.hit z39.p2 rfl).n3).ev (At.hit z39.p5 rfl).ev ?_)
 refine l_q rfl (q_move _ _ rfl (At.hit z39.p6 rfl).ev ?_)
 refine l_fresh z39.p8 ?_
 intro a40 z40 m40
 have s17_40 := m40 _ _ (s17_39.n8)
 have s19_40 := m40 _ _ (s19_39.n8)
 have s132_40 := m40 _ _ (At.hit z39.p7 rfl)
 clear m40
 refine l_qg (wanted_is (j := 63) (d := 132) (b := true) rfl rfl s132_40 rfl) (q_row rfl Tryz.underlying34 rfl (sz34.trans (congrArg some rfl.symm)) s17_40.ev (fun _ e => by rw [e]; exact kg17_38) ?_)
 refine l_callg (fun v w' => v = .string (digS (idS 1 kind c).1) ∧ Low w38 w') (wanted_is (j := 63) (d := 132) (b := true) rfl rfl (s132_40.n1) rfl) rfl rfl Tryz.func19 rfl (args1 rfl (At.hit z40 rfl).ev) ((DigL.calls (idS 1 kind c).1 (idS_small _ _ _) _).mono fun _ _ ⟨e, k⟩ => ⟨_, e, rfl, k⟩) ?_
 rintro _ w41 ⟨rfl, h41⟩
 have kg13_41 := h41.blk kg13_38
 have kg17_41 := h41.blk kg17_38
 refine l_qg (wanted_is (j := 63) (d := 132) (b := true) rfl rfl (s132_40.n2) rfl) (q_move _ _ rfl (s19_40.n2).ev ?_)
 refine l_callg (fun v w' => v = .string (digS (idS 1 kind c).1) ∧ Low w41 w') (wanted_is (j := 63) (d := 132) (b := true) rfl rfl (s132_40.n3) rfl) rfl rfl Tryz.func20 rfl (args1 rfl (At.hit z40.p2 rfl).ev) ((DigR.calls (idS 1 kind c).1 (idS_small _ _ _) _).mono fun _ _ ⟨e, k⟩ => ⟨_, e, rfl, k⟩) ?_
 rintro _ w42 ⟨rfl, h42⟩
 have kg13_42 := h42.blk kg13_41
 have kg17_42 := h42.blk kg17_41
 refine l_qg (wanted_is (j := 63) (d := 132) (b := true) rfl rfl (s132_40.n4) rfl) (q_streq true rfl ((At.hit z40.put rfl).n2).ev (At.hit z40.p3 rfl).ev (beq_yes _) ?_)
 refine l_q rfl (q_pick (b := true) (.bool true) rfl (s132_40.n5).ev (At.hit z40.p4 rfl).ev ?_)
 refine l_q rfl (q_assign _ _ rfl (At.hit z40.p5 rfl).ev ?_)
 refine l_end (e_fresh z40.p7 ?_)
 intro a43 z43 m43
 have s8_43 := m43 _ _ (At.hit z40.p6 rfl)
 have low43 := ((((((((((((low22.trans h23).trans h24).trans h26).trans h27).trans h29).trans h30).trans h32).trans h33).trans h36).trans h38).trans h41).trans h42)
 clear m43
 refine e_then (wp_ret (r_tmp rfl z43.defers s8_43 ?_))
 exact ⟨rfl, low43⟩
theorem IdentTells.calls (kind space : Int) (x c : ByteArray) (w0 : World) (hG : Gd w0) : Calls Tryz.prog 3 #[.int .i64 kind, .int .i64 space, .string x, .string c] w0 fun e w' => e = .returned (.bool true) ∧ Low w0 w' := by
  by_cases h1 : c.size > 1000
  · exact Tells_a.calls kind space x c h1 w0 hG
  by_cases h2 : x.size > 1000
  · exact Tells_b.calls kind space x c h1 h2 w0 hG
  · exact Tells_c.calls kind space x c h1 h2 w0 hG
end Go.Proofs.YtfjhnnpdaggnbaaGreatDoor.Q
end
/-! R0 -/
section
namespace Go.Proofs.YtfjhnnpdaggnbaaGreatDoor.R
open Go.ChangeShapes Go.WideShapes Go.RowKit Go.Proofs.YtfjhnnpdaggnbaaGreatDoorW.PrintWords
end Go.Proofs.YtfjhnnpdaggnbaaGreatDoor.R
end
/-! R3 -/
section
namespace Go.Proofs.YtfjhnnpdaggnbaaGreatDoor.R
open Go.ChangeShapes Go.WideShapes Go.RowKit Go.Joins Go.Deep Go.WideElems Go.Maps Go.Proofs.YtfjhnnpdaggnbaaGreatDoorW.PrintWords
set_option maxRecDepth 100000 in
theorem gd_of {W : World} (h : laidMetH Tryz.prog Rows.identTellsRow.laid W) : Q.Gd W := by
  rw [MakeChecks.laidMetH_plain _ _ _ (by kernel_rfl)] at h
  have hL : laidMet Tryz.prog (("math/bits.deBruijn32tab", Rows.laid_math_bits_deBruijn32tab) :: ("math/bits.deBruijn64tab", Rows.laid_math_bits_deBruijn64tab) :: ("internal/strconv.uint64pow10", Rows.laid_internal_strconv_uint64pow10) :: []) W := h
  exact Lib.tabIs_of_head (name := "internal/strconv.uint64pow10") (k := .u64) (zs := Lib.pow10Tab) (g := 0) (t := 128) (e := 87) (n := 20) (by kernel_rfl) (by kernel_rfl) Tryz.underlying128 Tryz.underlying87 (by kernel_rfl) (by kernel_rfl) hL.tail.tail
end Go.Proofs.YtfjhnnpdaggnbaaGreatDoor.R
end
