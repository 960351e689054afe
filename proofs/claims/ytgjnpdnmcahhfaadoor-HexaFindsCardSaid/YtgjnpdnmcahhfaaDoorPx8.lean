-- written by a program of this session's (wip/gen), after the kit's print
import Derived.Test.YtgjnpdnmcahhfaaDoorPx0
import Derived.Test.YtgjnpdnmcahhfaaDoorPx2
import Derived.Test.YtgjnpdnmcahhfaaDoorPx3
import Derived.Test.YtgjnpdnmcahhfaaDoorPx5
namespace Go.Proofs.YtgjnpdnmcahhfaaDoor.P
open Go.RowKit Go.Proofs.YtgjnpdnmcahhfaaDoorW.PrintWords Go.Proofs.YtgjnpdnmcahhfaaDoorW.PrintLast Go.Proofs.YtgjnpdnmcahhfaaDoorW.PrintMore
attribute [local go_sem] max2_int min2_int max_two min_two max_three min_three max_four min_four   -- for this text's walks alone
set_option linter.unusedVariables false
set_option linter.unusedSimpArgs false

/-! ### diptychlaw01_HexaOrder: function 5 -/
def diptychlaw01_HexaOrder.j0 : Nat → ByteArray → ByteArray → ByteArray → Int → Bool → Option (Bool)
  | 0, _, _, _, _, _ => none
  | k + 1, x0, x1, x2, x3, x33 => if x33 = true then (some true) else ((hexa_Digits.f k x0).bind fun t159 => ((hexa_Digits.f k x1).bind fun t160 => (if ((Op.bytesLess x0.toList x1.toList) == (Op.bytesLess t159.toList t160.toList)) = true then ((hexa_Begins.f k x0 x2).bind fun t161 => (if t161 = true then (if 0 ≤ x3 then (if x3 ≤ (x2.size : Int) then ((hexa_Begins.f k x0 (x2.extract 0 (x3 : Int).toNat)).bind fun t162 => (if t162 = true then (some ((t159.size : Int) == (wrap64 (2 * (x0.size : Int))))) else (some false))) else (none)) else (none)) else (some ((t159.size : Int) == (wrap64 (2 * (x0.size : Int))))))) else (some false))))
def diptychlaw01_HexaOrder.f (k : Nat) (a0 : ByteArray) (a1 : ByteArray) (a2 : ByteArray) (a3 : Int) : Option (Bool) := (diptychlaw01_awake.f k).bind fun t158 => (if t158 = true then (if (a0.size : Int) > 1000 then (diptychlaw01_HexaOrder.j0 k a0 a1 a2 a3 true) else (if (a1.size : Int) > 1000 then (diptychlaw01_HexaOrder.j0 k a0 a1 a2 a3 true) else (if (a2.size : Int) > 1000 then (diptychlaw01_HexaOrder.j0 k a0 a1 a2 a3 true) else (if a3 < 0 then (diptychlaw01_HexaOrder.j0 k a0 a1 a2 a3 true) else (diptychlaw01_HexaOrder.j0 k a0 a1 a2 a3 (decide (a3 > (a2.size : Int)))))))) else (some false))
theorem diptychlaw01_HexaOrder.mono_l : ∀ k, (∀ y0 y1 y2 y3 y4, LeO (diptychlaw01_HexaOrder.j0 k y0 y1 y2 y3 y4) (diptychlaw01_HexaOrder.j0 (k + 1) y0 y1 y2 y3 y4))
  | 0 => fun _ _ _ _ _ r h => by simp [diptychlaw01_HexaOrder.j0] at h
  | k + 1 => by
    have ih0 := diptychlaw01_HexaOrder.mono_l k
    · intro y0 y1 y2 y3 y4
      unfold diptychlaw01_HexaOrder.j0
      repeat' first
      | (with_reducible exact ih0 _ _ _ _ _)
      | (with_reducible exact diptychlaw01_awake.mono _)
      | (with_reducible exact hexa_Begins.mono _ _ _)
      | (with_reducible exact hexa_Digits.mono _ _)
      | (with_reducible exact LeO.refl _)
      | (with_reducible exact LeO.none _)
      | (with_reducible refine LeO.ite ?_ ?_)
      | (with_reducible refine LeO.bind ?_ (fun _ => ?_))
      | exact ih0 _ _ _ _ _
      | exact diptychlaw01_awake.mono _
      | exact hexa_Begins.mono _ _ _
      | exact hexa_Digits.mono _ _
      | exact LeO.none _
      | refine LeO.ite ?_ ?_
      | refine LeO.bind ?_ (fun _ => ?_)
theorem diptychlaw01_HexaOrder.mono : ∀ a0 a1 a2 a3 k, LeO (diptychlaw01_HexaOrder.f k a0 a1 a2 a3) (diptychlaw01_HexaOrder.f (k + 1) a0 a1 a2 a3) := by
  intro a0 a1 a2 a3 k
  have ih0 := diptychlaw01_HexaOrder.mono_l k
  unfold diptychlaw01_HexaOrder.f
  repeat' first
      | (with_reducible exact ih0 _ _ _ _ _)
      | (with_reducible exact diptychlaw01_awake.mono _)
      | (with_reducible exact hexa_Begins.mono _ _ _)
      | (with_reducible exact hexa_Digits.mono _ _)
      | (with_reducible exact LeO.refl _)
      | (with_reducible exact LeO.none _)
      | (with_reducible refine LeO.ite ?_ ?_)
      | (with_reducible refine LeO.bind ?_ (fun _ => ?_))
      | exact ih0 _ _ _ _ _
      | exact diptychlaw01_awake.mono _
      | exact hexa_Begins.mono _ _ _
      | exact hexa_Digits.mono _ _
      | exact LeO.none _
      | refine LeO.ite ?_ ?_
      | refine LeO.bind ?_ (fun _ => ?_)
set_option maxHeartbeats 8000000 in
set_option maxRecDepth 100000 in
theorem diptychlaw01_HexaOrder.calls (k : Nat) (a0 : ByteArray) (a1 : ByteArray) (a2 : ByteArray) (a3 : Int) (r : Bool) (w : World) (h : diptychlaw01_HexaOrder.f k a0 a1 a2 a3 = some r) :
    Calls Tryd.prog 5 #[.string a0, .string a1, .string a2, .int .i64 a3] w fun e w' => e = .returned (.bool r) ∧ Below w.heap.size w w' := by
  have HB := Aside0.mk (Below.refl w.heap.size w)
  have H : ((diptychlaw01_awake.f k).bind fun t158 => (if t158 = true then (if (a0.size : Int) > 1000 then (diptychlaw01_HexaOrder.j0 k a0 a1 a2 a3 true) else (if (a1.size : Int) > 1000 then (diptychlaw01_HexaOrder.j0 k a0 a1 a2 a3 true) else (if (a2.size : Int) > 1000 then (diptychlaw01_HexaOrder.j0 k a0 a1 a2 a3 true) else (if a3 < 0 then (diptychlaw01_HexaOrder.j0 k a0 a1 a2 a3 true) else (diptychlaw01_HexaOrder.j0 k a0 a1 a2 a3 (decide (a3 > (a2.size : Int)))))))) else (some false))) = some r := h
  clear h
  replace H := Option.bind_eq_some_iff.mp H
  obtain ⟨t158, A50, H⟩ := H
  replace H : (if t158 = true then (if (a0.size : Int) > 1000 then (diptychlaw01_HexaOrder.j0 k a0 a1 a2 a3 true) else (if (a1.size : Int) > 1000 then (diptychlaw01_HexaOrder.j0 k a0 a1 a2 a3 true) else (if (a2.size : Int) > 1000 then (diptychlaw01_HexaOrder.j0 k a0 a1 a2 a3 true) else (if a3 < 0 then (diptychlaw01_HexaOrder.j0 k a0 a1 a2 a3 true) else (diptychlaw01_HexaOrder.j0 k a0 a1 a2 a3 (decide (a3 > (a2.size : Int)))))))) else (some false)) = some r := H
  have A5 := Aside0.mk A50
  clear A50
  by_cases c6 : t158 = true
  · subst c6
    have H1 : (if (a0.size : Int) > 1000 then (diptychlaw01_HexaOrder.j0 k a0 a1 a2 a3 true) else (if (a1.size : Int) > 1000 then (diptychlaw01_HexaOrder.j0 k a0 a1 a2 a3 true) else (if (a2.size : Int) > 1000 then (diptychlaw01_HexaOrder.j0 k a0 a1 a2 a3 true) else (if a3 < 0 then (diptychlaw01_HexaOrder.j0 k a0 a1 a2 a3 true) else (diptychlaw01_HexaOrder.j0 k a0 a1 a2 a3 (decide (a3 > (a2.size : Int)))))))) = some r := by rw [if_pos rfl] at H; exact H
    clear H
    have H := H1
    clear H1
    have HC7 := Aside0.mk H
    clear H
    go_enter Tryd.func5, Tryd.ntmps5
    go_upto_region 3 with (first | ((with_reducible refine gate_callee (f := 8) rfl ?_); refine goesL_ (some 9) rfl rfl Tryd.func8 (by kernel_rfl) rfl #[] rfl (by (try simp only [List.map_toArray, List.map_cons, List.map_nil]); first | done | rfl | (simp only [List.length_drop, List.length_take]; rfl)) ?_; (with_reducible refine (diptychlaw01_awake.calls k  true _ A5.out).mono ?_); rintro e w8 ⟨rfl, hb⟩; refine ⟨_, rfl, ?_⟩; have n0_ := Aside0.mk (below_step (by repeat (first | (with_reducible first | exact HB.out | apply below_alloc | apply pw_below_drewN | apply below_drew1) | exact HB.out)) hb); clear HB; have HB := n0_; clear n0_; (try clear hb); (try clear hb2); (try clear hk); (try clear hi)))
    (try simp only [Act.put, List.setIfInBounds_toArray, List.set_cons_zero, List.set_cons_succ])
    go_cut [33] (fun v33 wc => ∃ (kq : Nat) (x33_6 : Bool), v33 = .bool x33_6 ∧ Aside0 (diptychlaw01_HexaOrder.j0 kq a0 a1 a2 a3 x33_6 = some r) ∧ Aside0 (kq ≤ k) ∧ Aside0 (Below w.heap.size w wc))
    case first =>
      have H := HC7.out
      clear HC7
      by_cases c9 : (a0.size : Int) > 1000
      · rw [if_pos c9] at H
        have c9b0 : decide (1000 < (a0.size : Int)) = true := decide_eq_true c9
        have c9b1 : decide (1000 < a0.size) = true := decide_eq_true (by omega)
        clear c9
        (first | rw [c9b0] | (simp only [i64_w, i32_w]; rw [c9b0]) | skip)
        have H' := Aside0.mk H
        clear H
        go_wp2
        go_meet
        case rel => exact ⟨_, (true), (by first | rfl | (simp; done) | (simp [*]; done)), H', ⟨by first | omega | exact Nat.le_refl _⟩, ⟨by repeat (first | (with_reducible first | exact HB.out | apply below_alloc | apply pw_below_drewN | apply below_drew1) | exact HB.out)⟩⟩
      · rw [if_neg c9] at H
        have c9b0 : decide (1000 < (a0.size : Int)) = false := decide_eq_false c9
        have c9b1 : decide (1000 < a0.size) = false := decide_eq_false (by omega)
        clear c9
        (first | rw [c9b0] | (simp only [i64_w, i32_w]; rw [c9b0]) | skip)
        by_cases c10 : (a1.size : Int) > 1000
        · rw [if_pos c10] at H
          have c10b0 : decide (1000 < (a1.size : Int)) = true := decide_eq_true c10
          have c10b1 : decide (1000 < a1.size) = true := decide_eq_true (by omega)
          clear c10
          have H' := Aside0.mk H
          clear H
          go_wp2
          go_meet
          case rel => exact ⟨_, (true), (by first | rfl | (simp; done) | (simp [*]; done)), H', ⟨by first | omega | exact Nat.le_refl _⟩, ⟨by repeat (first | (with_reducible first | exact HB.out | apply below_alloc | apply pw_below_drewN | apply below_drew1) | exact HB.out)⟩⟩
        · rw [if_neg c10] at H
          have c10b0 : decide (1000 < (a1.size : Int)) = false := decide_eq_false c10
          have c10b1 : decide (1000 < a1.size) = false := decide_eq_false (by omega)
          clear c10
          by_cases c11 : (a2.size : Int) > 1000
          · rw [if_pos c11] at H
            have c11b0 : decide (1000 < (a2.size : Int)) = true := decide_eq_true c11
            have c11b1 : decide (1000 < a2.size) = true := decide_eq_true (by omega)
            clear c11
            have H' := Aside0.mk H
            clear H
            go_wp2
            go_meet
            case rel => exact ⟨_, (true), (by first | rfl | (simp; done) | (simp [*]; done)), H', ⟨by first | omega | exact Nat.le_refl _⟩, ⟨by repeat (first | (with_reducible first | exact HB.out | apply below_alloc | apply pw_below_drewN | apply below_drew1) | exact HB.out)⟩⟩
          · rw [if_neg c11] at H
            have c11b0 : decide (1000 < (a2.size : Int)) = false := decide_eq_false c11
            have c11b1 : decide (1000 < a2.size) = false := decide_eq_false (by omega)
            clear c11
            by_cases c12 : a3 < 0
            · rw [if_pos c12] at H
              have c12b0 : decide (a3 < 0) = true := decide_eq_true c12
              clear c12
              have H' := Aside0.mk H
              clear H
              go_wp2
              go_meet
              case rel => exact ⟨_, (true), (by first | rfl | (simp; done) | (simp [*]; done)), H', ⟨by first | omega | exact Nat.le_refl _⟩, ⟨by repeat (first | (with_reducible first | exact HB.out | apply below_alloc | apply pw_below_drewN | apply below_drew1) | exact HB.out)⟩⟩
            · rw [if_neg c12] at H
              have c12b0 : decide (a3 < 0) = false := decide_eq_false c12
              clear c12
              have H' := Aside0.mk H
              clear H
              go_wp2
              go_meet
              case rel => exact ⟨_, (decide (a3 > (a2.size : Int))), (by first | rfl | (simp; done) | (simp [*]; done)), H', ⟨by first | omega | exact Nat.le_refl _⟩, ⟨by repeat (first | (with_reducible first | exact HB.out | apply below_alloc | apply pw_below_drewN | apply below_drew1) | exact HB.out)⟩⟩
    case rest =>
      clear HC7
      try clear c1
      try clear p2
      try clear c5
      try clear c6
      try clear c8
      try clear c9
      try clear c9b0
      try clear c9b1
      try clear c10
      try clear c10b0
      try clear c10b1
      try clear c11
      try clear c11b0
      try clear c11b1
      try clear c12
      try clear c12b0
      obtain ⟨kq, x33_6, rfl, HA, HJ6, HB⟩ := hcut
      cases kq with
      | zero => exact absurd HA.out (by simp [diptychlaw01_HexaOrder.j0])
      | succ kj6 =>
        have H := HA.out
        clear HA
        simp only [diptychlaw01_HexaOrder.j0] at H
        by_cases c13 : x33_6 = true
        · subst c13
          have H1 : (some true) = some r := by rw [if_pos rfl] at H; exact H
          clear H
          have H := H1
          clear H1
          obtain rfl := Option.some.inj H
          go_wp2
          go_ret
          exact ⟨by first | rfl | (simp [errW_none, errW_some] <;> rfl) | (simp [*, errW_none, errW_some] <;> rfl), by repeat (first | (with_reducible first | exact HB.out | apply below_alloc | apply pw_below_drewN | apply below_drew1) | exact HB.out)⟩
        · replace c13 := Bool.eq_false_iff.mpr c13
          subst c13
          have H1 : ((hexa_Digits.f kj6 a0).bind fun t159 => ((hexa_Digits.f kj6 a1).bind fun t160 => (if ((Op.bytesLess a0.toList a1.toList) == (Op.bytesLess t159.toList t160.toList)) = true then ((hexa_Begins.f kj6 a0 a2).bind fun t161 => (if t161 = true then (if 0 ≤ a3 then (if a3 ≤ (a2.size : Int) then ((hexa_Begins.f kj6 a0 (a2.extract 0 (a3 : Int).toNat)).bind fun t162 => (if t162 = true then (some ((t159.size : Int) == (wrap64 (2 * (a0.size : Int))))) else (some false))) else (none)) else (none)) else (some ((t159.size : Int) == (wrap64 (2 * (a0.size : Int))))))) else (some false)))) = some r := by rw [if_neg (show ¬ (false = true) by decide)] at H; exact H
          clear H
          have H := H1
          clear H1
          replace H := Option.bind_eq_some_iff.mp H
          obtain ⟨t159, A140, H⟩ := H
          replace H : ((hexa_Digits.f kj6 a1).bind fun t160 => (if ((Op.bytesLess a0.toList a1.toList) == (Op.bytesLess t159.toList t160.toList)) = true then ((hexa_Begins.f kj6 a0 a2).bind fun t161 => (if t161 = true then (if 0 ≤ a3 then (if a3 ≤ (a2.size : Int) then ((hexa_Begins.f kj6 a0 (a2.extract 0 (a3 : Int).toNat)).bind fun t162 => (if t162 = true then (some ((t159.size : Int) == (wrap64 (2 * (a0.size : Int))))) else (some false))) else (none)) else (none)) else (some ((t159.size : Int) == (wrap64 (2 * (a0.size : Int))))))) else (some false))) = some r := H
          have A14 := Aside0.mk A140
          clear A140
          replace H := Option.bind_eq_some_iff.mp H
          obtain ⟨t160, A150, H⟩ := H
          replace H : (if ((Op.bytesLess a0.toList a1.toList) == (Op.bytesLess t159.toList t160.toList)) = true then ((hexa_Begins.f kj6 a0 a2).bind fun t161 => (if t161 = true then (if 0 ≤ a3 then (if a3 ≤ (a2.size : Int) then ((hexa_Begins.f kj6 a0 (a2.extract 0 (a3 : Int).toNat)).bind fun t162 => (if t162 = true then (some ((t159.size : Int) == (wrap64 (2 * (a0.size : Int))))) else (some false))) else (none)) else (none)) else (some ((t159.size : Int) == (wrap64 (2 * (a0.size : Int))))))) else (some false)) = some r := H
          have A15 := Aside0.mk A150
          clear A150
          by_cases c16 : ((Op.bytesLess a0.toList a1.toList) == (Op.bytesLess t159.toList t160.toList)) = true
          · rw [if_pos c16] at H
            have c16b0 : ((Op.bytesLess a0.toList a1.toList) == (Op.bytesLess t159.toList t160.toList)) = true := c16
            (try (have c16b1 : decide ((Op.bytesLess a0.toList a1.toList) = (Op.bytesLess t159.toList t160.toList)) = true := by simpa using c16))
            (try (have c16b2 : ((Op.bytesLess a0.toList a1.toList) == (Op.bytesLess t159.toList t160.toList)) = true := by simpa using c16))
            clear c16
            replace H := Option.bind_eq_some_iff.mp H
            obtain ⟨t161, A170, H⟩ := H
            replace H : (if t161 = true then (if 0 ≤ a3 then (if a3 ≤ (a2.size : Int) then ((hexa_Begins.f kj6 a0 (a2.extract 0 (a3 : Int).toNat)).bind fun t162 => (if t162 = true then (some ((t159.size : Int) == (wrap64 (2 * (a0.size : Int))))) else (some false))) else (none)) else (none)) else (some ((t159.size : Int) == (wrap64 (2 * (a0.size : Int)))))) = some r := H
            have A17 := Aside0.mk A170
            clear A170
            by_cases c18 : t161 = true
            · subst c18
              have H1 : (if 0 ≤ a3 then (if a3 ≤ (a2.size : Int) then ((hexa_Begins.f kj6 a0 (a2.extract 0 (a3 : Int).toNat)).bind fun t162 => (if t162 = true then (some ((t159.size : Int) == (wrap64 (2 * (a0.size : Int))))) else (some false))) else (none)) else (none)) = some r := by rw [if_pos rfl] at H; exact H
              clear H
              have H := H1
              clear H1
              by_cases c19 : 0 ≤ a3
              · rw [if_pos c19] at H
                have c19b0 := eq_true c19
                have c19b1 : decide (0 ≤ a3) = true := decide_eq_true c19
                clear c19
                by_cases c20 : a3 ≤ (a2.size : Int)
                · rw [if_pos c20] at H
                  have c20b0 := eq_true c20
                  have c20b1 : decide (a3 ≤ (a2.size : Int)) = true := decide_eq_true c20
                  clear c20
                  replace H := Option.bind_eq_some_iff.mp H
                  obtain ⟨t162, A210, H⟩ := H
                  replace H : (if t162 = true then (some ((t159.size : Int) == (wrap64 (2 * (a0.size : Int))))) else (some false)) = some r := H
                  have A21 := Aside0.mk A210
                  clear A210
                  by_cases c22 : t162 = true
                  · subst c22
                    have H1 : (some ((t159.size : Int) == (wrap64 (2 * (a0.size : Int))))) = some r := by rw [if_pos rfl] at H; exact H
                    clear H
                    have H := H1
                    clear H1
                    obtain rfl := Option.some.inj H
                    go_wp2_with (first | (go_at_call 10; (with_reducible refine (hexa_Digits.calls kj6 a0 t159 _ A14.out).mono ?_); rintro e w23 ⟨rfl, hb⟩; have n0_ := Aside0.mk (below_step (by repeat (first | (with_reducible first | exact HB.out | apply below_alloc | apply pw_below_drewN | apply below_drew1) | exact HB.out)) hb); clear HB; have HB := n0_; clear n0_; (try clear hb); (try clear hb2); (try clear hk); (try clear hi)) | (go_at_call 10; (with_reducible refine (hexa_Digits.calls kj6 a1 t160 _ A15.out).mono ?_); rintro e w24 ⟨rfl, hb⟩; have n0_ := Aside0.mk (below_step (by repeat (first | (with_reducible first | exact HB.out | apply below_alloc | apply pw_below_drewN | apply below_drew1) | exact HB.out)) hb); clear HB; have HB := n0_; clear n0_; (try clear hb); (try clear hb2); (try clear hk); (try clear hi)) | (go_at_call 14; (with_reducible refine (hexa_Begins.calls kj6 a0 a2 true _ A17.out).mono ?_); rintro e w25 ⟨rfl, hb⟩; have n0_ := Aside0.mk (below_step (by repeat (first | (with_reducible first | exact HB.out | apply below_alloc | apply pw_below_drewN | apply below_drew1) | exact HB.out)) hb); clear HB; have HB := n0_; clear n0_; (try clear hb); (try clear hb2); (try clear hk); (try clear hi)) | (go_at_call 14; (with_reducible refine (hexa_Begins.calls kj6 a0 (a2.extract 0 (a3 : Int).toNat) true _ A21.out).mono ?_); rintro e w26 ⟨rfl, hb⟩; have n0_ := Aside0.mk (below_step (by repeat (first | (with_reducible first | exact HB.out | apply below_alloc | apply pw_below_drewN | apply below_drew1) | exact HB.out)) hb); clear HB; have HB := n0_; clear n0_; (try clear hb); (try clear hb2); (try clear hk); (try clear hi)) | (go_at_call 10; (with_reducible refine (hexa_Digits.calls kj6 a0 t159 _ A14.out).mono ?_); rintro e w27 ⟨rfl, hb⟩; have n0_ := Aside0.mk (below_step (by repeat (first | (with_reducible first | exact HB.out | apply below_alloc | apply pw_below_drewN | apply below_drew1) | exact HB.out)) hb); clear HB; have HB := n0_; clear n0_; (try clear hb); (try clear hb2); (try clear hk); (try clear hi)))
                    go_ret
                    exact ⟨by first | rfl | (simp [errW_none, errW_some] <;> rfl) | (simp [*, errW_none, errW_some] <;> rfl), by repeat (first | (with_reducible first | exact HB.out | apply below_alloc | apply pw_below_drewN | apply below_drew1) | exact HB.out)⟩
                  · replace c22 := Bool.eq_false_iff.mpr c22
                    subst c22
                    have H1 : (some false) = some r := by rw [if_neg (show ¬ (false = true) by decide)] at H; exact H
                    clear H
                    have H := H1
                    clear H1
                    obtain rfl := Option.some.inj H
                    go_wp2_with (first | (go_at_call 10; (with_reducible refine (hexa_Digits.calls kj6 a0 t159 _ A14.out).mono ?_); rintro e w28 ⟨rfl, hb⟩; have n0_ := Aside0.mk (below_step (by repeat (first | (with_reducible first | exact HB.out | apply below_alloc | apply pw_below_drewN | apply below_drew1) | exact HB.out)) hb); clear HB; have HB := n0_; clear n0_; (try clear hb); (try clear hb2); (try clear hk); (try clear hi)) | (go_at_call 10; (with_reducible refine (hexa_Digits.calls kj6 a1 t160 _ A15.out).mono ?_); rintro e w29 ⟨rfl, hb⟩; have n0_ := Aside0.mk (below_step (by repeat (first | (with_reducible first | exact HB.out | apply below_alloc | apply pw_below_drewN | apply below_drew1) | exact HB.out)) hb); clear HB; have HB := n0_; clear n0_; (try clear hb); (try clear hb2); (try clear hk); (try clear hi)) | (go_at_call 14; (with_reducible refine (hexa_Begins.calls kj6 a0 a2 true _ A17.out).mono ?_); rintro e w30 ⟨rfl, hb⟩; have n0_ := Aside0.mk (below_step (by repeat (first | (with_reducible first | exact HB.out | apply below_alloc | apply pw_below_drewN | apply below_drew1) | exact HB.out)) hb); clear HB; have HB := n0_; clear n0_; (try clear hb); (try clear hb2); (try clear hk); (try clear hi)) | (go_at_call 14; (with_reducible refine (hexa_Begins.calls kj6 a0 (a2.extract 0 (a3 : Int).toNat) false _ A21.out).mono ?_); rintro e w31 ⟨rfl, hb⟩; have n0_ := Aside0.mk (below_step (by repeat (first | (with_reducible first | exact HB.out | apply below_alloc | apply pw_below_drewN | apply below_drew1) | exact HB.out)) hb); clear HB; have HB := n0_; clear n0_; (try clear hb); (try clear hb2); (try clear hk); (try clear hi)))
                    go_ret
                    exact ⟨by first | rfl | (simp [errW_none, errW_some] <;> rfl) | (simp [*, errW_none, errW_some] <;> rfl), by repeat (first | (with_reducible first | exact HB.out | apply below_alloc | apply pw_below_drewN | apply below_drew1) | exact HB.out)⟩
                · rw [if_neg c20] at H
                  exact absurd H (by simp)
              · rw [if_neg c19] at H
                exact absurd H (by simp)
            · replace c18 := Bool.eq_false_iff.mpr c18
              subst c18
              have H1 : (some ((t159.size : Int) == (wrap64 (2 * (a0.size : Int))))) = some r := by rw [if_neg (show ¬ (false = true) by decide)] at H; exact H
              clear H
              have H := H1
              clear H1
              obtain rfl := Option.some.inj H
              go_wp2_with (first | (go_at_call 10; (with_reducible refine (hexa_Digits.calls kj6 a0 t159 _ A14.out).mono ?_); rintro e w32 ⟨rfl, hb⟩; have n0_ := Aside0.mk (below_step (by repeat (first | (with_reducible first | exact HB.out | apply below_alloc | apply pw_below_drewN | apply below_drew1) | exact HB.out)) hb); clear HB; have HB := n0_; clear n0_; (try clear hb); (try clear hb2); (try clear hk); (try clear hi)) | (go_at_call 10; (with_reducible refine (hexa_Digits.calls kj6 a1 t160 _ A15.out).mono ?_); rintro e w33 ⟨rfl, hb⟩; have n0_ := Aside0.mk (below_step (by repeat (first | (with_reducible first | exact HB.out | apply below_alloc | apply pw_below_drewN | apply below_drew1) | exact HB.out)) hb); clear HB; have HB := n0_; clear n0_; (try clear hb); (try clear hb2); (try clear hk); (try clear hi)) | (go_at_call 14; (with_reducible refine (hexa_Begins.calls kj6 a0 a2 false _ A17.out).mono ?_); rintro e w34 ⟨rfl, hb⟩; have n0_ := Aside0.mk (below_step (by repeat (first | (with_reducible first | exact HB.out | apply below_alloc | apply pw_below_drewN | apply below_drew1) | exact HB.out)) hb); clear HB; have HB := n0_; clear n0_; (try clear hb); (try clear hb2); (try clear hk); (try clear hi)) | (go_at_call 10; (with_reducible refine (hexa_Digits.calls kj6 a0 t159 _ A14.out).mono ?_); rintro e w35 ⟨rfl, hb⟩; have n0_ := Aside0.mk (below_step (by repeat (first | (with_reducible first | exact HB.out | apply below_alloc | apply pw_below_drewN | apply below_drew1) | exact HB.out)) hb); clear HB; have HB := n0_; clear n0_; (try clear hb); (try clear hb2); (try clear hk); (try clear hi)))
              go_ret
              exact ⟨by first | rfl | (simp [errW_none, errW_some] <;> rfl) | (simp [*, errW_none, errW_some] <;> rfl), by repeat (first | (with_reducible first | exact HB.out | apply below_alloc | apply pw_below_drewN | apply below_drew1) | exact HB.out)⟩
          · rw [if_neg c16] at H
            have c16b0 : ((Op.bytesLess a0.toList a1.toList) == (Op.bytesLess t159.toList t160.toList)) = false := by simpa using c16
            (try (have c16b1 : decide ((Op.bytesLess a0.toList a1.toList) = (Op.bytesLess t159.toList t160.toList)) = false := by simpa using c16))
            (try (have c16b2 : ((Op.bytesLess a0.toList a1.toList) == (Op.bytesLess t159.toList t160.toList)) = false := by simpa using c16))
            (try (have c16b3 : ¬ ((Op.bytesLess a0.toList a1.toList) = (Op.bytesLess t159.toList t160.toList)) := by simpa using c16))
            clear c16
            obtain rfl := Option.some.inj H
            go_wp2_with (first | (go_at_call 10; (with_reducible refine (hexa_Digits.calls kj6 a0 t159 _ A14.out).mono ?_); rintro e w36 ⟨rfl, hb⟩; have n0_ := Aside0.mk (below_step (by repeat (first | (with_reducible first | exact HB.out | apply below_alloc | apply pw_below_drewN | apply below_drew1) | exact HB.out)) hb); clear HB; have HB := n0_; clear n0_; (try clear hb); (try clear hb2); (try clear hk); (try clear hi)) | (go_at_call 10; (with_reducible refine (hexa_Digits.calls kj6 a1 t160 _ A15.out).mono ?_); rintro e w37 ⟨rfl, hb⟩; have n0_ := Aside0.mk (below_step (by repeat (first | (with_reducible first | exact HB.out | apply below_alloc | apply pw_below_drewN | apply below_drew1) | exact HB.out)) hb); clear HB; have HB := n0_; clear n0_; (try clear hb); (try clear hb2); (try clear hk); (try clear hi)))
            go_ret
            exact ⟨by first | rfl | (simp [errW_none, errW_some] <;> rfl) | (simp [*, errW_none, errW_some] <;> rfl), by repeat (first | (with_reducible first | exact HB.out | apply below_alloc | apply pw_below_drewN | apply below_drew1) | exact HB.out)⟩
  · replace c6 := Bool.eq_false_iff.mpr c6
    subst c6
    have H1 : (some false) = some r := by rw [if_neg (show ¬ (false = true) by decide)] at H; exact H
    clear H
    have H := H1
    clear H1
    obtain rfl := Option.some.inj H
    go_enter Tryd.func5, Tryd.ntmps5
    go_wp2_with (first | ((with_reducible refine gate_callee (f := 8) rfl ?_); refine goesL_ (some 9) rfl rfl Tryd.func8 (by kernel_rfl) rfl #[] rfl (by (try simp only [List.map_toArray, List.map_cons, List.map_nil]); first | done | rfl | (simp only [List.length_drop, List.length_take]; rfl)) ?_; (with_reducible refine (diptychlaw01_awake.calls k  false _ A5.out).mono ?_); rintro e w38 ⟨rfl, hb⟩; refine ⟨_, rfl, ?_⟩; have n0_ := Aside0.mk (below_step (by repeat (first | (with_reducible first | exact HB.out | apply below_alloc | apply pw_below_drewN | apply below_drew1) | exact HB.out)) hb); clear HB; have HB := n0_; clear n0_; (try clear hb); (try clear hb2); (try clear hk); (try clear hi)))
    go_ret
    exact ⟨by first | rfl | (simp [errW_none, errW_some] <;> rfl) | (simp [*, errW_none, errW_some] <;> rfl), by repeat (first | (with_reducible first | exact HB.out | apply below_alloc | apply pw_below_drewN | apply below_drew1) | exact HB.out)⟩

end Go.Proofs.YtgjnpdnmcahhfaaDoor.P
