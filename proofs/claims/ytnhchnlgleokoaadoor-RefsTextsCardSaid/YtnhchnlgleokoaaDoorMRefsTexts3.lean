/- Merged out of this session's texts by a program (wip/gen/merge.py): declarations that this claim doesn't name are left out. -/
import Derived.Test.YtnhchnlgleokoaaDoorMRefsTexts2
import Derived.Lib.SplitLaws
set_option linter.unusedVariables false
set_option linter.unusedSimpArgs false
/-! Px7 -/
section
namespace Go.Proofs.YtnhchnlgleokoaaDoor.P
open Go.RowKit Go.Proofs.YtnhchnlgleokoaaDoorW.PrintWords Go.Proofs.YtnhchnlgleokoaaDoorW.PrintLast Go.Proofs.YtnhchnlgleokoaaDoorW.PrintMore
attribute [local go_sem] max2_int min2_int max_two min_two max_three min_three max_four min_four   -- for this text's walks alone
set_option linter.unusedVariables false
set_option linter.unusedSimpArgs false
def diptychref11_TagName.l0 : Nat → ByteArray → Int → Option (Bool)
  | 0, _, _ => none
  | k + 1, x0, x3 => if x3 < (x0.size : Int) then (if 0 ≤ x3 then (if (bt x0 x3) ≥ 97 then (if (bt x0 x3) ≤ 122 then (diptychref11_TagName.l0 k x0 (wrap64 (x3 + 1))) else (if (bt x0 x3) ≥ 65 then (if (bt x0 x3) ≤ 90 then (diptychref11_TagName.l0 k x0 (wrap64 (x3 + 1))) else (if (bt x0 x3) ≥ 48 then (if (bt x0 x3) ≤ 57 then (diptychref11_TagName.l0 k x0 (wrap64 (x3 + 1))) else (if (bt x0 x3) = 46 then (diptychref11_TagName.l0 k x0 (wrap64 (x3 + 1))) else (if (bt x0 x3) = 95 then (diptychref11_TagName.l0 k x0 (wrap64 (x3 + 1))) else (if (bt x0 x3) = 45 then (diptychref11_TagName.l0 k x0 (wrap64 (x3 + 1))) else (if ((bt x0 x3) = 47) then (diptychref11_TagName.l0 k x0 (wrap64 (x3 + 1))) else (some false)))))) else (if (bt x0 x3) = 46 then (diptychref11_TagName.l0 k x0 (wrap64 (x3 + 1))) else (if (bt x0 x3) = 95 then (diptychref11_TagName.l0 k x0 (wrap64 (x3 + 1))) else (if (bt x0 x3) = 45 then (diptychref11_TagName.l0 k x0 (wrap64 (x3 + 1))) else (if ((bt x0 x3) = 47) then (diptychref11_TagName.l0 k x0 (wrap64 (x3 + 1))) else (some false))))))) else (if (bt x0 x3) ≥ 48 then (if (bt x0 x3) ≤ 57 then (diptychref11_TagName.l0 k x0 (wrap64 (x3 + 1))) else (if (bt x0 x3) = 46 then (diptychref11_TagName.l0 k x0 (wrap64 (x3 + 1))) else (if (bt x0 x3) = 95 then (diptychref11_TagName.l0 k x0 (wrap64 (x3 + 1))) else (if (bt x0 x3) = 45 then (diptychref11_TagName.l0 k x0 (wrap64 (x3 + 1))) else (if ((bt x0 x3) = 47) then (diptychref11_TagName.l0 k x0 (wrap64 (x3 + 1))) else (some false)))))) else (if (bt x0 x3) = 46 then (diptychref11_TagName.l0 k x0 (wrap64 (x3 + 1))) else (if (bt x0 x3) = 95 then (diptychref11_TagName.l0 k x0 (wrap64 (x3 + 1))) else (if (bt x0 x3) = 45 then (diptychref11_TagName.l0 k x0 (wrap64 (x3 + 1))) else (if ((bt x0 x3) = 47) then (diptychref11_TagName.l0 k x0 (wrap64 (x3 + 1))) else (some false)))))))) else (if (bt x0 x3) ≥ 65 then (if (bt x0 x3) ≤ 90 then (diptychref11_TagName.l0 k x0 (wrap64 (x3 + 1))) else (if (bt x0 x3) ≥ 48 then (if (bt x0 x3) ≤ 57 then (diptychref11_TagName.l0 k x0 (wrap64 (x3 + 1))) else (if (bt x0 x3) = 46 then (diptychref11_TagName.l0 k x0 (wrap64 (x3 + 1))) else (if (bt x0 x3) = 95 then (diptychref11_TagName.l0 k x0 (wrap64 (x3 + 1))) else (if (bt x0 x3) = 45 then (diptychref11_TagName.l0 k x0 (wrap64 (x3 + 1))) else (if ((bt x0 x3) = 47) then (diptychref11_TagName.l0 k x0 (wrap64 (x3 + 1))) else (some false)))))) else (if (bt x0 x3) = 46 then (diptychref11_TagName.l0 k x0 (wrap64 (x3 + 1))) else (if (bt x0 x3) = 95 then (diptychref11_TagName.l0 k x0 (wrap64 (x3 + 1))) else (if (bt x0 x3) = 45 then (diptychref11_TagName.l0 k x0 (wrap64 (x3 + 1))) else (if ((bt x0 x3) = 47) then (diptychref11_TagName.l0 k x0 (wrap64 (x3 + 1))) else (some false))))))) else (if (bt x0 x3) ≥ 48 then (if (bt x0 x3) ≤ 57 then (diptychref11_TagName.l0 k x0 (wrap64 (x3 + 1))) else (if (bt x0 x3) = 46 then (diptychref11_TagName.l0 k x0 (wrap64 (x3 + 1))) else (if (bt x0 x3) = 95 then (diptychref11_TagName.l0 k x0 (wrap64 (x3 + 1))) else (if (bt x0 x3) = 45 then (diptychref11_TagName.l0 k x0 (wrap64 (x3 + 1))) else (if ((bt x0 x3) = 47) then (diptychref11_TagName.l0 k x0 (wrap64 (x3 + 1))) else (some false)))))) else (if (bt x0 x3) = 46 then (diptychref11_TagName.l0 k x0 (wrap64 (x3 + 1))) else (if (bt x0 x3) = 95 then (diptychref11_TagName.l0 k x0 (wrap64 (x3 + 1))) else (if (bt x0 x3) = 45 then (diptychref11_TagName.l0 k x0 (wrap64 (x3 + 1))) else (if ((bt x0 x3) = 47) then (diptychref11_TagName.l0 k x0 (wrap64 (x3 + 1))) else (some false)))))))) else (none)) else (if (x0.size : Int) ≥ 1 then (some (decide ((x0.size : Int) ≤ 64))) else (some false))
def diptychref11_TagName.f (k : Nat) (a0 : ByteArray) : Option (Bool) := diptychref11_TagName.l0 k a0 0
theorem diptychref11_TagName.mono_l : ∀ k, (∀ y0 y1, LeO (diptychref11_TagName.l0 k y0 y1) (diptychref11_TagName.l0 (k + 1) y0 y1))
  | 0 => fun _ _ r h => by simp [diptychref11_TagName.l0] at h
  | k + 1 => by
    have ih0 := diptychref11_TagName.mono_l k
    · intro y0 y1
      unfold diptychref11_TagName.l0
      repeat' first
      | (with_reducible exact ih0 _ _)
      | (with_reducible exact LeO.refl _)
      | (with_reducible exact LeO.none _)
      | (with_reducible refine LeO.ite ?_ ?_)
      | (with_reducible refine LeO.bind ?_ (fun _ => ?_))
      | exact ih0 _ _
      | exact LeO.none _
      | refine LeO.ite ?_ ?_
      | refine LeO.bind ?_ (fun _ => ?_)
theorem diptychref11_TagName.mono : ∀ a0 k, LeO (diptychref11_TagName.f k a0) (diptychref11_TagName.f (k + 1) a0) := by
  intro a0 k
  have ih0 := diptychref11_TagName.mono_l k
  unfold diptychref11_TagName.f
  repeat' first
      | (with_reducible exact ih0 _ _)
      | (with_reducible exact LeO.refl _)
      | (with_reducible exact LeO.none _)
      | (with_reducible refine LeO.ite ?_ ?_)
      | (with_reducible refine LeO.bind ?_ (fun _ => ?_))
      | exact ih0 _ _
      | exact LeO.none _
      | refine LeO.ite ?_ ?_
      | refine LeO.bind ?_ (fun _ => ?_)
set_option maxHeartbeats 8000000 in
set_option maxRecDepth 100000 in
theorem diptychref11_TagName.calls (k : Nat) (a0 : ByteArray) (r : Bool) (w : World) (h : diptychref11_TagName.f k a0 = some r) :
    Calls Tryd.prog 49 #[.string a0] w fun e w' => e = .returned (.bool r) ∧ Drawn0 w w' := by
  have H : (diptychref11_TagName.l0 k a0 0) = some r := h
  clear h
  have H' := Aside0.mk H
  clear H
  go_enter Tryd.func49, Tryd.ntmps49
  go_wp2
  go_loopg [3] k (fun kq v3 w' => ∃ (x3_1 : Int), v3 = .int .i64 x3_1 ∧ Aside0 (diptychref11_TagName.l0 kq a0 x3_1 = some r) ∧ Aside0 (kq ≤ k) ∧ Drawn0 w w')
  case atStart => exact ⟨(0), (by first | rfl | (simp; done) | (simp [*]; done)), H', ⟨Nat.le_refl _⟩, by repeat (first | exact Drawn0.refl _ | apply Drawn0.step)⟩
  case round =>
    clear H'
    obtain ⟨x3_1, rfl, HA, HK1, ⟨m1, rfl⟩⟩ := hrel
    cases gk with
    | zero => exact absurd HA.out (by simp [diptychref11_TagName.l0])
    | succ k1 =>
      have H := HA.out
      clear HA
      simp only [diptychref11_TagName.l0] at H
      by_cases c2 : x3_1 < (a0.size : Int)
      · rw [if_pos c2] at H
        have c2b0 : decide (x3_1 < (a0.size : Int)) = true := decide_eq_true c2
        clear c2
        by_cases c3 : 0 ≤ x3_1
        · rw [if_pos c3] at H
          have c3b0 : decide (0 ≤ x3_1) = true := decide_eq_true c3
          clear c3
          by_cases c5 : (bt a0 x3_1) ≥ 97
          · rw [if_pos c5] at H
            have c5b0 : decide (97 ≤ (bt a0 x3_1)) = true := decide_eq_true c5
            clear c5
            by_cases c6 : (bt a0 x3_1) ≤ 122
            · rw [if_pos c6] at H
              have c6b0 : decide ((bt a0 x3_1) ≤ 122) = true := decide_eq_true c6
              clear c6
              have H' := Aside0.mk H
              clear H
              have p4 : 0 ≤ (x3_1 : Int) := of_decide_eq_true (by first | (with_reducible assumption) | assumption)
              have q4 : x3_1 < (a0.size : Int) := of_decide_eq_true (by first | (with_reducible assumption) | assumption)
              have hx4 := bt_at a0 x3_1
              replace p4 := eq_true p4
              replace q4 := eq_true q4
              go_wp2
              go_roundg k1
              case measure => have := HK1.out; omega
              case rel => exact ⟨(wrap64 (x3_1 + 1)), (by first | rfl | (simp; done) | (simp [*]; done)), H', ⟨by have := HK1.out; omega⟩, by repeat (first | exact Drawn0.refl _ | apply Drawn0.step)⟩
            · rw [if_neg c6] at H
              have c6b0 : decide ((bt a0 x3_1) ≤ 122) = false := decide_eq_false c6
              clear c6
              by_cases c7 : (bt a0 x3_1) ≥ 65
              · rw [if_pos c7] at H
                have c7b0 : decide (65 ≤ (bt a0 x3_1)) = true := decide_eq_true c7
                clear c7
                by_cases c8 : (bt a0 x3_1) ≤ 90
                · rw [if_pos c8] at H
                  have c8b0 : decide ((bt a0 x3_1) ≤ 90) = true := decide_eq_true c8
                  clear c8
                  have H' := Aside0.mk H
                  clear H
                  have p4 : 0 ≤ (x3_1 : Int) := of_decide_eq_true (by first | (with_reducible assumption) | assumption)
                  have q4 : x3_1 < (a0.size : Int) := of_decide_eq_true (by first | (with_reducible assumption) | assumption)
                  have hx4 := bt_at a0 x3_1
                  replace p4 := eq_true p4
                  replace q4 := eq_true q4
                  go_wp2
                  go_roundg k1
                  case measure => have := HK1.out; omega
                  case rel => exact ⟨(wrap64 (x3_1 + 1)), (by first | rfl | (simp; done) | (simp [*]; done)), H', ⟨by have := HK1.out; omega⟩, by repeat (first | exact Drawn0.refl _ | apply Drawn0.step)⟩
                · rw [if_neg c8] at H
                  have c8b0 : decide ((bt a0 x3_1) ≤ 90) = false := decide_eq_false c8
                  clear c8
                  by_cases c9 : (bt a0 x3_1) ≥ 48
                  · rw [if_pos c9] at H
                    have c9b0 : decide (48 ≤ (bt a0 x3_1)) = true := decide_eq_true c9
                    clear c9
                    by_cases c10 : (bt a0 x3_1) ≤ 57
                    · rw [if_pos c10] at H
                      have c10b0 : decide ((bt a0 x3_1) ≤ 57) = true := decide_eq_true c10
                      clear c10
                      have H' := Aside0.mk H
                      clear H
                      have p4 : 0 ≤ (x3_1 : Int) := of_decide_eq_true (by first | (with_reducible assumption) | assumption)
                      have q4 : x3_1 < (a0.size : Int) := of_decide_eq_true (by first | (with_reducible assumption) | assumption)
                      have hx4 := bt_at a0 x3_1
                      replace p4 := eq_true p4
                      replace q4 := eq_true q4
                      go_wp2
                      go_roundg k1
                      case measure => have := HK1.out; omega
                      case rel => exact ⟨(wrap64 (x3_1 + 1)), (by first | rfl | (simp; done) | (simp [*]; done)), H', ⟨by have := HK1.out; omega⟩, by repeat (first | exact Drawn0.refl _ | apply Drawn0.step)⟩
                    · rw [if_neg c10] at H
                      have c10b0 : decide ((bt a0 x3_1) ≤ 57) = false := decide_eq_false c10
                      clear c10
                      by_cases c11 : (bt a0 x3_1) = 46
                      · rw [if_pos c11] at H
                        have c11b0 : ((bt a0 x3_1) == 46) = true := beq_iff_eq.mpr c11
                        have c11b1 : ((bt a0 x3_1) != 46) = false := bne_eq_false_iff_eq.mpr c11
                        clear c11
                        have H' := Aside0.mk H
                        clear H
                        have p4 : 0 ≤ (x3_1 : Int) := of_decide_eq_true (by first | (with_reducible assumption) | assumption)
                        have q4 : x3_1 < (a0.size : Int) := of_decide_eq_true (by first | (with_reducible assumption) | assumption)
                        have hx4 := bt_at a0 x3_1
                        replace p4 := eq_true p4
                        replace q4 := eq_true q4
                        go_wp2
                        go_roundg k1
                        case measure => have := HK1.out; omega
                        case rel => exact ⟨(wrap64 (x3_1 + 1)), (by first | rfl | (simp; done) | (simp [*]; done)), H', ⟨by have := HK1.out; omega⟩, by repeat (first | exact Drawn0.refl _ | apply Drawn0.step)⟩
                      · rw [if_neg c11] at H
                        have c11b0 : ((bt a0 x3_1) == 46) = false := beq_eq_false_iff_ne.mpr c11
                        have c11b1 : ((bt a0 x3_1) != 46) = true := bne_iff_ne.mpr c11
                        by_cases c12 : (bt a0 x3_1) = 95
                        · rw [if_pos c12] at H
                          have c12b0 : ((bt a0 x3_1) == 95) = true := beq_iff_eq.mpr c12
                          have c12b1 : ((bt a0 x3_1) != 95) = false := bne_eq_false_iff_eq.mpr c12
                          clear c12
                          have H' := Aside0.mk H
                          clear H
                          have p4 : 0 ≤ (x3_1 : Int) := of_decide_eq_true (by first | (with_reducible assumption) | assumption)
                          have q4 : x3_1 < (a0.size : Int) := of_decide_eq_true (by first | (with_reducible assumption) | assumption)
                          have hx4 := bt_at a0 x3_1
                          replace p4 := eq_true p4
                          replace q4 := eq_true q4
                          go_wp2
                          go_roundg k1
                          case measure => have := HK1.out; omega
                          case rel => exact ⟨(wrap64 (x3_1 + 1)), (by first | rfl | (simp; done) | (simp [*]; done)), H', ⟨by have := HK1.out; omega⟩, by repeat (first | exact Drawn0.refl _ | apply Drawn0.step)⟩
                        · rw [if_neg c12] at H
                          have c12b0 : ((bt a0 x3_1) == 95) = false := beq_eq_false_iff_ne.mpr c12
                          have c12b1 : ((bt a0 x3_1) != 95) = true := bne_iff_ne.mpr c12
                          by_cases c13 : (bt a0 x3_1) = 45
                          · rw [if_pos c13] at H
                            have c13b0 : ((bt a0 x3_1) == 45) = true := beq_iff_eq.mpr c13
                            have c13b1 : ((bt a0 x3_1) != 45) = false := bne_eq_false_iff_eq.mpr c13
                            clear c13
                            have H' := Aside0.mk H
                            clear H
                            have p4 : 0 ≤ (x3_1 : Int) := of_decide_eq_true (by first | (with_reducible assumption) | assumption)
                            have q4 : x3_1 < (a0.size : Int) := of_decide_eq_true (by first | (with_reducible assumption) | assumption)
                            have hx4 := bt_at a0 x3_1
                            replace p4 := eq_true p4
                            replace q4 := eq_true q4
                            go_wp2
                            go_roundg k1
                            case measure => have := HK1.out; omega
                            case rel => exact ⟨(wrap64 (x3_1 + 1)), (by first | rfl | (simp; done) | (simp [*]; done)), H', ⟨by have := HK1.out; omega⟩, by repeat (first | exact Drawn0.refl _ | apply Drawn0.step)⟩
                          · rw [if_neg c13] at H
                            have c13b0 : ((bt a0 x3_1) == 45) = false := beq_eq_false_iff_ne.mpr c13
                            have c13b1 : ((bt a0 x3_1) != 45) = true := bne_iff_ne.mpr c13
                            by_cases c14 : ((bt a0 x3_1) = 47)
                            · rw [if_pos c14] at H
                              have c14b0 : ((bt a0 x3_1) == 47) = true := beq_iff_eq.mpr c14
                              have c14b1 : ((bt a0 x3_1) != 47) = false := bne_eq_false_iff_eq.mpr c14
                              clear c14
                              have H' := Aside0.mk H
                              clear H
                              have p4 : 0 ≤ (x3_1 : Int) := of_decide_eq_true (by first | (with_reducible assumption) | assumption)
                              have q4 : x3_1 < (a0.size : Int) := of_decide_eq_true (by first | (with_reducible assumption) | assumption)
                              have hx4 := bt_at a0 x3_1
                              replace p4 := eq_true p4
                              replace q4 := eq_true q4
                              go_wp2
                              go_roundg k1
                              case measure => have := HK1.out; omega
                              case rel => exact ⟨(wrap64 (x3_1 + 1)), (by first | rfl | (simp; done) | (simp [*]; done)), H', ⟨by have := HK1.out; omega⟩, by repeat (first | exact Drawn0.refl _ | apply Drawn0.step)⟩
                            · rw [if_neg c14] at H
                              have c14b0 : ((bt a0 x3_1) == 47) = false := beq_eq_false_iff_ne.mpr c14
                              have c14b1 : ((bt a0 x3_1) != 47) = true := bne_iff_ne.mpr c14
                              obtain rfl := Option.some.inj H
                              have p4 : 0 ≤ (x3_1 : Int) := of_decide_eq_true (by first | (with_reducible assumption) | assumption)
                              have q4 : x3_1 < (a0.size : Int) := of_decide_eq_true (by first | (with_reducible assumption) | assumption)
                              have hx4 := bt_at a0 x3_1
                              replace p4 := eq_true p4
                              replace q4 := eq_true q4
                              go_wp2
                              go_ret
                              exact ⟨by first | rfl | (simp; done) | (simp [*]; done), by repeat (first | exact Drawn0.refl _ | apply Drawn0.step)⟩
                  · rw [if_neg c9] at H
                    have c9b0 : decide (48 ≤ (bt a0 x3_1)) = false := decide_eq_false c9
                    clear c9
                    by_cases c15 : (bt a0 x3_1) = 46
                    · rw [if_pos c15] at H
                      have c15b0 : ((bt a0 x3_1) == 46) = true := beq_iff_eq.mpr c15
                      have c15b1 : ((bt a0 x3_1) != 46) = false := bne_eq_false_iff_eq.mpr c15
                      clear c15
                      have H' := Aside0.mk H
                      clear H
                      have p4 : 0 ≤ (x3_1 : Int) := of_decide_eq_true (by first | (with_reducible assumption) | assumption)
                      have q4 : x3_1 < (a0.size : Int) := of_decide_eq_true (by first | (with_reducible assumption) | assumption)
                      have hx4 := bt_at a0 x3_1
                      replace p4 := eq_true p4
                      replace q4 := eq_true q4
                      go_wp2
                      go_roundg k1
                      case measure => have := HK1.out; omega
                      case rel => exact ⟨(wrap64 (x3_1 + 1)), (by first | rfl | (simp; done) | (simp [*]; done)), H', ⟨by have := HK1.out; omega⟩, by repeat (first | exact Drawn0.refl _ | apply Drawn0.step)⟩
                    · rw [if_neg c15] at H
                      have c15b0 : ((bt a0 x3_1) == 46) = false := beq_eq_false_iff_ne.mpr c15
                      have c15b1 : ((bt a0 x3_1) != 46) = true := bne_iff_ne.mpr c15
                      by_cases c16 : (bt a0 x3_1) = 95
                      · rw [if_pos c16] at H
                        have c16b0 : ((bt a0 x3_1) == 95) = true := beq_iff_eq.mpr c16
                        have c16b1 : ((bt a0 x3_1) != 95) = false := bne_eq_false_iff_eq.mpr c16
                        clear c16
                        have H' := Aside0.mk H
                        clear H
                        have p4 : 0 ≤ (x3_1 : Int) := of_decide_eq_true (by first | (with_reducible assumption) | assumption)
                        have q4 : x3_1 < (a0.size : Int) := of_decide_eq_true (by first | (with_reducible assumption) | assumption)
                        have hx4 := bt_at a0 x3_1
                        replace p4 := eq_true p4
                        replace q4 := eq_true q4
                        go_wp2
                        go_roundg k1
                        case measure => have := HK1.out; omega
                        case rel => exact ⟨(wrap64 (x3_1 + 1)), (by first | rfl | (simp; done) | (simp [*]; done)), H', ⟨by have := HK1.out; omega⟩, by repeat (first | exact Drawn0.refl _ | apply Drawn0.step)⟩
                      · rw [if_neg c16] at H
                        have c16b0 : ((bt a0 x3_1) == 95) = false := beq_eq_false_iff_ne.mpr c16
                        have c16b1 : ((bt a0 x3_1) != 95) = true := bne_iff_ne.mpr c16
                        by_cases c17 : (bt a0 x3_1) = 45
                        · rw [if_pos c17] at H
                          have c17b0 : ((bt a0 x3_1) == 45) = true := beq_iff_eq.mpr c17
                          have c17b1 : ((bt a0 x3_1) != 45) = false := bne_eq_false_iff_eq.mpr c17
                          clear c17
                          have H' := Aside0.mk H
                          clear H
                          have p4 : 0 ≤ (x3_1 : Int) := of_decide_eq_true (by first | (with_reducible assumption) | assumption)
                          have q4 : x3_1 < (a0.size : Int) := of_decide_eq_true (by first | (with_reducible assumption) | assumption)
                          have hx4 := bt_at a0 x3_1
                          replace p4 := eq_true p4
                          replace q4 := eq_true q4
                          go_wp2
                          go_roundg k1
                          case measure => have := HK1.out; omega
                          case rel => exact ⟨(wrap64 (x3_1 + 1)), (by first | rfl | (simp; done) | (simp [*]; done)), H', ⟨by have := HK1.out; omega⟩, by repeat (first | exact Drawn0.refl _ | apply Drawn0.step)⟩
                        · rw [if_neg c17] at H
                          have c17b0 : ((bt a0 x3_1) == 45) = false := beq_eq_false_iff_ne.mpr c17
                          have c17b1 : ((bt a0 x3_1) != 45) = true := bne_iff_ne.mpr c17
                          by_cases c18 : ((bt a0 x3_1) = 47)
                          · rw [if_pos c18] at H
                            have c18b0 : ((bt a0 x3_1) == 47) = true := beq_iff_eq.mpr c18
                            have c18b1 : ((bt a0 x3_1) != 47) = false := bne_eq_false_iff_eq.mpr c18
                            clear c18
                            have H' := Aside0.mk H
                            clear H
                            have p4 : 0 ≤ (x3_1 : Int) := of_decide_eq_true (by first | (with_reducible assumption) | assumption)
                            have q4 : x3_1 < (a0.size : Int) := of_decide_eq_true (by first | (with_reducible assumption) | assumption)
                            have hx4 := bt_at a0 x3_1
                            replace p4 := eq_true p4
                            replace q4 := eq_true q4
                            go_wp2
                            go_roundg k1
                            case measure => have := HK1.out; omega
                            case rel => exact ⟨(wrap64 (x3_1 + 1)), (by first | rfl | (simp; done) | (simp [*]; done)), H', ⟨by have := HK1.out; omega⟩, by repeat (first | exact Drawn0.refl _ | apply Drawn0.step)⟩
                          · rw [if_neg c18] at H
                            have c18b0 : ((bt a0 x3_1) == 47) = false := beq_eq_false_iff_ne.mpr c18
                            have c18b1 : ((bt a0 x3_1) != 47) = true := bne_iff_ne.mpr c18
                            obtain rfl := Option.some.inj H
                            have p4 : 0 ≤ (x3_1 : Int) := of_decide_eq_true (by first | (with_reducible assumption) | assumption)
                            have q4 : x3_1 < (a0.size : Int) := of_decide_eq_true (by first | (with_reducible assumption) | assumption)
                            have hx4 := bt_at a0 x3_1
                            replace p4 := eq_true p4
                            replace q4 := eq_true q4
                            go_wp2
                            go_ret
                            exact ⟨by first | rfl | (simp; done) | (simp [*]; done), by repeat (first | exact Drawn0.refl _ | apply Drawn0.step)⟩
              · rw [if_neg c7] at H
                have c7b0 : decide (65 ≤ (bt a0 x3_1)) = false := decide_eq_false c7
                clear c7
                by_cases c19 : (bt a0 x3_1) ≥ 48
                · rw [if_pos c19] at H
                  have c19b0 : decide (48 ≤ (bt a0 x3_1)) = true := decide_eq_true c19
                  clear c19
                  by_cases c20 : (bt a0 x3_1) ≤ 57
                  · rw [if_pos c20] at H
                    have c20b0 : decide ((bt a0 x3_1) ≤ 57) = true := decide_eq_true c20
                    clear c20
                    have H' := Aside0.mk H
                    clear H
                    have p4 : 0 ≤ (x3_1 : Int) := of_decide_eq_true (by first | (with_reducible assumption) | assumption)
                    have q4 : x3_1 < (a0.size : Int) := of_decide_eq_true (by first | (with_reducible assumption) | assumption)
                    have hx4 := bt_at a0 x3_1
                    replace p4 := eq_true p4
                    replace q4 := eq_true q4
                    go_wp2
                    go_roundg k1
                    case measure => have := HK1.out; omega
                    case rel => exact ⟨(wrap64 (x3_1 + 1)), (by first | rfl | (simp; done) | (simp [*]; done)), H', ⟨by have := HK1.out; omega⟩, by repeat (first | exact Drawn0.refl _ | apply Drawn0.step)⟩
                  · rw [if_neg c20] at H
                    have c20b0 : decide ((bt a0 x3_1) ≤ 57) = false := decide_eq_false c20
                    clear c20
                    by_cases c21 : (bt a0 x3_1) = 46
                    · rw [if_pos c21] at H
                      have c21b0 : ((bt a0 x3_1) == 46) = true := beq_iff_eq.mpr c21
                      have c21b1 : ((bt a0 x3_1) != 46) = false := bne_eq_false_iff_eq.mpr c21
                      clear c21
                      have H' := Aside0.mk H
                      clear H
                      have p4 : 0 ≤ (x3_1 : Int) := of_decide_eq_true (by first | (with_reducible assumption) | assumption)
                      have q4 : x3_1 < (a0.size : Int) := of_decide_eq_true (by first | (with_reducible assumption) | assumption)
                      have hx4 := bt_at a0 x3_1
                      replace p4 := eq_true p4
                      replace q4 := eq_true q4
                      go_wp2
                      go_roundg k1
                      case measure => have := HK1.out; omega
                      case rel => exact ⟨(wrap64 (x3_1 + 1)), (by first | rfl | (simp; done) | (simp [*]; done)), H', ⟨by have := HK1.out; omega⟩, by repeat (first | exact Drawn0.refl _ | apply Drawn0.step)⟩
                    · rw [if_neg c21] at H
                      have c21b0 : ((bt a0 x3_1) == 46) = false := beq_eq_false_iff_ne.mpr c21
                      have c21b1 : ((bt a0 x3_1) != 46) = true := bne_iff_ne.mpr c21
                      by_cases c22 : (bt a0 x3_1) = 95
                      · rw [if_pos c22] at H
                        have c22b0 : ((bt a0 x3_1) == 95) = true := beq_iff_eq.mpr c22
                        have c22b1 : ((bt a0 x3_1) != 95) = false := bne_eq_false_iff_eq.mpr c22
                        clear c22
                        have H' := Aside0.mk H
                        clear H
                        have p4 : 0 ≤ (x3_1 : Int) := of_decide_eq_true (by first | (with_reducible assumption) | assumption)
                        have q4 : x3_1 < (a0.size : Int) := of_decide_eq_true (by first | (with_reducible assumption) | assumption)
                        have hx4 := bt_at a0 x3_1
                        replace p4 := eq_true p4
                        replace q4 := eq_true q4
                        go_wp2
                        go_roundg k1
                        case measure => have := HK1.out; omega
                        case rel => exact ⟨(wrap64 (x3_1 + 1)), (by first | rfl | (simp; done) | (simp [*]; done)), H', ⟨by have := HK1.out; omega⟩, by repeat (first | exact Drawn0.refl _ | apply Drawn0.step)⟩
                      · rw [if_neg c22] at H
                        have c22b0 : ((bt a0 x3_1) == 95) = false := beq_eq_false_iff_ne.mpr c22
                        have c22b1 : ((bt a0 x3_1) != 95) = true := bne_iff_ne.mpr c22
                        by_cases c23 : (bt a0 x3_1) = 45
                        · rw [if_pos c23] at H
                          have c23b0 : ((bt a0 x3_1) == 45) = true := beq_iff_eq.mpr c23
                          have c23b1 : ((bt a0 x3_1) != 45) = false := bne_eq_false_iff_eq.mpr c23
                          clear c23
                          have H' := Aside0.mk H
                          clear H
                          have p4 : 0 ≤ (x3_1 : Int) := of_decide_eq_true (by first | (with_reducible assumption) | assumption)
                          have q4 : x3_1 < (a0.size : Int) := of_decide_eq_true (by first | (with_reducible assumption) | assumption)
                          have hx4 := bt_at a0 x3_1
                          replace p4 := eq_true p4
                          replace q4 := eq_true q4
                          go_wp2
                          go_roundg k1
                          case measure => have := HK1.out; omega
                          case rel => exact ⟨(wrap64 (x3_1 + 1)), (by first | rfl | (simp; done) | (simp [*]; done)), H', ⟨by have := HK1.out; omega⟩, by repeat (first | exact Drawn0.refl _ | apply Drawn0.step)⟩
                        · rw [if_neg c23] at H
                          have c23b0 : ((bt a0 x3_1) == 45) = false := beq_eq_false_iff_ne.mpr c23
                          have c23b1 : ((bt a0 x3_1) != 45) = true := bne_iff_ne.mpr c23
                          by_cases c24 : ((bt a0 x3_1) = 47)
                          · rw [if_pos c24] at H
                            have c24b0 : ((bt a0 x3_1) == 47) = true := beq_iff_eq.mpr c24
                            have c24b1 : ((bt a0 x3_1) != 47) = false := bne_eq_false_iff_eq.mpr c24
                            clear c24
                            have H' := Aside0.mk H
                            clear H
                            have p4 : 0 ≤ (x3_1 : Int) := of_decide_eq_true (by first | (with_reducible assumption) | assumption)
                            have q4 : x3_1 < (a0.size : Int) := of_decide_eq_true (by first | (with_reducible assumption) | assumption)
                            have hx4 := bt_at a0 x3_1
                            replace p4 := eq_true p4
                            replace q4 := eq_true q4
                            go_wp2
                            go_roundg k1
                            case measure => have := HK1.out; omega
                            case rel => exact ⟨(wrap64 (x3_1 + 1)), (by first | rfl | (simp; done) | (simp [*]; done)), H', ⟨by have := HK1.out; omega⟩, by repeat (first | exact Drawn0.refl _ | apply Drawn0.step)⟩
                          · rw [if_neg c24] at H
                            have c24b0 : ((bt a0 x3_1) == 47) = false := beq_eq_false_iff_ne.mpr c24
                            have c24b1 : ((bt a0 x3_1) != 47) = true := bne_iff_ne.mpr c24
                            obtain rfl := Option.some.inj H
                            have p4 : 0 ≤ (x3_1 : Int) := of_decide_eq_true (by first | (with_reducible assumption) | assumption)
                            have q4 : x3_1 < (a0.size : Int) := of_decide_eq_true (by first | (with_reducible assumption) | assumption)
                            have hx4 := bt_at a0 x3_1
                            replace p4 := eq_true p4
                            replace q4 := eq_true q4
                            go_wp2
                            go_ret
                            exact ⟨by first | rfl | (simp; done) | (simp [*]; done), by repeat (first | exact Drawn0.refl _ | apply Drawn0.step)⟩
                · rw [if_neg c19] at H
                  have c19b0 : decide (48 ≤ (bt a0 x3_1)) = false := decide_eq_false c19
                  clear c19
                  by_cases c25 : (bt a0 x3_1) = 46
                  · rw [if_pos c25] at H
                    have c25b0 : ((bt a0 x3_1) == 46) = true := beq_iff_eq.mpr c25
                    have c25b1 : ((bt a0 x3_1) != 46) = false := bne_eq_false_iff_eq.mpr c25
                    clear c25
                    have H' := Aside0.mk H
                    clear H
                    have p4 : 0 ≤ (x3_1 : Int) := of_decide_eq_true (by first | (with_reducible assumption) | assumption)
                    have q4 : x3_1 < (a0.size : Int) := of_decide_eq_true (by first | (with_reducible assumption) | assumption)
                    have hx4 := bt_at a0 x3_1
                    replace p4 := eq_true p4
                    replace q4 := eq_true q4
                    go_wp2
                    go_roundg k1
                    case measure => have := HK1.out; omega
                    case rel => exact ⟨(wrap64 (x3_1 + 1)), (by first | rfl | (simp; done) | (simp [*]; done)), H', ⟨by have := HK1.out; omega⟩, by repeat (first | exact Drawn0.refl _ | apply Drawn0.step)⟩
                  · rw [if_neg c25] at H
                    have c25b0 : ((bt a0 x3_1) == 46) = false := beq_eq_false_iff_ne.mpr c25
                    have c25b1 : ((bt a0 x3_1) != 46) = true := bne_iff_ne.mpr c25
                    by_cases c26 : (bt a0 x3_1) = 95
                    · rw [if_pos c26] at H
                      have c26b0 : ((bt a0 x3_1) == 95) = true := beq_iff_eq.mpr c26
                      have c26b1 : ((bt a0 x3_1) != 95) = false := bne_eq_false_iff_eq.mpr c26
                      clear c26
                      have H' := Aside0.mk H
                      clear H
                      have p4 : 0 ≤ (x3_1 : Int) := of_decide_eq_true (by first | (with_reducible assumption) | assumption)
                      have q4 : x3_1 < (a0.size : Int) := of_decide_eq_true (by first | (with_reducible assumption) | assumption)
                      have hx4 := bt_at a0 x3_1
                      replace p4 := eq_true p4
                      replace q4 := eq_true q4
                      go_wp2
                      go_roundg k1
                      case measure => have := HK1.out; omega
                      case rel => exact ⟨(wrap64 (x3_1 + 1)), (by first | rfl | (simp; done) | (simp [*]; done)), H', ⟨by have := HK1.out; omega⟩, by repeat (first | exact Drawn0.refl _ | apply Drawn0.step)⟩
                    · rw [if_neg c26] at H
                      have c26b0 : ((bt a0 x3_1) == 95) = false := beq_eq_false_iff_ne.mpr c26
                      have c26b1 : ((bt a0 x3_1) != 95) = true := bne_iff_ne.mpr c26
                      by_cases c27 : (bt a0 x3_1) = 45
                      · rw [if_pos c27] at H
                        have c27b0 : ((bt a0 x3_1) == 45) = true := beq_iff_eq.mpr c27
                        have c27b1 : ((bt a0 x3_1) != 45) = false := bne_eq_false_iff_eq.mpr c27
                        clear c27
                        have H' := Aside0.mk H
                        clear H
                        have p4 : 0 ≤ (x3_1 : Int) := of_decide_eq_true (by first | (with_reducible assumption) | assumption)
                        have q4 : x3_1 < (a0.size : Int) := of_decide_eq_true (by first | (with_reducible assumption) | assumption)
                        have hx4 := bt_at a0 x3_1
                        replace p4 := eq_true p4
                        replace q4 := eq_true q4
                        go_wp2
                        go_roundg k1
                        case measure => have := HK1.out; omega
                        case rel => exact ⟨(wrap64 (x3_1 + 1)), (by first | rfl | (simp; done) | (simp [*]; done)), H', ⟨by have := HK1.out; omega⟩, by repeat (first | exact Drawn0.refl _ | apply Drawn0.step)⟩
                      · rw [if_neg c27] at H
                        have c27b0 : ((bt a0 x3_1) == 45) = false := beq_eq_false_iff_ne.mpr c27
                        have c27b1 : ((bt a0 x3_1) != 45) = true := bne_iff_ne.mpr c27
                        by_cases c28 : ((bt a0 x3_1) = 47)
                        · rw [if_pos c28] at H
                          have c28b0 : ((bt a0 x3_1) == 47) = true := beq_iff_eq.mpr c28
                          have c28b1 : ((bt a0 x3_1) != 47) = false := bne_eq_false_iff_eq.mpr c28
                          clear c28
                          have H' := Aside0.mk H
                          clear H
                          have p4 : 0 ≤ (x3_1 : Int) := of_decide_eq_true (by first | (with_reducible assumption) | assumption)
                          have q4 : x3_1 < (a0.size : Int) := of_decide_eq_true (by first | (with_reducible assumption) | assumption)
                          have hx4 := bt_at a0 x3_1
                          replace p4 := eq_true p4
                          replace q4 := eq_true q4
                          go_wp2
                          go_roundg k1
                          case measure => have := HK1.out; omega
                          case rel => exact ⟨(wrap64 (x3_1 + 1)), (by first | rfl | (simp; done) | (simp [*]; done)), H', ⟨by have := HK1.out; omega⟩, by repeat (first | exact Drawn0.refl _ | apply Drawn0.step)⟩
                        · rw [if_neg c28] at H
                          have c28b0 : ((bt a0 x3_1) == 47) = false := beq_eq_false_iff_ne.mpr c28
                          have c28b1 : ((bt a0 x3_1) != 47) = true := bne_iff_ne.mpr c28
                          obtain rfl := Option.some.inj H
                          have p4 : 0 ≤ (x3_1 : Int) := of_decide_eq_true (by first | (with_reducible assumption) | assumption)
                          have q4 : x3_1 < (a0.size : Int) := of_decide_eq_true (by first | (with_reducible assumption) | assumption)
                          have hx4 := bt_at a0 x3_1
                          replace p4 := eq_true p4
                          replace q4 := eq_true q4
                          go_wp2
                          go_ret
                          exact ⟨by first | rfl | (simp; done) | (simp [*]; done), by repeat (first | exact Drawn0.refl _ | apply Drawn0.step)⟩
          · rw [if_neg c5] at H
            have c5b0 : decide (97 ≤ (bt a0 x3_1)) = false := decide_eq_false c5
            clear c5
            by_cases c29 : (bt a0 x3_1) ≥ 65
            · rw [if_pos c29] at H
              have c29b0 : decide (65 ≤ (bt a0 x3_1)) = true := decide_eq_true c29
              clear c29
              by_cases c30 : (bt a0 x3_1) ≤ 90
              · rw [if_pos c30] at H
                have c30b0 : decide ((bt a0 x3_1) ≤ 90) = true := decide_eq_true c30
                clear c30
                have H' := Aside0.mk H
                clear H
                have p4 : 0 ≤ (x3_1 : Int) := of_decide_eq_true (by first | (with_reducible assumption) | assumption)
                have q4 : x3_1 < (a0.size : Int) := of_decide_eq_true (by first | (with_reducible assumption) | assumption)
                have hx4 := bt_at a0 x3_1
                replace p4 := eq_true p4
                replace q4 := eq_true q4
                go_wp2
                go_roundg k1
                case measure => have := HK1.out; omega
                case rel => exact ⟨(wrap64 (x3_1 + 1)), (by first | rfl | (simp; done) | (simp [*]; done)), H', ⟨by have := HK1.out; omega⟩, by repeat (first | exact Drawn0.refl _ | apply Drawn0.step)⟩
              · rw [if_neg c30] at H
                have c30b0 : decide ((bt a0 x3_1) ≤ 90) = false := decide_eq_false c30
                clear c30
                by_cases c31 : (bt a0 x3_1) ≥ 48
                · rw [if_pos c31] at H
                  have c31b0 : decide (48 ≤ (bt a0 x3_1)) = true := decide_eq_true c31
                  clear c31
                  by_cases c32 : (bt a0 x3_1) ≤ 57
                  · rw [if_pos c32] at H
                    have c32b0 : decide ((bt a0 x3_1) ≤ 57) = true := decide_eq_true c32
                    clear c32
                    have H' := Aside0.mk H
                    clear H
                    have p4 : 0 ≤ (x3_1 : Int) := of_decide_eq_true (by first | (with_reducible assumption) | assumption)
                    have q4 : x3_1 < (a0.size : Int) := of_decide_eq_true (by first | (with_reducible assumption) | assumption)
                    have hx4 := bt_at a0 x3_1
                    replace p4 := eq_true p4
                    replace q4 := eq_true q4
                    go_wp2
                    go_roundg k1
                    case measure => have := HK1.out; omega
                    case rel => exact ⟨(wrap64 (x3_1 + 1)), (by first | rfl | (simp; done) | (simp [*]; done)), H', ⟨by have := HK1.out; omega⟩, by repeat (first | exact Drawn0.refl _ | apply Drawn0.step)⟩
                  · rw [if_neg c32] at H
                    have c32b0 : decide ((bt a0 x3_1) ≤ 57) = false := decide_eq_false c32
                    clear c32
                    by_cases c33 : (bt a0 x3_1) = 46
                    · rw [if_pos c33] at H
                      have c33b0 : ((bt a0 x3_1) == 46) = true := beq_iff_eq.mpr c33
                      have c33b1 : ((bt a0 x3_1) != 46) = false := bne_eq_false_iff_eq.mpr c33
                      clear c33
                      have H' := Aside0.mk H
                      clear H
                      have p4 : 0 ≤ (x3_1 : Int) := of_decide_eq_true (by first | (with_reducible assumption) | assumption)
                      have q4 : x3_1 < (a0.size : Int) := of_decide_eq_true (by first | (with_reducible assumption) | assumption)
                      have hx4 := bt_at a0 x3_1
                      replace p4 := eq_true p4
                      replace q4 := eq_true q4
                      go_wp2
                      go_roundg k1
                      case measure => have := HK1.out; omega
                      case rel => exact ⟨(wrap64 (x3_1 + 1)), (by first | rfl | (simp; done) | (simp [*]; done)), H', ⟨by have := HK1.out; omega⟩, by repeat (first | exact Drawn0.refl _ | apply Drawn0.step)⟩
                    · rw [if_neg c33] at H
                      have c33b0 : ((bt a0 x3_1) == 46) = false := beq_eq_false_iff_ne.mpr c33
                      have c33b1 : ((bt a0 x3_1) != 46) = true := bne_iff_ne.mpr c33
                      by_cases c34 : (bt a0 x3_1) = 95
                      · rw [if_pos c34] at H
                        have c34b0 : ((bt a0 x3_1) == 95) = true := beq_iff_eq.mpr c34
                        have c34b1 : ((bt a0 x3_1) != 95) = false := bne_eq_false_iff_eq.mpr c34
                        clear c34
                        have H' := Aside0.mk H
                        clear H
                        have p4 : 0 ≤ (x3_1 : Int) := of_decide_eq_true (by first | (with_reducible assumption) | assumption)
                        have q4 : x3_1 < (a0.size : Int) := of_decide_eq_true (by first | (with_reducible assumption) | assumption)
                        have hx4 := bt_at a0 x3_1
                        replace p4 := eq_true p4
                        replace q4 := eq_true q4
                        go_wp2
                        go_roundg k1
                        case measure => have := HK1.out; omega
                        case rel => exact ⟨(wrap64 (x3_1 + 1)), (by first | rfl | (simp; done) | (simp [*]; done)), H', ⟨by have := HK1.out; omega⟩, by repeat (first | exact Drawn0.refl _ | apply Drawn0.step)⟩
                      · rw [if_neg c34] at H
                        have c34b0 : ((bt a0 x3_1) == 95) = false := beq_eq_false_iff_ne.mpr c34
                        have c34b1 : ((bt a0 x3_1) != 95) = true := bne_iff_ne.mpr c34
                        by_cases c35 : (bt a0 x3_1) = 45
                        · rw [if_pos c35] at H
                          have c35b0 : ((bt a0 x3_1) == 45) = true := beq_iff_eq.mpr c35
                          have c35b1 : ((bt a0 x3_1) != 45) = false := bne_eq_false_iff_eq.mpr c35
                          clear c35
                          have H' := Aside0.mk H
                          clear H
                          have p4 : 0 ≤ (x3_1 : Int) := of_decide_eq_true (by first | (with_reducible assumption) | assumption)
                          have q4 : x3_1 < (a0.size : Int) := of_decide_eq_true (by first | (with_reducible assumption) | assumption)
                          have hx4 := bt_at a0 x3_1
                          replace p4 := eq_true p4
                          replace q4 := eq_true q4
                          go_wp2
                          go_roundg k1
                          case measure => have := HK1.out; omega
                          case rel => exact ⟨(wrap64 (x3_1 + 1)), (by first | rfl | (simp; done) | (simp [*]; done)), H', ⟨by have := HK1.out; omega⟩, by repeat (first | exact Drawn0.refl _ | apply Drawn0.step)⟩
                        · rw [if_neg c35] at H
                          have c35b0 : ((bt a0 x3_1) == 45) = false := beq_eq_false_iff_ne.mpr c35
                          have c35b1 : ((bt a0 x3_1) != 45) = true := bne_iff_ne.mpr c35
                          by_cases c36 : ((bt a0 x3_1) = 47)
                          · rw [if_pos c36] at H
                            have c36b0 : ((bt a0 x3_1) == 47) = true := beq_iff_eq.mpr c36
                            have c36b1 : ((bt a0 x3_1) != 47) = false := bne_eq_false_iff_eq.mpr c36
                            clear c36
                            have H' := Aside0.mk H
                            clear H
                            have p4 : 0 ≤ (x3_1 : Int) := of_decide_eq_true (by first | (with_reducible assumption) | assumption)
                            have q4 : x3_1 < (a0.size : Int) := of_decide_eq_true (by first | (with_reducible assumption) | assumption)
                            have hx4 := bt_at a0 x3_1
                            replace p4 := eq_true p4
                            replace q4 := eq_true q4
                            go_wp2
                            go_roundg k1
                            case measure => have := HK1.out; omega
                            case rel => exact ⟨(wrap64 (x3_1 + 1)), (by first | rfl | (simp; done) | (simp [*]; done)), H', ⟨by have := HK1.out; omega⟩, by repeat (first | exact Drawn0.refl _ | apply Drawn0.step)⟩
                          · rw [if_neg c36] at H
                            have c36b0 : ((bt a0 x3_1) == 47) = false := beq_eq_false_iff_ne.mpr c36
                            have c36b1 : ((bt a0 x3_1) != 47) = true := bne_iff_ne.mpr c36
                            obtain rfl := Option.some.inj H
                            have p4 : 0 ≤ (x3_1 : Int) := of_decide_eq_true (by first | (with_reducible assumption) | assumption)
                            have q4 : x3_1 < (a0.size : Int) := of_decide_eq_true (by first | (with_reducible assumption) | assumption)
                            have hx4 := bt_at a0 x3_1
                            replace p4 := eq_true p4
                            replace q4 := eq_true q4
                            go_wp2
                            go_ret
                            exact ⟨by first | rfl | (simp; done) | (simp [*]; done), by repeat (first | exact Drawn0.refl _ | apply Drawn0.step)⟩
                · rw [if_neg c31] at H
                  have c31b0 : decide (48 ≤ (bt a0 x3_1)) = false := decide_eq_false c31
                  clear c31
                  by_cases c37 : (bt a0 x3_1) = 46
                  · rw [if_pos c37] at H
                    have c37b0 : ((bt a0 x3_1) == 46) = true := beq_iff_eq.mpr c37
                    have c37b1 : ((bt a0 x3_1) != 46) = false := bne_eq_false_iff_eq.mpr c37
                    clear c37
                    have H' := Aside0.mk H
                    clear H
                    have p4 : 0 ≤ (x3_1 : Int) := of_decide_eq_true (by first | (with_reducible assumption) | assumption)
                    have q4 : x3_1 < (a0.size : Int) := of_decide_eq_true (by first | (with_reducible assumption) | assumption)
                    have hx4 := bt_at a0 x3_1
                    replace p4 := eq_true p4
                    replace q4 := eq_true q4
                    go_wp2
                    go_roundg k1
                    case measure => have := HK1.out; omega
                    case rel => exact ⟨(wrap64 (x3_1 + 1)), (by first | rfl | (simp; done) | (simp [*]; done)), H', ⟨by have := HK1.out; omega⟩, by repeat (first | exact Drawn0.refl _ | apply Drawn0.step)⟩
                  · rw [if_neg c37] at H
                    have c37b0 : ((bt a0 x3_1) == 46) = false := beq_eq_false_iff_ne.mpr c37
                    have c37b1 : ((bt a0 x3_1) != 46) = true := bne_iff_ne.mpr c37
                    by_cases c38 : (bt a0 x3_1) = 95
                    · rw [if_pos c38] at H
                      have c38b0 : ((bt a0 x3_1) == 95) = true := beq_iff_eq.mpr c38
                      have c38b1 : ((bt a0 x3_1) != 95) = false := bne_eq_false_iff_eq.mpr c38
                      clear c38
                      have H' := Aside0.mk H
                      clear H
                      have p4 : 0 ≤ (x3_1 : Int) := of_decide_eq_true (by first | (with_reducible assumption) | assumption)
                      have q4 : x3_1 < (a0.size : Int) := of_decide_eq_true (by first | (with_reducible assumption) | assumption)
                      have hx4 := bt_at a0 x3_1
                      replace p4 := eq_true p4
                      replace q4 := eq_true q4
                      go_wp2
                      go_roundg k1
                      case measure => have := HK1.out; omega
                      case rel => exact ⟨(wrap64 (x3_1 + 1)), (by first | rfl | (simp; done) | (simp [*]; done)), H', ⟨by have := HK1.out; omega⟩, by repeat (first | exact Drawn0.refl _ | apply Drawn0.step)⟩
                    · rw [if_neg c38] at H
                      have c38b0 : ((bt a0 x3_1) == 95) = false := beq_eq_false_iff_ne.mpr c38
                      have c38b1 : ((bt a0 x3_1) != 95) = true := bne_iff_ne.mpr c38
                      by_cases c39 : (bt a0 x3_1) = 45
                      · rw [if_pos c39] at H
                        have c39b0 : ((bt a0 x3_1) == 45) = true := beq_iff_eq.mpr c39
                        have c39b1 : ((bt a0 x3_1) != 45) = false := bne_eq_false_iff_eq.mpr c39
                        clear c39
                        have H' := Aside0.mk H
                        clear H
                        have p4 : 0 ≤ (x3_1 : Int) := of_decide_eq_true (by first | (with_reducible assumption) | assumption)
                        have q4 : x3_1 < (a0.size : Int) := of_decide_eq_true (by first | (with_reducible assumption) | assumption)
                        have hx4 := bt_at a0 x3_1
                        replace p4 := eq_true p4
                        replace q4 := eq_true q4
                        go_wp2
                        go_roundg k1
                        case measure => have := HK1.out; omega
                        case rel => exact ⟨(wrap64 (x3_1 + 1)), (by first | rfl | (simp; done) | (simp [*]; done)), H', ⟨by have := HK1.out; omega⟩, by repeat (first | exact Drawn0.refl _ | apply Drawn0.step)⟩
                      · rw [if_neg c39] at H
                        have c39b0 : ((bt a0 x3_1) == 45) = false := beq_eq_false_iff_ne.mpr c39
                        have c39b1 : ((bt a0 x3_1) != 45) = true := bne_iff_ne.mpr c39
                        by_cases c40 : ((bt a0 x3_1) = 47)
                        · rw [if_pos c40] at H
                          have c40b0 : ((bt a0 x3_1) == 47) = true := beq_iff_eq.mpr c40
                          have c40b1 : ((bt a0 x3_1) != 47) = false := bne_eq_false_iff_eq.mpr c40
                          clear c40
                          have H' := Aside0.mk H
                          clear H
                          have p4 : 0 ≤ (x3_1 : Int) := of_decide_eq_true (by first | (with_reducible assumption) | assumption)
                          have q4 : x3_1 < (a0.size : Int) := of_decide_eq_true (by first | (with_reducible assumption) | assumption)
                          have hx4 := bt_at a0 x3_1
                          replace p4 := eq_true p4
                          replace q4 := eq_true q4
                          go_wp2
                          go_roundg k1
                          case measure => have := HK1.out; omega
                          case rel => exact ⟨(wrap64 (x3_1 + 1)), (by first | rfl | (simp; done) | (simp [*]; done)), H', ⟨by have := HK1.out; omega⟩, by repeat (first | exact Drawn0.refl _ | apply Drawn0.step)⟩
                        · rw [if_neg c40] at H
                          have c40b0 : ((bt a0 x3_1) == 47) = false := beq_eq_false_iff_ne.mpr c40
                          have c40b1 : ((bt a0 x3_1) != 47) = true := bne_iff_ne.mpr c40
                          obtain rfl := Option.some.inj H
                          have p4 : 0 ≤ (x3_1 : Int) := of_decide_eq_true (by first | (with_reducible assumption) | assumption)
                          have q4 : x3_1 < (a0.size : Int) := of_decide_eq_true (by first | (with_reducible assumption) | assumption)
                          have hx4 := bt_at a0 x3_1
                          replace p4 := eq_true p4
                          replace q4 := eq_true q4
                          go_wp2
                          go_ret
                          exact ⟨by first | rfl | (simp; done) | (simp [*]; done), by repeat (first | exact Drawn0.refl _ | apply Drawn0.step)⟩
            · rw [if_neg c29] at H
              have c29b0 : decide (65 ≤ (bt a0 x3_1)) = false := decide_eq_false c29
              clear c29
              by_cases c41 : (bt a0 x3_1) ≥ 48
              · rw [if_pos c41] at H
                have c41b0 : decide (48 ≤ (bt a0 x3_1)) = true := decide_eq_true c41
                clear c41
                by_cases c42 : (bt a0 x3_1) ≤ 57
                · rw [if_pos c42] at H
                  have c42b0 : decide ((bt a0 x3_1) ≤ 57) = true := decide_eq_true c42
                  clear c42
                  have H' := Aside0.mk H
                  clear H
                  have p4 : 0 ≤ (x3_1 : Int) := of_decide_eq_true (by first | (with_reducible assumption) | assumption)
                  have q4 : x3_1 < (a0.size : Int) := of_decide_eq_true (by first | (with_reducible assumption) | assumption)
                  have hx4 := bt_at a0 x3_1
                  replace p4 := eq_true p4
                  replace q4 := eq_true q4
                  go_wp2
                  go_roundg k1
                  case measure => have := HK1.out; omega
                  case rel => exact ⟨(wrap64 (x3_1 + 1)), (by first | rfl | (simp; done) | (simp [*]; done)), H', ⟨by have := HK1.out; omega⟩, by repeat (first | exact Drawn0.refl _ | apply Drawn0.step)⟩
                · rw [if_neg c42] at H
                  have c42b0 : decide ((bt a0 x3_1) ≤ 57) = false := decide_eq_false c42
                  clear c42
                  by_cases c43 : (bt a0 x3_1) = 46
                  · rw [if_pos c43] at H
                    have c43b0 : ((bt a0 x3_1) == 46) = true := beq_iff_eq.mpr c43
                    have c43b1 : ((bt a0 x3_1) != 46) = false := bne_eq_false_iff_eq.mpr c43
                    clear c43
                    have H' := Aside0.mk H
                    clear H
                    have p4 : 0 ≤ (x3_1 : Int) := of_decide_eq_true (by first | (with_reducible assumption) | assumption)
                    have q4 : x3_1 < (a0.size : Int) := of_decide_eq_true (by first | (with_reducible assumption) | assumption)
                    have hx4 := bt_at a0 x3_1
                    replace p4 := eq_true p4
                    replace q4 := eq_true q4
                    go_wp2
                    go_roundg k1
                    case measure => have := HK1.out; omega
                    case rel => exact ⟨(wrap64 (x3_1 + 1)), (by first | rfl | (simp; done) | (simp [*]; done)), H', ⟨by have := HK1.out; omega⟩, by repeat (first | exact Drawn0.refl _ | apply Drawn0.step)⟩
                  · rw [if_neg c43] at H
                    have c43b0 : ((bt a0 x3_1) == 46) = false := beq_eq_false_iff_ne.mpr c43
                    have c43b1 : ((bt a0 x3_1) != 46) = true := bne_iff_ne.mpr c43
                    by_cases c44 : (bt a0 x3_1) = 95
                    · rw [if_pos c44] at H
                      have c44b0 : ((bt a0 x3_1) == 95) = true := beq_iff_eq.mpr c44
                      have c44b1 : ((bt a0 x3_1) != 95) = false := bne_eq_false_iff_eq.mpr c44
                      clear c44
                      have H' := Aside0.mk H
                      clear H
                      have p4 : 0 ≤ (x3_1 : Int) := of_decide_eq_true (by first | (with_reducible assumption) | assumption)
                      have q4 : x3_1 < (a0.size : Int) := of_decide_eq_true (by first | (with_reducible assumption) | assumption)
                      have hx4 := bt_at a0 x3_1
                      replace p4 := eq_true p4
                      replace q4 := eq_true q4
                      go_wp2
                      go_roundg k1
                      case measure => have := HK1.out; omega
                      case rel => exact ⟨(wrap64 (x3_1 + 1)), (by first | rfl | (simp; done) | (simp [*]; done)), H', ⟨by have := HK1.out; omega⟩, by repeat (first | exact Drawn0.refl _ | apply Drawn0.step)⟩
                    · rw [if_neg c44] at H
                      have c44b0 : ((bt a0 x3_1) == 95) = false := beq_eq_false_iff_ne.mpr c44
                      have c44b1 : ((bt a0 x3_1) != 95) = true := bne_iff_ne.mpr c44
                      by_cases c45 : (bt a0 x3_1) = 45
                      · rw [if_pos c45] at H
                        have c45b0 : ((bt a0 x3_1) == 45) = true := beq_iff_eq.mpr c45
                        have c45b1 : ((bt a0 x3_1) != 45) = false := bne_eq_false_iff_eq.mpr c45
                        clear c45
                        have H' := Aside0.mk H
                        clear H
                        have p4 : 0 ≤ (x3_1 : Int) := of_decide_eq_true (by first | (with_reducible assumption) | assumption)
                        have q4 : x3_1 < (a0.size : Int) := of_decide_eq_true (by first | (with_reducible assumption) | assumption)
                        have hx4 := bt_at a0 x3_1
                        replace p4 := eq_true p4
                        replace q4 := eq_true q4
                        go_wp2
                        go_roundg k1
                        case measure => have := HK1.out; omega
                        case rel => exact ⟨(wrap64 (x3_1 + 1)), (by first | rfl | (simp; done) | (simp [*]; done)), H', ⟨by have := HK1.out; omega⟩, by repeat (first | exact Drawn0.refl _ | apply Drawn0.step)⟩
                      · rw [if_neg c45] at H
                        have c45b0 : ((bt a0 x3_1) == 45) = false := beq_eq_false_iff_ne.mpr c45
                        have c45b1 : ((bt a0 x3_1) != 45) = true := bne_iff_ne.mpr c45
                        by_cases c46 : ((bt a0 x3_1) = 47)
                        · rw [if_pos c46] at H
                          have c46b0 : ((bt a0 x3_1) == 47) = true := beq_iff_eq.mpr c46
                          have c46b1 : ((bt a0 x3_1) != 47) = false := bne_eq_false_iff_eq.mpr c46
                          clear c46
                          have H' := Aside0.mk H
                          clear H
                          have p4 : 0 ≤ (x3_1 : Int) := of_decide_eq_true (by first | (with_reducible assumption) | assumption)
                          have q4 : x3_1 < (a0.size : Int) := of_decide_eq_true (by first | (with_reducible assumption) | assumption)
                          have hx4 := bt_at a0 x3_1
                          replace p4 := eq_true p4
                          replace q4 := eq_true q4
                          go_wp2
                          go_roundg k1
                          case measure => have := HK1.out; omega
                          case rel => exact ⟨(wrap64 (x3_1 + 1)), (by first | rfl | (simp; done) | (simp [*]; done)), H', ⟨by have := HK1.out; omega⟩, by repeat (first | exact Drawn0.refl _ | apply Drawn0.step)⟩
                        · rw [if_neg c46] at H
                          have c46b0 : ((bt a0 x3_1) == 47) = false := beq_eq_false_iff_ne.mpr c46
                          have c46b1 : ((bt a0 x3_1) != 47) = true := bne_iff_ne.mpr c46
                          obtain rfl := Option.some.inj H
                          have p4 : 0 ≤ (x3_1 : Int) := of_decide_eq_true (by first | (with_reducible assumption) | assumption)
                          have q4 : x3_1 < (a0.size : Int) := of_decide_eq_true (by first | (with_reducible assumption) | assumption)
                          have hx4 := bt_at a0 x3_1
                          replace p4 := eq_true p4
                          replace q4 := eq_true q4
                          go_wp2
                          go_ret
                          exact ⟨by first | rfl | (simp; done) | (simp [*]; done), by repeat (first | exact Drawn0.refl _ | apply Drawn0.step)⟩
              · rw [if_neg c41] at H
                have c41b0 : decide (48 ≤ (bt a0 x3_1)) = false := decide_eq_false c41
                clear c41
                by_cases c47 : (bt a0 x3_1) = 46
                · rw [if_pos c47] at H
                  have c47b0 : ((bt a0 x3_1) == 46) = true := beq_iff_eq.mpr c47
                  have c47b1 : ((bt a0 x3_1) != 46) = false := bne_eq_false_iff_eq.mpr c47
                  clear c47
                  have H' := Aside0.mk H
                  clear H
                  have p4 : 0 ≤ (x3_1 : Int) := of_decide_eq_true (by first | (with_reducible assumption) | assumption)
                  have q4 : x3_1 < (a0.size : Int) := of_decide_eq_true (by first | (with_reducible assumption) | assumption)
                  have hx4 := bt_at a0 x3_1
                  replace p4 := eq_true p4
                  replace q4 := eq_true q4
                  go_wp2
                  go_roundg k1
                  case measure => have := HK1.out; omega
                  case rel => exact ⟨(wrap64 (x3_1 + 1)), (by first | rfl | (simp; done) | (simp [*]; done)), H', ⟨by have := HK1.out; omega⟩, by repeat (first | exact Drawn0.refl _ | apply Drawn0.step)⟩
                · rw [if_neg c47] at H
                  have c47b0 : ((bt a0 x3_1) == 46) = false := beq_eq_false_iff_ne.mpr c47
                  have c47b1 : ((bt a0 x3_1) != 46) = true := bne_iff_ne.mpr c47
                  by_cases c48 : (bt a0 x3_1) = 95
                  · rw [if_pos c48] at H
                    have c48b0 : ((bt a0 x3_1) == 95) = true := beq_iff_eq.mpr c48
                    have c48b1 : ((bt a0 x3_1) != 95) = false := bne_eq_false_iff_eq.mpr c48
                    clear c48
                    have H' := Aside0.mk H
                    clear H
                    have p4 : 0 ≤ (x3_1 : Int) := of_decide_eq_true (by first | (with_reducible assumption) | assumption)
                    have q4 : x3_1 < (a0.size : Int) := of_decide_eq_true (by first | (with_reducible assumption) | assumption)
                    have hx4 := bt_at a0 x3_1
                    replace p4 := eq_true p4
                    replace q4 := eq_true q4
                    go_wp2
                    go_roundg k1
                    case measure => have := HK1.out; omega
                    case rel => exact ⟨(wrap64 (x3_1 + 1)), (by first | rfl | (simp; done) | (simp [*]; done)), H', ⟨by have := HK1.out; omega⟩, by repeat (first | exact Drawn0.refl _ | apply Drawn0.step)⟩
                  · rw [if_neg c48] at H
                    have c48b0 : ((bt a0 x3_1) == 95) = false := beq_eq_false_iff_ne.mpr c48
                    have c48b1 : ((bt a0 x3_1) != 95) = true := bne_iff_ne.mpr c48
                    by_cases c49 : (bt a0 x3_1) = 45
                    · rw [if_pos c49] at H
                      have c49b0 : ((bt a0 x3_1) == 45) = true := beq_iff_eq.mpr c49
                      have c49b1 : ((bt a0 x3_1) != 45) = false := bne_eq_false_iff_eq.mpr c49
                      clear c49
                      have H' := Aside0.mk H
                      clear H
                      have p4 : 0 ≤ (x3_1 : Int) := of_decide_eq_true (by first | (with_reducible assumption) | assumption)
                      have q4 : x3_1 < (a0.size : Int) := of_decide_eq_true (by first | (with_reducible assumption) | assumption)
                      have hx4 := bt_at a0 x3_1
                      replace p4 := eq_true p4
                      replace q4 := eq_true q4
                      go_wp2
                      go_roundg k1
                      case measure => have := HK1.out; omega
                      case rel => exact ⟨(wrap64 (x3_1 + 1)), (by first | rfl | (simp; done) | (simp [*]; done)), H', ⟨by have := HK1.out; omega⟩, by repeat (first | exact Drawn0.refl _ | apply Drawn0.step)⟩
                    · rw [if_neg c49] at H
                      have c49b0 : ((bt a0 x3_1) == 45) = false := beq_eq_false_iff_ne.mpr c49
                      have c49b1 : ((bt a0 x3_1) != 45) = true := bne_iff_ne.mpr c49
                      by_cases c50 : ((bt a0 x3_1) = 47)
                      · rw [if_pos c50] at H
                        have c50b0 : ((bt a0 x3_1) == 47) = true := beq_iff_eq.mpr c50
                        have c50b1 : ((bt a0 x3_1) != 47) = false := bne_eq_false_iff_eq.mpr c50
                        clear c50
                        have H' := Aside0.mk H
                        clear H
                        have p4 : 0 ≤ (x3_1 : Int) := of_decide_eq_true (by first | (with_reducible assumption) | assumption)
                        have q4 : x3_1 < (a0.size : Int) := of_decide_eq_true (by first | (with_reducible assumption) | assumption)
                        have hx4 := bt_at a0 x3_1
                        replace p4 := eq_true p4
                        replace q4 := eq_true q4
                        go_wp2
                        go_roundg k1
                        case measure => have := HK1.out; omega
                        case rel => exact ⟨(wrap64 (x3_1 + 1)), (by first | rfl | (simp; done) | (simp [*]; done)), H', ⟨by have := HK1.out; omega⟩, by repeat (first | exact Drawn0.refl _ | apply Drawn0.step)⟩
                      · rw [if_neg c50] at H
                        have c50b0 : ((bt a0 x3_1) == 47) = false := beq_eq_false_iff_ne.mpr c50
                        have c50b1 : ((bt a0 x3_1) != 47) = true := bne_iff_ne.mpr c50
                        obtain rfl := Option.some.inj H
                        have p4 : 0 ≤ (x3_1 : Int) := of_decide_eq_true (by first | (with_reducible assumption) | assumption)
                        have q4 : x3_1 < (a0.size : Int) := of_decide_eq_true (by first | (with_reducible assumption) | assumption)
                        have hx4 := bt_at a0 x3_1
                        replace p4 := eq_true p4
                        replace q4 := eq_true q4
                        go_wp2
                        go_ret
                        exact ⟨by first | rfl | (simp; done) | (simp [*]; done), by repeat (first | exact Drawn0.refl _ | apply Drawn0.step)⟩
        · rw [if_neg c3] at H
          exact absurd H (by simp)
      · rw [if_neg c2] at H
        have c2b0 : decide (x3_1 < (a0.size : Int)) = false := decide_eq_false c2
        clear c2
        by_cases c51 : (a0.size : Int) ≥ 1
        · rw [if_pos c51] at H
          have c51b0 : decide (1 ≤ (a0.size : Int)) = true := decide_eq_true c51
          have c51b1 : decide (1 ≤ a0.size) = true := decide_eq_true (by omega)
          clear c51
          obtain rfl := Option.some.inj H
          go_wp2
          go_ret
          exact ⟨by first | rfl | (simp; done) | (simp [*]; done), by repeat (first | exact Drawn0.refl _ | apply Drawn0.step)⟩
        · rw [if_neg c51] at H
          have c51b0 : decide (1 ≤ (a0.size : Int)) = false := decide_eq_false c51
          have c51b1 : decide (1 ≤ a0.size) = false := decide_eq_false (by omega)
          clear c51
          obtain rfl := Option.some.inj H
          go_wp2
          go_ret
          exact ⟨by first | rfl | (simp; done) | (simp [*]; done), by repeat (first | exact Drawn0.refl _ | apply Drawn0.step)⟩
end Go.Proofs.YtnhchnlgleokoaaDoor.P
end
/-! Px8 -/
section
namespace Go.Proofs.YtnhchnlgleokoaaDoor.P
open Go.RowKit Go.Proofs.YtnhchnlgleokoaaDoorW.PrintWords Go.Proofs.YtnhchnlgleokoaaDoorW.PrintLast Go.Proofs.YtnhchnlgleokoaaDoorW.PrintMore
attribute [local go_sem] max2_int min2_int max_two min_two max_three min_three max_four min_four   -- for this text's walks alone
set_option linter.unusedVariables false
set_option linter.unusedSimpArgs false
def diptychref20_whole.f (k : Nat) (a0 : ByteArray) : Option (Bool) := (diptychref01_Bytes.f k a0).bind fun bt134 => (if bt134.2 = 0 then (if (a0.size : Int) = 40 then (some true) else (some ((a0.size : Int) == 64))) else (some false))
theorem diptychref20_whole.mono : ∀ a0 k, LeO (diptychref20_whole.f k a0) (diptychref20_whole.f (k + 1) a0) := by
  intro a0 k
  unfold diptychref20_whole.f
  repeat' first
      | (with_reducible exact diptychref01_Bytes.mono _ _)
      | (with_reducible exact LeO.refl _)
      | (with_reducible exact LeO.none _)
      | (with_reducible refine LeO.ite ?_ ?_)
      | (with_reducible refine LeO.bind ?_ (fun _ => ?_))
      | exact diptychref01_Bytes.mono _ _
      | exact LeO.none _
      | refine LeO.ite ?_ ?_
      | refine LeO.bind ?_ (fun _ => ?_)
set_option maxHeartbeats 8000000 in
set_option maxRecDepth 100000 in
theorem diptychref20_whole.calls (k : Nat) (a0 : ByteArray) (r : Bool) (w : World) (h : diptychref20_whole.f k a0 = some r) :
    Calls Tryd.prog 50 #[.string a0] w fun e w' => e = .returned (.bool r) ∧ Below w.heap.size w w' := by
  have HB := Aside0.mk (Below.refl w.heap.size w)
  have H : ((diptychref01_Bytes.f k a0).bind fun bt134 => (if bt134.2 = 0 then (if (a0.size : Int) = 40 then (some true) else (some ((a0.size : Int) == 64))) else (some false))) = some r := h
  clear h
  replace H := Option.bind_eq_some_iff.mp H
  obtain ⟨⟨t134, t135⟩, A20, H⟩ := H
  replace H : (if t135 = 0 then (if (a0.size : Int) = 40 then (some true) else (some ((a0.size : Int) == 64))) else (some false)) = some r := H
  have A2 := Aside0.mk A20
  clear A20
  by_cases c3 : t135 = 0
  · rw [if_pos c3] at H
    have c3b0 : (t135 == 0) = true := beq_iff_eq.mpr c3
    have c3b1 : (t135 != 0) = false := bne_eq_false_iff_eq.mpr c3
    clear c3
    by_cases c4 : (a0.size : Int) = 40
    · rw [if_pos c4] at H
      have c4b0 : ((a0.size : Int) == 40) = true := beq_iff_eq.mpr c4
      have c4b1 : ((a0.size : Int) != 40) = false := bne_eq_false_iff_eq.mpr c4
      clear c4
      obtain rfl := Option.some.inj H
      go_enter Tryd.func50, Tryd.ntmps50
      go_wp2_with (first | ((with_reducible refine gate_callee (f := 47) rfl ?_); refine goesL_ (some 7) rfl rfl Tryd.func47 (by kernel_rfl) rfl #[.string a0] rfl (by (try simp only [List.map_toArray, List.map_cons, List.map_nil]); first | done | rfl | (simp only [List.length_drop, List.length_take]; rfl)) ?_; (with_reducible refine (diptychref01_Bytes.calls k a0 t134 t135 _ A2.out).mono ?_); rintro e w5 ⟨rfl, hb⟩; refine ⟨_, rfl, ?_⟩; have n0_ := Aside0.mk (below_step (by repeat (first | (with_reducible first | exact HB.out | apply below_alloc | apply pw_below_drewN | apply below_drew1) | exact HB.out)) hb); clear HB; have HB := n0_; clear n0_; (try clear hb); (try clear hb2); (try clear hk); (try clear hi)))
      go_ret
      exact ⟨by first | rfl | (simp [errW_none, errW_some] <;> rfl) | (simp [*, errW_none, errW_some] <;> rfl), by repeat (first | (with_reducible first | exact HB.out | apply below_alloc | apply pw_below_drewN | apply below_drew1) | exact HB.out)⟩
    · rw [if_neg c4] at H
      have c4b0 : ((a0.size : Int) == 40) = false := beq_eq_false_iff_ne.mpr c4
      have c4b1 : ((a0.size : Int) != 40) = true := bne_iff_ne.mpr c4
      obtain rfl := Option.some.inj H
      go_enter Tryd.func50, Tryd.ntmps50
      go_wp2_with (first | ((with_reducible refine gate_callee (f := 47) rfl ?_); refine goesL_ (some 7) rfl rfl Tryd.func47 (by kernel_rfl) rfl #[.string a0] rfl (by (try simp only [List.map_toArray, List.map_cons, List.map_nil]); first | done | rfl | (simp only [List.length_drop, List.length_take]; rfl)) ?_; (with_reducible refine (diptychref01_Bytes.calls k a0 t134 t135 _ A2.out).mono ?_); rintro e w6 ⟨rfl, hb⟩; refine ⟨_, rfl, ?_⟩; have n0_ := Aside0.mk (below_step (by repeat (first | (with_reducible first | exact HB.out | apply below_alloc | apply pw_below_drewN | apply below_drew1) | exact HB.out)) hb); clear HB; have HB := n0_; clear n0_; (try clear hb); (try clear hb2); (try clear hk); (try clear hi)))
      go_ret
      exact ⟨by first | rfl | (simp [errW_none, errW_some] <;> rfl) | (simp [*, errW_none, errW_some] <;> rfl), by repeat (first | (with_reducible first | exact HB.out | apply below_alloc | apply pw_below_drewN | apply below_drew1) | exact HB.out)⟩
  · rw [if_neg c3] at H
    have c3b0 : (t135 == 0) = false := beq_eq_false_iff_ne.mpr c3
    have c3b1 : (t135 != 0) = true := bne_iff_ne.mpr c3
    obtain rfl := Option.some.inj H
    go_enter Tryd.func50, Tryd.ntmps50
    go_wp2_with (first | ((with_reducible refine gate_callee (f := 47) rfl ?_); refine goesL_ (some 7) rfl rfl Tryd.func47 (by kernel_rfl) rfl #[.string a0] rfl (by (try simp only [List.map_toArray, List.map_cons, List.map_nil]); first | done | rfl | (simp only [List.length_drop, List.length_take]; rfl)) ?_; (with_reducible refine (diptychref01_Bytes.calls k a0 t134 t135 _ A2.out).mono ?_); rintro e w7 ⟨rfl, hb⟩; refine ⟨_, rfl, ?_⟩; have n0_ := Aside0.mk (below_step (by repeat (first | (with_reducible first | exact HB.out | apply below_alloc | apply pw_below_drewN | apply below_drew1) | exact HB.out)) hb); clear HB; have HB := n0_; clear n0_; (try clear hb); (try clear hb2); (try clear hk); (try clear hi)))
    go_ret
    exact ⟨by first | rfl | (simp [errW_none, errW_some] <;> rfl) | (simp [*, errW_none, errW_some] <;> rfl), by repeat (first | (with_reducible first | exact HB.out | apply below_alloc | apply pw_below_drewN | apply below_drew1) | exact HB.out)⟩
mutual
def diptychref20_Right.j0 : Nat → ByteArray → Bool → Option (Bool)
  | 0, _, _ => none
  | k + 1, x0, x23 => if x23 = true then (some false) else (diptychref20_Right.l0 k x0 1)
def diptychref20_Right.l0 : Nat → ByteArray → Int → Option (Bool)
  | 0, _, _ => none
  | k + 1, x0, x3 => if x3 < (x0.size : Int) then (if 0 ≤ x3 then (if (bt x0 x3) = 47 then (if 0 ≤ (wrap64 (x3 - 1)) then (if (wrap64 (x3 - 1)) < (x0.size : Int) then (if (bt x0 (wrap64 (x3 - 1))) = 47 then (some false) else (diptychref20_Right.l0 k x0 (wrap64 (x3 + 1)))) else (none)) else (none)) else (diptychref20_Right.l0 k x0 (wrap64 (x3 + 1)))) else (none)) else (some true)
end
def diptychref20_Right.f (k : Nat) (a0 : ByteArray) : Option (Bool) := (diptychref11_TagName.f k a0).bind fun t136 => (if t136 = true then ((diptychref20_whole.f k a0).bind fun t137 => (if t137 = true then (diptychref20_Right.j0 k a0 true) else (if 0 < (a0.size : Int) then (if (bt a0 0) = 47 then (diptychref20_Right.j0 k a0 true) else (if 0 ≤ (wrap64 ((a0.size : Int) - 1)) then (if (wrap64 ((a0.size : Int) - 1)) < (a0.size : Int) then (diptychref20_Right.j0 k a0 ((bt a0 (wrap64 ((a0.size : Int) - 1))) == 47)) else (none)) else (none))) else (none)))) else (diptychref20_Right.j0 k a0 true))
theorem diptychref20_Right.mono_l : ∀ k, (∀ y0 y1, LeO (diptychref20_Right.j0 k y0 y1) (diptychref20_Right.j0 (k + 1) y0 y1)) ∧ (∀ y0 y1, LeO (diptychref20_Right.l0 k y0 y1) (diptychref20_Right.l0 (k + 1) y0 y1))
  | 0 => ⟨fun _ _ r h => by simp [diptychref20_Right.j0] at h, fun _ _ r h => by simp [diptychref20_Right.l0] at h⟩
  | k + 1 => by
    obtain ⟨ih0, ih1⟩ := diptychref20_Right.mono_l k
    refine ⟨?_, ?_⟩
    · intro y0 y1
      unfold diptychref20_Right.j0
      repeat' first
      | (with_reducible exact ih0 _ _)
      | (with_reducible exact ih1 _ _)
      | (with_reducible exact diptychref11_TagName.mono _ _)
      | (with_reducible exact diptychref20_whole.mono _ _)
      | (with_reducible exact LeO.refl _)
      | (with_reducible exact LeO.none _)
      | (with_reducible refine LeO.ite ?_ ?_)
      | (with_reducible refine LeO.bind ?_ (fun _ => ?_))
      | exact ih0 _ _
      | exact ih1 _ _
      | exact diptychref11_TagName.mono _ _
      | exact diptychref20_whole.mono _ _
      | exact LeO.none _
      | refine LeO.ite ?_ ?_
      | refine LeO.bind ?_ (fun _ => ?_)
    · intro y0 y1
      unfold diptychref20_Right.l0
      repeat' first
      | (with_reducible exact ih0 _ _)
      | (with_reducible exact ih1 _ _)
      | (with_reducible exact diptychref11_TagName.mono _ _)
      | (with_reducible exact diptychref20_whole.mono _ _)
      | (with_reducible exact LeO.refl _)
      | (with_reducible exact LeO.none _)
      | (with_reducible refine LeO.ite ?_ ?_)
      | (with_reducible refine LeO.bind ?_ (fun _ => ?_))
      | exact ih0 _ _
      | exact ih1 _ _
      | exact diptychref11_TagName.mono _ _
      | exact diptychref20_whole.mono _ _
      | exact LeO.none _
      | refine LeO.ite ?_ ?_
      | refine LeO.bind ?_ (fun _ => ?_)
theorem diptychref20_Right.mono : ∀ a0 k, LeO (diptychref20_Right.f k a0) (diptychref20_Right.f (k + 1) a0) := by
  intro a0 k
  obtain ⟨ih0, ih1⟩ := diptychref20_Right.mono_l k
  unfold diptychref20_Right.f
  repeat' first
      | (with_reducible exact ih0 _ _)
      | (with_reducible exact ih1 _ _)
      | (with_reducible exact diptychref11_TagName.mono _ _)
      | (with_reducible exact diptychref20_whole.mono _ _)
      | (with_reducible exact LeO.refl _)
      | (with_reducible exact LeO.none _)
      | (with_reducible refine LeO.ite ?_ ?_)
      | (with_reducible refine LeO.bind ?_ (fun _ => ?_))
      | exact ih0 _ _
      | exact ih1 _ _
      | exact diptychref11_TagName.mono _ _
      | exact diptychref20_whole.mono _ _
      | exact LeO.none _
      | refine LeO.ite ?_ ?_
      | refine LeO.bind ?_ (fun _ => ?_)
set_option maxHeartbeats 8000000 in
set_option maxRecDepth 100000 in
theorem diptychref20_Right.calls (k : Nat) (a0 : ByteArray) (r : Bool) (w : World) (h : diptychref20_Right.f k a0 = some r) :
    Calls Tryd.prog 23 #[.string a0] w fun e w' => e = .returned (.bool r) ∧ Below w.heap.size w w' := by
  have HB := Aside0.mk (Below.refl w.heap.size w)
  have H : ((diptychref11_TagName.f k a0).bind fun t136 => (if t136 = true then ((diptychref20_whole.f k a0).bind fun t137 => (if t137 = true then (diptychref20_Right.j0 k a0 true) else (if 0 < (a0.size : Int) then (if (bt a0 0) = 47 then (diptychref20_Right.j0 k a0 true) else (if 0 ≤ (wrap64 ((a0.size : Int) - 1)) then (if (wrap64 ((a0.size : Int) - 1)) < (a0.size : Int) then (diptychref20_Right.j0 k a0 ((bt a0 (wrap64 ((a0.size : Int) - 1))) == 47)) else (none)) else (none))) else (none)))) else (diptychref20_Right.j0 k a0 true))) = some r := h
  clear h
  have HC2 := Aside0.mk H
  clear H
  go_enter Tryd.func23, Tryd.ntmps23
  go_upto_region 1 with (fail)
  go_cut [23] (fun v23 wc => ∃ (kq : Nat) (x23_1 : Bool), v23 = .bool x23_1 ∧ Aside0 (diptychref20_Right.j0 kq a0 x23_1 = some r) ∧ Aside0 (kq ≤ k) ∧ Aside0 (Below w.heap.size w wc))
  case first =>
    have H := HC2.out
    clear HC2
    replace H := Option.bind_eq_some_iff.mp H
    obtain ⟨t136, A30, H⟩ := H
    replace H : (if t136 = true then ((diptychref20_whole.f k a0).bind fun t137 => (if t137 = true then (diptychref20_Right.j0 k a0 true) else (if 0 < (a0.size : Int) then (if (bt a0 0) = 47 then (diptychref20_Right.j0 k a0 true) else (if 0 ≤ (wrap64 ((a0.size : Int) - 1)) then (if (wrap64 ((a0.size : Int) - 1)) < (a0.size : Int) then (diptychref20_Right.j0 k a0 ((bt a0 (wrap64 ((a0.size : Int) - 1))) == 47)) else (none)) else (none))) else (none)))) else (diptychref20_Right.j0 k a0 true)) = some r := H
    have A3 := Aside0.mk A30
    clear A30
    by_cases c4 : t136 = true
    · subst c4
      have H1 : ((diptychref20_whole.f k a0).bind fun t137 => (if t137 = true then (diptychref20_Right.j0 k a0 true) else (if 0 < (a0.size : Int) then (if (bt a0 0) = 47 then (diptychref20_Right.j0 k a0 true) else (if 0 ≤ (wrap64 ((a0.size : Int) - 1)) then (if (wrap64 ((a0.size : Int) - 1)) < (a0.size : Int) then (diptychref20_Right.j0 k a0 ((bt a0 (wrap64 ((a0.size : Int) - 1))) == 47)) else (none)) else (none))) else (none)))) = some r := by rw [if_pos rfl] at H; exact H
      clear H
      have H := H1
      clear H1
      replace H := Option.bind_eq_some_iff.mp H
      obtain ⟨t137, A50, H⟩ := H
      replace H : (if t137 = true then (diptychref20_Right.j0 k a0 true) else (if 0 < (a0.size : Int) then (if (bt a0 0) = 47 then (diptychref20_Right.j0 k a0 true) else (if 0 ≤ (wrap64 ((a0.size : Int) - 1)) then (if (wrap64 ((a0.size : Int) - 1)) < (a0.size : Int) then (diptychref20_Right.j0 k a0 ((bt a0 (wrap64 ((a0.size : Int) - 1))) == 47)) else (none)) else (none))) else (none))) = some r := H
      have A5 := Aside0.mk A50
      clear A50
      by_cases c6 : t137 = true
      · subst c6
        have H1 : (diptychref20_Right.j0 k a0 true) = some r := by rw [if_pos rfl] at H; exact H
        clear H
        have H := H1
        clear H1
        have H' := Aside0.mk H
        clear H
        go_wp2_with (first | (go_at_call 49; (with_reducible refine (diptychref11_TagName.calls k a0 true _ A3.out).mono ?_); rintro e w' ⟨rfl, ⟨nd, rfl⟩⟩) | (go_at_call 50; (with_reducible refine (diptychref20_whole.calls k a0 true _ A5.out).mono ?_); rintro e w7 ⟨rfl, hb⟩; have n0_ := Aside0.mk (below_step (by repeat (first | (with_reducible first | exact HB.out | apply below_alloc | apply pw_below_drewN | apply below_drew1) | exact HB.out)) hb); clear HB; have HB := n0_; clear n0_; (try clear hb); (try clear hb2); (try clear hk); (try clear hi)))
        go_meet
        case rel => exact ⟨_, (true), (by first | rfl | (simp; done) | (simp [*]; done)), H', ⟨by first | omega | exact Nat.le_refl _⟩, ⟨by repeat (first | (with_reducible first | exact HB.out | apply below_alloc | apply pw_below_drewN | apply below_drew1) | exact HB.out)⟩⟩
      · replace c6 := Bool.eq_false_iff.mpr c6
        subst c6
        have H1 : (if 0 < (a0.size : Int) then (if (bt a0 0) = 47 then (diptychref20_Right.j0 k a0 true) else (if 0 ≤ (wrap64 ((a0.size : Int) - 1)) then (if (wrap64 ((a0.size : Int) - 1)) < (a0.size : Int) then (diptychref20_Right.j0 k a0 ((bt a0 (wrap64 ((a0.size : Int) - 1))) == 47)) else (none)) else (none))) else (none)) = some r := by rw [if_neg (show ¬ (false = true) by decide)] at H; exact H
        clear H
        have H := H1
        clear H1
        by_cases c8 : 0 < (a0.size : Int)
        · rw [if_pos c8] at H
          have c8b0 : decide (0 < (a0.size : Int)) = true := decide_eq_true c8
          have c8b1 : decide (0 < a0.size) = true := decide_eq_true (by omega)
          clear c8
          (first | rw [c8b0] | (simp only [i64_w, i32_w]; rw [c8b0]) | skip)
          by_cases c10 : (bt a0 0) = 47
          · rw [if_pos c10] at H
            have c10b0 : ((bt a0 0) == 47) = true := beq_iff_eq.mpr c10
            have c10b1 : ((bt a0 0) != 47) = false := bne_eq_false_iff_eq.mpr c10
            clear c10
            have H' := Aside0.mk H
            clear H
            go_wp2_with (first | (go_at_call 49; (with_reducible refine (diptychref11_TagName.calls k a0 true _ A3.out).mono ?_); rintro e w' ⟨rfl, ⟨nd, rfl⟩⟩) | (go_at_call 50; (with_reducible refine (diptychref20_whole.calls k a0 false _ A5.out).mono ?_); rintro e w11 ⟨rfl, hb⟩; have n0_ := Aside0.mk (below_step (by repeat (first | (with_reducible first | exact HB.out | apply below_alloc | apply pw_below_drewN | apply below_drew1) | exact HB.out)) hb); clear HB; have HB := n0_; clear n0_; (try clear hb); (try clear hb2); (try clear hk); (try clear hi); have p9 : 0 ≤ (0 : Int) := (by omega); have q9 : 0 < a0.size := (by have : (0 : Int) < (a0.size : Int) := of_decide_eq_true (by first | (with_reducible assumption) | assumption); omega); have hx9 : ∀ h : 0 < a0.size, ((a0[0]'h).toNat : Int) = bt a0 0 := bt_at a0 0; clear p9; have qi9 : (0 < (a0.size : Int)) = True := eq_true (of_decide_eq_true (by first | (with_reducible assumption) | assumption)); replace q9 := eq_true q9))
            go_meet
            case rel => exact ⟨_, (true), (by first | rfl | (simp; done) | (simp [*]; done)), H', ⟨by first | omega | exact Nat.le_refl _⟩, ⟨by repeat (first | (with_reducible first | exact HB.out | apply below_alloc | apply pw_below_drewN | apply below_drew1) | exact HB.out)⟩⟩
          · rw [if_neg c10] at H
            have c10b0 : ((bt a0 0) == 47) = false := beq_eq_false_iff_ne.mpr c10
            have c10b1 : ((bt a0 0) != 47) = true := bne_iff_ne.mpr c10
            obtain ⟨ji12, hji12⟩ : ∃ j_ : Int, (wrap64 ((a0.size : Int) - 1)) = j_ := ⟨_, rfl⟩
            replace H : (if 0 ≤ (ji12) then (if (ji12) < (a0.size : Int) then (diptychref20_Right.j0 k a0 ((bt a0 (ji12)) == 47)) else (none)) else (none)) = some r := by first | (rw [hji12] at H; exact H) | (simp only [hji12] at H ⊢; exact H)
            (try rw [hji12] at A3)
            (try rw [hji12] at A5)
            have hji12w : (IntKind.i64.wrap ((a0.size : Int) - 1)) = ji12 := (i64_w _).trans hji12
            by_cases c13 : 0 ≤ (ji12)
            · rw [if_pos c13] at H
              have c13b0 : decide (0 ≤ (ji12)) = true := decide_eq_true c13
              clear c13
              by_cases c14 : (ji12) < (a0.size : Int)
              · rw [if_pos c14] at H
                have c14b0 : decide ((ji12) < (a0.size : Int)) = true := decide_eq_true c14
                clear c14
                have H' := Aside0.mk H
                clear H
                go_wp2_with (first | (go_at_call 49; (with_reducible refine (diptychref11_TagName.calls k a0 true _ A3.out).mono ?_); rintro e w' ⟨rfl, ⟨nd, rfl⟩⟩) | (go_at_call 50; (with_reducible refine (diptychref20_whole.calls k a0 false _ A5.out).mono ?_); rintro e w16 ⟨rfl, hb⟩; have n0_ := Aside0.mk (below_step (by repeat (first | (with_reducible first | exact HB.out | apply below_alloc | apply pw_below_drewN | apply below_drew1) | exact HB.out)) hb); clear HB; have HB := n0_; clear n0_; (try clear hb); (try clear hb2); (try clear hk); (try clear hi); have p9 : 0 ≤ (0 : Int) := (by omega); have q9 : 0 < a0.size := (by have : (0 : Int) < (a0.size : Int) := of_decide_eq_true (by first | (with_reducible assumption) | assumption); omega); have hx9 : ∀ h : 0 < a0.size, ((a0[0]'h).toNat : Int) = bt a0 0 := bt_at a0 0; clear p9; have qi9 : (0 < (a0.size : Int)) = True := eq_true (of_decide_eq_true (by first | (with_reducible assumption) | assumption)); replace q9 := eq_true q9; have p15 : 0 ≤ ((ji12) : Int) := of_decide_eq_true (by first | (with_reducible assumption) | assumption); have q15 : (ji12) < (a0.size : Int) := of_decide_eq_true (by first | (with_reducible assumption) | assumption); have hx15 := bt_at a0 (ji12); replace p15 := eq_true p15; replace q15 := eq_true q15))
                go_meet
                case rel => exact ⟨_, (((bt a0 (ji12)) == 47)), (by first | rfl | (simp; done) | (simp only [← hji12] <;> (first | rfl | simp)) | (simp [*]; done)), H', ⟨by first | omega | exact Nat.le_refl _⟩, ⟨by repeat (first | (with_reducible first | exact HB.out | apply below_alloc | apply pw_below_drewN | apply below_drew1) | exact HB.out)⟩⟩
              · rw [if_neg c14] at H
                exact absurd H (by simp)
            · rw [if_neg c13] at H
              exact absurd H (by simp)
        · rw [if_neg c8] at H
          exact absurd H (by simp)
    · replace c4 := Bool.eq_false_iff.mpr c4
      subst c4
      have H1 : (diptychref20_Right.j0 k a0 true) = some r := by rw [if_neg (show ¬ (false = true) by decide)] at H; exact H
      clear H
      have H := H1
      clear H1
      have H' := Aside0.mk H
      clear H
      go_wp2_with (first | (go_at_call 49; (with_reducible refine (diptychref11_TagName.calls k a0 false _ A3.out).mono ?_); rintro e w' ⟨rfl, ⟨nd, rfl⟩⟩))
      go_meet
      case rel => exact ⟨_, (true), (by first | rfl | (simp; done) | (simp [*]; done)), H', ⟨by first | omega | exact Nat.le_refl _⟩, ⟨by repeat (first | (with_reducible first | exact HB.out | apply below_alloc | apply pw_below_drewN | apply below_drew1) | exact HB.out)⟩⟩
  case rest =>
    clear HC2
    try clear c1
    try clear p1
    try clear q1
    try clear hx1
    try clear c2
    try clear p2
    try clear c4
    try clear c6
    try clear p6
    try clear c8
    try clear c8b0
    try clear c8b1
    try clear p9
    try clear q9
    try clear hx9
    try clear qi9
    try clear c10
    try clear c10b0
    try clear c10b1
    try clear c13
    try clear c13b0
    try clear c14
    try clear c14b0
    try clear p15
    try clear q15
    try clear hx15
    try clear p15
    try clear p9
    try clear q15
    try clear q9
    obtain ⟨kq, x23_1, rfl, HA, HJ1, HB⟩ := hcut
    cases kq with
    | zero => exact absurd HA.out (by simp [diptychref20_Right.j0])
    | succ kj1 =>
      have H := HA.out
      clear HA
      simp only [diptychref20_Right.j0] at H
      by_cases c17 : x23_1 = true
      · subst c17
        have H1 : (some false) = some r := by rw [if_pos rfl] at H; exact H
        clear H
        have H := H1
        clear H1
        obtain rfl := Option.some.inj H
        go_wp2
        go_ret
        exact ⟨by first | rfl | (simp [errW_none, errW_some] <;> rfl) | (simp [*, errW_none, errW_some] <;> rfl), by repeat (first | (with_reducible first | exact HB.out | apply below_alloc | apply pw_below_drewN | apply below_drew1) | exact HB.out)⟩
      · replace c17 := Bool.eq_false_iff.mpr c17
        subst c17
        have H1 : (diptychref20_Right.l0 kj1 a0 1) = some r := by rw [if_neg (show ¬ (false = true) by decide)] at H; exact H
        clear H
        have H := H1
        clear H1
        have H' := Aside0.mk H
        clear H
        go_wp2
        go_loopg [3] kj1 (fun kq v3 w' => ∃ (x3_2 : Int), v3 = .int .i64 x3_2 ∧ Aside0 (diptychref20_Right.l0 kq a0 x3_2 = some r) ∧ Aside0 (kq ≤ kj1) ∧ Aside0 (Below w.heap.size w w'))
        case atStart => exact ⟨(1), (by first | rfl | (simp; done) | (simp [*]; done)), H', ⟨Nat.le_refl _⟩, ⟨by repeat (first | (with_reducible first | exact HB.out | apply below_alloc | apply pw_below_drewN | apply below_drew1) | exact HB.out)⟩⟩
        case round =>
          clear H'
          try clear c1
          try clear p1
          try clear q1
          try clear hx1
          try clear c2
          try clear p2
          try clear c4
          try clear c6
          try clear p6
          try clear c8
          try clear c8b0
          try clear c8b1
          try clear p9
          try clear q9
          try clear hx9
          try clear qi9
          try clear c10
          try clear c10b0
          try clear c10b1
          try clear c13
          try clear c13b0
          try clear c14
          try clear c14b0
          try clear p15
          try clear q15
          try clear hx15
          try clear c17
          try clear p1
          try clear p15
          try clear p2
          try clear p6
          try clear p9
          try clear q1
          try clear q15
          try clear q9
          obtain ⟨x3_2, rfl, HA, HK2, HB⟩ := hrel
          cases gk with
          | zero => exact absurd HA.out (by simp [diptychref20_Right.l0])
          | succ k2 =>
            have H := HA.out
            clear HA
            simp only [diptychref20_Right.l0] at H
            by_cases c18 : x3_2 < (a0.size : Int)
            · rw [if_pos c18] at H
              have c18b0 : decide (x3_2 < (a0.size : Int)) = true := decide_eq_true c18
              clear c18
              by_cases c19 : 0 ≤ x3_2
              · rw [if_pos c19] at H
                have c19b0 : decide (0 ≤ x3_2) = true := decide_eq_true c19
                clear c19
                by_cases c21 : (bt a0 x3_2) = 47
                · rw [if_pos c21] at H
                  have c21b0 : ((bt a0 x3_2) == 47) = true := beq_iff_eq.mpr c21
                  have c21b1 : ((bt a0 x3_2) != 47) = false := bne_eq_false_iff_eq.mpr c21
                  clear c21
                  obtain ⟨ji22, hji22⟩ : ∃ j_ : Int, (wrap64 (x3_2 - 1)) = j_ := ⟨_, rfl⟩
                  replace H : (if 0 ≤ (ji22) then (if (ji22) < (a0.size : Int) then (if (bt a0 (ji22)) = 47 then (some false) else (diptychref20_Right.l0 k2 a0 (wrap64 (x3_2 + 1)))) else (none)) else (none)) = some r := by first | (rw [hji22] at H; exact H) | (simp only [hji22] at H ⊢; exact H)
                  have hji22w : (IntKind.i64.wrap (x3_2 - 1)) = ji22 := (i64_w _).trans hji22
                  by_cases c23 : 0 ≤ (ji22)
                  · rw [if_pos c23] at H
                    have c23b0 : decide (0 ≤ (ji22)) = true := decide_eq_true c23
                    clear c23
                    by_cases c24 : (ji22) < (a0.size : Int)
                    · rw [if_pos c24] at H
                      have c24b0 : decide ((ji22) < (a0.size : Int)) = true := decide_eq_true c24
                      clear c24
                      by_cases c26 : (bt a0 (ji22)) = 47
                      · rw [if_pos c26] at H
                        have c26b0 : ((bt a0 (ji22)) == 47) = true := beq_iff_eq.mpr c26
                        have c26b1 : ((bt a0 (ji22)) != 47) = false := bne_eq_false_iff_eq.mpr c26
                        clear c26
                        obtain rfl := Option.some.inj H
                        have p20 : 0 ≤ (x3_2 : Int) := of_decide_eq_true (by first | (with_reducible assumption) | assumption)
                        have q20 : x3_2 < (a0.size : Int) := of_decide_eq_true (by first | (with_reducible assumption) | assumption)
                        have hx20 := bt_at a0 x3_2
                        replace p20 := eq_true p20
                        replace q20 := eq_true q20
                        have p25 : 0 ≤ ((ji22) : Int) := of_decide_eq_true (by first | (with_reducible assumption) | assumption)
                        have q25 : (ji22) < (a0.size : Int) := of_decide_eq_true (by first | (with_reducible assumption) | assumption)
                        have hx25 := bt_at a0 (ji22)
                        replace p25 := eq_true p25
                        replace q25 := eq_true q25
                        go_wp2
                        go_ret
                        exact ⟨by first | rfl | (simp [errW_none, errW_some] <;> rfl) | (simp only [← hji22]; first | rfl | (simp [errW_none, errW_some] <;> rfl)) | (simp [*, errW_none, errW_some] <;> rfl), by repeat (first | (with_reducible first | exact HB.out | apply below_alloc | apply pw_below_drewN | apply below_drew1) | exact HB.out)⟩
                      · rw [if_neg c26] at H
                        have c26b0 : ((bt a0 (ji22)) == 47) = false := beq_eq_false_iff_ne.mpr c26
                        have c26b1 : ((bt a0 (ji22)) != 47) = true := bne_iff_ne.mpr c26
                        have H' := Aside0.mk H
                        clear H
                        have p20 : 0 ≤ (x3_2 : Int) := of_decide_eq_true (by first | (with_reducible assumption) | assumption)
                        have q20 : x3_2 < (a0.size : Int) := of_decide_eq_true (by first | (with_reducible assumption) | assumption)
                        have hx20 := bt_at a0 x3_2
                        replace p20 := eq_true p20
                        replace q20 := eq_true q20
                        have p25 : 0 ≤ ((ji22) : Int) := of_decide_eq_true (by first | (with_reducible assumption) | assumption)
                        have q25 : (ji22) < (a0.size : Int) := of_decide_eq_true (by first | (with_reducible assumption) | assumption)
                        have hx25 := bt_at a0 (ji22)
                        replace p25 := eq_true p25
                        replace q25 := eq_true q25
                        go_wp2
                        go_roundg k2
                        case measure => have := HJ1.out; have := HK2.out; omega
                        case rel => exact ⟨(wrap64 (x3_2 + 1)), (by first | rfl | (simp; done) | (simp [*]; done)), H', ⟨by have := HJ1.out; have := HK2.out; omega⟩, ⟨by repeat (first | (with_reducible first | exact HB.out | apply below_alloc | apply pw_below_drewN | apply below_drew1) | exact HB.out)⟩⟩
                    · rw [if_neg c24] at H
                      exact absurd H (by simp)
                  · rw [if_neg c23] at H
                    exact absurd H (by simp)
                · rw [if_neg c21] at H
                  have c21b0 : ((bt a0 x3_2) == 47) = false := beq_eq_false_iff_ne.mpr c21
                  have c21b1 : ((bt a0 x3_2) != 47) = true := bne_iff_ne.mpr c21
                  have H' := Aside0.mk H
                  clear H
                  have p20 : 0 ≤ (x3_2 : Int) := of_decide_eq_true (by first | (with_reducible assumption) | assumption)
                  have q20 : x3_2 < (a0.size : Int) := of_decide_eq_true (by first | (with_reducible assumption) | assumption)
                  have hx20 := bt_at a0 x3_2
                  replace p20 := eq_true p20
                  replace q20 := eq_true q20
                  go_wp2
                  go_roundg k2
                  case measure => have := HJ1.out; have := HK2.out; omega
                  case rel => exact ⟨(wrap64 (x3_2 + 1)), (by first | rfl | (simp; done) | (simp [*]; done)), H', ⟨by have := HJ1.out; have := HK2.out; omega⟩, ⟨by repeat (first | (with_reducible first | exact HB.out | apply below_alloc | apply pw_below_drewN | apply below_drew1) | exact HB.out)⟩⟩
              · rw [if_neg c19] at H
                exact absurd H (by simp)
            · rw [if_neg c18] at H
              have c18b0 : decide (x3_2 < (a0.size : Int)) = false := decide_eq_false c18
              clear c18
              obtain rfl := Option.some.inj H
              go_wp2
              go_ret
              exact ⟨by first | rfl | (simp [errW_none, errW_some] <;> rfl) | (simp [*, errW_none, errW_some] <;> rfl), by repeat (first | (with_reducible first | exact HB.out | apply below_alloc | apply pw_below_drewN | apply below_drew1) | exact HB.out)⟩
end Go.Proofs.YtnhchnlgleokoaaDoor.P
end
/-! T3 -/
section
namespace Go.Proofs.YtnhchnlgleokoaaDoor.Q
open Go.RowKit Go.Lib Go.Shelf Go.Proofs.YtnhchnlgleokoaaDoor.P
open Go.Proofs.YtnhchnlgleokoaaDoorW.PrintWords (bytesOf bytesOf_length)
open Go.Proofs.YtnhchnlgleokoaaDoor.U (L digs hexB shortR hexa_Short_ev hexa_Digits_ev hexa_Bytes_ev ref_Digits_ev ref_Bytes_ev bytesR sealL openR crc_Seal_ev crc_Open_ev ref_Seal_ev ref_Open_ev)
set_option linter.unusedSimpArgs false
set_option linter.unusedVariables false
set_option maxRecDepth 100000
def Gd (w : World) : Prop := ∃ m : Int, w.cell? ⟨0, 0, none⟩ = some (.int .i64 m)
theorem Gd.low {w w' : World} (h : Gd w) (k : Low w w') : Gd w' := by
  obtain ⟨m, hm⟩ := h
  exact ⟨m, (Below.cell k (World.block_lt_of_cell? _ _ hm)).trans hm⟩
def nsize (s : Int) : Int := if s = 1 then 20 else if s = 2 then 32 else 0
theorem nsize_f (s : Int) : hexa_Size.f s = some (nsize s) := by
  unfold hexa_Size.f nsize
  repeat' split
  all_goals rfl
theorem Size.calls (s : Int) (w0 : World) : Calls Tryd.prog 28 #[.int .i64 s] w0 fun e w' => e = .returned (.int .i64 (nsize s)) ∧ Low w0 w' :=
  (hexa_Size.calls s _ w0 (nsize_f s)).mono fun _ _ ⟨e, h⟩ => ⟨e, h.below⟩
theorem nsizeR_f (s : Int) : diptychref01_Size.f s = some (nsize s) := by
  unfold diptychref01_Size.f nsize
  repeat' split
  all_goals first | rfl | omega
theorem SizeR.calls (s : Int) (w0 : World) : Calls Tryd.prog 24 #[.int .i64 s] w0 fun e w' => e = .returned (.int .i64 (nsize s)) ∧ Low w0 w' :=
  (diptychref01_Size.calls s _ w0 (nsizeR_f s)).mono fun _ _ ⟨e, h⟩ => ⟨e, h.below⟩
def digB (s : ByteArray) : ByteArray := ⟨(digs (L s)).toArray⟩
theorem Digits.calls (s : ByteArray) (hs : s.size ≤ 1099511627776) (w0 : World) : Calls Tryd.prog 35 #[.string s] w0 fun e w' => e = .returned (.string (digB s)) ∧ Low w0 w' := by
  obtain ⟨k, h⟩ := hexa_Digits_ev s hs
  exact hexa_Digits.calls k s _ w0 (h k (Nat.le_refl _))
theorem DigitsR.calls (s : ByteArray) (hs : s.size ≤ 1099511627776) (w0 : World) : Calls Tryd.prog 38 #[.string s] w0 fun e w' => e = .returned (.string (digB s)) ∧ Low w0 w' := by
  obtain ⟨k, h⟩ := ref_Digits_ev s hs
  exact diptychref01_Digits.calls k s _ w0 (h k (Nat.le_refl _))
def unB (s : ByteArray) : ByteArray × Int := bytesR (L s)
theorem Bytes.calls (s : ByteArray) (hs : s.size ≤ 1099511627776) (w0 : World) : Calls Tryd.prog 45 #[.string s] w0 fun e w' => e = .returned (.tuple #[.string (unB s).1, .int .i64 (unB s).2]) ∧ Low w0 w' := by
  obtain ⟨k, h⟩ := hexa_Bytes_ev s hs
  exact hexa_Bytes.calls k s _ _ w0 (h k (Nat.le_refl _))
theorem BytesR.calls (s : ByteArray) (hs : s.size ≤ 1099511627776) (w0 : World) : Calls Tryd.prog 47 #[.string s] w0 fun e w' => e = .returned (.tuple #[.string (unB s).1, .int .i64 (unB s).2]) ∧ Low w0 w' := by
  obtain ⟨k, h⟩ := ref_Bytes_ev s hs
  exact diptychref01_Bytes.calls k s _ _ w0 (h k (Nat.le_refl _))
def sealB (s : ByteArray) : ByteArray := ⟨(sealL (L s)).toArray⟩
theorem Seal.calls (s : ByteArray) (hs : s.size ≤ 1099511627776) (w0 : World) : Calls Tryd.prog 36 #[.string s] w0 fun e w' => e = .returned (.string (sealB s)) ∧ Low w0 w' := by
  obtain ⟨k, h⟩ := crc_Seal_ev s hs
  exact crc_Seal.calls k s _ w0 (h k (Nat.le_refl _))
theorem SealR.calls (s : ByteArray) (hs : s.size ≤ 1099511627776) (w0 : World) : Calls Tryd.prog 39 #[.string s] w0 fun e w' => e = .returned (.string (sealB s)) ∧ Low w0 w' := by
  obtain ⟨k, h⟩ := ref_Seal_ev s hs
  exact diptychref04_Seal.calls k s _ w0 (h k (Nat.le_refl _))
def openB (s : ByteArray) : ByteArray × Int := openR s
theorem Open.calls (s : ByteArray) (hs : s.size ≤ 1099511627776) (w0 : World) : Calls Tryd.prog 40 #[.string s] w0 fun e w' => e = .returned (.tuple #[.string (openB s).1, .int .i64 (openB s).2]) ∧ Low w0 w' := by
  obtain ⟨k, h⟩ := crc_Open_ev s hs
  exact crc_Open.calls k s _ _ w0 (h k (Nat.le_refl _))
theorem OpenR.calls (s : ByteArray) (hs : s.size ≤ 1099511627776) (w0 : World) : Calls Tryd.prog 46 #[.string s] w0 fun e w' => e = .returned (.tuple #[.string (openB s).1, .int .i64 (openB s).2]) ∧ Low w0 w' := by
  obtain ⟨k, h⟩ := ref_Open_ev s hs
  exact diptychref04_Open.calls k s _ _ w0 (h k (Nat.le_refl _))
def allowed : ByteArray := ⟨#[97, 98, 99, 100, 101, 102, 103, 104, 105, 106, 107, 108, 109, 110, 111, 112, 113, 114, 115, 116, 117, 118, 119, 120, 121, 122, 65, 66, 67, 68, 69, 70, 71, 72, 73, 74, 75, 76, 77, 78, 79, 80, 81, 82, 83, 84, 85, 86, 87, 88, 89, 90, 48, 49, 50, 51, 52, 53, 54, 55, 56, 57, 46, 95, 45, 47]⟩
def trimA (s : ByteArray) : ByteArray := ⟨(trimS s.data.toList allowed.data.toList).toArray⟩
def wholeB (s : ByteArray) : Bool := (decide (s.size = 40) || decide (s.size = 64)) && hexB (L s)
def slash : ByteArray := ⟨#[47]⟩
def slash2 : ByteArray := ⟨#[47, 47]⟩
def prefS (s : ByteArray) : Bool := hasPrefix s.data.toList slash.data.toList
def sufS (s : ByteArray) : Bool := hasSuffix s.data.toList slash.data.toList
def dblS (s : ByteArray) : Bool := contains s.data.toList slash2.data.toList
def rightN (s : ByteArray) : Bool :=
  if s = nilB then false else if 64 < s.size then false else if ¬ trimA s = nilB then false else if wholeB s = true then false else if prefS s = true then false else if sufS s = true then false else if dblS s = true then false else true
theorem trim_calls (s : ByteArray) (hs : s.size ≤ 9223372036854775807) (w : World) : Calls Tryd.prog 54 #[.string s, .string allowed] w fun e w' => e = .returned (.string (trimA s)) ∧ Low w w' :=
  strings_Trim.calls s allowed _ w (by
    unfold strings_Trim.f
    rw [if_pos (show trimOk s allowed from ⟨hs, by decide, by decide⟩)]
    rfl)
theorem short_whole (s : ByteArray) (h : s.size = 40 ∨ s.size = 64) : (shortR (L s) == 0) = hexB (L s) := by
  unfold shortR
  rw [if_neg (by have : (L s).length = s.size := (U.size_L s).symm; omega)]
  cases hexB (L s) <;> rfl
theorem whole_ev (s : ByteArray) (hs : s.size ≤ 1099511627776) : Go.Proofs.YtnhchnlgleokoaaDoorW.PrintWords.Ev (fun k => names_whole.f k s) (wholeB s) := by
  obtain ⟨k, h⟩ := hexa_Short_ev s hs
  refine ⟨k, fun n hn => ?_⟩
  have h' : hexa_Short.f n s = some (shortR (L s)) := h n hn
  show names_whole.f n s = _
  unfold names_whole.f wholeB
  rw [nsize_f, nsize_f, Option.bind_some, Option.bind_some, show wrap64 (2 * nsize 1) = 40 from by unfold wrap64 nsize; rfl, show wrap64 (2 * nsize 2) = 64 from by unfold wrap64 nsize; rfl]
  by_cases h1 : s.size = 40
  · rw [if_pos (by omega), h', Option.bind_some, short_whole s (.inl h1), decide_eq_true h1]; rfl
  · by_cases h2 : s.size = 64
    · rw [if_neg (by omega), if_pos (by omega), h', Option.bind_some, short_whole s (.inr h2), decide_eq_true h2, Bool.or_true]; rfl
    · rw [if_neg (by omega), if_neg (by omega), decide_eq_false h1, decide_eq_false h2]; rfl
theorem Whole.calls (s : ByteArray) (hs : s.size ≤ 1099511627776) (w0 : World) : Calls Tryd.prog 55 #[.string s] w0 fun e w' => e = .returned (.bool (wholeB s)) ∧ Low w0 w' := by
  obtain ⟨k, h⟩ := whole_ev s hs
  exact names_whole.calls k s _ w0 (h k (Nat.le_refl _))
theorem prefix_calls (s : ByteArray) (w : World) : Calls Tryd.prog 56 #[.string s, .string slash] w fun e w' => e = .returned (.bool (prefS s)) ∧ Low w w' := (Any.strings_HasPrefix Tryd.lays99 s slash w).mono fun e w' ⟨h1, h2⟩ => ⟨h1, h2 ▸ Low.refl _⟩
theorem suffix_calls (s : ByteArray) (hs : s.size ≤ 9223372036854775807) (w : World) : Calls Tryd.prog 57 #[.string s, .string slash] w fun e w' => e = .returned (.bool (sufS s)) ∧ Low w w' := (Any.strings_HasSuffix Tryd.lays100 s slash w hs).mono fun e w' ⟨h1, h2⟩ => ⟨h1, h2 ▸ Low.refl _⟩
theorem double_calls (s : ByteArray) (hs : s.size < 4294967281) (w : World) (hG : Gd w) : Calls Tryd.prog 58 #[.string s, .string slash2] w fun e w' => e = .returned (.bool (dblS s)) ∧ Low w w' := by
  obtain ⟨m, hm⟩ := hG
  exact (Any.strings_Contains Tryd.lays144 s slash2 m w hs hm).mono fun e w' ⟨h1, h2⟩ => ⟨h1, h2 ▸ Low.refl _⟩
theorem rightN_size {s : ByteArray} (h : rightN s = true) : s.size ≤ 64 := by
  rcases Nat.lt_or_ge 64 s.size with c | c
  · unfold rightN at h
    rw [if_pos c] at h
    split at h <;> cases h
  · exact c
def rgOk (l : List Rf) (sz : Int) (i : Nat) : Prop := rightN (l.getD i zP).f0 = true ∧ ((l.getD i zP).f1.size : Int) = sz ∧ (0 < i → lessB (l.getD (i - 1) zP).f0 (l.getD i zP).f0 = true)
instance rgDec (l : List Rf) (sz : Int) (i : Nat) : Decidable (rgOk l sz i) := by unfold rgOk; infer_instance
def rgN (l : List Rf) (sz : Int) : Nat := firstN l.length (rgOk l sz)
theorem rgN_le (l : List Rf) (sz : Int) : rgN l sz ≤ l.length := firstN_le _ _
theorem rgN_round {l : List Rf} {sz : Int} {i : Nat} (h : i < rgN l sz) : rgOk l sz i := firstN_round h
theorem rgN_stop {l : List Rf} {sz : Int} (h : rgN l sz < l.length) : ¬ rgOk l sz (rgN l sz) := firstN_stop h
def rightS (hd : ByteArray) (l : List Rf) (sp : Int) : Bool := !decide (nsize sp = 0) && ((decide (hd = nilB) || rightN hd) && (decide (l.length ≤ 1024) && decide (rgN l (nsize sp) = l.length)))
theorem rs_1 {hd : ByteArray} {l : List Rf} {sp : Int} (h : nsize sp = 0) : rightS hd l sp = false := by unfold rightS; simp [h]
theorem rs_2 {hd : ByteArray} {l : List Rf} {sp : Int} (h : ¬ hd = nilB) (h2 : ¬ rightN hd = true) : rightS hd l sp = false := by unfold rightS; simp [h, h2]
theorem rs_3 {hd : ByteArray} {l : List Rf} {sp : Int} (h : 1024 < l.length) : rightS hd l sp = false := by unfold rightS; simp [Nat.not_le.2 h]
theorem rs_4 {hd : ByteArray} {l : List Rf} {sp : Int} (h : rgN l (nsize sp) < l.length) : rightS hd l sp = false := by unfold rightS; simp [Nat.ne_of_lt h]
theorem rs_5 {hd : ByteArray} {l : List Rf} {sp : Int} (h1 : ¬ nsize sp = 0) (h2 : ¬ hd = nilB → rightN hd = true) (h3 : ¬ 1024 < l.length) (h4 : ¬ rgN l (nsize sp) < l.length) : rightS hd l sp = true := by
  unfold rightS
  have h5 : rgN l (nsize sp) = l.length := Nat.le_antisymm (rgN_le _ _) (Nat.le_of_not_lt h4)
  rw [decide_eq_false h1, decide_eq_true (Nat.le_of_not_lt h3), decide_eq_true h5]
  by_cases c : hd = nilB
  · rw [decide_eq_true c]; rfl
  · rw [h2 c, Bool.or_true]; rfl
theorem rightS_iff {hd : ByteArray} {l : List Rf} {sp : Int} : rightS hd l sp = true ↔ ¬ nsize sp = 0 ∧ (¬ hd = nilB → rightN hd = true) ∧ l.length ≤ 1024 ∧ ∀ i, i < l.length → rgOk l (nsize sp) i := by
  constructor
  · intro h
    refine ⟨fun c => ?_, fun c => Classical.byContradiction fun d => ?_, Nat.le_of_not_lt fun c => ?_, fun i hi => ?_⟩
    · rw [rs_1 c] at h; cases h
    · rw [rs_2 c d] at h; cases h
    · rw [rs_3 c] at h; cases h
    · rcases Nat.lt_or_ge (rgN l (nsize sp)) l.length with c | c
      · rw [rs_4 c] at h; cases h
      · exact rgN_round (Nat.lt_of_lt_of_le hi c)
  · rintro ⟨h1, h2, h3, h4⟩
    exact rs_5 h1 h2 (Nat.not_lt.2 h3) (by rw [rgN, firstN_all h4]; exact Nat.lt_irrefl _)
end Go.Proofs.YtnhchnlgleokoaaDoor.Q
end
/-! E3 -/
section
namespace Go.Proofs.YtnhchnlgleokoaaDoor.Q
open Go.RowKit
open Go.Proofs.YtnhchnlgleokoaaDoorW.PrintWords (bytesOf bytesOf_length)
set_option linter.unusedVariables false
set_option linter.unusedSimpArgs false
set_option maxRecDepth 100000
set_option maxHeartbeats 4000000
attribute [local irreducible] wpList wpQuiet qch Code.wp Oper.quiet Act.put At Region.wanted yielded
theorem RightN.calls (s : ByteArray) (w0 : World) (hG : Gd w0) : Calls Tryd.prog 27 #[.string s] w0 fun e w' => e = .returned (.bool (rightN s)) ∧ Low w0 w' := by
 refine c_fun (R := _) Tryd.func27 rfl 32 rfl (Nat.le_of_ble_eq_true rfl) ?_; intro a z hA; have s0 := hA 0 _ rfl; clear hA; refine c_seq (c_region ?_); refine l_q rfl (q_assign _ _ rfl rfl ?_); refine l_end (e_fr z.put fun a1 z1 m1 => ?_); have s0_1 := m1 s0.n1; refine e_then (c_seq (c_seq ?_))
 by_cases hb2 : s = nilB
 ·
  skip
  refine c_region ?_; refine l_q rfl (qm rfl s0_1 (l_q rfl (q_streq true rfl (At.hit z1 rfl).ev rfl (strT hb2) (l_q rfl (qm rfl (At.hit z1.put rfl) (l_skip (wis rfl rfl (At.hit z1.p2 rfl) rfl) (l_skip (wis rfl rfl ((At.hit z1.p2 rfl).n1) rfl) (l_skip (wis rfl rfl ((At.hit z1.p2 rfl).n2) rfl) (l_q rfl (q_pick (b := true) (.bool true) rfl ((At.hit z1.p2 rfl).n3).ev rfl (l_q rfl (qm rfl (At.hit z1.p6 rfl) (l_fr z1.p8 fun a3 z3 m3 => ?_))))))))))))); have s0_3 := m3 s0_1.n8; have s10_3 := m3 (At.hit z1.p7 rfl); refine l_skip (wis rfl rfl s10_3 rfl) ?_; refine l_skip (wis rfl rfl (s10_3.n1) rfl) ?_; refine l_skip (wis rfl rfl (s10_3.n2) rfl) ?_; refine l_q rfl (q_pick (b := true) (.bool true) rfl (s10_3.n3).ev rfl ?_); refine l_q rfl (qm rfl (At.hit z3.p3 rfl) (l_skip (wis rfl rfl (At.hit z3.p4 rfl) rfl) (l_skip (wis rfl rfl ((At.hit z3.p4 rfl).n1) rfl) (l_q rfl (q_pick (b := true) (.bool true) rfl ((At.hit z3.p4 rfl).n2).ev rfl (l_end (e_fr z3.p8 fun a4 z4 m4 => ?_))))))); have s0_4 := m4 s0_3.n8; have s18_4 := m4 (At.hit z3.p7 rfl); refine e_then (c_true s18_4 ?_); refine c_seq (c_region ?_); refine l_q rfl (q_assign _ _ rfl rfl ?_); refine l_end (e_fr z4.put fun a5 z5 m5 => ?_); have s2_5 := m5 (At.hit z4 rfl); refine e_then (wp_ret (ret_then (r_tmp rfl z5.defers s2_5 ?_))); exact ⟨by unfold rightN; rw [if_pos hb2] <;> rfl, (Low.refl _)⟩
 ·
  skip
  by_cases hb6 : 64 < s.size
  ·
   skip
   refine c_region ?_; refine l_q rfl (qm rfl s0_1 (l_q rfl (q_streq false rfl (At.hit z1 rfl).ev rfl (strF hb2) (l_q rfl (qm rfl (At.hit z1.put rfl) (l_qg (wis rfl rfl (At.hit z1.p2 rfl) rfl) (qm rfl (s0_1.n3) (l_qg (wis rfl rfl ((At.hit z1.p2 rfl).n1) rfl) (q_len rfl rfl u_9 (At.hit z1.p3 rfl).ev (l_qg (wis rfl rfl ((At.hit z1.p2 rfl).n2) rfl) (q_gtr true rfl (At.hit z1.p4 rfl).ev rfl (decide_eq_true (by omega)) (l_q rfl (q_pick (b := false) (.bool true) rfl ((At.hit z1.p2 rfl).n3).ev (At.hit z1.p5 rfl).ev (l_q rfl (qm rfl (At.hit z1.p6 rfl) (l_fr z1.p8 fun a7 z7 m7 => ?_)))))))))))))))); have s0_7 := m7 s0_1.n8; have s10_7 := m7 (At.hit z1.p7 rfl); refine l_skip (wis rfl rfl s10_7 rfl) ?_; refine l_skip (wis rfl rfl (s10_7.n1) rfl) ?_; refine l_skip (wis rfl rfl (s10_7.n2) rfl) ?_; refine l_q rfl (q_pick (b := true) (.bool true) rfl (s10_7.n3).ev rfl ?_); refine l_q rfl (qm rfl (At.hit z7.p3 rfl) (l_skip (wis rfl rfl (At.hit z7.p4 rfl) rfl) (l_skip (wis rfl rfl ((At.hit z7.p4 rfl).n1) rfl) (l_q rfl (q_pick (b := true) (.bool true) rfl ((At.hit z7.p4 rfl).n2).ev rfl (l_end (e_fr z7.p8 fun a8 z8 m8 => ?_))))))); have s0_8 := m8 s0_7.n8; have s18_8 := m8 (At.hit z7.p7 rfl); refine e_then (c_true s18_8 ?_); refine c_seq (c_region ?_); refine l_q rfl (q_assign _ _ rfl rfl ?_); refine l_end (e_fr z8.put fun a9 z9 m9 => ?_); have s2_9 := m9 (At.hit z8 rfl); refine e_then (wp_ret (ret_then (r_tmp rfl z9.defers s2_9 ?_))); exact ⟨by unfold rightN; rw [if_neg hb2, if_pos hb6] <;> rfl, (Low.refl _)⟩
  ·
   skip
   by_cases hb10 : ¬ trimA s = nilB
   ·
    skip
    refine c_region ?_; refine l_q rfl (qm rfl s0_1 (l_q rfl (q_streq false rfl (At.hit z1 rfl).ev rfl (strF hb2) (l_q rfl (qm rfl (At.hit z1.put rfl) (l_qg (wis rfl rfl (At.hit z1.p2 rfl) rfl) (qm rfl (s0_1.n3) (l_qg (wis rfl rfl ((At.hit z1.p2 rfl).n1) rfl) (q_len rfl rfl u_9 (At.hit z1.p3 rfl).ev (l_qg (wis rfl rfl ((At.hit z1.p2 rfl).n2) rfl) (q_gtr false rfl (At.hit z1.p4 rfl).ev rfl (decide_eq_false (by omega)) (l_q rfl (q_pick (b := false) (.bool false) rfl ((At.hit z1.p2 rfl).n3).ev (At.hit z1.p5 rfl).ev (l_q rfl (qm rfl (At.hit z1.p6 rfl) (l_fr z1.p8 fun a11 z11 m11 => ?_)))))))))))))))); have s0_11 := m11 s0_1.n8; have s10_11 := m11 (At.hit z1.p7 rfl); refine l_qg (wis rfl rfl s10_11 rfl) (qm rfl s0_11 (l_callg (fun v w' => v = .string (trimA s) ∧ Low w0 w') (wis rfl rfl (s10_11.n1) rfl) rfl rfl Tryd.func54 rfl (args2 rfl (At.hit z11 rfl).ev rfl) ((trim_calls s (by omega) _).mono fun _ _ ⟨e, k⟩ => ⟨_, e, rfl, k⟩) ?_))
    rintro _ w12 ⟨rfl, h12⟩
    refine l_qg (wis rfl rfl (s10_11.n2) rfl) (q_strne true rfl (At.hit z11.put rfl).ev rfl (neT hb10) ?_); refine l_q rfl (q_pick (b := false) (.bool true) rfl (s10_11.n3).ev (At.hit z11.p2 rfl).ev ?_); refine l_q rfl (qm rfl (At.hit z11.p3 rfl) (l_skip (wis rfl rfl (At.hit z11.p4 rfl) rfl) (l_skip (wis rfl rfl ((At.hit z11.p4 rfl).n1) rfl) (l_q rfl (q_pick (b := true) (.bool true) rfl ((At.hit z11.p4 rfl).n2).ev rfl (l_end (e_fr z11.p8 fun a13 z13 m13 => ?_))))))); have s0_13 := m13 s0_11.n8; have s18_13 := m13 (At.hit z11.p7 rfl); have low13 := h12; refine e_then (c_true s18_13 ?_); refine c_seq (c_region ?_); refine l_q rfl (q_assign _ _ rfl rfl ?_); refine l_end (e_fr z13.put fun a14 z14 m14 => ?_); have s2_14 := m14 (At.hit z13 rfl); refine e_then (wp_ret (ret_then (r_tmp rfl z14.defers s2_14 ?_))); exact ⟨by unfold rightN; rw [if_neg hb2, if_neg hb6, if_pos hb10] <;> rfl, low13⟩
   ·
    skip
    by_cases hb15 : wholeB s = true
    ·
     skip
     refine c_region ?_; refine l_q rfl (qm rfl s0_1 (l_q rfl (q_streq false rfl (At.hit z1 rfl).ev rfl (strF hb2) (l_q rfl (qm rfl (At.hit z1.put rfl) (l_qg (wis rfl rfl (At.hit z1.p2 rfl) rfl) (qm rfl (s0_1.n3) (l_qg (wis rfl rfl ((At.hit z1.p2 rfl).n1) rfl) (q_len rfl rfl u_9 (At.hit z1.p3 rfl).ev (l_qg (wis rfl rfl ((At.hit z1.p2 rfl).n2) rfl) (q_gtr false rfl (At.hit z1.p4 rfl).ev rfl (decide_eq_false (by omega)) (l_q rfl (q_pick (b := false) (.bool false) rfl ((At.hit z1.p2 rfl).n3).ev (At.hit z1.p5 rfl).ev (l_q rfl (qm rfl (At.hit z1.p6 rfl) (l_fr z1.p8 fun a16 z16 m16 => ?_)))))))))))))))); have s0_16 := m16 s0_1.n8; have s10_16 := m16 (At.hit z1.p7 rfl); refine l_qg (wis rfl rfl s10_16 rfl) (qm rfl s0_16 (l_callg (fun v w' => v = .string (trimA s) ∧ Low w0 w') (wis rfl rfl (s10_16.n1) rfl) rfl rfl Tryd.func54 rfl (args2 rfl (At.hit z16 rfl).ev rfl) ((trim_calls s (by omega) _).mono fun _ _ ⟨e, k⟩ => ⟨_, e, rfl, k⟩) ?_))
     rintro _ w17 ⟨rfl, h17⟩
     refine l_qg (wis rfl rfl (s10_16.n2) rfl) (q_strne false rfl (At.hit z16.put rfl).ev rfl (neF (Decidable.not_not.1 hb10)) ?_); refine l_q rfl (q_pick (b := false) (.bool false) rfl (s10_16.n3).ev (At.hit z16.p2 rfl).ev ?_); refine l_q rfl (qm rfl (At.hit z16.p3 rfl) (l_qg (wis rfl rfl (At.hit z16.p4 rfl) rfl) (qm rfl (s0_16.n5) (l_callg (fun v w' => v = .bool true ∧ Low w17 w') (wis rfl rfl ((At.hit z16.p4 rfl).n1) rfl) rfl rfl Tryd.func55 rfl (args1 rfl (At.hit z16.p5 rfl).ev) (((calls_bool (Whole.calls s (by omega) _) hb15)).mono fun _ _ ⟨e, k⟩ => ⟨_, e, rfl, k⟩) ?_))))
     rintro _ w18 ⟨rfl, h18⟩
     refine l_q rfl (q_pick (b := false) (.bool true) rfl ((At.hit z16.p4 rfl).n2).ev (At.hit z16.p6 rfl).ev ?_); refine l_end (e_fr z16.p8 fun a19 z19 m19 => ?_); have s0_19 := m19 s0_16.n8; have s18_19 := m19 (At.hit z16.p7 rfl); have low19 := (h17.trans h18); refine e_then (c_true s18_19 ?_); refine c_seq (c_region ?_); refine l_q rfl (q_assign _ _ rfl rfl ?_); refine l_end (e_fr z19.put fun a20 z20 m20 => ?_); have s2_20 := m20 (At.hit z19 rfl); refine e_then (wp_ret (ret_then (r_tmp rfl z20.defers s2_20 ?_))); exact ⟨by unfold rightN; rw [if_neg hb2, if_neg hb6, if_neg hb10, if_pos hb15] <;> rfl, low19⟩
    ·
     skip
     refine c_region ?_; refine l_q rfl (qm rfl s0_1 (l_q rfl (q_streq false rfl (At.hit z1 rfl).ev rfl (strF hb2) (l_q rfl (qm rfl (At.hit z1.put rfl) (l_qg (wis rfl rfl (At.hit z1.p2 rfl) rfl) (qm rfl (s0_1.n3) (l_qg (wis rfl rfl ((At.hit z1.p2 rfl).n1) rfl) (q_len rfl rfl u_9 (At.hit z1.p3 rfl).ev (l_qg (wis rfl rfl ((At.hit z1.p2 rfl).n2) rfl) (q_gtr false rfl (At.hit z1.p4 rfl).ev rfl (decide_eq_false (by omega)) (l_q rfl (q_pick (b := false) (.bool false) rfl ((At.hit z1.p2 rfl).n3).ev (At.hit z1.p5 rfl).ev (l_q rfl (qm rfl (At.hit z1.p6 rfl) (l_fr z1.p8 fun a21 z21 m21 => ?_)))))))))))))))); have s0_21 := m21 s0_1.n8; have s10_21 := m21 (At.hit z1.p7 rfl); refine l_qg (wis rfl rfl s10_21 rfl) (qm rfl s0_21 (l_callg (fun v w' => v = .string (trimA s) ∧ Low w0 w') (wis rfl rfl (s10_21.n1) rfl) rfl rfl Tryd.func54 rfl (args2 rfl (At.hit z21 rfl).ev rfl) ((trim_calls s (by omega) _).mono fun _ _ ⟨e, k⟩ => ⟨_, e, rfl, k⟩) ?_))
     rintro _ w22 ⟨rfl, h22⟩
     refine l_qg (wis rfl rfl (s10_21.n2) rfl) (q_strne false rfl (At.hit z21.put rfl).ev rfl (neF (Decidable.not_not.1 hb10)) ?_); refine l_q rfl (q_pick (b := false) (.bool false) rfl (s10_21.n3).ev (At.hit z21.p2 rfl).ev ?_); refine l_q rfl (qm rfl (At.hit z21.p3 rfl) (l_qg (wis rfl rfl (At.hit z21.p4 rfl) rfl) (qm rfl (s0_21.n5) (l_callg (fun v w' => v = .bool false ∧ Low w22 w') (wis rfl rfl ((At.hit z21.p4 rfl).n1) rfl) rfl rfl Tryd.func55 rfl (args1 rfl (At.hit z21.p5 rfl).ev) (((calls_bool (Whole.calls s (by omega) _) (eq_false_of_ne_true hb15))).mono fun _ _ ⟨e, k⟩ => ⟨_, e, rfl, k⟩) ?_))))
     rintro _ w23 ⟨rfl, h23⟩
     refine l_q rfl (q_pick (b := false) (.bool false) rfl ((At.hit z21.p4 rfl).n2).ev (At.hit z21.p6 rfl).ev ?_); refine l_end (e_fr z21.p8 fun a24 z24 m24 => ?_); have s0_24 := m24 s0_21.n8; have s18_24 := m24 (At.hit z21.p7 rfl); have low24 := (h22.trans h23); refine e_then (c_false s18_24 ?_); refine wp_skip (e_then (c_seq ?_))
     by_cases hb25 : prefS s = true
     ·
      skip
      refine c_region ?_; refine l_q rfl (qm rfl s0_24 (l_call (fun v w' => v = .bool true ∧ Low w23 w') rfl rfl rfl Tryd.func56 rfl (args2 rfl (At.hit z24 rfl).ev rfl) (((calls_bool (prefix_calls s _) hb25)).mono fun _ _ ⟨e, k⟩ => ⟨_, e, rfl, k⟩) ?_))
      rintro _ w26 ⟨rfl, h26⟩
      refine l_q rfl (q_not (b := true) rfl (At.hit z24.put rfl).ev ?_); refine l_q rfl (qm rfl (At.hit z24.p2 rfl) (l_skip (wis rfl rfl (At.hit z24.p3 rfl) rfl) (l_skip (wis rfl rfl ((At.hit z24.p3 rfl).n1) rfl) (l_skip (wis rfl rfl ((At.hit z24.p3 rfl).n2) rfl) (l_q rfl (q_pick (b := false) (.bool false) rfl ((At.hit z24.p3 rfl).n3).ev rfl (l_fr z24.p8 fun a27 z27 m27 => ?_))))))); have s0_27 := m27 s0_24.n8; have s26_27 := m27 (At.hit z24.p7 rfl); refine l_q rfl (qm rfl s26_27 (l_skip (wis rfl rfl (At.hit z27 rfl) rfl) (l_skip (wis rfl rfl ((At.hit z27 rfl).n1) rfl) (l_skip (wis rfl rfl ((At.hit z27 rfl).n2) rfl) (l_q rfl (q_pick (b := false) (.bool false) rfl ((At.hit z27 rfl).n3).ev rfl (l_q rfl (qa rfl (At.hit z27.p4 rfl) (l_end (e_fr z27.p6 fun a28 z28 m28 => ?_)))))))))); have s2_28 := m28 (At.hit z27.p5 rfl); have low28 := (low24.trans h26); refine e_then (wp_ret (r_tmp rfl z28.defers s2_28 ?_)); exact ⟨by unfold rightN; rw [if_neg hb2, if_neg hb6, if_neg hb10, if_neg hb15, if_pos hb25] <;> rfl, low28⟩
     ·
      skip
      by_cases hb29 : sufS s = true
      ·
       skip
       refine c_region ?_; refine l_q rfl (qm rfl s0_24 (l_call (fun v w' => v = .bool false ∧ Low w23 w') rfl rfl rfl Tryd.func56 rfl (args2 rfl (At.hit z24 rfl).ev rfl) (((calls_bool (prefix_calls s _) (eq_false_of_ne_true hb25))).mono fun _ _ ⟨e, k⟩ => ⟨_, e, rfl, k⟩) ?_))
       rintro _ w30 ⟨rfl, h30⟩
       refine l_q rfl (q_not (b := false) rfl (At.hit z24.put rfl).ev ?_); refine l_q rfl (qm rfl (At.hit z24.p2 rfl) (l_qg (wis rfl rfl (At.hit z24.p3 rfl) rfl) (qm rfl (s0_24.n4) (l_callg (fun v w' => v = .bool true ∧ Low w30 w') (wis rfl rfl ((At.hit z24.p3 rfl).n1) rfl) rfl rfl Tryd.func57 rfl (args2 rfl (At.hit z24.p4 rfl).ev rfl) (((calls_bool (suffix_calls s (by omega) _) hb29)).mono fun _ _ ⟨e, k⟩ => ⟨_, e, rfl, k⟩) ?_))))
       rintro _ w31 ⟨rfl, h31⟩
       refine l_qg (wis rfl rfl ((At.hit z24.p3 rfl).n2) rfl) (q_not (b := true) rfl (At.hit z24.p5 rfl).ev ?_); refine l_q rfl (q_pick (b := true) (.bool false) rfl ((At.hit z24.p3 rfl).n3).ev (At.hit z24.p6 rfl).ev ?_); refine l_fr z24.p8 fun a32 z32 m32 => ?_
       have s0_32 := m32 s0_24.n8; have s26_32 := m32 (At.hit z24.p7 rfl); refine l_q rfl (qm rfl s26_32 (l_skip (wis rfl rfl (At.hit z32 rfl) rfl) (l_skip (wis rfl rfl ((At.hit z32 rfl).n1) rfl) (l_skip (wis rfl rfl ((At.hit z32 rfl).n2) rfl) (l_q rfl (q_pick (b := false) (.bool false) rfl ((At.hit z32 rfl).n3).ev rfl (l_q rfl (qa rfl (At.hit z32.p4 rfl) (l_end (e_fr z32.p6 fun a33 z33 m33 => ?_)))))))))); have s2_33 := m33 (At.hit z32.p5 rfl); have low33 := ((low24.trans h30).trans h31); refine e_then (wp_ret (r_tmp rfl z33.defers s2_33 ?_)); exact ⟨by unfold rightN; rw [if_neg hb2, if_neg hb6, if_neg hb10, if_neg hb15, if_neg hb25, if_pos hb29] <;> rfl, low33⟩
      ·
       skip
       by_cases hb34 : dblS s = true
       ·
        skip
        refine c_region ?_; refine l_q rfl (qm rfl s0_24 (l_call (fun v w' => v = .bool false ∧ Low w23 w') rfl rfl rfl Tryd.func56 rfl (args2 rfl (At.hit z24 rfl).ev rfl) (((calls_bool (prefix_calls s _) (eq_false_of_ne_true hb25))).mono fun _ _ ⟨e, k⟩ => ⟨_, e, rfl, k⟩) ?_))
        rintro _ w35 ⟨rfl, h35⟩
        refine l_q rfl (q_not (b := false) rfl (At.hit z24.put rfl).ev ?_); refine l_q rfl (qm rfl (At.hit z24.p2 rfl) (l_qg (wis rfl rfl (At.hit z24.p3 rfl) rfl) (qm rfl (s0_24.n4) (l_callg (fun v w' => v = .bool false ∧ Low w35 w') (wis rfl rfl ((At.hit z24.p3 rfl).n1) rfl) rfl rfl Tryd.func57 rfl (args2 rfl (At.hit z24.p4 rfl).ev rfl) (((calls_bool (suffix_calls s (by omega) _) (eq_false_of_ne_true hb29))).mono fun _ _ ⟨e, k⟩ => ⟨_, e, rfl, k⟩) ?_))))
        rintro _ w36 ⟨rfl, h36⟩
        refine l_qg (wis rfl rfl ((At.hit z24.p3 rfl).n2) rfl) (q_not (b := false) rfl (At.hit z24.p5 rfl).ev ?_); refine l_q rfl (q_pick (b := true) (.bool true) rfl ((At.hit z24.p3 rfl).n3).ev (At.hit z24.p6 rfl).ev ?_); refine l_fr z24.p8 fun a37 z37 m37 => ?_
        have s0_37 := m37 s0_24.n8; have s26_37 := m37 (At.hit z24.p7 rfl); refine l_q rfl (qm rfl s26_37 (l_qg (wis rfl rfl (At.hit z37 rfl) rfl) (qm rfl (s0_37.n1) (l_callg (fun v w' => v = .bool true ∧ Low w36 w') (wis rfl rfl ((At.hit z37 rfl).n1) rfl) rfl rfl Tryd.func58 rfl (args2 rfl (At.hit z37.put rfl).ev rfl) (((calls_bool (double_calls s (by omega) _ (Gd.low hG ((low24.trans h35).trans h36))) hb34)).mono fun _ _ ⟨e, k⟩ => ⟨_, e, rfl, k⟩) ?_))))
        rintro _ w38 ⟨rfl, h38⟩
        refine l_qg (wis rfl rfl ((At.hit z37 rfl).n2) rfl) (q_not (b := true) rfl (At.hit z37.p2 rfl).ev ?_); refine l_q rfl (q_pick (b := true) (.bool false) rfl ((At.hit z37 rfl).n3).ev (At.hit z37.p3 rfl).ev ?_); refine l_q rfl (qa rfl (At.hit z37.p4 rfl) (l_end (e_fr z37.p6 fun a39 z39 m39 => ?_))); have s2_39 := m39 (At.hit z37.p5 rfl); have low39 := (((low24.trans h35).trans h36).trans h38); refine e_then (wp_ret (r_tmp rfl z39.defers s2_39 ?_)); exact ⟨by unfold rightN; rw [if_neg hb2, if_neg hb6, if_neg hb10, if_neg hb15, if_neg hb25, if_neg hb29, if_pos hb34] <;> rfl, low39⟩
       ·
        skip
        refine c_region ?_; refine l_q rfl (qm rfl s0_24 (l_call (fun v w' => v = .bool false ∧ Low w23 w') rfl rfl rfl Tryd.func56 rfl (args2 rfl (At.hit z24 rfl).ev rfl) (((calls_bool (prefix_calls s _) (eq_false_of_ne_true hb25))).mono fun _ _ ⟨e, k⟩ => ⟨_, e, rfl, k⟩) ?_))
        rintro _ w40 ⟨rfl, h40⟩
        refine l_q rfl (q_not (b := false) rfl (At.hit z24.put rfl).ev ?_); refine l_q rfl (qm rfl (At.hit z24.p2 rfl) (l_qg (wis rfl rfl (At.hit z24.p3 rfl) rfl) (qm rfl (s0_24.n4) (l_callg (fun v w' => v = .bool false ∧ Low w40 w') (wis rfl rfl ((At.hit z24.p3 rfl).n1) rfl) rfl rfl Tryd.func57 rfl (args2 rfl (At.hit z24.p4 rfl).ev rfl) (((calls_bool (suffix_calls s (by omega) _) (eq_false_of_ne_true hb29))).mono fun _ _ ⟨e, k⟩ => ⟨_, e, rfl, k⟩) ?_))))
        rintro _ w41 ⟨rfl, h41⟩
        refine l_qg (wis rfl rfl ((At.hit z24.p3 rfl).n2) rfl) (q_not (b := false) rfl (At.hit z24.p5 rfl).ev ?_); refine l_q rfl (q_pick (b := true) (.bool true) rfl ((At.hit z24.p3 rfl).n3).ev (At.hit z24.p6 rfl).ev ?_); refine l_fr z24.p8 fun a42 z42 m42 => ?_
        have s0_42 := m42 s0_24.n8; have s26_42 := m42 (At.hit z24.p7 rfl); refine l_q rfl (qm rfl s26_42 (l_qg (wis rfl rfl (At.hit z42 rfl) rfl) (qm rfl (s0_42.n1) (l_callg (fun v w' => v = .bool false ∧ Low w41 w') (wis rfl rfl ((At.hit z42 rfl).n1) rfl) rfl rfl Tryd.func58 rfl (args2 rfl (At.hit z42.put rfl).ev rfl) (((calls_bool (double_calls s (by omega) _ (Gd.low hG ((low24.trans h40).trans h41))) (eq_false_of_ne_true hb34))).mono fun _ _ ⟨e, k⟩ => ⟨_, e, rfl, k⟩) ?_))))
        rintro _ w43 ⟨rfl, h43⟩
        refine l_qg (wis rfl rfl ((At.hit z42 rfl).n2) rfl) (q_not (b := false) rfl (At.hit z42.p2 rfl).ev ?_); refine l_q rfl (q_pick (b := true) (.bool true) rfl ((At.hit z42 rfl).n3).ev (At.hit z42.p3 rfl).ev ?_); refine l_q rfl (qa rfl (At.hit z42.p4 rfl) (l_end (e_fr z42.p6 fun a44 z44 m44 => ?_))); have s2_44 := m44 (At.hit z42.p5 rfl); have low44 := (((low24.trans h40).trans h41).trans h43); refine e_then (wp_ret (r_tmp rfl z44.defers s2_44 ?_)); exact ⟨by unfold rightN; rw [if_neg hb2, if_neg hb6, if_neg hb10, if_neg hb15, if_neg hb25, if_neg hb29, if_neg hb34] <;> rfl, low44⟩
theorem RightS.calls (hd : ByteArray) (v : Value) (l : List Rf) (hl : l.length ≤ 1000000) (sp : Int) (w0 : World) (hv : RdF w0 2 v l.length (l.map encP).flatten) (hG : Gd w0) : Calls Tryd.prog 17 #[.agg #[.string hd, v], .int .i64 sp] w0 fun e w' => e = .returned (.bool (rightS hd l sp)) ∧ Low w0 w' := by
 refine c_fun (R := _) Tryd.func17 rfl 65 rfl (Nat.le_of_ble_eq_true rfl) ?_; intro a z hA; have s0 := hA 0 _ rfl; have s1 := hA 1 _ rfl; clear hA; refine c_seq (c_region (l_box rfl rfl s0.ev ?_)); intro g2 w1 hg1 k1 h1; have geg2 := Nat.le_trans (Low.refl _).ge hg1; have ov_1 := hv.low h1; refine l_q rfl (q_assign _ _ rfl rfl ?_); refine l_end (e_fr z.p2 fun a2 z2 m2 => ?_); have s1_2 := m2 s1.n2; have s2_2 := m2 ((At.hit z rfl).n1); have low2 := h1; refine e_then (c_seq (c_region ?_)); refine l_q rfl (qm rfl s1_2 (l_call (fun v w' => v = .int .i64 (nsize sp) ∧ Low w1 w') rfl rfl rfl Tryd.func28 rfl (args1 rfl (At.hit z2 rfl).ev) ((Size.calls sp _).mono fun _ _ ⟨e, k⟩ => ⟨_, e, rfl, k⟩) ?_))
 rintro _ w3 ⟨rfl, h3⟩
 have kg2_3 := h3.blk k1; have ov_3 := ov_1.low h3; refine l_q rfl (qa rfl (At.hit z2.put rfl) (l_end (e_fr z2.p3 fun a4 z4 m4 => ?_))); have s2_4 := m4 s2_2.n3; have s5_4 := m4 (At.hit z2.p2 rfl); have low4 := (low2.trans h3); refine e_then (c_seq (c_seq ?_))
 by_cases hb5 : nsize sp = 0
 ·
  skip
  refine c_region ?_; refine l_q rfl (qm rfl s5_4 (l_q rfl (q_eql true rfl (At.hit z4 rfl).ev rfl (decide_eq_true (by omega)) (l_q rfl (qm rfl (At.hit z4.put rfl) (l_skip (wis rfl rfl (At.hit z4.p2 rfl) rfl) (l_skip (wis rfl rfl ((At.hit z4.p2 rfl).n1) rfl) (l_skip (wis rfl rfl ((At.hit z4.p2 rfl).n2) rfl) (l_skip (wis rfl rfl ((At.hit z4.p2 rfl).n3) rfl) (l_skip (wun rfl rfl (At.hit z4.p6 rfl)) (l_fr z4.p8 fun a6 z6 m6 => ?_))))))))))); have s2_6 := m6 s2_4.n8; have s5_6 := m6 s5_4.n8; have s12_6 := m6 ((At.hit z4.p2 rfl).n5); have s16_6 := m6 ((At.hit z4.p6 rfl).n1); have s17_6 := m6 (At.hit z4.p7 rfl); refine l_skip (wun rfl rfl s16_6) ?_; refine l_skip (wun rfl rfl (s16_6.n1)) ?_; refine l_skip (wun rfl rfl (s16_6.n2)) ?_; refine l_skip (wis rfl rfl (s12_6.n3) rfl) ?_; refine l_q rfl (q_pick (b := true) (.bool true) rfl (s12_6.n4).ev rfl ?_); refine l_q rfl (qm rfl (At.hit z6.p4 rfl) (l_skip (wis rfl rfl (At.hit z6.p5 rfl) rfl) (l_skip (wis rfl rfl ((At.hit z6.p5 rfl).n1) rfl) (l_fr z6.p8 fun a7 z7 m7 => ?_)))); have s2_7 := m7 s2_6.n8; have s5_7 := m7 s5_6.n8; have s23_7 := m7 ((At.hit z6.p5 rfl).n2); have s25_7 := m7 (At.hit z6.p7 rfl); refine l_skip (wis rfl rfl s23_7 rfl) ?_; refine l_skip (wis rfl rfl (s23_7.n1) rfl) ?_; refine l_q rfl (q_pick (b := true) (.bool true) rfl (s23_7.n2).ev rfl ?_); refine l_end (e_fr z7.p3 fun a8 z8 m8 => ?_); have s2_8 := m8 s2_7.n3; have s5_8 := m8 s5_7.n3; have s28_8 := m8 (At.hit z7.p2 rfl); refine e_then (c_true s28_8 ?_); refine c_seq (c_region ?_); refine l_q rfl (q_assign _ _ rfl rfl ?_); refine l_end (e_fr z8.put fun a9 z9 m9 => ?_); have s4_9 := m9 (At.hit z8 rfl); refine e_then (wp_ret (ret_then (r_tmp rfl z9.defers s4_9 ?_))); exact ⟨by rw [rs_1 hb5]; rfl, low4⟩
 ·
  skip
  by_cases hb10 : ¬ hd = nilB
  ·
   skip
   by_cases hb11 : rightN hd = true
   ·
    skip
    by_cases hb12 : 1024 < l.length
    ·
     skip
     refine c_region ?_; refine l_q rfl (qm rfl s5_4 (l_q rfl (q_eql false rfl (At.hit z4 rfl).ev rfl (decide_eq_false (by omega)) (l_q rfl (qm rfl (At.hit z4.put rfl) (l_qg (wis rfl rfl (At.hit z4.p2 rfl) rfl) (q_fld 0 rfl (by kernel_rfl) (s2_4.n3).ev (l_qg (wis rfl rfl ((At.hit z4.p2 rfl).n1) rfl) (q_cellT (.string hd) rfl u_9 (At.hit z4.p3 rfl).ev (fun _ e => by rw [e]; exact (cells_at kg2_3 0).trans rfl) (l_qg (wis rfl rfl ((At.hit z4.p2 rfl).n2) rfl) (q_strne true rfl (At.hit z4.p4 rfl).ev rfl (neT hb10) (l_qg (wis rfl rfl ((At.hit z4.p2 rfl).n3) rfl) (qm rfl (At.hit z4.p5 rfl) (l_qg (wis rfl rfl (At.hit z4.p6 rfl) rfl) (q_fld 0 rfl (by kernel_rfl) (s2_4.n7).ev (l_fr z4.p8 fun a13 z13 m13 => ?_)))))))))))))))); have s2_13 := m13 s2_4.n8; have s5_13 := m13 s5_4.n8; have s12_13 := m13 ((At.hit z4.p2 rfl).n5); have s16_13 := m13 ((At.hit z4.p6 rfl).n1); have s17_13 := m13 (At.hit z4.p7 rfl); refine l_qg (wis rfl rfl s16_13 rfl) (q_cellT (.string hd) rfl u_9 s17_13.ev (fun _ e => by rw [e]; exact (cells_at kg2_3 0).trans rfl) ?_); refine l_callg (fun v w' => v = .bool true ∧ Low w3 w') (wis rfl rfl (s16_13.n1) rfl) rfl rfl Tryd.func27 rfl (args1 rfl (At.hit z13 rfl).ev) (((calls_bool (RightN.calls hd _ (Gd.low hG low4)) hb11)).mono fun _ _ ⟨e, k⟩ => ⟨_, e, rfl, k⟩) ?_
     rintro _ w14 ⟨rfl, h14⟩
     have kg2_14 := h14.blk kg2_3; have ov_14 := ov_3.low h14; refine l_qg (wis rfl rfl (s16_13.n2) rfl) (q_not (b := true) rfl (At.hit z13.put rfl).ev ?_); refine l_qg (wis rfl rfl (s12_13.n3) rfl) (q_pick (b := true) (.bool false) rfl (s16_13.n3).ev (At.hit z13.p2 rfl).ev ?_); refine l_q rfl (q_pick (b := false) (.bool false) rfl (s12_13.n4).ev (At.hit z13.p3 rfl).ev ?_); refine l_q rfl (qm rfl (At.hit z13.p4 rfl) (l_qg (wis rfl rfl (At.hit z13.p5 rfl) rfl) (q_fld 1 rfl (by kernel_rfl) (s2_13.n6).ev (l_qg (wis rfl rfl ((At.hit z13.p5 rfl).n1) rfl) (q_cellS (v) rfl u_22 (At.hit z13.p6 rfl).ev (fun _ e => by rw [e]; exact (cells_at kg2_14 1).trans rfl) (l_fr z13.p8 fun a15 z15 m15 => ?_)))))); have s2_15 := m15 s2_13.n8; have s5_15 := m15 s5_13.n8; have s23_15 := m15 ((At.hit z13.p5 rfl).n2); have s25_15 := m15 (At.hit z13.p7 rfl); refine l_qg (wis rfl rfl s23_15 rfl) (q_lenF rfl rfl u_22 s25_15.ev ov_14 ?_); refine l_qg (wis rfl rfl (s23_15.n1) rfl) (q_gtr true rfl (At.hit z15 rfl).ev rfl (decide_eq_true (by omega)) ?_); refine l_q rfl (q_pick (b := false) (.bool true) rfl (s23_15.n2).ev (At.hit z15.put rfl).ev ?_); refine l_end (e_fr z15.p3 fun a16 z16 m16 => ?_); have s2_16 := m16 s2_15.n3; have s5_16 := m16 s5_15.n3; have s28_16 := m16 (At.hit z15.p2 rfl); have low16 := (low4.trans h14); refine e_then (c_true s28_16 ?_); refine c_seq (c_region ?_); refine l_q rfl (q_assign _ _ rfl rfl ?_); refine l_end (e_fr z16.put fun a17 z17 m17 => ?_); have s4_17 := m17 (At.hit z16 rfl); refine e_then (wp_ret (ret_then (r_tmp rfl z17.defers s4_17 ?_))); exact ⟨by rw [rs_3 hb12]; rfl, low16⟩
    ·
     skip
     refine c_region ?_; refine l_q rfl (qm rfl s5_4 (l_q rfl (q_eql false rfl (At.hit z4 rfl).ev rfl (decide_eq_false (by omega)) (l_q rfl (qm rfl (At.hit z4.put rfl) (l_qg (wis rfl rfl (At.hit z4.p2 rfl) rfl) (q_fld 0 rfl (by kernel_rfl) (s2_4.n3).ev (l_qg (wis rfl rfl ((At.hit z4.p2 rfl).n1) rfl) (q_cellT (.string hd) rfl u_9 (At.hit z4.p3 rfl).ev (fun _ e => by rw [e]; exact (cells_at kg2_3 0).trans rfl) (l_qg (wis rfl rfl ((At.hit z4.p2 rfl).n2) rfl) (q_strne true rfl (At.hit z4.p4 rfl).ev rfl (neT hb10) (l_qg (wis rfl rfl ((At.hit z4.p2 rfl).n3) rfl) (qm rfl (At.hit z4.p5 rfl) (l_qg (wis rfl rfl (At.hit z4.p6 rfl) rfl) (q_fld 0 rfl (by kernel_rfl) (s2_4.n7).ev (l_fr z4.p8 fun a18 z18 m18 => ?_)))))))))))))))); have s2_18 := m18 s2_4.n8; have s5_18 := m18 s5_4.n8; have s12_18 := m18 ((At.hit z4.p2 rfl).n5); have s16_18 := m18 ((At.hit z4.p6 rfl).n1); have s17_18 := m18 (At.hit z4.p7 rfl); refine l_qg (wis rfl rfl s16_18 rfl) (q_cellT (.string hd) rfl u_9 s17_18.ev (fun _ e => by rw [e]; exact (cells_at kg2_3 0).trans rfl) ?_); refine l_callg (fun v w' => v = .bool true ∧ Low w3 w') (wis rfl rfl (s16_18.n1) rfl) rfl rfl Tryd.func27 rfl (args1 rfl (At.hit z18 rfl).ev) (((calls_bool (RightN.calls hd _ (Gd.low hG low4)) hb11)).mono fun _ _ ⟨e, k⟩ => ⟨_, e, rfl, k⟩) ?_
     rintro _ w19 ⟨rfl, h19⟩
     have kg2_19 := h19.blk kg2_3; have ov_19 := ov_3.low h19; refine l_qg (wis rfl rfl (s16_18.n2) rfl) (q_not (b := true) rfl (At.hit z18.put rfl).ev ?_); refine l_qg (wis rfl rfl (s12_18.n3) rfl) (q_pick (b := true) (.bool false) rfl (s16_18.n3).ev (At.hit z18.p2 rfl).ev ?_); refine l_q rfl (q_pick (b := false) (.bool false) rfl (s12_18.n4).ev (At.hit z18.p3 rfl).ev ?_); refine l_q rfl (qm rfl (At.hit z18.p4 rfl) (l_qg (wis rfl rfl (At.hit z18.p5 rfl) rfl) (q_fld 1 rfl (by kernel_rfl) (s2_18.n6).ev (l_qg (wis rfl rfl ((At.hit z18.p5 rfl).n1) rfl) (q_cellS (v) rfl u_22 (At.hit z18.p6 rfl).ev (fun _ e => by rw [e]; exact (cells_at kg2_19 1).trans rfl) (l_fr z18.p8 fun a20 z20 m20 => ?_)))))); have s2_20 := m20 s2_18.n8; have s5_20 := m20 s5_18.n8; have s23_20 := m20 ((At.hit z18.p5 rfl).n2); have s25_20 := m20 (At.hit z18.p7 rfl); refine l_qg (wis rfl rfl s23_20 rfl) (q_lenF rfl rfl u_22 s25_20.ev ov_19 ?_); refine l_qg (wis rfl rfl (s23_20.n1) rfl) (q_gtr false rfl (At.hit z20 rfl).ev rfl (decide_eq_false (by omega)) ?_); refine l_q rfl (q_pick (b := false) (.bool false) rfl (s23_20.n2).ev (At.hit z20.put rfl).ev ?_); refine l_end (e_fr z20.p3 fun a21 z21 m21 => ?_); have s2_21 := m21 s2_20.n3; have s5_21 := m21 s5_20.n3; have s28_21 := m21 (At.hit z20.p2 rfl); have low21 := (low4.trans h19); refine e_then (c_false s28_21 ?_); refine wp_skip (e_then (c_seq (c_seq (c_region ?_)))); refine l_q rfl (q_fld 1 rfl (by kernel_rfl) s2_21.ev ?_); refine l_q rfl (q_cellS (v) rfl u_22 (At.hit z21 rfl).ev (fun _ e => by rw [e]; exact (cells_at kg2_19 1).trans rfl) ?_); refine l_q rfl (q_lenF rfl rfl u_22 (At.hit z21.put rfl).ev ov_19 ?_); refine l_q rfl (q_move _ _ rfl rfl ?_); refine l_end (e_fr z21.p4 fun a22 z22 m22 => ?_); have s2_22 := m22 s2_21.n4; have s5_22 := m22 s5_21.n4; have s30_22 := m22 ((At.hit z21.put rfl).n2); have s31_22 := m22 ((At.hit z21.p2 rfl).n1); have s32_22 := m22 (At.hit z21.p3 rfl); refine e_then (wp_block (c_loop (rgN l (nsize sp)) (fun k a w => Fr 65 a ∧ At a 2 (.pointer (some ⟨g2, 0, none⟩)) ∧ At a 5 (.int .i64 (nsize sp)) ∧ At a 30 (v) ∧ At a 31 (.int .i64 ((l.length : Nat) : Int)) ∧ At a 32 (.int .i64 ((k : Nat) : Int)) ∧ w.heap[g2]? = some (.cells (#[.string hd, v]) 24) ∧ Low w0 w) ?_ ?_ ?_))
     ·
      exact ⟨z22, s2_22, s5_22, s30_22, s31_22, s32_22, kg2_19, low21⟩
     ·
      intro k a23 w23 hk23 h; obtain ⟨z23, s2_23, s5_23, s30_23, s31_23, s32_23, kg2_23, low23⟩ := h; clear kg2_19 low21 s2_22 s30_22 s31_22 s32_22 s5_22 z22; have hle := rgN_le l (nsize sp); have hok := rgN_round (by assumption); obtain ⟨hok1, hok2, hok3⟩ := hok; refine c_seq (c_region ?_); refine l_q rfl (q_lss true rfl s32_23.ev s31_23.ev (decide_eq_true (by omega)) ?_); refine l_end (e_fr z23.put fun a24 z24 m24 => ?_); have s2_24 := m24 s2_23.n1; have s5_24 := m24 s5_23.n1; have s30_24 := m24 s30_23.n1; have s31_24 := m24 s31_23.n1; have s32_24 := m24 s32_23.n1; have s33_24 := m24 (At.hit z23 rfl); refine e_then (c_seq (c_true s33_24 ?_)); refine wp_skip (e_then (c_seq (wp_block (c_seq (c_region ?_))))); refine l_q rfl (qm rfl s32_24 (l_q rfl (q_idxF (j := k) rfl u_22 sz55 (s30_24.n1).ev (hv.low low23) (s32_24.n1).ev (by omega) (l_q rfl (q_ldR (vs := [.string ((l.getD k zP).f0), .string ((l.getD k zP).f1)]) rfl u_55 rfl sz55 (At.hit z24.put rfl).ev (fun _ e => by rw [e]; exact (hv.low low23)) (by omega) rfl (flat_part encP_len zP _ k (by omega)) (l_alloc rfl rfl zero55 ?_)))))); intro g7 w25 hg25 k25 h25; have lt_g2_g7 := Nat.lt_of_lt_of_le (heap_lt kg2_23) hg25; have geg7 := Nat.le_trans low23.ge hg25; have kg2_25 := h25.blk kg2_23; have ov_25 := (hv.low low23).low h25; refine l_q rfl (qa rfl ((At.hit z24 rfl).n3) (l_row rfl rfl rfl (sz55.trans (congrArg some rfl.symm)) ((At.hit z24.p3 rfl).n1).ev ((At.hit z24.p2 rfl).n2).ev (by simp [Value.oneCell']) k25 (rfl.trans rfl.symm) ?_)); intro w26 k26 u26; have kg2_26 := u26.blk kg2_25 (by omega); refine l_end (e_fr z24.p5 fun a27 z27 m27 => ?_); have s2_27 := m27 s2_24.n5; have s5_27 := m27 s5_24.n5; have s6_27 := m27 (At.hit z24.p4 rfl); have s7_27 := m27 ((At.hit z24.p3 rfl).n1); have s30_27 := m27 s30_24.n5; have s31_27 := m27 s31_24.n5; have s32_27 := m27 s32_24.n5; have low27 := ((low23.trans h25).upd u26 geg7); refine e_then (c_seq ?_)
      by_cases hb28 : 0 < k
      ·
       skip
       refine region_lowg hm (by kernel_rfl) ?_; refine gs rfl (q_fld 0 rfl (by kernel_rfl) s7_27.ev ?_); refine gs rfl (q_cellT (.string ((l.getD k zP).f0)) rfl u_9 (At.hit z27 rfl).ev (fun _ h => (cells_at (h.blk k26) 0).trans rfl) ?_); refine gs rfl (q_call (.bool true) rfl rfl Tryd.func27 rfl (args1 rfl (At.hit z27.put rfl).ev) (fun _ h => ((calls_bool (RightN.calls ((l.getD k zP).f0) _ (Gd.low hG (low27.trans h))) hok1)).mono fun _ _ ⟨e, k⟩ => ⟨e, h.trans k⟩) ?_); refine gs rfl (q_not (b := true) rfl (At.hit z27.p2 rfl).ev ?_); refine gs rfl (qm rfl (At.hit z27.p3 rfl) (gsg (wis rfl rfl (At.hit z27.p4 rfl) rfl) (q_fld 1 rfl (by kernel_rfl) (s7_27.n5).ev (gsg (wis rfl rfl ((At.hit z27.p4 rfl).n1) rfl) (q_cellT (.string ((l.getD k zP).f1)) rfl u_9 (At.hit z27.p5 rfl).ev (fun _ h => (cells_at (h.blk k26) 1).trans rfl) (gsg (wis rfl rfl ((At.hit z27.p4 rfl).n2) rfl) (q_len rfl rfl u_9 (At.hit z27.p6 rfl).ev (g_fr z27.p8 fun a29 z29 m29 => ?_)))))))); have s2_29 := m29 s2_27.n8; have s5_29 := m29 s5_27.n8; have s6_29 := m29 s6_27.n8; have s7_29 := m29 s7_27.n8; have s30_29 := m29 s30_27.n8; have s31_29 := m29 s31_27.n8; have s32_29 := m29 s32_27.n8; have s41_29 := m29 ((At.hit z27.p4 rfl).n3); have s44_29 := m29 (At.hit z27.p7 rfl); refine gsg (wis rfl rfl s41_29 rfl) (qm rfl s5_29 (gsg (wis rfl rfl (s41_29.n1) rfl) (q_neq false rfl (s44_29.n1).ev (At.hit z29 rfl).ev (decide_eq_false (by omega)) (gs rfl (q_pick (b := false) (.bool false) rfl (s41_29.n2).ev (At.hit z29.put rfl).ev (gs rfl (qm rfl (At.hit z29.p2 rfl) (gsg (wis rfl rfl (At.hit z29.p3 rfl) rfl) (qm rfl (s6_29.n4) (gsg (wis rfl rfl ((At.hit z29.p3 rfl).n1) rfl) (q_gtr true rfl (At.hit z29.p4 rfl).ev rfl (decide_eq_true (by omega)) (gsg (wis rfl rfl ((At.hit z29.p3 rfl).n2) rfl) (qm rfl (At.hit z29.p5 rfl) (gsg (wis rfl rfl (At.hit z29.p6 rfl) rfl) (q_fld 0 rfl (by kernel_rfl) (s7_29.n7).ev (g_fr z29.p8 fun a30 z30 m30 => ?_)))))))))))))))); have s2_30 := m30 s2_29.n8; have s5_30 := m30 s5_29.n8; have s6_30 := m30 s6_29.n8; have s30_30 := m30 s30_29.n8; have s31_30 := m30 s31_29.n8; have s32_30 := m30 s32_29.n8; have s48_30 := m30 ((At.hit z29.p3 rfl).n4); have s51_30 := m30 ((At.hit z29.p6 rfl).n1); have s52_30 := m30 (At.hit z29.p7 rfl); refine gsg (wis rfl rfl s51_30 rfl) (q_cellT (.string ((l.getD k zP).f0)) rfl u_9 s52_30.ev (fun _ h => (cells_at (h.blk k26) 0).trans rfl) ?_); refine gsg (wis rfl rfl (s51_30.n1) rfl) (q_fld 1 rfl (by kernel_rfl) (s2_30.n1).ev ?_); refine gsg (wis rfl rfl (s51_30.n2) rfl) (q_cellS (v) rfl u_22 (At.hit z30.put rfl).ev (fun _ h => (cells_at (h.blk kg2_26) 1).trans rfl) ?_); refine gsg (wis rfl rfl (s51_30.n3) rfl) (qm rfl (s6_30.n3) (gsg (wis rfl rfl (s51_30.n4) rfl) (q_sub ((((k : Nat) : Int) - 1)) rfl (At.hit z30.p3 rfl).ev rfl (i64_is (by omega) (by omega) (by omega)) (gsg (wis rfl rfl (s51_30.n5) rfl) (q_idxF (j := k - 1) rfl u_22 sz55 ((At.hit z30.p2 rfl).n2).ev (hv.low ((low23.trans h25).upd u26 geg7)) ((At.hit z30.p4 rfl).same (congrArg (Value.int .i64) (show ((((k : Nat) : Int) - 1) : Int) = ((k - 1 : Nat) : Int) by omega))).ev (by omega) (gsg (wis rfl rfl (s51_30.n6) rfl) (q_fldF 0 rfl fld55_0 (At.hit z30.p5 rfl).ev ((hv.low ((low23.trans h25).upd u26 geg7)).form (by omega)) (gsg (wis rfl rfl (s51_30.n7) rfl) (q_ld1 (u := .string ((l.getD (k - 1) zP).f0)) rfl u_9 rfl (At.hit z30.p6 rfl).ev (fun _ h => ((hv.low ((low23.trans h25).upd u26 geg7)).low h)) (by omega) ((flat_at encP_len zP _ (k - 1) 0 (by omega) (by decide)).trans rfl) (g_fr z30.p8 fun a31 z31 m31 => ?_))))))))))
       have s2_31 := m31 s2_30.n8; have s5_31 := m31 s5_30.n8; have s30_31 := m31 s30_30.n8; have s31_31 := m31 s31_30.n8; have s32_31 := m31 s32_30.n8; have s48_31 := m31 s48_30.n8; have s51_31 := m31 s51_30.n8; have s53_31 := m31 ((At.hit z30 rfl).n7); have s60_31 := m31 (At.hit z30.p7 rfl); refine gsg (wis rfl rfl s51_31 rfl) (q_strleq false rfl s53_31.ev s60_31.ev (leF (hok3 hb28)) ?_); refine gsg (wis rfl rfl (s48_31.n1) rfl) (q_pick (b := true) (.bool false) rfl (s51_31.n1).ev (At.hit z31 rfl).ev ?_); refine gs rfl (q_pick (b := false) (.bool false) rfl (s48_31.n2).ev (At.hit z31.put rfl).ev ?_); refine gz ?_; intro w32 h32; have kg2_32 := h32.blk kg2_26; have kg7_32 := h32.blk k26; have ov_32 := (hv.low ((low23.trans h25).upd u26 geg7)).low h32; refine e_id (e_fr z31.p3 fun a33 z33 m33 => ?_); have s2_33 := m33 s2_31.n3; have s5_33 := m33 s5_31.n3; have s30_33 := m33 s30_31.n3; have s31_33 := m33 s31_31.n3; have s32_33 := m33 s32_31.n3; have s63_33 := m33 (At.hit z31.p2 rfl); have low33 := (low27.trans h32); refine e_then (c_false s63_33 ?_); refine wp_skip (e_in (e_then (c_region ?_))); refine l_q rfl (q_add (((k + 1 : Nat) : Int)) rfl s32_33.ev rfl (i64_is (by omega) (by omega) (by omega)) ?_); refine l_q rfl (qm rfl (At.hit z33 rfl) (l_end (e_fr z33.p2 fun a34 z34 m34 => ?_))); have s2_34 := m34 s2_33.n2; have s5_34 := m34 s5_33.n2; have s30_34 := m34 s30_33.n2; have s31_34 := m34 s31_33.n2; have s32_34 := m34 (At.hit z33.put rfl); exact ⟨z34, s2_34, s5_34, s30_34, s31_34, s32_34, kg2_32, low33⟩
      ·
       skip
       refine region_lowg hm (by kernel_rfl) ?_; refine gs rfl (q_fld 0 rfl (by kernel_rfl) s7_27.ev ?_); refine gs rfl (q_cellT (.string ((l.getD k zP).f0)) rfl u_9 (At.hit z27 rfl).ev (fun _ h => (cells_at (h.blk k26) 0).trans rfl) ?_); refine gs rfl (q_call (.bool true) rfl rfl Tryd.func27 rfl (args1 rfl (At.hit z27.put rfl).ev) (fun _ h => ((calls_bool (RightN.calls ((l.getD k zP).f0) _ (Gd.low hG (low27.trans h))) hok1)).mono fun _ _ ⟨e, k⟩ => ⟨e, h.trans k⟩) ?_); refine gs rfl (q_not (b := true) rfl (At.hit z27.p2 rfl).ev ?_); refine gs rfl (qm rfl (At.hit z27.p3 rfl) (gsg (wis rfl rfl (At.hit z27.p4 rfl) rfl) (q_fld 1 rfl (by kernel_rfl) (s7_27.n5).ev (gsg (wis rfl rfl ((At.hit z27.p4 rfl).n1) rfl) (q_cellT (.string ((l.getD k zP).f1)) rfl u_9 (At.hit z27.p5 rfl).ev (fun _ h => (cells_at (h.blk k26) 1).trans rfl) (gsg (wis rfl rfl ((At.hit z27.p4 rfl).n2) rfl) (q_len rfl rfl u_9 (At.hit z27.p6 rfl).ev (g_fr z27.p8 fun a35 z35 m35 => ?_)))))))); have s2_35 := m35 s2_27.n8; have s5_35 := m35 s5_27.n8; have s6_35 := m35 s6_27.n8; have s7_35 := m35 s7_27.n8; have s30_35 := m35 s30_27.n8; have s31_35 := m35 s31_27.n8; have s32_35 := m35 s32_27.n8; have s41_35 := m35 ((At.hit z27.p4 rfl).n3); have s44_35 := m35 (At.hit z27.p7 rfl); refine gsg (wis rfl rfl s41_35 rfl) (qm rfl s5_35 (gsg (wis rfl rfl (s41_35.n1) rfl) (q_neq false rfl (s44_35.n1).ev (At.hit z35 rfl).ev (decide_eq_false (by omega)) (gs rfl (q_pick (b := false) (.bool false) rfl (s41_35.n2).ev (At.hit z35.put rfl).ev (gs rfl (qm rfl (At.hit z35.p2 rfl) (gsg (wis rfl rfl (At.hit z35.p3 rfl) rfl) (qm rfl (s6_35.n4) (gsg (wis rfl rfl ((At.hit z35.p3 rfl).n1) rfl) (q_gtr false rfl (At.hit z35.p4 rfl).ev rfl (decide_eq_false (by omega)) (gsg (wis rfl rfl ((At.hit z35.p3 rfl).n2) rfl) (qm rfl (At.hit z35.p5 rfl) (gsk (wis rfl rfl (At.hit z35.p6 rfl) rfl) (g_fr z35.p8 fun a36 z36 m36 => ?_))))))))))))))); have s2_36 := m36 s2_35.n8; have s5_36 := m36 s5_35.n8; have s6_36 := m36 s6_35.n8; have s30_36 := m36 s30_35.n8; have s31_36 := m36 s31_35.n8; have s32_36 := m36 s32_35.n8; have s48_36 := m36 ((At.hit z35.p3 rfl).n4); have s51_36 := m36 ((At.hit z35.p6 rfl).n1); have s52_36 := m36 (At.hit z35.p7 rfl); refine gsk (wis rfl rfl s51_36 rfl) ?_; refine gsk (wis rfl rfl (s51_36.n1) rfl) ?_; refine gsk (wis rfl rfl (s51_36.n2) rfl) ?_; refine gsk (wis rfl rfl (s51_36.n3) rfl) ?_; refine gsk (wis rfl rfl (s51_36.n4) rfl) ?_; refine gsk (wis rfl rfl (s51_36.n5) rfl) ?_; refine gsk (wis rfl rfl (s51_36.n6) rfl) ?_; refine gsk (wis rfl rfl (s51_36.n7) rfl) ?_; refine g_fr z36.p8 fun a37 z37 m37 => ?_
       have s2_37 := m37 s2_36.n8; have s5_37 := m37 s5_36.n8; have s30_37 := m37 s30_36.n8; have s31_37 := m37 s31_36.n8; have s32_37 := m37 s32_36.n8; have s48_37 := m37 s48_36.n8; have s51_37 := m37 s51_36.n8; have s53_37 := m37 ((At.hit z36 rfl).n7); have s60_37 := m37 (At.hit z36.p7 rfl); refine gsk (wis rfl rfl s51_37 rfl) ?_; refine gsg (wis rfl rfl (s48_37.n1) rfl) (q_pick (b := false) (.bool false) rfl (s51_37.n1).ev rfl ?_); refine gs rfl (q_pick (b := false) (.bool false) rfl (s48_37.n2).ev (At.hit z37.put rfl).ev ?_); refine gz ?_; intro w38 h38; have kg2_38 := h38.blk kg2_26; have kg7_38 := h38.blk k26; have ov_38 := (hv.low ((low23.trans h25).upd u26 geg7)).low h38; refine e_id (e_fr z37.p3 fun a39 z39 m39 => ?_); have s2_39 := m39 s2_37.n3; have s5_39 := m39 s5_37.n3; have s30_39 := m39 s30_37.n3; have s31_39 := m39 s31_37.n3; have s32_39 := m39 s32_37.n3; have s63_39 := m39 (At.hit z37.p2 rfl); have low39 := (low27.trans h38); refine e_then (c_false s63_39 ?_); refine wp_skip (e_in (e_then (c_region ?_))); refine l_q rfl (q_add (((k + 1 : Nat) : Int)) rfl s32_39.ev rfl (i64_is (by omega) (by omega) (by omega)) ?_); refine l_q rfl (qm rfl (At.hit z39 rfl) (l_end (e_fr z39.p2 fun a40 z40 m40 => ?_))); have s2_40 := m40 s2_39.n2; have s5_40 := m40 s5_39.n2; have s30_40 := m40 s30_39.n2; have s31_40 := m40 s31_39.n2; have s32_40 := m40 (At.hit z39.put rfl); exact ⟨z40, s2_40, s5_40, s30_40, s31_40, s32_40, kg2_38, low39⟩
     ·
      intro a41 w41 h; obtain ⟨z41, s2_41, s5_41, s30_41, s31_41, s32_41, kg2_41, low41⟩ := h; clear kg2_19 low21 s2_22 s30_22 s31_22 s32_22 s5_22 z22; have hle := rgN_le l (nsize sp); refine c_seq ?_
      by_cases hb42 : rgN l (nsize sp) < l.length
      ·
       skip
       refine c_region ?_; refine l_q rfl (q_lss true rfl s32_41.ev s31_41.ev (decide_eq_true (by omega)) ?_); refine l_end (e_fr z41.put fun a43 z43 m43 => ?_); have s2_43 := m43 s2_41.n1; have s5_43 := m43 s5_41.n1; have s30_43 := m43 s30_41.n1; have s32_43 := m43 s32_41.n1; have s33_43 := m43 (At.hit z41 rfl); refine e_then (c_seq (c_true s33_43 ?_)); refine wp_skip (e_then (c_seq (wp_block (c_seq (c_region ?_))))); refine l_q rfl (qm rfl s32_43 (l_q rfl (q_idxF (j := (rgN l (nsize sp))) rfl u_22 sz55 (s30_43.n1).ev (hv.low low41) (s32_43.n1).ev (by omega) (l_q rfl (q_ldR (vs := [.string ((l.getD (rgN l (nsize sp)) zP).f0), .string ((l.getD (rgN l (nsize sp)) zP).f1)]) rfl u_55 rfl sz55 (At.hit z43.put rfl).ev (fun _ e => by rw [e]; exact (hv.low low41)) (by omega) rfl (flat_part encP_len zP _ (rgN l (nsize sp)) (by omega)) (l_alloc rfl rfl zero55 ?_)))))); intro g7 w44 hg44 k44 h44; have lt_g2_g7 := Nat.lt_of_lt_of_le (heap_lt kg2_41) hg44; have geg7 := Nat.le_trans low41.ge hg44; have kg2_44 := h44.blk kg2_41; have ov_44 := (hv.low low41).low h44; refine l_q rfl (qa rfl ((At.hit z43 rfl).n3) (l_row rfl rfl rfl (sz55.trans (congrArg some rfl.symm)) ((At.hit z43.p3 rfl).n1).ev ((At.hit z43.p2 rfl).n2).ev (by simp [Value.oneCell']) k44 (rfl.trans rfl.symm) ?_)); intro w45 k45 u45; have kg2_45 := u45.blk kg2_44 (by omega); refine l_end (e_fr z43.p5 fun a46 z46 m46 => ?_); have s2_46 := m46 s2_43.n5; have s5_46 := m46 s5_43.n5; have s6_46 := m46 (At.hit z43.p4 rfl); have s7_46 := m46 ((At.hit z43.p3 rfl).n1); have s32_46 := m46 s32_43.n5; have low46 := ((low41.trans h44).upd u45 geg7); refine e_then (c_seq ?_)
       by_cases hb47 : rightN (l.getD (rgN l (nsize sp)) zP).f0 = true
       ·
        skip
        by_cases hb48 : ¬ ((l.getD (rgN l (nsize sp)) zP).f1.size : Int) = nsize sp
        ·
         skip
         refine region_lowg hm (by kernel_rfl) ?_; refine gs rfl (q_fld 0 rfl (by kernel_rfl) s7_46.ev ?_); refine gs rfl (q_cellT (.string ((l.getD (rgN l (nsize sp)) zP).f0)) rfl u_9 (At.hit z46 rfl).ev (fun _ h => (cells_at (h.blk k45) 0).trans rfl) ?_); refine gs rfl (q_call (.bool true) rfl rfl Tryd.func27 rfl (args1 rfl (At.hit z46.put rfl).ev) (fun _ h => ((calls_bool (RightN.calls ((l.getD (rgN l (nsize sp)) zP).f0) _ (Gd.low hG (low46.trans h))) hb47)).mono fun _ _ ⟨e, k⟩ => ⟨e, h.trans k⟩) ?_); refine gs rfl (q_not (b := true) rfl (At.hit z46.p2 rfl).ev ?_); refine gs rfl (qm rfl (At.hit z46.p3 rfl) (gsg (wis rfl rfl (At.hit z46.p4 rfl) rfl) (q_fld 1 rfl (by kernel_rfl) (s7_46.n5).ev (gsg (wis rfl rfl ((At.hit z46.p4 rfl).n1) rfl) (q_cellT (.string ((l.getD (rgN l (nsize sp)) zP).f1)) rfl u_9 (At.hit z46.p5 rfl).ev (fun _ h => (cells_at (h.blk k45) 1).trans rfl) (gsg (wis rfl rfl ((At.hit z46.p4 rfl).n2) rfl) (q_len rfl rfl u_9 (At.hit z46.p6 rfl).ev (g_fr z46.p8 fun a49 z49 m49 => ?_)))))))); have s2_49 := m49 s2_46.n8; have s5_49 := m49 s5_46.n8; have s6_49 := m49 s6_46.n8; have s7_49 := m49 s7_46.n8; have s32_49 := m49 s32_46.n8; have s41_49 := m49 ((At.hit z46.p4 rfl).n3); have s44_49 := m49 (At.hit z46.p7 rfl); refine gsg (wis rfl rfl s41_49 rfl) (qm rfl s5_49 (gsg (wis rfl rfl (s41_49.n1) rfl) (q_neq true rfl (s44_49.n1).ev (At.hit z49 rfl).ev (decide_eq_true (by omega)) (gs rfl (q_pick (b := false) (.bool true) rfl (s41_49.n2).ev (At.hit z49.put rfl).ev (gs rfl (qm rfl (At.hit z49.p2 rfl) (gsk (wis rfl rfl (At.hit z49.p3 rfl) rfl) (gsk (wis rfl rfl ((At.hit z49.p3 rfl).n1) rfl) (gsk (wis rfl rfl ((At.hit z49.p3 rfl).n2) rfl) (gsk (wun rfl rfl (At.hit z49.p6 rfl)) (g_fr z49.p8 fun a50 z50 m50 => ?_)))))))))))); have s2_50 := m50 s2_49.n8; have s6_50 := m50 s6_49.n8; have s32_50 := m50 s32_49.n8; have s48_50 := m50 ((At.hit z49.p3 rfl).n4); have s51_50 := m50 ((At.hit z49.p6 rfl).n1); have s52_50 := m50 (At.hit z49.p7 rfl); refine gsk (wun rfl rfl s51_50) ?_; refine gsk (wun rfl rfl (s51_50.n1)) ?_; refine gsk (wun rfl rfl (s51_50.n2)) ?_; refine gsk (wun rfl rfl (s51_50.n3)) ?_; refine gsk (wun rfl rfl (s51_50.n4)) ?_; refine gsk (wun rfl rfl (s51_50.n5)) ?_; refine gsk (wun rfl rfl (s51_50.n6)) ?_; refine gsk (wun rfl rfl (s51_50.n7)) ?_; refine g_fr z50.p8 fun a51 z51 m51 => ?_
         have s32_51 := m51 s32_50.n8; have s48_51 := m51 s48_50.n8; have s51_51 := m51 s51_50.n8; have s53_51 := m51 ((At.hit z50 rfl).n7); have s60_51 := m51 (At.hit z50.p7 rfl); refine gsk (wun rfl rfl s51_51) ?_; refine gsk (wis rfl rfl (s48_51.n1) rfl) ?_; refine gs rfl (q_pick (b := true) (.bool true) rfl (s48_51.n2).ev rfl ?_); refine gz ?_; intro w52 h52; have kg2_52 := h52.blk kg2_45; have kg7_52 := h52.blk k45; have ov_52 := (hv.low ((low41.trans h44).upd u45 geg7)).low h52; refine e_id (e_fr z51.p3 fun a53 z53 m53 => ?_); have s32_53 := m53 s32_51.n3; have s63_53 := m53 (At.hit z51.p2 rfl); have low53 := (low46.trans h52); refine e_then (c_true s63_53 ?_); refine c_seq (c_region ?_); refine l_q rfl (q_assign _ _ rfl rfl ?_); refine l_end (e_fr z53.put fun a54 z54 m54 => ?_); have s4_54 := m54 (At.hit z53 rfl); refine e_then (wp_ret (ret_in (ret_then (ret_then (ret_in (ret_then (r_tmp rfl z54.defers s4_54 ?_))))))); exact ⟨by rw [rs_4 hb42]; rfl, low53⟩
        ·
         skip
         by_cases hb55 : 0 < rgN l (nsize sp)
         ·
          skip
          by_cases hb56 : ¬ lessB (l.getD (rgN l (nsize sp) - 1) zP).f0 (l.getD (rgN l (nsize sp)) zP).f0 = true
          ·
           skip
           refine region_lowg hm (by kernel_rfl) ?_; refine gs rfl (q_fld 0 rfl (by kernel_rfl) s7_46.ev ?_); refine gs rfl (q_cellT (.string ((l.getD (rgN l (nsize sp)) zP).f0)) rfl u_9 (At.hit z46 rfl).ev (fun _ h => (cells_at (h.blk k45) 0).trans rfl) ?_); refine gs rfl (q_call (.bool true) rfl rfl Tryd.func27 rfl (args1 rfl (At.hit z46.put rfl).ev) (fun _ h => ((calls_bool (RightN.calls ((l.getD (rgN l (nsize sp)) zP).f0) _ (Gd.low hG (low46.trans h))) hb47)).mono fun _ _ ⟨e, k⟩ => ⟨e, h.trans k⟩) ?_); refine gs rfl (q_not (b := true) rfl (At.hit z46.p2 rfl).ev ?_); refine gs rfl (qm rfl (At.hit z46.p3 rfl) (gsg (wis rfl rfl (At.hit z46.p4 rfl) rfl) (q_fld 1 rfl (by kernel_rfl) (s7_46.n5).ev (gsg (wis rfl rfl ((At.hit z46.p4 rfl).n1) rfl) (q_cellT (.string ((l.getD (rgN l (nsize sp)) zP).f1)) rfl u_9 (At.hit z46.p5 rfl).ev (fun _ h => (cells_at (h.blk k45) 1).trans rfl) (gsg (wis rfl rfl ((At.hit z46.p4 rfl).n2) rfl) (q_len rfl rfl u_9 (At.hit z46.p6 rfl).ev (g_fr z46.p8 fun a57 z57 m57 => ?_)))))))); have s2_57 := m57 s2_46.n8; have s5_57 := m57 s5_46.n8; have s6_57 := m57 s6_46.n8; have s7_57 := m57 s7_46.n8; have s32_57 := m57 s32_46.n8; have s41_57 := m57 ((At.hit z46.p4 rfl).n3); have s44_57 := m57 (At.hit z46.p7 rfl); refine gsg (wis rfl rfl s41_57 rfl) (qm rfl s5_57 (gsg (wis rfl rfl (s41_57.n1) rfl) (q_neq false rfl (s44_57.n1).ev (At.hit z57 rfl).ev (decide_eq_false (by omega)) (gs rfl (q_pick (b := false) (.bool false) rfl (s41_57.n2).ev (At.hit z57.put rfl).ev (gs rfl (qm rfl (At.hit z57.p2 rfl) (gsg (wis rfl rfl (At.hit z57.p3 rfl) rfl) (qm rfl (s6_57.n4) (gsg (wis rfl rfl ((At.hit z57.p3 rfl).n1) rfl) (q_gtr true rfl (At.hit z57.p4 rfl).ev rfl (decide_eq_true (by omega)) (gsg (wis rfl rfl ((At.hit z57.p3 rfl).n2) rfl) (qm rfl (At.hit z57.p5 rfl) (gsg (wis rfl rfl (At.hit z57.p6 rfl) rfl) (q_fld 0 rfl (by kernel_rfl) (s7_57.n7).ev (g_fr z57.p8 fun a58 z58 m58 => ?_)))))))))))))))); have s2_58 := m58 s2_57.n8; have s6_58 := m58 s6_57.n8; have s32_58 := m58 s32_57.n8; have s48_58 := m58 ((At.hit z57.p3 rfl).n4); have s51_58 := m58 ((At.hit z57.p6 rfl).n1); have s52_58 := m58 (At.hit z57.p7 rfl); refine gsg (wis rfl rfl s51_58 rfl) (q_cellT (.string ((l.getD (rgN l (nsize sp)) zP).f0)) rfl u_9 s52_58.ev (fun _ h => (cells_at (h.blk k45) 0).trans rfl) ?_); refine gsg (wis rfl rfl (s51_58.n1) rfl) (q_fld 1 rfl (by kernel_rfl) (s2_58.n1).ev ?_); refine gsg (wis rfl rfl (s51_58.n2) rfl) (q_cellS (v) rfl u_22 (At.hit z58.put rfl).ev (fun _ h => (cells_at (h.blk kg2_45) 1).trans rfl) ?_); refine gsg (wis rfl rfl (s51_58.n3) rfl) (qm rfl (s6_58.n3) (gsg (wis rfl rfl (s51_58.n4) rfl) (q_sub ((((rgN l (nsize sp) : Nat) : Int) - 1)) rfl (At.hit z58.p3 rfl).ev rfl (i64_is (by omega) (by omega) (by omega)) (gsg (wis rfl rfl (s51_58.n5) rfl) (q_idxF (j := (rgN l (nsize sp)) - 1) rfl u_22 sz55 ((At.hit z58.p2 rfl).n2).ev (hv.low ((low41.trans h44).upd u45 geg7)) ((At.hit z58.p4 rfl).same (congrArg (Value.int .i64) (show ((((rgN l (nsize sp) : Nat) : Int) - 1) : Int) = (((rgN l (nsize sp)) - 1 : Nat) : Int) by omega))).ev (by omega) (gsg (wis rfl rfl (s51_58.n6) rfl) (q_fldF 0 rfl fld55_0 (At.hit z58.p5 rfl).ev ((hv.low ((low41.trans h44).upd u45 geg7)).form (by omega)) (gsg (wis rfl rfl (s51_58.n7) rfl) (q_ld1 (u := .string ((l.getD ((rgN l (nsize sp)) - 1) zP).f0)) rfl u_9 rfl (At.hit z58.p6 rfl).ev (fun _ h => ((hv.low ((low41.trans h44).upd u45 geg7)).low h)) (by omega) ((flat_at encP_len zP _ ((rgN l (nsize sp)) - 1) 0 (by omega) (by decide)).trans rfl) (g_fr z58.p8 fun a59 z59 m59 => ?_))))))))))
           have s32_59 := m59 s32_58.n8; have s48_59 := m59 s48_58.n8; have s51_59 := m59 s51_58.n8; have s53_59 := m59 ((At.hit z58 rfl).n7); have s60_59 := m59 (At.hit z58.p7 rfl); refine gsg (wis rfl rfl s51_59 rfl) (q_strleq true rfl s53_59.ev s60_59.ev (leT hb56) ?_); refine gsg (wis rfl rfl (s48_59.n1) rfl) (q_pick (b := true) (.bool true) rfl (s51_59.n1).ev (At.hit z59 rfl).ev ?_); refine gs rfl (q_pick (b := false) (.bool true) rfl (s48_59.n2).ev (At.hit z59.put rfl).ev ?_); refine gz ?_; intro w60 h60; have kg2_60 := h60.blk kg2_45; have kg7_60 := h60.blk k45; have ov_60 := (hv.low ((low41.trans h44).upd u45 geg7)).low h60; refine e_id (e_fr z59.p3 fun a61 z61 m61 => ?_); have s32_61 := m61 s32_59.n3; have s63_61 := m61 (At.hit z59.p2 rfl); have low61 := (low46.trans h60); refine e_then (c_true s63_61 ?_); refine c_seq (c_region ?_); refine l_q rfl (q_assign _ _ rfl rfl ?_); refine l_end (e_fr z61.put fun a62 z62 m62 => ?_); have s4_62 := m62 (At.hit z61 rfl); refine e_then (wp_ret (ret_in (ret_then (ret_then (ret_in (ret_then (r_tmp rfl z62.defers s4_62 ?_))))))); exact ⟨by rw [rs_4 hb42]; rfl, low61⟩
          ·
           skip
           refine region_lowg hm (by kernel_rfl) ?_; refine gs rfl (q_fld 0 rfl (by kernel_rfl) s7_46.ev ?_); refine gs rfl (q_cellT (.string ((l.getD (rgN l (nsize sp)) zP).f0)) rfl u_9 (At.hit z46 rfl).ev (fun _ h => (cells_at (h.blk k45) 0).trans rfl) ?_); refine gs rfl (q_call (.bool true) rfl rfl Tryd.func27 rfl (args1 rfl (At.hit z46.put rfl).ev) (fun _ h => ((calls_bool (RightN.calls ((l.getD (rgN l (nsize sp)) zP).f0) _ (Gd.low hG (low46.trans h))) hb47)).mono fun _ _ ⟨e, k⟩ => ⟨e, h.trans k⟩) ?_); refine gs rfl (q_not (b := true) rfl (At.hit z46.p2 rfl).ev ?_); refine gs rfl (qm rfl (At.hit z46.p3 rfl) (gsg (wis rfl rfl (At.hit z46.p4 rfl) rfl) (q_fld 1 rfl (by kernel_rfl) (s7_46.n5).ev (gsg (wis rfl rfl ((At.hit z46.p4 rfl).n1) rfl) (q_cellT (.string ((l.getD (rgN l (nsize sp)) zP).f1)) rfl u_9 (At.hit z46.p5 rfl).ev (fun _ h => (cells_at (h.blk k45) 1).trans rfl) (gsg (wis rfl rfl ((At.hit z46.p4 rfl).n2) rfl) (q_len rfl rfl u_9 (At.hit z46.p6 rfl).ev (g_fr z46.p8 fun a63 z63 m63 => ?_)))))))); have s2_63 := m63 s2_46.n8; have s5_63 := m63 s5_46.n8; have s6_63 := m63 s6_46.n8; have s7_63 := m63 s7_46.n8; have s32_63 := m63 s32_46.n8; have s41_63 := m63 ((At.hit z46.p4 rfl).n3); have s44_63 := m63 (At.hit z46.p7 rfl); refine gsg (wis rfl rfl s41_63 rfl) (qm rfl s5_63 (gsg (wis rfl rfl (s41_63.n1) rfl) (q_neq false rfl (s44_63.n1).ev (At.hit z63 rfl).ev (decide_eq_false (by omega)) (gs rfl (q_pick (b := false) (.bool false) rfl (s41_63.n2).ev (At.hit z63.put rfl).ev (gs rfl (qm rfl (At.hit z63.p2 rfl) (gsg (wis rfl rfl (At.hit z63.p3 rfl) rfl) (qm rfl (s6_63.n4) (gsg (wis rfl rfl ((At.hit z63.p3 rfl).n1) rfl) (q_gtr true rfl (At.hit z63.p4 rfl).ev rfl (decide_eq_true (by omega)) (gsg (wis rfl rfl ((At.hit z63.p3 rfl).n2) rfl) (qm rfl (At.hit z63.p5 rfl) (gsg (wis rfl rfl (At.hit z63.p6 rfl) rfl) (q_fld 0 rfl (by kernel_rfl) (s7_63.n7).ev (g_fr z63.p8 fun a64 z64 m64 => ?_)))))))))))))))); have s2_64 := m64 s2_63.n8; have s6_64 := m64 s6_63.n8; have s32_64 := m64 s32_63.n8; have s48_64 := m64 ((At.hit z63.p3 rfl).n4); have s51_64 := m64 ((At.hit z63.p6 rfl).n1); have s52_64 := m64 (At.hit z63.p7 rfl); refine gsg (wis rfl rfl s51_64 rfl) (q_cellT (.string ((l.getD (rgN l (nsize sp)) zP).f0)) rfl u_9 s52_64.ev (fun _ h => (cells_at (h.blk k45) 0).trans rfl) ?_); refine gsg (wis rfl rfl (s51_64.n1) rfl) (q_fld 1 rfl (by kernel_rfl) (s2_64.n1).ev ?_); refine gsg (wis rfl rfl (s51_64.n2) rfl) (q_cellS (v) rfl u_22 (At.hit z64.put rfl).ev (fun _ h => (cells_at (h.blk kg2_45) 1).trans rfl) ?_); refine gsg (wis rfl rfl (s51_64.n3) rfl) (qm rfl (s6_64.n3) (gsg (wis rfl rfl (s51_64.n4) rfl) (q_sub ((((rgN l (nsize sp) : Nat) : Int) - 1)) rfl (At.hit z64.p3 rfl).ev rfl (i64_is (by omega) (by omega) (by omega)) (gsg (wis rfl rfl (s51_64.n5) rfl) (q_idxF (j := (rgN l (nsize sp)) - 1) rfl u_22 sz55 ((At.hit z64.p2 rfl).n2).ev (hv.low ((low41.trans h44).upd u45 geg7)) ((At.hit z64.p4 rfl).same (congrArg (Value.int .i64) (show ((((rgN l (nsize sp) : Nat) : Int) - 1) : Int) = (((rgN l (nsize sp)) - 1 : Nat) : Int) by omega))).ev (by omega) (gsg (wis rfl rfl (s51_64.n6) rfl) (q_fldF 0 rfl fld55_0 (At.hit z64.p5 rfl).ev ((hv.low ((low41.trans h44).upd u45 geg7)).form (by omega)) (gsg (wis rfl rfl (s51_64.n7) rfl) (q_ld1 (u := .string ((l.getD ((rgN l (nsize sp)) - 1) zP).f0)) rfl u_9 rfl (At.hit z64.p6 rfl).ev (fun _ h => ((hv.low ((low41.trans h44).upd u45 geg7)).low h)) (by omega) ((flat_at encP_len zP _ ((rgN l (nsize sp)) - 1) 0 (by omega) (by decide)).trans rfl) (g_fr z64.p8 fun a65 z65 m65 => ?_))))))))))
           have s32_65 := m65 s32_64.n8; have s48_65 := m65 s48_64.n8; have s51_65 := m65 s51_64.n8; have s53_65 := m65 ((At.hit z64 rfl).n7); have s60_65 := m65 (At.hit z64.p7 rfl); refine gsg (wis rfl rfl s51_65 rfl) (q_strleq false rfl s53_65.ev s60_65.ev (leF (Decidable.not_not.1 hb56)) ?_); refine gsg (wis rfl rfl (s48_65.n1) rfl) (q_pick (b := true) (.bool false) rfl (s51_65.n1).ev (At.hit z65 rfl).ev ?_); refine gs rfl (q_pick (b := false) (.bool false) rfl (s48_65.n2).ev (At.hit z65.put rfl).ev ?_); refine gz ?_; intro w66 h66; have kg2_66 := h66.blk kg2_45; have kg7_66 := h66.blk k45; have ov_66 := (hv.low ((low41.trans h44).upd u45 geg7)).low h66; refine e_id (e_fr z65.p3 fun a67 z67 m67 => ?_); have s32_67 := m67 s32_65.n3; have s63_67 := m67 (At.hit z65.p2 rfl); have low67 := (low46.trans h66); refine e_then (c_false s63_67 ?_); refine wp_skip (e_in (e_then (c_region ?_))); refine l_q rfl (q_add ((((rgN l (nsize sp)) + 1 : Nat) : Int)) rfl s32_67.ev rfl (i64_is (by omega) (by omega) (by omega)) ?_); refine l_q rfl (qm rfl (At.hit z67 rfl) (l_end (e_fr z67.p2 fun a68 z68 m68 => ?_))); exact absurd ⟨hb47, Decidable.not_not.1 hb48, fun h0 => Decidable.not_not.1 hb56⟩ (rgN_stop hb42)
         ·
          skip
          refine region_lowg hm (by kernel_rfl) ?_; refine gs rfl (q_fld 0 rfl (by kernel_rfl) s7_46.ev ?_); refine gs rfl (q_cellT (.string ((l.getD (rgN l (nsize sp)) zP).f0)) rfl u_9 (At.hit z46 rfl).ev (fun _ h => (cells_at (h.blk k45) 0).trans rfl) ?_); refine gs rfl (q_call (.bool true) rfl rfl Tryd.func27 rfl (args1 rfl (At.hit z46.put rfl).ev) (fun _ h => ((calls_bool (RightN.calls ((l.getD (rgN l (nsize sp)) zP).f0) _ (Gd.low hG (low46.trans h))) hb47)).mono fun _ _ ⟨e, k⟩ => ⟨e, h.trans k⟩) ?_); refine gs rfl (q_not (b := true) rfl (At.hit z46.p2 rfl).ev ?_); refine gs rfl (qm rfl (At.hit z46.p3 rfl) (gsg (wis rfl rfl (At.hit z46.p4 rfl) rfl) (q_fld 1 rfl (by kernel_rfl) (s7_46.n5).ev (gsg (wis rfl rfl ((At.hit z46.p4 rfl).n1) rfl) (q_cellT (.string ((l.getD (rgN l (nsize sp)) zP).f1)) rfl u_9 (At.hit z46.p5 rfl).ev (fun _ h => (cells_at (h.blk k45) 1).trans rfl) (gsg (wis rfl rfl ((At.hit z46.p4 rfl).n2) rfl) (q_len rfl rfl u_9 (At.hit z46.p6 rfl).ev (g_fr z46.p8 fun a69 z69 m69 => ?_)))))))); have s2_69 := m69 s2_46.n8; have s5_69 := m69 s5_46.n8; have s6_69 := m69 s6_46.n8; have s7_69 := m69 s7_46.n8; have s32_69 := m69 s32_46.n8; have s41_69 := m69 ((At.hit z46.p4 rfl).n3); have s44_69 := m69 (At.hit z46.p7 rfl); refine gsg (wis rfl rfl s41_69 rfl) (qm rfl s5_69 (gsg (wis rfl rfl (s41_69.n1) rfl) (q_neq false rfl (s44_69.n1).ev (At.hit z69 rfl).ev (decide_eq_false (by omega)) (gs rfl (q_pick (b := false) (.bool false) rfl (s41_69.n2).ev (At.hit z69.put rfl).ev (gs rfl (qm rfl (At.hit z69.p2 rfl) (gsg (wis rfl rfl (At.hit z69.p3 rfl) rfl) (qm rfl (s6_69.n4) (gsg (wis rfl rfl ((At.hit z69.p3 rfl).n1) rfl) (q_gtr false rfl (At.hit z69.p4 rfl).ev rfl (decide_eq_false (by omega)) (gsg (wis rfl rfl ((At.hit z69.p3 rfl).n2) rfl) (qm rfl (At.hit z69.p5 rfl) (gsk (wis rfl rfl (At.hit z69.p6 rfl) rfl) (g_fr z69.p8 fun a70 z70 m70 => ?_))))))))))))))); have s2_70 := m70 s2_69.n8; have s6_70 := m70 s6_69.n8; have s32_70 := m70 s32_69.n8; have s48_70 := m70 ((At.hit z69.p3 rfl).n4); have s51_70 := m70 ((At.hit z69.p6 rfl).n1); have s52_70 := m70 (At.hit z69.p7 rfl); refine gsk (wis rfl rfl s51_70 rfl) ?_; refine gsk (wis rfl rfl (s51_70.n1) rfl) ?_; refine gsk (wis rfl rfl (s51_70.n2) rfl) ?_; refine gsk (wis rfl rfl (s51_70.n3) rfl) ?_; refine gsk (wis rfl rfl (s51_70.n4) rfl) ?_; refine gsk (wis rfl rfl (s51_70.n5) rfl) ?_; refine gsk (wis rfl rfl (s51_70.n6) rfl) ?_; refine gsk (wis rfl rfl (s51_70.n7) rfl) ?_; refine g_fr z70.p8 fun a71 z71 m71 => ?_
          have s32_71 := m71 s32_70.n8; have s48_71 := m71 s48_70.n8; have s51_71 := m71 s51_70.n8; have s53_71 := m71 ((At.hit z70 rfl).n7); have s60_71 := m71 (At.hit z70.p7 rfl); refine gsk (wis rfl rfl s51_71 rfl) ?_; refine gsg (wis rfl rfl (s48_71.n1) rfl) (q_pick (b := false) (.bool false) rfl (s51_71.n1).ev rfl ?_); refine gs rfl (q_pick (b := false) (.bool false) rfl (s48_71.n2).ev (At.hit z71.put rfl).ev ?_); refine gz ?_; intro w72 h72; have kg2_72 := h72.blk kg2_45; have kg7_72 := h72.blk k45; have ov_72 := (hv.low ((low41.trans h44).upd u45 geg7)).low h72; refine e_id (e_fr z71.p3 fun a73 z73 m73 => ?_); have s32_73 := m73 s32_71.n3; have s63_73 := m73 (At.hit z71.p2 rfl); have low73 := (low46.trans h72); refine e_then (c_false s63_73 ?_); refine wp_skip (e_in (e_then (c_region ?_))); refine l_q rfl (q_add ((((rgN l (nsize sp)) + 1 : Nat) : Int)) rfl s32_73.ev rfl (i64_is (by omega) (by omega) (by omega)) ?_); refine l_q rfl (qm rfl (At.hit z73 rfl) (l_end (e_fr z73.p2 fun a74 z74 m74 => ?_))); exact absurd ⟨hb47, Decidable.not_not.1 hb48, fun h0 => absurd h0 hb55⟩ (rgN_stop hb42)
       ·
        skip
        refine region_lowg hm (by kernel_rfl) ?_; refine gs rfl (q_fld 0 rfl (by kernel_rfl) s7_46.ev ?_); refine gs rfl (q_cellT (.string ((l.getD (rgN l (nsize sp)) zP).f0)) rfl u_9 (At.hit z46 rfl).ev (fun _ h => (cells_at (h.blk k45) 0).trans rfl) ?_); refine gs rfl (q_call (.bool false) rfl rfl Tryd.func27 rfl (args1 rfl (At.hit z46.put rfl).ev) (fun _ h => ((calls_bool (RightN.calls ((l.getD (rgN l (nsize sp)) zP).f0) _ (Gd.low hG (low46.trans h))) (eq_false_of_ne_true hb47))).mono fun _ _ ⟨e, k⟩ => ⟨e, h.trans k⟩) ?_); refine gs rfl (q_not (b := false) rfl (At.hit z46.p2 rfl).ev ?_); refine gs rfl (qm rfl (At.hit z46.p3 rfl) (gsk (wis rfl rfl (At.hit z46.p4 rfl) rfl) (gsk (wis rfl rfl ((At.hit z46.p4 rfl).n1) rfl) (gsk (wis rfl rfl ((At.hit z46.p4 rfl).n2) rfl) (g_fr z46.p8 fun a75 z75 m75 => ?_))))); have s2_75 := m75 s2_46.n8; have s5_75 := m75 s5_46.n8; have s6_75 := m75 s6_46.n8; have s7_75 := m75 s7_46.n8; have s32_75 := m75 s32_46.n8; have s41_75 := m75 ((At.hit z46.p4 rfl).n3); have s44_75 := m75 (At.hit z46.p7 rfl); refine gsk (wis rfl rfl s41_75 rfl) ?_; refine gsk (wis rfl rfl (s41_75.n1) rfl) ?_; refine gs rfl (q_pick (b := true) (.bool true) rfl (s41_75.n2).ev rfl ?_); refine gs rfl (qm rfl (At.hit z75.p2 rfl) (gsk (wis rfl rfl (At.hit z75.p3 rfl) rfl) (gsk (wis rfl rfl ((At.hit z75.p3 rfl).n1) rfl) (gsk (wis rfl rfl ((At.hit z75.p3 rfl).n2) rfl) (gsk (wun rfl rfl (At.hit z75.p6 rfl)) (g_fr z75.p8 fun a76 z76 m76 => ?_)))))); have s2_76 := m76 s2_75.n8; have s6_76 := m76 s6_75.n8; have s32_76 := m76 s32_75.n8; have s48_76 := m76 ((At.hit z75.p3 rfl).n4); have s51_76 := m76 ((At.hit z75.p6 rfl).n1); have s52_76 := m76 (At.hit z75.p7 rfl); refine gsk (wun rfl rfl s51_76) ?_; refine gsk (wun rfl rfl (s51_76.n1)) ?_; refine gsk (wun rfl rfl (s51_76.n2)) ?_; refine gsk (wun rfl rfl (s51_76.n3)) ?_; refine gsk (wun rfl rfl (s51_76.n4)) ?_; refine gsk (wun rfl rfl (s51_76.n5)) ?_; refine gsk (wun rfl rfl (s51_76.n6)) ?_; refine gsk (wun rfl rfl (s51_76.n7)) ?_; refine g_fr z76.p8 fun a77 z77 m77 => ?_
        have s32_77 := m77 s32_76.n8; have s48_77 := m77 s48_76.n8; have s51_77 := m77 s51_76.n8; have s53_77 := m77 ((At.hit z76 rfl).n7); have s60_77 := m77 (At.hit z76.p7 rfl); refine gsk (wun rfl rfl s51_77) ?_; refine gsk (wis rfl rfl (s48_77.n1) rfl) ?_; refine gs rfl (q_pick (b := true) (.bool true) rfl (s48_77.n2).ev rfl ?_); refine gz ?_; intro w78 h78; have kg2_78 := h78.blk kg2_45; have kg7_78 := h78.blk k45; have ov_78 := (hv.low ((low41.trans h44).upd u45 geg7)).low h78; refine e_id (e_fr z77.p3 fun a79 z79 m79 => ?_); have s32_79 := m79 s32_77.n3; have s63_79 := m79 (At.hit z77.p2 rfl); have low79 := (low46.trans h78); refine e_then (c_true s63_79 ?_); refine c_seq (c_region ?_); refine l_q rfl (q_assign _ _ rfl rfl ?_); refine l_end (e_fr z79.put fun a80 z80 m80 => ?_); have s4_80 := m80 (At.hit z79 rfl); refine e_then (wp_ret (ret_in (ret_then (ret_then (ret_in (ret_then (r_tmp rfl z80.defers s4_80 ?_))))))); exact ⟨by rw [rs_4 hb42]; rfl, low79⟩
      ·
       skip
       refine c_region ?_; refine l_q rfl (q_lss false rfl s32_41.ev s31_41.ev (decide_eq_false (by omega)) ?_); refine l_end (e_fr z41.put fun a81 z81 m81 => ?_); have s2_81 := m81 s2_41.n1; have s5_81 := m81 s5_41.n1; have s30_81 := m81 s30_41.n1; have s32_81 := m81 s32_41.n1; have s33_81 := m81 (At.hit z41 rfl); refine e_then (c_seq (c_false s33_81 ?_)); refine wp_exit (x_then (x_then (in_exit (e_then (c_seq (c_region ?_)))))); refine l_q rfl (q_assign _ _ rfl rfl ?_); refine l_end (e_fr z81.put fun a82 z82 m82 => ?_); have s4_82 := m82 (At.hit z81 rfl); refine e_then (wp_ret (r_tmp rfl z82.defers s4_82 ?_)); exact ⟨by rw [rs_5 hb5 (fun _ => hb11) hb12 hb42]; rfl, low41⟩
   ·
    skip
    refine c_region ?_; refine l_q rfl (qm rfl s5_4 (l_q rfl (q_eql false rfl (At.hit z4 rfl).ev rfl (decide_eq_false (by omega)) (l_q rfl (qm rfl (At.hit z4.put rfl) (l_qg (wis rfl rfl (At.hit z4.p2 rfl) rfl) (q_fld 0 rfl (by kernel_rfl) (s2_4.n3).ev (l_qg (wis rfl rfl ((At.hit z4.p2 rfl).n1) rfl) (q_cellT (.string hd) rfl u_9 (At.hit z4.p3 rfl).ev (fun _ e => by rw [e]; exact (cells_at kg2_3 0).trans rfl) (l_qg (wis rfl rfl ((At.hit z4.p2 rfl).n2) rfl) (q_strne true rfl (At.hit z4.p4 rfl).ev rfl (neT hb10) (l_qg (wis rfl rfl ((At.hit z4.p2 rfl).n3) rfl) (qm rfl (At.hit z4.p5 rfl) (l_qg (wis rfl rfl (At.hit z4.p6 rfl) rfl) (q_fld 0 rfl (by kernel_rfl) (s2_4.n7).ev (l_fr z4.p8 fun a83 z83 m83 => ?_)))))))))))))))); have s2_83 := m83 s2_4.n8; have s5_83 := m83 s5_4.n8; have s12_83 := m83 ((At.hit z4.p2 rfl).n5); have s16_83 := m83 ((At.hit z4.p6 rfl).n1); have s17_83 := m83 (At.hit z4.p7 rfl); refine l_qg (wis rfl rfl s16_83 rfl) (q_cellT (.string hd) rfl u_9 s17_83.ev (fun _ e => by rw [e]; exact (cells_at kg2_3 0).trans rfl) ?_); refine l_callg (fun v w' => v = .bool false ∧ Low w3 w') (wis rfl rfl (s16_83.n1) rfl) rfl rfl Tryd.func27 rfl (args1 rfl (At.hit z83 rfl).ev) (((calls_bool (RightN.calls hd _ (Gd.low hG low4)) (eq_false_of_ne_true hb11))).mono fun _ _ ⟨e, k⟩ => ⟨_, e, rfl, k⟩) ?_
    rintro _ w84 ⟨rfl, h84⟩
    have kg2_84 := h84.blk kg2_3; have ov_84 := ov_3.low h84; refine l_qg (wis rfl rfl (s16_83.n2) rfl) (q_not (b := false) rfl (At.hit z83.put rfl).ev ?_); refine l_qg (wis rfl rfl (s12_83.n3) rfl) (q_pick (b := true) (.bool true) rfl (s16_83.n3).ev (At.hit z83.p2 rfl).ev ?_); refine l_q rfl (q_pick (b := false) (.bool true) rfl (s12_83.n4).ev (At.hit z83.p3 rfl).ev ?_); refine l_q rfl (qm rfl (At.hit z83.p4 rfl) (l_skip (wis rfl rfl (At.hit z83.p5 rfl) rfl) (l_skip (wis rfl rfl ((At.hit z83.p5 rfl).n1) rfl) (l_fr z83.p8 fun a85 z85 m85 => ?_)))); have s2_85 := m85 s2_83.n8; have s5_85 := m85 s5_83.n8; have s23_85 := m85 ((At.hit z83.p5 rfl).n2); have s25_85 := m85 (At.hit z83.p7 rfl); refine l_skip (wis rfl rfl s23_85 rfl) ?_; refine l_skip (wis rfl rfl (s23_85.n1) rfl) ?_; refine l_q rfl (q_pick (b := true) (.bool true) rfl (s23_85.n2).ev rfl ?_); refine l_end (e_fr z85.p3 fun a86 z86 m86 => ?_); have s2_86 := m86 s2_85.n3; have s5_86 := m86 s5_85.n3; have s28_86 := m86 (At.hit z85.p2 rfl); have low86 := (low4.trans h84); refine e_then (c_true s28_86 ?_); refine c_seq (c_region ?_); refine l_q rfl (q_assign _ _ rfl rfl ?_); refine l_end (e_fr z86.put fun a87 z87 m87 => ?_); have s4_87 := m87 (At.hit z86 rfl); refine e_then (wp_ret (ret_then (r_tmp rfl z87.defers s4_87 ?_))); exact ⟨by rw [rs_2 hb10 hb11]; rfl, low86⟩
  ·
   skip
   by_cases hb88 : 1024 < l.length
   ·
    skip
    refine c_region ?_; refine l_q rfl (qm rfl s5_4 (l_q rfl (q_eql false rfl (At.hit z4 rfl).ev rfl (decide_eq_false (by omega)) (l_q rfl (qm rfl (At.hit z4.put rfl) (l_qg (wis rfl rfl (At.hit z4.p2 rfl) rfl) (q_fld 0 rfl (by kernel_rfl) (s2_4.n3).ev (l_qg (wis rfl rfl ((At.hit z4.p2 rfl).n1) rfl) (q_cellT (.string hd) rfl u_9 (At.hit z4.p3 rfl).ev (fun _ e => by rw [e]; exact (cells_at kg2_3 0).trans rfl) (l_qg (wis rfl rfl ((At.hit z4.p2 rfl).n2) rfl) (q_strne false rfl (At.hit z4.p4 rfl).ev rfl (neF (Decidable.not_not.1 hb10)) (l_qg (wis rfl rfl ((At.hit z4.p2 rfl).n3) rfl) (qm rfl (At.hit z4.p5 rfl) (l_skip (wis rfl rfl (At.hit z4.p6 rfl) rfl) (l_fr z4.p8 fun a89 z89 m89 => ?_))))))))))))))); have s2_89 := m89 s2_4.n8; have s5_89 := m89 s5_4.n8; have s12_89 := m89 ((At.hit z4.p2 rfl).n5); have s16_89 := m89 ((At.hit z4.p6 rfl).n1); have s17_89 := m89 (At.hit z4.p7 rfl); refine l_skip (wis rfl rfl s16_89 rfl) ?_; refine l_skip (wis rfl rfl (s16_89.n1) rfl) ?_; refine l_skip (wis rfl rfl (s16_89.n2) rfl) ?_; refine l_qg (wis rfl rfl (s12_89.n3) rfl) (q_pick (b := false) (.bool false) rfl (s16_89.n3).ev rfl ?_); refine l_q rfl (q_pick (b := false) (.bool false) rfl (s12_89.n4).ev (At.hit z89.p3 rfl).ev ?_); refine l_q rfl (qm rfl (At.hit z89.p4 rfl) (l_qg (wis rfl rfl (At.hit z89.p5 rfl) rfl) (q_fld 1 rfl (by kernel_rfl) (s2_89.n6).ev (l_qg (wis rfl rfl ((At.hit z89.p5 rfl).n1) rfl) (q_cellS (v) rfl u_22 (At.hit z89.p6 rfl).ev (fun _ e => by rw [e]; exact (cells_at kg2_3 1).trans rfl) (l_fr z89.p8 fun a90 z90 m90 => ?_)))))); have s2_90 := m90 s2_89.n8; have s5_90 := m90 s5_89.n8; have s23_90 := m90 ((At.hit z89.p5 rfl).n2); have s25_90 := m90 (At.hit z89.p7 rfl); refine l_qg (wis rfl rfl s23_90 rfl) (q_lenF rfl rfl u_22 s25_90.ev ov_3 ?_); refine l_qg (wis rfl rfl (s23_90.n1) rfl) (q_gtr true rfl (At.hit z90 rfl).ev rfl (decide_eq_true (by omega)) ?_); refine l_q rfl (q_pick (b := false) (.bool true) rfl (s23_90.n2).ev (At.hit z90.put rfl).ev ?_); refine l_end (e_fr z90.p3 fun a91 z91 m91 => ?_); have s2_91 := m91 s2_90.n3; have s5_91 := m91 s5_90.n3; have s28_91 := m91 (At.hit z90.p2 rfl); refine e_then (c_true s28_91 ?_); refine c_seq (c_region ?_); refine l_q rfl (q_assign _ _ rfl rfl ?_); refine l_end (e_fr z91.put fun a92 z92 m92 => ?_); have s4_92 := m92 (At.hit z91 rfl); refine e_then (wp_ret (ret_then (r_tmp rfl z92.defers s4_92 ?_))); exact ⟨by rw [rs_3 hb88]; rfl, low4⟩
   ·
    skip
    refine c_region ?_; refine l_q rfl (qm rfl s5_4 (l_q rfl (q_eql false rfl (At.hit z4 rfl).ev rfl (decide_eq_false (by omega)) (l_q rfl (qm rfl (At.hit z4.put rfl) (l_qg (wis rfl rfl (At.hit z4.p2 rfl) rfl) (q_fld 0 rfl (by kernel_rfl) (s2_4.n3).ev (l_qg (wis rfl rfl ((At.hit z4.p2 rfl).n1) rfl) (q_cellT (.string hd) rfl u_9 (At.hit z4.p3 rfl).ev (fun _ e => by rw [e]; exact (cells_at kg2_3 0).trans rfl) (l_qg (wis rfl rfl ((At.hit z4.p2 rfl).n2) rfl) (q_strne false rfl (At.hit z4.p4 rfl).ev rfl (neF (Decidable.not_not.1 hb10)) (l_qg (wis rfl rfl ((At.hit z4.p2 rfl).n3) rfl) (qm rfl (At.hit z4.p5 rfl) (l_skip (wis rfl rfl (At.hit z4.p6 rfl) rfl) (l_fr z4.p8 fun a93 z93 m93 => ?_))))))))))))))); have s2_93 := m93 s2_4.n8; have s5_93 := m93 s5_4.n8; have s12_93 := m93 ((At.hit z4.p2 rfl).n5); have s16_93 := m93 ((At.hit z4.p6 rfl).n1); have s17_93 := m93 (At.hit z4.p7 rfl); refine l_skip (wis rfl rfl s16_93 rfl) ?_; refine l_skip (wis rfl rfl (s16_93.n1) rfl) ?_; refine l_skip (wis rfl rfl (s16_93.n2) rfl) ?_; refine l_qg (wis rfl rfl (s12_93.n3) rfl) (q_pick (b := false) (.bool false) rfl (s16_93.n3).ev rfl ?_); refine l_q rfl (q_pick (b := false) (.bool false) rfl (s12_93.n4).ev (At.hit z93.p3 rfl).ev ?_); refine l_q rfl (qm rfl (At.hit z93.p4 rfl) (l_qg (wis rfl rfl (At.hit z93.p5 rfl) rfl) (q_fld 1 rfl (by kernel_rfl) (s2_93.n6).ev (l_qg (wis rfl rfl ((At.hit z93.p5 rfl).n1) rfl) (q_cellS (v) rfl u_22 (At.hit z93.p6 rfl).ev (fun _ e => by rw [e]; exact (cells_at kg2_3 1).trans rfl) (l_fr z93.p8 fun a94 z94 m94 => ?_)))))); have s2_94 := m94 s2_93.n8; have s5_94 := m94 s5_93.n8; have s23_94 := m94 ((At.hit z93.p5 rfl).n2); have s25_94 := m94 (At.hit z93.p7 rfl); refine l_qg (wis rfl rfl s23_94 rfl) (q_lenF rfl rfl u_22 s25_94.ev ov_3 ?_); refine l_qg (wis rfl rfl (s23_94.n1) rfl) (q_gtr false rfl (At.hit z94 rfl).ev rfl (decide_eq_false (by omega)) ?_); refine l_q rfl (q_pick (b := false) (.bool false) rfl (s23_94.n2).ev (At.hit z94.put rfl).ev ?_); refine l_end (e_fr z94.p3 fun a95 z95 m95 => ?_); have s2_95 := m95 s2_94.n3; have s5_95 := m95 s5_94.n3; have s28_95 := m95 (At.hit z94.p2 rfl); refine e_then (c_false s28_95 ?_); refine wp_skip (e_then (c_seq (c_seq (c_region ?_)))); refine l_q rfl (q_fld 1 rfl (by kernel_rfl) s2_95.ev ?_); refine l_q rfl (q_cellS (v) rfl u_22 (At.hit z95 rfl).ev (fun _ e => by rw [e]; exact (cells_at kg2_3 1).trans rfl) ?_); refine l_q rfl (q_lenF rfl rfl u_22 (At.hit z95.put rfl).ev ov_3 ?_); refine l_q rfl (q_move _ _ rfl rfl ?_); refine l_end (e_fr z95.p4 fun a96 z96 m96 => ?_); have s2_96 := m96 s2_95.n4; have s5_96 := m96 s5_95.n4; have s30_96 := m96 ((At.hit z95.put rfl).n2); have s31_96 := m96 ((At.hit z95.p2 rfl).n1); have s32_96 := m96 (At.hit z95.p3 rfl); refine e_then (wp_block (c_loop (rgN l (nsize sp)) (fun k a w => Fr 65 a ∧ At a 2 (.pointer (some ⟨g2, 0, none⟩)) ∧ At a 5 (.int .i64 (nsize sp)) ∧ At a 30 (v) ∧ At a 31 (.int .i64 ((l.length : Nat) : Int)) ∧ At a 32 (.int .i64 ((k : Nat) : Int)) ∧ w.heap[g2]? = some (.cells (#[.string hd, v]) 24) ∧ Low w0 w) ?_ ?_ ?_))
    ·
     exact ⟨z96, s2_96, s5_96, s30_96, s31_96, s32_96, kg2_3, low4⟩
    ·
     intro k a97 w97 hk97 h; obtain ⟨z97, s2_97, s5_97, s30_97, s31_97, s32_97, kg2_97, low97⟩ := h; clear kg2_3 low4 s2_96 s30_96 s31_96 s32_96 s5_96 z96; have hle := rgN_le l (nsize sp); have hok := rgN_round (by assumption); obtain ⟨hok1, hok2, hok3⟩ := hok; refine c_seq (c_region ?_); refine l_q rfl (q_lss true rfl s32_97.ev s31_97.ev (decide_eq_true (by omega)) ?_); refine l_end (e_fr z97.put fun a98 z98 m98 => ?_); have s2_98 := m98 s2_97.n1; have s5_98 := m98 s5_97.n1; have s30_98 := m98 s30_97.n1; have s31_98 := m98 s31_97.n1; have s32_98 := m98 s32_97.n1; have s33_98 := m98 (At.hit z97 rfl); refine e_then (c_seq (c_true s33_98 ?_)); refine wp_skip (e_then (c_seq (wp_block (c_seq (c_region ?_))))); refine l_q rfl (qm rfl s32_98 (l_q rfl (q_idxF (j := k) rfl u_22 sz55 (s30_98.n1).ev (hv.low low97) (s32_98.n1).ev (by omega) (l_q rfl (q_ldR (vs := [.string ((l.getD k zP).f0), .string ((l.getD k zP).f1)]) rfl u_55 rfl sz55 (At.hit z98.put rfl).ev (fun _ e => by rw [e]; exact (hv.low low97)) (by omega) rfl (flat_part encP_len zP _ k (by omega)) (l_alloc rfl rfl zero55 ?_)))))); intro g7 w99 hg99 k99 h99; have lt_g2_g7 := Nat.lt_of_lt_of_le (heap_lt kg2_97) hg99; have geg7 := Nat.le_trans low97.ge hg99; have kg2_99 := h99.blk kg2_97; have ov_99 := (hv.low low97).low h99; refine l_q rfl (qa rfl ((At.hit z98 rfl).n3) (l_row rfl rfl rfl (sz55.trans (congrArg some rfl.symm)) ((At.hit z98.p3 rfl).n1).ev ((At.hit z98.p2 rfl).n2).ev (by simp [Value.oneCell']) k99 (rfl.trans rfl.symm) ?_)); intro w100 k100 u100; have kg2_100 := u100.blk kg2_99 (by omega); refine l_end (e_fr z98.p5 fun a101 z101 m101 => ?_); have s2_101 := m101 s2_98.n5; have s5_101 := m101 s5_98.n5; have s6_101 := m101 (At.hit z98.p4 rfl); have s7_101 := m101 ((At.hit z98.p3 rfl).n1); have s30_101 := m101 s30_98.n5; have s31_101 := m101 s31_98.n5; have s32_101 := m101 s32_98.n5; have low101 := ((low97.trans h99).upd u100 geg7); refine e_then (c_seq ?_)
     by_cases hb102 : 0 < k
     ·
      skip
      refine region_lowg hm (by kernel_rfl) ?_; refine gs rfl (q_fld 0 rfl (by kernel_rfl) s7_101.ev ?_); refine gs rfl (q_cellT (.string ((l.getD k zP).f0)) rfl u_9 (At.hit z101 rfl).ev (fun _ h => (cells_at (h.blk k100) 0).trans rfl) ?_); refine gs rfl (q_call (.bool true) rfl rfl Tryd.func27 rfl (args1 rfl (At.hit z101.put rfl).ev) (fun _ h => ((calls_bool (RightN.calls ((l.getD k zP).f0) _ (Gd.low hG (low101.trans h))) hok1)).mono fun _ _ ⟨e, k⟩ => ⟨e, h.trans k⟩) ?_); refine gs rfl (q_not (b := true) rfl (At.hit z101.p2 rfl).ev ?_); refine gs rfl (qm rfl (At.hit z101.p3 rfl) (gsg (wis rfl rfl (At.hit z101.p4 rfl) rfl) (q_fld 1 rfl (by kernel_rfl) (s7_101.n5).ev (gsg (wis rfl rfl ((At.hit z101.p4 rfl).n1) rfl) (q_cellT (.string ((l.getD k zP).f1)) rfl u_9 (At.hit z101.p5 rfl).ev (fun _ h => (cells_at (h.blk k100) 1).trans rfl) (gsg (wis rfl rfl ((At.hit z101.p4 rfl).n2) rfl) (q_len rfl rfl u_9 (At.hit z101.p6 rfl).ev (g_fr z101.p8 fun a103 z103 m103 => ?_)))))))); have s2_103 := m103 s2_101.n8; have s5_103 := m103 s5_101.n8; have s6_103 := m103 s6_101.n8; have s7_103 := m103 s7_101.n8; have s30_103 := m103 s30_101.n8; have s31_103 := m103 s31_101.n8; have s32_103 := m103 s32_101.n8; have s41_103 := m103 ((At.hit z101.p4 rfl).n3); have s44_103 := m103 (At.hit z101.p7 rfl); refine gsg (wis rfl rfl s41_103 rfl) (qm rfl s5_103 (gsg (wis rfl rfl (s41_103.n1) rfl) (q_neq false rfl (s44_103.n1).ev (At.hit z103 rfl).ev (decide_eq_false (by omega)) (gs rfl (q_pick (b := false) (.bool false) rfl (s41_103.n2).ev (At.hit z103.put rfl).ev (gs rfl (qm rfl (At.hit z103.p2 rfl) (gsg (wis rfl rfl (At.hit z103.p3 rfl) rfl) (qm rfl (s6_103.n4) (gsg (wis rfl rfl ((At.hit z103.p3 rfl).n1) rfl) (q_gtr true rfl (At.hit z103.p4 rfl).ev rfl (decide_eq_true (by omega)) (gsg (wis rfl rfl ((At.hit z103.p3 rfl).n2) rfl) (qm rfl (At.hit z103.p5 rfl) (gsg (wis rfl rfl (At.hit z103.p6 rfl) rfl) (q_fld 0 rfl (by kernel_rfl) (s7_103.n7).ev (g_fr z103.p8 fun a104 z104 m104 => ?_)))))))))))))))); have s2_104 := m104 s2_103.n8; have s5_104 := m104 s5_103.n8; have s6_104 := m104 s6_103.n8; have s30_104 := m104 s30_103.n8; have s31_104 := m104 s31_103.n8; have s32_104 := m104 s32_103.n8; have s48_104 := m104 ((At.hit z103.p3 rfl).n4); have s51_104 := m104 ((At.hit z103.p6 rfl).n1); have s52_104 := m104 (At.hit z103.p7 rfl); refine gsg (wis rfl rfl s51_104 rfl) (q_cellT (.string ((l.getD k zP).f0)) rfl u_9 s52_104.ev (fun _ h => (cells_at (h.blk k100) 0).trans rfl) ?_); refine gsg (wis rfl rfl (s51_104.n1) rfl) (q_fld 1 rfl (by kernel_rfl) (s2_104.n1).ev ?_); refine gsg (wis rfl rfl (s51_104.n2) rfl) (q_cellS (v) rfl u_22 (At.hit z104.put rfl).ev (fun _ h => (cells_at (h.blk kg2_100) 1).trans rfl) ?_); refine gsg (wis rfl rfl (s51_104.n3) rfl) (qm rfl (s6_104.n3) (gsg (wis rfl rfl (s51_104.n4) rfl) (q_sub ((((k : Nat) : Int) - 1)) rfl (At.hit z104.p3 rfl).ev rfl (i64_is (by omega) (by omega) (by omega)) (gsg (wis rfl rfl (s51_104.n5) rfl) (q_idxF (j := k - 1) rfl u_22 sz55 ((At.hit z104.p2 rfl).n2).ev (hv.low ((low97.trans h99).upd u100 geg7)) ((At.hit z104.p4 rfl).same (congrArg (Value.int .i64) (show ((((k : Nat) : Int) - 1) : Int) = ((k - 1 : Nat) : Int) by omega))).ev (by omega) (gsg (wis rfl rfl (s51_104.n6) rfl) (q_fldF 0 rfl fld55_0 (At.hit z104.p5 rfl).ev ((hv.low ((low97.trans h99).upd u100 geg7)).form (by omega)) (gsg (wis rfl rfl (s51_104.n7) rfl) (q_ld1 (u := .string ((l.getD (k - 1) zP).f0)) rfl u_9 rfl (At.hit z104.p6 rfl).ev (fun _ h => ((hv.low ((low97.trans h99).upd u100 geg7)).low h)) (by omega) ((flat_at encP_len zP _ (k - 1) 0 (by omega) (by decide)).trans rfl) (g_fr z104.p8 fun a105 z105 m105 => ?_))))))))))
      have s2_105 := m105 s2_104.n8; have s5_105 := m105 s5_104.n8; have s30_105 := m105 s30_104.n8; have s31_105 := m105 s31_104.n8; have s32_105 := m105 s32_104.n8; have s48_105 := m105 s48_104.n8; have s51_105 := m105 s51_104.n8; have s53_105 := m105 ((At.hit z104 rfl).n7); have s60_105 := m105 (At.hit z104.p7 rfl); refine gsg (wis rfl rfl s51_105 rfl) (q_strleq false rfl s53_105.ev s60_105.ev (leF (hok3 hb102)) ?_); refine gsg (wis rfl rfl (s48_105.n1) rfl) (q_pick (b := true) (.bool false) rfl (s51_105.n1).ev (At.hit z105 rfl).ev ?_); refine gs rfl (q_pick (b := false) (.bool false) rfl (s48_105.n2).ev (At.hit z105.put rfl).ev ?_); refine gz ?_; intro w106 h106; have kg2_106 := h106.blk kg2_100; have kg7_106 := h106.blk k100; have ov_106 := (hv.low ((low97.trans h99).upd u100 geg7)).low h106; refine e_id (e_fr z105.p3 fun a107 z107 m107 => ?_); have s2_107 := m107 s2_105.n3; have s5_107 := m107 s5_105.n3; have s30_107 := m107 s30_105.n3; have s31_107 := m107 s31_105.n3; have s32_107 := m107 s32_105.n3; have s63_107 := m107 (At.hit z105.p2 rfl); have low107 := (low101.trans h106); refine e_then (c_false s63_107 ?_); refine wp_skip (e_in (e_then (c_region ?_))); refine l_q rfl (q_add (((k + 1 : Nat) : Int)) rfl s32_107.ev rfl (i64_is (by omega) (by omega) (by omega)) ?_); refine l_q rfl (qm rfl (At.hit z107 rfl) (l_end (e_fr z107.p2 fun a108 z108 m108 => ?_))); have s2_108 := m108 s2_107.n2; have s5_108 := m108 s5_107.n2; have s30_108 := m108 s30_107.n2; have s31_108 := m108 s31_107.n2; have s32_108 := m108 (At.hit z107.put rfl); exact ⟨z108, s2_108, s5_108, s30_108, s31_108, s32_108, kg2_106, low107⟩
     ·
      skip
      refine region_lowg hm (by kernel_rfl) ?_; refine gs rfl (q_fld 0 rfl (by kernel_rfl) s7_101.ev ?_); refine gs rfl (q_cellT (.string ((l.getD k zP).f0)) rfl u_9 (At.hit z101 rfl).ev (fun _ h => (cells_at (h.blk k100) 0).trans rfl) ?_); refine gs rfl (q_call (.bool true) rfl rfl Tryd.func27 rfl (args1 rfl (At.hit z101.put rfl).ev) (fun _ h => ((calls_bool (RightN.calls ((l.getD k zP).f0) _ (Gd.low hG (low101.trans h))) hok1)).mono fun _ _ ⟨e, k⟩ => ⟨e, h.trans k⟩) ?_); refine gs rfl (q_not (b := true) rfl (At.hit z101.p2 rfl).ev ?_); refine gs rfl (qm rfl (At.hit z101.p3 rfl) (gsg (wis rfl rfl (At.hit z101.p4 rfl) rfl) (q_fld 1 rfl (by kernel_rfl) (s7_101.n5).ev (gsg (wis rfl rfl ((At.hit z101.p4 rfl).n1) rfl) (q_cellT (.string ((l.getD k zP).f1)) rfl u_9 (At.hit z101.p5 rfl).ev (fun _ h => (cells_at (h.blk k100) 1).trans rfl) (gsg (wis rfl rfl ((At.hit z101.p4 rfl).n2) rfl) (q_len rfl rfl u_9 (At.hit z101.p6 rfl).ev (g_fr z101.p8 fun a109 z109 m109 => ?_)))))))); have s2_109 := m109 s2_101.n8; have s5_109 := m109 s5_101.n8; have s6_109 := m109 s6_101.n8; have s7_109 := m109 s7_101.n8; have s30_109 := m109 s30_101.n8; have s31_109 := m109 s31_101.n8; have s32_109 := m109 s32_101.n8; have s41_109 := m109 ((At.hit z101.p4 rfl).n3); have s44_109 := m109 (At.hit z101.p7 rfl); refine gsg (wis rfl rfl s41_109 rfl) (qm rfl s5_109 (gsg (wis rfl rfl (s41_109.n1) rfl) (q_neq false rfl (s44_109.n1).ev (At.hit z109 rfl).ev (decide_eq_false (by omega)) (gs rfl (q_pick (b := false) (.bool false) rfl (s41_109.n2).ev (At.hit z109.put rfl).ev (gs rfl (qm rfl (At.hit z109.p2 rfl) (gsg (wis rfl rfl (At.hit z109.p3 rfl) rfl) (qm rfl (s6_109.n4) (gsg (wis rfl rfl ((At.hit z109.p3 rfl).n1) rfl) (q_gtr false rfl (At.hit z109.p4 rfl).ev rfl (decide_eq_false (by omega)) (gsg (wis rfl rfl ((At.hit z109.p3 rfl).n2) rfl) (qm rfl (At.hit z109.p5 rfl) (gsk (wis rfl rfl (At.hit z109.p6 rfl) rfl) (g_fr z109.p8 fun a110 z110 m110 => ?_))))))))))))))); have s2_110 := m110 s2_109.n8; have s5_110 := m110 s5_109.n8; have s6_110 := m110 s6_109.n8; have s30_110 := m110 s30_109.n8; have s31_110 := m110 s31_109.n8; have s32_110 := m110 s32_109.n8; have s48_110 := m110 ((At.hit z109.p3 rfl).n4); have s51_110 := m110 ((At.hit z109.p6 rfl).n1); have s52_110 := m110 (At.hit z109.p7 rfl); refine gsk (wis rfl rfl s51_110 rfl) ?_; refine gsk (wis rfl rfl (s51_110.n1) rfl) ?_; refine gsk (wis rfl rfl (s51_110.n2) rfl) ?_; refine gsk (wis rfl rfl (s51_110.n3) rfl) ?_; refine gsk (wis rfl rfl (s51_110.n4) rfl) ?_; refine gsk (wis rfl rfl (s51_110.n5) rfl) ?_; refine gsk (wis rfl rfl (s51_110.n6) rfl) ?_; refine gsk (wis rfl rfl (s51_110.n7) rfl) ?_; refine g_fr z110.p8 fun a111 z111 m111 => ?_
      have s2_111 := m111 s2_110.n8; have s5_111 := m111 s5_110.n8; have s30_111 := m111 s30_110.n8; have s31_111 := m111 s31_110.n8; have s32_111 := m111 s32_110.n8; have s48_111 := m111 s48_110.n8; have s51_111 := m111 s51_110.n8; have s53_111 := m111 ((At.hit z110 rfl).n7); have s60_111 := m111 (At.hit z110.p7 rfl); refine gsk (wis rfl rfl s51_111 rfl) ?_; refine gsg (wis rfl rfl (s48_111.n1) rfl) (q_pick (b := false) (.bool false) rfl (s51_111.n1).ev rfl ?_); refine gs rfl (q_pick (b := false) (.bool false) rfl (s48_111.n2).ev (At.hit z111.put rfl).ev ?_); refine gz ?_; intro w112 h112; have kg2_112 := h112.blk kg2_100; have kg7_112 := h112.blk k100; have ov_112 := (hv.low ((low97.trans h99).upd u100 geg7)).low h112; refine e_id (e_fr z111.p3 fun a113 z113 m113 => ?_); have s2_113 := m113 s2_111.n3; have s5_113 := m113 s5_111.n3; have s30_113 := m113 s30_111.n3; have s31_113 := m113 s31_111.n3; have s32_113 := m113 s32_111.n3; have s63_113 := m113 (At.hit z111.p2 rfl); have low113 := (low101.trans h112); refine e_then (c_false s63_113 ?_); refine wp_skip (e_in (e_then (c_region ?_))); refine l_q rfl (q_add (((k + 1 : Nat) : Int)) rfl s32_113.ev rfl (i64_is (by omega) (by omega) (by omega)) ?_); refine l_q rfl (qm rfl (At.hit z113 rfl) (l_end (e_fr z113.p2 fun a114 z114 m114 => ?_))); have s2_114 := m114 s2_113.n2; have s5_114 := m114 s5_113.n2; have s30_114 := m114 s30_113.n2; have s31_114 := m114 s31_113.n2; have s32_114 := m114 (At.hit z113.put rfl); exact ⟨z114, s2_114, s5_114, s30_114, s31_114, s32_114, kg2_112, low113⟩
    ·
     intro a115 w115 h; obtain ⟨z115, s2_115, s5_115, s30_115, s31_115, s32_115, kg2_115, low115⟩ := h; clear kg2_3 low4 s2_96 s30_96 s31_96 s32_96 s5_96 z96; have hle := rgN_le l (nsize sp); refine c_seq ?_
     by_cases hb116 : rgN l (nsize sp) < l.length
     ·
      skip
      refine c_region ?_; refine l_q rfl (q_lss true rfl s32_115.ev s31_115.ev (decide_eq_true (by omega)) ?_); refine l_end (e_fr z115.put fun a117 z117 m117 => ?_); have s2_117 := m117 s2_115.n1; have s5_117 := m117 s5_115.n1; have s30_117 := m117 s30_115.n1; have s32_117 := m117 s32_115.n1; have s33_117 := m117 (At.hit z115 rfl); refine e_then (c_seq (c_true s33_117 ?_)); refine wp_skip (e_then (c_seq (wp_block (c_seq (c_region ?_))))); refine l_q rfl (qm rfl s32_117 (l_q rfl (q_idxF (j := (rgN l (nsize sp))) rfl u_22 sz55 (s30_117.n1).ev (hv.low low115) (s32_117.n1).ev (by omega) (l_q rfl (q_ldR (vs := [.string ((l.getD (rgN l (nsize sp)) zP).f0), .string ((l.getD (rgN l (nsize sp)) zP).f1)]) rfl u_55 rfl sz55 (At.hit z117.put rfl).ev (fun _ e => by rw [e]; exact (hv.low low115)) (by omega) rfl (flat_part encP_len zP _ (rgN l (nsize sp)) (by omega)) (l_alloc rfl rfl zero55 ?_)))))); intro g7 w118 hg118 k118 h118; have lt_g2_g7 := Nat.lt_of_lt_of_le (heap_lt kg2_115) hg118; have geg7 := Nat.le_trans low115.ge hg118; have kg2_118 := h118.blk kg2_115; have ov_118 := (hv.low low115).low h118; refine l_q rfl (qa rfl ((At.hit z117 rfl).n3) (l_row rfl rfl rfl (sz55.trans (congrArg some rfl.symm)) ((At.hit z117.p3 rfl).n1).ev ((At.hit z117.p2 rfl).n2).ev (by simp [Value.oneCell']) k118 (rfl.trans rfl.symm) ?_)); intro w119 k119 u119; have kg2_119 := u119.blk kg2_118 (by omega); refine l_end (e_fr z117.p5 fun a120 z120 m120 => ?_); have s2_120 := m120 s2_117.n5; have s5_120 := m120 s5_117.n5; have s6_120 := m120 (At.hit z117.p4 rfl); have s7_120 := m120 ((At.hit z117.p3 rfl).n1); have s32_120 := m120 s32_117.n5; have low120 := ((low115.trans h118).upd u119 geg7); refine e_then (c_seq ?_)
      by_cases hb121 : rightN (l.getD (rgN l (nsize sp)) zP).f0 = true
      ·
       skip
       by_cases hb122 : ¬ ((l.getD (rgN l (nsize sp)) zP).f1.size : Int) = nsize sp
       ·
        skip
        refine region_lowg hm (by kernel_rfl) ?_; refine gs rfl (q_fld 0 rfl (by kernel_rfl) s7_120.ev ?_); refine gs rfl (q_cellT (.string ((l.getD (rgN l (nsize sp)) zP).f0)) rfl u_9 (At.hit z120 rfl).ev (fun _ h => (cells_at (h.blk k119) 0).trans rfl) ?_); refine gs rfl (q_call (.bool true) rfl rfl Tryd.func27 rfl (args1 rfl (At.hit z120.put rfl).ev) (fun _ h => ((calls_bool (RightN.calls ((l.getD (rgN l (nsize sp)) zP).f0) _ (Gd.low hG (low120.trans h))) hb121)).mono fun _ _ ⟨e, k⟩ => ⟨e, h.trans k⟩) ?_); refine gs rfl (q_not (b := true) rfl (At.hit z120.p2 rfl).ev ?_); refine gs rfl (qm rfl (At.hit z120.p3 rfl) (gsg (wis rfl rfl (At.hit z120.p4 rfl) rfl) (q_fld 1 rfl (by kernel_rfl) (s7_120.n5).ev (gsg (wis rfl rfl ((At.hit z120.p4 rfl).n1) rfl) (q_cellT (.string ((l.getD (rgN l (nsize sp)) zP).f1)) rfl u_9 (At.hit z120.p5 rfl).ev (fun _ h => (cells_at (h.blk k119) 1).trans rfl) (gsg (wis rfl rfl ((At.hit z120.p4 rfl).n2) rfl) (q_len rfl rfl u_9 (At.hit z120.p6 rfl).ev (g_fr z120.p8 fun a123 z123 m123 => ?_)))))))); have s2_123 := m123 s2_120.n8; have s5_123 := m123 s5_120.n8; have s6_123 := m123 s6_120.n8; have s7_123 := m123 s7_120.n8; have s32_123 := m123 s32_120.n8; have s41_123 := m123 ((At.hit z120.p4 rfl).n3); have s44_123 := m123 (At.hit z120.p7 rfl); refine gsg (wis rfl rfl s41_123 rfl) (qm rfl s5_123 (gsg (wis rfl rfl (s41_123.n1) rfl) (q_neq true rfl (s44_123.n1).ev (At.hit z123 rfl).ev (decide_eq_true (by omega)) (gs rfl (q_pick (b := false) (.bool true) rfl (s41_123.n2).ev (At.hit z123.put rfl).ev (gs rfl (qm rfl (At.hit z123.p2 rfl) (gsk (wis rfl rfl (At.hit z123.p3 rfl) rfl) (gsk (wis rfl rfl ((At.hit z123.p3 rfl).n1) rfl) (gsk (wis rfl rfl ((At.hit z123.p3 rfl).n2) rfl) (gsk (wun rfl rfl (At.hit z123.p6 rfl)) (g_fr z123.p8 fun a124 z124 m124 => ?_)))))))))))); have s2_124 := m124 s2_123.n8; have s6_124 := m124 s6_123.n8; have s32_124 := m124 s32_123.n8; have s48_124 := m124 ((At.hit z123.p3 rfl).n4); have s51_124 := m124 ((At.hit z123.p6 rfl).n1); have s52_124 := m124 (At.hit z123.p7 rfl); refine gsk (wun rfl rfl s51_124) ?_; refine gsk (wun rfl rfl (s51_124.n1)) ?_; refine gsk (wun rfl rfl (s51_124.n2)) ?_; refine gsk (wun rfl rfl (s51_124.n3)) ?_; refine gsk (wun rfl rfl (s51_124.n4)) ?_; refine gsk (wun rfl rfl (s51_124.n5)) ?_; refine gsk (wun rfl rfl (s51_124.n6)) ?_; refine gsk (wun rfl rfl (s51_124.n7)) ?_; refine g_fr z124.p8 fun a125 z125 m125 => ?_
        have s32_125 := m125 s32_124.n8; have s48_125 := m125 s48_124.n8; have s51_125 := m125 s51_124.n8; have s53_125 := m125 ((At.hit z124 rfl).n7); have s60_125 := m125 (At.hit z124.p7 rfl); refine gsk (wun rfl rfl s51_125) ?_; refine gsk (wis rfl rfl (s48_125.n1) rfl) ?_; refine gs rfl (q_pick (b := true) (.bool true) rfl (s48_125.n2).ev rfl ?_); refine gz ?_; intro w126 h126; have kg2_126 := h126.blk kg2_119; have kg7_126 := h126.blk k119; have ov_126 := (hv.low ((low115.trans h118).upd u119 geg7)).low h126; refine e_id (e_fr z125.p3 fun a127 z127 m127 => ?_); have s32_127 := m127 s32_125.n3; have s63_127 := m127 (At.hit z125.p2 rfl); have low127 := (low120.trans h126); refine e_then (c_true s63_127 ?_); refine c_seq (c_region ?_); refine l_q rfl (q_assign _ _ rfl rfl ?_); refine l_end (e_fr z127.put fun a128 z128 m128 => ?_); have s4_128 := m128 (At.hit z127 rfl); refine e_then (wp_ret (ret_in (ret_then (ret_then (ret_in (ret_then (r_tmp rfl z128.defers s4_128 ?_))))))); exact ⟨by rw [rs_4 hb116]; rfl, low127⟩
       ·
        skip
        by_cases hb129 : 0 < rgN l (nsize sp)
        ·
         skip
         by_cases hb130 : ¬ lessB (l.getD (rgN l (nsize sp) - 1) zP).f0 (l.getD (rgN l (nsize sp)) zP).f0 = true
         ·
          skip
          refine region_lowg hm (by kernel_rfl) ?_; refine gs rfl (q_fld 0 rfl (by kernel_rfl) s7_120.ev ?_); refine gs rfl (q_cellT (.string ((l.getD (rgN l (nsize sp)) zP).f0)) rfl u_9 (At.hit z120 rfl).ev (fun _ h => (cells_at (h.blk k119) 0).trans rfl) ?_); refine gs rfl (q_call (.bool true) rfl rfl Tryd.func27 rfl (args1 rfl (At.hit z120.put rfl).ev) (fun _ h => ((calls_bool (RightN.calls ((l.getD (rgN l (nsize sp)) zP).f0) _ (Gd.low hG (low120.trans h))) hb121)).mono fun _ _ ⟨e, k⟩ => ⟨e, h.trans k⟩) ?_); refine gs rfl (q_not (b := true) rfl (At.hit z120.p2 rfl).ev ?_); refine gs rfl (qm rfl (At.hit z120.p3 rfl) (gsg (wis rfl rfl (At.hit z120.p4 rfl) rfl) (q_fld 1 rfl (by kernel_rfl) (s7_120.n5).ev (gsg (wis rfl rfl ((At.hit z120.p4 rfl).n1) rfl) (q_cellT (.string ((l.getD (rgN l (nsize sp)) zP).f1)) rfl u_9 (At.hit z120.p5 rfl).ev (fun _ h => (cells_at (h.blk k119) 1).trans rfl) (gsg (wis rfl rfl ((At.hit z120.p4 rfl).n2) rfl) (q_len rfl rfl u_9 (At.hit z120.p6 rfl).ev (g_fr z120.p8 fun a131 z131 m131 => ?_)))))))); have s2_131 := m131 s2_120.n8; have s5_131 := m131 s5_120.n8; have s6_131 := m131 s6_120.n8; have s7_131 := m131 s7_120.n8; have s32_131 := m131 s32_120.n8; have s41_131 := m131 ((At.hit z120.p4 rfl).n3); have s44_131 := m131 (At.hit z120.p7 rfl); refine gsg (wis rfl rfl s41_131 rfl) (qm rfl s5_131 (gsg (wis rfl rfl (s41_131.n1) rfl) (q_neq false rfl (s44_131.n1).ev (At.hit z131 rfl).ev (decide_eq_false (by omega)) (gs rfl (q_pick (b := false) (.bool false) rfl (s41_131.n2).ev (At.hit z131.put rfl).ev (gs rfl (qm rfl (At.hit z131.p2 rfl) (gsg (wis rfl rfl (At.hit z131.p3 rfl) rfl) (qm rfl (s6_131.n4) (gsg (wis rfl rfl ((At.hit z131.p3 rfl).n1) rfl) (q_gtr true rfl (At.hit z131.p4 rfl).ev rfl (decide_eq_true (by omega)) (gsg (wis rfl rfl ((At.hit z131.p3 rfl).n2) rfl) (qm rfl (At.hit z131.p5 rfl) (gsg (wis rfl rfl (At.hit z131.p6 rfl) rfl) (q_fld 0 rfl (by kernel_rfl) (s7_131.n7).ev (g_fr z131.p8 fun a132 z132 m132 => ?_)))))))))))))))); have s2_132 := m132 s2_131.n8; have s6_132 := m132 s6_131.n8; have s32_132 := m132 s32_131.n8; have s48_132 := m132 ((At.hit z131.p3 rfl).n4); have s51_132 := m132 ((At.hit z131.p6 rfl).n1); have s52_132 := m132 (At.hit z131.p7 rfl); refine gsg (wis rfl rfl s51_132 rfl) (q_cellT (.string ((l.getD (rgN l (nsize sp)) zP).f0)) rfl u_9 s52_132.ev (fun _ h => (cells_at (h.blk k119) 0).trans rfl) ?_); refine gsg (wis rfl rfl (s51_132.n1) rfl) (q_fld 1 rfl (by kernel_rfl) (s2_132.n1).ev ?_); refine gsg (wis rfl rfl (s51_132.n2) rfl) (q_cellS (v) rfl u_22 (At.hit z132.put rfl).ev (fun _ h => (cells_at (h.blk kg2_119) 1).trans rfl) ?_); refine gsg (wis rfl rfl (s51_132.n3) rfl) (qm rfl (s6_132.n3) (gsg (wis rfl rfl (s51_132.n4) rfl) (q_sub ((((rgN l (nsize sp) : Nat) : Int) - 1)) rfl (At.hit z132.p3 rfl).ev rfl (i64_is (by omega) (by omega) (by omega)) (gsg (wis rfl rfl (s51_132.n5) rfl) (q_idxF (j := (rgN l (nsize sp)) - 1) rfl u_22 sz55 ((At.hit z132.p2 rfl).n2).ev (hv.low ((low115.trans h118).upd u119 geg7)) ((At.hit z132.p4 rfl).same (congrArg (Value.int .i64) (show ((((rgN l (nsize sp) : Nat) : Int) - 1) : Int) = (((rgN l (nsize sp)) - 1 : Nat) : Int) by omega))).ev (by omega) (gsg (wis rfl rfl (s51_132.n6) rfl) (q_fldF 0 rfl fld55_0 (At.hit z132.p5 rfl).ev ((hv.low ((low115.trans h118).upd u119 geg7)).form (by omega)) (gsg (wis rfl rfl (s51_132.n7) rfl) (q_ld1 (u := .string ((l.getD ((rgN l (nsize sp)) - 1) zP).f0)) rfl u_9 rfl (At.hit z132.p6 rfl).ev (fun _ h => ((hv.low ((low115.trans h118).upd u119 geg7)).low h)) (by omega) ((flat_at encP_len zP _ ((rgN l (nsize sp)) - 1) 0 (by omega) (by decide)).trans rfl) (g_fr z132.p8 fun a133 z133 m133 => ?_))))))))))
          have s32_133 := m133 s32_132.n8; have s48_133 := m133 s48_132.n8; have s51_133 := m133 s51_132.n8; have s53_133 := m133 ((At.hit z132 rfl).n7); have s60_133 := m133 (At.hit z132.p7 rfl); refine gsg (wis rfl rfl s51_133 rfl) (q_strleq true rfl s53_133.ev s60_133.ev (leT hb130) ?_); refine gsg (wis rfl rfl (s48_133.n1) rfl) (q_pick (b := true) (.bool true) rfl (s51_133.n1).ev (At.hit z133 rfl).ev ?_); refine gs rfl (q_pick (b := false) (.bool true) rfl (s48_133.n2).ev (At.hit z133.put rfl).ev ?_); refine gz ?_; intro w134 h134; have kg2_134 := h134.blk kg2_119; have kg7_134 := h134.blk k119; have ov_134 := (hv.low ((low115.trans h118).upd u119 geg7)).low h134; refine e_id (e_fr z133.p3 fun a135 z135 m135 => ?_); have s32_135 := m135 s32_133.n3; have s63_135 := m135 (At.hit z133.p2 rfl); have low135 := (low120.trans h134); refine e_then (c_true s63_135 ?_); refine c_seq (c_region ?_); refine l_q rfl (q_assign _ _ rfl rfl ?_); refine l_end (e_fr z135.put fun a136 z136 m136 => ?_); have s4_136 := m136 (At.hit z135 rfl); refine e_then (wp_ret (ret_in (ret_then (ret_then (ret_in (ret_then (r_tmp rfl z136.defers s4_136 ?_))))))); exact ⟨by rw [rs_4 hb116]; rfl, low135⟩
         ·
          skip
          refine region_lowg hm (by kernel_rfl) ?_; refine gs rfl (q_fld 0 rfl (by kernel_rfl) s7_120.ev ?_); refine gs rfl (q_cellT (.string ((l.getD (rgN l (nsize sp)) zP).f0)) rfl u_9 (At.hit z120 rfl).ev (fun _ h => (cells_at (h.blk k119) 0).trans rfl) ?_); refine gs rfl (q_call (.bool true) rfl rfl Tryd.func27 rfl (args1 rfl (At.hit z120.put rfl).ev) (fun _ h => ((calls_bool (RightN.calls ((l.getD (rgN l (nsize sp)) zP).f0) _ (Gd.low hG (low120.trans h))) hb121)).mono fun _ _ ⟨e, k⟩ => ⟨e, h.trans k⟩) ?_); refine gs rfl (q_not (b := true) rfl (At.hit z120.p2 rfl).ev ?_); refine gs rfl (qm rfl (At.hit z120.p3 rfl) (gsg (wis rfl rfl (At.hit z120.p4 rfl) rfl) (q_fld 1 rfl (by kernel_rfl) (s7_120.n5).ev (gsg (wis rfl rfl ((At.hit z120.p4 rfl).n1) rfl) (q_cellT (.string ((l.getD (rgN l (nsize sp)) zP).f1)) rfl u_9 (At.hit z120.p5 rfl).ev (fun _ h => (cells_at (h.blk k119) 1).trans rfl) (gsg (wis rfl rfl ((At.hit z120.p4 rfl).n2) rfl) (q_len rfl rfl u_9 (At.hit z120.p6 rfl).ev (g_fr z120.p8 fun a137 z137 m137 => ?_)))))))); have s2_137 := m137 s2_120.n8; have s5_137 := m137 s5_120.n8; have s6_137 := m137 s6_120.n8; have s7_137 := m137 s7_120.n8; have s32_137 := m137 s32_120.n8; have s41_137 := m137 ((At.hit z120.p4 rfl).n3); have s44_137 := m137 (At.hit z120.p7 rfl); refine gsg (wis rfl rfl s41_137 rfl) (qm rfl s5_137 (gsg (wis rfl rfl (s41_137.n1) rfl) (q_neq false rfl (s44_137.n1).ev (At.hit z137 rfl).ev (decide_eq_false (by omega)) (gs rfl (q_pick (b := false) (.bool false) rfl (s41_137.n2).ev (At.hit z137.put rfl).ev (gs rfl (qm rfl (At.hit z137.p2 rfl) (gsg (wis rfl rfl (At.hit z137.p3 rfl) rfl) (qm rfl (s6_137.n4) (gsg (wis rfl rfl ((At.hit z137.p3 rfl).n1) rfl) (q_gtr true rfl (At.hit z137.p4 rfl).ev rfl (decide_eq_true (by omega)) (gsg (wis rfl rfl ((At.hit z137.p3 rfl).n2) rfl) (qm rfl (At.hit z137.p5 rfl) (gsg (wis rfl rfl (At.hit z137.p6 rfl) rfl) (q_fld 0 rfl (by kernel_rfl) (s7_137.n7).ev (g_fr z137.p8 fun a138 z138 m138 => ?_)))))))))))))))); have s2_138 := m138 s2_137.n8; have s6_138 := m138 s6_137.n8; have s32_138 := m138 s32_137.n8; have s48_138 := m138 ((At.hit z137.p3 rfl).n4); have s51_138 := m138 ((At.hit z137.p6 rfl).n1); have s52_138 := m138 (At.hit z137.p7 rfl); refine gsg (wis rfl rfl s51_138 rfl) (q_cellT (.string ((l.getD (rgN l (nsize sp)) zP).f0)) rfl u_9 s52_138.ev (fun _ h => (cells_at (h.blk k119) 0).trans rfl) ?_); refine gsg (wis rfl rfl (s51_138.n1) rfl) (q_fld 1 rfl (by kernel_rfl) (s2_138.n1).ev ?_); refine gsg (wis rfl rfl (s51_138.n2) rfl) (q_cellS (v) rfl u_22 (At.hit z138.put rfl).ev (fun _ h => (cells_at (h.blk kg2_119) 1).trans rfl) ?_); refine gsg (wis rfl rfl (s51_138.n3) rfl) (qm rfl (s6_138.n3) (gsg (wis rfl rfl (s51_138.n4) rfl) (q_sub ((((rgN l (nsize sp) : Nat) : Int) - 1)) rfl (At.hit z138.p3 rfl).ev rfl (i64_is (by omega) (by omega) (by omega)) (gsg (wis rfl rfl (s51_138.n5) rfl) (q_idxF (j := (rgN l (nsize sp)) - 1) rfl u_22 sz55 ((At.hit z138.p2 rfl).n2).ev (hv.low ((low115.trans h118).upd u119 geg7)) ((At.hit z138.p4 rfl).same (congrArg (Value.int .i64) (show ((((rgN l (nsize sp) : Nat) : Int) - 1) : Int) = (((rgN l (nsize sp)) - 1 : Nat) : Int) by omega))).ev (by omega) (gsg (wis rfl rfl (s51_138.n6) rfl) (q_fldF 0 rfl fld55_0 (At.hit z138.p5 rfl).ev ((hv.low ((low115.trans h118).upd u119 geg7)).form (by omega)) (gsg (wis rfl rfl (s51_138.n7) rfl) (q_ld1 (u := .string ((l.getD ((rgN l (nsize sp)) - 1) zP).f0)) rfl u_9 rfl (At.hit z138.p6 rfl).ev (fun _ h => ((hv.low ((low115.trans h118).upd u119 geg7)).low h)) (by omega) ((flat_at encP_len zP _ ((rgN l (nsize sp)) - 1) 0 (by omega) (by decide)).trans rfl) (g_fr z138.p8 fun a139 z139 m139 => ?_))))))))))
          have s32_139 := m139 s32_138.n8; have s48_139 := m139 s48_138.n8; have s51_139 := m139 s51_138.n8; have s53_139 := m139 ((At.hit z138 rfl).n7); have s60_139 := m139 (At.hit z138.p7 rfl); refine gsg (wis rfl rfl s51_139 rfl) (q_strleq false rfl s53_139.ev s60_139.ev (leF (Decidable.not_not.1 hb130)) ?_); refine gsg (wis rfl rfl (s48_139.n1) rfl) (q_pick (b := true) (.bool false) rfl (s51_139.n1).ev (At.hit z139 rfl).ev ?_); refine gs rfl (q_pick (b := false) (.bool false) rfl (s48_139.n2).ev (At.hit z139.put rfl).ev ?_); refine gz ?_; intro w140 h140; have kg2_140 := h140.blk kg2_119; have kg7_140 := h140.blk k119; have ov_140 := (hv.low ((low115.trans h118).upd u119 geg7)).low h140; refine e_id (e_fr z139.p3 fun a141 z141 m141 => ?_); have s32_141 := m141 s32_139.n3; have s63_141 := m141 (At.hit z139.p2 rfl); have low141 := (low120.trans h140); refine e_then (c_false s63_141 ?_); refine wp_skip (e_in (e_then (c_region ?_))); refine l_q rfl (q_add ((((rgN l (nsize sp)) + 1 : Nat) : Int)) rfl s32_141.ev rfl (i64_is (by omega) (by omega) (by omega)) ?_); refine l_q rfl (qm rfl (At.hit z141 rfl) (l_end (e_fr z141.p2 fun a142 z142 m142 => ?_))); exact absurd ⟨hb121, Decidable.not_not.1 hb122, fun h0 => Decidable.not_not.1 hb130⟩ (rgN_stop hb116)
        ·
         skip
         refine region_lowg hm (by kernel_rfl) ?_; refine gs rfl (q_fld 0 rfl (by kernel_rfl) s7_120.ev ?_); refine gs rfl (q_cellT (.string ((l.getD (rgN l (nsize sp)) zP).f0)) rfl u_9 (At.hit z120 rfl).ev (fun _ h => (cells_at (h.blk k119) 0).trans rfl) ?_); refine gs rfl (q_call (.bool true) rfl rfl Tryd.func27 rfl (args1 rfl (At.hit z120.put rfl).ev) (fun _ h => ((calls_bool (RightN.calls ((l.getD (rgN l (nsize sp)) zP).f0) _ (Gd.low hG (low120.trans h))) hb121)).mono fun _ _ ⟨e, k⟩ => ⟨e, h.trans k⟩) ?_); refine gs rfl (q_not (b := true) rfl (At.hit z120.p2 rfl).ev ?_); refine gs rfl (qm rfl (At.hit z120.p3 rfl) (gsg (wis rfl rfl (At.hit z120.p4 rfl) rfl) (q_fld 1 rfl (by kernel_rfl) (s7_120.n5).ev (gsg (wis rfl rfl ((At.hit z120.p4 rfl).n1) rfl) (q_cellT (.string ((l.getD (rgN l (nsize sp)) zP).f1)) rfl u_9 (At.hit z120.p5 rfl).ev (fun _ h => (cells_at (h.blk k119) 1).trans rfl) (gsg (wis rfl rfl ((At.hit z120.p4 rfl).n2) rfl) (q_len rfl rfl u_9 (At.hit z120.p6 rfl).ev (g_fr z120.p8 fun a143 z143 m143 => ?_)))))))); have s2_143 := m143 s2_120.n8; have s5_143 := m143 s5_120.n8; have s6_143 := m143 s6_120.n8; have s7_143 := m143 s7_120.n8; have s32_143 := m143 s32_120.n8; have s41_143 := m143 ((At.hit z120.p4 rfl).n3); have s44_143 := m143 (At.hit z120.p7 rfl); refine gsg (wis rfl rfl s41_143 rfl) (qm rfl s5_143 (gsg (wis rfl rfl (s41_143.n1) rfl) (q_neq false rfl (s44_143.n1).ev (At.hit z143 rfl).ev (decide_eq_false (by omega)) (gs rfl (q_pick (b := false) (.bool false) rfl (s41_143.n2).ev (At.hit z143.put rfl).ev (gs rfl (qm rfl (At.hit z143.p2 rfl) (gsg (wis rfl rfl (At.hit z143.p3 rfl) rfl) (qm rfl (s6_143.n4) (gsg (wis rfl rfl ((At.hit z143.p3 rfl).n1) rfl) (q_gtr false rfl (At.hit z143.p4 rfl).ev rfl (decide_eq_false (by omega)) (gsg (wis rfl rfl ((At.hit z143.p3 rfl).n2) rfl) (qm rfl (At.hit z143.p5 rfl) (gsk (wis rfl rfl (At.hit z143.p6 rfl) rfl) (g_fr z143.p8 fun a144 z144 m144 => ?_))))))))))))))); have s2_144 := m144 s2_143.n8; have s6_144 := m144 s6_143.n8; have s32_144 := m144 s32_143.n8; have s48_144 := m144 ((At.hit z143.p3 rfl).n4); have s51_144 := m144 ((At.hit z143.p6 rfl).n1); have s52_144 := m144 (At.hit z143.p7 rfl); refine gsk (wis rfl rfl s51_144 rfl) ?_; refine gsk (wis rfl rfl (s51_144.n1) rfl) ?_; refine gsk (wis rfl rfl (s51_144.n2) rfl) ?_; refine gsk (wis rfl rfl (s51_144.n3) rfl) ?_; refine gsk (wis rfl rfl (s51_144.n4) rfl) ?_; refine gsk (wis rfl rfl (s51_144.n5) rfl) ?_; refine gsk (wis rfl rfl (s51_144.n6) rfl) ?_; refine gsk (wis rfl rfl (s51_144.n7) rfl) ?_; refine g_fr z144.p8 fun a145 z145 m145 => ?_
         have s32_145 := m145 s32_144.n8; have s48_145 := m145 s48_144.n8; have s51_145 := m145 s51_144.n8; have s53_145 := m145 ((At.hit z144 rfl).n7); have s60_145 := m145 (At.hit z144.p7 rfl); refine gsk (wis rfl rfl s51_145 rfl) ?_; refine gsg (wis rfl rfl (s48_145.n1) rfl) (q_pick (b := false) (.bool false) rfl (s51_145.n1).ev rfl ?_); refine gs rfl (q_pick (b := false) (.bool false) rfl (s48_145.n2).ev (At.hit z145.put rfl).ev ?_); refine gz ?_; intro w146 h146; have kg2_146 := h146.blk kg2_119; have kg7_146 := h146.blk k119; have ov_146 := (hv.low ((low115.trans h118).upd u119 geg7)).low h146; refine e_id (e_fr z145.p3 fun a147 z147 m147 => ?_); have s32_147 := m147 s32_145.n3; have s63_147 := m147 (At.hit z145.p2 rfl); have low147 := (low120.trans h146); refine e_then (c_false s63_147 ?_); refine wp_skip (e_in (e_then (c_region ?_))); refine l_q rfl (q_add ((((rgN l (nsize sp)) + 1 : Nat) : Int)) rfl s32_147.ev rfl (i64_is (by omega) (by omega) (by omega)) ?_); refine l_q rfl (qm rfl (At.hit z147 rfl) (l_end (e_fr z147.p2 fun a148 z148 m148 => ?_))); exact absurd ⟨hb121, Decidable.not_not.1 hb122, fun h0 => absurd h0 hb129⟩ (rgN_stop hb116)
      ·
       skip
       refine region_lowg hm (by kernel_rfl) ?_; refine gs rfl (q_fld 0 rfl (by kernel_rfl) s7_120.ev ?_); refine gs rfl (q_cellT (.string ((l.getD (rgN l (nsize sp)) zP).f0)) rfl u_9 (At.hit z120 rfl).ev (fun _ h => (cells_at (h.blk k119) 0).trans rfl) ?_); refine gs rfl (q_call (.bool false) rfl rfl Tryd.func27 rfl (args1 rfl (At.hit z120.put rfl).ev) (fun _ h => ((calls_bool (RightN.calls ((l.getD (rgN l (nsize sp)) zP).f0) _ (Gd.low hG (low120.trans h))) (eq_false_of_ne_true hb121))).mono fun _ _ ⟨e, k⟩ => ⟨e, h.trans k⟩) ?_); refine gs rfl (q_not (b := false) rfl (At.hit z120.p2 rfl).ev ?_); refine gs rfl (qm rfl (At.hit z120.p3 rfl) (gsk (wis rfl rfl (At.hit z120.p4 rfl) rfl) (gsk (wis rfl rfl ((At.hit z120.p4 rfl).n1) rfl) (gsk (wis rfl rfl ((At.hit z120.p4 rfl).n2) rfl) (g_fr z120.p8 fun a149 z149 m149 => ?_))))); have s2_149 := m149 s2_120.n8; have s5_149 := m149 s5_120.n8; have s6_149 := m149 s6_120.n8; have s7_149 := m149 s7_120.n8; have s32_149 := m149 s32_120.n8; have s41_149 := m149 ((At.hit z120.p4 rfl).n3); have s44_149 := m149 (At.hit z120.p7 rfl); refine gsk (wis rfl rfl s41_149 rfl) ?_; refine gsk (wis rfl rfl (s41_149.n1) rfl) ?_; refine gs rfl (q_pick (b := true) (.bool true) rfl (s41_149.n2).ev rfl ?_); refine gs rfl (qm rfl (At.hit z149.p2 rfl) (gsk (wis rfl rfl (At.hit z149.p3 rfl) rfl) (gsk (wis rfl rfl ((At.hit z149.p3 rfl).n1) rfl) (gsk (wis rfl rfl ((At.hit z149.p3 rfl).n2) rfl) (gsk (wun rfl rfl (At.hit z149.p6 rfl)) (g_fr z149.p8 fun a150 z150 m150 => ?_)))))); have s2_150 := m150 s2_149.n8; have s6_150 := m150 s6_149.n8; have s32_150 := m150 s32_149.n8; have s48_150 := m150 ((At.hit z149.p3 rfl).n4); have s51_150 := m150 ((At.hit z149.p6 rfl).n1); have s52_150 := m150 (At.hit z149.p7 rfl); refine gsk (wun rfl rfl s51_150) ?_; refine gsk (wun rfl rfl (s51_150.n1)) ?_; refine gsk (wun rfl rfl (s51_150.n2)) ?_; refine gsk (wun rfl rfl (s51_150.n3)) ?_; refine gsk (wun rfl rfl (s51_150.n4)) ?_; refine gsk (wun rfl rfl (s51_150.n5)) ?_; refine gsk (wun rfl rfl (s51_150.n6)) ?_; refine gsk (wun rfl rfl (s51_150.n7)) ?_; refine g_fr z150.p8 fun a151 z151 m151 => ?_
       have s32_151 := m151 s32_150.n8; have s48_151 := m151 s48_150.n8; have s51_151 := m151 s51_150.n8; have s53_151 := m151 ((At.hit z150 rfl).n7); have s60_151 := m151 (At.hit z150.p7 rfl); refine gsk (wun rfl rfl s51_151) ?_; refine gsk (wis rfl rfl (s48_151.n1) rfl) ?_; refine gs rfl (q_pick (b := true) (.bool true) rfl (s48_151.n2).ev rfl ?_); refine gz ?_; intro w152 h152; have kg2_152 := h152.blk kg2_119; have kg7_152 := h152.blk k119; have ov_152 := (hv.low ((low115.trans h118).upd u119 geg7)).low h152; refine e_id (e_fr z151.p3 fun a153 z153 m153 => ?_); have s32_153 := m153 s32_151.n3; have s63_153 := m153 (At.hit z151.p2 rfl); have low153 := (low120.trans h152); refine e_then (c_true s63_153 ?_); refine c_seq (c_region ?_); refine l_q rfl (q_assign _ _ rfl rfl ?_); refine l_end (e_fr z153.put fun a154 z154 m154 => ?_); have s4_154 := m154 (At.hit z153 rfl); refine e_then (wp_ret (ret_in (ret_then (ret_then (ret_in (ret_then (r_tmp rfl z154.defers s4_154 ?_))))))); exact ⟨by rw [rs_4 hb116]; rfl, low153⟩
     ·
      skip
      refine c_region ?_; refine l_q rfl (q_lss false rfl s32_115.ev s31_115.ev (decide_eq_false (by omega)) ?_); refine l_end (e_fr z115.put fun a155 z155 m155 => ?_); have s2_155 := m155 s2_115.n1; have s5_155 := m155 s5_115.n1; have s30_155 := m155 s30_115.n1; have s32_155 := m155 s32_115.n1; have s33_155 := m155 (At.hit z115 rfl); refine e_then (c_seq (c_false s33_155 ?_)); refine wp_exit (x_then (x_then (in_exit (e_then (c_seq (c_region ?_)))))); refine l_q rfl (q_assign _ _ rfl rfl ?_); refine l_end (e_fr z155.put fun a156 z156 m156 => ?_); have s4_156 := m156 (At.hit z155 rfl); refine e_then (wp_ret (r_tmp rfl z156.defers s4_156 ?_)); exact ⟨by rw [rs_5 hb5 (fun h => absurd h hb10) hb88 hb116]; rfl, low115⟩
end Go.Proofs.YtnhchnlgleokoaaDoor.Q
end
/-! T4 -/
section
namespace Go.Proofs.YtnhchnlgleokoaaDoor.Q
open Go.RowKit
set_option linter.unusedSimpArgs false
set_option linter.unusedVariables false
set_option maxRecDepth 100000
section
variable {P : Program} {Q : Exit → Act → World → Prop} {a : Act} {w : World} {o : Oper} {ops : Array Oper} {rest : List Oper} {K : Act → Prop} {C : World → Prop}
theorem q_slnil {T T' e : TypeId} {x y : Operand} {A : Option Addr} {n c : Nat} (b : Bool) (ho : o.op = .binOp .eql T x y T') (hT : P.underlying T = some (.slice e)) (hx : a.eval x = .slice A n c) (hy : a.eval y = .slice none 0 0) (hb : A.isNone = b) (hn : K (a.put o.dst (.bool b))) : o.quiet P a C K :=
  q_val _ (fun w _ => by
    have h := Lib.run_eql_slice_nil (P := P) w T e A n c 0 0 hT
    unfold execOp
    simp [ho, hx, hy, eqGuard, Sem.run_bind, h, hb]) hn
theorem l_mk0 {E t : TypeId} {sz : Nat} (hg : o.guard = none) (ho : o.op = .buildSlice t 0 #[]) (ht : P.underlying t = some (.slice E)) (hE : recB P E sz = true)
    (h : ∀ v w', OwnF w' w.heap.size E sz v 0 [] → Low w w' → wpList P ops Q rest (a.put o.dst v) w') : wpList P ops Q (o :: rest) a w := by
  refine wpList_plain hg fun K hK => ?_
  have hrun : (execOp a.eval o).run P w = .ok (.value (.slice (some ⟨w.heap.size, 0, none⟩) 0 0)) (w.alloc (.cells #[] E)) := by
    have := run_empty ht hE w
    unfold execOp
    simp [ho, Sem.run_bind, this]
  unfold Oper.wp
  rw [hrun]
  exact hK _ _ (h _ _ (World.ownsRow_made w #[] 0 (Nat.le_refl _) (Nat.zero_le _) (by simp)) (low_new _ _))
/-- a cell of a row of the call's own is written -/
theorem l_setF {B : Nat} {E T : TypeId} {sz : Nat} {x y : Operand} {v u : Value} {n k : Nat} {cs : List Value} (hg : o.guard = none) (ho : o.op = .store T x y) (hd : o.dst = none) (hi : (P.info? T).map (·.size) = some 1)
    (hx : a.eval x = pAt v k) (hy : a.eval y = u) (hu : u.oneCell' = true) (hv : OwnF w B E sz v n cs) (hk : k < cs.length)
    (h : ∀ w', OwnF w' B E sz v n (cs.set k u) → GrW B E v w w' → wpList P ops Q rest a w') : wpList P ops Q (o :: rest) a w := by
  rcases hv.2 with ⟨rfl, rfl⟩ | ⟨g, cap, cur, rfl, hgB, hh, hn, hc, hs, ht⟩
  · rw [hv.1] at hk; omega
  · rw [pAt_mid, Nat.zero_add] at hx
    have hkc : k < cur.size := by
      rw [← ht, List.length_take, Array.length_toList] at hk
      omega
    refine l_cell hg ho hd hi hx hy hu hh hkc fun w' k' u' => h w' ⟨by rw [List.length_set]; exact hv.1, .inr ⟨g, cap, _, rfl, hgB, k', hn, hc, by simpa using hs, ?_⟩⟩ (upd_grw u' hgB hh)
    rw [Array.toList_setIfInBounds, List.take_set, ht]
theorem r_cell_tmp {fn : Func} {t s : Nat} {ty T : TypeId} {g : Nat} {cs : Array Value} {u : Value} {d : TypeDesc} {R : Ending → World → Prop} (hr : fn.results = #[.cell t ty, .tmp s]) (hdf : a.defers = []) (ht : At a t (.pointer (some ⟨g, 0, none⟩))) (hs : At a s u) (hb : w.heap[g]? = some (.cells cs T))
    (hu : P.underlying ty = some d) (hd : (match d with | .struct _ | .array _ _ => true | _ => false) = true) (hi : (P.info? ty).map (·.size) = some cs.size) (hR : R (.returned (.tuple #[.agg cs, u])) w) : bodyPost P fn R .ret a w :=
  ⟨hdf, .tuple #[.agg cs, u], by
    unfold At at ht hs
    have hp' : a.tmps[t]?.getD undef = .pointer (some ⟨g, 0, none⟩) := by simp [ht]
    simp [results, hr, hp', hs, asAddr, run_loadVar_row w g T ty cs (0, 0) d hb hu hd hi], hR⟩
theorem one2 (x : ByteArray) {v : Value} (h : v.oneCell' = true) : (#[Value.string x, v].all (·.oneCell')) = true := by
  rw [Array.all_eq_true_iff_forall_mem]
  intro u hu
  simp only [List.mem_toArray, List.mem_cons, List.not_mem_nil, or_false] at hu
  rcases hu with rfl | rfl
  · rfl
  · exact h
theorem RdF.sl {sz : Nat} {v : Value} {n : Nat} {cs : List Value} (h : RdF w sz v n cs) : ∃ A c, v = .slice A n c := by
  obtain ⟨_, A, cap, rfl, _⟩ := h
  exact ⟨A, cap, rfl⟩
end
theorem built55 (x y : ByteArray) : Tryd.prog.built 55 [(0, .string x), (1, .string y)] = some #[.string x, .string y] := by kernel_rfl
theorem built24 (x : ByteArray) {v : Value} {n : Nat} (h : ∃ A c, v = .slice A n c) : Tryd.prog.built 24 [(0, .string x), (1, v)] = some #[.string x, v] := by
  obtain ⟨A, c, rfl⟩ := h
  kernel_rfl
theorem built29 (x : ByteArray) {v : Value} {n : Nat} (h : ∃ A c, v = .slice A n c) : Tryd.prog.built 29 [(0, .string x), (1, v)] = some #[.string x, v] := by
  obtain ⟨A, c, rfl⟩ := h
  kernel_rfl
theorem built24_0 : Tryd.prog.built 24 [] = some #[.string nilB, .slice none 0 0] := by kernel_rfl
theorem built29_0 : Tryd.prog.built 29 [] = some #[.string nilB, .slice none 0 0] := by kernel_rfl
def OwnT (B : Nat) (l : List Rf) : Value → World → Prop := fun v w => OwnF w B 55 2 v l.length (l.map encP).flatten
theorem StL_own (B : Nat) (l : List Rf) : StL (OwnT B l) := fun _ _ _ h k => h.low k
def StT (B : Nat) (hd : ByteArray) (l : List Rf) : Value → World → Prop := fun u w => ∃ v, u = .agg #[.string hd, v] ∧ OwnF w B 55 2 v l.length (l.map encP).flatten
theorem StL_st (B : Nat) (hd : ByteArray) (l : List Rf) : StL (StT B hd l) := fun _ _ _ ⟨v, e, h⟩ k => ⟨v, e, h.low k⟩
def AlT (B : Nat) (T : TypeId) (cs : Array Value) : Value → World → Prop := fun u w => ∃ g, u = .pointer (some ⟨g, 0, none⟩) ∧ B ≤ g ∧ w.heap[g]? = some (.cells cs T)
theorem StL_al (B : Nat) (T : TypeId) (cs : Array Value) : StL (AlT B T cs) := fun _ _ _ ⟨g, e, h, h2⟩ k => ⟨g, e, h, k.blk h2⟩
theorem flat_set (l : List Rf) (p : Nat) (x : ByteArray) (h : p < l.length) : (l.map encP).flatten.set (p * 2 + 1) (.string x) = ((l.set p ⟨(l.getD p zP).f0, x⟩).map encP).flatten := by
  induction l generalizing p with
  | nil => simp at h
  | cons y l ih =>
    cases p with
    | zero => rfl
    | succ p =>
      have e : (p + 1) * 2 + 1 = (p * 2 + 1) + 1 + 1 := by omega
      rw [e]
      have := ih p (by simpa using h)
      simp only [List.map_cons, List.flatten_cons, List.set_cons_succ, List.getD_cons_succ] at this ⊢
      rw [← this]
      rfl
def setP (l : List Rf) (n x : ByteArray) : List Rf :=
  if bsB l n = true then (if x = nilB then l.take (bsP l n) ++ l.drop (bsP l n + 1) else l.set (bsP l n) ⟨(l.getD (bsP l n) zP).f0, x⟩)
  else if x = nilB then l else l.take (bsP l n) ++ [⟨n, x⟩] ++ l.drop (bsP l n)
def errP (sz : Int) (l : List Rf) (w : Sw) : Int := if ¬ rightN w.f0 = true then 12 else if ¬ w.f2 = nilB ∧ ¬ (w.f2.size : Int) = sz then 3 else if ¬ getL l w.f0 = w.f1 then 13 else 0
def stP (l : List Rf) (ws : List Sw) : Nat → List Rf
  | 0 => l
  | k + 1 => setP (stP l ws k) (ws.getD k zW).f0 (ws.getD k zW).f2
def okP (sz : Int) (l : List Rf) (ws : List Sw) (k : Nat) : Prop := errP sz (stP l ws k) (ws.getD k zW) = 0
instance okDec (sz : Int) (l : List Rf) (ws : List Sw) (k : Nat) : Decidable (okP sz l ws k) := by unfold okP; infer_instance
def apN (sz : Int) (l : List Rf) (ws : List Sw) : Nat := firstN ws.length (okP sz l ws)
theorem apN_le (sz : Int) (l : List Rf) (ws : List Sw) : apN sz l ws ≤ ws.length := firstN_le _ _
theorem errP_0 {sz : Int} {l : List Rf} {w : Sw} (h : errP sz l w = 0) : rightN w.f0 = true ∧ (¬ w.f2 = nilB → (w.f2.size : Int) = sz) ∧ getL l w.f0 = w.f1 := by
  unfold errP at h
  by_cases h1 : rightN w.f0 = true
  · rw [if_neg (fun c => c h1)] at h
    by_cases h2 : ¬ w.f2 = nilB ∧ ¬ (w.f2.size : Int) = sz
    · rw [if_pos h2] at h; cases h
    · rw [if_neg h2] at h
      by_cases h3 : getL l w.f0 = w.f1
      · exact ⟨h1, fun c => Classical.byContradiction fun d => h2 ⟨c, d⟩, h3⟩
      · rw [if_pos h3] at h; cases h
  · rw [if_pos h1] at h; cases h
theorem errP_ok {sz : Int} {l : List Rf} {w : Sw} (h1 : rightN w.f0 = true) (h2 : ¬ w.f2 = nilB → (w.f2.size : Int) = sz) (h3 : getL l w.f0 = w.f1) : errP sz l w = 0 := by
  unfold errP
  rw [if_neg (fun c => c h1), if_neg (fun c => c.2 (h2 c.1)), if_neg (fun c => c h3)]
theorem apN_round {sz : Int} {l : List Rf} {ws : List Sw} {k : Nat} (h : k < apN sz l ws) : rightN (ws.getD k zW).f0 = true ∧ (¬ (ws.getD k zW).f2 = nilB → ((ws.getD k zW).f2.size : Int) = sz) ∧ getL (stP l ws k) (ws.getD k zW).f0 = (ws.getD k zW).f1 := errP_0 (firstN_round h)
theorem apN_stop {sz : Int} {l : List Rf} {ws : List Sw} (h : apN sz l ws < ws.length) : ¬ errP sz (stP l ws (apN sz l ws)) (ws.getD (apN sz l ws) zW) = 0 := firstN_stop h
theorem setP_len (l : List Rf) (n x : ByteArray) : (setP l n x).length ≤ l.length + 1 := by
  have := bsP_le l n
  unfold setP
  split
  · split <;> simp <;> omega
  · split <;> simp <;> omega
theorem stP_len (l : List Rf) (ws : List Sw) : ∀ k, (stP l ws k).length ≤ l.length + k
  | 0 => Nat.le_refl _
  | k + 1 => by
    have h1 := stP_len l ws k
    have h2 := setP_len (stP l ws k) (ws.getD k zW).f0 (ws.getD k zW).f2
    show (setP _ _ _).length ≤ _
    omega
theorem step_del {l : List Rf} {ws : List Sw} {k : Nat} (h : bsB (stP l ws k) (ws.getD k zW).f0 = true) (h2 : (ws.getD k zW).f2 = nilB) : (stP l ws k).take (bsP (stP l ws k) (ws.getD k zW).f0) ++ (stP l ws k).drop (bsP (stP l ws k) (ws.getD k zW).f0 + 1) = stP l ws (k + 1) := by
  show _ = setP _ _ _
  unfold setP
  rw [if_pos h, if_pos h2]
theorem step_set {l : List Rf} {ws : List Sw} {k : Nat} (h : bsB (stP l ws k) (ws.getD k zW).f0 = true) (h2 : ¬ (ws.getD k zW).f2 = nilB) : (stP l ws k).set (bsP (stP l ws k) (ws.getD k zW).f0) ⟨((stP l ws k).getD (bsP (stP l ws k) (ws.getD k zW).f0) zP).f0, (ws.getD k zW).f2⟩ = stP l ws (k + 1) := by
  show _ = setP _ _ _
  unfold setP
  rw [if_pos h, if_neg h2]
theorem step_ins {l : List Rf} {ws : List Sw} {k : Nat} (h : bsB (stP l ws k) (ws.getD k zW).f0 = false) (h2 : ¬ (ws.getD k zW).f2 = nilB) : (stP l ws k).take (bsP (stP l ws k) (ws.getD k zW).f0) ++ [(⟨(ws.getD k zW).f0, (ws.getD k zW).f2⟩ : Rf)] ++ (stP l ws k).drop (bsP (stP l ws k) (ws.getD k zW).f0) = stP l ws (k + 1) := by
  show _ = setP _ _ _
  unfold setP
  rw [if_neg (by rw [h]; decide), if_neg h2]
theorem step_none {l : List Rf} {ws : List Sw} {k : Nat} (h : bsB (stP l ws k) (ws.getD k zW).f0 = false) (h2 : (ws.getD k zW).f2 = nilB) : stP l ws k = stP l ws (k + 1) := by
  show _ = setP _ _ _
  unfold setP
  rw [if_neg (by rw [h]; decide), if_pos h2]
theorem there_lt {l : List Rf} {n : ByteArray} (h : bsB l n = true) : bsP l n < l.length := ((bsB_iff l n).1 h).1
/-- what Apply gives: the branch at hand, the refs, the error -/
def apH (hd : ByteArray) (sz : Int) (l : List Rf) (ws : List Sw) : ByteArray := if apN sz l ws < ws.length then nilB else hd
def apL (sz : Int) (l : List Rf) (ws : List Sw) : List Rf := if apN sz l ws < ws.length then [] else stP l ws ws.length
def apE (sz : Int) (l : List Rf) (ws : List Sw) : Int := if apN sz l ws < ws.length then errP sz (stP l ws (apN sz l ws)) (ws.getD (apN sz l ws) zW) else 0
theorem ap_bad {sz : Int} {l : List Rf} {ws : List Sw} (hd : ByteArray) (h : apN sz l ws < ws.length) {e : Int} (he : errP sz (stP l ws (apN sz l ws)) (ws.getD (apN sz l ws) zW) = e) : apH hd sz l ws = nilB ∧ apL sz l ws = [] ∧ apE sz l ws = e := ⟨if_pos h, if_pos h, (if_pos h).trans he⟩
theorem ap_good {sz : Int} {l : List Rf} {ws : List Sw} (hd : ByteArray) (h : ¬ apN sz l ws < ws.length) : apH hd sz l ws = hd ∧ apL sz l ws = stP l ws (apN sz l ws) ∧ apE sz l ws = 0 := ⟨if_neg h, (if_neg h).trans (by rw [Nat.le_antisymm (apN_le sz l ws) (Nat.le_of_not_lt h)]), if_neg h⟩
theorem err_12 {sz : Int} {l : List Rf} {w : Sw} (h : ¬ rightN w.f0 = true) : errP sz l w = 12 := if_pos h
theorem err_3 {sz : Int} {l : List Rf} {w : Sw} (h : rightN w.f0 = true) (h1 : ¬ w.f2 = nilB) (h2 : ¬ (w.f2.size : Int) = sz) : errP sz l w = 3 := by unfold errP; rw [if_neg (fun c => c h), if_pos ⟨h1, h2⟩]
theorem err_13 {sz : Int} {l : List Rf} {w : Sw} (h : rightN w.f0 = true) (h1 : ¬ w.f2 = nilB → (w.f2.size : Int) = sz) (h2 : ¬ getL l w.f0 = w.f1) : errP sz l w = 13 := by unfold errP; rw [if_neg (fun c => c h), if_neg (fun c => c.2 (h1 c.1)), if_pos h2]
end Go.Proofs.YtnhchnlgleokoaaDoor.Q
end
