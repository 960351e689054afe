-- written by a program of this session's (wip/gen), after the kit's print
import Derived.Test.YtgbfbfemmhfcaaaDoorPx0
import Derived.Test.YtgbfbfemmhfcaaaDoorPx2
import Derived.Test.YtgbfbfemmhfcaaaDoorPx3
import Derived.Test.YtgbfbfemmhfcaaaDoorPx9
import Derived.Test.YtgbfbfemmhfcaaaDoorPx10
import Derived.Test.YtgbfbfemmhfcaaaDoorPx12
namespace Go.Proofs.YtgbfbfemmhfcaaaDoor.P
open Go.RowKit Go.Proofs.YtgbfbfemmhfcaaaDoorW.PrintWords Go.Proofs.YtgbfbfemmhfcaaaDoorW.PrintLast Go.Proofs.YtgbfbfemmhfcaaaDoorW.PrintMore
attribute [local go_sem] max2_int min2_int max_two min_two max_three min_three max_four min_four   -- for this text's walks alone
set_option linter.unusedVariables false
set_option linter.unusedSimpArgs false

/-! ### diptychlaw27_LineTexts: function 3 -/
mutual
def diptychlaw27_LineTexts.j0 : Nat → List ByteArray → ByteArray → Bool → Option (Bool)
  | 0, _, _, _ => none
  | k + 1, x0, x1, x27 => if x27 = true then (some true) else ((some (([] : List ByteArray) : List ByteArray)).bind fun y235 => (if y235.length + x0.length < 8796093022208 then ((line_Put.f k (y235 ++ x0)).bind fun bt241 => ((diptychref27_Put.f k x0).bind fun bt243 => ((line_Take.f k x1).bind fun bt245 => ((diptychref27_Take.f k x1).bind fun bt250 => (if bt241.1.toList = bt243.1.toList then (if bt241.2 = bt243.2 then ((diptychref11_Texts.f k bt245.1 bt250.1).bind fun t255 => (if t255 = true then (if bt245.2.1.toList = bt250.2.1.toList then (diptychlaw27_LineTexts.j1 k x0 x1 bt241.1 bt241.2 (bt245.2.2 != bt250.2.2)) else (diptychlaw27_LineTexts.j1 k x0 x1 bt241.1 bt241.2 true)) else (diptychlaw27_LineTexts.j1 k x0 x1 bt241.1 bt241.2 true))) else (diptychlaw27_LineTexts.j1 k x0 x1 bt241.1 bt241.2 true)) else (diptychlaw27_LineTexts.j1 k x0 x1 bt241.1 bt241.2 true)))))) else (none)))
def diptychlaw27_LineTexts.j1 : Nat → List ByteArray → ByteArray → ByteArray → Int → Bool → Option (Bool)
  | 0, _, _, _, _, _ => none
  | k + 1, x0, x1, x5, x6, x75 => if x75 = true then (some false) else (if x6 = 0 then (if x5.size + x1.size ≤ 9223372036854775807 then ((line_Take.f k (x5 ++ x1)).bind fun bt256 => (if bt256.2.2 = 0 then (if bt256.2.1.toList = x1.toList then ((diptychref11_Texts.f k bt256.1 x0).bind fun t261 => (some t261)) else (some false)) else (some false))) else (none)) else (some true))
end
def diptychlaw27_LineTexts.f (k : Nat) (l0 : List ByteArray) (a1 : ByteArray) : Option (Bool) := (diptychlaw27_awake.f k).bind fun t233 => (if t233 = true then ((diptychlaw27_few.f k l0).bind fun t234 => (if t234 = true then (diptychlaw27_LineTexts.j0 k l0 a1 (decide ((a1.size : Int) > 10000))) else (diptychlaw27_LineTexts.j0 k l0 a1 true))) else (some false))
theorem diptychlaw27_LineTexts.mono_l : ∀ k, (∀ y0 y1 y2, LeO (diptychlaw27_LineTexts.j0 k y0 y1 y2) (diptychlaw27_LineTexts.j0 (k + 1) y0 y1 y2)) ∧ (∀ y0 y1 y2 y3 y4, LeO (diptychlaw27_LineTexts.j1 k y0 y1 y2 y3 y4) (diptychlaw27_LineTexts.j1 (k + 1) y0 y1 y2 y3 y4))
  | 0 => ⟨fun _ _ _ r h => by simp [diptychlaw27_LineTexts.j0] at h, fun _ _ _ _ _ r h => by simp [diptychlaw27_LineTexts.j1] at h⟩
  | k + 1 => by
    obtain ⟨ih0, ih1⟩ := diptychlaw27_LineTexts.mono_l k
    refine ⟨?_, ?_⟩
    · intro y0 y1 y2
      unfold diptychlaw27_LineTexts.j0
      repeat' first
      | (with_reducible exact ih0 _ _ _)
      | (with_reducible exact ih1 _ _ _ _ _)
      | (with_reducible exact diptychlaw27_awake.mono _)
      | (with_reducible exact diptychlaw27_few.mono _ _)
      | (with_reducible exact diptychref11_Texts.mono _ _ _)
      | (with_reducible exact diptychref27_Put.mono _ _)
      | (with_reducible exact diptychref27_Take.mono _ _)
      | (with_reducible exact line_Put.mono _ _)
      | (with_reducible exact line_Take.mono _ _)
      | (with_reducible exact LeO.refl _)
      | (with_reducible exact LeO.none _)
      | (with_reducible refine LeO.ite ?_ ?_)
      | (with_reducible refine LeO.bind ?_ (fun _ => ?_))
      | exact ih0 _ _ _
      | exact ih1 _ _ _ _ _
      | exact diptychlaw27_awake.mono _
      | exact diptychlaw27_few.mono _ _
      | exact diptychref11_Texts.mono _ _ _
      | exact diptychref27_Put.mono _ _
      | exact diptychref27_Take.mono _ _
      | exact line_Put.mono _ _
      | exact line_Take.mono _ _
      | exact LeO.none _
      | refine LeO.ite ?_ ?_
      | refine LeO.bind ?_ (fun _ => ?_)
    · intro y0 y1 y2 y3 y4
      unfold diptychlaw27_LineTexts.j1
      repeat' first
      | (with_reducible exact ih0 _ _ _)
      | (with_reducible exact ih1 _ _ _ _ _)
      | (with_reducible exact diptychlaw27_awake.mono _)
      | (with_reducible exact diptychlaw27_few.mono _ _)
      | (with_reducible exact diptychref11_Texts.mono _ _ _)
      | (with_reducible exact diptychref27_Put.mono _ _)
      | (with_reducible exact diptychref27_Take.mono _ _)
      | (with_reducible exact line_Put.mono _ _)
      | (with_reducible exact line_Take.mono _ _)
      | (with_reducible exact LeO.refl _)
      | (with_reducible exact LeO.none _)
      | (with_reducible refine LeO.ite ?_ ?_)
      | (with_reducible refine LeO.bind ?_ (fun _ => ?_))
      | exact ih0 _ _ _
      | exact ih1 _ _ _ _ _
      | exact diptychlaw27_awake.mono _
      | exact diptychlaw27_few.mono _ _
      | exact diptychref11_Texts.mono _ _ _
      | exact diptychref27_Put.mono _ _
      | exact diptychref27_Take.mono _ _
      | exact line_Put.mono _ _
      | exact line_Take.mono _ _
      | exact LeO.none _
      | refine LeO.ite ?_ ?_
      | refine LeO.bind ?_ (fun _ => ?_)
theorem diptychlaw27_LineTexts.mono : ∀ a0 a1 k, LeO (diptychlaw27_LineTexts.f k a0 a1) (diptychlaw27_LineTexts.f (k + 1) a0 a1) := by
  intro a0 a1 k
  obtain ⟨ih0, ih1⟩ := diptychlaw27_LineTexts.mono_l k
  unfold diptychlaw27_LineTexts.f
  repeat' first
      | (with_reducible exact ih0 _ _ _)
      | (with_reducible exact ih1 _ _ _ _ _)
      | (with_reducible exact diptychlaw27_awake.mono _)
      | (with_reducible exact diptychlaw27_few.mono _ _)
      | (with_reducible exact diptychref11_Texts.mono _ _ _)
      | (with_reducible exact diptychref27_Put.mono _ _)
      | (with_reducible exact diptychref27_Take.mono _ _)
      | (with_reducible exact line_Put.mono _ _)
      | (with_reducible exact line_Take.mono _ _)
      | (with_reducible exact LeO.refl _)
      | (with_reducible exact LeO.none _)
      | (with_reducible refine LeO.ite ?_ ?_)
      | (with_reducible refine LeO.bind ?_ (fun _ => ?_))
      | exact ih0 _ _ _
      | exact ih1 _ _ _ _ _
      | exact diptychlaw27_awake.mono _
      | exact diptychlaw27_few.mono _ _
      | exact diptychref11_Texts.mono _ _ _
      | exact diptychref27_Put.mono _ _
      | exact diptychref27_Take.mono _ _
      | exact line_Put.mono _ _
      | exact line_Take.mono _ _
      | exact LeO.none _
      | refine LeO.ite ?_ ?_
      | refine LeO.bind ?_ (fun _ => ?_)
set_option maxHeartbeats 8000000 in
set_option maxRecDepth 100000 in
theorem diptychlaw27_LineTexts.calls (k : Nat) (A0 : Option Addr) (c0 : Nat) (l0 : List ByteArray) (a1 : ByteArray) (r : Bool) (w : World) (hr0 : Kd.C Kd.string w A0 l0.length l0) (hc0 : l0.length ≤ c0) (hG : Gd w) (h : diptychlaw27_LineTexts.f k l0 a1 = some r) :
    Calls Tryd.prog 3 #[.slice A0 l0.length c0, .string a1] w fun e w' => e = .returned (.bool r) ∧ Below w.heap.size w w' := by
  have HR0 := Aside0.mk hr0
  have HC0 := Aside0.mk hc0
  clear hr0 hc0
  have HB := Aside0.mk (Below.refl w.heap.size w)
  have HG := Aside0.mk hG
  clear hG
  have H : ((diptychlaw27_awake.f k).bind fun t233 => (if t233 = true then ((diptychlaw27_few.f k l0).bind fun t234 => (if t234 = true then (diptychlaw27_LineTexts.j0 k l0 a1 (decide ((a1.size : Int) > 10000))) else (diptychlaw27_LineTexts.j0 k l0 a1 true))) else (some false))) = some r := h
  clear h
  replace H := Option.bind_eq_some_iff.mp H
  obtain ⟨t233, A30, H⟩ := H
  replace H : (if t233 = true then ((diptychlaw27_few.f k l0).bind fun t234 => (if t234 = true then (diptychlaw27_LineTexts.j0 k l0 a1 (decide ((a1.size : Int) > 10000))) else (diptychlaw27_LineTexts.j0 k l0 a1 true))) else (some false)) = some r := H
  have A3 := Aside0.mk A30
  clear A30
  by_cases c4 : t233 = true
  · subst c4
    have H1 : ((diptychlaw27_few.f k l0).bind fun t234 => (if t234 = true then (diptychlaw27_LineTexts.j0 k l0 a1 (decide ((a1.size : Int) > 10000))) else (diptychlaw27_LineTexts.j0 k l0 a1 true))) = some r := by rw [if_pos rfl] at H; exact H
    clear H
    have H := H1
    clear H1
    have HC5 := Aside0.mk H
    clear H
    go_enter Tryd.func3, Tryd.ntmps3
    go_upto_region 3 with (first | ((with_reducible refine gate_callee (f := 7) rfl ?_); refine goesL_ (some 18) rfl rfl Tryd.func7 (by kernel_rfl) rfl #[] rfl (by (try simp only [List.map_toArray, List.map_cons, List.map_nil]); first | done | rfl | (simp only [List.length_drop, List.length_take]; rfl)) ?_; (with_reducible refine (diptychlaw27_awake.calls k  true _ ?side1 A3.out).mono ?_); (case side1 => exact Gd_below HG.out (by repeat (first | (with_reducible first | exact HB.out | apply below_alloc | apply pw_below_drewN | apply below_drew1) | exact HB.out))); rintro e w6 ⟨rfl, hb⟩; refine ⟨_, rfl, ?_⟩; have n0_ := Aside0.mk (below_step (by repeat (first | (with_reducible first | exact HB.out | apply below_alloc | apply pw_below_drewN | apply below_drew1) | exact HB.out)) hb); clear HB; have HB := n0_; clear n0_; (try clear hb); (try clear hb2); (try clear hk); (try clear hi)))
    (try simp only [Act.put, List.setIfInBounds_toArray, List.set_cons_zero, List.set_cons_succ])
    go_cut [27] (fun v27 wc => ∃ (kq : Nat) (x27_4 : Bool), v27 = .bool x27_4 ∧ Aside0 (diptychlaw27_LineTexts.j0 kq l0 a1 x27_4 = some r) ∧ Aside0 (kq ≤ k) ∧ Aside0 (Below w.heap.size w wc))
    case first =>
      have H := HC5.out
      clear HC5
      replace H := Option.bind_eq_some_iff.mp H
      obtain ⟨t234, A70, H⟩ := H
      replace H : (if t234 = true then (diptychlaw27_LineTexts.j0 k l0 a1 (decide ((a1.size : Int) > 10000))) else (diptychlaw27_LineTexts.j0 k l0 a1 true)) = some r := H
      have A7 := Aside0.mk A70
      clear A70
      by_cases c8 : t234 = true
      · subst c8
        have H1 : (diptychlaw27_LineTexts.j0 k l0 a1 (decide ((a1.size : Int) > 10000))) = some r := by rw [if_pos rfl] at H; exact H
        clear H
        have H := H1
        clear H1
        have H' := Aside0.mk H
        clear H
        go_wp2_with (first | (go_at_call 8; (with_reducible refine (diptychlaw27_few.calls k _ _ l0 true _ ?side1 ?side2 A7.out).mono ?_); (case side1 => repeat (first | exact (Kd.C_below HR0.out HB.out) | (with_reducible refine Kd.C_alloc ?_ _) | (with_reducible refine Kd.C_drewN ?_ _) | (with_reducible refine Kd.C_drew ?_))); (case side2 => exact HC0.out); rintro e w9 ⟨rfl, hb⟩; have n0_ := Aside0.mk (below_step (by repeat (first | (with_reducible first | exact HB.out | apply below_alloc | apply pw_below_drewN | apply below_drew1) | exact HB.out)) hb); clear HB; have HB := n0_; clear n0_; (try clear hb); (try clear hb2); (try clear hk); (try clear hi)))
        go_meet
        case rel => exact ⟨_, (decide ((a1.size : Int) > 10000)), (by first | rfl | (simp; done) | (simp [*]; done)), H', ⟨by first | omega | exact Nat.le_refl _⟩, ⟨by repeat (first | (with_reducible first | exact HB.out | apply below_alloc | apply pw_below_drewN | apply below_drew1) | exact HB.out)⟩⟩
      · replace c8 := Bool.eq_false_iff.mpr c8
        subst c8
        have H1 : (diptychlaw27_LineTexts.j0 k l0 a1 true) = some r := by rw [if_neg (show ¬ (false = true) by decide)] at H; exact H
        clear H
        have H := H1
        clear H1
        have H' := Aside0.mk H
        clear H
        go_wp2_with (first | (go_at_call 8; (with_reducible refine (diptychlaw27_few.calls k _ _ l0 false _ ?side1 ?side2 A7.out).mono ?_); (case side1 => repeat (first | exact (Kd.C_below HR0.out HB.out) | (with_reducible refine Kd.C_alloc ?_ _) | (with_reducible refine Kd.C_drewN ?_ _) | (with_reducible refine Kd.C_drew ?_))); (case side2 => exact HC0.out); rintro e w10 ⟨rfl, hb⟩; have n0_ := Aside0.mk (below_step (by repeat (first | (with_reducible first | exact HB.out | apply below_alloc | apply pw_below_drewN | apply below_drew1) | exact HB.out)) hb); clear HB; have HB := n0_; clear n0_; (try clear hb); (try clear hb2); (try clear hk); (try clear hi)))
        go_meet
        case rel => exact ⟨_, (true), (by first | rfl | (simp; done) | (simp [*]; done)), H', ⟨by first | omega | exact Nat.le_refl _⟩, ⟨by repeat (first | (with_reducible first | exact HB.out | apply below_alloc | apply pw_below_drewN | apply below_drew1) | exact HB.out)⟩⟩
    case rest =>
      clear HC5
      try clear p2
      try clear c3
      try clear c4
      try clear c7
      try clear c8
      obtain ⟨kq, x27_4, rfl, HA, HJ4, HB⟩ := hcut
      cases kq with
      | zero => exact absurd HA.out (by simp [diptychlaw27_LineTexts.j0])
      | succ kj4 =>
        have H := HA.out
        clear HA
        simp only [diptychlaw27_LineTexts.j0] at H
        by_cases c11 : x27_4 = true
        · subst c11
          have H1 : (some true) = some r := by rw [if_pos rfl] at H; exact H
          clear H
          have H := H1
          clear H1
          obtain rfl := Option.some.inj H
          go_wp2
          go_ret
          exact ⟨by first | rfl | (simp [errW_none, errW_some] <;> rfl) | (simp [*, errW_none, errW_some] <;> rfl), by repeat (first | (with_reducible first | exact HB.out | apply below_alloc | apply pw_below_drewN | apply below_drew1) | exact HB.out)⟩
        · replace c11 := Bool.eq_false_iff.mpr c11
          subst c11
          have H1 : ((some (([] : List ByteArray) : List ByteArray)).bind fun y235 => (if y235.length + l0.length < 8796093022208 then ((line_Put.f kj4 (y235 ++ l0)).bind fun bt241 => ((diptychref27_Put.f kj4 l0).bind fun bt243 => ((line_Take.f kj4 a1).bind fun bt245 => ((diptychref27_Take.f kj4 a1).bind fun bt250 => (if bt241.1.toList = bt243.1.toList then (if bt241.2 = bt243.2 then ((diptychref11_Texts.f kj4 bt245.1 bt250.1).bind fun t255 => (if t255 = true then (if bt245.2.1.toList = bt250.2.1.toList then (diptychlaw27_LineTexts.j1 kj4 l0 a1 bt241.1 bt241.2 (bt245.2.2 != bt250.2.2)) else (diptychlaw27_LineTexts.j1 kj4 l0 a1 bt241.1 bt241.2 true)) else (diptychlaw27_LineTexts.j1 kj4 l0 a1 bt241.1 bt241.2 true))) else (diptychlaw27_LineTexts.j1 kj4 l0 a1 bt241.1 bt241.2 true)) else (diptychlaw27_LineTexts.j1 kj4 l0 a1 bt241.1 bt241.2 true)))))) else (none))) = some r := by rw [if_neg (show ¬ (false = true) by decide)] at H; exact H
          clear H
          have H := H1
          clear H1
          obtain ⟨y235, hy235⟩ : ∃ y_ : List ByteArray, y_ = (([] : List ByteArray)) := ⟨_, rfl⟩
          replace H : (if y235.length + l0.length < 8796093022208 then ((line_Put.f kj4 (y235 ++ l0)).bind fun bt241 => ((diptychref27_Put.f kj4 l0).bind fun bt243 => ((line_Take.f kj4 a1).bind fun bt245 => ((diptychref27_Take.f kj4 a1).bind fun bt250 => (if bt241.1.toList = bt243.1.toList then (if bt241.2 = bt243.2 then ((diptychref11_Texts.f kj4 bt245.1 bt250.1).bind fun t255 => (if t255 = true then (if bt245.2.1.toList = bt250.2.1.toList then (diptychlaw27_LineTexts.j1 kj4 l0 a1 bt241.1 bt241.2 (bt245.2.2 != bt250.2.2)) else (diptychlaw27_LineTexts.j1 kj4 l0 a1 bt241.1 bt241.2 true)) else (diptychlaw27_LineTexts.j1 kj4 l0 a1 bt241.1 bt241.2 true))) else (diptychlaw27_LineTexts.j1 kj4 l0 a1 bt241.1 bt241.2 true)) else (diptychlaw27_LineTexts.j1 kj4 l0 a1 bt241.1 bt241.2 true)))))) else (none)) = some r := by first | (rw [hy235]; with_reducible exact H) | (have H2_ := (Option.bind_some _ _).symm.trans H; rw [hy235]; with_reducible exact H2_) | (have H2_ := (Option.bind_some _ _).symm.trans H; with_reducible exact H2_) | with_reducible exact H | (rw [hy235]; exact H) | exact H
          have Ny235 := Aside0.mk hy235
          clear hy235
          by_cases c12 : y235.length + l0.length < 8796093022208
          · rw [if_pos c12] at H
            have LMc12 := Aside0.mk c12
            clear c12
            obtain ⟨y238, hy238⟩ : ∃ y_ : List ByteArray, y_ = (y235 ++ l0) := ⟨_, rfl⟩
            replace H : ((line_Put.f kj4 y238).bind fun bt241 => ((diptychref27_Put.f kj4 l0).bind fun bt243 => ((line_Take.f kj4 a1).bind fun bt245 => ((diptychref27_Take.f kj4 a1).bind fun bt250 => (if bt241.1.toList = bt243.1.toList then (if bt241.2 = bt243.2 then ((diptychref11_Texts.f kj4 bt245.1 bt250.1).bind fun t255 => (if t255 = true then (if bt245.2.1.toList = bt250.2.1.toList then (diptychlaw27_LineTexts.j1 kj4 l0 a1 bt241.1 bt241.2 (bt245.2.2 != bt250.2.2)) else (diptychlaw27_LineTexts.j1 kj4 l0 a1 bt241.1 bt241.2 true)) else (diptychlaw27_LineTexts.j1 kj4 l0 a1 bt241.1 bt241.2 true))) else (diptychlaw27_LineTexts.j1 kj4 l0 a1 bt241.1 bt241.2 true)) else (diptychlaw27_LineTexts.j1 kj4 l0 a1 bt241.1 bt241.2 true)))))) = some r := by first | (rw [hy238]; with_reducible exact H) | (have H2_ := (Option.bind_some _ _).symm.trans H; rw [hy238]; with_reducible exact H2_) | (have H2_ := (Option.bind_some _ _).symm.trans H; with_reducible exact H2_) | with_reducible exact H | (rw [hy238]; exact H) | exact H
            have Ny238 := Aside0.mk hy238
            clear hy238
            replace H := Option.bind_eq_some_iff.mp H
            obtain ⟨⟨t241, t242⟩, A130, H⟩ := H
            replace H : ((diptychref27_Put.f kj4 l0).bind fun bt243 => ((line_Take.f kj4 a1).bind fun bt245 => ((diptychref27_Take.f kj4 a1).bind fun bt250 => (if t241.toList = bt243.1.toList then (if t242 = bt243.2 then ((diptychref11_Texts.f kj4 bt245.1 bt250.1).bind fun t255 => (if t255 = true then (if bt245.2.1.toList = bt250.2.1.toList then (diptychlaw27_LineTexts.j1 kj4 l0 a1 t241 t242 (bt245.2.2 != bt250.2.2)) else (diptychlaw27_LineTexts.j1 kj4 l0 a1 t241 t242 true)) else (diptychlaw27_LineTexts.j1 kj4 l0 a1 t241 t242 true))) else (diptychlaw27_LineTexts.j1 kj4 l0 a1 t241 t242 true)) else (diptychlaw27_LineTexts.j1 kj4 l0 a1 t241 t242 true))))) = some r := H
            have A13 := Aside0.mk A130
            clear A130
            replace H := Option.bind_eq_some_iff.mp H
            obtain ⟨⟨t243, t244⟩, A140, H⟩ := H
            replace H : ((line_Take.f kj4 a1).bind fun bt245 => ((diptychref27_Take.f kj4 a1).bind fun bt250 => (if t241.toList = t243.toList then (if t242 = t244 then ((diptychref11_Texts.f kj4 bt245.1 bt250.1).bind fun t255 => (if t255 = true then (if bt245.2.1.toList = bt250.2.1.toList then (diptychlaw27_LineTexts.j1 kj4 l0 a1 t241 t242 (bt245.2.2 != bt250.2.2)) else (diptychlaw27_LineTexts.j1 kj4 l0 a1 t241 t242 true)) else (diptychlaw27_LineTexts.j1 kj4 l0 a1 t241 t242 true))) else (diptychlaw27_LineTexts.j1 kj4 l0 a1 t241 t242 true)) else (diptychlaw27_LineTexts.j1 kj4 l0 a1 t241 t242 true)))) = some r := H
            have A14 := Aside0.mk A140
            clear A140
            replace H := Option.bind_eq_some_iff.mp H
            obtain ⟨⟨t245, t246, t247⟩, A150, H⟩ := H
            replace H : ((diptychref27_Take.f kj4 a1).bind fun bt250 => (if t241.toList = t243.toList then (if t242 = t244 then ((diptychref11_Texts.f kj4 t245 bt250.1).bind fun t255 => (if t255 = true then (if t246.toList = bt250.2.1.toList then (diptychlaw27_LineTexts.j1 kj4 l0 a1 t241 t242 (t247 != bt250.2.2)) else (diptychlaw27_LineTexts.j1 kj4 l0 a1 t241 t242 true)) else (diptychlaw27_LineTexts.j1 kj4 l0 a1 t241 t242 true))) else (diptychlaw27_LineTexts.j1 kj4 l0 a1 t241 t242 true)) else (diptychlaw27_LineTexts.j1 kj4 l0 a1 t241 t242 true))) = some r := H
            have A15 := Aside0.mk A150
            clear A150
            replace H := Option.bind_eq_some_iff.mp H
            obtain ⟨⟨t250, t251, t252⟩, A160, H⟩ := H
            replace H : (if t241.toList = t243.toList then (if t242 = t244 then ((diptychref11_Texts.f kj4 t245 t250).bind fun t255 => (if t255 = true then (if t246.toList = t251.toList then (diptychlaw27_LineTexts.j1 kj4 l0 a1 t241 t242 (t247 != t252)) else (diptychlaw27_LineTexts.j1 kj4 l0 a1 t241 t242 true)) else (diptychlaw27_LineTexts.j1 kj4 l0 a1 t241 t242 true))) else (diptychlaw27_LineTexts.j1 kj4 l0 a1 t241 t242 true)) else (diptychlaw27_LineTexts.j1 kj4 l0 a1 t241 t242 true)) = some r := H
            have A16 := Aside0.mk A160
            clear A160
            have HC17 := Aside0.mk H
            clear H
            go_upto_region 9 with (first | ((with_reducible refine gate_dst (N := 29) rfl ?_); (try (refine gate_guard (by rfl) ?_; dsimp only)); refine Kd.R_lit Kd.string _ 9 ?hg (N := 29) ?hd (xs := ([] : List ByteArray)) (inner := []) (ok := fun _ => True) (okp := fun _ => True) ?hr ?hp (fun _ hk => hk) trivial (Below.refl _ _) (Nat.le_refl _) (by simp) ?_; (case hd => rfl); (case hg => rfl); (case hr => first | (go_simp; done) | (go_simp; rfl)); (case hp => exact (Reps.none _ _)); intro v236 w18 ho19 hb hg_ hnew_; clear hg_ hnew_; (first | rw [← Ny235.out] at ho19 | (simp only [Int.reduceToNat] at ho19; rw [← Ny235.out] at ho19)); have n0_ := Aside0.mk (Kd.R_lower ho19 (below_size (by repeat (first | (with_reducible first | exact HB.out | apply below_alloc | apply pw_below_drewN | apply below_drew1) | exact HB.out)))); have n1_ := Aside0.mk (below_step (by repeat (first | (with_reducible first | exact HB.out | apply below_alloc | apply pw_below_drewN | apply below_drew1) | exact HB.out)) hb); clear HB; have HO237 := n0_; have HB := n1_; clear n0_ n1_; clear hb ho19) | ((with_reducible refine gate_builtin (b := .append) (xs := #[.tmp 29, .tmp 30]) rfl ?_); (try (refine gate_guard (by rfl) ?_; dsimp only)); at_builtin; refine Kd.R_append_rows Kd.string (w0 := w) w.heap.size rfl (.tmp 29) (.tmp 30) 22 9 (.string ⟨#[]⟩) 16 rfl Tryd.underlying22 info9 rfl (by decide) (by omega) v236 y235 l0 _ _ _ (fun _ => True) (fun _ => False) rfl rfl ?aO ?aR (fun _ _ h => h) (fun _ h => h.elim) ?aF ?aB ?aS ?aL ?_; (case aR => repeat (first | exact (Kd.C_below HR0.out HB.out) | (with_reducible refine Kd.C_alloc ?_ _) | (with_reducible refine Kd.C_drewN ?_ _) | (with_reducible refine Kd.C_drew ?_))); (case aB => exact (by repeat (first | (with_reducible first | exact HB.out | apply below_alloc | apply pw_below_drewN | apply below_drew1) | exact HB.out))); (case aF => exact (fun _ _ => trivial)); (case aO => exact (by (with_reducible repeat (first | apply Kd.R_alloc | apply Kd.R_drewN | apply Kd.R_drew)); exact HO237.out)); (case aS => exact (below_size (by repeat (first | (with_reducible first | exact HB.out | apply below_alloc | apply pw_below_drewN | apply below_drew1) | exact HB.out)))); (case aL => have := LMc12.out; omega); intro v239 w20 ho hb hg hat; rw [← Ny238.out] at ho; have n0_ := Aside0.mk (hb); have n1_ := Aside0.mk (ho); clear HB; clear HO237; have HB := n0_; have HO240 := n1_; clear n0_ n1_; clear ho hb hg hat; obtain ⟨Ao21, co21, eo21⟩ := Kd.R_slice HO240.out; subst eo21) | ((with_reducible refine gate_callee (f := 9) rfl ?_); refine goesL_ (some 32) rfl rfl Tryd.func9 (by kernel_rfl) rfl #[.slice Ao21 y238.length co21] rfl (by (try simp only [List.map_toArray, List.map_cons, List.map_nil]); first | done | rfl | (simp only [List.length_drop, List.length_take]; rfl)) ?_; (with_reducible refine (line_Put.calls kj4 _ _ y238 t241 t242 _ ?side1 ?side2 A13.out).mono ?_); (case side1 => repeat (first | exact (Kd.R_reads' HO240.out).2.2 | (with_reducible refine Kd.C_alloc ?_ _) | (with_reducible refine Kd.C_drewN ?_ _) | (with_reducible refine Kd.C_drew ?_))); (case side2 => exact (Kd.R_reads' HO240.out).2.1); rintro e w22 ⟨rfl, hb⟩; refine ⟨_, rfl, ?_⟩; have n0_ := Aside0.mk (Kd.R_below (by (with_reducible repeat (first | apply Kd.R_alloc | apply Kd.R_drewN | apply Kd.R_drew)); exact HO240.out) hb); have n1_ := Aside0.mk (below_step (by repeat (first | (with_reducible first | exact HB.out | apply below_alloc | apply pw_below_drewN | apply below_drew1) | exact HB.out)) hb); clear HO240; clear HB; have HO240 := n0_; have HB := n1_; clear n0_ n1_; (try clear hb); (try clear hb2); (try clear hk); (try clear hi)) | ((with_reducible refine gate_callee (f := 10) rfl ?_); refine goesL_ (some 37) rfl rfl Tryd.func10 (by kernel_rfl) rfl #[.slice A0 l0.length c0] rfl (by (try simp only [List.map_toArray, List.map_cons, List.map_nil]); first | done | rfl | (simp only [List.length_drop, List.length_take]; rfl)) ?_; (with_reducible refine (diptychref27_Put.calls kj4 _ _ l0 t243 t244 _ ?side1 ?side2 A14.out).mono ?_); (case side1 => repeat (first | exact (Kd.C_below HR0.out HB.out) | (with_reducible refine Kd.C_alloc ?_ _) | (with_reducible refine Kd.C_drewN ?_ _) | (with_reducible refine Kd.C_drew ?_))); (case side2 => exact HC0.out); rintro e w23 ⟨rfl, hb⟩; refine ⟨_, rfl, ?_⟩; have n0_ := Aside0.mk (Kd.R_below (by (with_reducible repeat (first | apply Kd.R_alloc | apply Kd.R_drewN | apply Kd.R_drew)); exact HO240.out) hb); have n1_ := Aside0.mk (below_step (by repeat (first | (with_reducible first | exact HB.out | apply below_alloc | apply pw_below_drewN | apply below_drew1) | exact HB.out)) hb); clear HO240; clear HB; have HO240 := n0_; have HB := n1_; clear n0_ n1_; (try clear hb); (try clear hb2); (try clear hk); (try clear hi)) | ((with_reducible refine gate_callee (f := 11) rfl ?_); refine goesL_ (some 42) rfl rfl Tryd.func11 (by kernel_rfl) rfl #[.string a1] rfl (by (try simp only [List.map_toArray, List.map_cons, List.map_nil]); first | done | rfl | (simp only [List.length_drop, List.length_take]; rfl)) ?_; (with_reducible refine (line_Take.calls kj4 a1 t245 t246 t247 _ A15.out).mono ?_); rintro e w24 ⟨v248, rfl, ho0, hb⟩; refine ⟨_, rfl, ?_⟩; have n0_ := Aside0.mk (Kd.R_elder' (by (with_reducible repeat (first | apply Kd.R_alloc | apply Kd.R_drewN | apply Kd.R_drew)); exact HO240.out) (Kd.R_base ho0) hb); have n1_ := Aside0.mk (Kd.R_lower (Kd.R_new' ho0 (Kd.R_lt (by (with_reducible repeat (first | apply Kd.R_alloc | apply Kd.R_drewN | apply Kd.R_drew)); exact HO240.out))) (below_size (by repeat (first | (with_reducible first | exact HB.out | apply below_alloc | apply pw_below_drewN | apply below_drew1) | exact HB.out)))); have n2_ := Aside0.mk (below_step (by repeat (first | (with_reducible first | exact HB.out | apply below_alloc | apply pw_below_drewN | apply below_drew1) | exact HB.out)) hb); clear HO240; clear HB; have HO240 := n0_; have HO249 := n1_; have HB := n2_; clear n0_ n1_ n2_; (try clear hb); (try clear hb2); (try clear hk); (try clear hi); (try clear ho0)) | ((with_reducible refine gate_callee (f := 12) rfl ?_); refine goesL_ (some 48) rfl rfl Tryd.func12 (by kernel_rfl) rfl #[.string a1] rfl (by (try simp only [List.map_toArray, List.map_cons, List.map_nil]); first | done | rfl | (simp only [List.length_drop, List.length_take]; rfl)) ?_; (with_reducible refine (diptychref27_Take.calls kj4 a1 t250 t251 t252 _ A16.out).mono ?_); rintro e w25 ⟨v253, rfl, ho0, hb⟩; refine ⟨_, rfl, ?_⟩; have n0_ := Aside0.mk (Kd.R_elder' (by (with_reducible repeat (first | apply Kd.R_alloc | apply Kd.R_drewN | apply Kd.R_drew)); exact HO240.out) (Kd.R_base ho0) hb); have n1_ := Aside0.mk (Kd.R_elder' (by (with_reducible repeat (first | apply Kd.R_alloc | apply Kd.R_drewN | apply Kd.R_drew)); exact HO249.out) (Kd.R_base ho0) hb); have n2_ := Aside0.mk (Kd.R_lower (Kd.R_new' (Kd.R_new' ho0 (Kd.R_lt (by (with_reducible repeat (first | apply Kd.R_alloc | apply Kd.R_drewN | apply Kd.R_drew)); exact HO240.out))) (Kd.R_lt (by (with_reducible repeat (first | apply Kd.R_alloc | apply Kd.R_drewN | apply Kd.R_drew)); exact HO249.out))) (below_size (by repeat (first | (with_reducible first | exact HB.out | apply below_alloc | apply pw_below_drewN | apply below_drew1) | exact HB.out)))); have n3_ := Aside0.mk (below_step (by repeat (first | (with_reducible first | exact HB.out | apply below_alloc | apply pw_below_drewN | apply below_drew1) | exact HB.out)) hb); clear HO240; clear HO249; clear HB; have HO240 := n0_; have HO249 := n1_; have HO254 := n2_; have HB := n3_; clear n0_ n1_ n2_ n3_; (try clear hb); (try clear hb2); (try clear hk); (try clear hi); (try clear ho0)))
            (try simp only [Act.put, List.setIfInBounds_toArray, List.set_cons_zero, List.set_cons_succ])
            go_cut [75] (fun v75 wc => ∃ (kq : Nat) (x75_16 : Bool), v75 = .bool x75_16 ∧ Aside0 (diptychlaw27_LineTexts.j1 kq l0 a1 t241 t242 x75_16 = some r) ∧ Aside0 (kq ≤ kj4) ∧ Aside0 (Below w.heap.size w wc))
            case first =>
              have H := HC17.out
              clear HC17
              by_cases c26 : t241.toList = t243.toList
              · rw [if_pos c26] at H
                have c26b0 : (t241.toList == t243.toList) = true := beq_iff_eq.mpr c26
                have c26b1 : (t241.toList != t243.toList) = false := bne_eq_false_iff_eq.mpr c26
                clear c26
                (first | rw [c26b0] | (simp only [i64_w, i32_w]; rw [c26b0]) | skip)
                by_cases c27 : t242 = t244
                · rw [if_pos c27] at H
                  have c27b0 : (t242 == t244) = true := beq_iff_eq.mpr c27
                  have c27b1 : (t242 != t244) = false := bne_eq_false_iff_eq.mpr c27
                  clear c27
                  replace H := Option.bind_eq_some_iff.mp H
                  obtain ⟨t255, A280, H⟩ := H
                  replace H : (if t255 = true then (if t246.toList = t251.toList then (diptychlaw27_LineTexts.j1 kj4 l0 a1 t241 t242 (t247 != t252)) else (diptychlaw27_LineTexts.j1 kj4 l0 a1 t241 t242 true)) else (diptychlaw27_LineTexts.j1 kj4 l0 a1 t241 t242 true)) = some r := H
                  have A28 := Aside0.mk A280
                  clear A280
                  by_cases c29 : t255 = true
                  · subst c29
                    have H1 : (if t246.toList = t251.toList then (diptychlaw27_LineTexts.j1 kj4 l0 a1 t241 t242 (t247 != t252)) else (diptychlaw27_LineTexts.j1 kj4 l0 a1 t241 t242 true)) = some r := by rw [if_pos rfl] at H; exact H
                    clear H
                    have H := H1
                    clear H1
                    by_cases c30 : t246.toList = t251.toList
                    · rw [if_pos c30] at H
                      have c30b0 : (t246.toList == t251.toList) = true := beq_iff_eq.mpr c30
                      have c30b1 : (t246.toList != t251.toList) = false := bne_eq_false_iff_eq.mpr c30
                      clear c30
                      have H' := Aside0.mk H
                      clear H
                      obtain ⟨Ao31, co31, eo31⟩ := Kd.R_slice HO249.out
                      subst eo31
                      obtain ⟨Ao32, co32, eo32⟩ := Kd.R_slice HO254.out
                      subst eo32
                      go_wp2_with (first | (go_at_call 13; (with_reducible refine (diptychref11_Texts.calls kj4 _ _ t245 _ _ t250 true _ ?side1 ?side2 ?side3 ?side4 A28.out).mono ?_); (case side1 => repeat (first | exact (Kd.R_reads' HO249.out).2.2 | (with_reducible refine Kd.C_alloc ?_ _) | (with_reducible refine Kd.C_drewN ?_ _) | (with_reducible refine Kd.C_drew ?_))); (case side2 => exact (Kd.R_reads' HO249.out).2.1); (case side3 => repeat (first | exact (Kd.R_reads' HO254.out).2.2 | (with_reducible refine Kd.C_alloc ?_ _) | (with_reducible refine Kd.C_drewN ?_ _) | (with_reducible refine Kd.C_drew ?_))); (case side4 => exact (Kd.R_reads' HO254.out).2.1); rintro e w' ⟨rfl, ⟨nd, rfl⟩⟩))
                      go_meet
                      case rel => exact ⟨_, ((t247 != t252)), (by first | rfl | (simp; done) | (simp [*]; done)), H', ⟨by have := HJ4.out; first | omega | exact Nat.le_refl _⟩, ⟨by repeat (first | (with_reducible first | exact HB.out | apply below_alloc | apply pw_below_drewN | apply below_drew1) | exact HB.out)⟩⟩
                    · rw [if_neg c30] at H
                      have c30b0 : (t246.toList == t251.toList) = false := beq_eq_false_iff_ne.mpr c30
                      have c30b1 : (t246.toList != t251.toList) = true := bne_iff_ne.mpr c30
                      have H' := Aside0.mk H
                      clear H
                      obtain ⟨Ao33, co33, eo33⟩ := Kd.R_slice HO249.out
                      subst eo33
                      obtain ⟨Ao34, co34, eo34⟩ := Kd.R_slice HO254.out
                      subst eo34
                      go_wp2_with (first | (go_at_call 13; (with_reducible refine (diptychref11_Texts.calls kj4 _ _ t245 _ _ t250 true _ ?side1 ?side2 ?side3 ?side4 A28.out).mono ?_); (case side1 => repeat (first | exact (Kd.R_reads' HO249.out).2.2 | (with_reducible refine Kd.C_alloc ?_ _) | (with_reducible refine Kd.C_drewN ?_ _) | (with_reducible refine Kd.C_drew ?_))); (case side2 => exact (Kd.R_reads' HO249.out).2.1); (case side3 => repeat (first | exact (Kd.R_reads' HO254.out).2.2 | (with_reducible refine Kd.C_alloc ?_ _) | (with_reducible refine Kd.C_drewN ?_ _) | (with_reducible refine Kd.C_drew ?_))); (case side4 => exact (Kd.R_reads' HO254.out).2.1); rintro e w' ⟨rfl, ⟨nd, rfl⟩⟩))
                      go_meet
                      case rel => exact ⟨_, (true), (by first | rfl | (simp; done) | (simp [*]; done)), H', ⟨by have := HJ4.out; first | omega | exact Nat.le_refl _⟩, ⟨by repeat (first | (with_reducible first | exact HB.out | apply below_alloc | apply pw_below_drewN | apply below_drew1) | exact HB.out)⟩⟩
                  · replace c29 := Bool.eq_false_iff.mpr c29
                    subst c29
                    have H1 : (diptychlaw27_LineTexts.j1 kj4 l0 a1 t241 t242 true) = some r := by rw [if_neg (show ¬ (false = true) by decide)] at H; exact H
                    clear H
                    have H := H1
                    clear H1
                    have H' := Aside0.mk H
                    clear H
                    obtain ⟨Ao35, co35, eo35⟩ := Kd.R_slice HO249.out
                    subst eo35
                    obtain ⟨Ao36, co36, eo36⟩ := Kd.R_slice HO254.out
                    subst eo36
                    go_wp2_with (first | (go_at_call 13; (with_reducible refine (diptychref11_Texts.calls kj4 _ _ t245 _ _ t250 false _ ?side1 ?side2 ?side3 ?side4 A28.out).mono ?_); (case side1 => repeat (first | exact (Kd.R_reads' HO249.out).2.2 | (with_reducible refine Kd.C_alloc ?_ _) | (with_reducible refine Kd.C_drewN ?_ _) | (with_reducible refine Kd.C_drew ?_))); (case side2 => exact (Kd.R_reads' HO249.out).2.1); (case side3 => repeat (first | exact (Kd.R_reads' HO254.out).2.2 | (with_reducible refine Kd.C_alloc ?_ _) | (with_reducible refine Kd.C_drewN ?_ _) | (with_reducible refine Kd.C_drew ?_))); (case side4 => exact (Kd.R_reads' HO254.out).2.1); rintro e w' ⟨rfl, ⟨nd, rfl⟩⟩))
                    go_meet
                    case rel => exact ⟨_, (true), (by first | rfl | (simp; done) | (simp [*]; done)), H', ⟨by have := HJ4.out; first | omega | exact Nat.le_refl _⟩, ⟨by repeat (first | (with_reducible first | exact HB.out | apply below_alloc | apply pw_below_drewN | apply below_drew1) | exact HB.out)⟩⟩
                · rw [if_neg c27] at H
                  have c27b0 : (t242 == t244) = false := beq_eq_false_iff_ne.mpr c27
                  have c27b1 : (t242 != t244) = true := bne_iff_ne.mpr c27
                  have H' := Aside0.mk H
                  clear H
                  go_wp2
                  go_meet
                  case rel => exact ⟨_, (true), (by first | rfl | (simp; done) | (simp [*]; done)), H', ⟨by have := HJ4.out; first | omega | exact Nat.le_refl _⟩, ⟨by repeat (first | (with_reducible first | exact HB.out | apply below_alloc | apply pw_below_drewN | apply below_drew1) | exact HB.out)⟩⟩
              · rw [if_neg c26] at H
                have c26b0 : (t241.toList == t243.toList) = false := beq_eq_false_iff_ne.mpr c26
                have c26b1 : (t241.toList != t243.toList) = true := bne_iff_ne.mpr c26
                (first | rw [c26b0] | (simp only [i64_w, i32_w]; rw [c26b0]) | skip)
                have H' := Aside0.mk H
                clear H
                go_wp2
                go_meet
                case rel => exact ⟨_, (true), (by first | rfl | (simp; done) | (simp [*]; done)), H', ⟨by have := HJ4.out; first | omega | exact Nat.le_refl _⟩, ⟨by repeat (first | (with_reducible first | exact HB.out | apply below_alloc | apply pw_below_drewN | apply below_drew1) | exact HB.out)⟩⟩
            case rest =>
              clear HC17
              try clear c1
              try clear c2
              try clear p2
              try clear c3
              try clear c4
              try clear c7
              try clear c8
              try clear c9
              try clear c10
              try clear c11
              try clear c12
              try clear c26
              try clear c26b0
              try clear c26b1
              try clear c27
              try clear c27b0
              try clear c27b1
              try clear c29
              try clear c30
              try clear c30b0
              try clear c30b1
              try clear p2
              obtain ⟨kq, x75_16, rfl, HA, HJ16, HB⟩ := hcut
              cases kq with
              | zero => exact absurd HA.out (by simp [diptychlaw27_LineTexts.j1])
              | succ kj16 =>
                have H := HA.out
                clear HA
                simp only [diptychlaw27_LineTexts.j1] at H
                by_cases c37 : x75_16 = true
                · subst c37
                  have H1 : (some false) = some r := by rw [if_pos rfl] at H; exact H
                  clear H
                  have H := H1
                  clear H1
                  obtain rfl := Option.some.inj H
                  go_wp2
                  go_ret
                  exact ⟨by first | rfl | (simp [errW_none, errW_some] <;> rfl) | (simp [*, errW_none, errW_some] <;> rfl), by repeat (first | (with_reducible first | exact HB.out | apply below_alloc | apply pw_below_drewN | apply below_drew1) | exact HB.out)⟩
                · replace c37 := Bool.eq_false_iff.mpr c37
                  subst c37
                  have H1 : (if t242 = 0 then (if t241.size + a1.size ≤ 9223372036854775807 then ((line_Take.f kj16 (t241 ++ a1)).bind fun bt256 => (if bt256.2.2 = 0 then (if bt256.2.1.toList = a1.toList then ((diptychref11_Texts.f kj16 bt256.1 l0).bind fun t261 => (some t261)) else (some false)) else (some false))) else (none)) else (some true)) = some r := by rw [if_neg (show ¬ (false = true) by decide)] at H; exact H
                  clear H
                  have H := H1
                  clear H1
                  by_cases c38 : t242 = 0
                  · rw [if_pos c38] at H
                    have c38b0 : (t242 == 0) = true := beq_iff_eq.mpr c38
                    have c38b1 : (t242 != 0) = false := bne_eq_false_iff_eq.mpr c38
                    clear c38
                    by_cases c39 : t241.size + a1.size ≤ 9223372036854775807
                    · rw [if_pos c39] at H
                      have c39b0 := eq_true c39
                      have c39b1 : decide (t241.size + a1.size ≤ 9223372036854775807) = true := decide_eq_true c39
                      try have c39b2 : (9223372036854775807 < t241.size + a1.size) = False := eq_false (Nat.not_lt.2 c39)
                      replace H := Option.bind_eq_some_iff.mp H
                      obtain ⟨⟨t256, t257, t258⟩, A400, H⟩ := H
                      replace H : (if t258 = 0 then (if t257.toList = a1.toList then ((diptychref11_Texts.f kj16 t256 l0).bind fun t261 => (some t261)) else (some false)) else (some false)) = some r := H
                      have A40 := Aside0.mk A400
                      clear A400
                      by_cases c41 : t258 = 0
                      · rw [if_pos c41] at H
                        have c41b0 : (t258 == 0) = true := beq_iff_eq.mpr c41
                        have c41b1 : (t258 != 0) = false := bne_eq_false_iff_eq.mpr c41
                        clear c41
                        by_cases c42 : t257.toList = a1.toList
                        · rw [if_pos c42] at H
                          have c42b0 : (t257.toList == a1.toList) = true := beq_iff_eq.mpr c42
                          have c42b1 : (t257.toList != a1.toList) = false := bne_eq_false_iff_eq.mpr c42
                          clear c42
                          replace H := Option.bind_eq_some_iff.mp H
                          obtain ⟨t261, A430, H⟩ := H
                          replace H : (some t261) = some r := H
                          have A43 := Aside0.mk A430
                          clear A430
                          obtain rfl := Option.some.inj H
                          go_wp2_with (first | ((with_reducible refine gate_callee (f := 11) rfl ?_); refine goesL_ (some 82) rfl rfl Tryd.func11 (by kernel_rfl) rfl #[.string (t241 ++ a1)] rfl (by (try simp only [List.map_toArray, List.map_cons, List.map_nil]); first | done | rfl | (simp only [List.length_drop, List.length_take]; rfl)) ?_; (with_reducible refine (line_Take.calls kj16 (t241 ++ a1) t256 t257 t258 _ A40.out).mono ?_); rintro e w44 ⟨v259, rfl, ho0, hb⟩; refine ⟨_, rfl, ?_⟩; have n0_ := Aside0.mk (Kd.R_lower ho0 (below_size (by repeat (first | (with_reducible first | exact HB.out | apply below_alloc | apply pw_below_drewN | apply below_drew1) | exact HB.out)))); have n1_ := Aside0.mk (below_step (by repeat (first | (with_reducible first | exact HB.out | apply below_alloc | apply pw_below_drewN | apply below_drew1) | exact HB.out)) hb); clear HB; have HO260 := n0_; have HB := n1_; clear n0_ n1_; (try clear hb); (try clear hb2); (try clear hk); (try clear hi); (try clear ho0); obtain ⟨Ao45, co45, eo45⟩ := Kd.R_slice HO260.out; subst eo45) | (go_at_call 13; (with_reducible refine (diptychref11_Texts.calls kj16 _ _ t256 _ _ l0 t261 _ ?side1 ?side2 ?side3 ?side4 A43.out).mono ?_); (case side1 => repeat (first | exact (Kd.R_reads' HO260.out).2.2 | (with_reducible refine Kd.C_alloc ?_ _) | (with_reducible refine Kd.C_drewN ?_ _) | (with_reducible refine Kd.C_drew ?_))); (case side2 => exact (Kd.R_reads' HO260.out).2.1); (case side3 => repeat (first | exact (Kd.C_below HR0.out HB.out) | (with_reducible refine Kd.C_alloc ?_ _) | (with_reducible refine Kd.C_drewN ?_ _) | (with_reducible refine Kd.C_drew ?_))); (case side4 => exact HC0.out); rintro e w' ⟨rfl, ⟨nd, rfl⟩⟩))
                          go_ret
                          exact ⟨by first | rfl | (simp [errW_none, errW_some] <;> rfl) | (simp [*, errW_none, errW_some] <;> rfl), by repeat (first | (with_reducible first | exact HB.out | apply below_alloc | apply pw_below_drewN | apply below_drew1) | exact HB.out)⟩
                        · rw [if_neg c42] at H
                          have c42b0 : (t257.toList == a1.toList) = false := beq_eq_false_iff_ne.mpr c42
                          have c42b1 : (t257.toList != a1.toList) = true := bne_iff_ne.mpr c42
                          obtain rfl := Option.some.inj H
                          go_wp2_with (first | ((with_reducible refine gate_callee (f := 11) rfl ?_); refine goesL_ (some 82) rfl rfl Tryd.func11 (by kernel_rfl) rfl #[.string (t241 ++ a1)] rfl (by (try simp only [List.map_toArray, List.map_cons, List.map_nil]); first | done | rfl | (simp only [List.length_drop, List.length_take]; rfl)) ?_; (with_reducible refine (line_Take.calls kj16 (t241 ++ a1) t256 t257 t258 _ A40.out).mono ?_); rintro e w46 ⟨v259, rfl, ho0, hb⟩; refine ⟨_, rfl, ?_⟩; have n0_ := Aside0.mk (Kd.R_lower ho0 (below_size (by repeat (first | (with_reducible first | exact HB.out | apply below_alloc | apply pw_below_drewN | apply below_drew1) | exact HB.out)))); have n1_ := Aside0.mk (below_step (by repeat (first | (with_reducible first | exact HB.out | apply below_alloc | apply pw_below_drewN | apply below_drew1) | exact HB.out)) hb); clear HB; have HO260 := n0_; have HB := n1_; clear n0_ n1_; (try clear hb); (try clear hb2); (try clear hk); (try clear hi); (try clear ho0)))
                          go_ret
                          exact ⟨by first | rfl | (simp [errW_none, errW_some] <;> rfl) | (simp [*, errW_none, errW_some] <;> rfl), by repeat (first | (with_reducible first | exact HB.out | apply below_alloc | apply pw_below_drewN | apply below_drew1) | exact HB.out)⟩
                      · rw [if_neg c41] at H
                        have c41b0 : (t258 == 0) = false := beq_eq_false_iff_ne.mpr c41
                        have c41b1 : (t258 != 0) = true := bne_iff_ne.mpr c41
                        obtain rfl := Option.some.inj H
                        go_wp2_with (first | ((with_reducible refine gate_callee (f := 11) rfl ?_); refine goesL_ (some 82) rfl rfl Tryd.func11 (by kernel_rfl) rfl #[.string (t241 ++ a1)] rfl (by (try simp only [List.map_toArray, List.map_cons, List.map_nil]); first | done | rfl | (simp only [List.length_drop, List.length_take]; rfl)) ?_; (with_reducible refine (line_Take.calls kj16 (t241 ++ a1) t256 t257 t258 _ A40.out).mono ?_); rintro e w47 ⟨v259, rfl, ho0, hb⟩; refine ⟨_, rfl, ?_⟩; have n0_ := Aside0.mk (Kd.R_lower ho0 (below_size (by repeat (first | (with_reducible first | exact HB.out | apply below_alloc | apply pw_below_drewN | apply below_drew1) | exact HB.out)))); have n1_ := Aside0.mk (below_step (by repeat (first | (with_reducible first | exact HB.out | apply below_alloc | apply pw_below_drewN | apply below_drew1) | exact HB.out)) hb); clear HB; have HO260 := n0_; have HB := n1_; clear n0_ n1_; (try clear hb); (try clear hb2); (try clear hk); (try clear hi); (try clear ho0)))
                        go_ret
                        exact ⟨by first | rfl | (simp [errW_none, errW_some] <;> rfl) | (simp [*, errW_none, errW_some] <;> rfl), by repeat (first | (with_reducible first | exact HB.out | apply below_alloc | apply pw_below_drewN | apply below_drew1) | exact HB.out)⟩
                    · rw [if_neg c39] at H
                      exact absurd H (by simp)
                  · rw [if_neg c38] at H
                    have c38b0 : (t242 == 0) = false := beq_eq_false_iff_ne.mpr c38
                    have c38b1 : (t242 != 0) = true := bne_iff_ne.mpr c38
                    obtain rfl := Option.some.inj H
                    go_wp2
                    go_ret
                    exact ⟨by first | rfl | (simp [errW_none, errW_some] <;> rfl) | (simp [*, errW_none, errW_some] <;> rfl), by repeat (first | (with_reducible first | exact HB.out | apply below_alloc | apply pw_below_drewN | apply below_drew1) | exact HB.out)⟩
          · rw [if_neg c12] at H
            exact absurd H (by simp)
  · replace c4 := Bool.eq_false_iff.mpr c4
    subst c4
    have H1 : (some false) = some r := by rw [if_neg (show ¬ (false = true) by decide)] at H; exact H
    clear H
    have H := H1
    clear H1
    obtain rfl := Option.some.inj H
    go_enter Tryd.func3, Tryd.ntmps3
    go_wp2_with (first | ((with_reducible refine gate_callee (f := 7) rfl ?_); refine goesL_ (some 18) rfl rfl Tryd.func7 (by kernel_rfl) rfl #[] rfl (by (try simp only [List.map_toArray, List.map_cons, List.map_nil]); first | done | rfl | (simp only [List.length_drop, List.length_take]; rfl)) ?_; (with_reducible refine (diptychlaw27_awake.calls k  false _ ?side1 A3.out).mono ?_); (case side1 => exact Gd_below HG.out (by repeat (first | (with_reducible first | exact HB.out | apply below_alloc | apply pw_below_drewN | apply below_drew1) | exact HB.out))); rintro e w48 ⟨rfl, hb⟩; refine ⟨_, rfl, ?_⟩; have n0_ := Aside0.mk (below_step (by repeat (first | (with_reducible first | exact HB.out | apply below_alloc | apply pw_below_drewN | apply below_drew1) | exact HB.out)) hb); clear HB; have HB := n0_; clear n0_; (try clear hb); (try clear hb2); (try clear hk); (try clear hi)))
    go_ret
    exact ⟨by first | rfl | (simp [errW_none, errW_some] <;> rfl) | (simp [*, errW_none, errW_some] <;> rfl), by repeat (first | (with_reducible first | exact HB.out | apply below_alloc | apply pw_below_drewN | apply below_drew1) | exact HB.out)⟩

end Go.Proofs.YtgbfbfemmhfcaaaDoor.P
