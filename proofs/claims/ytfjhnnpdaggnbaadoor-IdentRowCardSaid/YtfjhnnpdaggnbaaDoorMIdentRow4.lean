/- Merged out of this session's texts by a program (wip/gen/merge.py): declarations that this claim doesn't name are left out. -/
import Derived.Test.YtfjhnnpdaggnbaaDoorMIdentRow3
import Derived.Lib.LaidTab
import Derived.Lib.SmallJoins
import Derived.Lib.ItoaLen
import Derived.Lib.AppendIntMem
import Derived.WalkSmall
import Derived.WalkSpells
import Derived.ProofKit
import Derived.OpenShut
import Derived.SliceStrings
import Derived.SizedLaws
import Derived.Test.YtfjhnnpdaggnbaaDoorRows
import Derived.Stop.LaidErr
import Derived.MakeChecks
set_option linter.unusedVariables false
set_option linter.unusedSimpArgs false
/-! I1 -/
section
namespace Go.Proofs.YtfjhnnpdaggnbaaDoor.Q
open Go.Joins Go.RowKit Go.Shelf Go.Proofs.YtfjhnnpdaggnbaaDoor.P Go.Proofs.YtfjhnnpdaggnbaaDoorW.PrintWords
set_option maxRecDepth 100000
def word (k : Int) : ByteArray := if k = 1 then ⟨#[98, 108, 111, 98]⟩ else if k = 2 then ⟨#[116, 114, 101, 101]⟩ else if k = 3 then ⟨#[99, 111, 109, 109, 105, 116]⟩ else if k = 4 then ⟨#[116, 97, 103]⟩ else ⟨#[]⟩
theorem word_size (k : Int) : (word k).size ≤ 6 := by
  unfold word
  repeat' split
  all_goals decide
theorem word_f (k : Int) : ident_Word.f k = some (word k) := by
  unfold ident_Word.f word
  by_cases h : k < 1
  · rw [if_pos h, if_neg (by omega), if_neg (by omega), if_neg (by omega), if_neg (by omega)]
  · rw [if_neg h]
    by_cases h2 : k > 4
    · rw [if_pos h2, if_neg (by omega), if_neg (by omega), if_neg (by omega), if_neg (by omega)]
    · rw [if_neg h2]
      rcases (by omega : k = 1 ∨ k = 2 ∨ k = 3 ∨ k = 4) with rfl | rfl | rfl | rfl <;> rfl
theorem Word.calls (k : Int) (w0 : World) : Calls Tryd.prog 14 #[.int .i64 k] w0 fun e w' => e = .returned (.string (word k)) ∧ Low w0 w' := ident_Word.calls k _ w0 (word_f k)
def nsize (s : Int) : Int := if s = 1 then 20 else if s = 2 then 32 else 0
theorem nsize_f (s : Int) : hexa_Size.f s = some (nsize s) := by
  unfold hexa_Size.f nsize
  repeat' split
  all_goals rfl
theorem Size.calls (s : Int) (w0 : World) : Calls Tryd.prog 20 #[.int .i64 s] w0 fun e w' => e = .returned (.int .i64 (nsize s)) ∧ Low w0 w' :=
  (hexa_Size.calls s _ w0 (nsize_f s)).mono fun _ _ ⟨e, h⟩ => ⟨e, h.below⟩
def itoaS (n : Nat) : ByteArray := ⟨(Lib.itoa (n : Int)).toArray⟩
theorem itoaS_size (n : Nat) (h : n ≤ 9223372036854775807) : (itoaS n).size ≤ 21 := by
  have := Lib.itoa_length_le (n : Int) (by omega) (by omega)
  show (Lib.itoa (n : Int)).toArray.size ≤ 21
  rw [List.size_toArray]
  exact this
/-- the table of powers of ten lies there -/
def Gd (w : World) : Prop := Lib.TabIs Tryd.prog w "internal/strconv.uint64pow10" .u64 Lib.pow10Tab
theorem Gd.low {w w' : World} (h : Gd w) (l : Low w w') : Gd w' := tab_stays (g := 0) (by kernel_rfl) h l (Nat.le_refl _)
theorem Itoa.calls (n : Nat) (hn : n ≤ 9223372036854775807) (w0 : World) (hG : Gd w0) : Calls Tryd.prog 25 #[.int .i64 (n : Int)] w0 fun e w' => e = .returned (.string (itoaS n)) ∧ Low w0 w' := by
  refine (Any.strconv_Itoa Tryd.laysM171 (n : Int) (by omega) (by omega) w0 hG).mono ?_
  rintro e w' ⟨rfl, k, os, rfl⟩
  exact ⟨rfl, Lib.below_grow _ w0 (Nat.le_refl _) k os⟩
theorem Digits.calls (k : Nat) (s r : ByteArray) (h : hexa_Digits.f k s = some r) (w0 : World) : Calls Tryd.prog 27 #[.string s] w0 fun e w' => e = .returned (.string r) ∧ Low w0 w' := hexa_Digits.calls k s r w0 h
theorem sz_sp : (⟨#[32]⟩ : ByteArray).size = 1 := rfl
theorem sz_z : (⟨#[0]⟩ : ByteArray).size = 1 := rfl
def rowS (k : Int) (c : ByteArray) : ByteArray := word k ++ ⟨#[32]⟩ ++ itoaS c.size ++ ⟨#[0]⟩ ++ c
theorem rowS_size (k : Int) (c : ByteArray) (h : c.size ≤ 9223372036854775807) : (rowS k c).size ≤ c.size + 29 := by
  have h1 := word_size k
  have h2 := itoaS_size c.size h
  unfold rowS
  simp only [ByteArray.size_append, sz_sp, sz_z]
  omega
/-- an object's row -/
def row (k : Int) (c : ByteArray) : ByteArray := if ((word k).toList == (⟨#[]⟩ : ByteArray).toList) = true then ⟨#[]⟩ else rowS k c
/-- an object's name, and its error -/
def marked (x : ByteArray) : Bool := mblk x ((fillL x).size / 64)
def idS (s k : Int) (c : ByteArray) : ByteArray × Int :=
  if ((word k).toList == (⟨#[]⟩ : ByteArray).toList) = true then (⟨#[]⟩, 4)
  else if decide (nsize s = 0) = true then (⟨#[]⟩, 1)
  else if decide ((c.size : Int) > 65536) = true then (⟨#[]⟩, 9)
  else if decide (s = 2) = true then (sumL2 (row k c), 0)
  else if marked (row k c) = true then (⟨#[]⟩, 10) else (sumL (row k c), 0)
theorem row_size (k : Int) (c : ByteArray) (h : c.size ≤ 9223372036854775807) : (row k c).size ≤ c.size + 29 := by
  unfold row
  split
  · show 0 ≤ _; omega
  · exact rowS_size k c h
def mkN (n : Int) (a : ByteArray) : ByteArray := if decide ((a.size : Int) ≠ n) = true then ⟨#[]⟩ else a
def mkE (n : Int) (a : ByteArray) : Int := if decide ((a.size : Int) ≠ n) = true then 3 else 0
def ofN (s k n : Int) (c : ByteArray) : ByteArray := if decide ((idS s k c).2 ≠ 0) = true then ⟨#[]⟩ else mkN n (idS s k c).1
def ofE (s k n : Int) (c : ByteArray) : Int := if decide ((idS s k c).2 ≠ 0) = true then (idS s k c).2 else mkE n (idS s k c).1
end Go.Proofs.YtfjhnnpdaggnbaaDoor.Q
end
/-! G3 -/
section
namespace Go.Proofs.YtfjhnnpdaggnbaaDoor.Q
open Go.Proofs.YtfjhnnpdaggnbaaDoorW.PrintWords (bytesOf bytesOf_length)
open Go.RowKit Go.Proofs.YtfjhnnpdaggnbaaDoor.P
set_option linter.unusedVariables false
set_option linter.unusedSimpArgs false
set_option maxRecDepth 100000
set_option maxHeartbeats 4000000
attribute [local irreducible] wpList wpQuiet qch Code.wp Oper.quiet Act.put At Region.wanted yielded
theorem sz24 : (Tryd.prog.info? 24).map (·.size) = some 1 := by kernel_rfl
theorem sz30 : (Tryd.prog.info? 30).map (·.size) = some 1 := by kernel_rfl
theorem sz29 : (Tryd.prog.info? 29).map (·.size) = some 0 := by kernel_rfl
theorem sz33 : (Tryd.prog.info? 33).map (·.size) = some 0 := by kernel_rfl
theorem zero24 : ∀ w, (zeroValue 24).run Tryd.prog w = .ok (.agg #[.string (⟨#[]⟩ : ByteArray)]) w := fun w => by kernel_rfl
theorem bN24 (s : ByteArray) : Tryd.prog.built 24 [(0, .string s)] = some #[.string s] := by kernel_rfl
theorem zero30 : ∀ w, (zeroValue 30).run Tryd.prog w = .ok (.agg #[.string (⟨#[]⟩ : ByteArray)]) w := fun w => by kernel_rfl
theorem bN30 (s : ByteArray) : Tryd.prog.built 30 [(0, .string s)] = some #[.string s] := by kernel_rfl
theorem zero29 : ∀ w, (zeroValue 29).run Tryd.prog w = .ok (.agg #[]) w := fun w => by kernel_rfl
theorem zero33 : ∀ w, (zeroValue 33).run Tryd.prog w = .ok (.agg #[]) w := fun w => by kernel_rfl
theorem NumbW.calls (w0 : World) : Calls Tryd.prog 96 #[.agg #[]] w0 fun e w' => e = .returned (.int .i64 2) ∧ Low w0 w' := by
  refine c_fun (R := _) Tryd.func96 rfl 3 rfl (Nat.le_of_ble_eq_true rfl) ?_
  intro a z hA
  have s0 := hA 0 _ rfl
  clear hA
  refine c_seq ?_
  refine c_region ?_
  refine l_box rfl rfl s0.ev ?_
  intro g1 w1 hg1 k1 h1
  have geg1 := Nat.le_trans (Low.refl _).ge hg1
  refine l_q rfl (q_assign _ _ rfl rfl ?_)
  refine l_end ?_
  refine e_fresh z.put.put ?_
  intro a2 z2 m2
  have low2 := h1
  clear m2
  refine e_then ?_
  refine c_seq ?_
  refine c_region ?_
  refine l_q rfl (q_assign _ _ rfl rfl ?_)
  refine l_end ?_
  refine e_fresh z2.put ?_
  intro a3 z3 m3
  have s2_3 := m3 _ _ (At.hit z2 rfl)
  clear m3
  refine e_then ?_
  refine wp_ret ?_
  refine r_tmp rfl z3.defers s2_3 ?_
  exact ⟨rfl, low2⟩
theorem NumberW.calls (w0 : World) : Calls Tryd.prog 21 #[] w0 fun e w' => e = .returned (.int .i64 2) ∧ Low w0 w' := by
  refine c_fun (R := _) Tryd.func21 rfl 5 rfl (Nat.le_of_ble_eq_true rfl) ?_
  intro a z hA
  clear hA
  refine c_seq ?_
  refine c_region ?_
  refine l_q rfl (q_assign _ _ rfl rfl ?_)
  refine l_end ?_
  refine e_fresh z.put ?_
  intro a1 z1 m1
  clear m1
  refine e_then ?_
  refine c_seq ?_
  refine c_region ?_
  refine l_alloc rfl rfl zero29 ?_
  intro g1 w2 hg2 k2 h2
  have geg1 := Nat.le_trans (Low.refl _).ge hg2
  refine l_end ?_
  refine e_fresh z1.put ?_
  intro a3 z3 m3
  have s1_3 := m3 _ _ (At.hit z1 rfl)
  have low3 := h2
  clear m3
  refine e_then ?_
  refine c_seq ?_
  refine c_region ?_
  refine l_q rfl (q_row rfl Tryd.underlying29 rfl (sz29.trans (congrArg some rfl.symm)) s1_3.ev (fun _ e => by rw [e]; exact k2) ?_)
  refine l_q rfl (q_iface rfl Tryd.underlying29 rfl (At.hit z3 rfl).ev ?_)
  refine l_invoke (fun v w' => v = .int .i64 2 ∧ Low w2 w') rfl rfl rfl (At.hit z3.put rfl).ev methW Tryd.func96 rfl ((NumbW.calls _).mono fun _ _ ⟨e, k⟩ => ⟨_, e, rfl, k⟩) ?_
  rintro _ w4 ⟨rfl, h4⟩
  have kg1_4 := h4.blk k2
  refine l_q rfl (q_assign _ _ rfl (At.hit z3.put.put rfl).ev ?_)
  refine l_end ?_
  refine e_fresh z3.put.put.put.put ?_
  intro a5 z5 m5
  have s0_5 := m5 _ _ (At.hit z3.put.put.put rfl)
  have low5 := (low3.trans h4)
  clear m5
  refine e_then ?_
  refine wp_ret ?_
  refine r_tmp rfl z5.defers s0_5 ?_
  exact ⟨rfl, low5⟩
theorem NumbN.calls (w0 : World) : Calls Tryd.prog 98 #[.agg #[]] w0 fun e w' => e = .returned (.int .i64 1) ∧ Low w0 w' := by
  refine c_fun (R := _) Tryd.func98 rfl 3 rfl (Nat.le_of_ble_eq_true rfl) ?_
  intro a z hA
  have s0 := hA 0 _ rfl
  clear hA
  refine c_seq ?_
  refine c_region ?_
  refine l_box rfl rfl s0.ev ?_
  intro g1 w1 hg1 k1 h1
  have geg1 := Nat.le_trans (Low.refl _).ge hg1
  refine l_q rfl (q_assign _ _ rfl rfl ?_)
  refine l_end ?_
  refine e_fresh z.put.put ?_
  intro a2 z2 m2
  have low2 := h1
  clear m2
  refine e_then ?_
  refine c_seq ?_
  refine c_region ?_
  refine l_q rfl (q_assign _ _ rfl rfl ?_)
  refine l_end ?_
  refine e_fresh z2.put ?_
  intro a3 z3 m3
  have s2_3 := m3 _ _ (At.hit z2 rfl)
  clear m3
  refine e_then ?_
  refine wp_ret ?_
  refine r_tmp rfl z3.defers s2_3 ?_
  exact ⟨rfl, low2⟩
theorem NumberN.calls (w0 : World) : Calls Tryd.prog 22 #[] w0 fun e w' => e = .returned (.int .i64 1) ∧ Low w0 w' := by
  refine c_fun (R := _) Tryd.func22 rfl 5 rfl (Nat.le_of_ble_eq_true rfl) ?_
  intro a z hA
  clear hA
  refine c_seq ?_
  refine c_region ?_
  refine l_q rfl (q_assign _ _ rfl rfl ?_)
  refine l_end ?_
  refine e_fresh z.put ?_
  intro a1 z1 m1
  clear m1
  refine e_then ?_
  refine c_seq ?_
  refine c_region ?_
  refine l_alloc rfl rfl zero33 ?_
  intro g1 w2 hg2 k2 h2
  have geg1 := Nat.le_trans (Low.refl _).ge hg2
  refine l_end ?_
  refine e_fresh z1.put ?_
  intro a3 z3 m3
  have s1_3 := m3 _ _ (At.hit z1 rfl)
  have low3 := h2
  clear m3
  refine e_then ?_
  refine c_seq ?_
  refine c_region ?_
  refine l_q rfl (q_row rfl Tryd.underlying33 rfl (sz33.trans (congrArg some rfl.symm)) s1_3.ev (fun _ e => by rw [e]; exact k2) ?_)
  refine l_q rfl (q_iface rfl Tryd.underlying33 rfl (At.hit z3 rfl).ev ?_)
  refine l_invoke (fun v w' => v = .int .i64 1 ∧ Low w2 w') rfl rfl rfl (At.hit z3.put rfl).ev methN Tryd.func98 rfl ((NumbN.calls _).mono fun _ _ ⟨e, k⟩ => ⟨_, e, rfl, k⟩) ?_
  rintro _ w4 ⟨rfl, h4⟩
  have kg1_4 := h4.blk k2
  refine l_q rfl (q_assign _ _ rfl (At.hit z3.put.put rfl).ev ?_)
  refine l_end ?_
  refine e_fresh z3.put.put.put.put ?_
  intro a5 z5 m5
  have s0_5 := m5 _ _ (At.hit z3.put.put.put rfl)
  have low5 := (low3.trans h4)
  clear m5
  refine e_then ?_
  refine wp_ret ?_
  refine r_tmp rfl z5.defers s0_5 ?_
  exact ⟨rfl, low5⟩
theorem MakeW.calls (y : ByteArray) (ha : y.size ≤ 140737488350000) (w0 : World) : Calls Tryd.prog 7 #[.string y] w0 fun e w' => e = .returned (.tuple #[.agg #[.string (mkN 32 y)], .int .i64 (mkE 32 y)]) ∧ Low w0 w' := by
  refine c_fun (R := _) Tryd.func7 rfl 12 rfl (Nat.le_of_ble_eq_true rfl) ?_
  intro a z hA
  have s0 := hA 0 _ rfl
  clear hA
  refine c_seq ?_
  refine c_region ?_
  refine l_alloc rfl rfl zero24 ?_
  intro g2 w1 hg1 k1 h1
  have geg2 := Nat.le_trans (Low.refl _).ge hg1
  refine l_q rfl (q_assign _ _ rfl rfl ?_)
  refine l_end ?_
  refine e_fresh z.put.put ?_
  intro a2 z2 m2
  have s0_2 := m2 _ _ ((s0.ne rfl).ne rfl)
  have s2_2 := m2 _ _ ((At.hit z rfl).ne rfl)
  have low2 := h1
  clear m2
  refine e_then ?_
  refine c_seq ?_
  refine c_seq ?_
  refine c_region ?_
  refine l_q rfl (q_move _ _ rfl s0_2.ev ?_)
  refine l_q rfl (q_len rfl rfl Tryd.underlying9 (At.hit z2 rfl).ev ?_)
  refine l_call (fun v w' => v = .int .i64 2 ∧ Low w1 w') rfl rfl rfl Tryd.func21 rfl (show Array.map _ _ = (#[] : Array Value) from by simp) ((NumberW.calls _).mono fun _ _ ⟨e, k⟩ => ⟨_, e, rfl, k⟩) ?_
  rintro _ w3 ⟨rfl, h3⟩
  have kg2_3 := h3.blk k1
  refine l_call (fun v w' => v = .int .i64 32 ∧ Low w3 w') rfl rfl rfl Tryd.func20 rfl (args1 rfl (At.hit z2.put.put rfl).ev) ((Size.calls 2 _).mono fun _ _ ⟨e, k⟩ => ⟨_, e, rfl, k⟩) ?_
  rintro _ w4 ⟨rfl, h4⟩
  have kg2_4 := h4.blk kg2_3
  refine l_q rfl (q_neq _ rfl (((At.hit z2.put rfl).ne rfl).ne rfl).ev (At.hit z2.put.put.put rfl).ev rfl ?_)
  refine l_end ?_
  refine e_fresh z2.put.put.put.put.put ?_
  intro a5 z5 m5
  have s0_5 := m5 _ _ (((((s0_2.ne rfl).ne rfl).ne rfl).ne rfl).ne rfl)
  have s2_5 := m5 _ _ (((((s2_2.ne rfl).ne rfl).ne rfl).ne rfl).ne rfl)
  have s8_5 := m5 _ _ (At.hit z2.put.put.put.put rfl)
  have low5 := ((low2.trans h3).trans h4)
  clear m5
  refine e_then ?_
  cases hc6 : decide (((y.size : Nat) : Int) ≠ 32) with
  | true =>
    have hs6 := s8_5.same (congrArg Value.bool hc6)
    refine c_true hs6 ?_
    refine c_seq ?_
    refine c_region ?_
    refine l_q rfl (q_build (cs := #[.string (⟨#[]⟩ : ByteArray)]) rfl rfl (by kernel_rfl) ?_)
    refine l_row rfl rfl rfl (sz24.trans (congrArg some rfl.symm)) (s2_5.ne rfl).ev (At.hit z5 rfl).ev (by simp [Value.oneCell']) kg2_4 (rfl.trans rfl.symm) ?_
    intro w7 k7 u7
    refine l_q rfl (q_assign _ _ rfl rfl ?_)
    refine l_end ?_
    refine e_fresh z5.put.put ?_
    intro a8 z8 m8
    have s2_8 := m8 _ _ ((s2_5.ne rfl).ne rfl)
    have s3_8 := m8 _ _ (At.hit z5.put rfl)
    have low8 := (low5.upd u7 geg2)
    clear m8
    refine e_then ?_
    refine wp_ret ?_
    refine ret_then ?_
    refine r_cell_tmp rfl z8.defers s2_8 s3_8 k7 Tryd.underlying24 rfl (sz24.trans (congrArg some rfl.symm)) ?_
    exact ⟨by unfold mkN mkE; rw [hc6]; rfl, low8⟩
  | false =>
    have hs6 := s8_5.same (congrArg Value.bool hc6)
    refine c_false hs6 ?_
    refine wp_skip ?_
    refine e_then ?_
    refine c_seq ?_
    refine c_region ?_
    refine l_q rfl (q_move _ _ rfl s0_5.ev ?_)
    refine l_q rfl (q_build rfl (parts1 (At.hit z5 rfl).ev) (bN24 _) ?_)
    refine l_row rfl rfl rfl (sz24.trans (congrArg some rfl.symm)) ((s2_5.ne rfl).ne rfl).ev (At.hit z5.put rfl).ev (by simp [Value.oneCell']) kg2_4 (rfl.trans rfl.symm) ?_
    intro w9 k9 u9
    refine l_q rfl (q_assign _ _ rfl rfl ?_)
    refine l_end ?_
    refine e_fresh z5.put.put.put ?_
    intro a10 z10 m10
    have s2_10 := m10 _ _ (((s2_5.ne rfl).ne rfl).ne rfl)
    have s3_10 := m10 _ _ (At.hit z5.put.put rfl)
    have low10 := (low5.upd u9 geg2)
    clear m10
    refine e_then ?_
    refine wp_ret ?_
    refine r_cell_tmp rfl z10.defers s2_10 s3_10 k9 Tryd.underlying24 rfl (sz24.trans (congrArg some rfl.symm)) ?_
    exact ⟨by unfold mkN mkE; rw [hc6]; rfl, low10⟩
theorem MakeN.calls (y : ByteArray) (ha : y.size ≤ 140737488350000) (w0 : World) : Calls Tryd.prog 8 #[.string y] w0 fun e w' => e = .returned (.tuple #[.agg #[.string (mkN 20 y)], .int .i64 (mkE 20 y)]) ∧ Low w0 w' := by
  refine c_fun (R := _) Tryd.func8 rfl 12 rfl (Nat.le_of_ble_eq_true rfl) ?_
  intro a z hA
  have s0 := hA 0 _ rfl
  clear hA
  refine c_seq ?_
  refine c_region ?_
  refine l_alloc rfl rfl zero30 ?_
  intro g2 w1 hg1 k1 h1
  have geg2 := Nat.le_trans (Low.refl _).ge hg1
  refine l_q rfl (q_assign _ _ rfl rfl ?_)
  refine l_end ?_
  refine e_fresh z.put.put ?_
  intro a2 z2 m2
  have s0_2 := m2 _ _ ((s0.ne rfl).ne rfl)
  have s2_2 := m2 _ _ ((At.hit z rfl).ne rfl)
  have low2 := h1
  clear m2
  refine e_then ?_
  refine c_seq ?_
  refine c_seq ?_
  refine c_region ?_
  refine l_q rfl (q_move _ _ rfl s0_2.ev ?_)
  refine l_q rfl (q_len rfl rfl Tryd.underlying9 (At.hit z2 rfl).ev ?_)
  refine l_call (fun v w' => v = .int .i64 1 ∧ Low w1 w') rfl rfl rfl Tryd.func22 rfl (show Array.map _ _ = (#[] : Array Value) from by simp) ((NumberN.calls _).mono fun _ _ ⟨e, k⟩ => ⟨_, e, rfl, k⟩) ?_
  rintro _ w3 ⟨rfl, h3⟩
  have kg2_3 := h3.blk k1
  refine l_call (fun v w' => v = .int .i64 20 ∧ Low w3 w') rfl rfl rfl Tryd.func20 rfl (args1 rfl (At.hit z2.put.put rfl).ev) ((Size.calls 1 _).mono fun _ _ ⟨e, k⟩ => ⟨_, e, rfl, k⟩) ?_
  rintro _ w4 ⟨rfl, h4⟩
  have kg2_4 := h4.blk kg2_3
  refine l_q rfl (q_neq _ rfl (((At.hit z2.put rfl).ne rfl).ne rfl).ev (At.hit z2.put.put.put rfl).ev rfl ?_)
  refine l_end ?_
  refine e_fresh z2.put.put.put.put.put ?_
  intro a5 z5 m5
  have s0_5 := m5 _ _ (((((s0_2.ne rfl).ne rfl).ne rfl).ne rfl).ne rfl)
  have s2_5 := m5 _ _ (((((s2_2.ne rfl).ne rfl).ne rfl).ne rfl).ne rfl)
  have s8_5 := m5 _ _ (At.hit z2.put.put.put.put rfl)
  have low5 := ((low2.trans h3).trans h4)
  clear m5
  refine e_then ?_
  cases hc6 : decide (((y.size : Nat) : Int) ≠ 20) with
  | true =>
    have hs6 := s8_5.same (congrArg Value.bool hc6)
    refine c_true hs6 ?_
    refine c_seq ?_
    refine c_region ?_
    refine l_q rfl (q_build (cs := #[.string (⟨#[]⟩ : ByteArray)]) rfl rfl (by kernel_rfl) ?_)
    refine l_row rfl rfl rfl (sz30.trans (congrArg some rfl.symm)) (s2_5.ne rfl).ev (At.hit z5 rfl).ev (by simp [Value.oneCell']) kg2_4 (rfl.trans rfl.symm) ?_
    intro w7 k7 u7
    refine l_q rfl (q_assign _ _ rfl rfl ?_)
    refine l_end ?_
    refine e_fresh z5.put.put ?_
    intro a8 z8 m8
    have s2_8 := m8 _ _ ((s2_5.ne rfl).ne rfl)
    have s3_8 := m8 _ _ (At.hit z5.put rfl)
    have low8 := (low5.upd u7 geg2)
    clear m8
    refine e_then ?_
    refine wp_ret ?_
    refine ret_then ?_
    refine r_cell_tmp rfl z8.defers s2_8 s3_8 k7 Tryd.underlying30 rfl (sz30.trans (congrArg some rfl.symm)) ?_
    exact ⟨by unfold mkN mkE; rw [hc6]; rfl, low8⟩
  | false =>
    have hs6 := s8_5.same (congrArg Value.bool hc6)
    refine c_false hs6 ?_
    refine wp_skip ?_
    refine e_then ?_
    refine c_seq ?_
    refine c_region ?_
    refine l_q rfl (q_move _ _ rfl s0_5.ev ?_)
    refine l_q rfl (q_build rfl (parts1 (At.hit z5 rfl).ev) (bN30 _) ?_)
    refine l_row rfl rfl rfl (sz30.trans (congrArg some rfl.symm)) ((s2_5.ne rfl).ne rfl).ev (At.hit z5.put rfl).ev (by simp [Value.oneCell']) kg2_4 (rfl.trans rfl.symm) ?_
    intro w9 k9 u9
    refine l_q rfl (q_assign _ _ rfl rfl ?_)
    refine l_end ?_
    refine e_fresh z5.put.put.put ?_
    intro a10 z10 m10
    have s2_10 := m10 _ _ (((s2_5.ne rfl).ne rfl).ne rfl)
    have s3_10 := m10 _ _ (At.hit z5.put.put rfl)
    have low10 := (low5.upd u9 geg2)
    clear m10
    refine e_then ?_
    refine wp_ret ?_
    refine r_cell_tmp rfl z10.defers s2_10 s3_10 k9 Tryd.underlying30 rfl (sz30.trans (congrArg some rfl.symm)) ?_
    exact ⟨by unfold mkN mkE; rw [hc6]; rfl, low10⟩
theorem BytesW.calls (y : ByteArray) (w0 : World) : Calls Tryd.prog 9 #[.agg #[.string y]] w0 fun e w' => e = .returned (.string y) ∧ Low w0 w' := by
  refine c_fun (R := _) Tryd.func9 rfl 5 rfl (Nat.le_of_ble_eq_true rfl) ?_
  intro a z hA
  have s0 := hA 0 _ rfl
  clear hA
  refine c_seq ?_
  refine c_region ?_
  refine l_box rfl rfl s0.ev ?_
  intro g1 w1 hg1 k1 h1
  have geg1 := Nat.le_trans (Low.refl _).ge hg1
  refine l_q rfl (q_assign _ _ rfl rfl ?_)
  refine l_end ?_
  refine e_fresh z.put.put ?_
  intro a2 z2 m2
  have s1_2 := m2 _ _ ((At.hit z rfl).ne rfl)
  have low2 := h1
  clear m2
  refine e_then ?_
  refine c_seq ?_
  refine c_region ?_
  refine l_q rfl (q_fld 0 rfl (by kernel_rfl) s1_2.ev ?_)
  refine l_q rfl (q_cellT (.string y) rfl Tryd.underlying9 (At.hit z2 rfl).ev (fun _ e => by rw [e]; exact (cells_at k1 0).trans rfl) ?_)
  refine l_q rfl (q_assign _ _ rfl (At.hit z2.put rfl).ev ?_)
  refine l_end ?_
  refine e_fresh z2.put.put.put ?_
  intro a3 z3 m3
  have s2_3 := m3 _ _ (At.hit z2.put.put rfl)
  clear m3
  refine e_then ?_
  refine wp_ret ?_
  refine r_tmp rfl z3.defers s2_3 ?_
  exact ⟨rfl, low2⟩
theorem DigitsW.calls (k : Nat) (y r : ByteArray) (h : hexa_Digits.f k y = some r) (w0 : World) : Calls Tryd.prog 18 #[.agg #[.string y]] w0 fun e w' => e = .returned (.string r) ∧ Low w0 w' := by
  refine c_fun (R := _) Tryd.func18 rfl 6 rfl (Nat.le_of_ble_eq_true rfl) ?_
  intro a z hA
  have s0 := hA 0 _ rfl
  clear hA
  refine c_seq ?_
  refine c_region ?_
  refine l_box rfl rfl s0.ev ?_
  intro g1 w1 hg1 k1 h1
  have geg1 := Nat.le_trans (Low.refl _).ge hg1
  refine l_q rfl (q_assign _ _ rfl rfl ?_)
  refine l_end ?_
  refine e_fresh z.put.put ?_
  intro a2 z2 m2
  have s1_2 := m2 _ _ ((At.hit z rfl).ne rfl)
  have low2 := h1
  clear m2
  refine e_then ?_
  refine c_seq ?_
  refine c_region ?_
  refine l_q rfl (q_fld 0 rfl (by kernel_rfl) s1_2.ev ?_)
  refine l_q rfl (q_cellT (.string y) rfl Tryd.underlying9 (At.hit z2 rfl).ev (fun _ e => by rw [e]; exact (cells_at k1 0).trans rfl) ?_)
  refine l_call (fun v w' => v = .string r ∧ Low w1 w') rfl rfl rfl Tryd.func27 rfl (args1 rfl (At.hit z2.put rfl).ev) ((Digits.calls k y r h _).mono fun _ _ ⟨e, k⟩ => ⟨_, e, rfl, k⟩) ?_
  rintro _ w3 ⟨rfl, h3⟩
  have kg1_3 := h3.blk k1
  refine l_q rfl (q_assign _ _ rfl (At.hit z2.put.put rfl).ev ?_)
  refine l_end ?_
  refine e_fresh z2.put.put.put.put ?_
  intro a4 z4 m4
  have s2_4 := m4 _ _ (At.hit z2.put.put.put rfl)
  have low4 := (low2.trans h3)
  clear m4
  refine e_then ?_
  refine wp_ret ?_
  refine r_tmp rfl z4.defers s2_4 ?_
  exact ⟨rfl, low4⟩
theorem BytesN.calls (y : ByteArray) (w0 : World) : Calls Tryd.prog 11 #[.agg #[.string y]] w0 fun e w' => e = .returned (.string y) ∧ Low w0 w' := by
  refine c_fun (R := _) Tryd.func11 rfl 5 rfl (Nat.le_of_ble_eq_true rfl) ?_
  intro a z hA
  have s0 := hA 0 _ rfl
  clear hA
  refine c_seq ?_
  refine c_region ?_
  refine l_box rfl rfl s0.ev ?_
  intro g1 w1 hg1 k1 h1
  have geg1 := Nat.le_trans (Low.refl _).ge hg1
  refine l_q rfl (q_assign _ _ rfl rfl ?_)
  refine l_end ?_
  refine e_fresh z.put.put ?_
  intro a2 z2 m2
  have s1_2 := m2 _ _ ((At.hit z rfl).ne rfl)
  have low2 := h1
  clear m2
  refine e_then ?_
  refine c_seq ?_
  refine c_region ?_
  refine l_q rfl (q_fld 0 rfl (by kernel_rfl) s1_2.ev ?_)
  refine l_q rfl (q_cellT (.string y) rfl Tryd.underlying9 (At.hit z2 rfl).ev (fun _ e => by rw [e]; exact (cells_at k1 0).trans rfl) ?_)
  refine l_q rfl (q_assign _ _ rfl (At.hit z2.put rfl).ev ?_)
  refine l_end ?_
  refine e_fresh z2.put.put.put ?_
  intro a3 z3 m3
  have s2_3 := m3 _ _ (At.hit z2.put.put rfl)
  clear m3
  refine e_then ?_
  refine wp_ret ?_
  refine r_tmp rfl z3.defers s2_3 ?_
  exact ⟨rfl, low2⟩
theorem DigitsN.calls (k : Nat) (y r : ByteArray) (h : hexa_Digits.f k y = some r) (w0 : World) : Calls Tryd.prog 17 #[.agg #[.string y]] w0 fun e w' => e = .returned (.string r) ∧ Low w0 w' := by
  refine c_fun (R := _) Tryd.func17 rfl 6 rfl (Nat.le_of_ble_eq_true rfl) ?_
  intro a z hA
  have s0 := hA 0 _ rfl
  clear hA
  refine c_seq ?_
  refine c_region ?_
  refine l_box rfl rfl s0.ev ?_
  intro g1 w1 hg1 k1 h1
  have geg1 := Nat.le_trans (Low.refl _).ge hg1
  refine l_q rfl (q_assign _ _ rfl rfl ?_)
  refine l_end ?_
  refine e_fresh z.put.put ?_
  intro a2 z2 m2
  have s1_2 := m2 _ _ ((At.hit z rfl).ne rfl)
  have low2 := h1
  clear m2
  refine e_then ?_
  refine c_seq ?_
  refine c_region ?_
  refine l_q rfl (q_fld 0 rfl (by kernel_rfl) s1_2.ev ?_)
  refine l_q rfl (q_cellT (.string y) rfl Tryd.underlying9 (At.hit z2 rfl).ev (fun _ e => by rw [e]; exact (cells_at k1 0).trans rfl) ?_)
  refine l_call (fun v w' => v = .string r ∧ Low w1 w') rfl rfl rfl Tryd.func27 rfl (args1 rfl (At.hit z2.put rfl).ev) ((Digits.calls k y r h _).mono fun _ _ ⟨e, k⟩ => ⟨_, e, rfl, k⟩) ?_
  rintro _ w3 ⟨rfl, h3⟩
  have kg1_3 := h3.blk k1
  refine l_q rfl (q_assign _ _ rfl (At.hit z2.put.put rfl).ev ?_)
  refine l_end ?_
  refine e_fresh z2.put.put.put.put ?_
  intro a4 z4 m4
  have s2_4 := m4 _ _ (At.hit z2.put.put.put rfl)
  have low4 := (low2.trans h3)
  clear m4
  refine e_then ?_
  refine wp_ret ?_
  refine r_tmp rfl z4.defers s2_4 ?_
  exact ⟨rfl, low4⟩
theorem ZeroW.calls (y : ByteArray) (w0 : World) : Calls Tryd.prog 10 #[.agg #[.string y]] w0 fun e w' => e = .returned (.bool (y.toList == (⟨#[]⟩ : ByteArray).toList)) ∧ Low w0 w' := by
  refine c_fun (R := _) Tryd.func10 rfl 6 rfl (Nat.le_of_ble_eq_true rfl) ?_
  intro a z hA
  have s0 := hA 0 _ rfl
  clear hA
  refine c_seq ?_
  refine c_region ?_
  refine l_box rfl rfl s0.ev ?_
  intro g1 w1 hg1 k1 h1
  have geg1 := Nat.le_trans (Low.refl _).ge hg1
  refine l_q rfl (q_assign _ _ rfl rfl ?_)
  refine l_end ?_
  refine e_fresh z.put.put ?_
  intro a2 z2 m2
  have s1_2 := m2 _ _ ((At.hit z rfl).ne rfl)
  have low2 := h1
  clear m2
  refine e_then ?_
  refine c_seq ?_
  refine c_region ?_
  refine l_q rfl (q_row rfl Tryd.underlying24 rfl (sz24.trans (congrArg some rfl.symm)) s1_2.ev (fun _ e => by rw [e]; exact k1) ?_)
  refine l_q rfl (q_build (cs := #[.string (⟨#[]⟩ : ByteArray)]) rfl rfl (by kernel_rfl) ?_)
  refine l_q rfl (q_eqS (y.toList == (⟨#[]⟩ : ByteArray).toList) rfl guardW ((At.hit z2 rfl).ne rfl).ev (At.hit z2.put rfl).ev (eqW 9998 y (⟨#[]⟩ : ByteArray)) rfl ?_)
  refine l_q rfl (q_assign _ _ rfl (At.hit z2.put.put rfl).ev ?_)
  refine l_end ?_
  refine e_fresh z2.put.put.put.put ?_
  intro a3 z3 m3
  have s2_3 := m3 _ _ (At.hit z2.put.put.put rfl)
  clear m3
  refine e_then ?_
  refine wp_ret ?_
  refine r_tmp rfl z3.defers s2_3 ?_
  exact ⟨rfl, low2⟩
theorem Row.calls (kind : Int) (c : ByteArray) (hc : c.size ≤ 140737488340000) (w0 : World) (hG : Gd w0) : Calls Tryd.prog 13 #[.int .i64 kind, .string c] w0 fun e w' => e = .returned (.string (row kind c)) ∧ Low w0 w' := by
  refine c_fun (R := _) Tryd.func13 rfl 18 rfl (Nat.le_of_ble_eq_true rfl) ?_
  intro a z hA
  have s0 := hA 0 _ rfl
  have s1 := hA 1 _ rfl
  clear hA
  refine c_seq ?_
  refine c_region ?_
  refine l_q rfl (q_assign _ _ rfl rfl ?_)
  refine l_end ?_
  refine e_fresh z.put ?_
  intro a1 z1 m1
  have s0_1 := m1 _ _ (s0.ne rfl)
  have s1_1 := m1 _ _ (s1.ne rfl)
  clear m1
  refine e_then ?_
  refine c_seq ?_
  refine c_seq ?_
  refine c_region ?_
  refine l_q rfl (q_move _ _ rfl s0_1.ev ?_)
  refine l_call (fun v w' => v = .string (word kind) ∧ Low w0 w') rfl rfl rfl Tryd.func14 rfl (args1 rfl (At.hit z1 rfl).ev) ((Word.calls kind _).mono fun _ _ ⟨e, k⟩ => ⟨_, e, rfl, k⟩) ?_
  rintro _ w2 ⟨rfl, h2⟩
  refine l_q rfl (q_streq ((word kind).toList == (⟨#[]⟩ : ByteArray).toList) rfl (At.hit z1.put rfl).ev rfl rfl ?_)
  refine l_end ?_
  refine e_fresh z1.put.put.put ?_
  intro a3 z3 m3
  have s0_3 := m3 _ _ (((s0_1.ne rfl).ne rfl).ne rfl)
  have s1_3 := m3 _ _ (((s1_1.ne rfl).ne rfl).ne rfl)
  have s7_3 := m3 _ _ (At.hit z1.put.put rfl)
  have low3 := h2
  clear m3
  refine e_then ?_
  cases hc4 : ((word kind).toList == (⟨#[]⟩ : ByteArray).toList) with
  | true =>
    have hs4 := s7_3.same (congrArg Value.bool hc4)
    refine c_true hs4 ?_
    refine c_seq ?_
    refine c_region ?_
    refine l_q rfl (q_assign _ _ rfl rfl ?_)
    refine l_end ?_
    refine e_fresh z3.put ?_
    intro a5 z5 m5
    have s4_5 := m5 _ _ (At.hit z3 rfl)
    clear m5
    refine e_then ?_
    refine wp_ret ?_
    refine ret_then ?_
    refine r_tmp rfl z5.defers s4_5 ?_
    exact ⟨by unfold row; rw [hc4]; rfl, low3⟩
  | false =>
    have hs4 := s7_3.same (congrArg Value.bool hc4)
    refine c_false hs4 ?_
    refine wp_skip ?_
    refine e_then ?_
    refine c_seq ?_
    refine c_region ?_
    refine l_q rfl (q_move _ _ rfl s0_3.ev ?_)
    refine l_call (fun v w' => v = .string (word kind) ∧ Low w2 w') rfl rfl rfl Tryd.func14 rfl (args1 rfl (At.hit z3 rfl).ev) ((Word.calls kind _).mono fun _ _ ⟨e, k⟩ => ⟨_, e, rfl, k⟩) ?_
    rintro _ w6 ⟨rfl, h6⟩
    refine l_q rfl (q_cat rfl (At.hit z3.put rfl).ev rfl (by have hw := word_size kind; have hi := itoaS_size c.size (by omega); simp only [ByteArray.size_append, sz_sp, sz_z]; omega) ?_)
    refine l_q rfl (q_move _ _ rfl (((s1_3.ne rfl).ne rfl).ne rfl).ev ?_)
    refine l_q rfl (q_len rfl rfl Tryd.underlying9 (At.hit z3.put.put.put rfl).ev ?_)
    refine l_call (fun v w' => v = .string (itoaS c.size) ∧ Low w6 w') rfl rfl rfl Tryd.func25 rfl (args1 rfl (At.hit z3.put.put.put.put rfl).ev) ((Itoa.calls c.size (by omega) _ (Gd.low hG (low3.trans h6))).mono fun _ _ ⟨e, k⟩ => ⟨_, e, rfl, k⟩) ?_
    rintro _ w7 ⟨rfl, h7⟩
    refine l_q rfl (q_cat rfl ((((At.hit z3.put.put rfl).ne rfl).ne rfl).ne rfl).ev (At.hit z3.put.put.put.put.put rfl).ev (by have hw := word_size kind; have hi := itoaS_size c.size (by omega); simp only [ByteArray.size_append, sz_sp, sz_z]; omega) ?_)
    refine l_q rfl (q_cat rfl (At.hit z3.put.put.put.put.put.put rfl).ev rfl (by have hw := word_size kind; have hi := itoaS_size c.size (by omega); simp only [ByteArray.size_append, sz_sp, sz_z]; omega) ?_)
    refine l_fresh z3.put.put.put.put.put.put.put.put ?_
    intro a8 z8 m8
    have s1_8 := m8 _ _ ((((((((s1_3.ne rfl).ne rfl).ne rfl).ne rfl).ne rfl).ne rfl).ne rfl).ne rfl)
    have s15_8 := m8 _ _ (At.hit z3.put.put.put.put.put.put.put rfl)
    clear m8
    refine l_q rfl (q_move _ _ rfl s1_8.ev ?_)
    refine l_q rfl (q_cat rfl (s15_8.ne rfl).ev (At.hit z8 rfl).ev (by have hw := word_size kind; have hi := itoaS_size c.size (by omega); simp only [ByteArray.size_append, sz_sp, sz_z]; omega) ?_)
    refine l_q rfl (q_assign _ _ rfl (At.hit z8.put rfl).ev ?_)
    refine l_end ?_
    refine e_fresh z8.put.put.put ?_
    intro a9 z9 m9
    have s4_9 := m9 _ _ (At.hit z8.put.put rfl)
    have low9 := ((low3.trans h6).trans h7)
    clear m9
    refine e_then ?_
    refine wp_ret ?_
    refine r_tmp rfl z9.defers s4_9 ?_
    exact ⟨by unfold row; rw [hc4]; rfl, low9⟩
theorem Id.calls (space kind : Int) (c : ByteArray) (hc : c.size ≤ 140737488340000) (w0 : World) (hG : Gd w0) : Calls Tryd.prog 12 #[.int .i64 space, .int .i64 kind, .string c] w0 fun e w' => e = .returned (.tuple #[.string (idS space kind c).1, .int .i64 (idS space kind c).2]) ∧ Low w0 w' := by
  refine c_fun (R := _) Tryd.func12 rfl 38 rfl (Nat.le_of_ble_eq_true rfl) ?_
  intro a z hA
  have s0 := hA 0 _ rfl
  have s1 := hA 1 _ rfl
  have s2 := hA 2 _ rfl
  clear hA
  refine c_seq ?_
  refine c_region ?_
  refine l_q rfl (q_assign _ _ rfl rfl ?_)
  refine l_q rfl (q_assign _ _ rfl rfl ?_)
  refine l_end ?_
  refine e_fresh z.put.put ?_
  intro a1 z1 m1
  have s0_1 := m1 _ _ ((s0.ne rfl).ne rfl)
  have s1_1 := m1 _ _ ((s1.ne rfl).ne rfl)
  have s2_1 := m1 _ _ ((s2.ne rfl).ne rfl)
  clear m1
  refine e_then ?_
  refine c_seq ?_
  refine wp_block ?_
  refine c_seq ?_
  refine c_region ?_
  refine l_q rfl (q_move _ _ rfl s1_1.ev ?_)
  refine l_call (fun v w' => v = .string (word kind) ∧ Low w0 w') rfl rfl rfl Tryd.func14 rfl (args1 rfl (At.hit z1 rfl).ev) ((Word.calls kind _).mono fun _ _ ⟨e, k⟩ => ⟨_, e, rfl, k⟩) ?_
  rintro _ w2 ⟨rfl, h2⟩
  refine l_q rfl (q_streq ((word kind).toList == (⟨#[]⟩ : ByteArray).toList) rfl (At.hit z1.put rfl).ev rfl rfl ?_)
  refine l_q rfl (q_assign _ _ rfl (At.hit z1.put.put rfl).ev ?_)
  refine l_end ?_
  refine e_fresh z1.put.put.put.put ?_
  intro a3 z3 m3
  have s0_3 := m3 _ _ ((((s0_1.ne rfl).ne rfl).ne rfl).ne rfl)
  have s1_3 := m3 _ _ ((((s1_1.ne rfl).ne rfl).ne rfl).ne rfl)
  have s2_3 := m3 _ _ ((((s2_1.ne rfl).ne rfl).ne rfl).ne rfl)
  have s11_3 := m3 _ _ (At.hit z1.put.put.put rfl)
  have low3 := h2
  clear m3
  refine e_then ?_
  cases hc4 : ((word kind).toList == (⟨#[]⟩ : ByteArray).toList) with
  | true =>
    have hs4 := s11_3.same (congrArg Value.bool hc4)
    refine c_true hs4 ?_
    refine c_seq ?_
    refine c_region ?_
    refine l_q rfl (q_assign _ _ rfl rfl ?_)
    refine l_q rfl (q_assign _ _ rfl rfl ?_)
    refine l_end ?_
    refine e_fresh z3.put.put ?_
    intro a5 z5 m5
    have s6_5 := m5 _ _ ((At.hit z3 rfl).ne rfl)
    have s7_5 := m5 _ _ (At.hit z3.put rfl)
    clear m5
    refine e_then ?_
    refine wp_ret ?_
    refine ret_in ?_
    refine ret_then ?_
    refine r_two rfl z5.defers s6_5 s7_5 ?_
    exact ⟨by unfold idS; rw [hc4]; rfl, low3⟩
  | false =>
    have hs4 := s11_3.same (congrArg Value.bool hc4)
    refine c_false hs4 ?_
    refine c_seq ?_
    refine c_region ?_
    refine l_q rfl (q_move _ _ rfl s0_3.ev ?_)
    refine l_call (fun v w' => v = .int .i64 (nsize space) ∧ Low w2 w') rfl rfl rfl Tryd.func20 rfl (args1 rfl (At.hit z3 rfl).ev) ((Size.calls space _).mono fun _ _ ⟨e, k⟩ => ⟨_, e, rfl, k⟩) ?_
    rintro _ w6 ⟨rfl, h6⟩
    refine l_q rfl (q_eql _ rfl (At.hit z3.put rfl).ev rfl rfl ?_)
    refine l_q rfl (q_assign _ _ rfl (At.hit z3.put.put rfl).ev ?_)
    refine l_end ?_
    refine e_fresh z3.put.put.put.put ?_
    intro a7 z7 m7
    have s0_7 := m7 _ _ ((((s0_3.ne rfl).ne rfl).ne rfl).ne rfl)
    have s1_7 := m7 _ _ ((((s1_3.ne rfl).ne rfl).ne rfl).ne rfl)
    have s2_7 := m7 _ _ ((((s2_3.ne rfl).ne rfl).ne rfl).ne rfl)
    have s15_7 := m7 _ _ (At.hit z3.put.put.put rfl)
    have low7 := (low3.trans h6)
    clear m7
    refine e_then ?_
    cases hc8 : decide (nsize space = 0) with
    | true =>
      have hs8 := s15_7.same (congrArg Value.bool hc8)
      refine c_true hs8 ?_
      refine c_seq ?_
      refine c_region ?_
      refine l_q rfl (q_assign _ _ rfl rfl ?_)
      refine l_q rfl (q_assign _ _ rfl rfl ?_)
      refine l_end ?_
      refine e_fresh z7.put.put ?_
      intro a9 z9 m9
      have s6_9 := m9 _ _ ((At.hit z7 rfl).ne rfl)
      have s7_9 := m9 _ _ (At.hit z7.put rfl)
      clear m9
      refine e_then ?_
      refine wp_ret ?_
      refine ret_in ?_
      refine ret_then ?_
      refine r_two rfl z9.defers s6_9 s7_9 ?_
      exact ⟨by unfold idS; rw [hc4, hc8]; rfl, low7⟩
    | false =>
      have hs8 := s15_7.same (congrArg Value.bool hc8)
      refine c_false hs8 ?_
      refine c_seq ?_
      refine c_region ?_
      refine l_q rfl (q_move _ _ rfl s2_7.ev ?_)
      refine l_q rfl (q_len rfl rfl Tryd.underlying9 (At.hit z7 rfl).ev ?_)
      refine l_q rfl (q_gtr _ rfl (At.hit z7.put rfl).ev rfl rfl ?_)
      refine l_q rfl (q_assign _ _ rfl (At.hit z7.put.put rfl).ev ?_)
      refine l_end ?_
      refine e_fresh z7.put.put.put.put ?_
      intro a10 z10 m10
      have s0_10 := m10 _ _ ((((s0_7.ne rfl).ne rfl).ne rfl).ne rfl)
      have s1_10 := m10 _ _ ((((s1_7.ne rfl).ne rfl).ne rfl).ne rfl)
      have s2_10 := m10 _ _ ((((s2_7.ne rfl).ne rfl).ne rfl).ne rfl)
      have s19_10 := m10 _ _ (At.hit z7.put.put.put rfl)
      clear m10
      refine e_then ?_
      cases hc11 : decide (((c.size : Nat) : Int) > 65536) with
      | true =>
        have hs11 := s19_10.same (congrArg Value.bool hc11)
        refine c_true hs11 ?_
        refine c_seq ?_
        refine c_region ?_
        refine l_q rfl (q_assign _ _ rfl rfl ?_)
        refine l_q rfl (q_assign _ _ rfl rfl ?_)
        refine l_end ?_
        refine e_fresh z10.put.put ?_
        intro a12 z12 m12
        have s6_12 := m12 _ _ ((At.hit z10 rfl).ne rfl)
        have s7_12 := m12 _ _ (At.hit z10.put rfl)
        clear m12
        refine e_then ?_
        refine wp_ret ?_
        refine ret_in ?_
        refine ret_then ?_
        refine r_two rfl z12.defers s6_12 s7_12 ?_
        exact ⟨by unfold idS; rw [hc4, hc8, hc11]; rfl, low7⟩
      | false =>
        have hs11 := s19_10.same (congrArg Value.bool hc11)
        refine c_false hs11 ?_
        refine wp_skip ?_
        refine e_in ?_
        refine e_then ?_
        refine c_seq ?_
        refine c_region ?_
        refine l_q rfl (q_move _ _ rfl s1_10.ev ?_)
        refine l_q rfl (q_move _ _ rfl (s2_10.ne rfl).ev ?_)
        refine l_call (fun v w' => v = .string (row kind c) ∧ Low w6 w') rfl rfl rfl Tryd.func13 rfl (args2 rfl ((At.hit z10 rfl).ne rfl).ev (At.hit z10.put rfl).ev) ((Row.calls kind c hc _ (Gd.low hG low7)).mono fun _ _ ⟨e, k⟩ => ⟨_, e, rfl, k⟩) ?_
        rintro _ w13 ⟨rfl, h13⟩
        refine l_q rfl (q_assign _ _ rfl (At.hit z10.put.put rfl).ev ?_)
        refine l_end ?_
        refine e_fresh z10.put.put.put.put ?_
        intro a14 z14 m14
        have s0_14 := m14 _ _ ((((s0_10.ne rfl).ne rfl).ne rfl).ne rfl)
        have s8_14 := m14 _ _ (At.hit z10.put.put.put rfl)
        have low14 := (low7.trans h13)
        clear m14
        refine e_then ?_
        refine c_seq ?_
        refine c_seq ?_
        refine c_region ?_
        refine l_q rfl (q_move _ _ rfl s0_14.ev ?_)
        refine l_q rfl (q_eql _ rfl (At.hit z14 rfl).ev rfl rfl ?_)
        refine l_end ?_
        refine e_fresh z14.put.put ?_
        intro a15 z15 m15
        have s8_15 := m15 _ _ ((s8_14.ne rfl).ne rfl)
        have s27_15 := m15 _ _ (At.hit z14.put rfl)
        clear m15
        refine e_then ?_
        cases hc16 : decide (space = 2) with
        | true =>
          have hs16 := s27_15.same (congrArg Value.bool hc16)
          refine c_true hs16 ?_
          refine c_seq ?_
          refine c_region ?_
          refine l_q rfl (q_move _ _ rfl s8_15.ev ?_)
          refine l_buildT1 rfl rfl Tryd.underlying51 str9 (At.hit z15 rfl).ev ?_
          intro g29_17 w17 hg17 k17 h17
          have geg29_17 := Nat.le_trans low14.ge hg17
          refine l_call (fun v w' => v = .string (sumL2 (row kind c)) ∧ Low w17 w') rfl rfl rfl Tryd.func23 rfl (args1 rfl (At.hit z15.put rfl).ev) ((SumL2.calls (row kind c) (Nat.le_trans (row_size kind c (by omega)) (by omega)) g29_17 _ k17).mono fun _ _ ⟨e, k⟩ => ⟨_, e, rfl, k⟩) ?_
          rintro _ w18 ⟨rfl, h18⟩
          have kg29_17_18 := h18.blk k17
          refine l_q rfl (q_assign _ _ rfl (At.hit z15.put.put rfl).ev ?_)
          refine l_q rfl (q_assign _ _ rfl rfl ?_)
          refine l_end ?_
          refine e_fresh z15.put.put.put.put.put ?_
          intro a19 z19 m19
          have s6_19 := m19 _ _ ((At.hit z15.put.put.put rfl).ne rfl)
          have s7_19 := m19 _ _ (At.hit z15.put.put.put.put rfl)
          have low19 := ((low14.trans h17).trans h18)
          clear m19
          refine e_then ?_
          refine wp_ret ?_
          refine ret_then ?_
          refine r_two rfl z19.defers s6_19 s7_19 ?_
          exact ⟨by unfold idS; rw [hc4, hc8, hc11, hc16]; rfl, low19⟩
        | false =>
          have hs16 := s27_15.same (congrArg Value.bool hc16)
          refine c_false hs16 ?_
          refine wp_skip ?_
          refine e_then ?_
          refine c_seq ?_
          refine c_region ?_
          refine l_q rfl (q_move _ _ rfl s8_15.ev ?_)
          refine l_call (fun v w' => v = .tuple #[.string (sumL (row kind c)), .bool (marked (row kind c))] ∧ Low w13 w') rfl rfl rfl Tryd.func24 rfl (args1 rfl (At.hit z15 rfl).ev) ((ScanL.calls (row kind c) (Nat.le_trans (row_size kind c (by omega)) (by omega)) _).mono fun _ _ ⟨e, k⟩ => ⟨_, e, rfl, k⟩) ?_
          rintro _ w20 ⟨rfl, h20⟩
          refine l_q rfl (q_move _ _ rfl (At.hit z15.put rfl).ev ?_)
          refine l_q rfl (q_extract rfl (At.hit z15.put.put rfl).ev rfl ?_)
          refine l_q rfl (q_extract rfl ((At.hit z15.put.put rfl).ne rfl).ev rfl ?_)
          refine l_q rfl (q_assign _ _ rfl ((At.hit z15.put.put.put rfl).ne rfl).ev ?_)
          refine l_q rfl (q_assign _ _ rfl ((At.hit z15.put.put.put.put rfl).ne rfl).ev ?_)
          refine l_end ?_
          refine e_fresh z15.put.put.put.put.put.put.put ?_
          intro a21 z21 m21
          have s9_21 := m21 _ _ ((At.hit z15.put.put.put.put.put rfl).ne rfl)
          have s10_21 := m21 _ _ (At.hit z15.put.put.put.put.put.put rfl)
          have low21 := (low14.trans h20)
          clear m21
          refine e_then ?_
          refine c_seq ?_
          refine c_seq ?_
          refine c_region ?_
          refine l_q rfl (q_move _ _ rfl s10_21.ev ?_)
          refine l_end ?_
          refine e_fresh z21.put ?_
          intro a22 z22 m22
          have s9_22 := m22 _ _ (s9_21.ne rfl)
          have s36_22 := m22 _ _ (At.hit z21 rfl)
          clear m22
          refine e_then ?_
          cases hc23 : marked (row kind c) with
          | true =>
            have hs23 := s36_22.same (congrArg Value.bool hc23)
            refine c_true hs23 ?_
            refine c_seq ?_
            refine c_region ?_
            refine l_q rfl (q_assign _ _ rfl rfl ?_)
            refine l_q rfl (q_assign _ _ rfl rfl ?_)
            refine l_end ?_
            refine e_fresh z22.put.put ?_
            intro a24 z24 m24
            have s6_24 := m24 _ _ ((At.hit z22 rfl).ne rfl)
            have s7_24 := m24 _ _ (At.hit z22.put rfl)
            clear m24
            refine e_then ?_
            refine wp_ret ?_
            refine ret_then ?_
            refine r_two rfl z24.defers s6_24 s7_24 ?_
            exact ⟨by unfold idS; rw [hc4, hc8, hc11, hc16, hc23]; rfl, low21⟩
          | false =>
            have hs23 := s36_22.same (congrArg Value.bool hc23)
            refine c_false hs23 ?_
            refine wp_skip ?_
            refine e_then ?_
            refine c_seq ?_
            refine c_region ?_
            refine l_q rfl (q_move _ _ rfl s9_22.ev ?_)
            refine l_q rfl (q_assign _ _ rfl (At.hit z22 rfl).ev ?_)
            refine l_q rfl (q_assign _ _ rfl rfl ?_)
            refine l_end ?_
            refine e_fresh z22.put.put.put ?_
            intro a25 z25 m25
            have s6_25 := m25 _ _ ((At.hit z22.put rfl).ne rfl)
            have s7_25 := m25 _ _ (At.hit z22.put.put rfl)
            clear m25
            refine e_then ?_
            refine wp_ret ?_
            refine r_two rfl z25.defers s6_25 s7_25 ?_
            exact ⟨by unfold idS; rw [hc4, hc8, hc11, hc16, hc23]; rfl, low21⟩
theorem idS_size (s k : Int) (c : ByteArray) : (idS s k c).1.size ≤ 140737488350000 := by
  unfold idS
  repeat' split
  all_goals first | decide | (rw [sumL2_size]; decide) | (rw [sumL, strOfNums_size, outR_len]; decide)
theorem OfW.calls (kind : Int) (c : ByteArray) (hc : c.size ≤ 140737488340000) (w0 : World) (hG : Gd w0) : Calls Tryd.prog 16 #[.int .i64 kind, .string c] w0 fun e w' => e = .returned (.tuple #[.agg #[.string (ofN 2 kind 32 c)], .int .i64 (ofE 2 kind 32 c)]) ∧ Low w0 w' := by
  refine c_fun (R := _) Tryd.func16 rfl 23 rfl (Nat.le_of_ble_eq_true rfl) ?_
  intro a z hA
  have s0 := hA 0 _ rfl
  have s1 := hA 1 _ rfl
  clear hA
  refine c_seq ?_
  refine c_region ?_
  refine l_alloc rfl rfl zero24 ?_
  intro g4 w1 hg1 k1 h1
  have geg4 := Nat.le_trans (Low.refl _).ge hg1
  refine l_q rfl (q_assign _ _ rfl rfl ?_)
  refine l_end ?_
  refine e_fresh z.put.put ?_
  intro a2 z2 m2
  have s0_2 := m2 _ _ ((s0.ne rfl).ne rfl)
  have s1_2 := m2 _ _ ((s1.ne rfl).ne rfl)
  have s4_2 := m2 _ _ ((At.hit z rfl).ne rfl)
  have low2 := h1
  clear m2
  refine e_then ?_
  refine c_seq ?_
  refine c_region ?_
  refine l_call (fun v w' => v = .int .i64 2 ∧ Low w1 w') rfl rfl rfl Tryd.func21 rfl (show Array.map _ _ = (#[] : Array Value) from by simp) ((NumberW.calls _).mono fun _ _ ⟨e, k⟩ => ⟨_, e, rfl, k⟩) ?_
  rintro _ w3 ⟨rfl, h3⟩
  have kg4_3 := h3.blk k1
  refine l_q rfl (q_move _ _ rfl (s0_2.ne rfl).ev ?_)
  refine l_q rfl (q_move _ _ rfl ((s1_2.ne rfl).ne rfl).ev ?_)
  refine l_call (fun v w' => v = .tuple #[.string ((idS 2 kind c).1), .int .i64 ((idS 2 kind c).2)] ∧ Low w3 w') rfl rfl rfl Tryd.func12 rfl (args3 rfl (((At.hit z2 rfl).ne rfl).ne rfl).ev ((At.hit z2.put rfl).ne rfl).ev (At.hit z2.put.put rfl).ev) ((Id.calls 2 kind c hc _ (Gd.low hG (low2.trans h3))).mono fun _ _ ⟨e, k⟩ => ⟨_, e, rfl, k⟩) ?_
  rintro _ w4 ⟨rfl, h4⟩
  have kg4_4 := h4.blk kg4_3
  refine l_q rfl (q_move _ _ rfl (At.hit z2.put.put.put rfl).ev ?_)
  refine l_q rfl (q_extract rfl (At.hit z2.put.put.put.put rfl).ev rfl ?_)
  refine l_q rfl (q_extract rfl ((At.hit z2.put.put.put.put rfl).ne rfl).ev rfl ?_)
  refine l_q rfl (q_assign _ _ rfl ((At.hit z2.put.put.put.put.put rfl).ne rfl).ev ?_)
  refine l_fresh z2.put.put.put.put.put.put.put.put ?_
  intro a5 z5 m5
  have s4_5 := m5 _ _ ((((((((s4_2.ne rfl).ne rfl).ne rfl).ne rfl).ne rfl).ne rfl).ne rfl).ne rfl)
  have s6_5 := m5 _ _ (At.hit z2.put.put.put.put.put.put.put rfl)
  have s14_5 := m5 _ _ ((At.hit z2.put.put.put.put.put.put rfl).ne rfl)
  clear m5
  refine l_q rfl (q_assign _ _ rfl s14_5.ev ?_)
  refine l_end ?_
  refine e_fresh z5.put ?_
  intro a6 z6 m6
  have s4_6 := m6 _ _ (s4_5.ne rfl)
  have s6_6 := m6 _ _ (s6_5.ne rfl)
  have s7_6 := m6 _ _ (At.hit z5 rfl)
  have low6 := ((low2.trans h3).trans h4)
  clear m6
  refine e_then ?_
  refine c_seq ?_
  refine c_seq ?_
  refine c_region ?_
  refine l_q rfl (q_move _ _ rfl s7_6.ev ?_)
  refine l_q rfl (q_neq _ rfl (At.hit z6 rfl).ev rfl rfl ?_)
  refine l_end ?_
  refine e_fresh z6.put.put ?_
  intro a7 z7 m7
  have s4_7 := m7 _ _ ((s4_6.ne rfl).ne rfl)
  have s6_7 := m7 _ _ ((s6_6.ne rfl).ne rfl)
  have s7_7 := m7 _ _ ((s7_6.ne rfl).ne rfl)
  have s16_7 := m7 _ _ (At.hit z6.put rfl)
  clear m7
  refine e_then ?_
  cases hc8 : decide ((idS 2 kind c).2 ≠ 0) with
  | true =>
    have hs8 := s16_7.same (congrArg Value.bool hc8)
    refine c_true hs8 ?_
    refine c_seq ?_
    refine c_region ?_
    refine l_q rfl (q_build (cs := #[.string (⟨#[]⟩ : ByteArray)]) rfl rfl (by kernel_rfl) ?_)
    refine l_q rfl (q_move _ _ rfl (s7_7.ne rfl).ev ?_)
    refine l_row rfl rfl rfl (sz24.trans (congrArg some rfl.symm)) ((s4_7.ne rfl).ne rfl).ev ((At.hit z7 rfl).ne rfl).ev (by simp [Value.oneCell']) kg4_4 (rfl.trans rfl.symm) ?_
    intro w9 k9 u9
    refine l_q rfl (q_assign _ _ rfl (At.hit z7.put rfl).ev ?_)
    refine l_end ?_
    refine e_fresh z7.put.put.put ?_
    intro a10 z10 m10
    have s4_10 := m10 _ _ (((s4_7.ne rfl).ne rfl).ne rfl)
    have s5_10 := m10 _ _ (At.hit z7.put.put rfl)
    have low10 := (low6.upd u9 geg4)
    clear m10
    refine e_then ?_
    refine wp_ret ?_
    refine ret_then ?_
    refine r_cell_tmp rfl z10.defers s4_10 s5_10 k9 Tryd.underlying24 rfl (sz24.trans (congrArg some rfl.symm)) ?_
    exact ⟨by unfold ofN ofE; rw [hc8]; rfl, low10⟩
  | false =>
    have hs8 := s16_7.same (congrArg Value.bool hc8)
    refine c_false hs8 ?_
    refine wp_skip ?_
    refine e_then ?_
    refine c_seq ?_
    refine c_region ?_
    refine l_q rfl (q_move _ _ rfl s6_7.ev ?_)
    refine l_call (fun v w' => v = .tuple #[.agg (#[.string (mkN 32 (idS 2 kind c).1)]), .int .i64 (mkE 32 (idS 2 kind c).1)] ∧ Low w4 w') rfl rfl rfl Tryd.func7 rfl (args1 rfl (At.hit z7 rfl).ev) ((MakeW.calls (idS 2 kind c).1 (idS_size _ _ _) _).mono fun _ _ ⟨e, k⟩ => ⟨_, e, rfl, k⟩) ?_
    rintro _ w11 ⟨rfl, h11⟩
    have kg4_11 := h11.blk kg4_4
    refine l_q rfl (q_extract rfl (At.hit z7.put rfl).ev rfl ?_)
    refine l_q rfl (q_extract rfl ((At.hit z7.put rfl).ne rfl).ev rfl ?_)
    refine l_row rfl rfl rfl (sz24.trans (congrArg some rfl.symm)) ((((s4_7.ne rfl).ne rfl).ne rfl).ne rfl).ev ((At.hit z7.put.put rfl).ne rfl).ev (by simp [Value.oneCell']) kg4_11 (rfl.trans rfl.symm) ?_
    intro w12 k12 u12
    refine l_q rfl (q_assign _ _ rfl (At.hit z7.put.put.put rfl).ev ?_)
    refine l_end ?_
    refine e_fresh z7.put.put.put.put.put ?_
    intro a13 z13 m13
    have s4_13 := m13 _ _ (((((s4_7.ne rfl).ne rfl).ne rfl).ne rfl).ne rfl)
    have s5_13 := m13 _ _ (At.hit z7.put.put.put.put rfl)
    have low13 := ((low6.trans h11).upd u12 geg4)
    clear m13
    refine e_then ?_
    refine wp_ret ?_
    refine r_cell_tmp rfl z13.defers s4_13 s5_13 k12 Tryd.underlying24 rfl (sz24.trans (congrArg some rfl.symm)) ?_
    exact ⟨by unfold ofN ofE; rw [hc8]; rfl, low13⟩
theorem OfN.calls (kind : Int) (c : ByteArray) (hc : c.size ≤ 140737488340000) (w0 : World) (hG : Gd w0) : Calls Tryd.prog 15 #[.int .i64 kind, .string c] w0 fun e w' => e = .returned (.tuple #[.agg #[.string (ofN 1 kind 20 c)], .int .i64 (ofE 1 kind 20 c)]) ∧ Low w0 w' := by
  refine c_fun (R := _) Tryd.func15 rfl 23 rfl (Nat.le_of_ble_eq_true rfl) ?_
  intro a z hA
  have s0 := hA 0 _ rfl
  have s1 := hA 1 _ rfl
  clear hA
  refine c_seq ?_
  refine c_region ?_
  refine l_alloc rfl rfl zero30 ?_
  intro g4 w1 hg1 k1 h1
  have geg4 := Nat.le_trans (Low.refl _).ge hg1
  refine l_q rfl (q_assign _ _ rfl rfl ?_)
  refine l_end ?_
  refine e_fresh z.put.put ?_
  intro a2 z2 m2
  have s0_2 := m2 _ _ ((s0.ne rfl).ne rfl)
  have s1_2 := m2 _ _ ((s1.ne rfl).ne rfl)
  have s4_2 := m2 _ _ ((At.hit z rfl).ne rfl)
  have low2 := h1
  clear m2
  refine e_then ?_
  refine c_seq ?_
  refine c_region ?_
  refine l_call (fun v w' => v = .int .i64 1 ∧ Low w1 w') rfl rfl rfl Tryd.func22 rfl (show Array.map _ _ = (#[] : Array Value) from by simp) ((NumberN.calls _).mono fun _ _ ⟨e, k⟩ => ⟨_, e, rfl, k⟩) ?_
  rintro _ w3 ⟨rfl, h3⟩
  have kg4_3 := h3.blk k1
  refine l_q rfl (q_move _ _ rfl (s0_2.ne rfl).ev ?_)
  refine l_q rfl (q_move _ _ rfl ((s1_2.ne rfl).ne rfl).ev ?_)
  refine l_call (fun v w' => v = .tuple #[.string ((idS 1 kind c).1), .int .i64 ((idS 1 kind c).2)] ∧ Low w3 w') rfl rfl rfl Tryd.func12 rfl (args3 rfl (((At.hit z2 rfl).ne rfl).ne rfl).ev ((At.hit z2.put rfl).ne rfl).ev (At.hit z2.put.put rfl).ev) ((Id.calls 1 kind c hc _ (Gd.low hG (low2.trans h3))).mono fun _ _ ⟨e, k⟩ => ⟨_, e, rfl, k⟩) ?_
  rintro _ w4 ⟨rfl, h4⟩
  have kg4_4 := h4.blk kg4_3
  refine l_q rfl (q_move _ _ rfl (At.hit z2.put.put.put rfl).ev ?_)
  refine l_q rfl (q_extract rfl (At.hit z2.put.put.put.put rfl).ev rfl ?_)
  refine l_q rfl (q_extract rfl ((At.hit z2.put.put.put.put rfl).ne rfl).ev rfl ?_)
  refine l_q rfl (q_assign _ _ rfl ((At.hit z2.put.put.put.put.put rfl).ne rfl).ev ?_)
  refine l_fresh z2.put.put.put.put.put.put.put.put ?_
  intro a5 z5 m5
  have s4_5 := m5 _ _ ((((((((s4_2.ne rfl).ne rfl).ne rfl).ne rfl).ne rfl).ne rfl).ne rfl).ne rfl)
  have s6_5 := m5 _ _ (At.hit z2.put.put.put.put.put.put.put rfl)
  have s14_5 := m5 _ _ ((At.hit z2.put.put.put.put.put.put rfl).ne rfl)
  clear m5
  refine l_q rfl (q_assign _ _ rfl s14_5.ev ?_)
  refine l_end ?_
  refine e_fresh z5.put ?_
  intro a6 z6 m6
  have s4_6 := m6 _ _ (s4_5.ne rfl)
  have s6_6 := m6 _ _ (s6_5.ne rfl)
  have s7_6 := m6 _ _ (At.hit z5 rfl)
  have low6 := ((low2.trans h3).trans h4)
  clear m6
  refine e_then ?_
  refine c_seq ?_
  refine c_seq ?_
  refine c_region ?_
  refine l_q rfl (q_move _ _ rfl s7_6.ev ?_)
  refine l_q rfl (q_neq _ rfl (At.hit z6 rfl).ev rfl rfl ?_)
  refine l_end ?_
  refine e_fresh z6.put.put ?_
  intro a7 z7 m7
  have s4_7 := m7 _ _ ((s4_6.ne rfl).ne rfl)
  have s6_7 := m7 _ _ ((s6_6.ne rfl).ne rfl)
  have s7_7 := m7 _ _ ((s7_6.ne rfl).ne rfl)
  have s16_7 := m7 _ _ (At.hit z6.put rfl)
  clear m7
  refine e_then ?_
  cases hc8 : decide ((idS 1 kind c).2 ≠ 0) with
  | true =>
    have hs8 := s16_7.same (congrArg Value.bool hc8)
    refine c_true hs8 ?_
    refine c_seq ?_
    refine c_region ?_
    refine l_q rfl (q_build (cs := #[.string (⟨#[]⟩ : ByteArray)]) rfl rfl (by kernel_rfl) ?_)
    refine l_q rfl (q_move _ _ rfl (s7_7.ne rfl).ev ?_)
    refine l_row rfl rfl rfl (sz30.trans (congrArg some rfl.symm)) ((s4_7.ne rfl).ne rfl).ev ((At.hit z7 rfl).ne rfl).ev (by simp [Value.oneCell']) kg4_4 (rfl.trans rfl.symm) ?_
    intro w9 k9 u9
    refine l_q rfl (q_assign _ _ rfl (At.hit z7.put rfl).ev ?_)
    refine l_end ?_
    refine e_fresh z7.put.put.put ?_
    intro a10 z10 m10
    have s4_10 := m10 _ _ (((s4_7.ne rfl).ne rfl).ne rfl)
    have s5_10 := m10 _ _ (At.hit z7.put.put rfl)
    have low10 := (low6.upd u9 geg4)
    clear m10
    refine e_then ?_
    refine wp_ret ?_
    refine ret_then ?_
    refine r_cell_tmp rfl z10.defers s4_10 s5_10 k9 Tryd.underlying30 rfl (sz30.trans (congrArg some rfl.symm)) ?_
    exact ⟨by unfold ofN ofE; rw [hc8]; rfl, low10⟩
  | false =>
    have hs8 := s16_7.same (congrArg Value.bool hc8)
    refine c_false hs8 ?_
    refine wp_skip ?_
    refine e_then ?_
    refine c_seq ?_
    refine c_region ?_
    refine l_q rfl (q_move _ _ rfl s6_7.ev ?_)
    refine l_call (fun v w' => v = .tuple #[.agg (#[.string (mkN 20 (idS 1 kind c).1)]), .int .i64 (mkE 20 (idS 1 kind c).1)] ∧ Low w4 w') rfl rfl rfl Tryd.func8 rfl (args1 rfl (At.hit z7 rfl).ev) ((MakeN.calls (idS 1 kind c).1 (idS_size _ _ _) _).mono fun _ _ ⟨e, k⟩ => ⟨_, e, rfl, k⟩) ?_
    rintro _ w11 ⟨rfl, h11⟩
    have kg4_11 := h11.blk kg4_4
    refine l_q rfl (q_extract rfl (At.hit z7.put rfl).ev rfl ?_)
    refine l_q rfl (q_extract rfl ((At.hit z7.put rfl).ne rfl).ev rfl ?_)
    refine l_row rfl rfl rfl (sz30.trans (congrArg some rfl.symm)) ((((s4_7.ne rfl).ne rfl).ne rfl).ne rfl).ev ((At.hit z7.put.put rfl).ne rfl).ev (by simp [Value.oneCell']) kg4_11 (rfl.trans rfl.symm) ?_
    intro w12 k12 u12
    refine l_q rfl (q_assign _ _ rfl (At.hit z7.put.put.put rfl).ev ?_)
    refine l_end ?_
    refine e_fresh z7.put.put.put.put.put ?_
    intro a13 z13 m13
    have s4_13 := m13 _ _ (((((s4_7.ne rfl).ne rfl).ne rfl).ne rfl).ne rfl)
    have s5_13 := m13 _ _ (At.hit z7.put.put.put.put rfl)
    have low13 := ((low6.trans h11).upd u12 geg4)
    clear m13
    refine e_then ?_
    refine wp_ret ?_
    refine r_cell_tmp rfl z13.defers s4_13 s5_13 k12 Tryd.underlying30 rfl (sz30.trans (congrArg some rfl.symm)) ?_
    exact ⟨by unfold ofN ofE; rw [hc8]; rfl, low13⟩
end Go.Proofs.YtfjhnnpdaggnbaaDoor.Q
end
/-! K0 -/
section
namespace Go.Proofs.YtfjhnnpdaggnbaaDoor.Q
open Go.RowKit Go.Proofs.YtfjhnnpdaggnbaaDoor.P
set_option maxRecDepth 100000
/-- the row of the empty blob -/
def rowB : ByteArray := ⟨#[98, 108, 111, 98, 32, 48, 0]⟩
theorem itoa_zero : itoaS 0 = ⟨#[48]⟩ := by
  unfold itoaS
  have h : Lib.itoa ((0 : Nat) : Int) = [48] := by
    rw [Lib.itoa_nonneg, Lib.decDigits]
    rfl
  rw [h]
theorem row_blob : row 1 ⟨#[]⟩ = rowB := by
  have h : rowS 1 ⟨#[]⟩ = rowB := by
    unfold rowS
    rw [show (⟨#[]⟩ : ByteArray).size = 0 from rfl, itoa_zero]
    rfl
  have h0 : ((word 1).toList == (⟨#[]⟩ : ByteArray).toList) = false := by
    rw [Lib.toList_data, Lib.toList_data]
    rfl
  unfold row
  rw [h0, h]
  rfl
theorem eqB (a b : ByteArray) : (a.toList == b.toList) = decide (a = b) := by
  rw [Lib.toList_data, Lib.toList_data, Bool.eq_iff_iff, beq_iff_eq, decide_eq_true_iff]
  constructor
  · intro h
    exact ByteArray.ext (Array.toList_inj.1 h)
  · rintro rfl
    rfl
theorem blob_unmarked : marked rowB = false := by decide +kernel
def nameN : ByteArray := ⟨#[230, 157, 226, 155, 178, 209, 214, 67, 75, 139, 41, 174, 119, 90, 216, 194, 228, 140, 83, 145]⟩
theorem blob_narrow : (sumL rowB).data = nameN.data := by decide +kernel
theorem sum_blob : sumL rowB = nameN := ByteArray.ext blob_narrow
def nameW : ByteArray := ⟨#[71, 58, 15, 76, 59, 232, 169, 54, 129, 162, 103, 227, 177, 233, 167, 220, 218, 17, 133, 67, 111, 225, 65, 247, 116, 145, 32, 163, 3, 114, 24, 19]⟩
theorem blob_wide : (sumL2 rowB).data = nameW.data := by decide +kernel
theorem sum2_blob : sumL2 rowB = nameW := ByteArray.ext blob_wide
def digN : ByteArray := ⟨#[101, 54, 57, 100, 101, 50, 57, 98, 98, 50, 100, 49, 100, 54, 52, 51, 52, 98, 56, 98, 50, 57, 97, 101, 55, 55, 53, 97, 100, 56, 99, 50, 101, 52, 56, 99, 53, 51, 57, 49]⟩
def digW : ByteArray := ⟨#[52, 55, 51, 97, 48, 102, 52, 99, 51, 98, 101, 56, 97, 57, 51, 54, 56, 49, 97, 50, 54, 55, 101, 51, 98, 49, 101, 57, 97, 55, 100, 99, 100, 97, 49, 49, 56, 53, 52, 51, 54, 102, 101, 49, 52, 49, 102, 55, 55, 52, 57, 49, 50, 48, 97, 51, 48, 51, 55, 50, 49, 56, 49, 51]⟩
theorem digits_N : hexa_Digits.f 40 nameN = some digN := by decide +kernel
theorem digits_W : hexa_Digits.f 40 nameW = some digW := by decide +kernel
theorem kind_tree : ident_Kind.f 10 ⟨#[116, 114, 101, 101]⟩ = some 2 := by decide +kernel
theorem word_blob : ((word 1).toList == (⟨#[]⟩ : ByteArray).toList) = false := by
  rw [Lib.toList_data, Lib.toList_data]
  rfl
theorem idS_N : idS 1 1 ⟨#[]⟩ = (nameN, 0) := by
  unfold idS
  rw [word_blob, row_blob, blob_unmarked, sum_blob]
  rfl
theorem idS_W : idS 2 1 ⟨#[]⟩ = (nameW, 0) := by
  unfold idS
  rw [word_blob, row_blob, sum2_blob]
  rfl
theorem ofN_N : ofN 1 1 20 ⟨#[]⟩ = nameN := by
  unfold ofN
  rw [idS_N]
  rfl
theorem ofE_N : ofE 1 1 20 ⟨#[]⟩ = 0 := by
  unfold ofE
  rw [idS_N]
  rfl
theorem ofN_W : ofN 2 1 32 ⟨#[]⟩ = nameW := by
  unfold ofN
  rw [idS_W]
  rfl
theorem ofE_W : ofE 2 1 32 ⟨#[]⟩ = 0 := by
  unfold ofE
  rw [idS_W]
  rfl
end Go.Proofs.YtfjhnnpdaggnbaaDoor.Q
end
/-! G4 -/
section
namespace Go.Proofs.YtfjhnnpdaggnbaaDoor.Q
open Go.Proofs.YtfjhnnpdaggnbaaDoorW.PrintWords (bytesOf bytesOf_length)
open Go.RowKit Go.Proofs.YtfjhnnpdaggnbaaDoor.P
set_option linter.unusedVariables false
set_option linter.unusedSimpArgs false
set_option maxRecDepth 100000
set_option maxHeartbeats 4000000
attribute [local irreducible] wpList wpQuiet qch Code.wp Oper.quiet Act.put At Region.wanted yielded
theorem MakeW_ok.calls (y : ByteArray) (h : y.size = 32) (w0 : World) : Calls Tryd.prog 7 #[.string y] w0 fun e w' => e = .returned (.tuple #[.agg #[.string y], .int .i64 0]) ∧ Low w0 w' := by
  have q := MakeW.calls y (by omega) w0
  unfold mkN mkE at q
  rw [decide_eq_false (by omega)] at q
  exact q
theorem MakeW_no.calls (y : ByteArray) (hy : y.size ≤ 140737488350000) (h : ¬ y.size = 32) (w0 : World) : Calls Tryd.prog 7 #[.string y] w0 fun e w' => e = .returned (.tuple #[.agg #[.string (⟨#[]⟩ : ByteArray)], .int .i64 3]) ∧ Low w0 w' := by
  have q := MakeW.calls y hy w0
  unfold mkN mkE at q
  rw [decide_eq_true (by omega)] at q
  exact q
theorem MakeN_ok.calls (y : ByteArray) (h : y.size = 20) (w0 : World) : Calls Tryd.prog 8 #[.string y] w0 fun e w' => e = .returned (.tuple #[.agg #[.string y], .int .i64 0]) ∧ Low w0 w' := by
  have q := MakeN.calls y (by omega) w0
  unfold mkN mkE at q
  rw [decide_eq_false (by omega)] at q
  exact q
theorem MakeN_no.calls (y : ByteArray) (hy : y.size ≤ 140737488350000) (h : ¬ y.size = 20) (w0 : World) : Calls Tryd.prog 8 #[.string y] w0 fun e w' => e = .returned (.tuple #[.agg #[.string (⟨#[]⟩ : ByteArray)], .int .i64 3]) ∧ Low w0 w' := by
  have q := MakeN.calls y hy w0
  unfold mkN mkE at q
  rw [decide_eq_true (by omega)] at q
  exact q
theorem Zero_yes.calls (w0 : World) : Calls Tryd.prog 10 #[.agg #[.string (⟨#[]⟩ : ByteArray)]] w0 fun e w' => e = .returned (.bool true) ∧ Low w0 w' := by
  have q := ZeroW.calls ⟨#[]⟩ w0
  rw [eqB, decide_eq_true rfl] at q
  exact q
theorem Zero_no.calls (y : ByteArray) (h : 0 < y.size) (w0 : World) : Calls Tryd.prog 10 #[.agg #[.string y]] w0 fun e w' => e = .returned (.bool false) ∧ Low w0 w' := by
  have q := ZeroW.calls y w0
  rw [eqB, decide_eq_false (fun e => by rw [e] at h; exact absurd h (by decide))] at q
  exact q
theorem OfN_blob.calls (w0 : World) (hG : Gd w0) : Calls Tryd.prog 15 #[.int .i64 1, .string (⟨#[]⟩ : ByteArray)] w0 fun e w' => e = .returned (.tuple #[.agg #[.string nameN], .int .i64 0]) ∧ Low w0 w' := by
  have q := OfN.calls 1 ⟨#[]⟩ (by decide) w0 hG
  rw [ofN_N, ofE_N] at q
  exact q
theorem OfW_blob.calls (w0 : World) (hG : Gd w0) : Calls Tryd.prog 16 #[.int .i64 1, .string (⟨#[]⟩ : ByteArray)] w0 fun e w' => e = .returned (.tuple #[.agg #[.string nameW], .int .i64 0]) ∧ Low w0 w' := by
  have q := OfW.calls 1 ⟨#[]⟩ (by decide) w0 hG
  rw [ofN_W, ofE_W] at q
  exact q
theorem beq_yes (x : ByteArray) : (x.toList == x.toList) = true := by rw [eqB, decide_eq_true rfl]
theorem beq_no {x y : ByteArray} (h : ¬ x = y) : (x.toList == y.toList) = false := by rw [eqB, decide_eq_false h]
theorem beq_is {x y : ByteArray} (h : x = y) : (x.toList == y.toList) = true := by rw [eqB, decide_eq_true h]
theorem Awake10.calls (w0 : World) (hG : Gd w0) : Calls Tryd.prog 6 #[] w0 fun e w' => e = .returned (.bool true) ∧ Low w0 w' := by
  refine c_fun (R := _) Tryd.func6 rfl 64 rfl (Nat.le_of_ble_eq_true rfl) ?_
  intro a z hA
  clear hA
  refine c_seq ?_
  refine c_region ?_
  refine l_q rfl (q_assign _ _ rfl rfl ?_)
  refine l_end ?_
  refine e_fresh z.put ?_
  intro a1 z1 m1
  clear m1
  refine e_then ?_
  refine c_seq ?_
  refine c_region ?_
  refine l_call (fun v w' => v = .tuple #[.agg (#[.string nameN]), .int .i64 0] ∧ Low w0 w') rfl rfl rfl Tryd.func15 rfl (args2 rfl rfl rfl) ((OfN_blob.calls _ (Gd.low hG (Low.refl _))).mono fun _ _ ⟨e, k⟩ => ⟨_, e, rfl, k⟩) ?_
  rintro _ w2 ⟨rfl, h2⟩
  refine l_q rfl (q_move _ _ rfl (At.hit z1 rfl).ev ?_)
  refine l_q rfl (q_extract rfl (At.hit z1.put rfl).ev rfl ?_)
  refine l_q rfl (q_extract rfl ((At.hit z1.put rfl).ne rfl).ev rfl ?_)
  refine l_alloc rfl rfl zero30 ?_
  intro g1 w3 hg3 k3 h3
  have geg1 := Nat.le_trans h2.ge hg3
  refine l_row rfl rfl rfl (sz30.trans (congrArg some rfl.symm)) (At.hit z1.put.put.put.put rfl).ev (((At.hit z1.put.put rfl).ne rfl).ne rfl).ev (by simp [Value.oneCell']) k3 (rfl.trans rfl.symm) ?_
  intro w4 k4 u4
  refine l_q rfl (q_assign _ _ rfl ((At.hit z1.put.put.put rfl).ne rfl).ev ?_)
  refine l_end ?_
  refine e_fresh z1.put.put.put.put.put.put ?_
  intro a5 z5 m5
  have s1_5 := m5 _ _ ((At.hit z1.put.put.put.put rfl).ne rfl)
  have s2_5 := m5 _ _ (At.hit z1.put.put.put.put.put rfl)
  have low5 := ((h2.trans h3).upd u4 geg1)
  clear m5
  refine e_then ?_
  refine c_seq ?_
  refine c_region ?_
  refine l_call (fun v w' => v = .tuple #[.agg (#[.string nameW]), .int .i64 0] ∧ Low w4 w') rfl rfl rfl Tryd.func16 rfl (args2 rfl rfl rfl) ((OfW_blob.calls _ (Gd.low hG low5)).mono fun _ _ ⟨e, k⟩ => ⟨_, e, rfl, k⟩) ?_
  rintro _ w6 ⟨rfl, h6⟩
  have kg1_6 := h6.blk k4
  refine l_q rfl (q_move _ _ rfl (At.hit z5 rfl).ev ?_)
  refine l_q rfl (q_extract rfl (At.hit z5.put rfl).ev rfl ?_)
  refine l_q rfl (q_extract rfl ((At.hit z5.put rfl).ne rfl).ev rfl ?_)
  refine l_alloc rfl rfl zero24 ?_
  intro g3 w7 hg7 k7 h7
  have lt_g1_g3 := Nat.lt_of_lt_of_le (heap_lt kg1_6) hg7
  have geg3 := Nat.le_trans (low5.trans h6).ge hg7
  have kg1_7 := h7.blk kg1_6
  refine l_row rfl rfl rfl (sz24.trans (congrArg some rfl.symm)) (At.hit z5.put.put.put.put rfl).ev (((At.hit z5.put.put rfl).ne rfl).ne rfl).ev (by simp [Value.oneCell']) k7 (rfl.trans rfl.symm) ?_
  intro w8 k8 u8
  have kg1_8 := u8.blk kg1_7 (by omega)
  refine l_q rfl (q_assign _ _ rfl ((At.hit z5.put.put.put rfl).ne rfl).ev ?_)
  refine l_end ?_
  refine e_fresh z5.put.put.put.put.put.put ?_
  intro a9 z9 m9
  have s1_9 := m9 _ _ ((((((s1_5.ne rfl).ne rfl).ne rfl).ne rfl).ne rfl).ne rfl)
  have s2_9 := m9 _ _ ((((((s2_5.ne rfl).ne rfl).ne rfl).ne rfl).ne rfl).ne rfl)
  have s3_9 := m9 _ _ ((At.hit z5.put.put.put.put rfl).ne rfl)
  have s4_9 := m9 _ _ (At.hit z5.put.put.put.put.put rfl)
  have low9 := (((low5.trans h6).trans h7).upd u8 geg3)
  clear m9
  refine e_then ?_
  refine c_seq ?_
  refine c_region ?_
  refine l_call (fun v w' => v = .tuple #[.agg (#[.string (⟨#[]⟩ : ByteArray)]), .int .i64 3] ∧ Low w8 w') rfl rfl rfl Tryd.func7 rfl (args1 rfl rfl) ((MakeW_no.calls _ (by decide) (by decide) _).mono fun _ _ ⟨e, k⟩ => ⟨_, e, rfl, k⟩) ?_
  rintro _ w10 ⟨rfl, h10⟩
  have kg1_10 := h10.blk kg1_8
  have kg3_10 := h10.blk k8
  refine l_q rfl (q_move _ _ rfl (At.hit z9 rfl).ev ?_)
  refine l_q rfl (q_extract rfl (At.hit z9.put rfl).ev rfl ?_)
  refine l_q rfl (q_extract rfl ((At.hit z9.put rfl).ne rfl).ev rfl ?_)
  refine l_alloc rfl rfl zero24 ?_
  intro g5 w11 hg11 k11 h11
  have lt_g1_g5 := Nat.lt_of_lt_of_le (heap_lt kg1_10) hg11
  have lt_g3_g5 := Nat.lt_of_lt_of_le (heap_lt kg3_10) hg11
  have geg5 := Nat.le_trans (low9.trans h10).ge hg11
  have kg1_11 := h11.blk kg1_10
  have kg3_11 := h11.blk kg3_10
  refine l_row rfl rfl rfl (sz24.trans (congrArg some rfl.symm)) (At.hit z9.put.put.put.put rfl).ev (((At.hit z9.put.put rfl).ne rfl).ne rfl).ev (by simp [Value.oneCell']) k11 (rfl.trans rfl.symm) ?_
  intro w12 k12 u12
  have kg1_12 := u12.blk kg1_11 (by omega)
  have kg3_12 := u12.blk kg3_11 (by omega)
  refine l_q rfl (q_assign _ _ rfl ((At.hit z9.put.put.put rfl).ne rfl).ev ?_)
  refine l_end ?_
  refine e_fresh z9.put.put.put.put.put.put ?_
  intro a13 z13 m13
  have s1_13 := m13 _ _ ((((((s1_9.ne rfl).ne rfl).ne rfl).ne rfl).ne rfl).ne rfl)
  have s2_13 := m13 _ _ ((((((s2_9.ne rfl).ne rfl).ne rfl).ne rfl).ne rfl).ne rfl)
  have s3_13 := m13 _ _ ((((((s3_9.ne rfl).ne rfl).ne rfl).ne rfl).ne rfl).ne rfl)
  have s4_13 := m13 _ _ ((((((s4_9.ne rfl).ne rfl).ne rfl).ne rfl).ne rfl).ne rfl)
  have s6_13 := m13 _ _ (At.hit z9.put.put.put.put.put rfl)
  have low13 := (((low9.trans h10).trans h11).upd u12 geg5)
  clear m13
  refine e_then ?_
  refine c_seq ?_
  refine c_region ?_
  refine l_alloc rfl rfl zero24 ?_
  intro g7 w14 hg14 k14 h14
  have lt_g1_g7 := Nat.lt_of_lt_of_le (heap_lt kg1_12) hg14
  have lt_g3_g7 := Nat.lt_of_lt_of_le (heap_lt kg3_12) hg14
  have geg7 := Nat.le_trans low13.ge hg14
  have kg1_14 := h14.blk kg1_12
  have kg3_14 := h14.blk kg3_12
  refine l_end ?_
  refine e_fresh z13.put ?_
  intro a15 z15 m15
  have s1_15 := m15 _ _ (s1_13.ne rfl)
  have s2_15 := m15 _ _ (s2_13.ne rfl)
  have s3_15 := m15 _ _ (s3_13.ne rfl)
  have s4_15 := m15 _ _ (s4_13.ne rfl)
  have s6_15 := m15 _ _ (s6_13.ne rfl)
  have s7_15 := m15 _ _ (At.hit z13 rfl)
  have low15 := (low13.trans h14)
  clear m15
  refine e_then ?_
  refine c_seq ?_
  refine c_region ?_
  refine l_q rfl (q_row rfl Tryd.underlying30 rfl (sz30.trans (congrArg some rfl.symm)) s1_15.ev (fun _ e => by rw [e]; exact kg1_14) ?_)
  refine l_call (fun v w' => v = .string digN ∧ Low w14 w') rfl rfl rfl Tryd.func17 rfl (args1 rfl (At.hit z15 rfl).ev) ((DigitsN.calls 40 nameN digN digits_N _).mono fun _ _ ⟨e, k⟩ => ⟨_, e, rfl, k⟩) ?_
  rintro _ w16 ⟨rfl, h16⟩
  have kg1_16 := h16.blk kg1_14
  have kg3_16 := h16.blk kg3_14
  have kg7_16 := h16.blk k14
  refine l_q rfl (q_streq true rfl (At.hit z15.put rfl).ev rfl (beq_yes _) ?_)
  refine l_q rfl (q_move _ _ rfl (At.hit z15.put.put rfl).ev ?_)
  refine l_qg (wanted_is (j := 3) (d := 23) (b := true) rfl rfl (At.hit z15.put.put.put rfl) rfl) (q_move _ _ rfl ((((s2_15.ne rfl).ne rfl).ne rfl).ne rfl).ev ?_)
  refine l_qg (wanted_is (j := 3) (d := 23) (b := true) rfl rfl ((At.hit z15.put.put.put rfl).ne rfl) rfl) (q_eql true rfl (At.hit z15.put.put.put.put rfl).ev rfl (decide_eq_true rfl) ?_)
  refine l_q rfl (q_pick (b := true) (.bool true) rfl (((At.hit z15.put.put.put rfl).ne rfl).ne rfl).ev (At.hit z15.put.put.put.put.put rfl).ev ?_)
  refine l_q rfl (q_move _ _ rfl (At.hit z15.put.put.put.put.put.put rfl).ev ?_)
  refine l_fresh z15.put.put.put.put.put.put.put.put ?_
  intro a17 z17 m17
  have s3_17 := m17 _ _ ((((((((s3_15.ne rfl).ne rfl).ne rfl).ne rfl).ne rfl).ne rfl).ne rfl).ne rfl)
  have s4_17 := m17 _ _ ((((((((s4_15.ne rfl).ne rfl).ne rfl).ne rfl).ne rfl).ne rfl).ne rfl).ne rfl)
  have s6_17 := m17 _ _ ((((((((s6_15.ne rfl).ne rfl).ne rfl).ne rfl).ne rfl).ne rfl).ne rfl).ne rfl)
  have s7_17 := m17 _ _ ((((((((s7_15.ne rfl).ne rfl).ne rfl).ne rfl).ne rfl).ne rfl).ne rfl).ne rfl)
  have s27_17 := m17 _ _ (At.hit z15.put.put.put.put.put.put.put rfl)
  clear m17
  refine l_qg (wanted_is (j := 7) (d := 27) (b := true) rfl rfl s27_17 rfl) (q_row rfl Tryd.underlying24 rfl (sz24.trans (congrArg some rfl.symm)) s3_17.ev (fun _ e => by rw [e]; exact kg3_16) ?_)
  refine l_callg (fun v w' => v = .string nameW ∧ Low w16 w') (wanted_is (j := 7) (d := 27) (b := true) rfl rfl (s27_17.ne rfl) rfl) rfl rfl Tryd.func9 rfl (args1 rfl (At.hit z17 rfl).ev) ((BytesW.calls nameW _).mono fun _ _ ⟨e, k⟩ => ⟨_, e, rfl, k⟩) ?_
  rintro _ w18 ⟨rfl, h18⟩
  have kg1_18 := h18.blk kg1_16
  have kg3_18 := h18.blk kg3_16
  have kg7_18 := h18.blk kg7_16
  refine l_qg (wanted_is (j := 7) (d := 27) (b := true) rfl rfl ((s27_17.ne rfl).ne rfl) rfl) (q_len rfl rfl Tryd.underlying9 (At.hit z17.put rfl).ev ?_)
  refine l_qg (wanted_is (j := 7) (d := 27) (b := true) rfl rfl (((s27_17.ne rfl).ne rfl).ne rfl) rfl) (q_eql true rfl (At.hit z17.put.put rfl).ev rfl (decide_eq_true rfl) ?_)
  refine l_q rfl (q_pick (b := true) (.bool true) rfl ((((s27_17.ne rfl).ne rfl).ne rfl).ne rfl).ev (At.hit z17.put.put.put rfl).ev ?_)
  refine l_q rfl (q_move _ _ rfl (At.hit z17.put.put.put.put rfl).ev ?_)
  refine l_qg (wanted_is (j := 13) (d := 33) (b := true) rfl rfl (At.hit z17.put.put.put.put.put rfl) rfl) (q_row rfl Tryd.underlying24 rfl (sz24.trans (congrArg some rfl.symm)) ((((((s3_17.ne rfl).ne rfl).ne rfl).ne rfl).ne rfl).ne rfl).ev (fun _ e => by rw [e]; exact kg3_18) ?_)
  refine l_callg (fun v w' => v = .string digW ∧ Low w18 w') (wanted_is (j := 13) (d := 33) (b := true) rfl rfl ((At.hit z17.put.put.put.put.put rfl).ne rfl) rfl) rfl rfl Tryd.func18 rfl (args1 rfl (At.hit z17.put.put.put.put.put.put rfl).ev) ((DigitsW.calls 40 nameW digW digits_W _).mono fun _ _ ⟨e, k⟩ => ⟨_, e, rfl, k⟩) ?_
  rintro _ w19 ⟨rfl, h19⟩
  have kg1_19 := h19.blk kg1_18
  have kg3_19 := h19.blk kg3_18
  have kg7_19 := h19.blk kg7_18
  refine l_fresh z17.put.put.put.put.put.put.put.put ?_
  intro a20 z20 m20
  have s3_20 := m20 _ _ ((((((((s3_17.ne rfl).ne rfl).ne rfl).ne rfl).ne rfl).ne rfl).ne rfl).ne rfl)
  have s4_20 := m20 _ _ ((((((((s4_17.ne rfl).ne rfl).ne rfl).ne rfl).ne rfl).ne rfl).ne rfl).ne rfl)
  have s6_20 := m20 _ _ ((((((((s6_17.ne rfl).ne rfl).ne rfl).ne rfl).ne rfl).ne rfl).ne rfl).ne rfl)
  have s7_20 := m20 _ _ ((((((((s7_17.ne rfl).ne rfl).ne rfl).ne rfl).ne rfl).ne rfl).ne rfl).ne rfl)
  have s33_20 := m20 _ _ (((At.hit z17.put.put.put.put.put rfl).ne rfl).ne rfl)
  have s35_20 := m20 _ _ (At.hit z17.put.put.put.put.put.put.put rfl)
  clear m20
  refine l_qg (wanted_is (j := 13) (d := 33) (b := true) rfl rfl s33_20 rfl) (q_cuthi (k := 8) rfl Tryd.underlying9 s35_20.ev rfl (by first | omega | decide) ?_)
  refine l_qg (wanted_is (j := 13) (d := 33) (b := true) rfl rfl (s33_20.ne rfl) rfl) (q_streq true rfl (At.hit z20 rfl).ev rfl (beq_is (by rfl)) ?_)
  refine l_q rfl (q_pick (b := true) (.bool true) rfl ((s33_20.ne rfl).ne rfl).ev (At.hit z20.put rfl).ev ?_)
  refine l_q rfl (q_move _ _ rfl (At.hit z20.put.put rfl).ev ?_)
  refine l_qg (wanted_is (j := 19) (d := 39) (b := true) rfl rfl (At.hit z20.put.put.put rfl) rfl) (q_move _ _ rfl ((((s4_20.ne rfl).ne rfl).ne rfl).ne rfl).ev ?_)
  refine l_qg (wanted_is (j := 19) (d := 39) (b := true) rfl rfl ((At.hit z20.put.put.put rfl).ne rfl) rfl) (q_eql true rfl (At.hit z20.put.put.put.put rfl).ev rfl (decide_eq_true rfl) ?_)
  refine l_q rfl (q_pick (b := true) (.bool true) rfl (((At.hit z20.put.put.put rfl).ne rfl).ne rfl).ev (At.hit z20.put.put.put.put.put rfl).ev ?_)
  refine l_q rfl (q_move _ _ rfl (At.hit z20.put.put.put.put.put.put rfl).ev ?_)
  refine l_fresh z20.put.put.put.put.put.put.put.put ?_
  intro a21 z21 m21
  have s3_21 := m21 _ _ ((((((((s3_20.ne rfl).ne rfl).ne rfl).ne rfl).ne rfl).ne rfl).ne rfl).ne rfl)
  have s6_21 := m21 _ _ ((((((((s6_20.ne rfl).ne rfl).ne rfl).ne rfl).ne rfl).ne rfl).ne rfl).ne rfl)
  have s7_21 := m21 _ _ ((((((((s7_20.ne rfl).ne rfl).ne rfl).ne rfl).ne rfl).ne rfl).ne rfl).ne rfl)
  have s43_21 := m21 _ _ (At.hit z20.put.put.put.put.put.put.put rfl)
  clear m21
  refine l_qg (wanted_is (j := 23) (d := 43) (b := true) rfl rfl s43_21 rfl) (q_move _ _ rfl s6_21.ev ?_)
  refine l_qg (wanted_is (j := 23) (d := 43) (b := true) rfl rfl (s43_21.ne rfl) rfl) (q_eql true rfl (At.hit z21 rfl).ev rfl (decide_eq_true rfl) ?_)
  refine l_q rfl (q_pick (b := true) (.bool true) rfl ((s43_21.ne rfl).ne rfl).ev (At.hit z21.put rfl).ev ?_)
  refine l_q rfl (q_move _ _ rfl (At.hit z21.put.put rfl).ev ?_)
  refine l_qg (wanted_is (j := 27) (d := 47) (b := true) rfl rfl (At.hit z21.put.put.put rfl) rfl) (q_row rfl Tryd.underlying24 rfl (sz24.trans (congrArg some rfl.symm)) ((((s7_21.ne rfl).ne rfl).ne rfl).ne rfl).ev (fun _ e => by rw [e]; exact kg7_19) ?_)
  refine l_callg (fun v w' => v = .bool true ∧ Low w19 w') (wanted_is (j := 27) (d := 47) (b := true) rfl rfl ((At.hit z21.put.put.put rfl).ne rfl) rfl) rfl rfl Tryd.func10 rfl (args1 rfl (At.hit z21.put.put.put.put rfl).ev) ((Zero_yes.calls _).mono fun _ _ ⟨e, k⟩ => ⟨_, e, rfl, k⟩) ?_
  rintro _ w22 ⟨rfl, h22⟩
  have kg1_22 := h22.blk kg1_19
  have kg3_22 := h22.blk kg3_19
  have kg7_22 := h22.blk kg7_19
  refine l_q rfl (q_pick (b := true) (.bool true) rfl (((At.hit z21.put.put.put rfl).ne rfl).ne rfl).ev (At.hit z21.put.put.put.put.put rfl).ev ?_)
  refine l_q rfl (q_move _ _ rfl (At.hit z21.put.put.put.put.put.put rfl).ev ?_)
  refine l_fresh z21.put.put.put.put.put.put.put.put ?_
  intro a23 z23 m23
  have s3_23 := m23 _ _ ((((((((s3_21.ne rfl).ne rfl).ne rfl).ne rfl).ne rfl).ne rfl).ne rfl).ne rfl)
  have s51_23 := m23 _ _ (At.hit z21.put.put.put.put.put.put.put rfl)
  clear m23
  refine l_qg (wanted_is (j := 31) (d := 51) (b := true) rfl rfl s51_23 rfl) (q_row rfl Tryd.underlying24 rfl (sz24.trans (congrArg some rfl.symm)) s3_23.ev (fun _ e => by rw [e]; exact kg3_22) ?_)
  refine l_callg (fun v w' => v = .bool false ∧ Low w22 w') (wanted_is (j := 31) (d := 51) (b := true) rfl rfl (s51_23.ne rfl) rfl) rfl rfl Tryd.func10 rfl (args1 rfl (At.hit z23 rfl).ev) ((Zero_no.calls nameW (by decide) _).mono fun _ _ ⟨e, k⟩ => ⟨_, e, rfl, k⟩) ?_
  rintro _ w24 ⟨rfl, h24⟩
  have kg1_24 := h24.blk kg1_22
  have kg3_24 := h24.blk kg3_22
  have kg7_24 := h24.blk kg7_22
  refine l_qg (wanted_is (j := 31) (d := 51) (b := true) rfl rfl ((s51_23.ne rfl).ne rfl) rfl) (q_not (b := false) rfl (At.hit z23.put rfl).ev ?_)
  refine l_q rfl (q_pick (b := true) (.bool true) rfl (((s51_23.ne rfl).ne rfl).ne rfl).ev (At.hit z23.put.put rfl).ev ?_)
  refine l_q rfl (q_move _ _ rfl (At.hit z23.put.put.put rfl).ev ?_)
  refine l_callg (fun v w' => v = .string (word 4) ∧ Low w24 w') (wanted_is (j := 36) (d := 56) (b := true) rfl rfl (At.hit z23.put.put.put.put rfl) rfl) rfl rfl Tryd.func14 rfl (args1 rfl rfl) ((Word.calls 4 _).mono fun _ _ ⟨e, k⟩ => ⟨_, e, rfl, k⟩) ?_
  rintro _ w25 ⟨rfl, h25⟩
  have kg1_25 := h25.blk kg1_24
  have kg3_25 := h25.blk kg3_24
  have kg7_25 := h25.blk kg7_24
  refine l_qg (wanted_is (j := 36) (d := 56) (b := true) rfl rfl ((At.hit z23.put.put.put.put rfl).ne rfl) rfl) (q_streq true rfl (At.hit z23.put.put.put.put.put rfl).ev rfl (beq_is (by rfl)) ?_)
  refine l_q rfl (q_pick (b := true) (.bool true) rfl (((At.hit z23.put.put.put.put rfl).ne rfl).ne rfl).ev (At.hit z23.put.put.put.put.put.put rfl).ev ?_)
  refine l_fresh z23.put.put.put.put.put.put.put.put ?_
  intro a26 z26 m26
  have s59_26 := m26 _ _ (At.hit z23.put.put.put.put.put.put.put rfl)
  clear m26
  refine l_q rfl (q_move _ _ rfl s59_26.ev ?_)
  refine l_callg (fun v w' => v = .int .i64 2 ∧ Low w25 w') (wanted_is (j := 40) (d := 60) (b := true) rfl rfl (At.hit z26 rfl) rfl) rfl rfl Tryd.func19 rfl (args1 rfl rfl) ((ident_Kind.calls 10 _ 2 _ kind_tree).mono fun _ _ ⟨e, k⟩ => ⟨_, e, rfl, k⟩) ?_
  rintro _ w27 ⟨rfl, h27⟩
  have kg1_27 := h27.blk kg1_25
  have kg3_27 := h27.blk kg3_25
  have kg7_27 := h27.blk kg7_25
  refine l_qg (wanted_is (j := 40) (d := 60) (b := true) rfl rfl ((At.hit z26 rfl).ne rfl) rfl) (q_eql true rfl (At.hit z26.put rfl).ev rfl (decide_eq_true rfl) ?_)
  refine l_q rfl (q_pick (b := true) (.bool true) rfl (((At.hit z26 rfl).ne rfl).ne rfl).ev (At.hit z26.put.put rfl).ev ?_)
  refine l_q rfl (q_assign _ _ rfl (At.hit z26.put.put.put rfl).ev ?_)
  refine l_end ?_
  refine e_fresh z26.put.put.put.put.put ?_
  intro a28 z28 m28
  have s0_28 := m28 _ _ (At.hit z26.put.put.put.put rfl)
  have low28 := (((((((low15.trans h16).trans h18).trans h19).trans h22).trans h24).trans h25).trans h27)
  clear m28
  refine e_then ?_
  refine wp_ret ?_
  refine r_tmp rfl z28.defers s0_28 ?_
  exact ⟨rfl, low28⟩
end Go.Proofs.YtfjhnnpdaggnbaaDoor.Q
end
/-! K1 -/
section
namespace Go.Proofs.YtfjhnnpdaggnbaaDoor.Q
open Go.RowKit Go.Proofs.YtfjhnnpdaggnbaaDoor.P
theorem split_unique {α : Type} (c : α) : ∀ (l1 l2 r1 r2 : List α), c ∉ l1 → c ∉ l2 → l1 ++ c :: r1 = l2 ++ c :: r2 → l1 = l2 ∧ r1 = r2
  | [], [], r1, r2, _, _, h => by simpa using h
  | [], b :: l2, r1, r2, _, h2, h => by
    simp only [List.nil_append, List.cons_append, List.cons.injEq] at h
    exact absurd (by rw [h.1]; exact List.mem_cons_self) h2
  | a :: l1, [], r1, r2, h1, _, h => by
    simp only [List.nil_append, List.cons_append, List.cons.injEq] at h
    exact absurd (by rw [h.1]; exact List.mem_cons_self) h1
  | a :: l1, b :: l2, r1, r2, h1, h2, h => by
    simp only [List.cons_append, List.cons.injEq] at h
    have := split_unique c l1 l2 r1 r2 (fun m => h1 (List.mem_cons_of_mem _ m)) (fun m => h2 (List.mem_cons_of_mem _ m)) h.2
    exact ⟨by rw [h.1, this.1], this.2⟩
theorem dec_ne (u : Nat) : (0 : UInt8) ∉ Lib.decDigits u := by
  induction u using Nat.strongRecOn with
  | ind u ih =>
    have hd : ∀ v, v < 10 → (0 : UInt8) ≠ UInt8.ofNat (48 + v) := fun v hv e => by
      have := congrArg UInt8.toNat e
      rw [UInt8.toNat_ofNat'] at this
      simp at this
      omega
    rw [Lib.decDigits]
    split
    · rename_i h
      simpa using hd u h
    · rename_i h
      rw [List.mem_append, not_or]
      refine ⟨ih (u / 10) (by omega), ?_⟩
      simpa using hd (u % 10) (by omega)
def wordL (k : Int) : List UInt8 := (word k).data.toList
theorem wordL_ne (k : Int) : (32 : UInt8) ∉ wordL k := by
  unfold wordL word
  repeat' split
  all_goals decide
theorem wordL_inj (k o : Int) (hk : word k ≠ ⟨#[]⟩) (h : wordL k = wordL o) : k = o := by
  unfold wordL word at h
  unfold word at hk
  repeat' split at h
  all_goals first
    | (subst_vars; rfl)
    | (exfalso; revert h; decide)
    | skip
  all_goals simp_all
theorem rowS_list (k : Int) (y : ByteArray) : (rowS k y).data.toList = wordL k ++ 32 :: (Lib.itoa (y.size : Int) ++ 0 :: y.data.toList) := by
  unfold rowS wordL itoaS
  simp [ByteArray.data_append]
theorem rowS_inj (k o : Int) (y x : ByteArray) (hk : word k ≠ ⟨#[]⟩) (h : rowS k y = rowS o x) : k = o ∧ y = x := by
  have h1 := congrArg (fun s => s.data.toList) h
  simp only [rowS_list] at h1
  obtain ⟨e1, e2⟩ := split_unique _ _ _ _ _ (wordL_ne k) (wordL_ne o) h1
  rw [Lib.itoa_nonneg, Lib.itoa_nonneg] at e2
  obtain ⟨_, e3⟩ := split_unique _ _ _ _ _ (dec_ne _) (dec_ne _) e2
  exact ⟨wordL_inj k o hk e1, ByteArray.ext (Array.toList_inj.1 e3)⟩
theorem rows_same (k : Int) (y x : ByteArray) (hk : word k ≠ ⟨#[]⟩) : ((rowS k y).toList == (rowS k x).toList) = (y.toList == x.toList) := by
  rw [eqB, eqB, Bool.eq_iff_iff, decide_eq_true_iff, decide_eq_true_iff]
  exact ⟨fun h => (rowS_inj k k y x hk h).2, fun h => by rw [h]⟩
theorem rows_ne (k o : Int) (y x : ByteArray) (hk : word k ≠ ⟨#[]⟩) (hne : ¬ k = o) : ((rowS k y).toList == (rowS o x).toList) = false := by
  rw [eqB]
  exact decide_eq_false fun h => hne (rowS_inj k o y x hk h).1
theorem rowS_head (k : Int) (y : ByteArray) : ∃ t : ByteArray, rowS k y = (word k ++ ⟨#[32]⟩) ++ t ∧ t = itoaS y.size ++ ⟨#[0]⟩ ++ y := by
  refine ⟨_, ?_, rfl⟩
  unfold rowS
  simp only [ByteArray.append_assoc]
theorem rowS_front (k : Int) (y : ByteArray) : (rowS k y).extract 0 ((word k).size + 1) = word k ++ ⟨#[32]⟩ := by
  obtain ⟨t, h, _⟩ := rowS_head k y
  rw [h]
  have hs : (word k ++ (⟨#[32]⟩ : ByteArray)).size = (word k).size + 1 := by rw [ByteArray.size_append]; rfl
  rw [← hs]
  exact ByteArray.extract_append_eq_left rfl
theorem rowS_size' (k : Int) (y : ByteArray) : (rowS k y).size = (word k).size + 1 + (itoaS y.size).size + 1 + y.size := by
  unfold rowS
  simp only [ByteArray.size_append, sz_sp, sz_z]
theorem rowS_back (k : Int) (y : ByteArray) : (rowS k y).extract ((rowS k y).size - y.size) (rowS k y).size = y := by
  have hs := rowS_size' k y
  have hp : (word k ++ ⟨#[32]⟩ ++ itoaS y.size ++ ⟨#[0]⟩).size = (rowS k y).size - y.size := by
    rw [hs]
    simp only [ByteArray.size_append, sz_sp, sz_z]
    omega
  rw [← hp]
  unfold rowS
  exact ByteArray.extract_append_eq_right rfl ByteArray.size_append
theorem rowS_zero (k : Int) (y : ByteArray) (h : (rowS k y).size - y.size - 1 < (rowS k y).size) : ((rowS k y)[(rowS k y).size - y.size - 1]'h).toNat = 0 := by
  have hs := rowS_size' k y
  rw [bt_in h]
  have hp : (word k ++ ⟨#[32]⟩ ++ itoaS y.size).size = (rowS k y).size - y.size - 1 := by
    rw [hs]
    simp only [ByteArray.size_append, sz_sp]
    omega
  rw [← hp]
  unfold rowS
  rw [bt_append, if_pos (by simp only [ByteArray.size_append, sz_z]; omega), bt_append, if_neg (by omega), Nat.sub_self]
  decide
theorem word_some {k : Int} (h : ¬ word k = ⟨#[]⟩) : ((word k).toList == (⟨#[]⟩ : ByteArray).toList) = false := beq_no h
theorem row_some {k : Int} (h : ¬ word k = ⟨#[]⟩) (y : ByteArray) : row k y = rowS k y := by
  unfold row
  rw [word_some h]
  rfl
theorem row_none {k : Int} (h : word k = ⟨#[]⟩) (y : ByteArray) : row k y = ⟨#[]⟩ := by
  unfold row
  rw [beq_is h]
  rfl
theorem rowS_ne (k : Int) (y : ByteArray) : ¬ rowS k y = ⟨#[]⟩ := fun h => by
  have h1 := congrArg ByteArray.size h
  rw [rowS_size'] at h1
  have h2 : (⟨#[]⟩ : ByteArray).size = 0 := rfl
  omega
end Go.Proofs.YtfjhnnpdaggnbaaDoor.Q
end
/-! G6 -/
section
namespace Go.Proofs.YtfjhnnpdaggnbaaDoor.Q
open Go.Proofs.YtfjhnnpdaggnbaaDoorW.PrintWords (bytesOf bytesOf_length)
open Go.RowKit Go.Proofs.YtfjhnnpdaggnbaaDoor.P
set_option linter.unusedVariables false
set_option linter.unusedSimpArgs false
set_option maxRecDepth 100000
set_option maxHeartbeats 4000000
attribute [local irreducible] wpList wpQuiet qch Code.wp Oper.quiet Act.put At Region.wanted yielded
theorem RowS.calls (kind : Int) (c : ByteArray) (hc : c.size ≤ 140737488340000) (hk : ¬ word kind = ⟨#[]⟩) (w0 : World) (hG : Gd w0) : Calls Tryd.prog 13 #[.int .i64 kind, .string c] w0 fun e w' => e = .returned (.string (rowS kind c)) ∧ Low w0 w' := by
  rw [← row_some hk]
  exact Row.calls kind c hc w0 hG
theorem Rowl_a.calls (kind other : Int) (y x : ByteArray) (h1 : y.size > 1000) (w0 : World) (hG : Gd w0) : Calls Tryd.prog 5 #[.int .i64 kind, .int .i64 other, .string y, .string x] w0 fun e w' => e = .returned (.bool true) ∧ Low w0 w' := by
  refine c_fun (R := _) Tryd.func5 rfl 94 rfl (Nat.le_of_ble_eq_true rfl) ?_
  intro a z hA
  have s0 := hA 0 _ rfl
  have s1 := hA 1 _ rfl
  have s2 := hA 2 _ rfl
  have s3 := hA 3 _ rfl
  clear hA
  refine c_seq ?_
  refine c_region ?_
  refine l_q rfl (q_assign _ _ rfl rfl ?_)
  refine l_end ?_
  refine e_fresh z.put ?_
  intro a1 z1 m1
  have s0_1 := m1 _ _ (s0.ne rfl)
  have s1_1 := m1 _ _ (s1.ne rfl)
  have s2_1 := m1 _ _ (s2.ne rfl)
  have s3_1 := m1 _ _ (s3.ne rfl)
  clear m1
  refine e_then ?_
  refine c_seq ?_
  refine c_seq ?_
  refine c_region ?_
  refine l_call (fun v w' => v = .bool true ∧ Low w0 w') rfl rfl rfl Tryd.func6 rfl (show Array.map _ _ = (#[] : Array Value) from by simp) ((Awake10.calls _ (Gd.low hG (Low.refl _))).mono fun _ _ ⟨e, k⟩ => ⟨_, e, rfl, k⟩) ?_
  rintro _ w2 ⟨rfl, h2⟩
  refine l_q rfl (q_not (b := true) rfl (At.hit z1 rfl).ev ?_)
  refine l_end ?_
  refine e_fresh z1.put.put ?_
  intro a3 z3 m3
  have s0_3 := m3 _ _ ((s0_1.ne rfl).ne rfl)
  have s1_3 := m3 _ _ ((s1_1.ne rfl).ne rfl)
  have s2_3 := m3 _ _ ((s2_1.ne rfl).ne rfl)
  have s3_3 := m3 _ _ ((s3_1.ne rfl).ne rfl)
  have s12_3 := m3 _ _ (At.hit z1.put rfl)
  have low3 := h2
  clear m3
  refine e_then ?_
  refine c_false s12_3 ?_
  refine wp_skip ?_
  refine e_then ?_
  refine c_seq ?_
  refine c_seq ?_
  refine c_region ?_
  refine l_q rfl (q_move _ _ rfl s2_3.ev ?_)
  refine l_q rfl (q_len rfl rfl Tryd.underlying9 (At.hit z3 rfl).ev ?_)
  refine l_q rfl (q_gtr true rfl (At.hit z3.put rfl).ev rfl (decide_eq_true (by omega)) ?_)
  refine l_q rfl (q_move _ _ rfl (At.hit z3.put.put rfl).ev ?_)
  refine l_skip (wanted_is (j := 3) (d := 16) (b := true) rfl rfl (At.hit z3.put.put.put rfl) rfl) ?_
  refine l_skip (wanted_is (j := 3) (d := 16) (b := true) rfl rfl ((At.hit z3.put.put.put rfl).ne rfl) rfl) ?_
  refine l_skip (wanted_is (j := 3) (d := 16) (b := true) rfl rfl (((At.hit z3.put.put.put rfl).ne rfl).ne rfl) rfl) ?_
  refine l_q rfl (q_pick (b := true) (.bool true) rfl ((((At.hit z3.put.put.put rfl).ne rfl).ne rfl).ne rfl).ev rfl ?_)
  refine l_end ?_
  refine e_fresh z3.put.put.put.put.put.put.put.put ?_
  intro a4 z4 m4
  have s0_4 := m4 _ _ ((((((((s0_3.ne rfl).ne rfl).ne rfl).ne rfl).ne rfl).ne rfl).ne rfl).ne rfl)
  have s1_4 := m4 _ _ ((((((((s1_3.ne rfl).ne rfl).ne rfl).ne rfl).ne rfl).ne rfl).ne rfl).ne rfl)
  have s2_4 := m4 _ _ ((((((((s2_3.ne rfl).ne rfl).ne rfl).ne rfl).ne rfl).ne rfl).ne rfl).ne rfl)
  have s3_4 := m4 _ _ ((((((((s3_3.ne rfl).ne rfl).ne rfl).ne rfl).ne rfl).ne rfl).ne rfl).ne rfl)
  have s20_4 := m4 _ _ (At.hit z3.put.put.put.put.put.put.put rfl)
  clear m4
  refine e_then ?_
  refine c_true s20_4 ?_
  refine c_seq ?_
  refine c_region ?_
  refine l_q rfl (q_assign _ _ rfl rfl ?_)
  refine l_end ?_
  refine e_fresh z4.put ?_
  intro a5 z5 m5
  have s8_5 := m5 _ _ (At.hit z4 rfl)
  clear m5
  refine e_then ?_
  refine wp_ret ?_
  refine ret_then ?_
  refine r_tmp rfl z5.defers s8_5 ?_
  exact ⟨rfl, low3⟩
theorem Rowl_b.calls (kind other : Int) (y x : ByteArray) (h1 : ¬ y.size > 1000) (h2 : x.size > 1000) (w0 : World) (hG : Gd w0) : Calls Tryd.prog 5 #[.int .i64 kind, .int .i64 other, .string y, .string x] w0 fun e w' => e = .returned (.bool true) ∧ Low w0 w' := by
  refine c_fun (R := _) Tryd.func5 rfl 94 rfl (Nat.le_of_ble_eq_true rfl) ?_
  intro a z hA
  have s0 := hA 0 _ rfl
  have s1 := hA 1 _ rfl
  have s2 := hA 2 _ rfl
  have s3 := hA 3 _ rfl
  clear hA
  refine c_seq ?_
  refine c_region ?_
  refine l_q rfl (q_assign _ _ rfl rfl ?_)
  refine l_end ?_
  refine e_fresh z.put ?_
  intro a1 z1 m1
  have s0_1 := m1 _ _ (s0.ne rfl)
  have s1_1 := m1 _ _ (s1.ne rfl)
  have s2_1 := m1 _ _ (s2.ne rfl)
  have s3_1 := m1 _ _ (s3.ne rfl)
  clear m1
  refine e_then ?_
  refine c_seq ?_
  refine c_seq ?_
  refine c_region ?_
  refine l_call (fun v w' => v = .bool true ∧ Low w0 w') rfl rfl rfl Tryd.func6 rfl (show Array.map _ _ = (#[] : Array Value) from by simp) ((Awake10.calls _ (Gd.low hG (Low.refl _))).mono fun _ _ ⟨e, k⟩ => ⟨_, e, rfl, k⟩) ?_
  rintro _ w2 ⟨rfl, h2⟩
  refine l_q rfl (q_not (b := true) rfl (At.hit z1 rfl).ev ?_)
  refine l_end ?_
  refine e_fresh z1.put.put ?_
  intro a3 z3 m3
  have s0_3 := m3 _ _ ((s0_1.ne rfl).ne rfl)
  have s1_3 := m3 _ _ ((s1_1.ne rfl).ne rfl)
  have s2_3 := m3 _ _ ((s2_1.ne rfl).ne rfl)
  have s3_3 := m3 _ _ ((s3_1.ne rfl).ne rfl)
  have s12_3 := m3 _ _ (At.hit z1.put rfl)
  have low3 := h2
  clear m3
  refine e_then ?_
  refine c_false s12_3 ?_
  refine wp_skip ?_
  refine e_then ?_
  refine c_seq ?_
  refine c_seq ?_
  refine c_region ?_
  refine l_q rfl (q_move _ _ rfl s2_3.ev ?_)
  refine l_q rfl (q_len rfl rfl Tryd.underlying9 (At.hit z3 rfl).ev ?_)
  refine l_q rfl (q_gtr false rfl (At.hit z3.put rfl).ev rfl (decide_eq_false (by omega)) ?_)
  refine l_q rfl (q_move _ _ rfl (At.hit z3.put.put rfl).ev ?_)
  refine l_qg (wanted_is (j := 3) (d := 16) (b := false) rfl rfl (At.hit z3.put.put.put rfl) rfl) (q_move _ _ rfl ((((s3_3.ne rfl).ne rfl).ne rfl).ne rfl).ev ?_)
  refine l_qg (wanted_is (j := 3) (d := 16) (b := false) rfl rfl ((At.hit z3.put.put.put rfl).ne rfl) rfl) (q_len rfl rfl Tryd.underlying9 (At.hit z3.put.put.put.put rfl).ev ?_)
  refine l_qg (wanted_is (j := 3) (d := 16) (b := false) rfl rfl (((At.hit z3.put.put.put rfl).ne rfl).ne rfl) rfl) (q_gtr true rfl (At.hit z3.put.put.put.put.put rfl).ev rfl (decide_eq_true (by omega)) ?_)
  refine l_q rfl (q_pick (b := false) (.bool true) rfl ((((At.hit z3.put.put.put rfl).ne rfl).ne rfl).ne rfl).ev (At.hit z3.put.put.put.put.put.put rfl).ev ?_)
  refine l_end ?_
  refine e_fresh z3.put.put.put.put.put.put.put.put ?_
  intro a4 z4 m4
  have s0_4 := m4 _ _ ((((((((s0_3.ne rfl).ne rfl).ne rfl).ne rfl).ne rfl).ne rfl).ne rfl).ne rfl)
  have s1_4 := m4 _ _ ((((((((s1_3.ne rfl).ne rfl).ne rfl).ne rfl).ne rfl).ne rfl).ne rfl).ne rfl)
  have s2_4 := m4 _ _ ((((((((s2_3.ne rfl).ne rfl).ne rfl).ne rfl).ne rfl).ne rfl).ne rfl).ne rfl)
  have s3_4 := m4 _ _ ((((((((s3_3.ne rfl).ne rfl).ne rfl).ne rfl).ne rfl).ne rfl).ne rfl).ne rfl)
  have s20_4 := m4 _ _ (At.hit z3.put.put.put.put.put.put.put rfl)
  clear m4
  refine e_then ?_
  refine c_true s20_4 ?_
  refine c_seq ?_
  refine c_region ?_
  refine l_q rfl (q_assign _ _ rfl rfl ?_)
  refine l_end ?_
  refine e_fresh z4.put ?_
  intro a5 z5 m5
  have s8_5 := m5 _ _ (At.hit z4 rfl)
  clear m5
  refine e_then ?_
  refine wp_ret ?_
  refine ret_then ?_
  refine r_tmp rfl z5.defers s8_5 ?_
  exact ⟨rfl, low3⟩
theorem Rowl_c.calls (kind other : Int) (y x : ByteArray) (h1 : ¬ y.size > 1000) (h2 : ¬ x.size > 1000) (hk : word kind = ⟨#[]⟩) (w0 : World) (hG : Gd w0) : Calls Tryd.prog 5 #[.int .i64 kind, .int .i64 other, .string y, .string x] w0 fun e w' => e = .returned (.bool true) ∧ Low w0 w' := by
  refine c_fun (R := _) Tryd.func5 rfl 94 rfl (Nat.le_of_ble_eq_true rfl) ?_
  intro a z hA
  have s0 := hA 0 _ rfl
  have s1 := hA 1 _ rfl
  have s2 := hA 2 _ rfl
  have s3 := hA 3 _ rfl
  clear hA
  refine c_seq ?_
  refine c_region ?_
  refine l_q rfl (q_assign _ _ rfl rfl ?_)
  refine l_end ?_
  refine e_fresh z.put ?_
  intro a1 z1 m1
  have s0_1 := m1 _ _ (s0.ne rfl)
  have s1_1 := m1 _ _ (s1.ne rfl)
  have s2_1 := m1 _ _ (s2.ne rfl)
  have s3_1 := m1 _ _ (s3.ne rfl)
  clear m1
  refine e_then ?_
  refine c_seq ?_
  refine c_seq ?_
  refine c_region ?_
  refine l_call (fun v w' => v = .bool true ∧ Low w0 w') rfl rfl rfl Tryd.func6 rfl (show Array.map _ _ = (#[] : Array Value) from by simp) ((Awake10.calls _ (Gd.low hG (Low.refl _))).mono fun _ _ ⟨e, k⟩ => ⟨_, e, rfl, k⟩) ?_
  rintro _ w2 ⟨rfl, h2⟩
  refine l_q rfl (q_not (b := true) rfl (At.hit z1 rfl).ev ?_)
  refine l_end ?_
  refine e_fresh z1.put.put ?_
  intro a3 z3 m3
  have s0_3 := m3 _ _ ((s0_1.ne rfl).ne rfl)
  have s1_3 := m3 _ _ ((s1_1.ne rfl).ne rfl)
  have s2_3 := m3 _ _ ((s2_1.ne rfl).ne rfl)
  have s3_3 := m3 _ _ ((s3_1.ne rfl).ne rfl)
  have s12_3 := m3 _ _ (At.hit z1.put rfl)
  have low3 := h2
  clear m3
  refine e_then ?_
  refine c_false s12_3 ?_
  refine wp_skip ?_
  refine e_then ?_
  refine c_seq ?_
  refine c_seq ?_
  refine c_region ?_
  refine l_q rfl (q_move _ _ rfl s2_3.ev ?_)
  refine l_q rfl (q_len rfl rfl Tryd.underlying9 (At.hit z3 rfl).ev ?_)
  refine l_q rfl (q_gtr false rfl (At.hit z3.put rfl).ev rfl (decide_eq_false (by omega)) ?_)
  refine l_q rfl (q_move _ _ rfl (At.hit z3.put.put rfl).ev ?_)
  refine l_qg (wanted_is (j := 3) (d := 16) (b := false) rfl rfl (At.hit z3.put.put.put rfl) rfl) (q_move _ _ rfl ((((s3_3.ne rfl).ne rfl).ne rfl).ne rfl).ev ?_)
  refine l_qg (wanted_is (j := 3) (d := 16) (b := false) rfl rfl ((At.hit z3.put.put.put rfl).ne rfl) rfl) (q_len rfl rfl Tryd.underlying9 (At.hit z3.put.put.put.put rfl).ev ?_)
  refine l_qg (wanted_is (j := 3) (d := 16) (b := false) rfl rfl (((At.hit z3.put.put.put rfl).ne rfl).ne rfl) rfl) (q_gtr false rfl (At.hit z3.put.put.put.put.put rfl).ev rfl (decide_eq_false (by omega)) ?_)
  refine l_q rfl (q_pick (b := false) (.bool false) rfl ((((At.hit z3.put.put.put rfl).ne rfl).ne rfl).ne rfl).ev (At.hit z3.put.put.put.put.put.put rfl).ev ?_)
  refine l_end ?_
  refine e_fresh z3.put.put.put.put.put.put.put.put ?_
  intro a4 z4 m4
  have s0_4 := m4 _ _ ((((((((s0_3.ne rfl).ne rfl).ne rfl).ne rfl).ne rfl).ne rfl).ne rfl).ne rfl)
  have s1_4 := m4 _ _ ((((((((s1_3.ne rfl).ne rfl).ne rfl).ne rfl).ne rfl).ne rfl).ne rfl).ne rfl)
  have s2_4 := m4 _ _ ((((((((s2_3.ne rfl).ne rfl).ne rfl).ne rfl).ne rfl).ne rfl).ne rfl).ne rfl)
  have s3_4 := m4 _ _ ((((((((s3_3.ne rfl).ne rfl).ne rfl).ne rfl).ne rfl).ne rfl).ne rfl).ne rfl)
  have s20_4 := m4 _ _ (At.hit z3.put.put.put.put.put.put.put rfl)
  clear m4
  refine e_then ?_
  refine c_false s20_4 ?_
  refine wp_skip ?_
  refine e_then ?_
  refine c_seq ?_
  refine c_region ?_
  refine l_q rfl (q_move _ _ rfl s0_4.ev ?_)
  refine l_q rfl (q_move _ _ rfl (s2_4.ne rfl).ev ?_)
  refine l_call (fun v w' => v = .string (row kind y) ∧ Low w2 w') rfl rfl rfl Tryd.func13 rfl (args2 rfl ((At.hit z4 rfl).ne rfl).ev (At.hit z4.put rfl).ev) ((Row.calls kind y (by omega) _ (Gd.low hG low3)).mono fun _ _ ⟨e, k⟩ => ⟨_, e, rfl, k⟩) ?_
  rintro _ w5 ⟨rfl, h5⟩
  refine l_q rfl (q_move _ _ rfl (((s1_4.ne rfl).ne rfl).ne rfl).ev ?_)
  refine l_q rfl (q_move _ _ rfl ((((s3_4.ne rfl).ne rfl).ne rfl).ne rfl).ev ?_)
  refine l_call (fun v w' => v = .string (row other x) ∧ Low w5 w') rfl rfl rfl Tryd.func13 rfl (args2 rfl ((At.hit z4.put.put.put rfl).ne rfl).ev (At.hit z4.put.put.put.put rfl).ev) ((Row.calls other x (by omega) _ (Gd.low hG (low3.trans h5))).mono fun _ _ ⟨e, k⟩ => ⟨_, e, rfl, k⟩) ?_
  rintro _ w6 ⟨rfl, h6⟩
  refine l_q rfl (q_assign _ _ rfl ((((At.hit z4.put.put rfl).ne rfl).ne rfl).ne rfl).ev ?_)
  refine l_q rfl (q_assign _ _ rfl ((At.hit z4.put.put.put.put.put rfl).ne rfl).ev ?_)
  refine l_end ?_
  refine e_fresh z4.put.put.put.put.put.put.put.put ?_
  intro a7 z7 m7
  have s0_7 := m7 _ _ ((((((((s0_4.ne rfl).ne rfl).ne rfl).ne rfl).ne rfl).ne rfl).ne rfl).ne rfl)
  have s1_7 := m7 _ _ ((((((((s1_4.ne rfl).ne rfl).ne rfl).ne rfl).ne rfl).ne rfl).ne rfl).ne rfl)
  have s2_7 := m7 _ _ ((((((((s2_4.ne rfl).ne rfl).ne rfl).ne rfl).ne rfl).ne rfl).ne rfl).ne rfl)
  have s3_7 := m7 _ _ ((((((((s3_4.ne rfl).ne rfl).ne rfl).ne rfl).ne rfl).ne rfl).ne rfl).ne rfl)
  have s9_7 := m7 _ _ ((At.hit z4.put.put.put.put.put.put rfl).ne rfl)
  have s10_7 := m7 _ _ (At.hit z4.put.put.put.put.put.put.put rfl)
  have low7 := ((low3.trans h5).trans h6)
  clear m7
  refine e_then ?_
  refine c_seq ?_
  refine c_seq ?_
  refine c_region ?_
  refine l_q rfl (q_move _ _ rfl s0_7.ev ?_)
  refine l_call (fun v w' => v = .string (word kind) ∧ Low w6 w') rfl rfl rfl Tryd.func14 rfl (args1 rfl (At.hit z7 rfl).ev) ((Word.calls kind _).mono fun _ _ ⟨e, k⟩ => ⟨_, e, rfl, k⟩) ?_
  rintro _ w8 ⟨rfl, h8⟩
  refine l_q rfl (q_streq true rfl (At.hit z7.put rfl).ev rfl (beq_is hk) ?_)
  refine l_q rfl (q_move _ _ rfl (At.hit z7.put.put rfl).ev ?_)
  refine l_skip (wanted_is (j := 3) (d := 30) (b := true) rfl rfl (At.hit z7.put.put.put rfl) rfl) ?_
  refine l_skip (wanted_is (j := 3) (d := 30) (b := true) rfl rfl ((At.hit z7.put.put.put rfl).ne rfl) rfl) ?_
  refine l_skip (wanted_is (j := 3) (d := 30) (b := true) rfl rfl (((At.hit z7.put.put.put rfl).ne rfl).ne rfl) rfl) ?_
  refine l_q rfl (q_pick (b := true) (.bool true) rfl ((((At.hit z7.put.put.put rfl).ne rfl).ne rfl).ne rfl).ev rfl ?_)
  refine l_end ?_
  refine e_fresh z7.put.put.put.put.put.put.put.put ?_
  intro a9 z9 m9
  have s0_9 := m9 _ _ ((((((((s0_7.ne rfl).ne rfl).ne rfl).ne rfl).ne rfl).ne rfl).ne rfl).ne rfl)
  have s1_9 := m9 _ _ ((((((((s1_7.ne rfl).ne rfl).ne rfl).ne rfl).ne rfl).ne rfl).ne rfl).ne rfl)
  have s2_9 := m9 _ _ ((((((((s2_7.ne rfl).ne rfl).ne rfl).ne rfl).ne rfl).ne rfl).ne rfl).ne rfl)
  have s3_9 := m9 _ _ ((((((((s3_7.ne rfl).ne rfl).ne rfl).ne rfl).ne rfl).ne rfl).ne rfl).ne rfl)
  have s9_9 := m9 _ _ ((((((((s9_7.ne rfl).ne rfl).ne rfl).ne rfl).ne rfl).ne rfl).ne rfl).ne rfl)
  have s10_9 := m9 _ _ ((((((((s10_7.ne rfl).ne rfl).ne rfl).ne rfl).ne rfl).ne rfl).ne rfl).ne rfl)
  have s34_9 := m9 _ _ (At.hit z7.put.put.put.put.put.put.put rfl)
  have low9 := (low7.trans h8)
  clear m9
  refine e_then ?_
  refine c_true s34_9 ?_
  refine c_seq ?_
  refine c_region ?_
  refine l_q rfl (q_move _ _ rfl s9_9.ev ?_)
  refine l_q rfl (q_streq true rfl (At.hit z9 rfl).ev rfl (beq_is (row_none hk y)) ?_)
  refine l_q rfl (q_move _ _ rfl ((s0_9.ne rfl).ne rfl).ev ?_)
  refine l_call (fun v w' => v = .string (word kind) ∧ Low w8 w') rfl rfl rfl Tryd.func14 rfl (args1 rfl (At.hit z9.put.put rfl).ev) ((Word.calls kind _).mono fun _ _ ⟨e, k⟩ => ⟨_, e, rfl, k⟩) ?_
  rintro _ w10 ⟨rfl, h10⟩
  refine l_q rfl (q_streq true rfl (At.hit z9.put.put.put rfl).ev rfl (beq_is hk) ?_)
  refine l_q rfl (q_eqB true rfl Tryd.underlying4 ((((At.hit z9.put rfl).ne rfl).ne rfl).ne rfl).ev (At.hit z9.put.put.put.put rfl).ev rfl ?_)
  refine l_q rfl (q_assign _ _ rfl (At.hit z9.put.put.put.put.put rfl).ev ?_)
  refine l_end ?_
  refine e_fresh z9.put.put.put.put.put.put.put ?_
  intro a11 z11 m11
  have s8_11 := m11 _ _ (At.hit z9.put.put.put.put.put.put rfl)
  have low11 := (low9.trans h10)
  clear m11
  refine e_then ?_
  refine wp_ret ?_
  refine ret_then ?_
  refine r_tmp rfl z11.defers s8_11 ?_
  exact ⟨rfl, low11⟩
theorem Rowl_d.calls (kind other : Int) (y x : ByteArray) (h1 : ¬ y.size > 1000) (h2 : ¬ x.size > 1000) (hk : ¬ word kind = ⟨#[]⟩) (ho : word other = ⟨#[]⟩) (w0 : World) (hG : Gd w0) : Calls Tryd.prog 5 #[.int .i64 kind, .int .i64 other, .string y, .string x] w0 fun e w' => e = .returned (.bool true) ∧ Low w0 w' := by
  refine c_fun (R := _) Tryd.func5 rfl 94 rfl (Nat.le_of_ble_eq_true rfl) ?_
  intro a z hA
  have s0 := hA 0 _ rfl
  have s1 := hA 1 _ rfl
  have s2 := hA 2 _ rfl
  have s3 := hA 3 _ rfl
  clear hA
  refine c_seq ?_
  refine c_region ?_
  refine l_q rfl (q_assign _ _ rfl rfl ?_)
  refine l_end ?_
  refine e_fresh z.put ?_
  intro a1 z1 m1
  have s0_1 := m1 _ _ (s0.ne rfl)
  have s1_1 := m1 _ _ (s1.ne rfl)
  have s2_1 := m1 _ _ (s2.ne rfl)
  have s3_1 := m1 _ _ (s3.ne rfl)
  clear m1
  refine e_then ?_
  refine c_seq ?_
  refine c_seq ?_
  refine c_region ?_
  refine l_call (fun v w' => v = .bool true ∧ Low w0 w') rfl rfl rfl Tryd.func6 rfl (show Array.map _ _ = (#[] : Array Value) from by simp) ((Awake10.calls _ (Gd.low hG (Low.refl _))).mono fun _ _ ⟨e, k⟩ => ⟨_, e, rfl, k⟩) ?_
  rintro _ w2 ⟨rfl, h2⟩
  refine l_q rfl (q_not (b := true) rfl (At.hit z1 rfl).ev ?_)
  refine l_end ?_
  refine e_fresh z1.put.put ?_
  intro a3 z3 m3
  have s0_3 := m3 _ _ ((s0_1.ne rfl).ne rfl)
  have s1_3 := m3 _ _ ((s1_1.ne rfl).ne rfl)
  have s2_3 := m3 _ _ ((s2_1.ne rfl).ne rfl)
  have s3_3 := m3 _ _ ((s3_1.ne rfl).ne rfl)
  have s12_3 := m3 _ _ (At.hit z1.put rfl)
  have low3 := h2
  clear m3
  refine e_then ?_
  refine c_false s12_3 ?_
  refine wp_skip ?_
  refine e_then ?_
  refine c_seq ?_
  refine c_seq ?_
  refine c_region ?_
  refine l_q rfl (q_move _ _ rfl s2_3.ev ?_)
  refine l_q rfl (q_len rfl rfl Tryd.underlying9 (At.hit z3 rfl).ev ?_)
  refine l_q rfl (q_gtr false rfl (At.hit z3.put rfl).ev rfl (decide_eq_false (by omega)) ?_)
  refine l_q rfl (q_move _ _ rfl (At.hit z3.put.put rfl).ev ?_)
  refine l_qg (wanted_is (j := 3) (d := 16) (b := false) rfl rfl (At.hit z3.put.put.put rfl) rfl) (q_move _ _ rfl ((((s3_3.ne rfl).ne rfl).ne rfl).ne rfl).ev ?_)
  refine l_qg (wanted_is (j := 3) (d := 16) (b := false) rfl rfl ((At.hit z3.put.put.put rfl).ne rfl) rfl) (q_len rfl rfl Tryd.underlying9 (At.hit z3.put.put.put.put rfl).ev ?_)
  refine l_qg (wanted_is (j := 3) (d := 16) (b := false) rfl rfl (((At.hit z3.put.put.put rfl).ne rfl).ne rfl) rfl) (q_gtr false rfl (At.hit z3.put.put.put.put.put rfl).ev rfl (decide_eq_false (by omega)) ?_)
  refine l_q rfl (q_pick (b := false) (.bool false) rfl ((((At.hit z3.put.put.put rfl).ne rfl).ne rfl).ne rfl).ev (At.hit z3.put.put.put.put.put.put rfl).ev ?_)
  refine l_end ?_
  refine e_fresh z3.put.put.put.put.put.put.put.put ?_
  intro a4 z4 m4
  have s0_4 := m4 _ _ ((((((((s0_3.ne rfl).ne rfl).ne rfl).ne rfl).ne rfl).ne rfl).ne rfl).ne rfl)
  have s1_4 := m4 _ _ ((((((((s1_3.ne rfl).ne rfl).ne rfl).ne rfl).ne rfl).ne rfl).ne rfl).ne rfl)
  have s2_4 := m4 _ _ ((((((((s2_3.ne rfl).ne rfl).ne rfl).ne rfl).ne rfl).ne rfl).ne rfl).ne rfl)
  have s3_4 := m4 _ _ ((((((((s3_3.ne rfl).ne rfl).ne rfl).ne rfl).ne rfl).ne rfl).ne rfl).ne rfl)
  have s20_4 := m4 _ _ (At.hit z3.put.put.put.put.put.put.put rfl)
  clear m4
  refine e_then ?_
  refine c_false s20_4 ?_
  refine wp_skip ?_
  refine e_then ?_
  refine c_seq ?_
  refine c_region ?_
  refine l_q rfl (q_move _ _ rfl s0_4.ev ?_)
  refine l_q rfl (q_move _ _ rfl (s2_4.ne rfl).ev ?_)
  refine l_call (fun v w' => v = .string (row kind y) ∧ Low w2 w') rfl rfl rfl Tryd.func13 rfl (args2 rfl ((At.hit z4 rfl).ne rfl).ev (At.hit z4.put rfl).ev) ((Row.calls kind y (by omega) _ (Gd.low hG low3)).mono fun _ _ ⟨e, k⟩ => ⟨_, e, rfl, k⟩) ?_
  rintro _ w5 ⟨rfl, h5⟩
  refine l_q rfl (q_move _ _ rfl (((s1_4.ne rfl).ne rfl).ne rfl).ev ?_)
  refine l_q rfl (q_move _ _ rfl ((((s3_4.ne rfl).ne rfl).ne rfl).ne rfl).ev ?_)
  refine l_call (fun v w' => v = .string (row other x) ∧ Low w5 w') rfl rfl rfl Tryd.func13 rfl (args2 rfl ((At.hit z4.put.put.put rfl).ne rfl).ev (At.hit z4.put.put.put.put rfl).ev) ((Row.calls other x (by omega) _ (Gd.low hG (low3.trans h5))).mono fun _ _ ⟨e, k⟩ => ⟨_, e, rfl, k⟩) ?_
  rintro _ w6 ⟨rfl, h6⟩
  refine l_q rfl (q_assign _ _ rfl ((((At.hit z4.put.put rfl).ne rfl).ne rfl).ne rfl).ev ?_)
  refine l_q rfl (q_assign _ _ rfl ((At.hit z4.put.put.put.put.put rfl).ne rfl).ev ?_)
  refine l_end ?_
  refine e_fresh z4.put.put.put.put.put.put.put.put ?_
  intro a7 z7 m7
  have s0_7 := m7 _ _ ((((((((s0_4.ne rfl).ne rfl).ne rfl).ne rfl).ne rfl).ne rfl).ne rfl).ne rfl)
  have s1_7 := m7 _ _ ((((((((s1_4.ne rfl).ne rfl).ne rfl).ne rfl).ne rfl).ne rfl).ne rfl).ne rfl)
  have s2_7 := m7 _ _ ((((((((s2_4.ne rfl).ne rfl).ne rfl).ne rfl).ne rfl).ne rfl).ne rfl).ne rfl)
  have s3_7 := m7 _ _ ((((((((s3_4.ne rfl).ne rfl).ne rfl).ne rfl).ne rfl).ne rfl).ne rfl).ne rfl)
  have s9_7 := m7 _ _ ((At.hit z4.put.put.put.put.put.put rfl).ne rfl)
  have s10_7 := m7 _ _ (At.hit z4.put.put.put.put.put.put.put rfl)
  have low7 := ((low3.trans h5).trans h6)
  clear m7
  refine e_then ?_
  refine c_seq ?_
  refine c_seq ?_
  refine c_region ?_
  refine l_q rfl (q_move _ _ rfl s0_7.ev ?_)
  refine l_call (fun v w' => v = .string (word kind) ∧ Low w6 w') rfl rfl rfl Tryd.func14 rfl (args1 rfl (At.hit z7 rfl).ev) ((Word.calls kind _).mono fun _ _ ⟨e, k⟩ => ⟨_, e, rfl, k⟩) ?_
  rintro _ w8 ⟨rfl, h8⟩
  refine l_q rfl (q_streq false rfl (At.hit z7.put rfl).ev rfl (beq_no hk) ?_)
  refine l_q rfl (q_move _ _ rfl (At.hit z7.put.put rfl).ev ?_)
  refine l_qg (wanted_is (j := 3) (d := 30) (b := false) rfl rfl (At.hit z7.put.put.put rfl) rfl) (q_move _ _ rfl ((((s1_7.ne rfl).ne rfl).ne rfl).ne rfl).ev ?_)
  refine l_callg (fun v w' => v = .string (word other) ∧ Low w8 w') (wanted_is (j := 3) (d := 30) (b := false) rfl rfl ((At.hit z7.put.put.put rfl).ne rfl) rfl) rfl rfl Tryd.func14 rfl (args1 rfl (At.hit z7.put.put.put.put rfl).ev) ((Word.calls other _).mono fun _ _ ⟨e, k⟩ => ⟨_, e, rfl, k⟩) ?_
  rintro _ w9 ⟨rfl, h9⟩
  refine l_qg (wanted_is (j := 3) (d := 30) (b := false) rfl rfl (((At.hit z7.put.put.put rfl).ne rfl).ne rfl) rfl) (q_streq true rfl (At.hit z7.put.put.put.put.put rfl).ev rfl (beq_is ho) ?_)
  refine l_q rfl (q_pick (b := false) (.bool true) rfl ((((At.hit z7.put.put.put rfl).ne rfl).ne rfl).ne rfl).ev (At.hit z7.put.put.put.put.put.put rfl).ev ?_)
  refine l_end ?_
  refine e_fresh z7.put.put.put.put.put.put.put.put ?_
  intro a10 z10 m10
  have s0_10 := m10 _ _ ((((((((s0_7.ne rfl).ne rfl).ne rfl).ne rfl).ne rfl).ne rfl).ne rfl).ne rfl)
  have s1_10 := m10 _ _ ((((((((s1_7.ne rfl).ne rfl).ne rfl).ne rfl).ne rfl).ne rfl).ne rfl).ne rfl)
  have s2_10 := m10 _ _ ((((((((s2_7.ne rfl).ne rfl).ne rfl).ne rfl).ne rfl).ne rfl).ne rfl).ne rfl)
  have s3_10 := m10 _ _ ((((((((s3_7.ne rfl).ne rfl).ne rfl).ne rfl).ne rfl).ne rfl).ne rfl).ne rfl)
  have s9_10 := m10 _ _ ((((((((s9_7.ne rfl).ne rfl).ne rfl).ne rfl).ne rfl).ne rfl).ne rfl).ne rfl)
  have s10_10 := m10 _ _ ((((((((s10_7.ne rfl).ne rfl).ne rfl).ne rfl).ne rfl).ne rfl).ne rfl).ne rfl)
  have s34_10 := m10 _ _ (At.hit z7.put.put.put.put.put.put.put rfl)
  have low10 := ((low7.trans h8).trans h9)
  clear m10
  refine e_then ?_
  refine c_true s34_10 ?_
  refine c_seq ?_
  refine c_region ?_
  refine l_q rfl (q_move _ _ rfl s9_10.ev ?_)
  refine l_q rfl (q_streq false rfl (At.hit z10 rfl).ev rfl (by rw [row_some hk]; exact beq_no (rowS_ne _ _)) ?_)
  refine l_q rfl (q_move _ _ rfl ((s0_10.ne rfl).ne rfl).ev ?_)
  refine l_call (fun v w' => v = .string (word kind) ∧ Low w9 w') rfl rfl rfl Tryd.func14 rfl (args1 rfl (At.hit z10.put.put rfl).ev) ((Word.calls kind _).mono fun _ _ ⟨e, k⟩ => ⟨_, e, rfl, k⟩) ?_
  rintro _ w11 ⟨rfl, h11⟩
  refine l_q rfl (q_streq false rfl (At.hit z10.put.put.put rfl).ev rfl (beq_no hk) ?_)
  refine l_q rfl (q_eqB true rfl Tryd.underlying4 ((((At.hit z10.put rfl).ne rfl).ne rfl).ne rfl).ev (At.hit z10.put.put.put.put rfl).ev rfl ?_)
  refine l_q rfl (q_assign _ _ rfl (At.hit z10.put.put.put.put.put rfl).ev ?_)
  refine l_end ?_
  refine e_fresh z10.put.put.put.put.put.put.put ?_
  intro a12 z12 m12
  have s8_12 := m12 _ _ (At.hit z10.put.put.put.put.put.put rfl)
  have low12 := (low10.trans h11)
  clear m12
  refine e_then ?_
  refine wp_ret ?_
  refine ret_then ?_
  refine r_tmp rfl z12.defers s8_12 ?_
  exact ⟨rfl, low12⟩
theorem Rowl_e.calls (kind : Int) (y x : ByteArray) (h1 : ¬ y.size > 1000) (h2 : ¬ x.size > 1000) (hk : ¬ word kind = ⟨#[]⟩) (hs1 : y.size + 2 ≤ (rowS kind y).size) (hs2 : (rowS kind y).size ≤ 2000) (hs3 : (word kind).size + 1 ≤ (rowS kind y).size) (w0 : World) (hG : Gd w0) : Calls Tryd.prog 5 #[.int .i64 kind, .int .i64 kind, .string y, .string x] w0 fun e w' => e = .returned (.bool true) ∧ Low w0 w' := by
  refine c_fun (R := _) Tryd.func5 rfl 94 rfl (Nat.le_of_ble_eq_true rfl) ?_
  intro a z hA
  have s0 := hA 0 _ rfl
  have s1 := hA 1 _ rfl
  have s2 := hA 2 _ rfl
  have s3 := hA 3 _ rfl
  clear hA
  refine c_seq ?_
  refine c_region ?_
  refine l_q rfl (q_assign _ _ rfl rfl ?_)
  refine l_end ?_
  refine e_fresh z.put ?_
  intro a1 z1 m1
  have s0_1 := m1 _ _ (s0.ne rfl)
  have s1_1 := m1 _ _ (s1.ne rfl)
  have s2_1 := m1 _ _ (s2.ne rfl)
  have s3_1 := m1 _ _ (s3.ne rfl)
  clear m1
  refine e_then ?_
  refine c_seq ?_
  refine c_seq ?_
  refine c_region ?_
  refine l_call (fun v w' => v = .bool true ∧ Low w0 w') rfl rfl rfl Tryd.func6 rfl (show Array.map _ _ = (#[] : Array Value) from by simp) ((Awake10.calls _ (Gd.low hG (Low.refl _))).mono fun _ _ ⟨e, k⟩ => ⟨_, e, rfl, k⟩) ?_
  rintro _ w2 ⟨rfl, h2⟩
  refine l_q rfl (q_not (b := true) rfl (At.hit z1 rfl).ev ?_)
  refine l_end ?_
  refine e_fresh z1.put.put ?_
  intro a3 z3 m3
  have s0_3 := m3 _ _ ((s0_1.ne rfl).ne rfl)
  have s1_3 := m3 _ _ ((s1_1.ne rfl).ne rfl)
  have s2_3 := m3 _ _ ((s2_1.ne rfl).ne rfl)
  have s3_3 := m3 _ _ ((s3_1.ne rfl).ne rfl)
  have s12_3 := m3 _ _ (At.hit z1.put rfl)
  have low3 := h2
  clear m3
  refine e_then ?_
  refine c_false s12_3 ?_
  refine wp_skip ?_
  refine e_then ?_
  refine c_seq ?_
  refine c_seq ?_
  refine c_region ?_
  refine l_q rfl (q_move _ _ rfl s2_3.ev ?_)
  refine l_q rfl (q_len rfl rfl Tryd.underlying9 (At.hit z3 rfl).ev ?_)
  refine l_q rfl (q_gtr false rfl (At.hit z3.put rfl).ev rfl (decide_eq_false (by omega)) ?_)
  refine l_q rfl (q_move _ _ rfl (At.hit z3.put.put rfl).ev ?_)
  refine l_qg (wanted_is (j := 3) (d := 16) (b := false) rfl rfl (At.hit z3.put.put.put rfl) rfl) (q_move _ _ rfl ((((s3_3.ne rfl).ne rfl).ne rfl).ne rfl).ev ?_)
  refine l_qg (wanted_is (j := 3) (d := 16) (b := false) rfl rfl ((At.hit z3.put.put.put rfl).ne rfl) rfl) (q_len rfl rfl Tryd.underlying9 (At.hit z3.put.put.put.put rfl).ev ?_)
  refine l_qg (wanted_is (j := 3) (d := 16) (b := false) rfl rfl (((At.hit z3.put.put.put rfl).ne rfl).ne rfl) rfl) (q_gtr false rfl (At.hit z3.put.put.put.put.put rfl).ev rfl (decide_eq_false (by omega)) ?_)
  refine l_q rfl (q_pick (b := false) (.bool false) rfl ((((At.hit z3.put.put.put rfl).ne rfl).ne rfl).ne rfl).ev (At.hit z3.put.put.put.put.put.put rfl).ev ?_)
  refine l_end ?_
  refine e_fresh z3.put.put.put.put.put.put.put.put ?_
  intro a4 z4 m4
  have s0_4 := m4 _ _ ((((((((s0_3.ne rfl).ne rfl).ne rfl).ne rfl).ne rfl).ne rfl).ne rfl).ne rfl)
  have s1_4 := m4 _ _ ((((((((s1_3.ne rfl).ne rfl).ne rfl).ne rfl).ne rfl).ne rfl).ne rfl).ne rfl)
  have s2_4 := m4 _ _ ((((((((s2_3.ne rfl).ne rfl).ne rfl).ne rfl).ne rfl).ne rfl).ne rfl).ne rfl)
  have s3_4 := m4 _ _ ((((((((s3_3.ne rfl).ne rfl).ne rfl).ne rfl).ne rfl).ne rfl).ne rfl).ne rfl)
  have s20_4 := m4 _ _ (At.hit z3.put.put.put.put.put.put.put rfl)
  clear m4
  refine e_then ?_
  refine c_false s20_4 ?_
  refine wp_skip ?_
  refine e_then ?_
  refine c_seq ?_
  refine c_region ?_
  refine l_q rfl (q_move _ _ rfl s0_4.ev ?_)
  refine l_q rfl (q_move _ _ rfl (s2_4.ne rfl).ev ?_)
  refine l_call (fun v w' => v = .string (rowS kind y) ∧ Low w2 w') rfl rfl rfl Tryd.func13 rfl (args2 rfl ((At.hit z4 rfl).ne rfl).ev (At.hit z4.put rfl).ev) ((RowS.calls kind y (by omega) hk _ (Gd.low hG low3)).mono fun _ _ ⟨e, k⟩ => ⟨_, e, rfl, k⟩) ?_
  rintro _ w5 ⟨rfl, h5⟩
  refine l_q rfl (q_move _ _ rfl (((s1_4.ne rfl).ne rfl).ne rfl).ev ?_)
  refine l_q rfl (q_move _ _ rfl ((((s3_4.ne rfl).ne rfl).ne rfl).ne rfl).ev ?_)
  refine l_call (fun v w' => v = .string (rowS kind x) ∧ Low w5 w') rfl rfl rfl Tryd.func13 rfl (args2 rfl ((At.hit z4.put.put.put rfl).ne rfl).ev (At.hit z4.put.put.put.put rfl).ev) ((RowS.calls kind x (by omega) hk _ (Gd.low hG (low3.trans h5))).mono fun _ _ ⟨e, k⟩ => ⟨_, e, rfl, k⟩) ?_
  rintro _ w6 ⟨rfl, h6⟩
  refine l_q rfl (q_assign _ _ rfl ((((At.hit z4.put.put rfl).ne rfl).ne rfl).ne rfl).ev ?_)
  refine l_q rfl (q_assign _ _ rfl ((At.hit z4.put.put.put.put.put rfl).ne rfl).ev ?_)
  refine l_end ?_
  refine e_fresh z4.put.put.put.put.put.put.put.put ?_
  intro a7 z7 m7
  have s0_7 := m7 _ _ ((((((((s0_4.ne rfl).ne rfl).ne rfl).ne rfl).ne rfl).ne rfl).ne rfl).ne rfl)
  have s1_7 := m7 _ _ ((((((((s1_4.ne rfl).ne rfl).ne rfl).ne rfl).ne rfl).ne rfl).ne rfl).ne rfl)
  have s2_7 := m7 _ _ ((((((((s2_4.ne rfl).ne rfl).ne rfl).ne rfl).ne rfl).ne rfl).ne rfl).ne rfl)
  have s3_7 := m7 _ _ ((((((((s3_4.ne rfl).ne rfl).ne rfl).ne rfl).ne rfl).ne rfl).ne rfl).ne rfl)
  have s9_7 := m7 _ _ ((At.hit z4.put.put.put.put.put.put rfl).ne rfl)
  have s10_7 := m7 _ _ (At.hit z4.put.put.put.put.put.put.put rfl)
  have low7 := ((low3.trans h5).trans h6)
  clear m7
  refine e_then ?_
  refine c_seq ?_
  refine c_seq ?_
  refine c_region ?_
  refine l_q rfl (q_move _ _ rfl s0_7.ev ?_)
  refine l_call (fun v w' => v = .string (word kind) ∧ Low w6 w') rfl rfl rfl Tryd.func14 rfl (args1 rfl (At.hit z7 rfl).ev) ((Word.calls kind _).mono fun _ _ ⟨e, k⟩ => ⟨_, e, rfl, k⟩) ?_
  rintro _ w8 ⟨rfl, h8⟩
  refine l_q rfl (q_streq false rfl (At.hit z7.put rfl).ev rfl (beq_no hk) ?_)
  refine l_q rfl (q_move _ _ rfl (At.hit z7.put.put rfl).ev ?_)
  refine l_qg (wanted_is (j := 3) (d := 30) (b := false) rfl rfl (At.hit z7.put.put.put rfl) rfl) (q_move _ _ rfl ((((s1_7.ne rfl).ne rfl).ne rfl).ne rfl).ev ?_)
  refine l_callg (fun v w' => v = .string (word kind) ∧ Low w8 w') (wanted_is (j := 3) (d := 30) (b := false) rfl rfl ((At.hit z7.put.put.put rfl).ne rfl) rfl) rfl rfl Tryd.func14 rfl (args1 rfl (At.hit z7.put.put.put.put rfl).ev) ((Word.calls kind _).mono fun _ _ ⟨e, k⟩ => ⟨_, e, rfl, k⟩) ?_
  rintro _ w9 ⟨rfl, h9⟩
  refine l_qg (wanted_is (j := 3) (d := 30) (b := false) rfl rfl (((At.hit z7.put.put.put rfl).ne rfl).ne rfl) rfl) (q_streq false rfl (At.hit z7.put.put.put.put.put rfl).ev rfl (beq_no hk) ?_)
  refine l_q rfl (q_pick (b := false) (.bool false) rfl ((((At.hit z7.put.put.put rfl).ne rfl).ne rfl).ne rfl).ev (At.hit z7.put.put.put.put.put.put rfl).ev ?_)
  refine l_end ?_
  refine e_fresh z7.put.put.put.put.put.put.put.put ?_
  intro a10 z10 m10
  have s0_10 := m10 _ _ ((((((((s0_7.ne rfl).ne rfl).ne rfl).ne rfl).ne rfl).ne rfl).ne rfl).ne rfl)
  have s1_10 := m10 _ _ ((((((((s1_7.ne rfl).ne rfl).ne rfl).ne rfl).ne rfl).ne rfl).ne rfl).ne rfl)
  have s2_10 := m10 _ _ ((((((((s2_7.ne rfl).ne rfl).ne rfl).ne rfl).ne rfl).ne rfl).ne rfl).ne rfl)
  have s3_10 := m10 _ _ ((((((((s3_7.ne rfl).ne rfl).ne rfl).ne rfl).ne rfl).ne rfl).ne rfl).ne rfl)
  have s9_10 := m10 _ _ ((((((((s9_7.ne rfl).ne rfl).ne rfl).ne rfl).ne rfl).ne rfl).ne rfl).ne rfl)
  have s10_10 := m10 _ _ ((((((((s10_7.ne rfl).ne rfl).ne rfl).ne rfl).ne rfl).ne rfl).ne rfl).ne rfl)
  have s34_10 := m10 _ _ (At.hit z7.put.put.put.put.put.put.put rfl)
  have low10 := ((low7.trans h8).trans h9)
  clear m10
  refine e_then ?_
  refine c_false s34_10 ?_
  refine wp_skip ?_
  refine e_then ?_
  refine c_seq ?_
  refine region_lowg hm (by kernel_rfl) ?_
  refine gs rfl (q_move _ _ rfl s9_10.ev ?_)
  refine gs rfl (q_len rfl rfl Tryd.underlying9 (At.hit z10 rfl).ev ?_)
  refine gs rfl (q_move _ _ rfl ((s2_10.ne rfl).ne rfl).ev ?_)
  refine gs rfl (q_len rfl rfl Tryd.underlying9 (At.hit z10.put.put rfl).ev ?_)
  refine gs rfl (q_gtr true rfl (((At.hit z10.put rfl).ne rfl).ne rfl).ev (At.hit z10.put.put.put rfl).ev (decide_eq_true (by omega)) ?_)
  refine gs rfl (q_move _ _ rfl (At.hit z10.put.put.put.put rfl).ev ?_)
  refine gsg (wanted_is (j := 5) (d := 46) (b := true) rfl rfl (At.hit z10.put.put.put.put.put rfl) rfl) (q_move _ _ rfl ((((((s9_10.ne rfl).ne rfl).ne rfl).ne rfl).ne rfl).ne rfl).ev ?_)
  refine gsg (wanted_is (j := 5) (d := 46) (b := true) rfl rfl ((At.hit z10.put.put.put.put.put rfl).ne rfl) rfl) (q_move _ _ rfl (((((((s9_10.ne rfl).ne rfl).ne rfl).ne rfl).ne rfl).ne rfl).ne rfl).ev ?_)
  refine g_fresh z10.put.put.put.put.put.put.put.put ?_
  intro a11 z11 m11
  have s0_11 := m11 _ _ ((((((((s0_10.ne rfl).ne rfl).ne rfl).ne rfl).ne rfl).ne rfl).ne rfl).ne rfl)
  have s1_11 := m11 _ _ ((((((((s1_10.ne rfl).ne rfl).ne rfl).ne rfl).ne rfl).ne rfl).ne rfl).ne rfl)
  have s2_11 := m11 _ _ ((((((((s2_10.ne rfl).ne rfl).ne rfl).ne rfl).ne rfl).ne rfl).ne rfl).ne rfl)
  have s3_11 := m11 _ _ ((((((((s3_10.ne rfl).ne rfl).ne rfl).ne rfl).ne rfl).ne rfl).ne rfl).ne rfl)
  have s9_11 := m11 _ _ ((((((((s9_10.ne rfl).ne rfl).ne rfl).ne rfl).ne rfl).ne rfl).ne rfl).ne rfl)
  have s10_11 := m11 _ _ ((((((((s10_10.ne rfl).ne rfl).ne rfl).ne rfl).ne rfl).ne rfl).ne rfl).ne rfl)
  have s46_11 := m11 _ _ (((At.hit z10.put.put.put.put.put rfl).ne rfl).ne rfl)
  have s47_11 := m11 _ _ ((At.hit z10.put.put.put.put.put.put rfl).ne rfl)
  have s48_11 := m11 _ _ (At.hit z10.put.put.put.put.put.put.put rfl)
  clear m11
  refine gsg (wanted_is (j := 5) (d := 46) (b := true) rfl rfl s46_11 rfl) (q_len rfl rfl Tryd.underlying9 s48_11.ev ?_)
  refine gsg (wanted_is (j := 5) (d := 46) (b := true) rfl rfl (s46_11.ne rfl) rfl) (q_move _ _ rfl (s2_11.ne rfl).ev ?_)
  refine gsg (wanted_is (j := 5) (d := 46) (b := true) rfl rfl ((s46_11.ne rfl).ne rfl) rfl) (q_len rfl rfl Tryd.underlying9 (At.hit z11.put rfl).ev ?_)
  refine gsg (wanted_is (j := 5) (d := 46) (b := true) rfl rfl (((s46_11.ne rfl).ne rfl).ne rfl) rfl) (q_sub (((((rowS kind y).size : Nat) : Int) - ((y.size : Nat) : Int))) rfl (((At.hit z11 rfl).ne rfl).ne rfl).ev (At.hit z11.put.put rfl).ev (i64_is (by omega) (by omega) (by omega)) ?_)
  refine gsg (wanted_is (j := 5) (d := 46) (b := true) rfl rfl ((((s46_11.ne rfl).ne rfl).ne rfl).ne rfl) rfl) (q_cutlo (j := ((rowS kind y).size) - y.size) rfl Tryd.underlying9 ((((s47_11.ne rfl).ne rfl).ne rfl).ne rfl).ev ((At.hit z11.put.put.put rfl).same (congrArg (Value.int .i64) (show (((((rowS kind y).size : Nat) : Int) - ((y.size : Nat) : Int)) : Int) = ((((rowS kind y).size) - y.size : Nat) : Int) by omega))).ev (by omega) ?_)
  refine gsg (wanted_is (j := 5) (d := 46) (b := true) rfl rfl (((((s46_11.ne rfl).ne rfl).ne rfl).ne rfl).ne rfl) rfl) (q_move _ _ rfl (((((s2_11.ne rfl).ne rfl).ne rfl).ne rfl).ne rfl).ev ?_)
  refine gsg (wanted_is (j := 5) (d := 46) (b := true) rfl rfl ((((((s46_11.ne rfl).ne rfl).ne rfl).ne rfl).ne rfl).ne rfl) rfl) (q_streq true rfl ((At.hit z11.put.put.put.put rfl).ne rfl).ev (At.hit z11.put.put.put.put.put rfl).ev (beq_is (rowS_back kind y)) ?_)
  refine gs rfl (q_pick (b := true) (.bool true) rfl (((((((s46_11.ne rfl).ne rfl).ne rfl).ne rfl).ne rfl).ne rfl).ne rfl).ev (At.hit z11.put.put.put.put.put.put rfl).ev ?_)
  refine g_fresh z11.put.put.put.put.put.put.put.put ?_
  intro a12 z12 m12
  have s0_12 := m12 _ _ ((((((((s0_11.ne rfl).ne rfl).ne rfl).ne rfl).ne rfl).ne rfl).ne rfl).ne rfl)
  have s1_12 := m12 _ _ ((((((((s1_11.ne rfl).ne rfl).ne rfl).ne rfl).ne rfl).ne rfl).ne rfl).ne rfl)
  have s2_12 := m12 _ _ ((((((((s2_11.ne rfl).ne rfl).ne rfl).ne rfl).ne rfl).ne rfl).ne rfl).ne rfl)
  have s3_12 := m12 _ _ ((((((((s3_11.ne rfl).ne rfl).ne rfl).ne rfl).ne rfl).ne rfl).ne rfl).ne rfl)
  have s9_12 := m12 _ _ ((((((((s9_11.ne rfl).ne rfl).ne rfl).ne rfl).ne rfl).ne rfl).ne rfl).ne rfl)
  have s10_12 := m12 _ _ ((((((((s10_11.ne rfl).ne rfl).ne rfl).ne rfl).ne rfl).ne rfl).ne rfl).ne rfl)
  have s56_12 := m12 _ _ (At.hit z11.put.put.put.put.put.put.put rfl)
  clear m12
  refine gs rfl (q_move _ _ rfl s56_12.ev ?_)
  refine gsg (wanted_is (j := 16) (d := 57) (b := true) rfl rfl (At.hit z12 rfl) rfl) (q_move _ _ rfl (s9_12.ne rfl).ev ?_)
  refine gsg (wanted_is (j := 16) (d := 57) (b := true) rfl rfl ((At.hit z12 rfl).ne rfl) rfl) (q_move _ _ rfl ((s9_12.ne rfl).ne rfl).ev ?_)
  refine gsg (wanted_is (j := 16) (d := 57) (b := true) rfl rfl (((At.hit z12 rfl).ne rfl).ne rfl) rfl) (q_len rfl rfl Tryd.underlying9 (At.hit z12.put.put rfl).ev ?_)
  refine gsg (wanted_is (j := 16) (d := 57) (b := true) rfl rfl ((((At.hit z12 rfl).ne rfl).ne rfl).ne rfl) rfl) (q_move _ _ rfl ((((s2_12.ne rfl).ne rfl).ne rfl).ne rfl).ev ?_)
  refine gsg (wanted_is (j := 16) (d := 57) (b := true) rfl rfl (((((At.hit z12 rfl).ne rfl).ne rfl).ne rfl).ne rfl) rfl) (q_len rfl rfl Tryd.underlying9 (At.hit z12.put.put.put.put rfl).ev ?_)
  refine gsg (wanted_is (j := 16) (d := 57) (b := true) rfl rfl ((((((At.hit z12 rfl).ne rfl).ne rfl).ne rfl).ne rfl).ne rfl) rfl) (q_sub (((((rowS kind y).size : Nat) : Int) - ((y.size : Nat) : Int))) rfl (((At.hit z12.put.put.put rfl).ne rfl).ne rfl).ev (At.hit z12.put.put.put.put.put rfl).ev (i64_is (by omega) (by omega) (by omega)) ?_)
  refine gsg (wanted_is (j := 16) (d := 57) (b := true) rfl rfl (((((((At.hit z12 rfl).ne rfl).ne rfl).ne rfl).ne rfl).ne rfl).ne rfl) rfl) (q_sub (((((rowS kind y).size : Nat) : Int) - ((y.size : Nat) : Int) - 1)) rfl (At.hit z12.put.put.put.put.put.put rfl).ev rfl (i64_is (by omega) (by omega) (by omega)) ?_)
  refine g_fresh z12.put.put.put.put.put.put.put.put ?_
  intro a13 z13 m13
  have s0_13 := m13 _ _ ((((((((s0_12.ne rfl).ne rfl).ne rfl).ne rfl).ne rfl).ne rfl).ne rfl).ne rfl)
  have s1_13 := m13 _ _ ((((((((s1_12.ne rfl).ne rfl).ne rfl).ne rfl).ne rfl).ne rfl).ne rfl).ne rfl)
  have s2_13 := m13 _ _ ((((((((s2_12.ne rfl).ne rfl).ne rfl).ne rfl).ne rfl).ne rfl).ne rfl).ne rfl)
  have s3_13 := m13 _ _ ((((((((s3_12.ne rfl).ne rfl).ne rfl).ne rfl).ne rfl).ne rfl).ne rfl).ne rfl)
  have s9_13 := m13 _ _ ((((((((s9_12.ne rfl).ne rfl).ne rfl).ne rfl).ne rfl).ne rfl).ne rfl).ne rfl)
  have s10_13 := m13 _ _ ((((((((s10_12.ne rfl).ne rfl).ne rfl).ne rfl).ne rfl).ne rfl).ne rfl).ne rfl)
  have s57_13 := m13 _ _ ((((((((At.hit z12 rfl).ne rfl).ne rfl).ne rfl).ne rfl).ne rfl).ne rfl).ne rfl)
  have s58_13 := m13 _ _ (((((((At.hit z12.put rfl).ne rfl).ne rfl).ne rfl).ne rfl).ne rfl).ne rfl)
  have s64_13 := m13 _ _ (At.hit z12.put.put.put.put.put.put.put rfl)
  clear m13
  refine gsg (wanted_is (j := 16) (d := 57) (b := true) rfl rfl s57_13 rfl) (q_stridx (j := ((rowS kind y).size) - y.size - 1) rfl Tryd.underlying9 s58_13.ev (s64_13.same (congrArg (Value.int .i64) (show (((((rowS kind y).size : Nat) : Int) - ((y.size : Nat) : Int) - 1) : Int) = ((((rowS kind y).size) - y.size - 1 : Nat) : Int) by omega))).ev (by omega) ?_)
  refine gsg (wanted_is (j := 16) (d := 57) (b := true) rfl rfl (s57_13.ne rfl) rfl) (q_eql true rfl (At.hit z13 rfl).ev rfl (decide_eq_true (by rw [rowS_zero]; rfl)) ?_)
  refine gs rfl (q_pick (b := true) (.bool true) rfl ((s57_13.ne rfl).ne rfl).ev (At.hit z13.put rfl).ev ?_)
  refine gs rfl (q_move _ _ rfl (At.hit z13.put.put rfl).ev ?_)
  refine gsg (wanted_is (j := 27) (d := 68) (b := true) rfl rfl (At.hit z13.put.put.put rfl) rfl) (q_move _ _ rfl ((((s9_13.ne rfl).ne rfl).ne rfl).ne rfl).ev ?_)
  refine gsg (wanted_is (j := 27) (d := 68) (b := true) rfl rfl ((At.hit z13.put.put.put rfl).ne rfl) rfl) (q_move _ _ rfl (((((s0_13.ne rfl).ne rfl).ne rfl).ne rfl).ne rfl).ev ?_)
  refine gsg (wanted_is (j := 27) (d := 68) (b := true) rfl rfl (((At.hit z13.put.put.put rfl).ne rfl).ne rfl) rfl) (q_call (.string (word kind)) rfl rfl Tryd.func14 rfl (args1 rfl (At.hit z13.put.put.put.put.put rfl).ev) (fun _ h => (Word.calls kind _).mono fun _ _ ⟨e, k⟩ => ⟨e, h.trans k⟩) ?_)
  refine gsg (wanted_is (j := 27) (d := 68) (b := true) rfl rfl ((((At.hit z13.put.put.put rfl).ne rfl).ne rfl).ne rfl) rfl) (q_len rfl rfl Tryd.underlying9 (At.hit z13.put.put.put.put.put.put rfl).ev ?_)
  refine g_fresh z13.put.put.put.put.put.put.put.put ?_
  intro a14 z14 m14
  have s0_14 := m14 _ _ ((((((((s0_13.ne rfl).ne rfl).ne rfl).ne rfl).ne rfl).ne rfl).ne rfl).ne rfl)
  have s1_14 := m14 _ _ ((((((((s1_13.ne rfl).ne rfl).ne rfl).ne rfl).ne rfl).ne rfl).ne rfl).ne rfl)
  have s2_14 := m14 _ _ ((((((((s2_13.ne rfl).ne rfl).ne rfl).ne rfl).ne rfl).ne rfl).ne rfl).ne rfl)
  have s3_14 := m14 _ _ ((((((((s3_13.ne rfl).ne rfl).ne rfl).ne rfl).ne rfl).ne rfl).ne rfl).ne rfl)
  have s9_14 := m14 _ _ ((((((((s9_13.ne rfl).ne rfl).ne rfl).ne rfl).ne rfl).ne rfl).ne rfl).ne rfl)
  have s10_14 := m14 _ _ ((((((((s10_13.ne rfl).ne rfl).ne rfl).ne rfl).ne rfl).ne rfl).ne rfl).ne rfl)
  have s68_14 := m14 _ _ (((((At.hit z13.put.put.put rfl).ne rfl).ne rfl).ne rfl).ne rfl)
  have s69_14 := m14 _ _ ((((At.hit z13.put.put.put.put rfl).ne rfl).ne rfl).ne rfl)
  have s72_14 := m14 _ _ (At.hit z13.put.put.put.put.put.put.put rfl)
  clear m14
  refine gsg (wanted_is (j := 27) (d := 68) (b := true) rfl rfl s68_14 rfl) (q_add (((((word kind).size) + 1 : Nat) : Int)) rfl s72_14.ev rfl (i64_is (by omega) (by omega) (by omega)) ?_)
  refine gsg (wanted_is (j := 27) (d := 68) (b := true) rfl rfl (s68_14.ne rfl) rfl) (q_cuthi (k := ((word kind).size) + 1) rfl Tryd.underlying9 (s69_14.ne rfl).ev (At.hit z14 rfl).ev (by omega) ?_)
  refine gsg (wanted_is (j := 27) (d := 68) (b := true) rfl rfl ((s68_14.ne rfl).ne rfl) rfl) (q_move _ _ rfl ((s0_14.ne rfl).ne rfl).ev ?_)
  refine gsg (wanted_is (j := 27) (d := 68) (b := true) rfl rfl (((s68_14.ne rfl).ne rfl).ne rfl) rfl) (q_call (.string (word kind)) rfl rfl Tryd.func14 rfl (args1 rfl (At.hit z14.put.put rfl).ev) (fun _ h => (Word.calls kind _).mono fun _ _ ⟨e, k⟩ => ⟨e, h.trans k⟩) ?_)
  refine gsg (wanted_is (j := 27) (d := 68) (b := true) rfl rfl ((((s68_14.ne rfl).ne rfl).ne rfl).ne rfl) rfl) (q_cat rfl (At.hit z14.put.put.put rfl).ev rfl (by have hw := word_size kind; simp only [sz_sp]; omega) ?_)
  refine gsg (wanted_is (j := 27) (d := 68) (b := true) rfl rfl (((((s68_14.ne rfl).ne rfl).ne rfl).ne rfl).ne rfl) rfl) (q_streq true rfl ((((At.hit z14.put rfl).ne rfl).ne rfl).ne rfl).ev (At.hit z14.put.put.put.put rfl).ev (beq_is (rowS_front kind y)) ?_)
  refine gs rfl (q_pick (b := true) (.bool true) rfl ((((((s68_14.ne rfl).ne rfl).ne rfl).ne rfl).ne rfl).ne rfl).ev (At.hit z14.put.put.put.put.put rfl).ev ?_)
  refine gs rfl (q_move _ _ rfl (At.hit z14.put.put.put.put.put.put rfl).ev ?_)
  refine g_fresh z14.put.put.put.put.put.put.put.put ?_
  intro a15 z15 m15
  have s0_15 := m15 _ _ ((((((((s0_14.ne rfl).ne rfl).ne rfl).ne rfl).ne rfl).ne rfl).ne rfl).ne rfl)
  have s1_15 := m15 _ _ ((((((((s1_14.ne rfl).ne rfl).ne rfl).ne rfl).ne rfl).ne rfl).ne rfl).ne rfl)
  have s2_15 := m15 _ _ ((((((((s2_14.ne rfl).ne rfl).ne rfl).ne rfl).ne rfl).ne rfl).ne rfl).ne rfl)
  have s3_15 := m15 _ _ ((((((((s3_14.ne rfl).ne rfl).ne rfl).ne rfl).ne rfl).ne rfl).ne rfl).ne rfl)
  have s9_15 := m15 _ _ ((((((((s9_14.ne rfl).ne rfl).ne rfl).ne rfl).ne rfl).ne rfl).ne rfl).ne rfl)
  have s10_15 := m15 _ _ ((((((((s10_14.ne rfl).ne rfl).ne rfl).ne rfl).ne rfl).ne rfl).ne rfl).ne rfl)
  have s80_15 := m15 _ _ (At.hit z14.put.put.put.put.put.put.put rfl)
  clear m15
  refine gsg (wanted_is (j := 39) (d := 80) (b := true) rfl rfl s80_15 rfl) (q_move _ _ rfl s9_15.ev ?_)
  refine gsg (wanted_is (j := 39) (d := 80) (b := true) rfl rfl (s80_15.ne rfl) rfl) (q_move _ _ rfl (s10_15.ne rfl).ev ?_)
  refine gsg (wanted_is (j := 39) (d := 80) (b := true) rfl rfl ((s80_15.ne rfl).ne rfl) rfl) (q_streq (y.toList == x.toList) rfl ((At.hit z15 rfl).ne rfl).ev (At.hit z15.put rfl).ev (rows_same kind y x hk) ?_)
  refine gsg (wanted_is (j := 39) (d := 80) (b := true) rfl rfl (((s80_15.ne rfl).ne rfl).ne rfl) rfl) (q_move _ _ rfl (((s0_15.ne rfl).ne rfl).ne rfl).ev ?_)
  refine gsg (wanted_is (j := 39) (d := 80) (b := true) rfl rfl ((((s80_15.ne rfl).ne rfl).ne rfl).ne rfl) rfl) (q_move _ _ rfl ((((s1_15.ne rfl).ne rfl).ne rfl).ne rfl).ev ?_)
  refine gsg (wanted_is (j := 39) (d := 80) (b := true) rfl rfl (((((s80_15.ne rfl).ne rfl).ne rfl).ne rfl).ne rfl) rfl) (q_eql true rfl ((At.hit z15.put.put.put rfl).ne rfl).ev (At.hit z15.put.put.put.put rfl).ev (decide_eq_true rfl) ?_)
  refine gsg (wanted_is (j := 39) (d := 80) (b := true) rfl rfl ((((((s80_15.ne rfl).ne rfl).ne rfl).ne rfl).ne rfl).ne rfl) rfl) (q_move _ _ rfl (At.hit z15.put.put.put.put.put rfl).ev ?_)
  refine gsg (wanted_is (j := 46) (d := 87) (b := true) rfl rfl (At.hit z15.put.put.put.put.put.put rfl) rfl) (q_move _ _ rfl (((((((s2_15.ne rfl).ne rfl).ne rfl).ne rfl).ne rfl).ne rfl).ne rfl).ev ?_)
  refine g_fresh z15.put.put.put.put.put.put.put.put ?_
  intro a16 z16 m16
  have s3_16 := m16 _ _ ((((((((s3_15.ne rfl).ne rfl).ne rfl).ne rfl).ne rfl).ne rfl).ne rfl).ne rfl)
  have s80_16 := m16 _ _ ((((((((s80_15.ne rfl).ne rfl).ne rfl).ne rfl).ne rfl).ne rfl).ne rfl).ne rfl)
  have s83_16 := m16 _ _ ((((((At.hit z15.put.put rfl).ne rfl).ne rfl).ne rfl).ne rfl).ne rfl)
  have s87_16 := m16 _ _ ((At.hit z15.put.put.put.put.put.put rfl).ne rfl)
  have s88_16 := m16 _ _ (At.hit z15.put.put.put.put.put.put.put rfl)
  clear m16
  refine gsg (wanted_is (j := 46) (d := 87) (b := true) rfl rfl s87_16 rfl) (q_move _ _ rfl s3_16.ev ?_)
  refine gsg (wanted_is (j := 46) (d := 87) (b := true) rfl rfl (s87_16.ne rfl) rfl) (q_streq (y.toList == x.toList) rfl (s88_16.ne rfl).ev (At.hit z16 rfl).ev rfl ?_)
  refine gsg (wanted_is (j := 39) (d := 80) (b := true) rfl rfl ((s80_16.ne rfl).ne rfl) rfl) (q_pick (b := true) (.bool (y.toList == x.toList)) rfl ((s87_16.ne rfl).ne rfl).ev (At.hit z16.put rfl).ev ?_)
  refine gsg (wanted_is (j := 39) (d := 80) (b := true) rfl rfl (((s80_16.ne rfl).ne rfl).ne rfl) rfl) (q_eqB true rfl Tryd.underlying4 (((s83_16.ne rfl).ne rfl).ne rfl).ev (At.hit z16.put.put rfl).ev (by cases (y.toList == x.toList) <;> rfl) ?_)
  refine gs rfl (q_pick (b := true) (.bool true) rfl ((((s80_16.ne rfl).ne rfl).ne rfl).ne rfl).ev (At.hit z16.put.put.put rfl).ev ?_)
  refine gs rfl (q_assign _ _ rfl (At.hit z16.put.put.put.put rfl).ev ?_)
  refine gz ?_
  intro w17 h17
  refine e_id ?_
  refine e_fresh z16.put.put.put.put.put.put ?_
  intro a18 z18 m18
  have s8_18 := m18 _ _ (At.hit z16.put.put.put.put.put rfl)
  have low18 := (low10.trans h17)
  clear m18
  refine e_then ?_
  refine wp_ret ?_
  refine r_tmp rfl z18.defers s8_18 ?_
  exact ⟨rfl, low18⟩
theorem Rowl_f.calls (kind other : Int) (y x : ByteArray) (h1 : ¬ y.size > 1000) (h2 : ¬ x.size > 1000) (hk : ¬ word kind = ⟨#[]⟩) (hs1 : y.size + 2 ≤ (rowS kind y).size) (hs2 : (rowS kind y).size ≤ 2000) (hs3 : (word kind).size + 1 ≤ (rowS kind y).size) (ho : ¬ word other = ⟨#[]⟩) (hne : ¬ kind = other) (w0 : World) (hG : Gd w0) : Calls Tryd.prog 5 #[.int .i64 kind, .int .i64 other, .string y, .string x] w0 fun e w' => e = .returned (.bool true) ∧ Low w0 w' := by
  refine c_fun (R := _) Tryd.func5 rfl 94 rfl (Nat.le_of_ble_eq_true rfl) ?_
  intro a z hA
  have s0 := hA 0 _ rfl
  have s1 := hA 1 _ rfl
  have s2 := hA 2 _ rfl
  have s3 := hA 3 _ rfl
  clear hA
  refine c_seq ?_
  refine c_region ?_
  refine l_q rfl (q_assign _ _ rfl rfl ?_)
  refine l_end ?_
  refine e_fresh z.put ?_
  intro a1 z1 m1
  have s0_1 := m1 _ _ (s0.ne rfl)
  have s1_1 := m1 _ _ (s1.ne rfl)
  have s2_1 := m1 _ _ (s2.ne rfl)
  have s3_1 := m1 _ _ (s3.ne rfl)
  clear m1
  refine e_then ?_
  refine c_seq ?_
  refine c_seq ?_
  refine c_region ?_
  refine l_call (fun v w' => v = .bool true ∧ Low w0 w') rfl rfl rfl Tryd.func6 rfl (show Array.map _ _ = (#[] : Array Value) from by simp) ((Awake10.calls _ (Gd.low hG (Low.refl _))).mono fun _ _ ⟨e, k⟩ => ⟨_, e, rfl, k⟩) ?_
  rintro _ w2 ⟨rfl, h2⟩
  refine l_q rfl (q_not (b := true) rfl (At.hit z1 rfl).ev ?_)
  refine l_end ?_
  refine e_fresh z1.put.put ?_
  intro a3 z3 m3
  have s0_3 := m3 _ _ ((s0_1.ne rfl).ne rfl)
  have s1_3 := m3 _ _ ((s1_1.ne rfl).ne rfl)
  have s2_3 := m3 _ _ ((s2_1.ne rfl).ne rfl)
  have s3_3 := m3 _ _ ((s3_1.ne rfl).ne rfl)
  have s12_3 := m3 _ _ (At.hit z1.put rfl)
  have low3 := h2
  clear m3
  refine e_then ?_
  refine c_false s12_3 ?_
  refine wp_skip ?_
  refine e_then ?_
  refine c_seq ?_
  refine c_seq ?_
  refine c_region ?_
  refine l_q rfl (q_move _ _ rfl s2_3.ev ?_)
  refine l_q rfl (q_len rfl rfl Tryd.underlying9 (At.hit z3 rfl).ev ?_)
  refine l_q rfl (q_gtr false rfl (At.hit z3.put rfl).ev rfl (decide_eq_false (by omega)) ?_)
  refine l_q rfl (q_move _ _ rfl (At.hit z3.put.put rfl).ev ?_)
  refine l_qg (wanted_is (j := 3) (d := 16) (b := false) rfl rfl (At.hit z3.put.put.put rfl) rfl) (q_move _ _ rfl ((((s3_3.ne rfl).ne rfl).ne rfl).ne rfl).ev ?_)
  refine l_qg (wanted_is (j := 3) (d := 16) (b := false) rfl rfl ((At.hit z3.put.put.put rfl).ne rfl) rfl) (q_len rfl rfl Tryd.underlying9 (At.hit z3.put.put.put.put rfl).ev ?_)
  refine l_qg (wanted_is (j := 3) (d := 16) (b := false) rfl rfl (((At.hit z3.put.put.put rfl).ne rfl).ne rfl) rfl) (q_gtr false rfl (At.hit z3.put.put.put.put.put rfl).ev rfl (decide_eq_false (by omega)) ?_)
  refine l_q rfl (q_pick (b := false) (.bool false) rfl ((((At.hit z3.put.put.put rfl).ne rfl).ne rfl).ne rfl).ev (At.hit z3.put.put.put.put.put.put rfl).ev ?_)
  refine l_end ?_
  refine e_fresh z3.put.put.put.put.put.put.put.put ?_
  intro a4 z4 m4
  have s0_4 := m4 _ _ ((((((((s0_3.ne rfl).ne rfl).ne rfl).ne rfl).ne rfl).ne rfl).ne rfl).ne rfl)
  have s1_4 := m4 _ _ ((((((((s1_3.ne rfl).ne rfl).ne rfl).ne rfl).ne rfl).ne rfl).ne rfl).ne rfl)
  have s2_4 := m4 _ _ ((((((((s2_3.ne rfl).ne rfl).ne rfl).ne rfl).ne rfl).ne rfl).ne rfl).ne rfl)
  have s3_4 := m4 _ _ ((((((((s3_3.ne rfl).ne rfl).ne rfl).ne rfl).ne rfl).ne rfl).ne rfl).ne rfl)
  have s20_4 := m4 _ _ (At.hit z3.put.put.put.put.put.put.put rfl)
  clear m4
  refine e_then ?_
  refine c_false s20_4 ?_
  refine wp_skip ?_
  refine e_then ?_
  refine c_seq ?_
  refine c_region ?_
  refine l_q rfl (q_move _ _ rfl s0_4.ev ?_)
  refine l_q rfl (q_move _ _ rfl (s2_4.ne rfl).ev ?_)
  refine l_call (fun v w' => v = .string (rowS kind y) ∧ Low w2 w') rfl rfl rfl Tryd.func13 rfl (args2 rfl ((At.hit z4 rfl).ne rfl).ev (At.hit z4.put rfl).ev) ((RowS.calls kind y (by omega) hk _ (Gd.low hG low3)).mono fun _ _ ⟨e, k⟩ => ⟨_, e, rfl, k⟩) ?_
  rintro _ w5 ⟨rfl, h5⟩
  refine l_q rfl (q_move _ _ rfl (((s1_4.ne rfl).ne rfl).ne rfl).ev ?_)
  refine l_q rfl (q_move _ _ rfl ((((s3_4.ne rfl).ne rfl).ne rfl).ne rfl).ev ?_)
  refine l_call (fun v w' => v = .string (rowS other x) ∧ Low w5 w') rfl rfl rfl Tryd.func13 rfl (args2 rfl ((At.hit z4.put.put.put rfl).ne rfl).ev (At.hit z4.put.put.put.put rfl).ev) ((RowS.calls other x (by omega) ho _ (Gd.low hG (low3.trans h5))).mono fun _ _ ⟨e, k⟩ => ⟨_, e, rfl, k⟩) ?_
  rintro _ w6 ⟨rfl, h6⟩
  refine l_q rfl (q_assign _ _ rfl ((((At.hit z4.put.put rfl).ne rfl).ne rfl).ne rfl).ev ?_)
  refine l_q rfl (q_assign _ _ rfl ((At.hit z4.put.put.put.put.put rfl).ne rfl).ev ?_)
  refine l_end ?_
  refine e_fresh z4.put.put.put.put.put.put.put.put ?_
  intro a7 z7 m7
  have s0_7 := m7 _ _ ((((((((s0_4.ne rfl).ne rfl).ne rfl).ne rfl).ne rfl).ne rfl).ne rfl).ne rfl)
  have s1_7 := m7 _ _ ((((((((s1_4.ne rfl).ne rfl).ne rfl).ne rfl).ne rfl).ne rfl).ne rfl).ne rfl)
  have s2_7 := m7 _ _ ((((((((s2_4.ne rfl).ne rfl).ne rfl).ne rfl).ne rfl).ne rfl).ne rfl).ne rfl)
  have s3_7 := m7 _ _ ((((((((s3_4.ne rfl).ne rfl).ne rfl).ne rfl).ne rfl).ne rfl).ne rfl).ne rfl)
  have s9_7 := m7 _ _ ((At.hit z4.put.put.put.put.put.put rfl).ne rfl)
  have s10_7 := m7 _ _ (At.hit z4.put.put.put.put.put.put.put rfl)
  have low7 := ((low3.trans h5).trans h6)
  clear m7
  refine e_then ?_
  refine c_seq ?_
  refine c_seq ?_
  refine c_region ?_
  refine l_q rfl (q_move _ _ rfl s0_7.ev ?_)
  refine l_call (fun v w' => v = .string (word kind) ∧ Low w6 w') rfl rfl rfl Tryd.func14 rfl (args1 rfl (At.hit z7 rfl).ev) ((Word.calls kind _).mono fun _ _ ⟨e, k⟩ => ⟨_, e, rfl, k⟩) ?_
  rintro _ w8 ⟨rfl, h8⟩
  refine l_q rfl (q_streq false rfl (At.hit z7.put rfl).ev rfl (beq_no hk) ?_)
  refine l_q rfl (q_move _ _ rfl (At.hit z7.put.put rfl).ev ?_)
  refine l_qg (wanted_is (j := 3) (d := 30) (b := false) rfl rfl (At.hit z7.put.put.put rfl) rfl) (q_move _ _ rfl ((((s1_7.ne rfl).ne rfl).ne rfl).ne rfl).ev ?_)
  refine l_callg (fun v w' => v = .string (word other) ∧ Low w8 w') (wanted_is (j := 3) (d := 30) (b := false) rfl rfl ((At.hit z7.put.put.put rfl).ne rfl) rfl) rfl rfl Tryd.func14 rfl (args1 rfl (At.hit z7.put.put.put.put rfl).ev) ((Word.calls other _).mono fun _ _ ⟨e, k⟩ => ⟨_, e, rfl, k⟩) ?_
  rintro _ w9 ⟨rfl, h9⟩
  refine l_qg (wanted_is (j := 3) (d := 30) (b := false) rfl rfl (((At.hit z7.put.put.put rfl).ne rfl).ne rfl) rfl) (q_streq false rfl (At.hit z7.put.put.put.put.put rfl).ev rfl (beq_no ho) ?_)
  refine l_q rfl (q_pick (b := false) (.bool false) rfl ((((At.hit z7.put.put.put rfl).ne rfl).ne rfl).ne rfl).ev (At.hit z7.put.put.put.put.put.put rfl).ev ?_)
  refine l_end ?_
  refine e_fresh z7.put.put.put.put.put.put.put.put ?_
  intro a10 z10 m10
  have s0_10 := m10 _ _ ((((((((s0_7.ne rfl).ne rfl).ne rfl).ne rfl).ne rfl).ne rfl).ne rfl).ne rfl)
  have s1_10 := m10 _ _ ((((((((s1_7.ne rfl).ne rfl).ne rfl).ne rfl).ne rfl).ne rfl).ne rfl).ne rfl)
  have s2_10 := m10 _ _ ((((((((s2_7.ne rfl).ne rfl).ne rfl).ne rfl).ne rfl).ne rfl).ne rfl).ne rfl)
  have s3_10 := m10 _ _ ((((((((s3_7.ne rfl).ne rfl).ne rfl).ne rfl).ne rfl).ne rfl).ne rfl).ne rfl)
  have s9_10 := m10 _ _ ((((((((s9_7.ne rfl).ne rfl).ne rfl).ne rfl).ne rfl).ne rfl).ne rfl).ne rfl)
  have s10_10 := m10 _ _ ((((((((s10_7.ne rfl).ne rfl).ne rfl).ne rfl).ne rfl).ne rfl).ne rfl).ne rfl)
  have s34_10 := m10 _ _ (At.hit z7.put.put.put.put.put.put.put rfl)
  have low10 := ((low7.trans h8).trans h9)
  clear m10
  refine e_then ?_
  refine c_false s34_10 ?_
  refine wp_skip ?_
  refine e_then ?_
  refine c_seq ?_
  refine region_lowg hm (by kernel_rfl) ?_
  refine gs rfl (q_move _ _ rfl s9_10.ev ?_)
  refine gs rfl (q_len rfl rfl Tryd.underlying9 (At.hit z10 rfl).ev ?_)
  refine gs rfl (q_move _ _ rfl ((s2_10.ne rfl).ne rfl).ev ?_)
  refine gs rfl (q_len rfl rfl Tryd.underlying9 (At.hit z10.put.put rfl).ev ?_)
  refine gs rfl (q_gtr true rfl (((At.hit z10.put rfl).ne rfl).ne rfl).ev (At.hit z10.put.put.put rfl).ev (decide_eq_true (by omega)) ?_)
  refine gs rfl (q_move _ _ rfl (At.hit z10.put.put.put.put rfl).ev ?_)
  refine gsg (wanted_is (j := 5) (d := 46) (b := true) rfl rfl (At.hit z10.put.put.put.put.put rfl) rfl) (q_move _ _ rfl ((((((s9_10.ne rfl).ne rfl).ne rfl).ne rfl).ne rfl).ne rfl).ev ?_)
  refine gsg (wanted_is (j := 5) (d := 46) (b := true) rfl rfl ((At.hit z10.put.put.put.put.put rfl).ne rfl) rfl) (q_move _ _ rfl (((((((s9_10.ne rfl).ne rfl).ne rfl).ne rfl).ne rfl).ne rfl).ne rfl).ev ?_)
  refine g_fresh z10.put.put.put.put.put.put.put.put ?_
  intro a11 z11 m11
  have s0_11 := m11 _ _ ((((((((s0_10.ne rfl).ne rfl).ne rfl).ne rfl).ne rfl).ne rfl).ne rfl).ne rfl)
  have s1_11 := m11 _ _ ((((((((s1_10.ne rfl).ne rfl).ne rfl).ne rfl).ne rfl).ne rfl).ne rfl).ne rfl)
  have s2_11 := m11 _ _ ((((((((s2_10.ne rfl).ne rfl).ne rfl).ne rfl).ne rfl).ne rfl).ne rfl).ne rfl)
  have s3_11 := m11 _ _ ((((((((s3_10.ne rfl).ne rfl).ne rfl).ne rfl).ne rfl).ne rfl).ne rfl).ne rfl)
  have s9_11 := m11 _ _ ((((((((s9_10.ne rfl).ne rfl).ne rfl).ne rfl).ne rfl).ne rfl).ne rfl).ne rfl)
  have s10_11 := m11 _ _ ((((((((s10_10.ne rfl).ne rfl).ne rfl).ne rfl).ne rfl).ne rfl).ne rfl).ne rfl)
  have s46_11 := m11 _ _ (((At.hit z10.put.put.put.put.put rfl).ne rfl).ne rfl)
  have s47_11 := m11 _ _ ((At.hit z10.put.put.put.put.put.put rfl).ne rfl)
  have s48_11 := m11 _ _ (At.hit z10.put.put.put.put.put.put.put rfl)
  clear m11
  refine gsg (wanted_is (j := 5) (d := 46) (b := true) rfl rfl s46_11 rfl) (q_len rfl rfl Tryd.underlying9 s48_11.ev ?_)
  refine gsg (wanted_is (j := 5) (d := 46) (b := true) rfl rfl (s46_11.ne rfl) rfl) (q_move _ _ rfl (s2_11.ne rfl).ev ?_)
  refine gsg (wanted_is (j := 5) (d := 46) (b := true) rfl rfl ((s46_11.ne rfl).ne rfl) rfl) (q_len rfl rfl Tryd.underlying9 (At.hit z11.put rfl).ev ?_)
  refine gsg (wanted_is (j := 5) (d := 46) (b := true) rfl rfl (((s46_11.ne rfl).ne rfl).ne rfl) rfl) (q_sub (((((rowS kind y).size : Nat) : Int) - ((y.size : Nat) : Int))) rfl (((At.hit z11 rfl).ne rfl).ne rfl).ev (At.hit z11.put.put rfl).ev (i64_is (by omega) (by omega) (by omega)) ?_)
  refine gsg (wanted_is (j := 5) (d := 46) (b := true) rfl rfl ((((s46_11.ne rfl).ne rfl).ne rfl).ne rfl) rfl) (q_cutlo (j := ((rowS kind y).size) - y.size) rfl Tryd.underlying9 ((((s47_11.ne rfl).ne rfl).ne rfl).ne rfl).ev ((At.hit z11.put.put.put rfl).same (congrArg (Value.int .i64) (show (((((rowS kind y).size : Nat) : Int) - ((y.size : Nat) : Int)) : Int) = ((((rowS kind y).size) - y.size : Nat) : Int) by omega))).ev (by omega) ?_)
  refine gsg (wanted_is (j := 5) (d := 46) (b := true) rfl rfl (((((s46_11.ne rfl).ne rfl).ne rfl).ne rfl).ne rfl) rfl) (q_move _ _ rfl (((((s2_11.ne rfl).ne rfl).ne rfl).ne rfl).ne rfl).ev ?_)
  refine gsg (wanted_is (j := 5) (d := 46) (b := true) rfl rfl ((((((s46_11.ne rfl).ne rfl).ne rfl).ne rfl).ne rfl).ne rfl) rfl) (q_streq true rfl ((At.hit z11.put.put.put.put rfl).ne rfl).ev (At.hit z11.put.put.put.put.put rfl).ev (beq_is (rowS_back kind y)) ?_)
  refine gs rfl (q_pick (b := true) (.bool true) rfl (((((((s46_11.ne rfl).ne rfl).ne rfl).ne rfl).ne rfl).ne rfl).ne rfl).ev (At.hit z11.put.put.put.put.put.put rfl).ev ?_)
  refine g_fresh z11.put.put.put.put.put.put.put.put ?_
  intro a12 z12 m12
  have s0_12 := m12 _ _ ((((((((s0_11.ne rfl).ne rfl).ne rfl).ne rfl).ne rfl).ne rfl).ne rfl).ne rfl)
  have s1_12 := m12 _ _ ((((((((s1_11.ne rfl).ne rfl).ne rfl).ne rfl).ne rfl).ne rfl).ne rfl).ne rfl)
  have s2_12 := m12 _ _ ((((((((s2_11.ne rfl).ne rfl).ne rfl).ne rfl).ne rfl).ne rfl).ne rfl).ne rfl)
  have s3_12 := m12 _ _ ((((((((s3_11.ne rfl).ne rfl).ne rfl).ne rfl).ne rfl).ne rfl).ne rfl).ne rfl)
  have s9_12 := m12 _ _ ((((((((s9_11.ne rfl).ne rfl).ne rfl).ne rfl).ne rfl).ne rfl).ne rfl).ne rfl)
  have s10_12 := m12 _ _ ((((((((s10_11.ne rfl).ne rfl).ne rfl).ne rfl).ne rfl).ne rfl).ne rfl).ne rfl)
  have s56_12 := m12 _ _ (At.hit z11.put.put.put.put.put.put.put rfl)
  clear m12
  refine gs rfl (q_move _ _ rfl s56_12.ev ?_)
  refine gsg (wanted_is (j := 16) (d := 57) (b := true) rfl rfl (At.hit z12 rfl) rfl) (q_move _ _ rfl (s9_12.ne rfl).ev ?_)
  refine gsg (wanted_is (j := 16) (d := 57) (b := true) rfl rfl ((At.hit z12 rfl).ne rfl) rfl) (q_move _ _ rfl ((s9_12.ne rfl).ne rfl).ev ?_)
  refine gsg (wanted_is (j := 16) (d := 57) (b := true) rfl rfl (((At.hit z12 rfl).ne rfl).ne rfl) rfl) (q_len rfl rfl Tryd.underlying9 (At.hit z12.put.put rfl).ev ?_)
  refine gsg (wanted_is (j := 16) (d := 57) (b := true) rfl rfl ((((At.hit z12 rfl).ne rfl).ne rfl).ne rfl) rfl) (q_move _ _ rfl ((((s2_12.ne rfl).ne rfl).ne rfl).ne rfl).ev ?_)
  refine gsg (wanted_is (j := 16) (d := 57) (b := true) rfl rfl (((((At.hit z12 rfl).ne rfl).ne rfl).ne rfl).ne rfl) rfl) (q_len rfl rfl Tryd.underlying9 (At.hit z12.put.put.put.put rfl).ev ?_)
  refine gsg (wanted_is (j := 16) (d := 57) (b := true) rfl rfl ((((((At.hit z12 rfl).ne rfl).ne rfl).ne rfl).ne rfl).ne rfl) rfl) (q_sub (((((rowS kind y).size : Nat) : Int) - ((y.size : Nat) : Int))) rfl (((At.hit z12.put.put.put rfl).ne rfl).ne rfl).ev (At.hit z12.put.put.put.put.put rfl).ev (i64_is (by omega) (by omega) (by omega)) ?_)
  refine gsg (wanted_is (j := 16) (d := 57) (b := true) rfl rfl (((((((At.hit z12 rfl).ne rfl).ne rfl).ne rfl).ne rfl).ne rfl).ne rfl) rfl) (q_sub (((((rowS kind y).size : Nat) : Int) - ((y.size : Nat) : Int) - 1)) rfl (At.hit z12.put.put.put.put.put.put rfl).ev rfl (i64_is (by omega) (by omega) (by omega)) ?_)
  refine g_fresh z12.put.put.put.put.put.put.put.put ?_
  intro a13 z13 m13
  have s0_13 := m13 _ _ ((((((((s0_12.ne rfl).ne rfl).ne rfl).ne rfl).ne rfl).ne rfl).ne rfl).ne rfl)
  have s1_13 := m13 _ _ ((((((((s1_12.ne rfl).ne rfl).ne rfl).ne rfl).ne rfl).ne rfl).ne rfl).ne rfl)
  have s2_13 := m13 _ _ ((((((((s2_12.ne rfl).ne rfl).ne rfl).ne rfl).ne rfl).ne rfl).ne rfl).ne rfl)
  have s3_13 := m13 _ _ ((((((((s3_12.ne rfl).ne rfl).ne rfl).ne rfl).ne rfl).ne rfl).ne rfl).ne rfl)
  have s9_13 := m13 _ _ ((((((((s9_12.ne rfl).ne rfl).ne rfl).ne rfl).ne rfl).ne rfl).ne rfl).ne rfl)
  have s10_13 := m13 _ _ ((((((((s10_12.ne rfl).ne rfl).ne rfl).ne rfl).ne rfl).ne rfl).ne rfl).ne rfl)
  have s57_13 := m13 _ _ ((((((((At.hit z12 rfl).ne rfl).ne rfl).ne rfl).ne rfl).ne rfl).ne rfl).ne rfl)
  have s58_13 := m13 _ _ (((((((At.hit z12.put rfl).ne rfl).ne rfl).ne rfl).ne rfl).ne rfl).ne rfl)
  have s64_13 := m13 _ _ (At.hit z12.put.put.put.put.put.put.put rfl)
  clear m13
  refine gsg (wanted_is (j := 16) (d := 57) (b := true) rfl rfl s57_13 rfl) (q_stridx (j := ((rowS kind y).size) - y.size - 1) rfl Tryd.underlying9 s58_13.ev (s64_13.same (congrArg (Value.int .i64) (show (((((rowS kind y).size : Nat) : Int) - ((y.size : Nat) : Int) - 1) : Int) = ((((rowS kind y).size) - y.size - 1 : Nat) : Int) by omega))).ev (by omega) ?_)
  refine gsg (wanted_is (j := 16) (d := 57) (b := true) rfl rfl (s57_13.ne rfl) rfl) (q_eql true rfl (At.hit z13 rfl).ev rfl (decide_eq_true (by rw [rowS_zero]; rfl)) ?_)
  refine gs rfl (q_pick (b := true) (.bool true) rfl ((s57_13.ne rfl).ne rfl).ev (At.hit z13.put rfl).ev ?_)
  refine gs rfl (q_move _ _ rfl (At.hit z13.put.put rfl).ev ?_)
  refine gsg (wanted_is (j := 27) (d := 68) (b := true) rfl rfl (At.hit z13.put.put.put rfl) rfl) (q_move _ _ rfl ((((s9_13.ne rfl).ne rfl).ne rfl).ne rfl).ev ?_)
  refine gsg (wanted_is (j := 27) (d := 68) (b := true) rfl rfl ((At.hit z13.put.put.put rfl).ne rfl) rfl) (q_move _ _ rfl (((((s0_13.ne rfl).ne rfl).ne rfl).ne rfl).ne rfl).ev ?_)
  refine gsg (wanted_is (j := 27) (d := 68) (b := true) rfl rfl (((At.hit z13.put.put.put rfl).ne rfl).ne rfl) rfl) (q_call (.string (word kind)) rfl rfl Tryd.func14 rfl (args1 rfl (At.hit z13.put.put.put.put.put rfl).ev) (fun _ h => (Word.calls kind _).mono fun _ _ ⟨e, k⟩ => ⟨e, h.trans k⟩) ?_)
  refine gsg (wanted_is (j := 27) (d := 68) (b := true) rfl rfl ((((At.hit z13.put.put.put rfl).ne rfl).ne rfl).ne rfl) rfl) (q_len rfl rfl Tryd.underlying9 (At.hit z13.put.put.put.put.put.put rfl).ev ?_)
  refine g_fresh z13.put.put.put.put.put.put.put.put ?_
  intro a14 z14 m14
  have s0_14 := m14 _ _ ((((((((s0_13.ne rfl).ne rfl).ne rfl).ne rfl).ne rfl).ne rfl).ne rfl).ne rfl)
  have s1_14 := m14 _ _ ((((((((s1_13.ne rfl).ne rfl).ne rfl).ne rfl).ne rfl).ne rfl).ne rfl).ne rfl)
  have s2_14 := m14 _ _ ((((((((s2_13.ne rfl).ne rfl).ne rfl).ne rfl).ne rfl).ne rfl).ne rfl).ne rfl)
  have s3_14 := m14 _ _ ((((((((s3_13.ne rfl).ne rfl).ne rfl).ne rfl).ne rfl).ne rfl).ne rfl).ne rfl)
  have s9_14 := m14 _ _ ((((((((s9_13.ne rfl).ne rfl).ne rfl).ne rfl).ne rfl).ne rfl).ne rfl).ne rfl)
  have s10_14 := m14 _ _ ((((((((s10_13.ne rfl).ne rfl).ne rfl).ne rfl).ne rfl).ne rfl).ne rfl).ne rfl)
  have s68_14 := m14 _ _ (((((At.hit z13.put.put.put rfl).ne rfl).ne rfl).ne rfl).ne rfl)
  have s69_14 := m14 _ _ ((((At.hit z13.put.put.put.put rfl).ne rfl).ne rfl).ne rfl)
  have s72_14 := m14 _ _ (At.hit z13.put.put.put.put.put.put.put rfl)
  clear m14
  refine gsg (wanted_is (j := 27) (d := 68) (b := true) rfl rfl s68_14 rfl) (q_add (((((word kind).size) + 1 : Nat) : Int)) rfl s72_14.ev rfl (i64_is (by omega) (by omega) (by omega)) ?_)
  refine gsg (wanted_is (j := 27) (d := 68) (b := true) rfl rfl (s68_14.ne rfl) rfl) (q_cuthi (k := ((word kind).size) + 1) rfl Tryd.underlying9 (s69_14.ne rfl).ev (At.hit z14 rfl).ev (by omega) ?_)
  refine gsg (wanted_is (j := 27) (d := 68) (b := true) rfl rfl ((s68_14.ne rfl).ne rfl) rfl) (q_move _ _ rfl ((s0_14.ne rfl).ne rfl).ev ?_)
  refine gsg (wanted_is (j := 27) (d := 68) (b := true) rfl rfl (((s68_14.ne rfl).ne rfl).ne rfl) rfl) (q_call (.string (word kind)) rfl rfl Tryd.func14 rfl (args1 rfl (At.hit z14.put.put rfl).ev) (fun _ h => (Word.calls kind _).mono fun _ _ ⟨e, k⟩ => ⟨e, h.trans k⟩) ?_)
  refine gsg (wanted_is (j := 27) (d := 68) (b := true) rfl rfl ((((s68_14.ne rfl).ne rfl).ne rfl).ne rfl) rfl) (q_cat rfl (At.hit z14.put.put.put rfl).ev rfl (by have hw := word_size kind; simp only [sz_sp]; omega) ?_)
  refine gsg (wanted_is (j := 27) (d := 68) (b := true) rfl rfl (((((s68_14.ne rfl).ne rfl).ne rfl).ne rfl).ne rfl) rfl) (q_streq true rfl ((((At.hit z14.put rfl).ne rfl).ne rfl).ne rfl).ev (At.hit z14.put.put.put.put rfl).ev (beq_is (rowS_front kind y)) ?_)
  refine gs rfl (q_pick (b := true) (.bool true) rfl ((((((s68_14.ne rfl).ne rfl).ne rfl).ne rfl).ne rfl).ne rfl).ev (At.hit z14.put.put.put.put.put rfl).ev ?_)
  refine gs rfl (q_move _ _ rfl (At.hit z14.put.put.put.put.put.put rfl).ev ?_)
  refine g_fresh z14.put.put.put.put.put.put.put.put ?_
  intro a15 z15 m15
  have s0_15 := m15 _ _ ((((((((s0_14.ne rfl).ne rfl).ne rfl).ne rfl).ne rfl).ne rfl).ne rfl).ne rfl)
  have s1_15 := m15 _ _ ((((((((s1_14.ne rfl).ne rfl).ne rfl).ne rfl).ne rfl).ne rfl).ne rfl).ne rfl)
  have s2_15 := m15 _ _ ((((((((s2_14.ne rfl).ne rfl).ne rfl).ne rfl).ne rfl).ne rfl).ne rfl).ne rfl)
  have s3_15 := m15 _ _ ((((((((s3_14.ne rfl).ne rfl).ne rfl).ne rfl).ne rfl).ne rfl).ne rfl).ne rfl)
  have s9_15 := m15 _ _ ((((((((s9_14.ne rfl).ne rfl).ne rfl).ne rfl).ne rfl).ne rfl).ne rfl).ne rfl)
  have s10_15 := m15 _ _ ((((((((s10_14.ne rfl).ne rfl).ne rfl).ne rfl).ne rfl).ne rfl).ne rfl).ne rfl)
  have s80_15 := m15 _ _ (At.hit z14.put.put.put.put.put.put.put rfl)
  clear m15
  refine gsg (wanted_is (j := 39) (d := 80) (b := true) rfl rfl s80_15 rfl) (q_move _ _ rfl s9_15.ev ?_)
  refine gsg (wanted_is (j := 39) (d := 80) (b := true) rfl rfl (s80_15.ne rfl) rfl) (q_move _ _ rfl (s10_15.ne rfl).ev ?_)
  refine gsg (wanted_is (j := 39) (d := 80) (b := true) rfl rfl ((s80_15.ne rfl).ne rfl) rfl) (q_streq false rfl ((At.hit z15 rfl).ne rfl).ev (At.hit z15.put rfl).ev (rows_ne kind other y x hk hne) ?_)
  refine gsg (wanted_is (j := 39) (d := 80) (b := true) rfl rfl (((s80_15.ne rfl).ne rfl).ne rfl) rfl) (q_move _ _ rfl (((s0_15.ne rfl).ne rfl).ne rfl).ev ?_)
  refine gsg (wanted_is (j := 39) (d := 80) (b := true) rfl rfl ((((s80_15.ne rfl).ne rfl).ne rfl).ne rfl) rfl) (q_move _ _ rfl ((((s1_15.ne rfl).ne rfl).ne rfl).ne rfl).ev ?_)
  refine gsg (wanted_is (j := 39) (d := 80) (b := true) rfl rfl (((((s80_15.ne rfl).ne rfl).ne rfl).ne rfl).ne rfl) rfl) (q_eql false rfl ((At.hit z15.put.put.put rfl).ne rfl).ev (At.hit z15.put.put.put.put rfl).ev (decide_eq_false hne) ?_)
  refine gsg (wanted_is (j := 39) (d := 80) (b := true) rfl rfl ((((((s80_15.ne rfl).ne rfl).ne rfl).ne rfl).ne rfl).ne rfl) rfl) (q_move _ _ rfl (At.hit z15.put.put.put.put.put rfl).ev ?_)
  refine gsk (wanted_is (j := 46) (d := 87) (b := false) rfl rfl (At.hit z15.put.put.put.put.put.put rfl) rfl) ?_
  refine g_fresh z15.put.put.put.put.put.put.put.put ?_
  intro a16 z16 m16
  have s3_16 := m16 _ _ ((((((((s3_15.ne rfl).ne rfl).ne rfl).ne rfl).ne rfl).ne rfl).ne rfl).ne rfl)
  have s80_16 := m16 _ _ ((((((((s80_15.ne rfl).ne rfl).ne rfl).ne rfl).ne rfl).ne rfl).ne rfl).ne rfl)
  have s83_16 := m16 _ _ ((((((At.hit z15.put.put rfl).ne rfl).ne rfl).ne rfl).ne rfl).ne rfl)
  have s87_16 := m16 _ _ ((At.hit z15.put.put.put.put.put.put rfl).ne rfl)
  have s88_16 := m16 _ _ (At.hit z15.put.put.put.put.put.put.put rfl)
  clear m16
  refine gsk (wanted_is (j := 46) (d := 87) (b := false) rfl rfl s87_16 rfl) ?_
  refine gsk (wanted_is (j := 46) (d := 87) (b := false) rfl rfl (s87_16.ne rfl) rfl) ?_
  refine gsg (wanted_is (j := 39) (d := 80) (b := true) rfl rfl ((s80_16.ne rfl).ne rfl) rfl) (q_pick (b := false) (.bool false) rfl ((s87_16.ne rfl).ne rfl).ev rfl ?_)
  refine gsg (wanted_is (j := 39) (d := 80) (b := true) rfl rfl (((s80_16.ne rfl).ne rfl).ne rfl) rfl) (q_eqB true rfl Tryd.underlying4 (((s83_16.ne rfl).ne rfl).ne rfl).ev (At.hit z16.put.put rfl).ev rfl ?_)
  refine gs rfl (q_pick (b := true) (.bool true) rfl ((((s80_16.ne rfl).ne rfl).ne rfl).ne rfl).ev (At.hit z16.put.put.put rfl).ev ?_)
  refine gs rfl (q_assign _ _ rfl (At.hit z16.put.put.put.put rfl).ev ?_)
  refine gz ?_
  intro w17 h17
  refine e_id ?_
  refine e_fresh z16.put.put.put.put.put.put ?_
  intro a18 z18 m18
  have s8_18 := m18 _ _ (At.hit z16.put.put.put.put.put rfl)
  have low18 := (low10.trans h17)
  clear m18
  refine e_then ?_
  refine wp_ret ?_
  refine r_tmp rfl z18.defers s8_18 ?_
  exact ⟨rfl, low18⟩
theorem IdentRow.calls (kind other : Int) (y x : ByteArray) (w0 : World) (hG : Gd w0) : Calls Tryd.prog 5 #[.int .i64 kind, .int .i64 other, .string y, .string x] w0 fun e w' => e = .returned (.bool true) ∧ Low w0 w' := by
  by_cases h1 : y.size > 1000
  · exact Rowl_a.calls kind other y x h1 w0 hG
  by_cases h2 : x.size > 1000
  · exact Rowl_b.calls kind other y x h1 h2 w0 hG
  by_cases hk : word kind = ⟨#[]⟩
  · exact Rowl_c.calls kind other y x h1 h2 hk w0 hG
  by_cases ho : word other = ⟨#[]⟩
  · exact Rowl_d.calls kind other y x h1 h2 hk ho w0 hG
  have hs := rowS_size' kind y
  have hw := word_size kind
  have hi := itoaS_size y.size (by omega)
  by_cases he : kind = other
  · subst he
    exact Rowl_e.calls kind y x h1 h2 hk (by omega) (by omega) (by omega) w0 hG
  · exact Rowl_f.calls kind other y x h1 h2 hk (by omega) (by omega) (by omega) ho he w0 hG
end Go.Proofs.YtfjhnnpdaggnbaaDoor.Q
end
/-! R0 -/
section
namespace Go.Proofs.YtfjhnnpdaggnbaaDoor.R
open Go.ChangeShapes Go.WideShapes Go.RowKit Go.Proofs.YtfjhnnpdaggnbaaDoorW.PrintWords
end Go.Proofs.YtfjhnnpdaggnbaaDoor.R
end
/-! R3 -/
section
namespace Go.Proofs.YtfjhnnpdaggnbaaDoor.R
open Go.ChangeShapes Go.WideShapes Go.RowKit Go.Joins Go.Deep Go.WideElems Go.Maps Go.Proofs.YtfjhnnpdaggnbaaDoorW.PrintWords
set_option maxRecDepth 100000 in
theorem gd_of {W : World} (h : laidMetH Tryd.prog Rows.identMakesRow.laid W) : Q.Gd W := by
  rw [MakeChecks.laidMetH_plain _ _ _ (by kernel_rfl)] at h
  have hL : laidMet Tryd.prog (("math/bits.deBruijn32tab", Rows.laid_math_bits_deBruijn32tab) :: ("math/bits.deBruijn64tab", Rows.laid_math_bits_deBruijn64tab) :: ("internal/strconv.uint64pow10", Rows.laid_internal_strconv_uint64pow10) :: []) W := h
  exact Lib.tabIs_of_head (name := "internal/strconv.uint64pow10") (k := .u64) (zs := Lib.pow10Tab) (g := 0) (t := 116) (e := 77) (n := 20) (by kernel_rfl) (by kernel_rfl) Tryd.underlying116 Tryd.underlying77 (by kernel_rfl) (by kernel_rfl) hL.tail.tail
end Go.Proofs.YtfjhnnpdaggnbaaDoor.R
end
