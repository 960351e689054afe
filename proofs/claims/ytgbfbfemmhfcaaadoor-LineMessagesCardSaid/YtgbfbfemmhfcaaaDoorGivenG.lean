/- diptychref27.Parse, walked. -/
import Derived.Test.YtgbfbfemmhfcaaaDoorGivenF
namespace Go.Proofs.YtgbfbfemmhfcaaaDoor.P
open Go.Joins Go.RowKit Go.Shelf Go.Proofs.YtgbfbfemmhfcaaaDoorW.PrintWords
set_option maxRecDepth 100000 in
theorem ref_bad (k : Nat) (a0 b : ByteArray) (e0 : Int) (w : World) (ho : diptychref04_Open.f k a0 = some (b, e0)) (he : e0 ≠ 0) : Calls Tryd.prog 17 #[.string a0] w (RefPost w 0 0 0 [] e0) := by
  have HO := Lib.hid ho
  have c1 : (e0 == 0) = false := beq_eq_false_iff_ne.mpr he
  have c2 : (e0 != 0) = true := bne_iff_ne.mpr he
  have c3 : decide (e0 = 0) = false := decide_eq_false he
  clear ho he
  go_enter Tryd.func17, Tryd.ntmps17
  go_wp2_with (first | ((with_reducible refine gate_dst (N := 2) rfl ?_); refine box_event ?hg (N := 2) ?hd (cs := #[.int .i64 0, .int .i64 0, .int .i64 0, .slice none 0 0]) (t := 40) ?hr ?_; (case hd => rfl); (case hg => rfl); (case hr => first | (go_simp; done) | (go_simp; rfl)); intro g0 e0x_ w0 k0 hb0; have E0_ := Lib.hid e0x_; clear e0x_; have z0 : w0.cell? ⟨g0, 0, none⟩ = some (.int .i64 0) := (blk_cell k0 0).trans rfl; have z1 : w0.cell? ⟨g0, 1, none⟩ = some (.int .i64 0) := (blk_cell k0 1).trans rfl; have z2 : w0.cell? ⟨g0, 2, none⟩ = some (.int .i64 0) := (blk_cell k0 2).trans rfl; have z3 : w0.cell? ⟨g0, 3, none⟩ = some (.slice none 0 0) := (blk_cell k0 3).trans rfl; have f0 := blk_frozen k0 0; have f1 := blk_frozen k0 1; have f2 := blk_frozen k0 2; have f3 := blk_frozen k0 3) | (go_at_call 32; refine (diptychref04_Open.calls k _ b e0 _ HO.out).mono ?_; rintro e w1 ⟨rfl, hb1⟩; have k1 := blk_below k0 hb1; have z0 : w1.cell? ⟨g0, 0, none⟩ = some (.int .i64 0) := (blk_cell k1 0).trans rfl; have z1 : w1.cell? ⟨g0, 1, none⟩ = some (.int .i64 0) := (blk_cell k1 1).trans rfl; have z2 : w1.cell? ⟨g0, 2, none⟩ = some (.int .i64 0) := (blk_cell k1 2).trans rfl; have z3 : w1.cell? ⟨g0, 3, none⟩ = some (.slice none 0 0) := (blk_cell k1 3).trans rfl; have f0 := blk_frozen k1 0; have f1 := blk_frozen k1 1; have f2 := blk_frozen k1 2; have f3 := blk_frozen k1 3))
  have k2 := blk_set (blk_set (blk_set (blk_set k1 0 (.int .i64 0)) 1 (.int .i64 0)) 2 (.int .i64 0)) 3 (.slice none 0 0)
  refine bodyPost_ret (results_ct rfl _ _ g0 40 #[.int .i64 0, .int .i64 0, .int .i64 0, .slice none 0 0] (0, 0) _ rfl ?hblk Tryd.underlying40 rfl rfl) rfl ?_
  case hblk => exact k2
  exact ⟨_, rfl, Kd.Q_nil _ _ _ _ _, by
    refine Below.setCell (Below.setCell (Below.setCell (Below.setCell ?_ ?_ _) ?_ _) ?_ _) ?_ _
    · exact below_step hb0 hb1
    all_goals exact Nat.le_of_eq E0_.out.symm⟩
set_option maxRecDepth 100000 in
theorem ref_bad2 (k : Nat) (a0 b : ByteArray) (e0 : Int) (ls : List ByteArray) (rest : ByteArray) (w : World) (ho : diptychref04_Open.f k a0 = some (b, 0)) (ht : diptychref27_Take.f k b = some (ls, rest, e0)) (hl : ¬ (e0 = 0 ∧ 3 ≤ ls.length)) : Calls Tryd.prog 17 #[.string a0] w (RefPost w 0 0 0 [] 3) := by
  have HO := Lib.hid ho
  have HT := Lib.hid ht
  clear ho ht
  by_cases he : e0 = 0
  · subst he
    have hl2 : ((ls.length : Int) < 3) = True := eq_true (by omega)
    clear hl
    go_enter Tryd.func17, Tryd.ntmps17
    go_wp2_with (first | ((with_reducible refine gate_dst (N := 2) rfl ?_); refine box_event ?hg (N := 2) ?hd (cs := #[.int .i64 0, .int .i64 0, .int .i64 0, .slice none 0 0]) (t := 40) ?hr ?_; (case hd => rfl); (case hg => rfl); (case hr => first | (go_simp; done) | (go_simp; rfl)); intro g0 e0x_ w0 k0 hb0; have E0_ := Lib.hid e0x_; clear e0x_; have z0 : w0.cell? ⟨g0, 0, none⟩ = some (.int .i64 0) := (blk_cell k0 0).trans rfl; have z1 : w0.cell? ⟨g0, 1, none⟩ = some (.int .i64 0) := (blk_cell k0 1).trans rfl; have z2 : w0.cell? ⟨g0, 2, none⟩ = some (.int .i64 0) := (blk_cell k0 2).trans rfl; have z3 : w0.cell? ⟨g0, 3, none⟩ = some (.slice none 0 0) := (blk_cell k0 3).trans rfl; have f0 := blk_frozen k0 0; have f1 := blk_frozen k0 1; have f2 := blk_frozen k0 2; have f3 := blk_frozen k0 3) | (go_at_call 32; refine (diptychref04_Open.calls k _ b 0 _ HO.out).mono ?_; rintro e w1 ⟨rfl, hb1⟩; have k1 := blk_below k0 hb1; have z0 : w1.cell? ⟨g0, 0, none⟩ = some (.int .i64 0) := (blk_cell k1 0).trans rfl; have z1 : w1.cell? ⟨g0, 1, none⟩ = some (.int .i64 0) := (blk_cell k1 1).trans rfl; have z2 : w1.cell? ⟨g0, 2, none⟩ = some (.int .i64 0) := (blk_cell k1 2).trans rfl; have z3 : w1.cell? ⟨g0, 3, none⟩ = some (.slice none 0 0) := (blk_cell k1 3).trans rfl; have f0 := blk_frozen k1 0; have f1 := blk_frozen k1 1; have f2 := blk_frozen k1 2; have f3 := blk_frozen k1 3) | (go_at_call 12; refine (diptychref27_Take.calls k _ ls rest 0 _ HT.out).mono ?_; rintro e w2 ⟨v, rfl, hv, hb2⟩; obtain ⟨A, c, rfl⟩ := Kd.R_slice hv; have k2 := blk_below k1 hb2; have z0 : w2.cell? ⟨g0, 0, none⟩ = some (.int .i64 0) := (blk_cell k2 0).trans rfl; have z1 : w2.cell? ⟨g0, 1, none⟩ = some (.int .i64 0) := (blk_cell k2 1).trans rfl; have z2 : w2.cell? ⟨g0, 2, none⟩ = some (.int .i64 0) := (blk_cell k2 2).trans rfl; have z3 : w2.cell? ⟨g0, 3, none⟩ = some (.slice none 0 0) := (blk_cell k2 3).trans rfl; have f0 := blk_frozen k2 0; have f1 := blk_frozen k2 1; have f2 := blk_frozen k2 2; have f3 := blk_frozen k2 3))
    have k3 := blk_set (blk_set (blk_set (blk_set k2 0 (.int .i64 0)) 1 (.int .i64 0)) 2 (.int .i64 0)) 3 (.slice none 0 0)
    refine bodyPost_ret (results_ct rfl _ _ g0 40 #[.int .i64 0, .int .i64 0, .int .i64 0, .slice none 0 0] (0, 0) _ rfl ?hblk Tryd.underlying40 rfl rfl) rfl ?_
    case hblk => exact k3
    exact ⟨_, rfl, Kd.Q_nil _ _ _ _ _, by
      refine Below.setCell (Below.setCell (Below.setCell (Below.setCell ?_ ?_ _) ?_ _) ?_ _) ?_ _
      · exact below_step (below_step hb0 hb1) hb2
      all_goals exact Nat.le_of_eq E0_.out.symm⟩
  · have c1 : (e0 == 0) = false := beq_eq_false_iff_ne.mpr he
    have c2 : (e0 != 0) = true := bne_iff_ne.mpr he
    have c3 : decide (e0 = 0) = false := decide_eq_false he
    clear hl he
    go_enter Tryd.func17, Tryd.ntmps17
    go_wp2_with (first | ((with_reducible refine gate_dst (N := 2) rfl ?_); refine box_event ?hg (N := 2) ?hd (cs := #[.int .i64 0, .int .i64 0, .int .i64 0, .slice none 0 0]) (t := 40) ?hr ?_; (case hd => rfl); (case hg => rfl); (case hr => first | (go_simp; done) | (go_simp; rfl)); intro g0 e0x_ w0 k0 hb0; have E0_ := Lib.hid e0x_; clear e0x_; have z0 : w0.cell? ⟨g0, 0, none⟩ = some (.int .i64 0) := (blk_cell k0 0).trans rfl; have z1 : w0.cell? ⟨g0, 1, none⟩ = some (.int .i64 0) := (blk_cell k0 1).trans rfl; have z2 : w0.cell? ⟨g0, 2, none⟩ = some (.int .i64 0) := (blk_cell k0 2).trans rfl; have z3 : w0.cell? ⟨g0, 3, none⟩ = some (.slice none 0 0) := (blk_cell k0 3).trans rfl; have f0 := blk_frozen k0 0; have f1 := blk_frozen k0 1; have f2 := blk_frozen k0 2; have f3 := blk_frozen k0 3) | (go_at_call 32; refine (diptychref04_Open.calls k _ b 0 _ HO.out).mono ?_; rintro e w1 ⟨rfl, hb1⟩; have k1 := blk_below k0 hb1; have z0 : w1.cell? ⟨g0, 0, none⟩ = some (.int .i64 0) := (blk_cell k1 0).trans rfl; have z1 : w1.cell? ⟨g0, 1, none⟩ = some (.int .i64 0) := (blk_cell k1 1).trans rfl; have z2 : w1.cell? ⟨g0, 2, none⟩ = some (.int .i64 0) := (blk_cell k1 2).trans rfl; have z3 : w1.cell? ⟨g0, 3, none⟩ = some (.slice none 0 0) := (blk_cell k1 3).trans rfl; have f0 := blk_frozen k1 0; have f1 := blk_frozen k1 1; have f2 := blk_frozen k1 2; have f3 := blk_frozen k1 3) | (go_at_call 12; refine (diptychref27_Take.calls k _ ls rest e0 _ HT.out).mono ?_; rintro e w2 ⟨v, rfl, hv, hb2⟩; obtain ⟨A, c, rfl⟩ := Kd.R_slice hv; have k2 := blk_below k1 hb2; have z0 : w2.cell? ⟨g0, 0, none⟩ = some (.int .i64 0) := (blk_cell k2 0).trans rfl; have z1 : w2.cell? ⟨g0, 1, none⟩ = some (.int .i64 0) := (blk_cell k2 1).trans rfl; have z2 : w2.cell? ⟨g0, 2, none⟩ = some (.int .i64 0) := (blk_cell k2 2).trans rfl; have z3 : w2.cell? ⟨g0, 3, none⟩ = some (.slice none 0 0) := (blk_cell k2 3).trans rfl; have f0 := blk_frozen k2 0; have f1 := blk_frozen k2 1; have f2 := blk_frozen k2 2; have f3 := blk_frozen k2 3))
    have k3 := blk_set (blk_set (blk_set (blk_set k2 0 (.int .i64 0)) 1 (.int .i64 0)) 2 (.int .i64 0)) 3 (.slice none 0 0)
    refine bodyPost_ret (results_ct rfl _ _ g0 40 #[.int .i64 0, .int .i64 0, .int .i64 0, .slice none 0 0] (0, 0) _ rfl ?hblk Tryd.underlying40 rfl rfl) rfl ?_
    case hblk => exact k3
    exact ⟨_, rfl, Kd.Q_nil _ _ _ _ _, by
      refine Below.setCell (Below.setCell (Below.setCell (Below.setCell ?_ ?_ _) ?_ _) ?_ _) ?_ _
      · exact below_step (below_step hb0 hb1) hb2
      all_goals exact Nat.le_of_eq E0_.out.symm⟩
theorem box4r {W w : World} {b : Nat} {x y z v : Value} {t : TypeId} (hb : w.heap[b]? = some (.cells #[.int .i64 0, .int .i64 0, .int .i64 0, .slice none 0 0] t (0, 0))) (hB : Below W.heap.size W w) (hg : W.heap.size ≤ b) :
    ((((w.setCell ⟨b, 0, none⟩ x).setCell ⟨b, 1, none⟩ y).setCell ⟨b, 2, none⟩ z).setCell ⟨b, 3, none⟩ v).heap[b]? = some (.cells #[x, y, z, v] t (0, 0)) ∧ Below W.heap.size W ((((w.setCell ⟨b, 0, none⟩ x).setCell ⟨b, 1, none⟩ y).setCell ⟨b, 2, none⟩ z).setCell ⟨b, 3, none⟩ v) :=
  ⟨blk_set (blk_set (blk_set (blk_set hb 0 x) 1 y) 2 z) 3 v, Below.setCell (Below.setCell (Below.setCell (Below.setCell hB hg _) hg _) hg _) hg _⟩
set_option maxHeartbeats 0 in
set_option maxRecDepth 100000 in
theorem ref_good (k : Nat) (a0 b : ByteArray) (ls : List ByteArray) (rest : ByteArray) (w : World) (ho : diptychref04_Open.f k a0 = some (b, 0)) (ht : diptychref27_Take.f k b = some (ls, rest, 0)) (hl : 3 ≤ ls.length) (r1 r2 r3 : Int) (r4 : List ByteArray) (r5 : Int) (hp : refParseB k a0 ls = some (r1, r2, r3, r4, r5)) : Calls Tryd.prog 17 #[.string a0] w (RefPost w r1 r2 r3 r4 r5) := by
  have HO := Lib.hid ho
  have HT := Lib.hid ht
  have HL := Lib.hid hl
  unfold refParseB at hp
  obtain ⟨n0, hn0, hpa⟩ := Option.bind_eq_some_iff.mp hp
  obtain ⟨n1, hn1, hpb⟩ := Option.bind_eq_some_iff.mp hpa
  obtain ⟨n2, hn2, hpc⟩ := Option.bind_eq_some_iff.mp hpb
  obtain ⟨⟨t1, t2⟩, hPr, hpd⟩ := Option.bind_eq_some_iff.mp hpc
  clear hp hpa hpb hpc
  obtain ⟨s0, hs0⟩ : ∃ s, s = rdOf ByteArray.empty ls 0 := ⟨_, rfl⟩
  obtain ⟨s1, hs1⟩ : ∃ s, s = rdOf ByteArray.empty ls 1 := ⟨_, rfl⟩
  obtain ⟨s2, hs2⟩ : ∃ s, s = rdOf ByteArray.empty ls 2 := ⟨_, rfl⟩
  rw [← hs0] at hn0
  rw [← hs1] at hn1
  rw [← hs2] at hn2
  have hp : (if t2 = 0 ∧ t1.toList = a0.toList then some (n0, n1, n2, ls.drop 3, 0) else some (0, 0, 0, [], 3)) = some (r1, r2, r3, r4, r5) := hpd
  clear hpd
  have HN0 := Lib.hid hn0
  have HN1 := Lib.hid hn1
  have HN2 := Lib.hid hn2
  have HP := Lib.hid hp
  have HPR := Lib.hid hPr
  have HS0 := Lib.hid hs0
  have HS1 := Lib.hid hs1
  have HS2 := Lib.hid hs2
  clear ho ht hp hn0 hn1 hn2 hPr hs0 hs1 hs2
  have hl2 : ((ls.length : Int) < 3) = False := eq_false (by omega)
  clear hl
  go_enter Tryd.func17, Tryd.ntmps17
  go_upto_region 7 with (first | ((with_reducible refine gate_dst (N := 2) rfl ?_); refine box_event ?hg (N := 2) ?hd (cs := #[.int .i64 0, .int .i64 0, .int .i64 0, .slice none 0 0]) (t := 40) ?hr ?_; (case hd => rfl); (case hg => rfl); (case hr => first | (go_simp; done) | (go_simp; rfl)); intro g0 e0x_ w0 k0 hb0; have E0_ := Lib.hid e0x_; clear e0x_; have z0 : w0.cell? ⟨g0, 0, none⟩ = some (.int .i64 0) := (blk_cell k0 0).trans rfl; have z1 : w0.cell? ⟨g0, 1, none⟩ = some (.int .i64 0) := (blk_cell k0 1).trans rfl; have z2 : w0.cell? ⟨g0, 2, none⟩ = some (.int .i64 0) := (blk_cell k0 2).trans rfl; have z3 : w0.cell? ⟨g0, 3, none⟩ = some (.slice none 0 0) := (blk_cell k0 3).trans rfl; have f0 := blk_frozen k0 0; have f1 := blk_frozen k0 1; have f2 := blk_frozen k0 2; have f3 := blk_frozen k0 3) | (go_at_call 32; refine (diptychref04_Open.calls k _ b 0 _ HO.out).mono ?_; rintro e w1 ⟨rfl, hb1⟩; have k1 := blk_below k0 hb1; have z0 : w1.cell? ⟨g0, 0, none⟩ = some (.int .i64 0) := (blk_cell k1 0).trans rfl; have z1 : w1.cell? ⟨g0, 1, none⟩ = some (.int .i64 0) := (blk_cell k1 1).trans rfl; have z2 : w1.cell? ⟨g0, 2, none⟩ = some (.int .i64 0) := (blk_cell k1 2).trans rfl; have z3 : w1.cell? ⟨g0, 3, none⟩ = some (.slice none 0 0) := (blk_cell k1 3).trans rfl; have f0 := blk_frozen k1 0; have f1 := blk_frozen k1 1; have f2 := blk_frozen k1 2; have f3 := blk_frozen k1 3) | (go_at_call 12; refine (diptychref27_Take.calls k _ ls rest 0 _ HT.out).mono ?_; rintro e w2 ⟨v, rfl, hv, hb2⟩; obtain ⟨A, c, rfl⟩ := Kd.R_slice hv; have k2 := blk_below k1 hb2; have z0 : w2.cell? ⟨g0, 0, none⟩ = some (.int .i64 0) := (blk_cell k2 0).trans rfl; have z1 : w2.cell? ⟨g0, 1, none⟩ = some (.int .i64 0) := (blk_cell k2 1).trans rfl; have z2 : w2.cell? ⟨g0, 2, none⟩ = some (.int .i64 0) := (blk_cell k2 2).trans rfl; have z3 : w2.cell? ⟨g0, 3, none⟩ = some (.slice none 0 0) := (blk_cell k2 3).trans rfl; have f0 := blk_frozen k2 0; have f1 := blk_frozen k2 1; have f2 := blk_frozen k2 2; have f3 := blk_frozen k2 3))
  have hrow := hv
  have hlo : w.heap.size < w1.heap.size := by have := blk_lt k1; have := E0_.out; omega
  have hB3 : Below w.heap.size w w2 := below_step (below_step hb0 hb1) hb2
  clear z0 z1 z2 z3 f0 f1 f2 f3
  have HB := Lib.hid (Below.refl w2.heap.size w2)
  have hcl : ls.length ≤ c := (Kd.R_reads' hrow).2.1
  have hl3 := HL.out
  have q1 : ((3 : Int) ≤ (ls.length : Int)) = True := eq_true (by omega)
  have q2 : ((ls.length : Int) ≤ (c : Int)) = True := eq_true (by omega)
  have q3 : ((3 : Nat) ≤ ls.length) = True := eq_true hl3
  have q4 : (ls.length ≤ c) = True := eq_true hcl
  have q5 : ((3 : Int) ≤ (c : Int)) = True := eq_true (by omega)
  have q6 : ((0 : Int) < (ls.length : Int)) = True := eq_true (by omega)
  have q7 : ((1 : Int) < (ls.length : Int)) = True := eq_true (by omega)
  have q8 : ((2 : Int) < (ls.length : Int)) = True := eq_true (by omega)
  have q9 : ((0 : Nat) < ls.length) = True := eq_true (by omega)
  have q10 : ((1 : Nat) < ls.length) = True := eq_true (by omega)
  have q11 : ((2 : Nat) < ls.length) = True := eq_true (by omega)
  have q12 : (ls = []) = False := eq_false (fun h => by rw [h] at hl3; exact absurd hl3 (by decide))
  obtain ⟨ad, e1, x0⟩ := Kd.at_string (Kd.R_reads' hrow).2.2 0 (by omega) (by omega)
  cases e1
  obtain ⟨ad1, e1, x1⟩ := Kd.at_string (Kd.R_reads' hrow).2.2 1 (by omega) (by omega)
  cases e1
  obtain ⟨ad2, e1, x2⟩ := Kd.at_string (Kd.R_reads' hrow).2.2 2 (by omega) (by omega)
  cases e1
  rw [← HS0.out] at x0
  rw [← HS1.out] at x1
  rw [← HS2.out] at x2
  have y0 : w2.cell? ad = some (.string s0) := x0
  have y1 : w2.cell? ⟨ad.block, ad.off + 1, none⟩ = some (.string s1) := x1
  have y2 : w2.cell? ⟨ad.block, ad.off + 2, none⟩ = some (.string s2) := x2
  have X0 := Lib.hid y0
  have X1 := Lib.hid y1
  have X2 := Lib.hid y2
  have lx : ad.block < w2.heap.size := World.block_lt_of_cell? _ _ y0
  have LX := Lib.hid lx
  have hcl3x := Lib.hid hcl
  have HRX := Lib.hid hrow
  have HZ := Lib.hid k2
  have HB3 := Lib.hid hB3
  have HLO := Lib.hid hlo
  have nx1 := World.new_ne w2 ad y0
  clear x0 x1 x2 hl3 hcl hrow hv k0 k1 k2 hb0 hb1 hb2 hB3 hlo HS0 HS1 HS2
  obtain ⟨l3, hl3x⟩ : ∃ l3, l3 = ls.drop 3 := ⟨_, rfl⟩
  have HL3 := Lib.hid hl3x
  have HLEN := Lib.hid (show l3.length = ls.length - 3 by rw [hl3x, List.length_drop])
  have HPR := Lib.hid (show diptychref27_Print.f k n0 n1 n2 l3 = some (t1, t2) by rw [hl3x]; exact HPR.out)
  have HP := Lib.hid (show (if t2 = 0 ∧ t1.toList = a0.toList then some (n0, n1, n2, l3, 0) else some (0, 0, 0, [], 3)) = some (r1, r2, r3, r4, r5) by rw [hl3x]; exact HP.out)
  clear hl3x
  by_cases c3 : c = 3
  · subst c3
    have hlen0 : ls.length - 3 = 0 := by have := HL.out; have := hcl3x.out; omega
    have e3 : l3 = [] := by rw [HL3.out]; exact List.drop_of_length_le (by omega)
    subst e3
    go_cut [8] from 33 to 47 (fun v8 wx => ∃ gM, v8 = .pointer (some ⟨gM, 0, none⟩) ∧ Hid (wx.heap[gM]? = some (.cells #[.int .i64 n0, .int .i64 n1, .int .i64 n2, .slice (some ad) 0 0] 40 (0, 0))) ∧ Hid (Below w2.heap.size w2 wx) ∧ Hid (w2.heap.size ≤ gM))
    case first =>
      rename_i J_ K_ hJ_ hK_
      clear HO HT HPR HP HZ HB3 HLO HL3 HRX E0_ hl2
      go_region_held3 (fun W => W.cell? ad = some (.string s0) ∧ W.cell? ⟨ad.block, ad.off + 1, none⟩ = some (.string s1) ∧ W.cell? ⟨ad.block, ad.off + 2, none⟩ = some (.string s2)) (first | exact ⟨y0, y1, y2⟩ | go_keep)
        (first | (go_at_call 33; with_reducible refine (diptychref27_number.calls k s0 n0 _ HN0.out).mono ?_; rintro e w5 ⟨rfl, hd5⟩; have hb5 := hd5.below; have HB5 := Lib.hid (below_step (by repeat (first | exact HB.out | apply below_alloc | apply pw_below_drewN | apply below_drew1 | apply below_drew)) hb5); (first | (have bx := blk_below BX.out hb5; have b0 : w5.cell? ⟨_, 0, none⟩ = some (.int .i64 0) := (blk_cell bx 0).trans rfl; have b1 : w5.cell? ⟨_, 1, none⟩ = some (.int .i64 0) := (blk_cell bx 1).trans rfl; have b2 : w5.cell? ⟨_, 2, none⟩ = some (.int .i64 0) := (blk_cell bx 2).trans rfl; have b3 : w5.cell? ⟨_, 3, none⟩ = some (.slice none 0 0) := (blk_cell bx 3).trans rfl; have bf0 := blk_frozen bx 0; have bf1 := blk_frozen bx 1; have bf2 := blk_frozen bx 2; have bf3 := blk_frozen bx 3; have bl := blk_lt bx; clear BX; have BX := Lib.hid bx; clear bx; have bne := Nat.ne_of_lt (Nat.lt_of_lt_of_le LX.out BGE.out); have bne2 := bne.symm) | (have bx := blk_below (blk_new _ _) hb5; have BGE := Lib.hid (below_size (by repeat (first | exact HB.out | apply below_alloc | apply pw_below_drewN | apply below_drew1 | apply below_drew))); have b0 : w5.cell? ⟨_, 0, none⟩ = some (.int .i64 0) := (blk_cell bx 0).trans rfl; have b1 : w5.cell? ⟨_, 1, none⟩ = some (.int .i64 0) := (blk_cell bx 1).trans rfl; have b2 : w5.cell? ⟨_, 2, none⟩ = some (.int .i64 0) := (blk_cell bx 2).trans rfl; have b3 : w5.cell? ⟨_, 3, none⟩ = some (.slice none 0 0) := (blk_cell bx 3).trans rfl; have bf0 := blk_frozen bx 0; have bf1 := blk_frozen bx 1; have bf2 := blk_frozen bx 2; have bf3 := blk_frozen bx 3; have bl := blk_lt bx; have BX := Lib.hid bx; clear bx; have bne := Nat.ne_of_lt (Nat.lt_of_lt_of_le LX.out BGE.out); have bne2 := bne.symm) | (have bx := blk_below (blk_drew (blk_new _ _)) hb5; have BGE := Lib.hid (below_size (by repeat (first | exact HB.out | apply below_alloc | apply pw_below_drewN | apply below_drew1 | apply below_drew))); have b0 : w5.cell? ⟨_, 0, none⟩ = some (.int .i64 0) := (blk_cell bx 0).trans rfl; have b1 : w5.cell? ⟨_, 1, none⟩ = some (.int .i64 0) := (blk_cell bx 1).trans rfl; have b2 : w5.cell? ⟨_, 2, none⟩ = some (.int .i64 0) := (blk_cell bx 2).trans rfl; have b3 : w5.cell? ⟨_, 3, none⟩ = some (.slice none 0 0) := (blk_cell bx 3).trans rfl; have bf0 := blk_frozen bx 0; have bf1 := blk_frozen bx 1; have bf2 := blk_frozen bx 2; have bf3 := blk_frozen bx 3; have bl := blk_lt bx; have BX := Lib.hid bx; clear bx; have bne := Nat.ne_of_lt (Nat.lt_of_lt_of_le LX.out BGE.out); have bne2 := bne.symm) | skip); clear HB; have HB := HB5; clear HB5 hb5 hd5; have y0 := (Below.cell HB.out (p := ad) LX.out).trans X0.out; have y1 := (Below.cell HB.out (p := ⟨ad.block, ad.off + 1, none⟩) LX.out).trans X1.out; have y2 := (Below.cell HB.out (p := ⟨ad.block, ad.off + 2, none⟩) LX.out).trans X2.out; have lx5 : ad.block < w5.heap.size := World.block_lt_of_cell? _ _ y0) | (go_at_call 33; with_reducible refine (diptychref27_number.calls k s1 n1 _ HN1.out).mono ?_; rintro e w5 ⟨rfl, hd5⟩; have hb5 := hd5.below; have HB5 := Lib.hid (below_step (by repeat (first | exact HB.out | apply below_alloc | apply pw_below_drewN | apply below_drew1 | apply below_drew)) hb5); (first | (have bx := blk_below BX.out hb5; have b0 : w5.cell? ⟨_, 0, none⟩ = some (.int .i64 0) := (blk_cell bx 0).trans rfl; have b1 : w5.cell? ⟨_, 1, none⟩ = some (.int .i64 0) := (blk_cell bx 1).trans rfl; have b2 : w5.cell? ⟨_, 2, none⟩ = some (.int .i64 0) := (blk_cell bx 2).trans rfl; have b3 : w5.cell? ⟨_, 3, none⟩ = some (.slice none 0 0) := (blk_cell bx 3).trans rfl; have bf0 := blk_frozen bx 0; have bf1 := blk_frozen bx 1; have bf2 := blk_frozen bx 2; have bf3 := blk_frozen bx 3; have bl := blk_lt bx; clear BX; have BX := Lib.hid bx; clear bx; have bne := Nat.ne_of_lt (Nat.lt_of_lt_of_le LX.out BGE.out); have bne2 := bne.symm) | (have bx := blk_below (blk_new _ _) hb5; have BGE := Lib.hid (below_size (by repeat (first | exact HB.out | apply below_alloc | apply pw_below_drewN | apply below_drew1 | apply below_drew))); have b0 : w5.cell? ⟨_, 0, none⟩ = some (.int .i64 0) := (blk_cell bx 0).trans rfl; have b1 : w5.cell? ⟨_, 1, none⟩ = some (.int .i64 0) := (blk_cell bx 1).trans rfl; have b2 : w5.cell? ⟨_, 2, none⟩ = some (.int .i64 0) := (blk_cell bx 2).trans rfl; have b3 : w5.cell? ⟨_, 3, none⟩ = some (.slice none 0 0) := (blk_cell bx 3).trans rfl; have bf0 := blk_frozen bx 0; have bf1 := blk_frozen bx 1; have bf2 := blk_frozen bx 2; have bf3 := blk_frozen bx 3; have bl := blk_lt bx; have BX := Lib.hid bx; clear bx; have bne := Nat.ne_of_lt (Nat.lt_of_lt_of_le LX.out BGE.out); have bne2 := bne.symm) | (have bx := blk_below (blk_drew (blk_new _ _)) hb5; have BGE := Lib.hid (below_size (by repeat (first | exact HB.out | apply below_alloc | apply pw_below_drewN | apply below_drew1 | apply below_drew))); have b0 : w5.cell? ⟨_, 0, none⟩ = some (.int .i64 0) := (blk_cell bx 0).trans rfl; have b1 : w5.cell? ⟨_, 1, none⟩ = some (.int .i64 0) := (blk_cell bx 1).trans rfl; have b2 : w5.cell? ⟨_, 2, none⟩ = some (.int .i64 0) := (blk_cell bx 2).trans rfl; have b3 : w5.cell? ⟨_, 3, none⟩ = some (.slice none 0 0) := (blk_cell bx 3).trans rfl; have bf0 := blk_frozen bx 0; have bf1 := blk_frozen bx 1; have bf2 := blk_frozen bx 2; have bf3 := blk_frozen bx 3; have bl := blk_lt bx; have BX := Lib.hid bx; clear bx; have bne := Nat.ne_of_lt (Nat.lt_of_lt_of_le LX.out BGE.out); have bne2 := bne.symm) | skip); clear HB; have HB := HB5; clear HB5 hb5 hd5; have y0 := (Below.cell HB.out (p := ad) LX.out).trans X0.out; have y1 := (Below.cell HB.out (p := ⟨ad.block, ad.off + 1, none⟩) LX.out).trans X1.out; have y2 := (Below.cell HB.out (p := ⟨ad.block, ad.off + 2, none⟩) LX.out).trans X2.out; have lx5 : ad.block < w5.heap.size := World.block_lt_of_cell? _ _ y0) | (go_at_call 33; with_reducible refine (diptychref27_number.calls k s2 n2 _ HN2.out).mono ?_; rintro e w5 ⟨rfl, hd5⟩; have hb5 := hd5.below; have HB5 := Lib.hid (below_step (by repeat (first | exact HB.out | apply below_alloc | apply pw_below_drewN | apply below_drew1 | apply below_drew)) hb5); (first | (have bx := blk_below BX.out hb5; have b0 : w5.cell? ⟨_, 0, none⟩ = some (.int .i64 0) := (blk_cell bx 0).trans rfl; have b1 : w5.cell? ⟨_, 1, none⟩ = some (.int .i64 0) := (blk_cell bx 1).trans rfl; have b2 : w5.cell? ⟨_, 2, none⟩ = some (.int .i64 0) := (blk_cell bx 2).trans rfl; have b3 : w5.cell? ⟨_, 3, none⟩ = some (.slice none 0 0) := (blk_cell bx 3).trans rfl; have bf0 := blk_frozen bx 0; have bf1 := blk_frozen bx 1; have bf2 := blk_frozen bx 2; have bf3 := blk_frozen bx 3; have bl := blk_lt bx; clear BX; have BX := Lib.hid bx; clear bx; have bne := Nat.ne_of_lt (Nat.lt_of_lt_of_le LX.out BGE.out); have bne2 := bne.symm) | (have bx := blk_below (blk_new _ _) hb5; have BGE := Lib.hid (below_size (by repeat (first | exact HB.out | apply below_alloc | apply pw_below_drewN | apply below_drew1 | apply below_drew))); have b0 : w5.cell? ⟨_, 0, none⟩ = some (.int .i64 0) := (blk_cell bx 0).trans rfl; have b1 : w5.cell? ⟨_, 1, none⟩ = some (.int .i64 0) := (blk_cell bx 1).trans rfl; have b2 : w5.cell? ⟨_, 2, none⟩ = some (.int .i64 0) := (blk_cell bx 2).trans rfl; have b3 : w5.cell? ⟨_, 3, none⟩ = some (.slice none 0 0) := (blk_cell bx 3).trans rfl; have bf0 := blk_frozen bx 0; have bf1 := blk_frozen bx 1; have bf2 := blk_frozen bx 2; have bf3 := blk_frozen bx 3; have bl := blk_lt bx; have BX := Lib.hid bx; clear bx; have bne := Nat.ne_of_lt (Nat.lt_of_lt_of_le LX.out BGE.out); have bne2 := bne.symm) | (have bx := blk_below (blk_drew (blk_new _ _)) hb5; have BGE := Lib.hid (below_size (by repeat (first | exact HB.out | apply below_alloc | apply pw_below_drewN | apply below_drew1 | apply below_drew))); have b0 : w5.cell? ⟨_, 0, none⟩ = some (.int .i64 0) := (blk_cell bx 0).trans rfl; have b1 : w5.cell? ⟨_, 1, none⟩ = some (.int .i64 0) := (blk_cell bx 1).trans rfl; have b2 : w5.cell? ⟨_, 2, none⟩ = some (.int .i64 0) := (blk_cell bx 2).trans rfl; have b3 : w5.cell? ⟨_, 3, none⟩ = some (.slice none 0 0) := (blk_cell bx 3).trans rfl; have bf0 := blk_frozen bx 0; have bf1 := blk_frozen bx 1; have bf2 := blk_frozen bx 2; have bf3 := blk_frozen bx 3; have bl := blk_lt bx; have BX := Lib.hid bx; clear bx; have bne := Nat.ne_of_lt (Nat.lt_of_lt_of_le LX.out BGE.out); have bne2 := bne.symm) | skip); clear HB; have HB := HB5; clear HB5 hb5 hd5; have y0 := (Below.cell HB.out (p := ad) LX.out).trans X0.out; have y1 := (Below.cell HB.out (p := ⟨ad.block, ad.off + 1, none⟩) LX.out).trans X1.out; have y2 := (Below.cell HB.out (p := ⟨ad.block, ad.off + 2, none⟩) LX.out).trans X2.out; have lx5 : ad.block < w5.heap.size := World.block_lt_of_cell? _ _ y0))
      all_goals (refine hK_ _ _ (Met.intro (hJ_ _ _ ?_)); (repeat apply Exists.intro); refine ⟨?_, rfl⟩)
      all_goals (first | exact ⟨_, rfl, Lib.hid (box4r BX.out HB.out BGE.out).1, Lib.hid (box4r BX.out HB.out BGE.out).2, BGE⟩ | exact ⟨_, rfl, Lib.hid (blk_new _ _), Lib.hid (below_alloc HB.out _), Lib.hid (below_size HB.out)⟩)
    case rest =>
      obtain ⟨gM, rfl, HM, HBM, HGE⟩ := hcut
      have hZW : wc.heap[g0]? = _ := (HBM.out.block g0 (blk_lt HZ.out)).trans HZ.out
      have HZW := Lib.hid hZW
      have hBW : Below w.heap.size w wc := below_step HB3.out HBM.out
      have HBW := Lib.hid hBW
      have hQ0 := Kd.Q_drop (k := 3) (Kd.Q_of_R (Kd.R_below HRX.out HBM.out)) HL.out
      rw [if_pos rfl, ← HL3.out, hlen0] at hQ0
      have hQ : Kd.Q Kd.string 9 wc w1.heap.size (fun _ => True) (.slice (some ad) 0 0) [] := hQ0
      have HQ := Lib.hid hQ
      have hQC := Kd.Q_reads' hQ
      have HQC := Lib.hid (show ([] : List ByteArray).length ≤ 0 ∧ Kd.C Kd.string wc (some ad) ([] : List ByteArray).length [] from hQC.2)
      have hgm : g0 ≠ gM := by have := blk_lt HZ.out; have := HGE.out; omega
      have hgm2 := hgm.symm
      have hp := HP.out
      clear hZW hBW hQ0 hQ hQC HP
      have m0 : wc.cell? ⟨gM, 0, none⟩ = some (.int .i64 n0) := (blk_cell HM.out 0).trans rfl
      have m1 : wc.cell? ⟨gM, 1, none⟩ = some (.int .i64 n1) := (blk_cell HM.out 1).trans rfl
      have m2 : wc.cell? ⟨gM, 2, none⟩ = some (.int .i64 n2) := (blk_cell HM.out 2).trans rfl
      have m3 : wc.cell? ⟨gM, 3, none⟩ = some (.slice (some ad) 0 0) := (blk_cell HM.out 3).trans rfl
      by_cases c7 : t2 = 0
      · subst c7
        by_cases c8 : t1.toList = a0.toList
        · rw [if_pos ⟨rfl, c8⟩] at hp
          simp only [Option.some.injEq, Prod.mk.injEq] at hp
          obtain ⟨rfl, rfl, rfl, rfl, rfl⟩ := hp
          have c9 : (t1.toList == a0.toList) = true := beq_iff_eq.mpr c8
          have c10 : (t1.toList != a0.toList) = false := bne_eq_false_iff_eq.mpr c8
          clear c8
          go_wp2_with (first | (go_at_call 15; refine (diptychref27_Print.calls k n0 n1 n2 _ _ [] _ _ _ ?hr ?hc HPR.out).mono ?_; (case hr => exact HQC.out.2); (case hc => exact HQC.out.1); rintro e w6 ⟨rfl, hb6⟩; have bz := blk_below HZW.out hb6; have bm := blk_below HM.out hb6; have z0 : w6.cell? ⟨g0, 0, none⟩ = some (.int .i64 0) := (blk_cell bz 0).trans rfl; have z1 : w6.cell? ⟨g0, 1, none⟩ = some (.int .i64 0) := (blk_cell bz 1).trans rfl; have z2 : w6.cell? ⟨g0, 2, none⟩ = some (.int .i64 0) := (blk_cell bz 2).trans rfl; have z3 : w6.cell? ⟨g0, 3, none⟩ = some (.slice none 0 0) := (blk_cell bz 3).trans rfl; have f0 := blk_frozen bz 0; have f1 := blk_frozen bz 1; have f2 := blk_frozen bz 2; have f3 := blk_frozen bz 3; have m0 : w6.cell? ⟨gM, 0, none⟩ = some (.int .i64 n0) := (blk_cell bm 0).trans rfl; have m1 : w6.cell? ⟨gM, 1, none⟩ = some (.int .i64 n1) := (blk_cell bm 1).trans rfl; have m2 : w6.cell? ⟨gM, 2, none⟩ = some (.int .i64 n2) := (blk_cell bm 2).trans rfl; have m3 : w6.cell? ⟨gM, 3, none⟩ = some (.slice (some ad) 0 0) := (blk_cell bm 3).trans rfl))
          refine bodyPost_ret (results_ct rfl _ _ g0 40 #[.int .i64 n0, .int .i64 n1, .int .i64 n2, .slice (some ad) 0 0] (0, 0) _ rfl ?hblk Tryd.underlying40 rfl rfl) rfl ?_
          case hblk => exact blk_set (blk_set (blk_set (blk_set bz 0 (.int .i64 n0)) 1 (.int .i64 n1)) 2 (.int .i64 n2)) 3 (.slice (some ad) 0 0)
          exact ⟨_, rfl, Kd.Q_mono (Kd.Q_lower (Kd.Q_far (p := ⟨g0, 3, none⟩) (Kd.Q_far (p := ⟨g0, 2, none⟩) (Kd.Q_far (p := ⟨g0, 1, none⟩) (Kd.Q_far (p := ⟨g0, 0, none⟩) (Kd.Q_bound (Kd.Q_below HQ.out hb6)) (fun q hq => (by have := hq.2.1; have := HLO.out; have := E0_.out; show q ≠ g0; omega)) _) (fun q hq => (by have := hq.2.1; have := HLO.out; have := E0_.out; show q ≠ g0; omega)) _) (fun q hq => (by have := hq.2.1; have := HLO.out; have := E0_.out; show q ≠ g0; omega)) _) (fun q hq => (by have := hq.2.1; have := HLO.out; have := E0_.out; show q ≠ g0; omega)) _) (Nat.le_of_lt HLO.out)) (fun _ _ => trivial), by
            refine Below.setCell (Below.setCell (Below.setCell (Below.setCell ?_ ?_ _) ?_ _) ?_ _) ?_ _
            · exact below_step HBW.out hb6
            all_goals exact Nat.le_of_eq E0_.out.symm⟩
        · rw [if_neg (fun h => c8 h.2)] at hp
          simp only [Option.some.injEq, Prod.mk.injEq] at hp
          obtain ⟨rfl, rfl, rfl, rfl, rfl⟩ := hp
          have c9 : (t1.toList == a0.toList) = false := beq_eq_false_iff_ne.mpr c8
          have c10 : (t1.toList != a0.toList) = true := bne_iff_ne.mpr c8
          clear c8
          go_wp2_with (first | (go_at_call 15; refine (diptychref27_Print.calls k n0 n1 n2 _ _ [] _ _ _ ?hr ?hc HPR.out).mono ?_; (case hr => exact HQC.out.2); (case hc => exact HQC.out.1); rintro e w6 ⟨rfl, hb6⟩; have bz := blk_below HZW.out hb6; have bm := blk_below HM.out hb6; have z0 : w6.cell? ⟨g0, 0, none⟩ = some (.int .i64 0) := (blk_cell bz 0).trans rfl; have z1 : w6.cell? ⟨g0, 1, none⟩ = some (.int .i64 0) := (blk_cell bz 1).trans rfl; have z2 : w6.cell? ⟨g0, 2, none⟩ = some (.int .i64 0) := (blk_cell bz 2).trans rfl; have z3 : w6.cell? ⟨g0, 3, none⟩ = some (.slice none 0 0) := (blk_cell bz 3).trans rfl; have f0 := blk_frozen bz 0; have f1 := blk_frozen bz 1; have f2 := blk_frozen bz 2; have f3 := blk_frozen bz 3; have m0 : w6.cell? ⟨gM, 0, none⟩ = some (.int .i64 n0) := (blk_cell bm 0).trans rfl; have m1 : w6.cell? ⟨gM, 1, none⟩ = some (.int .i64 n1) := (blk_cell bm 1).trans rfl; have m2 : w6.cell? ⟨gM, 2, none⟩ = some (.int .i64 n2) := (blk_cell bm 2).trans rfl; have m3 : w6.cell? ⟨gM, 3, none⟩ = some (.slice (some ad) 0 0) := (blk_cell bm 3).trans rfl))
          refine bodyPost_ret (results_ct rfl _ _ g0 40 #[.int .i64 0, .int .i64 0, .int .i64 0, .slice none 0 0] (0, 0) _ rfl ?hblk Tryd.underlying40 rfl rfl) rfl ?_
          case hblk => exact blk_set (blk_set (blk_set (blk_set bz 0 (.int .i64 0)) 1 (.int .i64 0)) 2 (.int .i64 0)) 3 (.slice none 0 0)
          exact ⟨_, rfl, Kd.Q_nil _ _ _ _ _, by
            refine Below.setCell (Below.setCell (Below.setCell (Below.setCell ?_ ?_ _) ?_ _) ?_ _) ?_ _
            · exact below_step HBW.out hb6
            all_goals exact Nat.le_of_eq E0_.out.symm⟩
      · rw [if_neg (fun h => c7 h.1)] at hp
        simp only [Option.some.injEq, Prod.mk.injEq] at hp
        obtain ⟨rfl, rfl, rfl, rfl, rfl⟩ := hp
        have c9 : (t2 == 0) = false := beq_eq_false_iff_ne.mpr c7
        have c10 : (t2 != 0) = true := bne_iff_ne.mpr c7
        have c11 : decide (t2 = 0) = false := decide_eq_false c7
        clear c7
        go_wp2_with (first | (go_at_call 15; refine (diptychref27_Print.calls k n0 n1 n2 _ _ [] _ _ _ ?hr ?hc HPR.out).mono ?_; (case hr => exact HQC.out.2); (case hc => exact HQC.out.1); rintro e w6 ⟨rfl, hb6⟩; have bz := blk_below HZW.out hb6; have bm := blk_below HM.out hb6; have z0 : w6.cell? ⟨g0, 0, none⟩ = some (.int .i64 0) := (blk_cell bz 0).trans rfl; have z1 : w6.cell? ⟨g0, 1, none⟩ = some (.int .i64 0) := (blk_cell bz 1).trans rfl; have z2 : w6.cell? ⟨g0, 2, none⟩ = some (.int .i64 0) := (blk_cell bz 2).trans rfl; have z3 : w6.cell? ⟨g0, 3, none⟩ = some (.slice none 0 0) := (blk_cell bz 3).trans rfl; have f0 := blk_frozen bz 0; have f1 := blk_frozen bz 1; have f2 := blk_frozen bz 2; have f3 := blk_frozen bz 3; have m0 : w6.cell? ⟨gM, 0, none⟩ = some (.int .i64 n0) := (blk_cell bm 0).trans rfl; have m1 : w6.cell? ⟨gM, 1, none⟩ = some (.int .i64 n1) := (blk_cell bm 1).trans rfl; have m2 : w6.cell? ⟨gM, 2, none⟩ = some (.int .i64 n2) := (blk_cell bm 2).trans rfl; have m3 : w6.cell? ⟨gM, 3, none⟩ = some (.slice (some ad) 0 0) := (blk_cell bm 3).trans rfl))
        refine bodyPost_ret (results_ct rfl _ _ g0 40 #[.int .i64 0, .int .i64 0, .int .i64 0, .slice none 0 0] (0, 0) _ rfl ?hblk Tryd.underlying40 rfl rfl) rfl ?_
        case hblk => exact blk_set (blk_set (blk_set (blk_set bz 0 (.int .i64 0)) 1 (.int .i64 0)) 2 (.int .i64 0)) 3 (.slice none 0 0)
        exact ⟨_, rfl, Kd.Q_nil _ _ _ _ _, by
          refine Below.setCell (Below.setCell (Below.setCell (Below.setCell ?_ ?_ _) ?_ _) ?_ _) ?_ _
          · exact below_step HBW.out hb6
          all_goals exact Nat.le_of_eq E0_.out.symm⟩
  · have c5 : (c = 3) = False := eq_false c3
    go_cut [8] from 33 to 47 (fun v8 wx => ∃ gM, v8 = .pointer (some ⟨gM, 0, none⟩) ∧ Hid (wx.heap[gM]? = some (.cells #[.int .i64 n0, .int .i64 n1, .int .i64 n2, .slice (some { block := ad.block, off := ad.off + 3 }) l3.length (c - 3)] 40 (0, 0))) ∧ Hid (Below w2.heap.size w2 wx) ∧ Hid (w2.heap.size ≤ gM))
    case first =>
      rename_i J_ K_ hJ_ hK_
      clear HO HT HPR HP HZ HB3 HLO HL3 HRX E0_ hl2
      go_region_held3 (fun W => W.cell? ad = some (.string s0) ∧ W.cell? ⟨ad.block, ad.off + 1, none⟩ = some (.string s1) ∧ W.cell? ⟨ad.block, ad.off + 2, none⟩ = some (.string s2)) (first | exact ⟨y0, y1, y2⟩ | go_keep)
        (first | (go_at_call 33; with_reducible refine (diptychref27_number.calls k s0 n0 _ HN0.out).mono ?_; rintro e w5 ⟨rfl, hd5⟩; have hb5 := hd5.below; have HB5 := Lib.hid (below_step (by repeat (first | exact HB.out | apply below_alloc | apply pw_below_drewN | apply below_drew1 | apply below_drew)) hb5); (first | (have bx := blk_below BX.out hb5; have b0 : w5.cell? ⟨_, 0, none⟩ = some (.int .i64 0) := (blk_cell bx 0).trans rfl; have b1 : w5.cell? ⟨_, 1, none⟩ = some (.int .i64 0) := (blk_cell bx 1).trans rfl; have b2 : w5.cell? ⟨_, 2, none⟩ = some (.int .i64 0) := (blk_cell bx 2).trans rfl; have b3 : w5.cell? ⟨_, 3, none⟩ = some (.slice none 0 0) := (blk_cell bx 3).trans rfl; have bf0 := blk_frozen bx 0; have bf1 := blk_frozen bx 1; have bf2 := blk_frozen bx 2; have bf3 := blk_frozen bx 3; have bl := blk_lt bx; clear BX; have BX := Lib.hid bx; clear bx; have bne := Nat.ne_of_lt (Nat.lt_of_lt_of_le LX.out BGE.out); have bne2 := bne.symm) | (have bx := blk_below (blk_new _ _) hb5; have BGE := Lib.hid (below_size (by repeat (first | exact HB.out | apply below_alloc | apply pw_below_drewN | apply below_drew1 | apply below_drew))); have b0 : w5.cell? ⟨_, 0, none⟩ = some (.int .i64 0) := (blk_cell bx 0).trans rfl; have b1 : w5.cell? ⟨_, 1, none⟩ = some (.int .i64 0) := (blk_cell bx 1).trans rfl; have b2 : w5.cell? ⟨_, 2, none⟩ = some (.int .i64 0) := (blk_cell bx 2).trans rfl; have b3 : w5.cell? ⟨_, 3, none⟩ = some (.slice none 0 0) := (blk_cell bx 3).trans rfl; have bf0 := blk_frozen bx 0; have bf1 := blk_frozen bx 1; have bf2 := blk_frozen bx 2; have bf3 := blk_frozen bx 3; have bl := blk_lt bx; have BX := Lib.hid bx; clear bx; have bne := Nat.ne_of_lt (Nat.lt_of_lt_of_le LX.out BGE.out); have bne2 := bne.symm) | (have bx := blk_below (blk_drew (blk_new _ _)) hb5; have BGE := Lib.hid (below_size (by repeat (first | exact HB.out | apply below_alloc | apply pw_below_drewN | apply below_drew1 | apply below_drew))); have b0 : w5.cell? ⟨_, 0, none⟩ = some (.int .i64 0) := (blk_cell bx 0).trans rfl; have b1 : w5.cell? ⟨_, 1, none⟩ = some (.int .i64 0) := (blk_cell bx 1).trans rfl; have b2 : w5.cell? ⟨_, 2, none⟩ = some (.int .i64 0) := (blk_cell bx 2).trans rfl; have b3 : w5.cell? ⟨_, 3, none⟩ = some (.slice none 0 0) := (blk_cell bx 3).trans rfl; have bf0 := blk_frozen bx 0; have bf1 := blk_frozen bx 1; have bf2 := blk_frozen bx 2; have bf3 := blk_frozen bx 3; have bl := blk_lt bx; have BX := Lib.hid bx; clear bx; have bne := Nat.ne_of_lt (Nat.lt_of_lt_of_le LX.out BGE.out); have bne2 := bne.symm) | skip); clear HB; have HB := HB5; clear HB5 hb5 hd5; have y0 := (Below.cell HB.out (p := ad) LX.out).trans X0.out; have y1 := (Below.cell HB.out (p := ⟨ad.block, ad.off + 1, none⟩) LX.out).trans X1.out; have y2 := (Below.cell HB.out (p := ⟨ad.block, ad.off + 2, none⟩) LX.out).trans X2.out; have lx5 : ad.block < w5.heap.size := World.block_lt_of_cell? _ _ y0) | (go_at_call 33; with_reducible refine (diptychref27_number.calls k s1 n1 _ HN1.out).mono ?_; rintro e w5 ⟨rfl, hd5⟩; have hb5 := hd5.below; have HB5 := Lib.hid (below_step (by repeat (first | exact HB.out | apply below_alloc | apply pw_below_drewN | apply below_drew1 | apply below_drew)) hb5); (first | (have bx := blk_below BX.out hb5; have b0 : w5.cell? ⟨_, 0, none⟩ = some (.int .i64 0) := (blk_cell bx 0).trans rfl; have b1 : w5.cell? ⟨_, 1, none⟩ = some (.int .i64 0) := (blk_cell bx 1).trans rfl; have b2 : w5.cell? ⟨_, 2, none⟩ = some (.int .i64 0) := (blk_cell bx 2).trans rfl; have b3 : w5.cell? ⟨_, 3, none⟩ = some (.slice none 0 0) := (blk_cell bx 3).trans rfl; have bf0 := blk_frozen bx 0; have bf1 := blk_frozen bx 1; have bf2 := blk_frozen bx 2; have bf3 := blk_frozen bx 3; have bl := blk_lt bx; clear BX; have BX := Lib.hid bx; clear bx; have bne := Nat.ne_of_lt (Nat.lt_of_lt_of_le LX.out BGE.out); have bne2 := bne.symm) | (have bx := blk_below (blk_new _ _) hb5; have BGE := Lib.hid (below_size (by repeat (first | exact HB.out | apply below_alloc | apply pw_below_drewN | apply below_drew1 | apply below_drew))); have b0 : w5.cell? ⟨_, 0, none⟩ = some (.int .i64 0) := (blk_cell bx 0).trans rfl; have b1 : w5.cell? ⟨_, 1, none⟩ = some (.int .i64 0) := (blk_cell bx 1).trans rfl; have b2 : w5.cell? ⟨_, 2, none⟩ = some (.int .i64 0) := (blk_cell bx 2).trans rfl; have b3 : w5.cell? ⟨_, 3, none⟩ = some (.slice none 0 0) := (blk_cell bx 3).trans rfl; have bf0 := blk_frozen bx 0; have bf1 := blk_frozen bx 1; have bf2 := blk_frozen bx 2; have bf3 := blk_frozen bx 3; have bl := blk_lt bx; have BX := Lib.hid bx; clear bx; have bne := Nat.ne_of_lt (Nat.lt_of_lt_of_le LX.out BGE.out); have bne2 := bne.symm) | (have bx := blk_below (blk_drew (blk_new _ _)) hb5; have BGE := Lib.hid (below_size (by repeat (first | exact HB.out | apply below_alloc | apply pw_below_drewN | apply below_drew1 | apply below_drew))); have b0 : w5.cell? ⟨_, 0, none⟩ = some (.int .i64 0) := (blk_cell bx 0).trans rfl; have b1 : w5.cell? ⟨_, 1, none⟩ = some (.int .i64 0) := (blk_cell bx 1).trans rfl; have b2 : w5.cell? ⟨_, 2, none⟩ = some (.int .i64 0) := (blk_cell bx 2).trans rfl; have b3 : w5.cell? ⟨_, 3, none⟩ = some (.slice none 0 0) := (blk_cell bx 3).trans rfl; have bf0 := blk_frozen bx 0; have bf1 := blk_frozen bx 1; have bf2 := blk_frozen bx 2; have bf3 := blk_frozen bx 3; have bl := blk_lt bx; have BX := Lib.hid bx; clear bx; have bne := Nat.ne_of_lt (Nat.lt_of_lt_of_le LX.out BGE.out); have bne2 := bne.symm) | skip); clear HB; have HB := HB5; clear HB5 hb5 hd5; have y0 := (Below.cell HB.out (p := ad) LX.out).trans X0.out; have y1 := (Below.cell HB.out (p := ⟨ad.block, ad.off + 1, none⟩) LX.out).trans X1.out; have y2 := (Below.cell HB.out (p := ⟨ad.block, ad.off + 2, none⟩) LX.out).trans X2.out; have lx5 : ad.block < w5.heap.size := World.block_lt_of_cell? _ _ y0) | (go_at_call 33; with_reducible refine (diptychref27_number.calls k s2 n2 _ HN2.out).mono ?_; rintro e w5 ⟨rfl, hd5⟩; have hb5 := hd5.below; have HB5 := Lib.hid (below_step (by repeat (first | exact HB.out | apply below_alloc | apply pw_below_drewN | apply below_drew1 | apply below_drew)) hb5); (first | (have bx := blk_below BX.out hb5; have b0 : w5.cell? ⟨_, 0, none⟩ = some (.int .i64 0) := (blk_cell bx 0).trans rfl; have b1 : w5.cell? ⟨_, 1, none⟩ = some (.int .i64 0) := (blk_cell bx 1).trans rfl; have b2 : w5.cell? ⟨_, 2, none⟩ = some (.int .i64 0) := (blk_cell bx 2).trans rfl; have b3 : w5.cell? ⟨_, 3, none⟩ = some (.slice none 0 0) := (blk_cell bx 3).trans rfl; have bf0 := blk_frozen bx 0; have bf1 := blk_frozen bx 1; have bf2 := blk_frozen bx 2; have bf3 := blk_frozen bx 3; have bl := blk_lt bx; clear BX; have BX := Lib.hid bx; clear bx; have bne := Nat.ne_of_lt (Nat.lt_of_lt_of_le LX.out BGE.out); have bne2 := bne.symm) | (have bx := blk_below (blk_new _ _) hb5; have BGE := Lib.hid (below_size (by repeat (first | exact HB.out | apply below_alloc | apply pw_below_drewN | apply below_drew1 | apply below_drew))); have b0 : w5.cell? ⟨_, 0, none⟩ = some (.int .i64 0) := (blk_cell bx 0).trans rfl; have b1 : w5.cell? ⟨_, 1, none⟩ = some (.int .i64 0) := (blk_cell bx 1).trans rfl; have b2 : w5.cell? ⟨_, 2, none⟩ = some (.int .i64 0) := (blk_cell bx 2).trans rfl; have b3 : w5.cell? ⟨_, 3, none⟩ = some (.slice none 0 0) := (blk_cell bx 3).trans rfl; have bf0 := blk_frozen bx 0; have bf1 := blk_frozen bx 1; have bf2 := blk_frozen bx 2; have bf3 := blk_frozen bx 3; have bl := blk_lt bx; have BX := Lib.hid bx; clear bx; have bne := Nat.ne_of_lt (Nat.lt_of_lt_of_le LX.out BGE.out); have bne2 := bne.symm) | (have bx := blk_below (blk_drew (blk_new _ _)) hb5; have BGE := Lib.hid (below_size (by repeat (first | exact HB.out | apply below_alloc | apply pw_below_drewN | apply below_drew1 | apply below_drew))); have b0 : w5.cell? ⟨_, 0, none⟩ = some (.int .i64 0) := (blk_cell bx 0).trans rfl; have b1 : w5.cell? ⟨_, 1, none⟩ = some (.int .i64 0) := (blk_cell bx 1).trans rfl; have b2 : w5.cell? ⟨_, 2, none⟩ = some (.int .i64 0) := (blk_cell bx 2).trans rfl; have b3 : w5.cell? ⟨_, 3, none⟩ = some (.slice none 0 0) := (blk_cell bx 3).trans rfl; have bf0 := blk_frozen bx 0; have bf1 := blk_frozen bx 1; have bf2 := blk_frozen bx 2; have bf3 := blk_frozen bx 3; have bl := blk_lt bx; have BX := Lib.hid bx; clear bx; have bne := Nat.ne_of_lt (Nat.lt_of_lt_of_le LX.out BGE.out); have bne2 := bne.symm) | skip); clear HB; have HB := HB5; clear HB5 hb5 hd5; have y0 := (Below.cell HB.out (p := ad) LX.out).trans X0.out; have y1 := (Below.cell HB.out (p := ⟨ad.block, ad.off + 1, none⟩) LX.out).trans X1.out; have y2 := (Below.cell HB.out (p := ⟨ad.block, ad.off + 2, none⟩) LX.out).trans X2.out; have lx5 : ad.block < w5.heap.size := World.block_lt_of_cell? _ _ y0))
      all_goals (refine hK_ _ _ (Met.intro (hJ_ _ _ ?_)); (repeat apply Exists.intro); refine ⟨?_, rfl⟩)
      all_goals (rw [HLEN.out]; first | exact ⟨_, rfl, Lib.hid (box4r BX.out HB.out BGE.out).1, Lib.hid (box4r BX.out HB.out BGE.out).2, BGE⟩ | exact ⟨_, rfl, Lib.hid (blk_new _ _), Lib.hid (below_alloc HB.out _), Lib.hid (below_size HB.out)⟩)
    case rest =>
      obtain ⟨gM, rfl, HM, HBM, HGE⟩ := hcut
      have hZW : wc.heap[g0]? = _ := (HBM.out.block g0 (blk_lt HZ.out)).trans HZ.out
      have HZW := Lib.hid hZW
      have hBW : Below w.heap.size w wc := below_step HB3.out HBM.out
      have HBW := Lib.hid hBW
      have hQ0 := Kd.Q_drop (k := 3) (Kd.Q_of_R (Kd.R_below HRX.out HBM.out)) HL.out
      rw [if_neg c3, ← HLEN.out, ← HL3.out] at hQ0
      have hQ : Kd.Q Kd.string 9 wc w1.heap.size (fun _ => True) (.slice (some { block := ad.block, off := ad.off + 3 }) l3.length (c - 3)) l3 := hQ0
      have HQ := Lib.hid hQ
      have hQC := Kd.Q_reads' hQ
      have HQC := Lib.hid (show (l3 : List ByteArray).length ≤ c - 3 ∧ Kd.C Kd.string wc (some { block := ad.block, off := ad.off + 3 }) (l3 : List ByteArray).length l3 from hQC.2)
      have hgm : g0 ≠ gM := by have := blk_lt HZ.out; have := HGE.out; omega
      have hgm2 := hgm.symm
      have hp := HP.out
      clear hZW hBW hQ0 hQ hQC HP
      have m0 : wc.cell? ⟨gM, 0, none⟩ = some (.int .i64 n0) := (blk_cell HM.out 0).trans rfl
      have m1 : wc.cell? ⟨gM, 1, none⟩ = some (.int .i64 n1) := (blk_cell HM.out 1).trans rfl
      have m2 : wc.cell? ⟨gM, 2, none⟩ = some (.int .i64 n2) := (blk_cell HM.out 2).trans rfl
      have m3 : wc.cell? ⟨gM, 3, none⟩ = some (.slice (some { block := ad.block, off := ad.off + 3 }) l3.length (c - 3)) := (blk_cell HM.out 3).trans rfl
      by_cases c7 : t2 = 0
      · subst c7
        by_cases c8 : t1.toList = a0.toList
        · rw [if_pos ⟨rfl, c8⟩] at hp
          simp only [Option.some.injEq, Prod.mk.injEq] at hp
          obtain ⟨rfl, rfl, rfl, rfl, rfl⟩ := hp
          have c9 : (t1.toList == a0.toList) = true := beq_iff_eq.mpr c8
          have c10 : (t1.toList != a0.toList) = false := bne_eq_false_iff_eq.mpr c8
          clear c8
          go_wp2_with (first | (go_at_call 15; refine (diptychref27_Print.calls k n0 n1 n2 _ _ l3 _ _ _ ?hr ?hc HPR.out).mono ?_; (case hr => exact HQC.out.2); (case hc => exact HQC.out.1); rintro e w6 ⟨rfl, hb6⟩; have bz := blk_below HZW.out hb6; have bm := blk_below HM.out hb6; have z0 : w6.cell? ⟨g0, 0, none⟩ = some (.int .i64 0) := (blk_cell bz 0).trans rfl; have z1 : w6.cell? ⟨g0, 1, none⟩ = some (.int .i64 0) := (blk_cell bz 1).trans rfl; have z2 : w6.cell? ⟨g0, 2, none⟩ = some (.int .i64 0) := (blk_cell bz 2).trans rfl; have z3 : w6.cell? ⟨g0, 3, none⟩ = some (.slice none 0 0) := (blk_cell bz 3).trans rfl; have f0 := blk_frozen bz 0; have f1 := blk_frozen bz 1; have f2 := blk_frozen bz 2; have f3 := blk_frozen bz 3; have m0 : w6.cell? ⟨gM, 0, none⟩ = some (.int .i64 n0) := (blk_cell bm 0).trans rfl; have m1 : w6.cell? ⟨gM, 1, none⟩ = some (.int .i64 n1) := (blk_cell bm 1).trans rfl; have m2 : w6.cell? ⟨gM, 2, none⟩ = some (.int .i64 n2) := (blk_cell bm 2).trans rfl; have m3 : w6.cell? ⟨gM, 3, none⟩ = some (.slice (some { block := ad.block, off := ad.off + 3 }) l3.length (c - 3)) := (blk_cell bm 3).trans rfl))
          refine bodyPost_ret (results_ct rfl _ _ g0 40 #[.int .i64 n0, .int .i64 n1, .int .i64 n2, .slice (some { block := ad.block, off := ad.off + 3 }) l3.length (c - 3)] (0, 0) _ rfl ?hblk Tryd.underlying40 rfl rfl) rfl ?_
          case hblk => exact blk_set (blk_set (blk_set (blk_set bz 0 (.int .i64 n0)) 1 (.int .i64 n1)) 2 (.int .i64 n2)) 3 (.slice (some { block := ad.block, off := ad.off + 3 }) l3.length (c - 3))
          exact ⟨_, rfl, Kd.Q_mono (Kd.Q_lower (Kd.Q_far (p := ⟨g0, 3, none⟩) (Kd.Q_far (p := ⟨g0, 2, none⟩) (Kd.Q_far (p := ⟨g0, 1, none⟩) (Kd.Q_far (p := ⟨g0, 0, none⟩) (Kd.Q_bound (Kd.Q_below HQ.out hb6)) (fun q hq => (by have := hq.2.1; have := HLO.out; have := E0_.out; show q ≠ g0; omega)) _) (fun q hq => (by have := hq.2.1; have := HLO.out; have := E0_.out; show q ≠ g0; omega)) _) (fun q hq => (by have := hq.2.1; have := HLO.out; have := E0_.out; show q ≠ g0; omega)) _) (fun q hq => (by have := hq.2.1; have := HLO.out; have := E0_.out; show q ≠ g0; omega)) _) (Nat.le_of_lt HLO.out)) (fun _ _ => trivial), by
            refine Below.setCell (Below.setCell (Below.setCell (Below.setCell ?_ ?_ _) ?_ _) ?_ _) ?_ _
            · exact below_step HBW.out hb6
            all_goals exact Nat.le_of_eq E0_.out.symm⟩
        · rw [if_neg (fun h => c8 h.2)] at hp
          simp only [Option.some.injEq, Prod.mk.injEq] at hp
          obtain ⟨rfl, rfl, rfl, rfl, rfl⟩ := hp
          have c9 : (t1.toList == a0.toList) = false := beq_eq_false_iff_ne.mpr c8
          have c10 : (t1.toList != a0.toList) = true := bne_iff_ne.mpr c8
          clear c8
          go_wp2_with (first | (go_at_call 15; refine (diptychref27_Print.calls k n0 n1 n2 _ _ l3 _ _ _ ?hr ?hc HPR.out).mono ?_; (case hr => exact HQC.out.2); (case hc => exact HQC.out.1); rintro e w6 ⟨rfl, hb6⟩; have bz := blk_below HZW.out hb6; have bm := blk_below HM.out hb6; have z0 : w6.cell? ⟨g0, 0, none⟩ = some (.int .i64 0) := (blk_cell bz 0).trans rfl; have z1 : w6.cell? ⟨g0, 1, none⟩ = some (.int .i64 0) := (blk_cell bz 1).trans rfl; have z2 : w6.cell? ⟨g0, 2, none⟩ = some (.int .i64 0) := (blk_cell bz 2).trans rfl; have z3 : w6.cell? ⟨g0, 3, none⟩ = some (.slice none 0 0) := (blk_cell bz 3).trans rfl; have f0 := blk_frozen bz 0; have f1 := blk_frozen bz 1; have f2 := blk_frozen bz 2; have f3 := blk_frozen bz 3; have m0 : w6.cell? ⟨gM, 0, none⟩ = some (.int .i64 n0) := (blk_cell bm 0).trans rfl; have m1 : w6.cell? ⟨gM, 1, none⟩ = some (.int .i64 n1) := (blk_cell bm 1).trans rfl; have m2 : w6.cell? ⟨gM, 2, none⟩ = some (.int .i64 n2) := (blk_cell bm 2).trans rfl; have m3 : w6.cell? ⟨gM, 3, none⟩ = some (.slice (some { block := ad.block, off := ad.off + 3 }) l3.length (c - 3)) := (blk_cell bm 3).trans rfl))
          refine bodyPost_ret (results_ct rfl _ _ g0 40 #[.int .i64 0, .int .i64 0, .int .i64 0, .slice none 0 0] (0, 0) _ rfl ?hblk Tryd.underlying40 rfl rfl) rfl ?_
          case hblk => exact blk_set (blk_set (blk_set (blk_set bz 0 (.int .i64 0)) 1 (.int .i64 0)) 2 (.int .i64 0)) 3 (.slice none 0 0)
          exact ⟨_, rfl, Kd.Q_nil _ _ _ _ _, by
            refine Below.setCell (Below.setCell (Below.setCell (Below.setCell ?_ ?_ _) ?_ _) ?_ _) ?_ _
            · exact below_step HBW.out hb6
            all_goals exact Nat.le_of_eq E0_.out.symm⟩
      · rw [if_neg (fun h => c7 h.1)] at hp
        simp only [Option.some.injEq, Prod.mk.injEq] at hp
        obtain ⟨rfl, rfl, rfl, rfl, rfl⟩ := hp
        have c9 : (t2 == 0) = false := beq_eq_false_iff_ne.mpr c7
        have c10 : (t2 != 0) = true := bne_iff_ne.mpr c7
        have c11 : decide (t2 = 0) = false := decide_eq_false c7
        clear c7
        go_wp2_with (first | (go_at_call 15; refine (diptychref27_Print.calls k n0 n1 n2 _ _ l3 _ _ _ ?hr ?hc HPR.out).mono ?_; (case hr => exact HQC.out.2); (case hc => exact HQC.out.1); rintro e w6 ⟨rfl, hb6⟩; have bz := blk_below HZW.out hb6; have bm := blk_below HM.out hb6; have z0 : w6.cell? ⟨g0, 0, none⟩ = some (.int .i64 0) := (blk_cell bz 0).trans rfl; have z1 : w6.cell? ⟨g0, 1, none⟩ = some (.int .i64 0) := (blk_cell bz 1).trans rfl; have z2 : w6.cell? ⟨g0, 2, none⟩ = some (.int .i64 0) := (blk_cell bz 2).trans rfl; have z3 : w6.cell? ⟨g0, 3, none⟩ = some (.slice none 0 0) := (blk_cell bz 3).trans rfl; have f0 := blk_frozen bz 0; have f1 := blk_frozen bz 1; have f2 := blk_frozen bz 2; have f3 := blk_frozen bz 3; have m0 : w6.cell? ⟨gM, 0, none⟩ = some (.int .i64 n0) := (blk_cell bm 0).trans rfl; have m1 : w6.cell? ⟨gM, 1, none⟩ = some (.int .i64 n1) := (blk_cell bm 1).trans rfl; have m2 : w6.cell? ⟨gM, 2, none⟩ = some (.int .i64 n2) := (blk_cell bm 2).trans rfl; have m3 : w6.cell? ⟨gM, 3, none⟩ = some (.slice (some { block := ad.block, off := ad.off + 3 }) l3.length (c - 3)) := (blk_cell bm 3).trans rfl))
        refine bodyPost_ret (results_ct rfl _ _ g0 40 #[.int .i64 0, .int .i64 0, .int .i64 0, .slice none 0 0] (0, 0) _ rfl ?hblk Tryd.underlying40 rfl rfl) rfl ?_
        case hblk => exact blk_set (blk_set (blk_set (blk_set bz 0 (.int .i64 0)) 1 (.int .i64 0)) 2 (.int .i64 0)) 3 (.slice none 0 0)
        exact ⟨_, rfl, Kd.Q_nil _ _ _ _ _, by
          refine Below.setCell (Below.setCell (Below.setCell (Below.setCell ?_ ?_ _) ?_ _) ?_ _) ?_ _
          · exact below_step HBW.out hb6
          all_goals exact Nat.le_of_eq E0_.out.symm⟩
end Go.Proofs.YtgbfbfemmhfcaaaDoor.P
