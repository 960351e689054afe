/- line.Parse: the good way. -/
import Derived.Test.YtgbfbfemmhfcaaaDoorGivenA
namespace Go.Proofs.YtgbfbfemmhfcaaaDoor.P
open Go.Joins Go.RowKit Go.Shelf Go.Proofs.YtgbfbfemmhfcaaaDoorW.PrintWords
theorem box4 {W w : World} {b : Nat} {x y z v : Value} {t : TypeId} (hb : w.heap[b]? = some (.cells #[.int .i64 0, .int .i64 0, .int .i64 0, .slice none 0 0] t (0, 0))) (hB : Below W.heap.size W w) (hg : W.heap.size ≤ b) :
    ((((w.setCell ⟨b, 0, none⟩ x).setCell ⟨b, 1, none⟩ y).setCell ⟨b, 2, none⟩ z).setCell ⟨b, 3, none⟩ v).heap[b]? = some (.cells #[x, y, z, v] t (0, 0)) ∧ Below W.heap.size W ((((w.setCell ⟨b, 0, none⟩ x).setCell ⟨b, 1, none⟩ y).setCell ⟨b, 2, none⟩ z).setCell ⟨b, 3, none⟩ v) :=
  ⟨blk_set (blk_set (blk_set (blk_set hb 0 x) 1 y) 2 z) 3 v, Below.setCell (Below.setCell (Below.setCell (Below.setCell hB hg _) hg _) hg _) hg _⟩
set_option maxHeartbeats 0 in
set_option maxRecDepth 100000 in
theorem parse_good (k : Nat) (a0 b : ByteArray) (ls : List ByteArray) (rest : ByteArray) (w : World) (hG : Gd w) (ho : crc_Open.f k a0 = some (b, 0)) (ht : line_Take.f k b = some (ls, rest, 0)) (hl : 3 ≤ ls.length) (r1 r2 r3 : Int) (r4 : List ByteArray) (r5 : Int) (hp : parseB k a0 ls = some (r1, r2, r3, r4, r5)) : Calls Tryd.prog 16 #[.string a0] w (ParsePost w r1 r2 r3 r4 r5) := by
  have HO := Lib.hid ho
  have HT := Lib.hid ht
  have HG := Lib.hid hG
  have HP := Lib.hid hp
  have HL := Lib.hid hl
  clear ho ht hG hp
  have hl2 : ((ls.length : Int) < 3) = False := eq_false (by omega)
  clear hl
  go_enter Tryd.func16, Tryd.ntmps16
  go_upto_region 8 with (first | ((with_reducible refine gate_dst (N := 2) rfl ?_); refine box_event ?hg (N := 2) ?hd (cs := #[.int .i64 0, .int .i64 0, .int .i64 0, .slice none 0 0]) (t := 37) ?hr ?_; (case hd => rfl); (case hg => rfl); (case hr => first | (go_simp; done) | (go_simp; rfl)); intro g0 e0x_ w0 k0 hb0; have E0_ := Lib.hid e0x_; clear e0x_; have z0 : w0.cell? ⟨g0, 0, none⟩ = some (.int .i64 0) := (blk_cell k0 0).trans rfl; have z1 : w0.cell? ⟨g0, 1, none⟩ = some (.int .i64 0) := (blk_cell k0 1).trans rfl; have z2 : w0.cell? ⟨g0, 2, none⟩ = some (.int .i64 0) := (blk_cell k0 2).trans rfl; have z3 : w0.cell? ⟨g0, 3, none⟩ = some (.slice none 0 0) := (blk_cell k0 3).trans rfl; have f0 := blk_frozen k0 0; have f1 := blk_frozen k0 1; have f2 := blk_frozen k0 2; have f3 := blk_frozen k0 3) | (go_at_call 29; refine (crc_Open.calls k _ b 0 _ HO.out).mono ?_; rintro e w1 ⟨rfl, hb1⟩; have k1 := blk_below k0 hb1; have z0 : w1.cell? ⟨g0, 0, none⟩ = some (.int .i64 0) := (blk_cell k1 0).trans rfl; have z1 : w1.cell? ⟨g0, 1, none⟩ = some (.int .i64 0) := (blk_cell k1 1).trans rfl; have z2 : w1.cell? ⟨g0, 2, none⟩ = some (.int .i64 0) := (blk_cell k1 2).trans rfl; have z3 : w1.cell? ⟨g0, 3, none⟩ = some (.slice none 0 0) := (blk_cell k1 3).trans rfl; have f0 := blk_frozen k1 0; have f1 := blk_frozen k1 1; have f2 := blk_frozen k1 2; have f3 := blk_frozen k1 3) | (go_at_call 11; refine (line_Take.calls k _ ls rest 0 _ HT.out).mono ?_; rintro e w2 ⟨v, rfl, hv, hb2⟩; obtain ⟨A, c, rfl⟩ := Kd.R_slice hv; have k2 := blk_below k1 hb2; have z0 : w2.cell? ⟨g0, 0, none⟩ = some (.int .i64 0) := (blk_cell k2 0).trans rfl; have z1 : w2.cell? ⟨g0, 1, none⟩ = some (.int .i64 0) := (blk_cell k2 1).trans rfl; have z2 : w2.cell? ⟨g0, 2, none⟩ = some (.int .i64 0) := (blk_cell k2 2).trans rfl; have z3 : w2.cell? ⟨g0, 3, none⟩ = some (.slice none 0 0) := (blk_cell k2 3).trans rfl; have f0 := blk_frozen k2 0; have f1 := blk_frozen k2 1; have f2 := blk_frozen k2 2; have f3 := blk_frozen k2 3) | ((with_reducible refine gate_dst (N := 6) rfl ?_); refine box_event ?hg (N := 6) ?hd (cs := #[.slice none 0 0]) (t := 22) ?hr ?_; (case hd => rfl); (case hg => rfl); (case hr => first | (go_simp; done) | (go_simp; rfl)); intro gL eLx_ w3 kL hb3; have EL_ := Lib.hid eLx_; clear eLx_; have k3 := blk_below k2 hb3; have y0 : w3.cell? ⟨gL, 0, none⟩ = some (.slice none 0 0) := (blk_cell kL 0).trans rfl; have fy := blk_frozen kL 0; have hne : g0 ≠ gL := (fun e_ => absurd (blk_lt k2) (by rw [e_, EL_.out]; exact Nat.lt_irrefl _)); have hne2 := hne.symm; have z0 : w3.cell? ⟨g0, 0, none⟩ = some (.int .i64 0) := (blk_cell k3 0).trans rfl; have z1 : w3.cell? ⟨g0, 1, none⟩ = some (.int .i64 0) := (blk_cell k3 1).trans rfl; have z2 : w3.cell? ⟨g0, 2, none⟩ = some (.int .i64 0) := (blk_cell k3 2).trans rfl; have z3 : w3.cell? ⟨g0, 3, none⟩ = some (.slice none 0 0) := (blk_cell k3 3).trans rfl; have f0 := blk_frozen k3 0; have f1 := blk_frozen k3 1; have f2 := blk_frozen k3 2; have f3 := blk_frozen k3 3))
  have hkL := blk_set kL 0 (.slice A ls.length c)
  have hkZ := blk_far (p := ⟨gL, 0, none⟩) k3 hne (.slice A ls.length c)
  have hbE : Below w2.heap.size w2 (w3.setCell ⟨gL, 0, none⟩ (.slice A ls.length c)) := Below.setCell hb3 (Nat.le_of_eq EL_.out.symm) _
  have hrow : Kd.R Kd.string 9 (w3.setCell ⟨gL, 0, none⟩ (.slice A ls.length c)) w1.heap.size (fun _ => True) (.slice A ls.length c) ls := Kd.R_below hv hbE
  have hB3 : Below w.heap.size w (w3.setCell ⟨gL, 0, none⟩ (.slice A ls.length c)) := below_step (below_step (below_step hb0 hb1) hb2) hbE
  have hG3 := Gd_below HG.out hB3
  have hlo : w.heap.size < w1.heap.size := by have := blk_lt k1; have := E0_.out; omega
  clear z0 z1 z2 z3 f0 f1 f2 f3
  generalize w3.setCell ⟨gL, 0, none⟩ (.slice A ls.length c) = W3 at *
  have yL : W3.cell? ⟨gL, 0, none⟩ = some (.slice A ls.length c) := (blk_cell hkL 0).trans rfl
  have lL : gL < W3.heap.size := blk_lt hkL
  have HB := Lib.hid (Below.refl W3.heap.size W3)
  have hsz : ∀ x, x ∈ ls → x.size ≤ 281474976710656 := by
    have := HP.out
    unfold parseB at this
    by_cases h : (∀ x, x ∈ ls → x.size ≤ 281474976710656)
    · exact h
    · rw [if_neg h] at this; cases this
  have hr3 : ∀ i : Int, 0 ≤ i → i < (ls.length : Int) → (rdOf ByteArray.empty ls i).size ≤ 281474976710656 := by
    intro i h0 h1
    have h2 : i.toNat < ls.length := by omega
    have e1 : rdOf ByteArray.empty ls i = ls[i.toNat]'h2 := by simp [rdOf, h2]
    rw [e1]
    exact hsz _ (List.getElem_mem h2)
  have hcl : ls.length ≤ c := (Kd.R_reads' hrow).2.1
  have hl3 := HL.out
  have q1 : ((3 : Int) ≤ (ls.length : Int)) = True := eq_true (by omega)
  have q2 : ((ls.length : Int) ≤ (c : Int)) = True := eq_true (by omega)
  have q3 : ((3 : Nat) ≤ ls.length) = True := eq_true hl3
  have q4 : (ls.length ≤ c) = True := eq_true hcl
  have q5 : ((3 : Int) ≤ (c : Int)) = True := eq_true (by omega)
  have hcl3x := Lib.hid hcl
  clear hl3 hcl
  obtain ⟨ad, e1, -⟩ := Kd.at_string (Kd.R_reads' hrow).2.2 0 (by omega) (by have := HL.out; omega)
  cases e1
  have HGX := Lib.hid hG3
  have HRX := Lib.hid hrow
  have HKL := Lib.hid hkL
  have HYL := Lib.hid yL
  clear k0 k1 k2 k3 kL y0 hb0 hb1 hb2 hb3 hbE hv hG3
  have HR3 := Lib.hid hr3
  have HSZ := Lib.hid hsz
  have HZ := Lib.hid hkZ
  have HB3 := Lib.hid hB3
  have HLO := Lib.hid hlo
  clear hr3 hkZ hB3 hlo hne hne2 hsz fy hrow hkL
  obtain ⟨l3, hl3x⟩ : ∃ l3, l3 = ls.drop 3 := ⟨_, rfl⟩
  have HL3 := Lib.hid hl3x
  have HLEN := Lib.hid (show l3.length = ls.length - 3 by rw [hl3x, List.length_drop])
  clear hl3x
  by_cases c3 : c = 3
  · subst c3
    have hlen0 : ls.length - 3 = 0 := by have := HL.out; have := hcl3x.out; omega
    have e3 : l3 = [] := by rw [HL3.out]; exact List.drop_of_length_le (by omega)
    subst e3
    go_cut [9] from 36 to 44 (fun v9 wx => ∃ gM, v9 = .pointer (some ⟨gM, 0, none⟩) ∧ Hid (wx.heap[gM]? = some (.cells #[.int .i64 (numAt ls 0), .int .i64 (numAt ls 1), .int .i64 (numAt ls 2), (.slice (some ad) 0 0)] 37 (0, 0))) ∧ Hid (Below W3.heap.size W3 wx) ∧ Hid (W3.heap.size ≤ gM))
    case first =>
      rename_i J_ K_ hJ_ hK_
      clear HP HO HT HG HZ HB3 HLO HSZ HL3 E0_ EL_ hl2
      go_region_held3 (fun W => W.cell? ⟨gL, 0, none⟩ = some (.slice (some ad) ls.length 3)) (first | exact yL5 | exact yL | go_keep)
        (first | (go_at_call 30; refine (num_calls gL (some ad) 0 3 ls _ ?h0 ?h1 ?hs _ ?hG ?hb ?hr).mono ?_; (case h0 => omega); (case h1 => have := HL.out; omega); (case hs => exact HR3.out _ (by omega) (by have := HL.out; omega)); (case hG => exact Gd_below HGX.out (by repeat (first | exact HB.out | apply below_alloc | apply pw_below_drewN | apply below_drew1 | apply below_drew))); (case hb => exact (Below.cell (by repeat (first | exact HB.out | apply below_alloc | apply pw_below_drewN | apply below_drew1 | apply below_drew)) (p := ⟨gL, 0, none⟩) (blk_lt HKL.out)).trans HYL.out); (case hr => exact (Kd.R_reads' (Kd.R_below HRX.out (by repeat (first | exact HB.out | apply below_alloc | apply pw_below_drewN | apply below_drew1 | apply below_drew)))).2.2); rintro e w5 ⟨rfl, hb5⟩; have HB5 := Lib.hid (below_step (by repeat (first | exact HB.out | apply below_alloc | apply pw_below_drewN | apply below_drew1 | apply below_drew)) hb5); (first | (have bx := blk_below BX.out hb5; have b0 : w5.cell? ⟨_, 0, none⟩ = some (.int .i64 0) := (blk_cell bx 0).trans rfl; have bf0 := blk_frozen bx 0; have b1 : w5.cell? ⟨_, 1, none⟩ = some (.int .i64 0) := (blk_cell bx 1).trans rfl; have bf1 := blk_frozen bx 1; have b2 : w5.cell? ⟨_, 2, none⟩ = some (.int .i64 0) := (blk_cell bx 2).trans rfl; have bf2 := blk_frozen bx 2; have b3 : w5.cell? ⟨_, 3, none⟩ = some (.slice none 0 0) := (blk_cell bx 3).trans rfl; have bf3 := blk_frozen bx 3; have bl := blk_lt bx; clear BX; have BX := Lib.hid bx; clear bx; have bne := Nat.ne_of_lt (Nat.lt_of_lt_of_le (blk_lt HKL.out) BGE.out); have bne2 := bne.symm) | (have bx := blk_below (blk_new _ _) hb5; have BGE := Lib.hid (below_size (by repeat (first | exact HB.out | apply below_alloc | apply pw_below_drewN | apply below_drew1 | apply below_drew))); have b0 : w5.cell? ⟨_, 0, none⟩ = some (.int .i64 0) := (blk_cell bx 0).trans rfl; have bf0 := blk_frozen bx 0; have b1 : w5.cell? ⟨_, 1, none⟩ = some (.int .i64 0) := (blk_cell bx 1).trans rfl; have bf1 := blk_frozen bx 1; have b2 : w5.cell? ⟨_, 2, none⟩ = some (.int .i64 0) := (blk_cell bx 2).trans rfl; have bf2 := blk_frozen bx 2; have b3 : w5.cell? ⟨_, 3, none⟩ = some (.slice none 0 0) := (blk_cell bx 3).trans rfl; have bf3 := blk_frozen bx 3; have bl := blk_lt bx; have BX := Lib.hid bx; clear bx; have bne := Nat.ne_of_lt (Nat.lt_of_lt_of_le (blk_lt HKL.out) BGE.out); have bne2 := bne.symm) | (have bx := blk_below (blk_drew (blk_new _ _)) hb5; have BGE := Lib.hid (below_size (by repeat (first | exact HB.out | apply below_alloc | apply pw_below_drewN | apply below_drew1 | apply below_drew))); have b0 : w5.cell? ⟨_, 0, none⟩ = some (.int .i64 0) := (blk_cell bx 0).trans rfl; have bf0 := blk_frozen bx 0; have b1 : w5.cell? ⟨_, 1, none⟩ = some (.int .i64 0) := (blk_cell bx 1).trans rfl; have bf1 := blk_frozen bx 1; have b2 : w5.cell? ⟨_, 2, none⟩ = some (.int .i64 0) := (blk_cell bx 2).trans rfl; have bf2 := blk_frozen bx 2; have b3 : w5.cell? ⟨_, 3, none⟩ = some (.slice none 0 0) := (blk_cell bx 3).trans rfl; have bf3 := blk_frozen bx 3; have bl := blk_lt bx; have BX := Lib.hid bx; clear bx; have bne := Nat.ne_of_lt (Nat.lt_of_lt_of_le (blk_lt HKL.out) BGE.out); have bne2 := bne.symm) | skip); clear HB; have HB := HB5; clear HB5 hb5; have yL5 := (Below.cell HB.out (p := ⟨gL, 0, none⟩) (blk_lt HKL.out)).trans HYL.out; have lL5 : gL < w5.heap.size := World.block_lt_of_cell? _ _ yL5))
      all_goals (refine hK_ _ _ (Met.intro (hJ_ _ _ ?_)); (repeat apply Exists.intro); refine ⟨?_, rfl⟩)
      all_goals (first | exact ⟨_, rfl, Lib.hid (box4 BX.out HB.out BGE.out).1, Lib.hid (box4 BX.out HB.out BGE.out).2, BGE⟩ | exact ⟨_, rfl, Lib.hid (blk_new _ _), Lib.hid (below_alloc HB.out _), Lib.hid (below_size HB.out)⟩)
    case rest =>
      obtain ⟨gM, rfl, HM, HBM, HGE⟩ := hcut
      have hZW : wc.heap[g0]? = _ := (HBM.out.block g0 (blk_lt HZ.out)).trans HZ.out
      have HZW := Lib.hid hZW
      have hBW : Below w.heap.size w wc := below_step HB3.out HBM.out
      have HBW := Lib.hid hBW
      have hQ0 := Kd.Q_drop (k := 3) (Kd.Q_of_R (Kd.R_below HRX.out HBM.out)) HL.out
      rw [if_pos rfl, ← HL3.out, hlen0] at hQ0
      have hQ : Kd.Q Kd.string 9 wc w1.heap.size (fun _ => True) (.slice (some ad) 0 0) [] := hQ0
      have HQ := Lib.hid hQ
      have hQC := Kd.Q_reads' hQ
      have HQC := Lib.hid (show ([] : List ByteArray).length ≤ 0 ∧ Kd.C Kd.string wc (some ad) ([] : List ByteArray).length [] from hQC.2)
      have hgm : g0 ≠ gM := by have := blk_lt HZ.out; have := HGE.out; omega
      have hgm2 := hgm.symm
      have hp := HP.out
      unfold parseB at hp
      rw [if_pos HSZ.out, ← HL3.out] at hp
      obtain ⟨⟨t1, t2⟩, hPr, hp⟩ := Option.bind_eq_some_iff.mp hp
      have HPR := Lib.hid hPr
      clear hZW hBW hQ0 hQ hQC hPr HP
      have m0 : wc.cell? ⟨gM, 0, none⟩ = some (.int .i64 (numAt ls 0)) := (blk_cell HM.out 0).trans rfl
      have m1 : wc.cell? ⟨gM, 1, none⟩ = some (.int .i64 (numAt ls 1)) := (blk_cell HM.out 1).trans rfl
      have m2 : wc.cell? ⟨gM, 2, none⟩ = some (.int .i64 (numAt ls 2)) := (blk_cell HM.out 2).trans rfl
      have m3 : wc.cell? ⟨gM, 3, none⟩ = some (.slice (some ad) 0 0) := (blk_cell HM.out 3).trans rfl
      replace hp : (if t2 = 0 ∧ t1.toList = a0.toList then some (numAt ls 0, numAt ls 1, numAt ls 2, [], 0) else some (0, 0, 0, [], 3)) = some (r1, r2, r3, r4, r5) := hp
      by_cases c7 : t2 = 0
      · subst c7
        by_cases c8 : t1.toList = a0.toList
        · rw [if_pos ⟨rfl, c8⟩] at hp
          simp only [Option.some.injEq, Prod.mk.injEq] at hp
          obtain ⟨rfl, rfl, rfl, rfl, rfl⟩ := hp
          have c9 : (t1.toList == a0.toList) = true := beq_iff_eq.mpr c8
          have c10 : (t1.toList != a0.toList) = false := bne_eq_false_iff_eq.mpr c8
          clear c8
          go_wp2_with (first | (go_at_call 14; refine (line_Print.calls k (numAt ls 0) (numAt ls 1) (numAt ls 2) _ _ [] _ _ _ ?hr ?hc ?hG HPR.out).mono ?_; (case hr => exact HQC.out.2); (case hc => exact HQC.out.1); (case hG => exact Gd_below HGX.out HBM.out); rintro e w6 ⟨rfl, hb6⟩; have bz := blk_below HZW.out hb6; have bm := blk_below HM.out hb6; have z0 : w6.cell? ⟨g0, 0, none⟩ = some (.int .i64 0) := (blk_cell bz 0).trans rfl; have z1 : w6.cell? ⟨g0, 1, none⟩ = some (.int .i64 0) := (blk_cell bz 1).trans rfl; have z2 : w6.cell? ⟨g0, 2, none⟩ = some (.int .i64 0) := (blk_cell bz 2).trans rfl; have z3 : w6.cell? ⟨g0, 3, none⟩ = some (.slice none 0 0) := (blk_cell bz 3).trans rfl; have f0 := blk_frozen bz 0; have f1 := blk_frozen bz 1; have f2 := blk_frozen bz 2; have f3 := blk_frozen bz 3; have m0 : w6.cell? ⟨gM, 0, none⟩ = some (.int .i64 (numAt ls 0)) := (blk_cell bm 0).trans rfl; have m1 : w6.cell? ⟨gM, 1, none⟩ = some (.int .i64 (numAt ls 1)) := (blk_cell bm 1).trans rfl; have m2 : w6.cell? ⟨gM, 2, none⟩ = some (.int .i64 (numAt ls 2)) := (blk_cell bm 2).trans rfl; have m3 : w6.cell? ⟨gM, 3, none⟩ = some (.slice (some ad) 0 0) := (blk_cell bm 3).trans rfl))
          refine bodyPost_ret (results_ct rfl _ _ g0 37 #[.int .i64 (numAt ls 0), .int .i64 (numAt ls 1), .int .i64 (numAt ls 2), .slice (some ad) 0 0] (0, 0) _ rfl ?hblk Tryd.underlying37 rfl rfl) rfl ?_
          case hblk => exact blk_set (blk_set (blk_set (blk_set bz 0 (.int .i64 (numAt ls 0))) 1 (.int .i64 (numAt ls 1))) 2 (.int .i64 (numAt ls 2))) 3 (.slice (some ad) 0 0)
          exact ⟨_, rfl, Kd.Q_mono (Kd.Q_lower (Kd.Q_far (p := ⟨g0, 3, none⟩) (Kd.Q_far (p := ⟨g0, 2, none⟩) (Kd.Q_far (p := ⟨g0, 1, none⟩) (Kd.Q_far (p := ⟨g0, 0, none⟩) (Kd.Q_bound (Kd.Q_below HQ.out hb6)) (fun q hq => (by have := hq.2.1; have := HLO.out; have := E0_.out; show q ≠ g0; omega)) _) (fun q hq => (by have := hq.2.1; have := HLO.out; have := E0_.out; show q ≠ g0; omega)) _) (fun q hq => (by have := hq.2.1; have := HLO.out; have := E0_.out; show q ≠ g0; omega)) _) (fun q hq => (by have := hq.2.1; have := HLO.out; have := E0_.out; show q ≠ g0; omega)) _) (Nat.le_of_lt HLO.out)) (fun _ _ => trivial), by
            refine Below.setCell (Below.setCell (Below.setCell (Below.setCell ?_ ?_ _) ?_ _) ?_ _) ?_ _
            · exact below_step HBW.out hb6
            all_goals exact Nat.le_of_eq E0_.out.symm⟩
        · rw [if_neg (fun h => c8 h.2)] at hp
          simp only [Option.some.injEq, Prod.mk.injEq] at hp
          obtain ⟨rfl, rfl, rfl, rfl, rfl⟩ := hp
          have c9 : (t1.toList == a0.toList) = false := beq_eq_false_iff_ne.mpr c8
          have c10 : (t1.toList != a0.toList) = true := bne_iff_ne.mpr c8
          clear c8
          go_wp2_with (first | (go_at_call 14; refine (line_Print.calls k (numAt ls 0) (numAt ls 1) (numAt ls 2) _ _ [] _ _ _ ?hr ?hc ?hG HPR.out).mono ?_; (case hr => exact HQC.out.2); (case hc => exact HQC.out.1); (case hG => exact Gd_below HGX.out HBM.out); rintro e w6 ⟨rfl, hb6⟩; have bz := blk_below HZW.out hb6; have bm := blk_below HM.out hb6; have z0 : w6.cell? ⟨g0, 0, none⟩ = some (.int .i64 0) := (blk_cell bz 0).trans rfl; have z1 : w6.cell? ⟨g0, 1, none⟩ = some (.int .i64 0) := (blk_cell bz 1).trans rfl; have z2 : w6.cell? ⟨g0, 2, none⟩ = some (.int .i64 0) := (blk_cell bz 2).trans rfl; have z3 : w6.cell? ⟨g0, 3, none⟩ = some (.slice none 0 0) := (blk_cell bz 3).trans rfl; have f0 := blk_frozen bz 0; have f1 := blk_frozen bz 1; have f2 := blk_frozen bz 2; have f3 := blk_frozen bz 3; have m0 : w6.cell? ⟨gM, 0, none⟩ = some (.int .i64 (numAt ls 0)) := (blk_cell bm 0).trans rfl; have m1 : w6.cell? ⟨gM, 1, none⟩ = some (.int .i64 (numAt ls 1)) := (blk_cell bm 1).trans rfl; have m2 : w6.cell? ⟨gM, 2, none⟩ = some (.int .i64 (numAt ls 2)) := (blk_cell bm 2).trans rfl; have m3 : w6.cell? ⟨gM, 3, none⟩ = some (.slice (some ad) 0 0) := (blk_cell bm 3).trans rfl))
          refine bodyPost_ret (results_ct rfl _ _ g0 37 #[.int .i64 0, .int .i64 0, .int .i64 0, .slice none 0 0] (0, 0) _ rfl ?hblk Tryd.underlying37 rfl rfl) rfl ?_
          case hblk => exact blk_set (blk_set (blk_set (blk_set bz 0 (.int .i64 0)) 1 (.int .i64 0)) 2 (.int .i64 0)) 3 (.slice none 0 0)
          exact ⟨_, rfl, Kd.Q_nil _ _ _ _ _, by
            refine Below.setCell (Below.setCell (Below.setCell (Below.setCell ?_ ?_ _) ?_ _) ?_ _) ?_ _
            · exact below_step HBW.out hb6
            all_goals exact Nat.le_of_eq E0_.out.symm⟩
      · rw [if_neg (fun h => c7 h.1)] at hp
        simp only [Option.some.injEq, Prod.mk.injEq] at hp
        obtain ⟨rfl, rfl, rfl, rfl, rfl⟩ := hp
        have c9 : (t2 == 0) = false := beq_eq_false_iff_ne.mpr c7
        have c10 : (t2 != 0) = true := bne_iff_ne.mpr c7
        have c11 : decide (t2 = 0) = false := decide_eq_false c7
        clear c7
        go_wp2_with (first | (go_at_call 14; refine (line_Print.calls k (numAt ls 0) (numAt ls 1) (numAt ls 2) _ _ [] _ _ _ ?hr ?hc ?hG HPR.out).mono ?_; (case hr => exact HQC.out.2); (case hc => exact HQC.out.1); (case hG => exact Gd_below HGX.out HBM.out); rintro e w6 ⟨rfl, hb6⟩; have bz := blk_below HZW.out hb6; have bm := blk_below HM.out hb6; have z0 : w6.cell? ⟨g0, 0, none⟩ = some (.int .i64 0) := (blk_cell bz 0).trans rfl; have z1 : w6.cell? ⟨g0, 1, none⟩ = some (.int .i64 0) := (blk_cell bz 1).trans rfl; have z2 : w6.cell? ⟨g0, 2, none⟩ = some (.int .i64 0) := (blk_cell bz 2).trans rfl; have z3 : w6.cell? ⟨g0, 3, none⟩ = some (.slice none 0 0) := (blk_cell bz 3).trans rfl; have f0 := blk_frozen bz 0; have f1 := blk_frozen bz 1; have f2 := blk_frozen bz 2; have f3 := blk_frozen bz 3; have m0 : w6.cell? ⟨gM, 0, none⟩ = some (.int .i64 (numAt ls 0)) := (blk_cell bm 0).trans rfl; have m1 : w6.cell? ⟨gM, 1, none⟩ = some (.int .i64 (numAt ls 1)) := (blk_cell bm 1).trans rfl; have m2 : w6.cell? ⟨gM, 2, none⟩ = some (.int .i64 (numAt ls 2)) := (blk_cell bm 2).trans rfl; have m3 : w6.cell? ⟨gM, 3, none⟩ = some (.slice (some ad) 0 0) := (blk_cell bm 3).trans rfl))
        refine bodyPost_ret (results_ct rfl _ _ g0 37 #[.int .i64 0, .int .i64 0, .int .i64 0, .slice none 0 0] (0, 0) _ rfl ?hblk Tryd.underlying37 rfl rfl) rfl ?_
        case hblk => exact blk_set (blk_set (blk_set (blk_set bz 0 (.int .i64 0)) 1 (.int .i64 0)) 2 (.int .i64 0)) 3 (.slice none 0 0)
        exact ⟨_, rfl, Kd.Q_nil _ _ _ _ _, by
          refine Below.setCell (Below.setCell (Below.setCell (Below.setCell ?_ ?_ _) ?_ _) ?_ _) ?_ _
          · exact below_step HBW.out hb6
          all_goals exact Nat.le_of_eq E0_.out.symm⟩
  · have c5 : (c = 3) = False := eq_false c3
    go_cut [9] from 36 to 44 (fun v9 wx => ∃ gM, v9 = .pointer (some ⟨gM, 0, none⟩) ∧ Hid (wx.heap[gM]? = some (.cells #[.int .i64 (numAt ls 0), .int .i64 (numAt ls 1), .int .i64 (numAt ls 2), (.slice (some { block := ad.block, off := ad.off + 3 }) l3.length (c - 3))] 37 (0, 0))) ∧ Hid (Below W3.heap.size W3 wx) ∧ Hid (W3.heap.size ≤ gM))
    case first =>
      rename_i J_ K_ hJ_ hK_
      clear HP HO HT HG HZ HB3 HLO HSZ HL3 E0_ EL_ hl2
      go_region_held3 (fun W => W.cell? ⟨gL, 0, none⟩ = some (.slice (some ad) ls.length c)) (first | exact yL5 | exact yL | go_keep)
        (first | (go_at_call 30; refine (num_calls gL (some ad) 0 c ls _ ?h0 ?h1 ?hs _ ?hG ?hb ?hr).mono ?_; (case h0 => omega); (case h1 => have := HL.out; omega); (case hs => exact HR3.out _ (by omega) (by have := HL.out; omega)); (case hG => exact Gd_below HGX.out (by repeat (first | exact HB.out | apply below_alloc | apply pw_below_drewN | apply below_drew1 | apply below_drew))); (case hb => exact (Below.cell (by repeat (first | exact HB.out | apply below_alloc | apply pw_below_drewN | apply below_drew1 | apply below_drew)) (p := ⟨gL, 0, none⟩) (blk_lt HKL.out)).trans HYL.out); (case hr => exact (Kd.R_reads' (Kd.R_below HRX.out (by repeat (first | exact HB.out | apply below_alloc | apply pw_below_drewN | apply below_drew1 | apply below_drew)))).2.2); rintro e w5 ⟨rfl, hb5⟩; have HB5 := Lib.hid (below_step (by repeat (first | exact HB.out | apply below_alloc | apply pw_below_drewN | apply below_drew1 | apply below_drew)) hb5); (first | (have bx := blk_below BX.out hb5; have b0 : w5.cell? ⟨_, 0, none⟩ = some (.int .i64 0) := (blk_cell bx 0).trans rfl; have bf0 := blk_frozen bx 0; have b1 : w5.cell? ⟨_, 1, none⟩ = some (.int .i64 0) := (blk_cell bx 1).trans rfl; have bf1 := blk_frozen bx 1; have b2 : w5.cell? ⟨_, 2, none⟩ = some (.int .i64 0) := (blk_cell bx 2).trans rfl; have bf2 := blk_frozen bx 2; have b3 : w5.cell? ⟨_, 3, none⟩ = some (.slice none 0 0) := (blk_cell bx 3).trans rfl; have bf3 := blk_frozen bx 3; have bl := blk_lt bx; clear BX; have BX := Lib.hid bx; clear bx; have bne := Nat.ne_of_lt (Nat.lt_of_lt_of_le (blk_lt HKL.out) BGE.out); have bne2 := bne.symm) | (have bx := blk_below (blk_new _ _) hb5; have BGE := Lib.hid (below_size (by repeat (first | exact HB.out | apply below_alloc | apply pw_below_drewN | apply below_drew1 | apply below_drew))); have b0 : w5.cell? ⟨_, 0, none⟩ = some (.int .i64 0) := (blk_cell bx 0).trans rfl; have bf0 := blk_frozen bx 0; have b1 : w5.cell? ⟨_, 1, none⟩ = some (.int .i64 0) := (blk_cell bx 1).trans rfl; have bf1 := blk_frozen bx 1; have b2 : w5.cell? ⟨_, 2, none⟩ = some (.int .i64 0) := (blk_cell bx 2).trans rfl; have bf2 := blk_frozen bx 2; have b3 : w5.cell? ⟨_, 3, none⟩ = some (.slice none 0 0) := (blk_cell bx 3).trans rfl; have bf3 := blk_frozen bx 3; have bl := blk_lt bx; have BX := Lib.hid bx; clear bx; have bne := Nat.ne_of_lt (Nat.lt_of_lt_of_le (blk_lt HKL.out) BGE.out); have bne2 := bne.symm) | (have bx := blk_below (blk_drew (blk_new _ _)) hb5; have BGE := Lib.hid (below_size (by repeat (first | exact HB.out | apply below_alloc | apply pw_below_drewN | apply below_drew1 | apply below_drew))); have b0 : w5.cell? ⟨_, 0, none⟩ = some (.int .i64 0) := (blk_cell bx 0).trans rfl; have bf0 := blk_frozen bx 0; have b1 : w5.cell? ⟨_, 1, none⟩ = some (.int .i64 0) := (blk_cell bx 1).trans rfl; have bf1 := blk_frozen bx 1; have b2 : w5.cell? ⟨_, 2, none⟩ = some (.int .i64 0) := (blk_cell bx 2).trans rfl; have bf2 := blk_frozen bx 2; have b3 : w5.cell? ⟨_, 3, none⟩ = some (.slice none 0 0) := (blk_cell bx 3).trans rfl; have bf3 := blk_frozen bx 3; have bl := blk_lt bx; have BX := Lib.hid bx; clear bx; have bne := Nat.ne_of_lt (Nat.lt_of_lt_of_le (blk_lt HKL.out) BGE.out); have bne2 := bne.symm) | skip); clear HB; have HB := HB5; clear HB5 hb5; have yL5 := (Below.cell HB.out (p := ⟨gL, 0, none⟩) (blk_lt HKL.out)).trans HYL.out; have lL5 : gL < w5.heap.size := World.block_lt_of_cell? _ _ yL5))
      all_goals (refine hK_ _ _ (Met.intro (hJ_ _ _ ?_)); (repeat apply Exists.intro); refine ⟨?_, rfl⟩)
      all_goals (rw [HLEN.out]; first | exact ⟨_, rfl, Lib.hid (box4 BX.out HB.out BGE.out).1, Lib.hid (box4 BX.out HB.out BGE.out).2, BGE⟩ | exact ⟨_, rfl, Lib.hid (blk_new _ _), Lib.hid (below_alloc HB.out _), Lib.hid (below_size HB.out)⟩)
    case rest =>
      obtain ⟨gM, rfl, HM, HBM, HGE⟩ := hcut
      have hZW : wc.heap[g0]? = _ := (HBM.out.block g0 (blk_lt HZ.out)).trans HZ.out
      have HZW := Lib.hid hZW
      have hBW : Below w.heap.size w wc := below_step HB3.out HBM.out
      have HBW := Lib.hid hBW
      have hQ0 := Kd.Q_drop (k := 3) (Kd.Q_of_R (Kd.R_below HRX.out HBM.out)) HL.out
      rw [if_neg c3, ← HLEN.out, ← HL3.out] at hQ0
      have hQ : Kd.Q Kd.string 9 wc w1.heap.size (fun _ => True) (.slice (some { block := ad.block, off := ad.off + 3 }) l3.length (c - 3)) l3 := hQ0
      have HQ := Lib.hid hQ
      have hQC := Kd.Q_reads' hQ
      have HQC := Lib.hid (show l3.length ≤ c - 3 ∧ Kd.C Kd.string wc (some { block := ad.block, off := ad.off + 3 }) l3.length l3 from hQC.2)
      have hgm : g0 ≠ gM := by have := blk_lt HZ.out; have := HGE.out; omega
      have hgm2 := hgm.symm
      have hp := HP.out
      unfold parseB at hp
      rw [if_pos HSZ.out, ← HL3.out] at hp
      obtain ⟨⟨t1, t2⟩, hPr, hp⟩ := Option.bind_eq_some_iff.mp hp
      have HPR := Lib.hid hPr
      clear hZW hBW hQ0 hQ hQC hPr HP
      have m0 : wc.cell? ⟨gM, 0, none⟩ = some (.int .i64 (numAt ls 0)) := (blk_cell HM.out 0).trans rfl
      have m1 : wc.cell? ⟨gM, 1, none⟩ = some (.int .i64 (numAt ls 1)) := (blk_cell HM.out 1).trans rfl
      have m2 : wc.cell? ⟨gM, 2, none⟩ = some (.int .i64 (numAt ls 2)) := (blk_cell HM.out 2).trans rfl
      have m3 : wc.cell? ⟨gM, 3, none⟩ = some (.slice (some { block := ad.block, off := ad.off + 3 }) l3.length (c - 3)) := (blk_cell HM.out 3).trans rfl
      replace hp : (if t2 = 0 ∧ t1.toList = a0.toList then some (numAt ls 0, numAt ls 1, numAt ls 2, l3, 0) else some (0, 0, 0, [], 3)) = some (r1, r2, r3, r4, r5) := hp
      by_cases c7 : t2 = 0
      · subst c7
        by_cases c8 : t1.toList = a0.toList
        · rw [if_pos ⟨rfl, c8⟩] at hp
          simp only [Option.some.injEq, Prod.mk.injEq] at hp
          obtain ⟨rfl, rfl, rfl, rfl, rfl⟩ := hp
          have c9 : (t1.toList == a0.toList) = true := beq_iff_eq.mpr c8
          have c10 : (t1.toList != a0.toList) = false := bne_eq_false_iff_eq.mpr c8
          clear c8
          go_wp2_with (first | (go_at_call 14; refine (line_Print.calls k (numAt ls 0) (numAt ls 1) (numAt ls 2) _ _ l3 _ _ _ ?hr ?hc ?hG HPR.out).mono ?_; (case hr => exact HQC.out.2); (case hc => exact HQC.out.1); (case hG => exact Gd_below HGX.out HBM.out); rintro e w6 ⟨rfl, hb6⟩; have bz := blk_below HZW.out hb6; have bm := blk_below HM.out hb6; have z0 : w6.cell? ⟨g0, 0, none⟩ = some (.int .i64 0) := (blk_cell bz 0).trans rfl; have z1 : w6.cell? ⟨g0, 1, none⟩ = some (.int .i64 0) := (blk_cell bz 1).trans rfl; have z2 : w6.cell? ⟨g0, 2, none⟩ = some (.int .i64 0) := (blk_cell bz 2).trans rfl; have z3 : w6.cell? ⟨g0, 3, none⟩ = some (.slice none 0 0) := (blk_cell bz 3).trans rfl; have f0 := blk_frozen bz 0; have f1 := blk_frozen bz 1; have f2 := blk_frozen bz 2; have f3 := blk_frozen bz 3; have m0 : w6.cell? ⟨gM, 0, none⟩ = some (.int .i64 (numAt ls 0)) := (blk_cell bm 0).trans rfl; have m1 : w6.cell? ⟨gM, 1, none⟩ = some (.int .i64 (numAt ls 1)) := (blk_cell bm 1).trans rfl; have m2 : w6.cell? ⟨gM, 2, none⟩ = some (.int .i64 (numAt ls 2)) := (blk_cell bm 2).trans rfl; have m3 : w6.cell? ⟨gM, 3, none⟩ = some (.slice (some { block := ad.block, off := ad.off + 3 }) l3.length (c - 3)) := (blk_cell bm 3).trans rfl))
          refine bodyPost_ret (results_ct rfl _ _ g0 37 #[.int .i64 (numAt ls 0), .int .i64 (numAt ls 1), .int .i64 (numAt ls 2), .slice (some { block := ad.block, off := ad.off + 3 }) l3.length (c - 3)] (0, 0) _ rfl ?hblk Tryd.underlying37 rfl rfl) rfl ?_
          case hblk => exact blk_set (blk_set (blk_set (blk_set bz 0 (.int .i64 (numAt ls 0))) 1 (.int .i64 (numAt ls 1))) 2 (.int .i64 (numAt ls 2))) 3 (.slice (some { block := ad.block, off := ad.off + 3 }) l3.length (c - 3))
          exact ⟨_, rfl, Kd.Q_mono (Kd.Q_lower (Kd.Q_far (p := ⟨g0, 3, none⟩) (Kd.Q_far (p := ⟨g0, 2, none⟩) (Kd.Q_far (p := ⟨g0, 1, none⟩) (Kd.Q_far (p := ⟨g0, 0, none⟩) (Kd.Q_bound (Kd.Q_below HQ.out hb6)) (fun q hq => (by have := hq.2.1; have := HLO.out; have := E0_.out; show q ≠ g0; omega)) _) (fun q hq => (by have := hq.2.1; have := HLO.out; have := E0_.out; show q ≠ g0; omega)) _) (fun q hq => (by have := hq.2.1; have := HLO.out; have := E0_.out; show q ≠ g0; omega)) _) (fun q hq => (by have := hq.2.1; have := HLO.out; have := E0_.out; show q ≠ g0; omega)) _) (Nat.le_of_lt HLO.out)) (fun _ _ => trivial), by
            refine Below.setCell (Below.setCell (Below.setCell (Below.setCell ?_ ?_ _) ?_ _) ?_ _) ?_ _
            · exact below_step HBW.out hb6
            all_goals exact Nat.le_of_eq E0_.out.symm⟩
        · rw [if_neg (fun h => c8 h.2)] at hp
          simp only [Option.some.injEq, Prod.mk.injEq] at hp
          obtain ⟨rfl, rfl, rfl, rfl, rfl⟩ := hp
          have c9 : (t1.toList == a0.toList) = false := beq_eq_false_iff_ne.mpr c8
          have c10 : (t1.toList != a0.toList) = true := bne_iff_ne.mpr c8
          clear c8
          go_wp2_with (first | (go_at_call 14; refine (line_Print.calls k (numAt ls 0) (numAt ls 1) (numAt ls 2) _ _ l3 _ _ _ ?hr ?hc ?hG HPR.out).mono ?_; (case hr => exact HQC.out.2); (case hc => exact HQC.out.1); (case hG => exact Gd_below HGX.out HBM.out); rintro e w6 ⟨rfl, hb6⟩; have bz := blk_below HZW.out hb6; have bm := blk_below HM.out hb6; have z0 : w6.cell? ⟨g0, 0, none⟩ = some (.int .i64 0) := (blk_cell bz 0).trans rfl; have z1 : w6.cell? ⟨g0, 1, none⟩ = some (.int .i64 0) := (blk_cell bz 1).trans rfl; have z2 : w6.cell? ⟨g0, 2, none⟩ = some (.int .i64 0) := (blk_cell bz 2).trans rfl; have z3 : w6.cell? ⟨g0, 3, none⟩ = some (.slice none 0 0) := (blk_cell bz 3).trans rfl; have f0 := blk_frozen bz 0; have f1 := blk_frozen bz 1; have f2 := blk_frozen bz 2; have f3 := blk_frozen bz 3; have m0 : w6.cell? ⟨gM, 0, none⟩ = some (.int .i64 (numAt ls 0)) := (blk_cell bm 0).trans rfl; have m1 : w6.cell? ⟨gM, 1, none⟩ = some (.int .i64 (numAt ls 1)) := (blk_cell bm 1).trans rfl; have m2 : w6.cell? ⟨gM, 2, none⟩ = some (.int .i64 (numAt ls 2)) := (blk_cell bm 2).trans rfl; have m3 : w6.cell? ⟨gM, 3, none⟩ = some (.slice (some { block := ad.block, off := ad.off + 3 }) l3.length (c - 3)) := (blk_cell bm 3).trans rfl))
          refine bodyPost_ret (results_ct rfl _ _ g0 37 #[.int .i64 0, .int .i64 0, .int .i64 0, .slice none 0 0] (0, 0) _ rfl ?hblk Tryd.underlying37 rfl rfl) rfl ?_
          case hblk => exact blk_set (blk_set (blk_set (blk_set bz 0 (.int .i64 0)) 1 (.int .i64 0)) 2 (.int .i64 0)) 3 (.slice none 0 0)
          exact ⟨_, rfl, Kd.Q_nil _ _ _ _ _, by
            refine Below.setCell (Below.setCell (Below.setCell (Below.setCell ?_ ?_ _) ?_ _) ?_ _) ?_ _
            · exact below_step HBW.out hb6
            all_goals exact Nat.le_of_eq E0_.out.symm⟩
      · rw [if_neg (fun h => c7 h.1)] at hp
        simp only [Option.some.injEq, Prod.mk.injEq] at hp
        obtain ⟨rfl, rfl, rfl, rfl, rfl⟩ := hp
        have c9 : (t2 == 0) = false := beq_eq_false_iff_ne.mpr c7
        have c10 : (t2 != 0) = true := bne_iff_ne.mpr c7
        have c11 : decide (t2 = 0) = false := decide_eq_false c7
        clear c7
        go_wp2_with (first | (go_at_call 14; refine (line_Print.calls k (numAt ls 0) (numAt ls 1) (numAt ls 2) _ _ l3 _ _ _ ?hr ?hc ?hG HPR.out).mono ?_; (case hr => exact HQC.out.2); (case hc => exact HQC.out.1); (case hG => exact Gd_below HGX.out HBM.out); rintro e w6 ⟨rfl, hb6⟩; have bz := blk_below HZW.out hb6; have bm := blk_below HM.out hb6; have z0 : w6.cell? ⟨g0, 0, none⟩ = some (.int .i64 0) := (blk_cell bz 0).trans rfl; have z1 : w6.cell? ⟨g0, 1, none⟩ = some (.int .i64 0) := (blk_cell bz 1).trans rfl; have z2 : w6.cell? ⟨g0, 2, none⟩ = some (.int .i64 0) := (blk_cell bz 2).trans rfl; have z3 : w6.cell? ⟨g0, 3, none⟩ = some (.slice none 0 0) := (blk_cell bz 3).trans rfl; have f0 := blk_frozen bz 0; have f1 := blk_frozen bz 1; have f2 := blk_frozen bz 2; have f3 := blk_frozen bz 3; have m0 : w6.cell? ⟨gM, 0, none⟩ = some (.int .i64 (numAt ls 0)) := (blk_cell bm 0).trans rfl; have m1 : w6.cell? ⟨gM, 1, none⟩ = some (.int .i64 (numAt ls 1)) := (blk_cell bm 1).trans rfl; have m2 : w6.cell? ⟨gM, 2, none⟩ = some (.int .i64 (numAt ls 2)) := (blk_cell bm 2).trans rfl; have m3 : w6.cell? ⟨gM, 3, none⟩ = some (.slice (some { block := ad.block, off := ad.off + 3 }) l3.length (c - 3)) := (blk_cell bm 3).trans rfl))
        refine bodyPost_ret (results_ct rfl _ _ g0 37 #[.int .i64 0, .int .i64 0, .int .i64 0, .slice none 0 0] (0, 0) _ rfl ?hblk Tryd.underlying37 rfl rfl) rfl ?_
        case hblk => exact blk_set (blk_set (blk_set (blk_set bz 0 (.int .i64 0)) 1 (.int .i64 0)) 2 (.int .i64 0)) 3 (.slice none 0 0)
        exact ⟨_, rfl, Kd.Q_nil _ _ _ _ _, by
          refine Below.setCell (Below.setCell (Below.setCell (Below.setCell ?_ ?_ _) ?_ _) ?_ _) ?_ _
          · exact below_step HBW.out hb6
          all_goals exact Nat.le_of_eq E0_.out.symm⟩
end Go.Proofs.YtgbfbfemmhfcaaaDoor.P
