/- line.Parse: its closure is walked by hand. -/
import Derived.Test.YtgbfbfemmhfcaaaDoorPx3
import Derived.Test.YtgbfbfemmhfcaaaDoorPx7
import Derived.Test.YtgbfbfemmhfcaaaDoorPx8
import Derived.Test.YtgbfbfemmhfcaaaDoorGiven
import Derived.Deep.QuietTactic
import Derived.Deep.RegionWith
import Derived.Deep.RegionHeld3
namespace Go.Proofs.YtgbfbfemmhfcaaaDoor.P
open Go.Joins Go.RowKit Go.Shelf Go.Proofs.YtgbfbfemmhfcaaaDoorW.PrintWords
def numV (s : ByteArray) : Int := match Lib.atoiAll s.data.toList with
  | .ok v => v
  | .range => Lib.atoiSat s.data.toList
  | _ => 0
theorem atoi_calls (s : ByteArray) (hs : s.size ≤ 281474976710656) (w : World) (hG : Gd w) : Calls Tryd.prog 31 #[.string s] w fun e w' => (∃ ev, e = .returned (.tuple #[.int .i64 (numV s), ev])) ∧ Below w.heap.size w w' := by
  obtain ⟨_, ⟨te, pe, h2⟩, ⟨tf, pf, h3⟩⟩ := hG
  unfold numV
  cases h : Lib.atoiAll s.data.toList
  · rename_i v
    refine (Any.strconv_Atoi_ok Tryd.laysC172 s (by omega) v h w).mono ?_
    rintro e w' ⟨rfl, hw⟩
    refine ⟨⟨_, rfl⟩, ?_⟩
    rcases hw with rfl | ⟨t, rfl⟩
    · exact Below.refl _ _
    · exact Lib.bytesWorld_below _ _ _
  · refine (Any.strconv_Atoi_syntax Tryd.laysC172 s hs h _ w h2 (.inr ⟨_, _, rfl⟩)).mono ?_
    rintro e w' ⟨N, rfl, _, _, hb⟩
    exact ⟨⟨_, rfl⟩, hb⟩
  · refine (Any.strconv_Atoi_range Tryd.laysC172 s hs h _ w h3 (.inr ⟨_, _, rfl⟩)).mono ?_
    rintro e w' ⟨N, rfl, _, _, hb⟩
    exact ⟨⟨_, rfl⟩, hb⟩
/-- the n-th text's number -/
def numAt (l : List ByteArray) (i : Int) : Int := numV (rdOf ByteArray.empty l i)
set_option maxRecDepth 100000 in
theorem num_calls (g : Nat) (A : Option Addr) (_n c : Nat) (l : List ByteArray) (i : Int) (h0 : 0 ≤ i) (h1 : i < (l.length : Int)) (hs : (rdOf ByteArray.empty l i).size ≤ 281474976710656) (w : World) (hG : Gd w) (hb : w.cell? ⟨g, 0, none⟩ = some (.slice A l.length c)) (hr : Kd.C Kd.string w A l.length l) : Calls Tryd.prog 30 #[.int .i64 i, .pointer (some ⟨g, 0, none⟩)] w fun e w' => e = .returned (.int .i64 (numAt l i)) ∧ Below w.heap.size w w' := by
  obtain ⟨ad, e1, hx⟩ := Kd.at_string hr i h0 h1
  cases e1
  replace h0 := eq_true h0
  replace h1 := eq_true h1
  rw [show ad.add (i : Int).toNat = ad.add i.toNat from rfl] at hx
  have HG := Lib.hid hG
  clear hG
  go_enter Tryd.func30, Tryd.ntmps30
  go_wp2_with (go_at_call 31; refine (atoi_calls _ hs _ HG.out).mono ?_; rintro e w1 ⟨⟨ev, rfl⟩, hb2⟩)
  go_ret
  exact ⟨rfl, hb2⟩
def parseB (k : Nat) (a0 : ByteArray) (l : List ByteArray) : Option (Int × Int × Int × List ByteArray × Int) :=
  if (∀ x, x ∈ l → x.size ≤ 281474976710656) then
    (line_Print.f k (numAt l 0) (numAt l 1) (numAt l 2) (l.drop 3)).bind fun t => if t.2 = 0 ∧ t.1.toList = a0.toList then some (numAt l 0, numAt l 1, numAt l 2, l.drop 3, 0) else some (0, 0, 0, [], 3)
  else none
def line_Parse.f (k : Nat) (a0 : ByteArray) : Option (Int × Int × Int × List ByteArray × Int) :=
  (crc_Open.f k a0).bind fun p => if p.2 = 0 then (line_Take.f k p.1).bind fun q => if q.2.2 = 0 ∧ 3 ≤ q.1.length then parseB k a0 q.1 else some (0, 0, 0, [], 3) else some (0, 0, 0, [], p.2)
theorem line_Parse.mono : ∀ a0 k, LeO (line_Parse.f k a0) (line_Parse.f (k + 1) a0) := by
  intro a0 k
  unfold line_Parse.f parseB
  refine LeO.bind (crc_Open.mono _ _) (fun _ => LeO.ite (LeO.bind (line_Take.mono _ _) (fun _ => LeO.ite (LeO.ite (LeO.bind (line_Print.mono _ _ _ _ _) (fun _ => LeO.refl _)) (LeO.refl _)) (LeO.refl _))) (LeO.refl _))
abbrev ParsePost (w : World) (r1 r2 r3 : Int) (r4 : List ByteArray) (r5 : Int) (e : Ending) (w' : World) : Prop := ∃ v : Value, e = .returned (.tuple #[.agg #[.int .i64 r1, .int .i64 r2, .int .i64 r3, v], .int .i64 r5]) ∧ Kd.Q Kd.string 9 w' w.heap.size (fun _ => True) v r4 ∧ Below w.heap.size w w'
set_option maxRecDepth 100000 in
theorem parse_bad (k : Nat) (a0 b : ByteArray) (e0 : Int) (w : World) (ho : crc_Open.f k a0 = some (b, e0)) (he : e0 ≠ 0) : Calls Tryd.prog 16 #[.string a0] w (ParsePost w 0 0 0 [] e0) := by
  have HO := Lib.hid ho
  have c1 : (e0 == 0) = false := beq_eq_false_iff_ne.mpr he
  have c2 : (e0 != 0) = true := bne_iff_ne.mpr he
  have c3 : decide (e0 = 0) = false := decide_eq_false he
  clear ho he
  go_enter Tryd.func16, Tryd.ntmps16
  go_wp2_with (first | ((with_reducible refine gate_dst (N := 2) rfl ?_); refine box_event ?hg (N := 2) ?hd (cs := #[.int .i64 0, .int .i64 0, .int .i64 0, .slice none 0 0]) (t := 37) ?hr ?_; (case hd => rfl); (case hg => rfl); (case hr => first | (go_simp; done) | (go_simp; rfl)); intro g0 e0x_ w0 k0 hb0; have E0_ := Lib.hid e0x_; clear e0x_; have z0 : w0.cell? ⟨g0, 0, none⟩ = some (.int .i64 0) := (blk_cell k0 0).trans rfl; have z1 : w0.cell? ⟨g0, 1, none⟩ = some (.int .i64 0) := (blk_cell k0 1).trans rfl; have z2 : w0.cell? ⟨g0, 2, none⟩ = some (.int .i64 0) := (blk_cell k0 2).trans rfl; have z3 : w0.cell? ⟨g0, 3, none⟩ = some (.slice none 0 0) := (blk_cell k0 3).trans rfl; have f0 := blk_frozen k0 0; have f1 := blk_frozen k0 1; have f2 := blk_frozen k0 2; have f3 := blk_frozen k0 3) | (go_at_call 29; refine (crc_Open.calls k _ b e0 _ HO.out).mono ?_; rintro e w1 ⟨rfl, hb1⟩; have k1 := blk_below k0 hb1; have z0 : w1.cell? ⟨g0, 0, none⟩ = some (.int .i64 0) := (blk_cell k1 0).trans rfl; have z1 : w1.cell? ⟨g0, 1, none⟩ = some (.int .i64 0) := (blk_cell k1 1).trans rfl; have z2 : w1.cell? ⟨g0, 2, none⟩ = some (.int .i64 0) := (blk_cell k1 2).trans rfl; have z3 : w1.cell? ⟨g0, 3, none⟩ = some (.slice none 0 0) := (blk_cell k1 3).trans rfl; have f0 := blk_frozen k1 0; have f1 := blk_frozen k1 1; have f2 := blk_frozen k1 2; have f3 := blk_frozen k1 3))
  have k2 := blk_set (blk_set (blk_set (blk_set k1 0 (.int .i64 0)) 1 (.int .i64 0)) 2 (.int .i64 0)) 3 (.slice none 0 0)
  refine bodyPost_ret (results_ct rfl _ _ g0 37 #[.int .i64 0, .int .i64 0, .int .i64 0, .slice none 0 0] (0, 0) _ rfl ?hblk Tryd.underlying37 rfl rfl) rfl ?_
  case hblk => exact k2
  exact ⟨_, rfl, Kd.Q_nil _ _ _ _ _, by
    refine Below.setCell (Below.setCell (Below.setCell (Below.setCell ?_ ?_ _) ?_ _) ?_ _) ?_ _
    · exact below_step hb0 hb1
    all_goals exact Nat.le_of_eq E0_.out.symm⟩
set_option maxRecDepth 100000 in
theorem parse_bad2 (k : Nat) (a0 b : ByteArray) (e0 : Int) (ls : List ByteArray) (rest : ByteArray) (w : World) (ho : crc_Open.f k a0 = some (b, 0)) (ht : line_Take.f k b = some (ls, rest, e0)) (hl : ¬ (e0 = 0 ∧ 3 ≤ ls.length)) : Calls Tryd.prog 16 #[.string a0] w (ParsePost w 0 0 0 [] 3) := by
  have HO := Lib.hid ho
  have HT := Lib.hid ht
  clear ho ht
  by_cases he : e0 = 0
  · subst he
    have hl2 : ((ls.length : Int) < 3) = True := eq_true (by omega)
    clear hl
    go_enter Tryd.func16, Tryd.ntmps16
    go_wp2_with (first | ((with_reducible refine gate_dst (N := 2) rfl ?_); refine box_event ?hg (N := 2) ?hd (cs := #[.int .i64 0, .int .i64 0, .int .i64 0, .slice none 0 0]) (t := 37) ?hr ?_; (case hd => rfl); (case hg => rfl); (case hr => first | (go_simp; done) | (go_simp; rfl)); intro g0 e0x_ w0 k0 hb0; have E0_ := Lib.hid e0x_; clear e0x_; have z0 : w0.cell? ⟨g0, 0, none⟩ = some (.int .i64 0) := (blk_cell k0 0).trans rfl; have z1 : w0.cell? ⟨g0, 1, none⟩ = some (.int .i64 0) := (blk_cell k0 1).trans rfl; have z2 : w0.cell? ⟨g0, 2, none⟩ = some (.int .i64 0) := (blk_cell k0 2).trans rfl; have z3 : w0.cell? ⟨g0, 3, none⟩ = some (.slice none 0 0) := (blk_cell k0 3).trans rfl; have f0 := blk_frozen k0 0; have f1 := blk_frozen k0 1; have f2 := blk_frozen k0 2; have f3 := blk_frozen k0 3) | (go_at_call 29; refine (crc_Open.calls k _ b 0 _ HO.out).mono ?_; rintro e w1 ⟨rfl, hb1⟩; have k1 := blk_below k0 hb1; have z0 : w1.cell? ⟨g0, 0, none⟩ = some (.int .i64 0) := (blk_cell k1 0).trans rfl; have z1 : w1.cell? ⟨g0, 1, none⟩ = some (.int .i64 0) := (blk_cell k1 1).trans rfl; have z2 : w1.cell? ⟨g0, 2, none⟩ = some (.int .i64 0) := (blk_cell k1 2).trans rfl; have z3 : w1.cell? ⟨g0, 3, none⟩ = some (.slice none 0 0) := (blk_cell k1 3).trans rfl; have f0 := blk_frozen k1 0; have f1 := blk_frozen k1 1; have f2 := blk_frozen k1 2; have f3 := blk_frozen k1 3) | (go_at_call 11; refine (line_Take.calls k _ ls rest 0 _ HT.out).mono ?_; rintro e w2 ⟨v, rfl, hv, hb2⟩; obtain ⟨A, c, rfl⟩ := Kd.R_slice hv; have k2 := blk_below k1 hb2; have z0 : w2.cell? ⟨g0, 0, none⟩ = some (.int .i64 0) := (blk_cell k2 0).trans rfl; have z1 : w2.cell? ⟨g0, 1, none⟩ = some (.int .i64 0) := (blk_cell k2 1).trans rfl; have z2 : w2.cell? ⟨g0, 2, none⟩ = some (.int .i64 0) := (blk_cell k2 2).trans rfl; have z3 : w2.cell? ⟨g0, 3, none⟩ = some (.slice none 0 0) := (blk_cell k2 3).trans rfl; have f0 := blk_frozen k2 0; have f1 := blk_frozen k2 1; have f2 := blk_frozen k2 2; have f3 := blk_frozen k2 3) | ((with_reducible refine gate_dst (N := 6) rfl ?_); refine box_event ?hg (N := 6) ?hd (cs := #[.slice none 0 0]) (t := 22) ?hr ?_; (case hd => rfl); (case hg => rfl); (case hr => first | (go_simp; done) | (go_simp; rfl)); intro gL eLx_ w3 kL hb3; have EL_ := Lib.hid eLx_; clear eLx_; have k3 := blk_below k2 hb3; have y0 : w3.cell? ⟨gL, 0, none⟩ = some (.slice none 0 0) := (blk_cell kL 0).trans rfl; have fy := blk_frozen kL 0; have hne : g0 ≠ gL := (fun e_ => absurd (blk_lt k2) (by rw [e_, EL_.out]; exact Nat.lt_irrefl _)); have hne2 := hne.symm; have z0 : w3.cell? ⟨g0, 0, none⟩ = some (.int .i64 0) := (blk_cell k3 0).trans rfl; have z1 : w3.cell? ⟨g0, 1, none⟩ = some (.int .i64 0) := (blk_cell k3 1).trans rfl; have z2 : w3.cell? ⟨g0, 2, none⟩ = some (.int .i64 0) := (blk_cell k3 2).trans rfl; have z3 : w3.cell? ⟨g0, 3, none⟩ = some (.slice none 0 0) := (blk_cell k3 3).trans rfl; have f0 := blk_frozen k3 0; have f1 := blk_frozen k3 1; have f2 := blk_frozen k3 2; have f3 := blk_frozen k3 3))
    have hlt := blk_lt k2
    have k4 := blk_set (blk_set (blk_set (blk_set (blk_far (p := ⟨gL, 0, none⟩) k3 hne (.slice A ls.length c)) 0 (.int .i64 0)) 1 (.int .i64 0)) 2 (.int .i64 0)) 3 (.slice none 0 0)
    refine bodyPost_ret (results_ct rfl _ _ g0 37 #[.int .i64 0, .int .i64 0, .int .i64 0, .slice none 0 0] (0, 0) _ rfl ?hblk Tryd.underlying37 rfl rfl) rfl ?_
    case hblk => exact k4
    exact ⟨_, rfl, Kd.Q_nil _ _ _ _ _, by
      refine Below.setCell (Below.setCell (Below.setCell (Below.setCell (Below.setCell ?_ ?h1 _) ?_ _) ?_ _) ?_ _) ?_ _
      · exact below_step (below_step (below_step hb0 hb1) hb2) hb3
      case h1 => have := E0_.out; have := EL_.out; show w.heap.size ≤ gL; omega
      all_goals exact Nat.le_of_eq E0_.out.symm⟩
  · have c1 : (e0 == 0) = false := beq_eq_false_iff_ne.mpr he
    have c2 : (e0 != 0) = true := bne_iff_ne.mpr he
    have c3 : decide (e0 = 0) = false := decide_eq_false he
    clear hl he
    go_enter Tryd.func16, Tryd.ntmps16
    go_wp2_with (first | ((with_reducible refine gate_dst (N := 2) rfl ?_); refine box_event ?hg (N := 2) ?hd (cs := #[.int .i64 0, .int .i64 0, .int .i64 0, .slice none 0 0]) (t := 37) ?hr ?_; (case hd => rfl); (case hg => rfl); (case hr => first | (go_simp; done) | (go_simp; rfl)); intro g0 e0x_ w0 k0 hb0; have E0_ := Lib.hid e0x_; clear e0x_; have z0 : w0.cell? ⟨g0, 0, none⟩ = some (.int .i64 0) := (blk_cell k0 0).trans rfl; have z1 : w0.cell? ⟨g0, 1, none⟩ = some (.int .i64 0) := (blk_cell k0 1).trans rfl; have z2 : w0.cell? ⟨g0, 2, none⟩ = some (.int .i64 0) := (blk_cell k0 2).trans rfl; have z3 : w0.cell? ⟨g0, 3, none⟩ = some (.slice none 0 0) := (blk_cell k0 3).trans rfl; have f0 := blk_frozen k0 0; have f1 := blk_frozen k0 1; have f2 := blk_frozen k0 2; have f3 := blk_frozen k0 3) | (go_at_call 29; refine (crc_Open.calls k _ b 0 _ HO.out).mono ?_; rintro e w1 ⟨rfl, hb1⟩; have k1 := blk_below k0 hb1; have z0 : w1.cell? ⟨g0, 0, none⟩ = some (.int .i64 0) := (blk_cell k1 0).trans rfl; have z1 : w1.cell? ⟨g0, 1, none⟩ = some (.int .i64 0) := (blk_cell k1 1).trans rfl; have z2 : w1.cell? ⟨g0, 2, none⟩ = some (.int .i64 0) := (blk_cell k1 2).trans rfl; have z3 : w1.cell? ⟨g0, 3, none⟩ = some (.slice none 0 0) := (blk_cell k1 3).trans rfl; have f0 := blk_frozen k1 0; have f1 := blk_frozen k1 1; have f2 := blk_frozen k1 2; have f3 := blk_frozen k1 3) | (go_at_call 11; refine (line_Take.calls k _ ls rest e0 _ HT.out).mono ?_; rintro e w2 ⟨v, rfl, hv, hb2⟩; obtain ⟨A, c, rfl⟩ := Kd.R_slice hv; have k2 := blk_below k1 hb2; have z0 : w2.cell? ⟨g0, 0, none⟩ = some (.int .i64 0) := (blk_cell k2 0).trans rfl; have z1 : w2.cell? ⟨g0, 1, none⟩ = some (.int .i64 0) := (blk_cell k2 1).trans rfl; have z2 : w2.cell? ⟨g0, 2, none⟩ = some (.int .i64 0) := (blk_cell k2 2).trans rfl; have z3 : w2.cell? ⟨g0, 3, none⟩ = some (.slice none 0 0) := (blk_cell k2 3).trans rfl; have f0 := blk_frozen k2 0; have f1 := blk_frozen k2 1; have f2 := blk_frozen k2 2; have f3 := blk_frozen k2 3) | ((with_reducible refine gate_dst (N := 6) rfl ?_); refine box_event ?hg (N := 6) ?hd (cs := #[.slice none 0 0]) (t := 22) ?hr ?_; (case hd => rfl); (case hg => rfl); (case hr => first | (go_simp; done) | (go_simp; rfl)); intro gL eLx_ w3 kL hb3; have EL_ := Lib.hid eLx_; clear eLx_; have k3 := blk_below k2 hb3; have y0 : w3.cell? ⟨gL, 0, none⟩ = some (.slice none 0 0) := (blk_cell kL 0).trans rfl; have fy := blk_frozen kL 0; have hne : g0 ≠ gL := (fun e_ => absurd (blk_lt k2) (by rw [e_, EL_.out]; exact Nat.lt_irrefl _)); have hne2 := hne.symm; have z0 : w3.cell? ⟨g0, 0, none⟩ = some (.int .i64 0) := (blk_cell k3 0).trans rfl; have z1 : w3.cell? ⟨g0, 1, none⟩ = some (.int .i64 0) := (blk_cell k3 1).trans rfl; have z2 : w3.cell? ⟨g0, 2, none⟩ = some (.int .i64 0) := (blk_cell k3 2).trans rfl; have z3 : w3.cell? ⟨g0, 3, none⟩ = some (.slice none 0 0) := (blk_cell k3 3).trans rfl; have f0 := blk_frozen k3 0; have f1 := blk_frozen k3 1; have f2 := blk_frozen k3 2; have f3 := blk_frozen k3 3))
    have hlt := blk_lt k2
    have k4 := blk_set (blk_set (blk_set (blk_set (blk_far (p := ⟨gL, 0, none⟩) k3 hne (.slice A ls.length c)) 0 (.int .i64 0)) 1 (.int .i64 0)) 2 (.int .i64 0)) 3 (.slice none 0 0)
    refine bodyPost_ret (results_ct rfl _ _ g0 37 #[.int .i64 0, .int .i64 0, .int .i64 0, .slice none 0 0] (0, 0) _ rfl ?hblk Tryd.underlying37 rfl rfl) rfl ?_
    case hblk => exact k4
    exact ⟨_, rfl, Kd.Q_nil _ _ _ _ _, by
      refine Below.setCell (Below.setCell (Below.setCell (Below.setCell (Below.setCell ?_ ?h1 _) ?_ _) ?_ _) ?_ _) ?_ _
      · exact below_step (below_step (below_step hb0 hb1) hb2) hb3
      case h1 => have := E0_.out; have := EL_.out; show w.heap.size ≤ gL; omega
      all_goals exact Nat.le_of_eq E0_.out.symm⟩
end Go.Proofs.YtgbfbfemmhfcaaaDoor.P
