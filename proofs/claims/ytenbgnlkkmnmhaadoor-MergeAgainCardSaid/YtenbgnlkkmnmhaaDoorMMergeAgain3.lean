/- Merged out of this session's texts by a program (wip/gen/merge.py): declarations that this claim doesn't name are left out. -/
import Derived.Test.YtenbgnlkkmnmhaaDoorMMergeAgain2
import Derived.Laws.Runes
import Derived.Scope
import Derived.Shelf.RegionOpenPlain
import Derived.WalkMore
import Derived.Shelf.Small.Utf8
import Derived.Laws.RangeString
import Derived.Lib.SplitLaws
set_option linter.unusedVariables false
set_option linter.unusedSimpArgs false
/-! N0 -/
section
namespace Go.Proofs.YtenbgnlkkmnmhaaDoor.Q
open Go.Shelf Go.RowKit Go.Lib
set_option linter.unusedSimpArgs false
set_option linter.unusedVariables false
variable {P : Program} {ρ : Ren}
theorem dec_high (s : ByteArray) (pos : Nat) (h : pos < s.size) (hb : 128 ≤ (s[pos]'h).toNat) : 128 ≤ (Utf8.decode s pos).1 ∧ Utf8.valid ((Utf8.decode s pos).1 : Int) = true ∧ 1 ≤ (Utf8.decode s pos).2 := by
  have e : s.get! (pos + 0) = s[pos]'h := by
    show s.get! pos = _
    simp [ByteArray.get!, getElem!_pos, h]
    rfl
  have hlt : (s[pos]'h).toNat < 256 := UInt8.toNat_lt _
  have hr : Utf8.runeError = 65533 := rfl
  unfold Utf8.decode
  simp only [e, if_neg (show ¬ (s[pos]'h).toNat < 128 by omega)]
  have hm : ∀ k, (s.get! (pos + k)).toNat % 64 < 64 := fun k => Nat.mod_lt _ (by decide)
  have h1 := hm 1; have h2 := hm 2; have h3 := hm 3
  split
  · split
    · refine ⟨by simp only; omega, by simp only [Utf8.valid, Bool.or_eq_true, Bool.and_eq_true, decide_eq_true_eq]; omega, by simp⟩
    · simp [hr, Utf8.valid]
  · split
    · split
      · rename_i hc
        simp only [Bool.and_eq_true, decide_eq_true_eq] at hc
        refine ⟨by simp only; omega, hc.2, by simp⟩
      · simp [hr, Utf8.valid]
    · split
      · split
        · rename_i hc
          simp only [Bool.and_eq_true, decide_eq_true_eq] at hc
          refine ⟨by simp only; omega, hc.2, by simp⟩
        · simp [hr, Utf8.valid]
      · simp [hr, Utf8.valid]
set_option maxHeartbeats 8000000 in
set_option maxRecDepth 1000000 in
/-- a rune that is not ASCII, sought in two ASCII bytes -/
theorem IndexRune_high (L : Lays.n152 P ρ) (s : ByteArray) (r : Int) (w : World) (hs : s.size = 2) (hascii : ∀ b ∈ s.data.toList, b.toNat < 128) (h1 : 128 ≤ r) (hne : r ≠ 65533) (hv : Utf8.valid r = true) :
    Calls P (ρ.f 152) #[.string s, .int .i32 r] w fun e w' => e = .returned (.int .i64 (-1)) ∧ Below w.heap.size w w' := by
  obtain ⟨e1, e2, e3⟩ := encode_facts r hv h1
  have hvr : Lib.validRune r = true := by
    unfold Utf8.valid at hv
    unfold Lib.validRune
    simp only [Bool.or_eq_true, Bool.and_eq_true, decide_eq_true_eq] at hv ⊢
    omega
  generalize hrs : Utf8.encode r = rs at e1 e2 e3
  have HA : Aside (∀ b ∈ s.data.toList, b.toNat < 128) := hascii
  clear hascii
  have mixed := L.mixed
  have t3 := L.t3; have a3 := L.a3; have z3 := L.z3; have v3 := L.v3
  have t4 := L.t4; have a4 := L.a4; have z4 := L.z4; have v4 := L.v4
  have t5 := L.t5; have a5 := L.a5; have z5 := L.z5; have v5 := L.v5
  have t9 := L.t9; have a9 := L.a9; have z9 := L.z9; have v9 := L.v9
  have t21 := L.t21; have a21 := L.a21; have z21 := L.z21; have v21 := L.v21
  have e137 : ∀ args w, (callFunc (ρ.f 137) args).run P w = .ok (.enter (ρ.f 137) args) w := enters_of L.f137 (by kernel_rfl) rfl
  have hr1 : ¬ r < 128 := by omega
  have hr2 : (r == 65533) = false := beq_eq_false_iff_ne.2 hne
  have e119 : ∀ args w, (callFunc (ρ.f 119) args).run P w = .ok (.enter (ρ.f 119) args) w := enters_of L.f119 (by kernel_rfl) rfl
  go_enter L.f152, Body.n152_ntmps ρ
  go_wp2_with (go_at_fn (ρ.f 119); refine (Any.utf8_ValidRune { L with } _ _).mono ?_; rintro e w' ⟨rfl, hw⟩; rw [hw, hvr])
  subst hw
  have hcv : ∀ W, (convert (ρ.t 21) (ρ.t 9) (.int .i32 r)).run P W = .ok (.string rs) W := fun W => by rw [run_convert_int_string W _ _ _ _ (by rw [t21]; rfl) t9, hrs]
  apply wp_scope_straight
  go_wp2
  go_loopg [9] 1 (fun g s9 wx => s9 = .int .i64 ((rs.size : Int) - 1) ∧ wx = w')
  case atStart => exact ⟨rfl, rfl⟩
  case round =>
    obtain ⟨rfl, rfl⟩ := hrel
    by_cases h2 : rs.size = 2
    · obtain ⟨y, hy⟩ : ∃ y : UInt8, rs[1]'(by omega) = y := ⟨_, rfl⟩
      obtain ⟨x, hx⟩ : ∃ x : UInt8, s[1]'(by omega) = x := ⟨_, rfl⟩
      have hy128 : 128 ≤ y.toNat := by
        have := e3 (by omega)
        simp only [h2] at this
        rw [hy] at this
        exact this
      have hx128 : x.toNat < 128 := HA.out x (by rw [← hx]; exact Array.getElem_mem_toList (xs := s.data) _)
      have hxy : ¬ ((x.toNat : Int) = (y.toNat : Int)) := by omega
      have hi1 : ((rs.size : Int) - 1) = 1 := by omega
      have hlt : (1 : Int) < (s.size : Int) := by omega
      have hnone : Lib.indexByte (s.extract 2 s.size).data.toList y = -1 := by
        have : (s.extract 2 s.size).data.toList = [] := by
          apply List.length_eq_zero_iff.1
          simp
          omega
        rw [this]
        rfl
      have hback : ((y.toNat : Int)).toNat.toUInt8 = y := by simp
      rw [hi1]
      clear e3 h1 hne hv hrs
      go_wp2
      go_step3
      go_wp2
      go_region_o
      go_wp2
      go_region_with_o (go_at_fn (ρ.f 137); refine (Any.strings_IndexByte { L with } _ _ _).mono ?_; rintro e w' ⟨rfl, hw⟩; rw [hw, hback])
      go_wp2
      all_goals first
        | (simp only [Exit.noGoto, Exit.inBlock, Exit.then]; go_ret; exact ⟨rfl, (Below.refl _ _).drew.drew⟩)
        | trace_state
    · have hlt : ¬ ((rs.size : Int) - 1 < (s.size : Int)) := by omega
      clear e3
      go_wp2
      go_ret
      exact ⟨rfl, Below.refl _ _⟩
set_option maxHeartbeats 8000000 in
set_option maxRecDepth 1000000 in
/-- the rune that stands for what is wrong, sought in ASCII bytes -/
theorem IndexRune_err (L : Lays.n152 P ρ) (s : ByteArray) (w : World) (hascii : ∀ (j : Nat) b, s.data.toList[j]? = some b → b.toNat < 128) :
    Calls P (ρ.f 152) #[.string s, .int .i32 65533] w fun e w' => e = .returned (.int .i64 (-1)) ∧ Below w.heap.size w w' := by
  have HA : Aside (∀ (j : Nat) b, s.data.toList[j]? = some b → b.toNat < 128) := hascii
  clear hascii
  have mixed := L.mixed
  have t3 := L.t3; have a3 := L.a3; have z3 := L.z3; have v3 := L.v3
  have t4 := L.t4; have a4 := L.a4; have z4 := L.z4; have v4 := L.v4
  have t5 := L.t5; have a5 := L.a5; have z5 := L.z5; have v5 := L.v5
  have t9 := L.t9; have a9 := L.a9; have z9 := L.z9; have v9 := L.v9
  have t21 := L.t21; have a21 := L.a21; have z21 := L.z21; have v21 := L.v21
  go_enter L.f152, Body.n152_ntmps ρ
  go_wp2
  go_loopg [5, 6] s.size (fun g _ _ wx => ∃ i : Nat, i + g = s.size ∧ wx = w.iter s i)
  case atStart => exact ⟨0, by omega, rfl⟩
  case round =>
    obtain ⟨i, hig, rfl⟩ := hrel
    cases gk with
    | zero =>
      obtain rfl : i = s.size := by omega
      have hnx := run_next_end (P := P) w s s.size
      go_wp2
      go_ret
      exact ⟨rfl, (Below.refl _ _).alloc (Nat.le_refl _) _⟩
    | succ g =>
      have hi : i < s.size := by omega
      obtain ⟨x, hx⟩ : ∃ x : UInt8, s[i]'hi = x := ⟨_, rfl⟩
      have hxl : s.data.toList[i]? = some x := by rw [← hx]; exact Lib.data_getElem? s i hi
      have hx128 : x.toNat < 128 := HA.out i x hxl
      have hnx := fun ty => run_next_ascii (P := P) w s i ty hi (by rw [hx]; exact hx128)
      rw [hx] at hnx
      have hne : ((x.toNat : Int) == 65533) = false := beq_eq_false_iff_ne.2 (by omega)
      clear hxl hx
      go_wp2
      go_roundg g
      case measure => omega
      case rel => exact ⟨i + 1, by omega, rfl⟩
/-- the bytes of a rune of more than one byte -/
theorem dec_width (s : ByteArray) (pos : Nat) (h : pos < s.size) (hb : 128 ≤ (s[pos]'h).toNat) : ∀ k, k < (Utf8.decode s pos).2 → pos + k < s.size ∧ 128 ≤ (s.get! (pos + k)).toNat := by
  have e : s.get! (pos + 0) = s[pos]'h := by
    show s.get! pos = _
    simp [ByteArray.get!, getElem!_pos, h]
    rfl
  have h0 : pos + 0 < s.size ∧ 128 ≤ (s.get! (pos + 0)).toNat := ⟨by omega, by rw [e]; exact hb⟩
  have one : ∀ k, k < 1 → pos + k < s.size ∧ 128 ≤ (s.get! (pos + k)).toNat := fun k hk => by
    obtain rfl : k = 0 := by omega
    exact h0
  have hc : ∀ k, (decide (pos + k < s.size) && (s.get! (pos + k)).toNat / 64 == 2) = true → pos + k < s.size ∧ 128 ≤ (s.get! (pos + k)).toNat := fun k hk => by
    simp only [Bool.and_eq_true, decide_eq_true_eq, beq_iff_eq] at hk
    exact ⟨hk.1, by omega⟩
  unfold Utf8.decode
  simp only [e, if_neg (show ¬ (s[pos]'h).toNat < 128 by omega)]
  intro k
  split
  · rename_i q
    rw [Bool.and_eq_true] at q
    split
    · intro hk
      match k, hk with
      | 0, _ => exact h0
      | 1, _ => exact hc 1 q.2
      | k + 2, hk => exact absurd hk (by simp)
    · exact one k
  · split
    · rename_i q
      rw [Bool.and_eq_true, Bool.and_eq_true] at q
      split
      · intro hk
        match k, hk with
        | 0, _ => exact h0
        | 1, _ => exact hc 1 q.1.2
        | 2, _ => exact hc 2 q.2
        | k + 3, hk => exact absurd hk (by simp)
      · exact one k
    · split
      · rename_i q
        rw [Bool.and_eq_true, Bool.and_eq_true, Bool.and_eq_true] at q
        split
        · intro hk
          match k, hk with
          | 0, _ => exact h0
          | 1, _ => exact hc 1 q.1.1.2
          | 2, _ => exact hc 2 q.1.2
          | 3, _ => exact hc 3 q.2
          | k + 4, hk => exact absurd hk (by simp)
        · exact one k
      · exact one k
def setIter (W : World) (g : Nat) (s : ByteArray) (pos : Nat) : World := { W with heap := W.heap.setIfInBounds g (.stringIter s pos) }
theorem run_next_at (W : World) (g : Nat) (s : ByteArray) (pos : Nat) (ty : TypeId) (hg : W.heap[g]? = some (.stringIter s pos)) (h : pos < s.size) :
    (Instr.next (.pointer (some ⟨g, 0, none⟩)) true ty).run P W = .ok (.tuple #[.bool true, .int .i64 pos, .int .i32 (Utf8.decode s pos).1]) (setIter W g s (pos + (Utf8.decode s pos).2)) := by
  have h1 : (getObj g).run P W = .ok (.stringIter s pos) W := by simp [getObj, Sem.run, hg]
  have h2 : ∀ o, (setObj g o).run P W = .ok () { W with heap := W.heap.setIfInBounds g o } := fun o => by simp [setObj, Sem.run, hg]
  simp only [Instr.next, Sem.run_bind, h1, Result.andThen, h, if_true, h2]
  rfl
theorem run_next_over (W : World) (g : Nat) (s : ByteArray) (pos : Nat) (ty : TypeId) (hg : W.heap[g]? = some (.stringIter s pos)) (h : ¬ pos < s.size) :
    (Instr.next (.pointer (some ⟨g, 0, none⟩)) true ty).run P W = .ok (.tuple #[.bool false]) W := by
  have h1 : (getObj g).run P W = .ok (.stringIter s pos) W := by simp [getObj, Sem.run, hg]
  simp only [Instr.next, Sem.run_bind, h1, Result.andThen, h, if_false]
  rfl
theorem IndexRune_two (L : Lays.n152 P ρ) (s : ByteArray) (r : Int) (w : World) (hs : s.size = 2) (hascii : ∀ (j : Nat) b, s.data.toList[j]? = some b → b.toNat < 128) (h0 : 0 ≤ r) (hv : Utf8.valid r = true) :
    Calls P (ρ.f 152) #[.string s, .int .i32 r] w fun e w' => e = .returned (.int .i64 (if r < 128 then Lib.indexByte s.data.toList r.toNat.toUInt8 else -1)) ∧ Below w.heap.size w w' := by
  by_cases h1 : r < 128
  · rw [if_pos h1]
    exact (Any.strings_IndexRune_ascii L s r w h0 h1).mono fun e w' ⟨he, hw⟩ => ⟨he, hw ▸ Below.refl _ _⟩
  · rw [if_neg h1]
    by_cases h2 : r = 65533
    · subst h2
      exact IndexRune_err L s w hascii
    · refine IndexRune_high L s r w hs (fun b hb => ?_) (by omega) h2 hv
      obtain ⟨j, hj, e⟩ := List.mem_iff_getElem.1 hb
      exact hascii j b (by rw [List.getElem?_eq_getElem hj, e])
theorem get_at (s : ByteArray) (k : Nat) (h : k < s.size) : s.get! k = s[k]'h := by
  simp [ByteArray.get!, getElem!_pos, h]
  rfl
theorem Below.iterSet {w W : World} {g : Nat} {s : ByteArray} {p : Nat} (h : Below w.heap.size w W) (hg : w.heap.size ≤ g) : Below w.heap.size w (setIter W g s p) :=
  ⟨h.os, h.tape, h.output, by simpa [setIter] using h.size, fun k hk => by
    have : (setIter W g s p).heap[k]? = W.heap[k]? := by
      simp only [setIter]
      rw [Array.getElem?_setIfInBounds_ne (by omega)]
    rw [this]
    exact h.block k hk⟩
theorem noAny_more {s : ByteArray} {chars : List UInt8} {i : Nat} (h : Lib.NoAny s.data.toList chars i) (hac : ∀ (j : Nat) b, chars[j]? = some b → b.toNat < 128) : ∀ n, (∀ k, k < n → i + k < s.size ∧ 128 ≤ (s.get! (i + k)).toNat) → Lib.NoAny s.data.toList chars (i + n)
  | 0, _ => h
  | n + 1, hk => by
    have ih := noAny_more h hac n fun k q => hk k (by omega)
    obtain ⟨h1, h2⟩ := hk n (by omega)
    have hx : s.data.toList[i + n]? = some (s[i + n]'h1) := Lib.data_getElem? s (i + n) h1
    have e : s.get! (i + n) = s[i + n]'h1 := get_at s _ h1
    rw [e] at h2
    refine ih.succ hx ?_
    cases hc : chars.contains (s[i + n]'h1) with
    | false => rfl
    | true =>
      rw [List.contains_iff_mem] at hc
      obtain ⟨j, hj, ej⟩ := List.mem_iff_getElem.1 hc
      have := hac j _ (by rw [List.getElem?_eq_getElem hj, ej])
      omega
set_option maxHeartbeats 8000000 in
set_option maxRecDepth 1000000 in
/-- s of at most 8 bytes, whatever they are; chars of two ASCII bytes -/
theorem IndexAny_short2 (L : Lays.n153 P ρ) (s chars : ByteArray) (w : World) (h2 : chars.size = 2) (h8 : s.size ≤ 8) (hac : ∀ (j : Nat) b, chars.data.toList[j]? = some b → b.toNat < 128) :
    Calls P (ρ.f 153) #[.string s, .string chars] w fun e w' => e = .returned (.int .i64 (Lib.indexAny s.data.toList chars.data.toList)) ∧ Below w.heap.size w w' := by
  have HA : Aside (∀ (j : Nat) b, chars.data.toList[j]? = some b → b.toNat < 128) := hac
  clear hac
  have hemp : chars.toList.isEmpty = false := by
    rw [Lib.toList_data]
    cases h : chars.data.toList with
    | nil => have := Lib.size_eq chars; rw [h, List.length_nil] at this; omega
    | cons _ _ => rfl
  have hn1 : ((chars.size : Int) == 1) = false := beq_eq_false_iff_ne.2 (by omega)
  have h8z : decide ((8 : Int) < (s.size : Int)) = false := decide_eq_false (by omega)
  have t3 := L.t3; have a3 := L.a3; have z3 := L.z3; have v3 := L.v3
  have t4 := L.t4; have a4 := L.a4; have z4 := L.z4; have v4 := L.v4
  have t5 := L.t5; have a5 := L.a5; have z5 := L.z5; have v5 := L.v5
  have t9 := L.t9; have a9 := L.a9; have z9 := L.z9; have v9 := L.v9
  have t21 := L.t21; have a21 := L.a21; have z21 := L.z21; have v21 := L.v21
  have e152 : ∀ args w, (callFunc (ρ.f 152) args).run P w = .ok (.enter (ρ.f 152) args) w := enters_of L.f152 (by kernel_rfl) rfl
  have e226 : ∀ args w, (callFunc (ρ.f 226) args).run P w = .ok (.enter (ρ.f 226) args) w := enters_of L.f226 (by kernel_rfl) rfl
  go_enter L.f153, Body.n153_ntmps ρ
  go_wp2_with (go_at_fn (ρ.f 226); refine (Any.strings_shouldUseASCIISet { L with } _ _).mono ?_; rintro e w' ⟨rfl, hw⟩; rw [hw, h8z])
  go_loopg [9, 10] s.size (fun g _ _ wx => ∃ i : Nat, i + g = s.size ∧ wx.heap[w.heap.size]? = some (.stringIter s i) ∧ Below w.heap.size w wx ∧ w.heap.size < wx.heap.size ∧ Lib.NoAny s.data.toList chars.data.toList i)
  case atStart => exact ⟨0, by omega, World.iter_heap w s 0, (Below.refl _ _).alloc (Nat.le_refl _) _, (by show w.heap.size < (w.heap.push _).size; rw [Array.size_push]; omega), Lib.NoAny.zero _ _⟩
  case round =>
    obtain ⟨i, hig, hit, hbel, hlt, hno⟩ := hrel
    have HN : Aside (Lib.NoAny s.data.toList chars.data.toList i ∧ Below w.heap.size w wr ∧ w.heap.size < wr.heap.size ∧ wr.heap[w.heap.size]? = some (.stringIter s i)) := ⟨hno, hbel, hlt, hit⟩
    clear hno hbel hlt
    cases gk with
    | zero =>
      obtain rfl : i = s.size := by omega
      have hnx := fun ty => run_next_over (P := P) wr w.heap.size s s.size ty hit (by omega)
      clear hit
      go_wp2
      go_ret
      exact ⟨by rw [Lib.indexAny_none (by rw [← Lib.size_eq]; exact HN.out.1)]; rfl, HN.out.2.1⟩
    | succ g =>
      have hi : i < s.size := by omega
      obtain ⟨x, hx⟩ : ∃ x : UInt8, s[i]'hi = x := ⟨_, rfl⟩
      have hxl : s.data.toList[i]? = some x := by rw [← hx]; exact Lib.data_getElem? s i hi
      obtain ⟨c, n, hd, hc0, hcv, hn1', hin, hw, hch⟩ : ∃ c n : Nat, Utf8.decode s i = (c, n) ∧ (0 : Int) ≤ c ∧ Utf8.valid (c : Int) = true ∧ 1 ≤ n ∧ i + n ≤ s.size ∧
          (chars.data.toList.contains x = false → Lib.NoAny s.data.toList chars.data.toList (i + n)) ∧
          (if (c : Int) < 128 then Lib.indexByte chars.data.toList (c : Int).toNat.toUInt8 else -1) = (if x.toNat < 128 then Lib.indexByte chars.data.toList x else -1) := by
        by_cases hx1 : x.toNat < 128
        · have hd := decode_ascii s i hi (by rw [hx]; exact hx1)
          rw [hx] at hd
          refine ⟨_, _, hd, by omega, ?_, Nat.le_refl _, by omega, fun hcn => HN.out.1.succ hxl hcn, ?_⟩
          · simp only [Utf8.valid, Bool.or_eq_true, Bool.and_eq_true, decide_eq_true_eq]
            omega
          · rw [if_pos hx1, if_pos (show ((x.toNat : Nat) : Int) < 128 by omega)]
            congr 1
            simp
        · obtain ⟨q1, q2, q3⟩ := dec_high s i hi (by rw [hx]; omega)
          have q4 := dec_width s i hi (by rw [hx]; omega)
          refine ⟨(Utf8.decode s i).1, (Utf8.decode s i).2, rfl, by omega, q2, q3, ?_, fun _ => noAny_more HN.out.1 HA.out _ q4, ?_⟩
          · have := (q4 ((Utf8.decode s i).2 - 1) (by omega)).1
            omega
          · rw [if_neg hx1, if_neg (show ¬ (((Utf8.decode s i).1 : Nat) : Int) < 128 by omega)]
      have hnx := fun ty => run_next_at (P := P) wr w.heap.size s i ty hit hi
      rw [hd] at hnx
      simp only at hnx
      have hb1 := Below.iterSet (s := s) (p := i + n) HN.out.2.1 (Nat.le_refl _)
      have hi1 : (setIter wr w.heap.size s (i + n)).heap[w.heap.size]? = some (.stringIter s (i + n)) := by
        simp only [setIter]
        rw [Array.getElem?_setIfInBounds_self_of_lt HN.out.2.2.1]
      have hs1 : w.heap.size < (setIter wr w.heap.size s (i + n)).heap.size := by
        simp only [setIter, Array.size_setIfInBounds]
        exact HN.out.2.2.1
      generalize setIter wr w.heap.size s (i + n) = W1 at hnx hb1 hi1 hs1
      have HB : Aside (Below w.heap.size w W1 ∧ W1.heap[w.heap.size]? = some (.stringIter s (i + n)) ∧ w.heap.size < W1.heap.size) := ⟨hb1, hi1, hs1⟩
      have HW : Aside (chars.data.toList.contains x = false → Lib.NoAny s.data.toList chars.data.toList (i + n)) := hw
      have HX : Aside (s.data.toList[i]? = some x) := hxl
      clear hit hb1 hi1 hs1 hw hxl hx hd
      have hcon := Lib.contains_iff_indexByte chars.data.toList x
      have HC : Aside (chars.data.toList.contains x = true → x.toNat < 128) := by
        intro hc
        rw [List.contains_iff_mem] at hc
        obtain ⟨j, hj, ej⟩ := List.mem_iff_getElem.1 hc
        exact HA.out j x (by rw [List.getElem?_eq_getElem hj, ej])
      cases hin2 : chars.data.toList.contains x
      · have hlt2 : ¬ ((0 : Int) ≤ (if x.toNat < 128 then Lib.indexByte chars.data.toList x else -1)) := by
          rw [hin2] at hcon
          have := of_decide_eq_false hcon.symm
          split <;> omega
        generalize (if x.toNat < 128 then Lib.indexByte chars.data.toList x else -1) = z at hch hlt2
        clear hcon
        go_wp2_with (go_at_fn (ρ.f 152); refine (IndexRune_two { L with } chars c _ h2 HA.out hc0 hcv).mono ?_; rintro e w' ⟨rfl, hw⟩; rw [hch])
        go_roundg (g + 1 - n)
        case measure => omega
        case rel => exact ⟨i + n, by omega, (hw.block _ HB.out.2.2).trans HB.out.2.1, Below.trans HB.out.1 ⟨hw.os, hw.tape, hw.output, hw.size, fun k hk => hw.block k (Nat.lt_of_lt_of_le hk HB.out.1.size)⟩, Nat.lt_of_lt_of_le HB.out.2.2 hw.size, HW.out hin2⟩
      · have hge : (0 : Int) ≤ (if x.toNat < 128 then Lib.indexByte chars.data.toList x else -1) := by
          rw [hin2] at hcon
          rw [if_pos (HC.out hin2)]
          exact of_decide_eq_true hcon.symm
        generalize (if x.toNat < 128 then Lib.indexByte chars.data.toList x else -1) = z at hch hge
        clear hcon
        go_wp2_with (go_at_fn (ρ.f 152); refine (IndexRune_two { L with } chars c _ h2 HA.out hc0 hcv).mono ?_; rintro e w' ⟨rfl, hw⟩; rw [hch])
        go_ret
        exact ⟨by rw [Lib.indexAny_hit HN.out.1 HX.out hin2]; rfl, Below.trans HB.out.1 ⟨hw.os, hw.tape, hw.output, hw.size, fun k hk => hw.block k (Nat.lt_of_lt_of_le hk HB.out.1.size)⟩⟩
theorem IndexAny_two (L : Lays.n153 P ρ) (h116 : (P.info? (ρ.t 116)).map (fun i => (i.zero, i.size)) = some (some (.agg (Array.replicate 256 (.bool false))), 256)) (s chars : ByteArray) (w : World) (h2 : chars.size = 2) (hs : s.size < 4294967281) (hac : ∀ (j : Nat) b, chars.data.toList[j]? = some b → b.toNat < 128) :
    Calls P (ρ.f 153) #[.string s, .string chars] w fun e w' => e = .returned (.int .i64 (Lib.indexAny s.data.toList chars.data.toList)) ∧ Below w.heap.size w w' := by
  by_cases h8 : s.size ≤ 8
  · exact IndexAny_short2 L s chars w h2 h8 hac
  · refine (Any.strings_IndexAny_long L (zero_of_info h116).1 (zero_of_info h116).2 s chars w (by omega) (by omega) hs (by omega) hac).mono fun e w' ⟨h1, h2⟩ => ⟨h1, ?_⟩
    rw [h2]
    exact ((Below.refl _ _).alloc (Nat.le_refl _) _).alloc (by simp) _
set_option maxHeartbeats 1000000 in
/-- strings.ContainsAny: any bytes, and two ASCII ones -/
theorem ContainsAny_two (L : Lays.n150 P ρ) (h116 : (P.info? (ρ.t 116)).map (fun i => (i.zero, i.size)) = some (some (.agg (Array.replicate 256 (.bool false))), 256)) (s chars : ByteArray) (w : World) (h2 : chars.size = 2) (hs : s.size < 4294967281) (hac : ∀ (j : Nat) b, chars.data.toList[j]? = some b → b.toNat < 128) :
    Calls P (ρ.f 150) #[.string s, .string chars] w fun e w' => e = .returned (.bool (Lib.containsAny s.data.toList chars.data.toList)) ∧ Below w.heap.size w w' := by
  have c := IndexAny_two { L with } h116 s chars w h2 hs hac
  have t3 := L.t3; have a3 := L.a3; have z3 := L.z3; have v3 := L.v3
  have t4 := L.t4; have a4 := L.a4; have z4 := L.z4; have v4 := L.v4
  have t9 := L.t9; have a9 := L.a9; have z9 := L.z9; have v9 := L.v9
  have e153 : ∀ args w, (callFunc (ρ.f 153) args).run P w = .ok (.enter (ρ.f 153) args) w := enters_of L.f153 (by kernel_rfl) rfl
  go_enter L.f150, Body.n150_ntmps ρ
  go_wp2_with (go_at_fn (ρ.f 153); refine c.mono ?_; rintro e w' ⟨rfl, hw⟩)
  go_ret
  exact ⟨rfl, hw⟩
end Go.Proofs.YtenbgnlkkmnmhaaDoor.Q
end
/-! M10 -/
section
namespace Go.Proofs.YtenbgnlkkmnmhaaDoor.Q
open Go.RowKit
set_option linter.unusedSimpArgs false
def NE (l : List LfL) : Prop := ∀ x ∈ l, ¬ x.f0 = ⟨#[]⟩
def Apart (l : List LfL) : Prop := ∀ x ∈ l, ∀ y ∈ l, within y.f0 x.f0 = false
theorem getD_mem {α : Type} {l : List α} {d : α} {i : Nat} (h : i < l.length) : l.getD i d ∈ l := by
  rw [List.getD_eq_getElem?_getD, List.getElem?_eq_getElem h]
  exact List.getElem_mem h
theorem mem_getD {α : Type} {l : List α} (d : α) {x : α} (h : x ∈ l) : ∃ i, i < l.length ∧ l.getD i d = x := by
  obtain ⟨i, hi, rfl⟩ := List.mem_iff_getElem.1 h
  exact ⟨i, hi, by rw [List.getD_eq_getElem?_getD, List.getElem?_eq_getElem hi]; rfl⟩
theorem riseG {l : List LfL} (h : RiseL l) {i j : Nat} (hij : i < j) (hj : j < l.length) : lessB (l.getD i zL).f0 (l.getD j zL).f0 = true := by
  have := List.pairwise_iff_getElem.1 h i j (by omega) hj hij
  rw [List.getD_eq_getElem?_getD, List.getD_eq_getElem?_getD, List.getElem?_eq_getElem hj, List.getElem?_eq_getElem (show i < l.length by omega)]
  exact this
theorem findL_none {l : List LfL} {p : ByteArray} (h : ∀ i, i < l.length → ¬ (l.getD i zL).f0 = p) : findL l p = zL :=
  fold_none l p zL fun x hx => by
    obtain ⟨i, hi, rfl⟩ := mem_getD zL hx
    exact h i hi
theorem findL_at : ∀ {l : List LfL}, RiseL l → ∀ {x : LfL}, x ∈ l → findL l x.f0 = x
  | [], _, x, h => by cases h
  | y :: l, h, x, hx => by
    have h' := List.pairwise_cons.1 h
    unfold findL
    rw [List.foldl_cons]
    rcases List.mem_cons.1 hx with e | e
    · subst e
      rw [if_pos rfl, fold_none l _ _ fun z hz e => lessB_ne (h'.1 z hz) e.symm]
    · rw [if_neg (fun k => lessB_ne (h'.1 x e) k)]
      exact findL_at h'.2 e
theorem pathsT_mem {b o t : List LfL} {x : LfL} (h : x ∈ b ∨ x ∈ o ∨ x ∈ t) : x.f0 ∈ pathsT b o t := by
  unfold pathsT
  rw [compB_mem, sortB_mem, List.mem_map]
  refine ⟨x, ?_, rfl⟩
  rw [List.mem_append, List.mem_append]
  exact h
theorem find_out (b o t : List LfL) (p : ByteArray) : findL (outF b o t) p = cellT b o t p := by
  have hr := outF_rise b o t
  by_cases h : ∃ x ∈ outF b o t, x.f0 = p
  · obtain ⟨x, hx, rfl⟩ := h
    rw [findL_at hr hx]
    exact (out_mem hx).2.2.1.symm
  · rw [findL_none fun i hi e => h ⟨_, getD_mem hi, e⟩]
    rcases cellT_mem b o t p with hc | ⟨hc, hp⟩
    · exact hc.symm
    · apply Classical.byContradiction
      intro hne
      refine h ⟨cellT b o t p, ?_, hp⟩
      unfold outF outT
      rw [List.mem_filter, List.mem_map]
      refine ⟨⟨p, ?_, rfl⟩, decide_eq_true fun q => hne q.symm⟩
      rw [← hp]
      exact pathsT_mem (.inr hc)
theorem riseL_ext : ∀ {l m : List LfL}, RiseL l → RiseL m → (∀ x, x ∈ l ↔ x ∈ m) → l = m
  | [], [], _, _, _ => rfl
  | [], y :: m, _, _, h => absurd ((h y).2 (by simp)) (by simp)
  | x :: l, [], _, _, h => absurd ((h x).1 (by simp)) (by simp)
  | x :: l, y :: m, hl, hm, h => by
    have hl' := List.pairwise_cons.1 hl
    have hm' := List.pairwise_cons.1 hm
    have e : x = y := by
      rcases List.mem_cons.1 ((h x).1 (by simp)) with e | e
      · exact e
      · rcases List.mem_cons.1 ((h y).2 (by simp)) with e' | e'
        · exact e'.symm
        · have := lessB_asymm (hl'.1 y e')
          rw [hm'.1 x e] at this
          cases this
    subst e
    congr 1
    refine riseL_ext hl'.2 hm'.2 fun z => ⟨fun hz => ?_, fun hz => ?_⟩
    · rcases List.mem_cons.1 ((h z).1 (List.mem_cons_of_mem _ hz)) with e | e
      · exact absurd (congrArg (·.f0) e).symm (lessB_ne (hl'.1 z hz))
      · exact e
    · rcases List.mem_cons.1 ((h z).2 (List.mem_cons_of_mem _ hz)) with e | e
      · exact absurd (congrArg (·.f0) e).symm (lessB_ne (hm'.1 z hz))
      · exact e
theorem ne_zero {l : List LfL} (h : NE l) {x : LfL} (hx : x ∈ l) : ¬ x = zL := fun e => h x hx (e ▸ rfl)
theorem findL_in {l : List LfL} {x : LfL} (h : findL l x.f0 = x) (hx : ¬ x = zL) : x ∈ l := by
  rcases findL_mem l x.f0 with h' | h'
  · exact absurd (h ▸ h') hx
  · rw [← h]; exact h'.1
theorem out_is {b o t m : List LfL} (hm : RiseL m) (hn : NE m) (h : ∀ p, cellT b o t p = findL m p) : outF b o t = m := by
  refine riseL_ext (outF_rise b o t) hm fun x => ⟨fun hx => ?_, fun hx => ?_⟩
  · have := out_mem hx
    exact findL_in ((h x.f0).symm.trans this.2.2.1) this.1
  · exact findL_in (by rw [find_out, h]; exact findL_at hm hx) (ne_zero hn hx)
theorem bad_none {b o t : List LfL} (hc : ∀ p, clashT b o t p = false) (ha : Apart (outF b o t)) : badA b o t = [] := by
  refine rise_ext (badA_rise b o t) List.Pairwise.nil fun x => ⟨fun hx => ?_, fun hx => by cases hx⟩
  exfalso
  rcases (badA_mem b o t x).1 hx with h | ⟨k, hk, hu, rfl⟩
  · have := (List.mem_filter.1 h).2
    rw [hc] at this
    cases this
  · obtain ⟨m, hm, hw⟩ := (under_iff (outF_rise b o t) hk).1 hu
    rw [ha _ (getD_mem hk) _ (getD_mem hm)] at hw
    cases hw
theorem none_bad {b o t : List LfL} (h : badA b o t = []) : (∀ p, clashT b o t p = false) ∧ Apart (outF b o t) := by
  constructor
  · intro p
    cases hc : clashT b o t p with
    | false => rfl
    | true =>
      exfalso
      have hc' := of_decide_eq_true hc
      have hp : p ∈ pathsT b o t := by
        rcases findL_mem o p with ho | ho
        · rcases findL_mem t p with ht | ht
          · exact absurd (ho.trans ht.symm) hc'.1
          · rw [← ht.2]; exact pathsT_mem (.inr (.inr ht.1))
        · rw [← ho.2]; exact pathsT_mem (.inr (.inl ho.1))
      have : p ∈ badA b o t := (badA_mem b o t p).2 (.inl (List.mem_filter.2 ⟨hp, hc⟩))
      rw [h] at this
      cases this
  · intro x hx y hy
    cases hw : within y.f0 x.f0 with
    | false => rfl
    | true =>
      exfalso
      obtain ⟨k, hk, rfl⟩ := mem_getD zL hx
      obtain ⟨m, hm, rfl⟩ := mem_getD zL hy
      have : ((outF b o t).getD k zL).f0 ∈ badA b o t := (badA_mem b o t _).2 (.inr ⟨k, hk, (under_iff (outF_rise b o t) hk).2 ⟨m, hm, hw⟩, rfl⟩)
      rw [h] at this
      cases this
section
variable {b o t l : List LfL}
/-- one side changed nothing -/
theorem side_t (hr : RiseL o) (hn : NE o) (ha : Apart o) : outF b o b = o ∧ badA b o b = [] := by
  have e : outF b o b = o := out_is hr hn fun p => cell_2 rfl
  exact ⟨e, bad_none (fun p => clash_2 rfl) (by rw [e]; exact ha)⟩
theorem side_o (hr : RiseL t) (hn : NE t) (ha : Apart t) : outF b b t = t ∧ badA b b t = [] := by
  have e : outF b b t = t := out_is hr hn fun p => by
    by_cases h1 : findL b p = findL t p
    · rw [cell_1 h1, h1]
    · exact cell_3 h1 (fun e => h1 e.symm) rfl
  exact ⟨e, bad_none (fun p => clash_3 rfl) (by rw [e]; exact ha)⟩
theorem side_same (hr : RiseL o) (hn : NE o) (ha : Apart o) : outF b o o = o ∧ badA b o o = [] := by
  have e : outF b o o = o := out_is hr hn fun p => cell_1 rfl
  exact ⟨e, bad_none (fun p => clash_1 rfl) (by rw [e]; exact ha)⟩
theorem out_NE (ho : NE o) (ht : NE t) : NE (outF b o t) := fun x hx => by
  rcases (out_mem hx).2.2.2 with h | h
  · exact ho x h
  · exact ht x h
/-- turned about -/
theorem swapped (ho : NE o) (ht : NE t) (h : badA b o t = []) : badA b t o = [] ∧ outF b t o = outF b o t := by
  obtain ⟨hc, ha⟩ := none_bad h
  have hcell : ∀ p, cellT b t o p = findL (outF b o t) p := fun p => by
    rw [find_out]
    have h' := of_decide_eq_false (hc p)
    by_cases h1 : findL o p = findL t p
    · rw [cell_1 h1, cell_1 h1.symm, h1]
    · by_cases h2 : findL t p = findL b p
      · rw [cell_2 h2]
        exact cell_3 (fun e => h1 e.symm) (fun e => h1 (e.trans h2.symm)) h2
      · by_cases h3 : findL o p = findL b p
        · rw [cell_3 h1 h2 h3]
          exact cell_2 h3
        · exact absurd ⟨h1, h2, h3⟩ h'
  have e : outF b t o = outF b o t := out_is (outF_rise b o t) (out_NE ho ht) hcell
  refine ⟨bad_none (fun p => ?_) (by rw [e]; exact ha), e⟩
  have h' := of_decide_eq_false (hc p)
  exact decide_eq_false fun k => h' ⟨fun e => k.1 e.symm, k.2.2, k.2.1⟩
end
theorem out_short (b : List LfL) {o t : List LfL} (ho : shortL o) (ht : shortL t) : shortL (outF b o t) := fun x hx => by
  rcases (out_mem hx).2.2.2 with h | h
  · exact ho x h
  · exact ht x h
end Go.Proofs.YtenbgnlkkmnmhaaDoor.Q
end
/-! N1 -/
section
namespace Go.Proofs.YtenbgnlkkmnmhaaDoor.Q
open Go.RowKit Go.Lib Go.Shelf
open Go.Proofs.YtenbgnlkkmnmhaaDoorW.PrintWords (bytesOf bytesOf_length)
set_option linter.unusedSimpArgs false
set_option linter.unusedVariables false
set_option maxRecDepth 100000
def Gd (w : World) : Prop := ∃ m : Int, w.cell? ⟨0, 0, none⟩ = some (.int .i64 m)
theorem Gd.low {w w' : World} (h : Gd w) (k : Low w w') : Gd w' := by
  obtain ⟨m, hm⟩ := h
  exact ⟨m, (Below.cell k (World.block_lt_of_cell? _ _ hm)).trans hm⟩
def partsB (s : ByteArray) : List ByteArray := splitB slash 0 (countB s slash) s
theorem splitB_size (sep : ByteArray) : ∀ (k : Nat) (s p : ByteArray), p ∈ splitB sep 0 k s → p.size ≤ s.size
  | 0, s, p, h => by
    rw [splitB_zero, List.mem_singleton] at h
    rw [h]; exact Nat.le_refl _
  | k + 1, s, p, h => by
    unfold splitB at h
    split at h
    · rw [List.mem_singleton] at h
      rw [h]; exact Nat.le_refl _
    · rcases List.mem_cons.1 h with h | h
      · rw [h]; simp; omega
      · have := splitB_size sep k _ p h
        refine Nat.le_trans this ?_
        simp
        try omega
theorem split_calls (s : ByteArray) (w : World) (hs : s.size < 4294967281) (hG : Gd w) : Calls Tryd.prog 20 #[.string s, .string slash] w fun e w' => ∃ x, e = .returned x ∧ RdF w' 1 x (partsB s).length ((partsB s).map encS).flatten ∧ Low w w' := by
  obtain ⟨m, hm⟩ := hG
  refine (Any.strings_Split Tryd.lays146 (by kernel_rfl) s slash m w hs hm (by decide)).mono fun e w' ⟨he, hw⟩ => ⟨_, he, ?_, ?_⟩
  · subst hw
    have hl : (partsB s).length = countB s slash + 1 := splitB_all slash (by decide) 0 _ s rfl
    rw [hl, flat_encS]
    exact rdF_lit (new_block w _) (by rw [List.length_map]; exact hl)
  · subst hw
    exact low_new w _
def nulSlash : ByteArray := ⟨#[0, 47]⟩
def hasAny (p : ByteArray) : Bool := containsAny p.data.toList nulSlash.data.toList
theorem any_calls (p : ByteArray) (w : World) (hp : p.size < 4294967281) : Calls Tryd.prog 31 #[.string p, .string nulSlash] w fun e w' => e = .returned (.bool (hasAny p)) ∧ Low w w' :=
  ContainsAny_two Tryd.lays150 (by kernel_rfl) p nulSlash w rfl hp fun j b h => by
    match j, h with
    | 0, h => cases h; decide
    | 1, h => cases h; decide
    | j + 2, h => simp [nulSlash] at h
def nameW (p : ByteArray) : Bool := decide (¬ p = ⟨#[]⟩) && decide (p.size ≤ 64)
def entryB (p : ByteArray) : Bool := nameW p && (!hasAny p && (decide (¬ p = ⟨#[46]⟩) && decide (¬ p = ⟨#[46, 46]⟩)))
def pathB (s : ByteArray) : Bool := decide (¬ s = ⟨#[]⟩) && (decide (s.size ≤ 255) && (decide ((partsB s).length ≤ 8) && !((partsB s).any fun p => !entryB p)))
def idxS (l : List ByteArray) (p : ByteArray → Bool) : Int := if l.findIdx p < l.length then (l.findIdx p : Int) else -1
theorem idxS_any (l : List ByteArray) (p : ByteArray → Bool) : decide (idxS l p ≥ 0) = l.any p := by
  unfold idxS
  rw [Bool.eq_iff_iff, decide_eq_true_iff, List.any_eq_true]
  constructor
  · intro h
    split at h
    · rename_i h1; exact List.findIdx_lt_length.1 h1
    · omega
  · intro h
    rw [if_pos (List.findIdx_lt_length.2 h)]
    omega
theorem idxS_at {l : List ByteArray} {p : ByteArray → Bool} (h : l.findIdx p < l.length) : p (l.getD (l.findIdx p) ByteArray.empty) = true := by
  have := List.findIdx_getElem (w := h)
  rw [List.getD_eq_getElem?_getD, List.getElem?_eq_getElem h]
  exact this
theorem idxS_round {l : List ByteArray} {p : ByteArray → Bool} (i : Nat) (h : i < l.findIdx p) : p (l.getD i ByteArray.empty) = false := by
  have h1 : i < l.length := Nat.lt_of_lt_of_le h List.findIdx_le_length
  have := List.not_of_lt_findIdx h
  rw [List.getD_eq_getElem?_getD, List.getElem?_eq_getElem h1]
  simpa using this
def encU (x : Int) : List Value := [.int .u8 x]
theorem encU_len (x : Int) : (encU x).length = 1 := rfl
theorem flat_encU (l : List Int) : (l.map encU).flatten = l.map (Value.int .u8) := by
  induction l with
  | nil => rfl
  | cons x l ih => rw [List.map_cons, List.flatten_cons, ih]; rfl
theorem ownB_rdF {w : World} {B : Nat} {E : TypeId} {v : Value} {l : List Int} (h : OwnB w B E v l) : RdF w 1 v l.length (l.map encU).flatten := by
  rw [flat_encU]
  rcases h with ⟨rfl, rfl⟩ | ⟨g, cap, cur, fz, rfl, _, hh, _, hl, _, hc, ht⟩
  · exact (OwnF.nil w 0 0 1).rd
  · refine ⟨by rw [List.length_map, Nat.mul_one], _, cap, rfl, hl, fun _ => ⟨g, 0, rfl, heap_lt hh, fun j u hu => ?_⟩⟩
    rw [Nat.zero_add]
    have hcell : w.cell? ⟨g, j, none⟩ = cur.toList[j]? := by simp [World.cell?, hh]
    rw [hcell]
    have hj : j < l.length := by
      have := (List.getElem?_eq_some_iff.1 hu).1
      rwa [List.length_map] at this
    rw [← ht, List.getElem?_take, if_pos hj] at hu
    simpa using hu
def rAt (l : List LfL) (i : Nat) : Prop := pathB (l.getD i zL).f0 = true ∧ 1 ≤ (l.getD i zL).f1 ∧ (l.getD i zL).f1 ≤ 2 ∧ (0 < i → lessB (l.getD (i - 1) zL).f0 (l.getD i zL).f0 = true)
instance rDec (l : List LfL) (i : Nat) : Decidable (rAt l i) := by unfold rAt; infer_instance
def rN (l : List LfL) : Nat := (List.range l.length).findIdx fun i => decide (¬ rAt l i)
theorem rN_le (l : List LfL) : rN l ≤ l.length := by
  have := List.findIdx_le_length (xs := List.range l.length) (p := fun i => decide (¬ rAt l i))
  rwa [List.length_range] at this
theorem rN_round {l : List LfL} {i : Nat} (h : i < rN l) : rAt l i := by
  have h1 := List.not_of_lt_findIdx h
  rw [List.getElem_range] at h1
  simpa using h1
theorem rN_stop {l : List LfL} (h : rN l < l.length) : ¬ rAt l (rN l) := by
  have h1 : decide (¬ rAt l ((List.range l.length)[rN l]'(by rw [List.length_range]; exact h))) = true := List.findIdx_getElem (w := by rw [List.length_range]; exact h)
  rw [List.getElem_range] at h1
  exact of_decide_eq_true h1
def pathsL (l : List LfL) : List ByteArray := l.map (·.f0)
theorem pathsL_next (l : List LfL) (k : Nat) (h : k < l.length) : pathsL (l.take k) ++ [(l.getD k zL).f0] = pathsL (l.take (k + 1)) := by
  unfold pathsL
  rw [getD_next l k zL h, List.map_append]
  rfl
/-- a directory that is a leaf, too -/
def cAt (ps : List ByteArray) (p : ByteArray) (i : Nat) : Prop := (bytesOf p).getD i 0 = 47 ∧ memB (p.extract 0 i) ps = true
instance cDec (ps : List ByteArray) (p : ByteArray) (i : Nat) : Decidable (cAt ps p i) := by unfold cAt; infer_instance
def cN (ps : List ByteArray) (p : ByteArray) : Nat := (List.range p.size).findIdx fun i => decide (cAt ps p i)
theorem cN_le (ps : List ByteArray) (p : ByteArray) : cN ps p ≤ p.size := by
  have := List.findIdx_le_length (xs := List.range p.size) (p := fun i => decide (cAt ps p i))
  rwa [List.length_range] at this
theorem cN_round {ps : List ByteArray} {p : ByteArray} {i : Nat} (h : i < cN ps p) : ¬ cAt ps p i := by
  have h1 := List.not_of_lt_findIdx h
  rw [List.getElem_range] at h1
  simpa using h1
theorem cN_stop {ps : List ByteArray} {p : ByteArray} (h : cN ps p < p.size) : cAt ps p (cN ps p) := by
  have h1 : decide (cAt ps p ((List.range p.size)[cN ps p]'(by rw [List.length_range]; exact h))) = true := List.findIdx_getElem (w := by rw [List.length_range]; exact h)
  rw [List.getElem_range] at h1
  exact of_decide_eq_true h1
def dN2 (ps : List ByteArray) (l : List LfL) : Nat := l.findIdx fun x => decide (cN ps x.f0 < x.f0.size)
theorem dN2_le (ps : List ByteArray) (l : List LfL) : dN2 ps l ≤ l.length := List.findIdx_le_length
theorem dN2_round {ps : List ByteArray} {l : List LfL} {i : Nat} (h : i < dN2 ps l) : cN ps (l.getD i zL).f0 = (l.getD i zL).f0.size := by
  have h1 : i < l.length := Nat.lt_of_lt_of_le h (dN2_le ps l)
  have := List.not_of_lt_findIdx h
  rw [List.getD_eq_getElem?_getD, List.getElem?_eq_getElem h1]
  have h2 := cN_le ps (l[i]).f0
  simp only [Bool.not_eq_true, decide_eq_false_iff_not, Option.getD_some] at this ⊢
  omega
theorem dN2_stop {ps : List ByteArray} {l : List LfL} (h : dN2 ps l < l.length) : cN ps (l.getD (dN2 ps l) zL).f0 < (l.getD (dN2 ps l) zL).f0.size := by
  have : decide (cN ps (l[dN2 ps l]).f0 < (l[dN2 ps l]).f0.size) = true := List.findIdx_getElem (w := h)
  rw [List.getD_eq_getElem?_getD, List.getElem?_eq_getElem h]
  exact of_decide_eq_true this
def rightB (l : List LfL) : Bool := decide (rN l = l.length) && (decide (dN2 (pathsL l) l = l.length) && decide (l.length ≤ 256))
theorem right_1 {l : List LfL} (h : rN l < l.length) : rightB l = false := by
  unfold rightB
  rw [decide_eq_false (by omega)]
  rfl
theorem right_2 {l : List LfL} (h : dN2 (pathsL l) l < l.length) : rightB l = false := by
  unfold rightB
  rw [decide_eq_false (p := dN2 (pathsL l) l = l.length) (by omega), Bool.false_and, Bool.and_false]
theorem right_3 {l : List LfL} (h1 : ¬ rN l < l.length) (h2 : ¬ dN2 (pathsL l) l < l.length) : rightB l = decide ((l.length : Int) ≤ 256) := by
  have e1 := rN_le l
  have e2 := dN2_le (pathsL l) l
  unfold rightB
  rw [decide_eq_true (p := rN l = l.length) (by omega), decide_eq_true (p := dN2 (pathsL l) l = l.length) (by omega), Bool.true_and, Bool.true_and]
  exact decide_eq_decide.2 (by omega)
theorem shortG {l : List LfL} (h : shortL l) (k : Nat) : (l.getD k zL).f0.size ≤ 1000000 := by
  rcases Nat.lt_or_ge k l.length with hk | hk
  · exact h _ (getD_mem hk)
  · rw [List.getD_eq_getElem?_getD, List.getElem?_eq_none hk]
    show ByteArray.size _ ≤ _
    decide
theorem slash_byte : (((⟨#[47]⟩ : ByteArray)[0]'(by decide)).toNat : Int) = 47 := rfl
theorem parts_size (s p : ByteArray) (h : p ∈ partsB s) : p.size ≤ s.size := splitB_size slash _ s p h
end Go.Proofs.YtenbgnlkkmnmhaaDoor.Q
end
/-! E9 -/
section
namespace Go.Proofs.YtenbgnlkkmnmhaaDoor.Q
open Go.RowKit Go.Proofs.YtenbgnlkkmnmhaaDoor.P
open Go.Proofs.YtenbgnlkkmnmhaaDoorW.PrintWords (bytesOf bytesOf_length)
set_option linter.unusedVariables false
set_option linter.unusedSimpArgs false
set_option maxRecDepth 100000
set_option maxHeartbeats 4000000
attribute [local irreducible] wpList wpQuiet qch Code.wp Oper.quiet Act.put At Region.wanted yielded
theorem sz5 : (Tryd.prog.info? 5).map (·.size) = some 1 := by kernel_rfl
theorem NameW.calls (p : ByteArray) (w0 : World) : Calls Tryd.prog 30 #[.string p] w0 fun e w' => e = .returned (.bool (nameW p)) ∧ Low w0 w' := by
  refine c_fun (R := _) Tryd.func30 rfl 10 rfl (Nat.le_of_ble_eq_true rfl) ?_
  intro a z hA
  have s0 := hA 0 _ rfl
  clear hA
  refine c_seq ?_
  refine c_region ?_
  refine l_q rfl (q_assign _ _ rfl rfl ?_)
  refine l_end ?_
  refine e_fresh z.put ?_
  intro a1 z1 m1
  have s0_1 := m1 _ _ (s0.ne rfl)
  clear m1
  refine e_then ?_
  refine c_seq ?_
  by_cases hb2 : ¬ p = (⟨#[]⟩ : ByteArray)
  · skip
    refine c_region ?_
    refine l_q rfl (q_move _ _ rfl s0_1.ev ?_)
    refine l_q rfl (q_strne true rfl (At.hit z1 rfl).ev rfl (by rw [strF hb2]; rfl) ?_)
    refine l_q rfl (q_move _ _ rfl (At.hit z1.put rfl).ev ?_)
    refine l_qg (wanted_is (j := 2) (d := 5) (b := true) rfl rfl (At.hit z1.put.put rfl) rfl) (q_move _ _ rfl (((s0_1.ne rfl).ne rfl).ne rfl).ev ?_)
    refine l_qg (wanted_is (j := 2) (d := 5) (b := true) rfl rfl ((At.hit z1.put.put rfl).ne rfl) rfl) (q_len rfl rfl Tryd.underlying9 (At.hit z1.put.put.put rfl).ev ?_)
    refine l_qg (wanted_is (j := 2) (d := 5) (b := true) rfl rfl (((At.hit z1.put.put rfl).ne rfl).ne rfl) rfl) (q_leq _ rfl (At.hit z1.put.put.put.put rfl).ev rfl rfl ?_)
    refine l_q rfl (q_pick (b := true) (.bool (decide (((p.size : Nat) : Int) ≤ 64))) rfl ((((At.hit z1.put.put rfl).ne rfl).ne rfl).ne rfl).ev (At.hit z1.put.put.put.put.put rfl).ev ?_)
    refine l_q rfl (q_assign _ _ rfl (At.hit z1.put.put.put.put.put.put rfl).ev ?_)
    refine l_end ?_
    refine e_fresh z1.put.put.put.put.put.put.put.put ?_
    intro a3 z3 m3
    have s2_3 := m3 _ _ (At.hit z1.put.put.put.put.put.put.put rfl)
    clear m3
    refine e_then ?_
    refine wp_ret ?_
    refine r_tmp rfl z3.defers s2_3 ?_
    exact ⟨by unfold nameW; rw [decide_eq_true hb2, Bool.true_and] <;> exact congrArg (fun b => Ending.returned (Value.bool b)) (decide_eq_decide.2 (by omega)), (Low.refl _)⟩
  · skip
    refine c_region ?_
    refine l_q rfl (q_move _ _ rfl s0_1.ev ?_)
    refine l_q rfl (q_strne false rfl (At.hit z1 rfl).ev rfl (by rw [strT (Decidable.not_not.1 hb2)]; rfl) ?_)
    refine l_q rfl (q_move _ _ rfl (At.hit z1.put rfl).ev ?_)
    refine l_skip (wanted_is (j := 2) (d := 5) (b := false) rfl rfl (At.hit z1.put.put rfl) rfl) ?_
    refine l_skip (wanted_is (j := 2) (d := 5) (b := false) rfl rfl ((At.hit z1.put.put rfl).ne rfl) rfl) ?_
    refine l_skip (wanted_is (j := 2) (d := 5) (b := false) rfl rfl (((At.hit z1.put.put rfl).ne rfl).ne rfl) rfl) ?_
    refine l_q rfl (q_pick (b := false) (.bool false) rfl ((((At.hit z1.put.put rfl).ne rfl).ne rfl).ne rfl).ev rfl ?_)
    refine l_q rfl (q_assign _ _ rfl (At.hit z1.put.put.put.put.put.put rfl).ev ?_)
    refine l_end ?_
    refine e_fresh z1.put.put.put.put.put.put.put.put ?_
    intro a4 z4 m4
    have s2_4 := m4 _ _ (At.hit z1.put.put.put.put.put.put.put rfl)
    clear m4
    refine e_then ?_
    refine wp_ret ?_
    refine r_tmp rfl z4.defers s2_4 ?_
    exact ⟨by unfold nameW; rw [decide_eq_false hb2, Bool.false_and] <;> rfl, (Low.refl _)⟩
theorem EntryName.calls (p : ByteArray) (hp : p.size ≤ 1000000) (w0 : World) : Calls Tryd.prog 23 #[.string p] w0 fun e w' => e = .returned (.bool (entryB p)) ∧ Low w0 w' := by
  refine c_fun (R := _) Tryd.func23 rfl 18 rfl (Nat.le_of_ble_eq_true rfl) ?_
  intro a z hA
  have s0 := hA 0 _ rfl
  clear hA
  refine c_seq ?_
  refine c_region ?_
  refine l_q rfl (q_assign _ _ rfl rfl ?_)
  refine l_end ?_
  refine e_fresh z.put ?_
  intro a1 z1 m1
  have s0_1 := m1 _ _ (s0.ne rfl)
  clear m1
  refine e_then ?_
  refine c_seq ?_
  by_cases hb2 : nameW p = true
  · skip
    by_cases hb3 : hasAny p = true
    · skip
      refine c_region ?_
      refine l_q rfl (q_move _ _ rfl s0_1.ev ?_)
      refine l_call (fun v w' => v = .bool true ∧ Low w0 w') rfl rfl rfl Tryd.func30 rfl (args1 rfl (At.hit z1 rfl).ev) (((calls_bool (NameW.calls p _) hb2)).mono fun _ _ ⟨e, k⟩ => ⟨_, e, rfl, k⟩) ?_
      rintro _ w4 ⟨rfl, h4⟩
      refine l_q rfl (q_move _ _ rfl (At.hit z1.put rfl).ev ?_)
      refine l_qg (wanted_is (j := 2) (d := 5) (b := true) rfl rfl (At.hit z1.put.put rfl) rfl) (q_move _ _ rfl (((s0_1.ne rfl).ne rfl).ne rfl).ev ?_)
      refine l_callg (fun v w' => v = .bool true ∧ Low w4 w') (wanted_is (j := 2) (d := 5) (b := true) rfl rfl ((At.hit z1.put.put rfl).ne rfl) rfl) rfl rfl Tryd.func31 rfl (args2 rfl (At.hit z1.put.put.put rfl).ev rfl) (((calls_bool (any_calls p _ (by omega)) hb3)).mono fun _ _ ⟨e, k⟩ => ⟨_, e, rfl, k⟩) ?_
      rintro _ w5 ⟨rfl, h5⟩
      refine l_qg (wanted_is (j := 2) (d := 5) (b := true) rfl rfl (((At.hit z1.put.put rfl).ne rfl).ne rfl) rfl) (q_not (b := true) rfl (At.hit z1.put.put.put.put rfl).ev ?_)
      refine l_q rfl (q_pick (b := true) (.bool false) rfl ((((At.hit z1.put.put rfl).ne rfl).ne rfl).ne rfl).ev (At.hit z1.put.put.put.put.put rfl).ev ?_)
      refine l_q rfl (q_move _ _ rfl (At.hit z1.put.put.put.put.put.put rfl).ev ?_)
      refine l_fresh z1.put.put.put.put.put.put.put.put ?_
      intro a6 z6 m6
      have s0_6 := m6 _ _ ((((((((s0_1.ne rfl).ne rfl).ne rfl).ne rfl).ne rfl).ne rfl).ne rfl).ne rfl)
      have s10_6 := m6 _ _ (At.hit z1.put.put.put.put.put.put.put rfl)
      clear m6
      refine l_skip (wanted_is (j := 7) (d := 10) (b := false) rfl rfl s10_6 rfl) ?_
      refine l_skip (wanted_is (j := 7) (d := 10) (b := false) rfl rfl (s10_6.ne rfl) rfl) ?_
      refine l_q rfl (q_pick (b := false) (.bool false) rfl ((s10_6.ne rfl).ne rfl).ev rfl ?_)
      refine l_q rfl (q_move _ _ rfl (At.hit z6.put.put rfl).ev ?_)
      refine l_skip (wanted_is (j := 11) (d := 14) (b := false) rfl rfl (At.hit z6.put.put.put rfl) rfl) ?_
      refine l_skip (wanted_is (j := 11) (d := 14) (b := false) rfl rfl ((At.hit z6.put.put.put rfl).ne rfl) rfl) ?_
      refine l_q rfl (q_pick (b := false) (.bool false) rfl (((At.hit z6.put.put.put rfl).ne rfl).ne rfl).ev rfl ?_)
      refine l_q rfl (q_assign _ _ rfl (At.hit z6.put.put.put.put.put.put rfl).ev ?_)
      refine l_end ?_
      refine e_fresh z6.put.put.put.put.put.put.put.put ?_
      intro a7 z7 m7
      have s2_7 := m7 _ _ (At.hit z6.put.put.put.put.put.put.put rfl)
      have low7 := (h4.trans h5)
      clear m7
      refine e_then ?_
      refine wp_ret ?_
      refine r_tmp rfl z7.defers s2_7 ?_
      exact ⟨by unfold entryB; simp [hb2, hb3], low7⟩
    · skip
      by_cases hb8 : ¬ p = (⟨#[46]⟩ : ByteArray)
      · skip
        by_cases hb9 : ¬ p = (⟨#[46, 46]⟩ : ByteArray)
        · skip
          refine c_region ?_
          refine l_q rfl (q_move _ _ rfl s0_1.ev ?_)
          refine l_call (fun v w' => v = .bool true ∧ Low w0 w') rfl rfl rfl Tryd.func30 rfl (args1 rfl (At.hit z1 rfl).ev) (((calls_bool (NameW.calls p _) hb2)).mono fun _ _ ⟨e, k⟩ => ⟨_, e, rfl, k⟩) ?_
          rintro _ w10 ⟨rfl, h10⟩
          refine l_q rfl (q_move _ _ rfl (At.hit z1.put rfl).ev ?_)
          refine l_qg (wanted_is (j := 2) (d := 5) (b := true) rfl rfl (At.hit z1.put.put rfl) rfl) (q_move _ _ rfl (((s0_1.ne rfl).ne rfl).ne rfl).ev ?_)
          refine l_callg (fun v w' => v = .bool false ∧ Low w10 w') (wanted_is (j := 2) (d := 5) (b := true) rfl rfl ((At.hit z1.put.put rfl).ne rfl) rfl) rfl rfl Tryd.func31 rfl (args2 rfl (At.hit z1.put.put.put rfl).ev rfl) (((calls_bool (any_calls p _ (by omega)) (eq_false_of_ne_true hb3))).mono fun _ _ ⟨e, k⟩ => ⟨_, e, rfl, k⟩) ?_
          rintro _ w11 ⟨rfl, h11⟩
          refine l_qg (wanted_is (j := 2) (d := 5) (b := true) rfl rfl (((At.hit z1.put.put rfl).ne rfl).ne rfl) rfl) (q_not (b := false) rfl (At.hit z1.put.put.put.put rfl).ev ?_)
          refine l_q rfl (q_pick (b := true) (.bool true) rfl ((((At.hit z1.put.put rfl).ne rfl).ne rfl).ne rfl).ev (At.hit z1.put.put.put.put.put rfl).ev ?_)
          refine l_q rfl (q_move _ _ rfl (At.hit z1.put.put.put.put.put.put rfl).ev ?_)
          refine l_fresh z1.put.put.put.put.put.put.put.put ?_
          intro a12 z12 m12
          have s0_12 := m12 _ _ ((((((((s0_1.ne rfl).ne rfl).ne rfl).ne rfl).ne rfl).ne rfl).ne rfl).ne rfl)
          have s10_12 := m12 _ _ (At.hit z1.put.put.put.put.put.put.put rfl)
          clear m12
          refine l_qg (wanted_is (j := 7) (d := 10) (b := true) rfl rfl s10_12 rfl) (q_move _ _ rfl s0_12.ev ?_)
          refine l_qg (wanted_is (j := 7) (d := 10) (b := true) rfl rfl (s10_12.ne rfl) rfl) (q_strne true rfl (At.hit z12 rfl).ev rfl (by rw [strF hb8]; rfl) ?_)
          refine l_q rfl (q_pick (b := true) (.bool true) rfl ((s10_12.ne rfl).ne rfl).ev (At.hit z12.put rfl).ev ?_)
          refine l_q rfl (q_move _ _ rfl (At.hit z12.put.put rfl).ev ?_)
          refine l_qg (wanted_is (j := 11) (d := 14) (b := true) rfl rfl (At.hit z12.put.put.put rfl) rfl) (q_move _ _ rfl ((((s0_12.ne rfl).ne rfl).ne rfl).ne rfl).ev ?_)
          refine l_qg (wanted_is (j := 11) (d := 14) (b := true) rfl rfl ((At.hit z12.put.put.put rfl).ne rfl) rfl) (q_strne true rfl (At.hit z12.put.put.put.put rfl).ev rfl (by rw [strF hb9]; rfl) ?_)
          refine l_q rfl (q_pick (b := true) (.bool true) rfl (((At.hit z12.put.put.put rfl).ne rfl).ne rfl).ev (At.hit z12.put.put.put.put.put rfl).ev ?_)
          refine l_q rfl (q_assign _ _ rfl (At.hit z12.put.put.put.put.put.put rfl).ev ?_)
          refine l_end ?_
          refine e_fresh z12.put.put.put.put.put.put.put.put ?_
          intro a13 z13 m13
          have s2_13 := m13 _ _ (At.hit z12.put.put.put.put.put.put.put rfl)
          have low13 := (h10.trans h11)
          clear m13
          refine e_then ?_
          refine wp_ret ?_
          refine r_tmp rfl z13.defers s2_13 ?_
          exact ⟨by unfold entryB; simp [hb2, hb3, hb8, hb9], low13⟩
        · skip
          refine c_region ?_
          refine l_q rfl (q_move _ _ rfl s0_1.ev ?_)
          refine l_call (fun v w' => v = .bool true ∧ Low w0 w') rfl rfl rfl Tryd.func30 rfl (args1 rfl (At.hit z1 rfl).ev) (((calls_bool (NameW.calls p _) hb2)).mono fun _ _ ⟨e, k⟩ => ⟨_, e, rfl, k⟩) ?_
          rintro _ w14 ⟨rfl, h14⟩
          refine l_q rfl (q_move _ _ rfl (At.hit z1.put rfl).ev ?_)
          refine l_qg (wanted_is (j := 2) (d := 5) (b := true) rfl rfl (At.hit z1.put.put rfl) rfl) (q_move _ _ rfl (((s0_1.ne rfl).ne rfl).ne rfl).ev ?_)
          refine l_callg (fun v w' => v = .bool false ∧ Low w14 w') (wanted_is (j := 2) (d := 5) (b := true) rfl rfl ((At.hit z1.put.put rfl).ne rfl) rfl) rfl rfl Tryd.func31 rfl (args2 rfl (At.hit z1.put.put.put rfl).ev rfl) (((calls_bool (any_calls p _ (by omega)) (eq_false_of_ne_true hb3))).mono fun _ _ ⟨e, k⟩ => ⟨_, e, rfl, k⟩) ?_
          rintro _ w15 ⟨rfl, h15⟩
          refine l_qg (wanted_is (j := 2) (d := 5) (b := true) rfl rfl (((At.hit z1.put.put rfl).ne rfl).ne rfl) rfl) (q_not (b := false) rfl (At.hit z1.put.put.put.put rfl).ev ?_)
          refine l_q rfl (q_pick (b := true) (.bool true) rfl ((((At.hit z1.put.put rfl).ne rfl).ne rfl).ne rfl).ev (At.hit z1.put.put.put.put.put rfl).ev ?_)
          refine l_q rfl (q_move _ _ rfl (At.hit z1.put.put.put.put.put.put rfl).ev ?_)
          refine l_fresh z1.put.put.put.put.put.put.put.put ?_
          intro a16 z16 m16
          have s0_16 := m16 _ _ ((((((((s0_1.ne rfl).ne rfl).ne rfl).ne rfl).ne rfl).ne rfl).ne rfl).ne rfl)
          have s10_16 := m16 _ _ (At.hit z1.put.put.put.put.put.put.put rfl)
          clear m16
          refine l_qg (wanted_is (j := 7) (d := 10) (b := true) rfl rfl s10_16 rfl) (q_move _ _ rfl s0_16.ev ?_)
          refine l_qg (wanted_is (j := 7) (d := 10) (b := true) rfl rfl (s10_16.ne rfl) rfl) (q_strne true rfl (At.hit z16 rfl).ev rfl (by rw [strF hb8]; rfl) ?_)
          refine l_q rfl (q_pick (b := true) (.bool true) rfl ((s10_16.ne rfl).ne rfl).ev (At.hit z16.put rfl).ev ?_)
          refine l_q rfl (q_move _ _ rfl (At.hit z16.put.put rfl).ev ?_)
          refine l_qg (wanted_is (j := 11) (d := 14) (b := true) rfl rfl (At.hit z16.put.put.put rfl) rfl) (q_move _ _ rfl ((((s0_16.ne rfl).ne rfl).ne rfl).ne rfl).ev ?_)
          refine l_qg (wanted_is (j := 11) (d := 14) (b := true) rfl rfl ((At.hit z16.put.put.put rfl).ne rfl) rfl) (q_strne false rfl (At.hit z16.put.put.put.put rfl).ev rfl (by rw [strT (Decidable.not_not.1 hb9)]; rfl) ?_)
          refine l_q rfl (q_pick (b := true) (.bool false) rfl (((At.hit z16.put.put.put rfl).ne rfl).ne rfl).ev (At.hit z16.put.put.put.put.put rfl).ev ?_)
          refine l_q rfl (q_assign _ _ rfl (At.hit z16.put.put.put.put.put.put rfl).ev ?_)
          refine l_end ?_
          refine e_fresh z16.put.put.put.put.put.put.put.put ?_
          intro a17 z17 m17
          have s2_17 := m17 _ _ (At.hit z16.put.put.put.put.put.put.put rfl)
          have low17 := (h14.trans h15)
          clear m17
          refine e_then ?_
          refine wp_ret ?_
          refine r_tmp rfl z17.defers s2_17 ?_
          exact ⟨by unfold entryB; simp [hb2, hb3, hb8, hb9], low17⟩
      · skip
        refine c_region ?_
        refine l_q rfl (q_move _ _ rfl s0_1.ev ?_)
        refine l_call (fun v w' => v = .bool true ∧ Low w0 w') rfl rfl rfl Tryd.func30 rfl (args1 rfl (At.hit z1 rfl).ev) (((calls_bool (NameW.calls p _) hb2)).mono fun _ _ ⟨e, k⟩ => ⟨_, e, rfl, k⟩) ?_
        rintro _ w18 ⟨rfl, h18⟩
        refine l_q rfl (q_move _ _ rfl (At.hit z1.put rfl).ev ?_)
        refine l_qg (wanted_is (j := 2) (d := 5) (b := true) rfl rfl (At.hit z1.put.put rfl) rfl) (q_move _ _ rfl (((s0_1.ne rfl).ne rfl).ne rfl).ev ?_)
        refine l_callg (fun v w' => v = .bool false ∧ Low w18 w') (wanted_is (j := 2) (d := 5) (b := true) rfl rfl ((At.hit z1.put.put rfl).ne rfl) rfl) rfl rfl Tryd.func31 rfl (args2 rfl (At.hit z1.put.put.put rfl).ev rfl) (((calls_bool (any_calls p _ (by omega)) (eq_false_of_ne_true hb3))).mono fun _ _ ⟨e, k⟩ => ⟨_, e, rfl, k⟩) ?_
        rintro _ w19 ⟨rfl, h19⟩
        refine l_qg (wanted_is (j := 2) (d := 5) (b := true) rfl rfl (((At.hit z1.put.put rfl).ne rfl).ne rfl) rfl) (q_not (b := false) rfl (At.hit z1.put.put.put.put rfl).ev ?_)
        refine l_q rfl (q_pick (b := true) (.bool true) rfl ((((At.hit z1.put.put rfl).ne rfl).ne rfl).ne rfl).ev (At.hit z1.put.put.put.put.put rfl).ev ?_)
        refine l_q rfl (q_move _ _ rfl (At.hit z1.put.put.put.put.put.put rfl).ev ?_)
        refine l_fresh z1.put.put.put.put.put.put.put.put ?_
        intro a20 z20 m20
        have s0_20 := m20 _ _ ((((((((s0_1.ne rfl).ne rfl).ne rfl).ne rfl).ne rfl).ne rfl).ne rfl).ne rfl)
        have s10_20 := m20 _ _ (At.hit z1.put.put.put.put.put.put.put rfl)
        clear m20
        refine l_qg (wanted_is (j := 7) (d := 10) (b := true) rfl rfl s10_20 rfl) (q_move _ _ rfl s0_20.ev ?_)
        refine l_qg (wanted_is (j := 7) (d := 10) (b := true) rfl rfl (s10_20.ne rfl) rfl) (q_strne false rfl (At.hit z20 rfl).ev rfl (by rw [strT (Decidable.not_not.1 hb8)]; rfl) ?_)
        refine l_q rfl (q_pick (b := true) (.bool false) rfl ((s10_20.ne rfl).ne rfl).ev (At.hit z20.put rfl).ev ?_)
        refine l_q rfl (q_move _ _ rfl (At.hit z20.put.put rfl).ev ?_)
        refine l_skip (wanted_is (j := 11) (d := 14) (b := false) rfl rfl (At.hit z20.put.put.put rfl) rfl) ?_
        refine l_skip (wanted_is (j := 11) (d := 14) (b := false) rfl rfl ((At.hit z20.put.put.put rfl).ne rfl) rfl) ?_
        refine l_q rfl (q_pick (b := false) (.bool false) rfl (((At.hit z20.put.put.put rfl).ne rfl).ne rfl).ev rfl ?_)
        refine l_q rfl (q_assign _ _ rfl (At.hit z20.put.put.put.put.put.put rfl).ev ?_)
        refine l_end ?_
        refine e_fresh z20.put.put.put.put.put.put.put.put ?_
        intro a21 z21 m21
        have s2_21 := m21 _ _ (At.hit z20.put.put.put.put.put.put.put rfl)
        have low21 := (h18.trans h19)
        clear m21
        refine e_then ?_
        refine wp_ret ?_
        refine r_tmp rfl z21.defers s2_21 ?_
        exact ⟨by unfold entryB; simp [hb2, hb3, hb8], low21⟩
  · skip
    refine c_region ?_
    refine l_q rfl (q_move _ _ rfl s0_1.ev ?_)
    refine l_call (fun v w' => v = .bool false ∧ Low w0 w') rfl rfl rfl Tryd.func30 rfl (args1 rfl (At.hit z1 rfl).ev) (((calls_bool (NameW.calls p _) (eq_false_of_ne_true hb2))).mono fun _ _ ⟨e, k⟩ => ⟨_, e, rfl, k⟩) ?_
    rintro _ w22 ⟨rfl, h22⟩
    refine l_q rfl (q_move _ _ rfl (At.hit z1.put rfl).ev ?_)
    refine l_skip (wanted_is (j := 2) (d := 5) (b := false) rfl rfl (At.hit z1.put.put rfl) rfl) ?_
    refine l_skip (wanted_is (j := 2) (d := 5) (b := false) rfl rfl ((At.hit z1.put.put rfl).ne rfl) rfl) ?_
    refine l_skip (wanted_is (j := 2) (d := 5) (b := false) rfl rfl (((At.hit z1.put.put rfl).ne rfl).ne rfl) rfl) ?_
    refine l_q rfl (q_pick (b := false) (.bool false) rfl ((((At.hit z1.put.put rfl).ne rfl).ne rfl).ne rfl).ev rfl ?_)
    refine l_q rfl (q_move _ _ rfl (At.hit z1.put.put.put.put.put.put rfl).ev ?_)
    refine l_fresh z1.put.put.put.put.put.put.put.put ?_
    intro a23 z23 m23
    have s0_23 := m23 _ _ ((((((((s0_1.ne rfl).ne rfl).ne rfl).ne rfl).ne rfl).ne rfl).ne rfl).ne rfl)
    have s10_23 := m23 _ _ (At.hit z1.put.put.put.put.put.put.put rfl)
    clear m23
    refine l_skip (wanted_is (j := 7) (d := 10) (b := false) rfl rfl s10_23 rfl) ?_
    refine l_skip (wanted_is (j := 7) (d := 10) (b := false) rfl rfl (s10_23.ne rfl) rfl) ?_
    refine l_q rfl (q_pick (b := false) (.bool false) rfl ((s10_23.ne rfl).ne rfl).ev rfl ?_)
    refine l_q rfl (q_move _ _ rfl (At.hit z23.put.put rfl).ev ?_)
    refine l_skip (wanted_is (j := 11) (d := 14) (b := false) rfl rfl (At.hit z23.put.put.put rfl) rfl) ?_
    refine l_skip (wanted_is (j := 11) (d := 14) (b := false) rfl rfl ((At.hit z23.put.put.put rfl).ne rfl) rfl) ?_
    refine l_q rfl (q_pick (b := false) (.bool false) rfl (((At.hit z23.put.put.put rfl).ne rfl).ne rfl).ev rfl ?_)
    refine l_q rfl (q_assign _ _ rfl (At.hit z23.put.put.put.put.put.put rfl).ev ?_)
    refine l_end ?_
    refine e_fresh z23.put.put.put.put.put.put.put.put ?_
    intro a24 z24 m24
    have s2_24 := m24 _ _ (At.hit z23.put.put.put.put.put.put.put rfl)
    have low24 := h22
    clear m24
    refine e_then ?_
    refine wp_ret ?_
    refine r_tmp rfl z24.defers s2_24 ?_
    exact ⟨by unfold entryB; simp [hb2], low24⟩
theorem NotName.calls (p : ByteArray) (hp : p.size ≤ 1000000) (w0 : World) : Calls Tryd.prog 22 #[.string p] w0 fun e w' => e = .returned (.bool (!entryB p)) ∧ Low w0 w' := by
  refine c_fun (R := _) Tryd.func22 rfl 6 rfl (Nat.le_of_ble_eq_true rfl) ?_
  intro a z hA
  have s0 := hA 0 _ rfl
  clear hA
  refine c_seq ?_
  refine c_region ?_
  refine l_q rfl (q_assign _ _ rfl rfl ?_)
  refine l_end ?_
  refine e_fresh z.put ?_
  intro a1 z1 m1
  have s0_1 := m1 _ _ (s0.ne rfl)
  clear m1
  refine e_then ?_
  refine c_seq ?_
  refine c_region ?_
  refine l_q rfl (q_move _ _ rfl s0_1.ev ?_)
  refine l_call (fun v w' => v = .bool (entryB p) ∧ Low w0 w') rfl rfl rfl Tryd.func23 rfl (args1 rfl (At.hit z1 rfl).ev) ((EntryName.calls p hp _).mono fun _ _ ⟨e, k⟩ => ⟨_, e, rfl, k⟩) ?_
  rintro _ w2 ⟨rfl, h2⟩
  refine l_q rfl (q_not (b := entryB p) rfl (At.hit z1.put rfl).ev ?_)
  refine l_q rfl (q_assign _ _ rfl (At.hit z1.put.put rfl).ev ?_)
  refine l_end ?_
  refine e_fresh z1.put.put.put.put ?_
  intro a3 z3 m3
  have s2_3 := m3 _ _ (At.hit z1.put.put.put rfl)
  have low3 := h2
  clear m3
  refine e_then ?_
  refine wp_ret ?_
  refine r_tmp rfl z3.defers s2_3 ?_
  exact ⟨rfl, low3⟩
theorem IndexS_none.calls (v : Value) (l : List ByteArray) (hl : l.length ≤ 1000000) (p : ByteArray → Bool) (hall : ∀ i, i < l.length → p (l.getD i ByteArray.empty) = false) (w0 : World) (hv : RdF w0 1 v l.length (l.map encS).flatten) (hcl : ∀ (y : ByteArray) (w : World), y ∈ l → Low w0 w → Calls Tryd.prog 22 #[.string y] w fun e w' => e = .returned (.bool (p y)) ∧ Low w w')  : Calls Tryd.prog 29 #[v, .func (.func 22) #[] #[]] w0 fun e w' => e = .returned (.int .i64 (-1)) ∧ Low w0 w' := by
  refine c_fun (R := _) Tryd.func29 rfl 19 rfl (Nat.le_of_ble_eq_true rfl) ?_
  intro a z hA
  have s0 := hA 0 _ rfl
  have s1 := hA 1 _ rfl
  clear hA
  refine c_seq ?_
  refine c_region ?_
  refine l_q rfl (q_assign _ _ rfl rfl ?_)
  refine l_end ?_
  refine e_fresh z.put ?_
  intro a1 z1 m1
  have s0_1 := m1 _ _ (s0.ne rfl)
  have s1_1 := m1 _ _ (s1.ne rfl)
  clear m1
  refine e_then ?_
  refine c_seq ?_
  refine c_seq ?_
  refine c_region ?_
  refine l_q rfl (q_move _ _ rfl s0_1.ev ?_)
  refine l_q rfl (q_lenF rfl rfl Tryd.underlying26 (At.hit z1 rfl).ev hv ?_)
  refine l_q rfl (q_move _ _ rfl rfl ?_)
  refine l_end ?_
  refine e_fresh z1.put.put.put ?_
  intro a2 z2 m2
  have s0_2 := m2 _ _ (((s0_1.ne rfl).ne rfl).ne rfl)
  have s1_2 := m2 _ _ (((s1_1.ne rfl).ne rfl).ne rfl)
  have s7_2 := m2 _ _ ((At.hit z1.put rfl).ne rfl)
  have s8_2 := m2 _ _ (At.hit z1.put.put rfl)
  clear m2
  refine e_then ?_
  refine wp_block ?_
  refine c_loop l.length (fun k a w => Fr 19 a ∧ At a 0 (v) ∧ At a 1 (.func (.func 22) #[] #[]) ∧ At a 7 (.int .i64 ((l.length : Nat) : Int)) ∧ At a 8 (.int .i64 ((k : Nat) : Int)) ∧ Low w0 w) ?_ ?_ ?_
  · exact ⟨z2, s0_2, s1_2, s7_2, s8_2, (Low.refl _)⟩
  · intro k a3 w3 hk3 h
    obtain ⟨z3, s0_3, s1_3, s7_3, s8_3, low3⟩ := h
    clear s0_2 s1_2 s7_2 s8_2 z2
    refine c_seq ?_
    refine c_region ?_
    refine l_q rfl (q_lss true rfl s8_3.ev s7_3.ev (decide_eq_true (by omega)) ?_)
    refine l_end ?_
    refine e_fresh z3.put ?_
    intro a4 z4 m4
    have s0_4 := m4 _ _ (s0_3.ne rfl)
    have s1_4 := m4 _ _ (s1_3.ne rfl)
    have s7_4 := m4 _ _ (s7_3.ne rfl)
    have s8_4 := m4 _ _ (s8_3.ne rfl)
    have s9_4 := m4 _ _ (At.hit z3 rfl)
    clear m4
    refine e_then ?_
    refine c_seq ?_
    refine c_true s9_4 ?_
    refine wp_skip ?_
    refine e_then ?_
    refine c_seq ?_
    refine wp_block ?_
    refine c_seq ?_
    refine c_region ?_
    refine l_q rfl (q_move _ _ rfl s8_4.ev ?_)
    refine l_q rfl (q_assign _ _ rfl (At.hit z4 rfl).ev ?_)
    refine l_end ?_
    refine e_fresh z4.put.put ?_
    intro a5 z5 m5
    have s0_5 := m5 _ _ ((s0_4.ne rfl).ne rfl)
    have s1_5 := m5 _ _ ((s1_4.ne rfl).ne rfl)
    have s5_5 := m5 _ _ (At.hit z4.put rfl)
    have s7_5 := m5 _ _ ((s7_4.ne rfl).ne rfl)
    have s8_5 := m5 _ _ ((s8_4.ne rfl).ne rfl)
    clear m5
    refine e_then ?_
    refine c_seq ?_
    refine c_region ?_
    refine l_q rfl (q_move _ _ rfl s1_5.ev ?_)
    refine l_q rfl (q_move _ _ rfl (s0_5.ne rfl).ev ?_)
    refine l_q rfl (q_move _ _ rfl ((s5_5.ne rfl).ne rfl).ev ?_)
    refine l_q rfl (q_idxF (j := k) rfl Tryd.underlying26 sz9 ((At.hit z5.put rfl).ne rfl).ev (hv.low low3) (At.hit z5.put.put rfl).ev (by omega) ?_)
    refine l_q rfl (q_ld1 (u := .string (l.getD k ByteArray.empty)) rfl Tryd.underlying9 rfl (At.hit z5.put.put.put rfl).ev (fun _ e => by rw [e]; exact (hv.low low3)) (by omega) ((flat_at encS_len ByteArray.empty _ k 0 (by omega) (by decide)).trans rfl) ?_)
    refine l_callV (fun v w' => v = .bool false ∧ Low w3 w') rfl rfl rfl (((((At.hit z5 rfl).ne rfl).ne rfl).ne rfl).ne rfl).ev Tryd.func22 rfl (args1 rfl (At.hit z5.put.put.put.put rfl).ev) (((calls_bool (hcl (l.getD k ByteArray.empty) _ (getD_mem (by omega)) low3) (hall _ (by assumption)))).mono fun _ _ ⟨e, k⟩ => ⟨_, e, rfl, k⟩) ?_
    rintro _ w6 ⟨rfl, h6⟩
    have ov_6 := (hv.low low3).low h6
    refine l_end ?_
    refine e_fresh z5.put.put.put.put.put.put ?_
    intro a7 z7 m7
    have s0_7 := m7 _ _ ((((((s0_5.ne rfl).ne rfl).ne rfl).ne rfl).ne rfl).ne rfl)
    have s1_7 := m7 _ _ ((((((s1_5.ne rfl).ne rfl).ne rfl).ne rfl).ne rfl).ne rfl)
    have s5_7 := m7 _ _ ((((((s5_5.ne rfl).ne rfl).ne rfl).ne rfl).ne rfl).ne rfl)
    have s7_7 := m7 _ _ ((((((s7_5.ne rfl).ne rfl).ne rfl).ne rfl).ne rfl).ne rfl)
    have s8_7 := m7 _ _ ((((((s8_5.ne rfl).ne rfl).ne rfl).ne rfl).ne rfl).ne rfl)
    have s16_7 := m7 _ _ (At.hit z5.put.put.put.put.put rfl)
    have low7 := (low3.trans h6)
    clear m7
    refine e_then ?_
    refine c_false s16_7 ?_
    refine wp_skip ?_
    refine e_in ?_
    refine e_then ?_
    refine c_region ?_
    refine l_q rfl (q_add (((k + 1 : Nat) : Int)) rfl s8_7.ev rfl (i64_is (by omega) (by omega) (by omega)) ?_)
    refine l_q rfl (q_move _ _ rfl (At.hit z7 rfl).ev ?_)
    refine l_end ?_
    refine e_fresh z7.put.put ?_
    intro a8 z8 m8
    have s0_8 := m8 _ _ ((s0_7.ne rfl).ne rfl)
    have s1_8 := m8 _ _ ((s1_7.ne rfl).ne rfl)
    have s7_8 := m8 _ _ ((s7_7.ne rfl).ne rfl)
    have s8_8 := m8 _ _ (At.hit z7.put rfl)
    clear m8
    exact ⟨z8, s0_8, s1_8, s7_8, s8_8, low7⟩
  · intro a9 w9 h
    obtain ⟨z9, s0_9, s1_9, s7_9, s8_9, low9⟩ := h
    clear s0_2 s1_2 s7_2 s8_2 z2
    refine c_seq ?_
    refine c_region ?_
    refine l_q rfl (q_lss false rfl s8_9.ev s7_9.ev (decide_eq_false (by omega)) ?_)
    refine l_end ?_
    refine e_fresh z9.put ?_
    intro a10 z10 m10
    have s0_10 := m10 _ _ (s0_9.ne rfl)
    have s1_10 := m10 _ _ (s1_9.ne rfl)
    have s8_10 := m10 _ _ (s8_9.ne rfl)
    have s9_10 := m10 _ _ (At.hit z9 rfl)
    clear m10
    refine e_then ?_
    refine c_seq ?_
    refine c_false s9_10 ?_
    refine wp_exit ?_
    refine x_then ?_
    refine x_then ?_
    refine in_exit ?_
    refine e_then ?_
    refine c_seq ?_
    refine c_region ?_
    refine l_q rfl (q_assign _ _ rfl rfl ?_)
    refine l_end ?_
    refine e_fresh z10.put ?_
    intro a11 z11 m11
    have s4_11 := m11 _ _ (At.hit z10 rfl)
    clear m11
    refine e_then ?_
    refine wp_ret ?_
    refine r_tmp rfl z11.defers s4_11 ?_
    exact ⟨rfl, low9⟩
theorem IndexS_at.calls (v : Value) (l : List ByteArray) (hl : l.length ≤ 1000000) (p : ByteArray → Bool) (j : Nat) (hj : j < l.length) (hyes : p (l.getD j ByteArray.empty) = true) (hall : ∀ i, i < j → p (l.getD i ByteArray.empty) = false) (w0 : World) (hv : RdF w0 1 v l.length (l.map encS).flatten) (hcl : ∀ (y : ByteArray) (w : World), y ∈ l → Low w0 w → Calls Tryd.prog 22 #[.string y] w fun e w' => e = .returned (.bool (p y)) ∧ Low w w')  : Calls Tryd.prog 29 #[v, .func (.func 22) #[] #[]] w0 fun e w' => e = .returned (.int .i64 (j : Int)) ∧ Low w0 w' := by
  refine c_fun (R := _) Tryd.func29 rfl 19 rfl (Nat.le_of_ble_eq_true rfl) ?_
  intro a z hA
  have s0 := hA 0 _ rfl
  have s1 := hA 1 _ rfl
  clear hA
  refine c_seq ?_
  refine c_region ?_
  refine l_q rfl (q_assign _ _ rfl rfl ?_)
  refine l_end ?_
  refine e_fresh z.put ?_
  intro a1 z1 m1
  have s0_1 := m1 _ _ (s0.ne rfl)
  have s1_1 := m1 _ _ (s1.ne rfl)
  clear m1
  refine e_then ?_
  refine c_seq ?_
  refine c_seq ?_
  refine c_region ?_
  refine l_q rfl (q_move _ _ rfl s0_1.ev ?_)
  refine l_q rfl (q_lenF rfl rfl Tryd.underlying26 (At.hit z1 rfl).ev hv ?_)
  refine l_q rfl (q_move _ _ rfl rfl ?_)
  refine l_end ?_
  refine e_fresh z1.put.put.put ?_
  intro a2 z2 m2
  have s0_2 := m2 _ _ (((s0_1.ne rfl).ne rfl).ne rfl)
  have s1_2 := m2 _ _ (((s1_1.ne rfl).ne rfl).ne rfl)
  have s7_2 := m2 _ _ ((At.hit z1.put rfl).ne rfl)
  have s8_2 := m2 _ _ (At.hit z1.put.put rfl)
  clear m2
  refine e_then ?_
  refine wp_block ?_
  refine c_loop j (fun k a w => Fr 19 a ∧ At a 0 (v) ∧ At a 1 (.func (.func 22) #[] #[]) ∧ At a 7 (.int .i64 ((l.length : Nat) : Int)) ∧ At a 8 (.int .i64 ((k : Nat) : Int)) ∧ Low w0 w) ?_ ?_ ?_
  · exact ⟨z2, s0_2, s1_2, s7_2, s8_2, (Low.refl _)⟩
  · intro k a3 w3 hk3 h
    obtain ⟨z3, s0_3, s1_3, s7_3, s8_3, low3⟩ := h
    clear s0_2 s1_2 s7_2 s8_2 z2
    refine c_seq ?_
    refine c_region ?_
    refine l_q rfl (q_lss true rfl s8_3.ev s7_3.ev (decide_eq_true (by omega)) ?_)
    refine l_end ?_
    refine e_fresh z3.put ?_
    intro a4 z4 m4
    have s0_4 := m4 _ _ (s0_3.ne rfl)
    have s1_4 := m4 _ _ (s1_3.ne rfl)
    have s7_4 := m4 _ _ (s7_3.ne rfl)
    have s8_4 := m4 _ _ (s8_3.ne rfl)
    have s9_4 := m4 _ _ (At.hit z3 rfl)
    clear m4
    refine e_then ?_
    refine c_seq ?_
    refine c_true s9_4 ?_
    refine wp_skip ?_
    refine e_then ?_
    refine c_seq ?_
    refine wp_block ?_
    refine c_seq ?_
    refine c_region ?_
    refine l_q rfl (q_move _ _ rfl s8_4.ev ?_)
    refine l_q rfl (q_assign _ _ rfl (At.hit z4 rfl).ev ?_)
    refine l_end ?_
    refine e_fresh z4.put.put ?_
    intro a5 z5 m5
    have s0_5 := m5 _ _ ((s0_4.ne rfl).ne rfl)
    have s1_5 := m5 _ _ ((s1_4.ne rfl).ne rfl)
    have s5_5 := m5 _ _ (At.hit z4.put rfl)
    have s7_5 := m5 _ _ ((s7_4.ne rfl).ne rfl)
    have s8_5 := m5 _ _ ((s8_4.ne rfl).ne rfl)
    clear m5
    refine e_then ?_
    refine c_seq ?_
    refine c_region ?_
    refine l_q rfl (q_move _ _ rfl s1_5.ev ?_)
    refine l_q rfl (q_move _ _ rfl (s0_5.ne rfl).ev ?_)
    refine l_q rfl (q_move _ _ rfl ((s5_5.ne rfl).ne rfl).ev ?_)
    refine l_q rfl (q_idxF (j := k) rfl Tryd.underlying26 sz9 ((At.hit z5.put rfl).ne rfl).ev (hv.low low3) (At.hit z5.put.put rfl).ev (by omega) ?_)
    refine l_q rfl (q_ld1 (u := .string (l.getD k ByteArray.empty)) rfl Tryd.underlying9 rfl (At.hit z5.put.put.put rfl).ev (fun _ e => by rw [e]; exact (hv.low low3)) (by omega) ((flat_at encS_len ByteArray.empty _ k 0 (by omega) (by decide)).trans rfl) ?_)
    refine l_callV (fun v w' => v = .bool false ∧ Low w3 w') rfl rfl rfl (((((At.hit z5 rfl).ne rfl).ne rfl).ne rfl).ne rfl).ev Tryd.func22 rfl (args1 rfl (At.hit z5.put.put.put.put rfl).ev) (((calls_bool (hcl (l.getD k ByteArray.empty) _ (getD_mem (by omega)) low3) (hall _ (by assumption)))).mono fun _ _ ⟨e, k⟩ => ⟨_, e, rfl, k⟩) ?_
    rintro _ w6 ⟨rfl, h6⟩
    have ov_6 := (hv.low low3).low h6
    refine l_end ?_
    refine e_fresh z5.put.put.put.put.put.put ?_
    intro a7 z7 m7
    have s0_7 := m7 _ _ ((((((s0_5.ne rfl).ne rfl).ne rfl).ne rfl).ne rfl).ne rfl)
    have s1_7 := m7 _ _ ((((((s1_5.ne rfl).ne rfl).ne rfl).ne rfl).ne rfl).ne rfl)
    have s5_7 := m7 _ _ ((((((s5_5.ne rfl).ne rfl).ne rfl).ne rfl).ne rfl).ne rfl)
    have s7_7 := m7 _ _ ((((((s7_5.ne rfl).ne rfl).ne rfl).ne rfl).ne rfl).ne rfl)
    have s8_7 := m7 _ _ ((((((s8_5.ne rfl).ne rfl).ne rfl).ne rfl).ne rfl).ne rfl)
    have s16_7 := m7 _ _ (At.hit z5.put.put.put.put.put rfl)
    have low7 := (low3.trans h6)
    clear m7
    refine e_then ?_
    refine c_false s16_7 ?_
    refine wp_skip ?_
    refine e_in ?_
    refine e_then ?_
    refine c_region ?_
    refine l_q rfl (q_add (((k + 1 : Nat) : Int)) rfl s8_7.ev rfl (i64_is (by omega) (by omega) (by omega)) ?_)
    refine l_q rfl (q_move _ _ rfl (At.hit z7 rfl).ev ?_)
    refine l_end ?_
    refine e_fresh z7.put.put ?_
    intro a8 z8 m8
    have s0_8 := m8 _ _ ((s0_7.ne rfl).ne rfl)
    have s1_8 := m8 _ _ ((s1_7.ne rfl).ne rfl)
    have s7_8 := m8 _ _ ((s7_7.ne rfl).ne rfl)
    have s8_8 := m8 _ _ (At.hit z7.put rfl)
    clear m8
    exact ⟨z8, s0_8, s1_8, s7_8, s8_8, low7⟩
  · intro a9 w9 h
    obtain ⟨z9, s0_9, s1_9, s7_9, s8_9, low9⟩ := h
    clear s0_2 s1_2 s7_2 s8_2 z2
    refine c_seq ?_
    refine c_region ?_
    refine l_q rfl (q_lss true rfl s8_9.ev s7_9.ev (decide_eq_true (by omega)) ?_)
    refine l_end ?_
    refine e_fresh z9.put ?_
    intro a10 z10 m10
    have s0_10 := m10 _ _ (s0_9.ne rfl)
    have s1_10 := m10 _ _ (s1_9.ne rfl)
    have s8_10 := m10 _ _ (s8_9.ne rfl)
    have s9_10 := m10 _ _ (At.hit z9 rfl)
    clear m10
    refine e_then ?_
    refine c_seq ?_
    refine c_true s9_10 ?_
    refine wp_skip ?_
    refine e_then ?_
    refine c_seq ?_
    refine wp_block ?_
    refine c_seq ?_
    refine c_region ?_
    refine l_q rfl (q_move _ _ rfl s8_10.ev ?_)
    refine l_q rfl (q_assign _ _ rfl (At.hit z10 rfl).ev ?_)
    refine l_end ?_
    refine e_fresh z10.put.put ?_
    intro a11 z11 m11
    have s0_11 := m11 _ _ ((s0_10.ne rfl).ne rfl)
    have s1_11 := m11 _ _ ((s1_10.ne rfl).ne rfl)
    have s5_11 := m11 _ _ (At.hit z10.put rfl)
    have s8_11 := m11 _ _ ((s8_10.ne rfl).ne rfl)
    clear m11
    refine e_then ?_
    refine c_seq ?_
    refine c_region ?_
    refine l_q rfl (q_move _ _ rfl s1_11.ev ?_)
    refine l_q rfl (q_move _ _ rfl (s0_11.ne rfl).ev ?_)
    refine l_q rfl (q_move _ _ rfl ((s5_11.ne rfl).ne rfl).ev ?_)
    refine l_q rfl (q_idxF (j := j) rfl Tryd.underlying26 sz9 ((At.hit z11.put rfl).ne rfl).ev (hv.low low9) (At.hit z11.put.put rfl).ev (by omega) ?_)
    refine l_q rfl (q_ld1 (u := .string (l.getD j ByteArray.empty)) rfl Tryd.underlying9 rfl (At.hit z11.put.put.put rfl).ev (fun _ e => by rw [e]; exact (hv.low low9)) (by omega) ((flat_at encS_len ByteArray.empty _ j 0 (by omega) (by decide)).trans rfl) ?_)
    refine l_callV (fun v w' => v = .bool true ∧ Low w9 w') rfl rfl rfl (((((At.hit z11 rfl).ne rfl).ne rfl).ne rfl).ne rfl).ev Tryd.func22 rfl (args1 rfl (At.hit z11.put.put.put.put rfl).ev) (((calls_bool (hcl (l.getD j ByteArray.empty) _ (getD_mem (by omega)) low9) hyes)).mono fun _ _ ⟨e, k⟩ => ⟨_, e, rfl, k⟩) ?_
    rintro _ w12 ⟨rfl, h12⟩
    have ov_12 := (hv.low low9).low h12
    refine l_end ?_
    refine e_fresh z11.put.put.put.put.put.put ?_
    intro a13 z13 m13
    have s5_13 := m13 _ _ ((((((s5_11.ne rfl).ne rfl).ne rfl).ne rfl).ne rfl).ne rfl)
    have s8_13 := m13 _ _ ((((((s8_11.ne rfl).ne rfl).ne rfl).ne rfl).ne rfl).ne rfl)
    have s16_13 := m13 _ _ (At.hit z11.put.put.put.put.put rfl)
    have low13 := (low9.trans h12)
    clear m13
    refine e_then ?_
    refine c_true s16_13 ?_
    refine c_seq ?_
    refine c_region ?_
    refine l_q rfl (q_move _ _ rfl s5_13.ev ?_)
    refine l_q rfl (q_assign _ _ rfl (At.hit z13 rfl).ev ?_)
    refine l_end ?_
    refine e_fresh z13.put.put ?_
    intro a14 z14 m14
    have s4_14 := m14 _ _ (At.hit z13.put rfl)
    clear m14
    refine e_then ?_
    refine wp_ret ?_
    refine ret_in ?_
    refine ret_then ?_
    refine ret_then ?_
    refine ret_in ?_
    refine ret_then ?_
    refine r_tmp rfl z14.defers s4_14 ?_
    exact ⟨rfl, low13⟩
theorem IndexS.calls (v : Value) (l : List ByteArray) (hl : l.length ≤ 1000000) (p : ByteArray → Bool) (w0 : World) (hv : RdF w0 1 v l.length (l.map encS).flatten) (hcl : ∀ (y : ByteArray) (w : World), y ∈ l → Low w0 w → Calls Tryd.prog 22 #[.string y] w fun e w' => e = .returned (.bool (p y)) ∧ Low w w')  : Calls Tryd.prog 29 #[v, .func (.func 22) #[] #[]] w0 fun e w' => e = .returned (.int .i64 (idxS l p)) ∧ Low w0 w' := by
  by_cases h : l.findIdx p < l.length
  · unfold idxS
    rw [if_pos h]
    exact IndexS_at.calls v l hl p (l.findIdx p) h (idxS_at h) (fun i hi => idxS_round i hi) w0 hv hcl
  · unfold idxS
    rw [if_neg h]
    exact IndexS_none.calls v l hl p (fun i hi => idxS_round i (Nat.lt_of_lt_of_le hi (Nat.le_of_not_lt h))) w0 hv hcl
theorem ContainsS.calls (v : Value) (l : List ByteArray) (hl : l.length ≤ 1000000) (p : ByteArray → Bool) (w0 : World) (hv : RdF w0 1 v l.length (l.map encS).flatten) (hcl : ∀ (y : ByteArray) (w : World), y ∈ l → Low w0 w → Calls Tryd.prog 22 #[.string y] w fun e w' => e = .returned (.bool (p y)) ∧ Low w w')  : Calls Tryd.prog 21 #[v, .func (.func 22) #[] #[]] w0 fun e w' => e = .returned (.bool (l.any p)) ∧ Low w0 w' := by
  refine c_fun (R := _) Tryd.func21 rfl 9 rfl (Nat.le_of_ble_eq_true rfl) ?_
  intro a z hA
  have s0 := hA 0 _ rfl
  have s1 := hA 1 _ rfl
  clear hA
  refine c_seq ?_
  refine c_region ?_
  refine l_q rfl (q_assign _ _ rfl rfl ?_)
  refine l_end ?_
  refine e_fresh z.put ?_
  intro a1 z1 m1
  have s0_1 := m1 _ _ (s0.ne rfl)
  have s1_1 := m1 _ _ (s1.ne rfl)
  clear m1
  refine e_then ?_
  refine c_seq ?_
  refine c_region ?_
  refine l_q rfl (q_move _ _ rfl s0_1.ev ?_)
  refine l_q rfl (q_move _ _ rfl (s1_1.ne rfl).ev ?_)
  refine l_call (fun v w' => v = .int .i64 (idxS l p) ∧ Low w0 w') rfl rfl rfl Tryd.func29 rfl (args2 rfl ((At.hit z1 rfl).ne rfl).ev (At.hit z1.put rfl).ev) ((IndexS.calls v l hl p _ hv (fun y w hy h => hcl y w hy ((Low.refl _).trans h))).mono fun _ _ ⟨e, k⟩ => ⟨_, e, rfl, k⟩) ?_
  rintro _ w2 ⟨rfl, h2⟩
  have ov_2 := hv.low h2
  refine l_q rfl (q_geq _ rfl (At.hit z1.put.put rfl).ev rfl rfl ?_)
  refine l_q rfl (q_assign _ _ rfl (At.hit z1.put.put.put rfl).ev ?_)
  refine l_end ?_
  refine e_fresh z1.put.put.put.put.put ?_
  intro a3 z3 m3
  have s4_3 := m3 _ _ (At.hit z1.put.put.put.put rfl)
  have low3 := h2
  clear m3
  refine e_then ?_
  refine wp_ret ?_
  refine r_tmp rfl z3.defers s4_3 ?_
  exact ⟨by rw [idxS_any], low3⟩
theorem Path.calls (s : ByteArray) (hs : s.size ≤ 1000000) (w0 : World) (hG : Gd w0) : Calls Tryd.prog 13 #[.string s] w0 fun e w' => e = .returned (.bool (pathB s)) ∧ Low w0 w' := by
  refine c_fun (R := _) Tryd.func13 rfl 23 rfl (Nat.le_of_ble_eq_true rfl) ?_
  intro a z hA
  have s0 := hA 0 _ rfl
  clear hA
  refine c_seq ?_
  refine c_region ?_
  refine l_q rfl (q_assign _ _ rfl rfl ?_)
  refine l_end ?_
  refine e_fresh z.put ?_
  intro a1 z1 m1
  have s0_1 := m1 _ _ (s0.ne rfl)
  clear m1
  refine e_then ?_
  refine c_seq ?_
  refine c_region ?_
  refine l_q rfl (q_move _ _ rfl s0_1.ev ?_)
  refine l_call _ rfl rfl rfl Tryd.func20 rfl (args2 rfl (At.hit z1 rfl).ev rfl) (split_calls s _ (by omega) (Gd.low hG (Low.refl _))) ?_
  rintro v2 w2 ⟨o2, h2⟩
  refine l_q rfl (q_assign _ _ rfl (At.hit z1.put rfl).ev ?_)
  refine l_end ?_
  refine e_fresh z1.put.put.put ?_
  intro a3 z3 m3
  have s0_3 := m3 _ _ (((s0_1.ne rfl).ne rfl).ne rfl)
  have s3_3 := m3 _ _ (At.hit z1.put.put rfl)
  have low3 := h2
  clear m3
  refine e_then ?_
  refine c_seq ?_
  by_cases hb4 : ¬ s = (⟨#[]⟩ : ByteArray)
  · skip
    by_cases hb5 : s.size ≤ 255
    · skip
      by_cases hb6 : (partsB s).length ≤ 8
      · skip
        refine c_region ?_
        refine l_q rfl (q_move _ _ rfl s0_3.ev ?_)
        refine l_q rfl (q_strne true rfl (At.hit z3 rfl).ev rfl (by rw [strF hb4]; rfl) ?_)
        refine l_q rfl (q_move _ _ rfl (At.hit z3.put rfl).ev ?_)
        refine l_qg (wanted_is (j := 2) (d := 8) (b := true) rfl rfl (At.hit z3.put.put rfl) rfl) (q_move _ _ rfl (((s0_3.ne rfl).ne rfl).ne rfl).ev ?_)
        refine l_qg (wanted_is (j := 2) (d := 8) (b := true) rfl rfl ((At.hit z3.put.put rfl).ne rfl) rfl) (q_len rfl rfl Tryd.underlying9 (At.hit z3.put.put.put rfl).ev ?_)
        refine l_qg (wanted_is (j := 2) (d := 8) (b := true) rfl rfl (((At.hit z3.put.put rfl).ne rfl).ne rfl) rfl) (q_leq true rfl (At.hit z3.put.put.put.put rfl).ev rfl (decide_eq_true (by omega)) ?_)
        refine l_q rfl (q_pick (b := true) (.bool true) rfl ((((At.hit z3.put.put rfl).ne rfl).ne rfl).ne rfl).ev (At.hit z3.put.put.put.put.put rfl).ev ?_)
        refine l_q rfl (q_move _ _ rfl (At.hit z3.put.put.put.put.put.put rfl).ev ?_)
        refine l_fresh z3.put.put.put.put.put.put.put.put ?_
        intro a7 z7 m7
        have s3_7 := m7 _ _ ((((((((s3_3.ne rfl).ne rfl).ne rfl).ne rfl).ne rfl).ne rfl).ne rfl).ne rfl)
        have s13_7 := m7 _ _ (At.hit z3.put.put.put.put.put.put.put rfl)
        clear m7
        refine l_qg (wanted_is (j := 7) (d := 13) (b := true) rfl rfl s13_7 rfl) (q_move _ _ rfl s3_7.ev ?_)
        refine l_qg (wanted_is (j := 7) (d := 13) (b := true) rfl rfl (s13_7.ne rfl) rfl) (q_lenF rfl rfl Tryd.underlying26 (At.hit z7 rfl).ev o2 ?_)
        refine l_qg (wanted_is (j := 7) (d := 13) (b := true) rfl rfl ((s13_7.ne rfl).ne rfl) rfl) (q_leq true rfl (At.hit z7.put rfl).ev rfl (decide_eq_true (by omega)) ?_)
        refine l_q rfl (q_pick (b := true) (.bool true) rfl (((s13_7.ne rfl).ne rfl).ne rfl).ev (At.hit z7.put.put rfl).ev ?_)
        refine l_q rfl (q_move _ _ rfl (At.hit z7.put.put.put rfl).ev ?_)
        refine l_qg (wanted_is (j := 12) (d := 18) (b := true) rfl rfl (At.hit z7.put.put.put.put rfl) rfl) (q_move _ _ rfl (((((s3_7.ne rfl).ne rfl).ne rfl).ne rfl).ne rfl).ev ?_)
        refine l_callg (fun v w' => v = .bool ((partsB s).any fun p => !entryB p) ∧ Low w2 w') (wanted_is (j := 12) (d := 18) (b := true) rfl rfl ((At.hit z7.put.put.put.put rfl).ne rfl) rfl) rfl rfl Tryd.func21 rfl (args2 rfl (At.hit z7.put.put.put.put.put rfl).ev rfl) ((ContainsS.calls _ (partsB s) (by omega) (fun p => !entryB p) _ o2 (fun y w hy h => NotName.calls y (Nat.le_trans (parts_size s y hy) hs) w)).mono fun _ _ ⟨e, k⟩ => ⟨_, e, rfl, k⟩) ?_
        rintro _ w8 ⟨rfl, h8⟩
        have ob2_8 := o2.low h8
        refine l_qg (wanted_is (j := 12) (d := 18) (b := true) rfl rfl (((At.hit z7.put.put.put.put rfl).ne rfl).ne rfl) rfl) (q_not (b := (partsB s).any fun p => !entryB p) rfl (At.hit z7.put.put.put.put.put.put rfl).ev ?_)
        refine l_fresh z7.put.put.put.put.put.put.put.put ?_
        intro a9 z9 m9
        have s18_9 := m9 _ _ ((((At.hit z7.put.put.put.put rfl).ne rfl).ne rfl).ne rfl)
        have s21_9 := m9 _ _ (At.hit z7.put.put.put.put.put.put.put rfl)
        clear m9
        refine l_q rfl (q_pick (b := true) (.bool (!((partsB s).any fun p => !entryB p))) rfl s18_9.ev s21_9.ev ?_)
        refine l_q rfl (q_assign _ _ rfl (At.hit z9 rfl).ev ?_)
        refine l_end ?_
        refine e_fresh z9.put.put ?_
        intro a10 z10 m10
        have s2_10 := m10 _ _ (At.hit z9.put rfl)
        have low10 := (low3.trans h8)
        clear m10
        refine e_then ?_
        refine wp_ret ?_
        refine r_tmp rfl z10.defers s2_10 ?_
        exact ⟨by unfold pathB; simp [hb4, hb5, hb6], low10⟩
      · skip
        refine c_region ?_
        refine l_q rfl (q_move _ _ rfl s0_3.ev ?_)
        refine l_q rfl (q_strne true rfl (At.hit z3 rfl).ev rfl (by rw [strF hb4]; rfl) ?_)
        refine l_q rfl (q_move _ _ rfl (At.hit z3.put rfl).ev ?_)
        refine l_qg (wanted_is (j := 2) (d := 8) (b := true) rfl rfl (At.hit z3.put.put rfl) rfl) (q_move _ _ rfl (((s0_3.ne rfl).ne rfl).ne rfl).ev ?_)
        refine l_qg (wanted_is (j := 2) (d := 8) (b := true) rfl rfl ((At.hit z3.put.put rfl).ne rfl) rfl) (q_len rfl rfl Tryd.underlying9 (At.hit z3.put.put.put rfl).ev ?_)
        refine l_qg (wanted_is (j := 2) (d := 8) (b := true) rfl rfl (((At.hit z3.put.put rfl).ne rfl).ne rfl) rfl) (q_leq true rfl (At.hit z3.put.put.put.put rfl).ev rfl (decide_eq_true (by omega)) ?_)
        refine l_q rfl (q_pick (b := true) (.bool true) rfl ((((At.hit z3.put.put rfl).ne rfl).ne rfl).ne rfl).ev (At.hit z3.put.put.put.put.put rfl).ev ?_)
        refine l_q rfl (q_move _ _ rfl (At.hit z3.put.put.put.put.put.put rfl).ev ?_)
        refine l_fresh z3.put.put.put.put.put.put.put.put ?_
        intro a11 z11 m11
        have s3_11 := m11 _ _ ((((((((s3_3.ne rfl).ne rfl).ne rfl).ne rfl).ne rfl).ne rfl).ne rfl).ne rfl)
        have s13_11 := m11 _ _ (At.hit z3.put.put.put.put.put.put.put rfl)
        clear m11
        refine l_qg (wanted_is (j := 7) (d := 13) (b := true) rfl rfl s13_11 rfl) (q_move _ _ rfl s3_11.ev ?_)
        refine l_qg (wanted_is (j := 7) (d := 13) (b := true) rfl rfl (s13_11.ne rfl) rfl) (q_lenF rfl rfl Tryd.underlying26 (At.hit z11 rfl).ev o2 ?_)
        refine l_qg (wanted_is (j := 7) (d := 13) (b := true) rfl rfl ((s13_11.ne rfl).ne rfl) rfl) (q_leq false rfl (At.hit z11.put rfl).ev rfl (decide_eq_false (by omega)) ?_)
        refine l_q rfl (q_pick (b := true) (.bool false) rfl (((s13_11.ne rfl).ne rfl).ne rfl).ev (At.hit z11.put.put rfl).ev ?_)
        refine l_q rfl (q_move _ _ rfl (At.hit z11.put.put.put rfl).ev ?_)
        refine l_skip (wanted_is (j := 12) (d := 18) (b := false) rfl rfl (At.hit z11.put.put.put.put rfl) rfl) ?_
        refine l_skip (wanted_is (j := 12) (d := 18) (b := false) rfl rfl ((At.hit z11.put.put.put.put rfl).ne rfl) rfl) ?_
        refine l_skip (wanted_is (j := 12) (d := 18) (b := false) rfl rfl (((At.hit z11.put.put.put.put rfl).ne rfl).ne rfl) rfl) ?_
        refine l_fresh z11.put.put.put.put.put.put.put.put ?_
        intro a12 z12 m12
        have s18_12 := m12 _ _ ((((At.hit z11.put.put.put.put rfl).ne rfl).ne rfl).ne rfl)
        have s21_12 := m12 _ _ (At.hit z11.put.put.put.put.put.put.put rfl)
        clear m12
        refine l_q rfl (q_pick (b := false) (.bool false) rfl s18_12.ev rfl ?_)
        refine l_q rfl (q_assign _ _ rfl (At.hit z12 rfl).ev ?_)
        refine l_end ?_
        refine e_fresh z12.put.put ?_
        intro a13 z13 m13
        have s2_13 := m13 _ _ (At.hit z12.put rfl)
        clear m13
        refine e_then ?_
        refine wp_ret ?_
        refine r_tmp rfl z13.defers s2_13 ?_
        exact ⟨by unfold pathB; simp [hb4, hb5, hb6], low3⟩
    · skip
      refine c_region ?_
      refine l_q rfl (q_move _ _ rfl s0_3.ev ?_)
      refine l_q rfl (q_strne true rfl (At.hit z3 rfl).ev rfl (by rw [strF hb4]; rfl) ?_)
      refine l_q rfl (q_move _ _ rfl (At.hit z3.put rfl).ev ?_)
      refine l_qg (wanted_is (j := 2) (d := 8) (b := true) rfl rfl (At.hit z3.put.put rfl) rfl) (q_move _ _ rfl (((s0_3.ne rfl).ne rfl).ne rfl).ev ?_)
      refine l_qg (wanted_is (j := 2) (d := 8) (b := true) rfl rfl ((At.hit z3.put.put rfl).ne rfl) rfl) (q_len rfl rfl Tryd.underlying9 (At.hit z3.put.put.put rfl).ev ?_)
      refine l_qg (wanted_is (j := 2) (d := 8) (b := true) rfl rfl (((At.hit z3.put.put rfl).ne rfl).ne rfl) rfl) (q_leq false rfl (At.hit z3.put.put.put.put rfl).ev rfl (decide_eq_false (by omega)) ?_)
      refine l_q rfl (q_pick (b := true) (.bool false) rfl ((((At.hit z3.put.put rfl).ne rfl).ne rfl).ne rfl).ev (At.hit z3.put.put.put.put.put rfl).ev ?_)
      refine l_q rfl (q_move _ _ rfl (At.hit z3.put.put.put.put.put.put rfl).ev ?_)
      refine l_fresh z3.put.put.put.put.put.put.put.put ?_
      intro a14 z14 m14
      have s3_14 := m14 _ _ ((((((((s3_3.ne rfl).ne rfl).ne rfl).ne rfl).ne rfl).ne rfl).ne rfl).ne rfl)
      have s13_14 := m14 _ _ (At.hit z3.put.put.put.put.put.put.put rfl)
      clear m14
      refine l_skip (wanted_is (j := 7) (d := 13) (b := false) rfl rfl s13_14 rfl) ?_
      refine l_skip (wanted_is (j := 7) (d := 13) (b := false) rfl rfl (s13_14.ne rfl) rfl) ?_
      refine l_skip (wanted_is (j := 7) (d := 13) (b := false) rfl rfl ((s13_14.ne rfl).ne rfl) rfl) ?_
      refine l_q rfl (q_pick (b := false) (.bool false) rfl (((s13_14.ne rfl).ne rfl).ne rfl).ev rfl ?_)
      refine l_q rfl (q_move _ _ rfl (At.hit z14.put.put.put rfl).ev ?_)
      refine l_skip (wanted_is (j := 12) (d := 18) (b := false) rfl rfl (At.hit z14.put.put.put.put rfl) rfl) ?_
      refine l_skip (wanted_is (j := 12) (d := 18) (b := false) rfl rfl ((At.hit z14.put.put.put.put rfl).ne rfl) rfl) ?_
      refine l_skip (wanted_is (j := 12) (d := 18) (b := false) rfl rfl (((At.hit z14.put.put.put.put rfl).ne rfl).ne rfl) rfl) ?_
      refine l_fresh z14.put.put.put.put.put.put.put.put ?_
      intro a15 z15 m15
      have s18_15 := m15 _ _ ((((At.hit z14.put.put.put.put rfl).ne rfl).ne rfl).ne rfl)
      have s21_15 := m15 _ _ (At.hit z14.put.put.put.put.put.put.put rfl)
      clear m15
      refine l_q rfl (q_pick (b := false) (.bool false) rfl s18_15.ev rfl ?_)
      refine l_q rfl (q_assign _ _ rfl (At.hit z15 rfl).ev ?_)
      refine l_end ?_
      refine e_fresh z15.put.put ?_
      intro a16 z16 m16
      have s2_16 := m16 _ _ (At.hit z15.put rfl)
      clear m16
      refine e_then ?_
      refine wp_ret ?_
      refine r_tmp rfl z16.defers s2_16 ?_
      exact ⟨by unfold pathB; simp [hb4, hb5], low3⟩
  · skip
    refine c_region ?_
    refine l_q rfl (q_move _ _ rfl s0_3.ev ?_)
    refine l_q rfl (q_strne false rfl (At.hit z3 rfl).ev rfl (by rw [strT (Decidable.not_not.1 hb4)]; rfl) ?_)
    refine l_q rfl (q_move _ _ rfl (At.hit z3.put rfl).ev ?_)
    refine l_skip (wanted_is (j := 2) (d := 8) (b := false) rfl rfl (At.hit z3.put.put rfl) rfl) ?_
    refine l_skip (wanted_is (j := 2) (d := 8) (b := false) rfl rfl ((At.hit z3.put.put rfl).ne rfl) rfl) ?_
    refine l_skip (wanted_is (j := 2) (d := 8) (b := false) rfl rfl (((At.hit z3.put.put rfl).ne rfl).ne rfl) rfl) ?_
    refine l_q rfl (q_pick (b := false) (.bool false) rfl ((((At.hit z3.put.put rfl).ne rfl).ne rfl).ne rfl).ev rfl ?_)
    refine l_q rfl (q_move _ _ rfl (At.hit z3.put.put.put.put.put.put rfl).ev ?_)
    refine l_fresh z3.put.put.put.put.put.put.put.put ?_
    intro a17 z17 m17
    have s3_17 := m17 _ _ ((((((((s3_3.ne rfl).ne rfl).ne rfl).ne rfl).ne rfl).ne rfl).ne rfl).ne rfl)
    have s13_17 := m17 _ _ (At.hit z3.put.put.put.put.put.put.put rfl)
    clear m17
    refine l_skip (wanted_is (j := 7) (d := 13) (b := false) rfl rfl s13_17 rfl) ?_
    refine l_skip (wanted_is (j := 7) (d := 13) (b := false) rfl rfl (s13_17.ne rfl) rfl) ?_
    refine l_skip (wanted_is (j := 7) (d := 13) (b := false) rfl rfl ((s13_17.ne rfl).ne rfl) rfl) ?_
    refine l_q rfl (q_pick (b := false) (.bool false) rfl (((s13_17.ne rfl).ne rfl).ne rfl).ev rfl ?_)
    refine l_q rfl (q_move _ _ rfl (At.hit z17.put.put.put rfl).ev ?_)
    refine l_skip (wanted_is (j := 12) (d := 18) (b := false) rfl rfl (At.hit z17.put.put.put.put rfl) rfl) ?_
    refine l_skip (wanted_is (j := 12) (d := 18) (b := false) rfl rfl ((At.hit z17.put.put.put.put rfl).ne rfl) rfl) ?_
    refine l_skip (wanted_is (j := 12) (d := 18) (b := false) rfl rfl (((At.hit z17.put.put.put.put rfl).ne rfl).ne rfl) rfl) ?_
    refine l_fresh z17.put.put.put.put.put.put.put.put ?_
    intro a18 z18 m18
    have s18_18 := m18 _ _ ((((At.hit z17.put.put.put.put rfl).ne rfl).ne rfl).ne rfl)
    have s21_18 := m18 _ _ (At.hit z17.put.put.put.put.put.put.put rfl)
    clear m18
    refine l_q rfl (q_pick (b := false) (.bool false) rfl s18_18.ev rfl ?_)
    refine l_q rfl (q_assign _ _ rfl (At.hit z18 rfl).ev ?_)
    refine l_end ?_
    refine e_fresh z18.put.put ?_
    intro a19 z19 m19
    have s2_19 := m19 _ _ (At.hit z18.put rfl)
    clear m19
    refine e_then ?_
    refine wp_ret ?_
    refine r_tmp rfl z19.defers s2_19 ?_
    exact ⟨by unfold pathB; simp [hb4], low3⟩
theorem Right.calls (v : Value) (l : List LfL) (hl : l.length ≤ 1000000) (hsh : shortL l) (w0 : World) (hv : RdF w0 3 v l.length (l.map encL).flatten) (hG : Gd w0) : Calls Tryd.prog 7 #[v] w0 fun e w' => e = .returned (.bool (rightB l)) ∧ Low w0 w' := by
  refine c_fun (R := _) Tryd.func7 rfl 82 rfl (Nat.le_of_ble_eq_true rfl) ?_
  intro a z hA
  have s0 := hA 0 _ rfl
  clear hA
  refine c_seq ?_
  refine c_region ?_
  refine l_q rfl (q_assign _ _ rfl rfl ?_)
  refine l_end ?_
  refine e_fresh z.put ?_
  intro a1 z1 m1
  have s0_1 := m1 _ _ (s0.ne rfl)
  clear m1
  refine e_then ?_
  refine c_seq ?_
  refine c_region ?_
  refine l_makeMap rfl rfl ?_
  intro g10_2 w2 hg2 k2 h2
  have geg10_2 := Nat.le_trans (Low.refl _).ge hg2
  have ov_2 := hv.low h2
  refine l_q rfl (q_assign _ _ rfl (At.hit z1 rfl).ev ?_)
  refine l_end ?_
  refine e_fresh z1.put.put ?_
  intro a3 z3 m3
  have s0_3 := m3 _ _ ((s0_1.ne rfl).ne rfl)
  have s3_3 := m3 _ _ (At.hit z1.put rfl)
  have low3 := h2
  clear m3
  refine e_then ?_
  refine c_seq ?_
  refine c_seq ?_
  refine c_region ?_
  refine l_q rfl (q_move _ _ rfl s0_3.ev ?_)
  refine l_q rfl (q_lenF rfl rfl Tryd.underlying22 (At.hit z3 rfl).ev ov_2 ?_)
  refine l_q rfl (q_move _ _ rfl rfl ?_)
  refine l_end ?_
  refine e_fresh z3.put.put.put ?_
  intro a4 z4 m4
  have s0_4 := m4 _ _ (((s0_3.ne rfl).ne rfl).ne rfl)
  have s3_4 := m4 _ _ (((s3_3.ne rfl).ne rfl).ne rfl)
  have s11_4 := m4 _ _ (((At.hit z3 rfl).ne rfl).ne rfl)
  have s12_4 := m4 _ _ ((At.hit z3.put rfl).ne rfl)
  have s13_4 := m4 _ _ (At.hit z3.put.put rfl)
  clear m4
  refine e_then ?_
  refine wp_block ?_
  refine c_loop (rN l) (fun k a w => Fr 82 a ∧ At a 0 (v) ∧ At a 3 (.map (some g10_2)) ∧ At a 11 (v) ∧ At a 12 (.int .i64 ((l.length : Nat) : Int)) ∧ At a 13 (.int .i64 ((k : Nat) : Int)) ∧ MapIs w g10_2 (mapB (pathsL (l.take k))) ∧ Low w0 w) ?_ ?_ ?_
  · exact ⟨z4, s0_4, s3_4, s11_4, s12_4, s13_4, k2, low3⟩
  · intro k a5 w5 hk5 h
    obtain ⟨z5, s0_5, s3_5, s11_5, s12_5, s13_5, kg10_2_5, low5⟩ := h
    clear k2 low3 s0_4 s11_4 s12_4 s13_4 s3_4 z4
    have hle := rN_le l
    have hra : rAt l k := rN_round (by assumption)
    obtain ⟨hp, hm1, hm2, hlt⟩ := hra
    refine c_seq ?_
    refine c_region ?_
    refine l_q rfl (q_lss true rfl s13_5.ev s12_5.ev (decide_eq_true (by omega)) ?_)
    refine l_end ?_
    refine e_fresh z5.put ?_
    intro a6 z6 m6
    have s0_6 := m6 _ _ (s0_5.ne rfl)
    have s3_6 := m6 _ _ (s3_5.ne rfl)
    have s11_6 := m6 _ _ (s11_5.ne rfl)
    have s12_6 := m6 _ _ (s12_5.ne rfl)
    have s13_6 := m6 _ _ (s13_5.ne rfl)
    have s14_6 := m6 _ _ (At.hit z5 rfl)
    clear m6
    refine e_then ?_
    refine c_seq ?_
    refine c_true s14_6 ?_
    refine wp_skip ?_
    refine e_then ?_
    refine c_seq ?_
    refine wp_block ?_
    refine c_seq ?_
    refine c_region ?_
    refine l_q rfl (q_move _ _ rfl s13_6.ev ?_)
    refine l_q rfl (q_idxF (j := k) rfl Tryd.underlying22 sz34 (s11_6.ne rfl).ev (hv.low low5) (s13_6.ne rfl).ev (by first | omega | decide) ?_)
    refine l_q rfl (q_ldR (vs := [.string ((l.getD k zL).f0), .int .i64 ((l.getD k zL).f1), .string ((l.getD k zL).f2)]) rfl Tryd.underlying34 rfl sz34 (At.hit z6.put rfl).ev (fun _ e => by rw [e]; exact (hv.low low5)) (by first | omega | decide) rfl (flat_part encL_len zL _ k (by first | omega | decide)) ?_)
    refine l_alloc rfl rfl zero34 ?_
    intro g5 w7 hg7 k7 h7
    have lt_g10_2_g5 := Nat.lt_of_lt_of_le kg10_2_5.lt hg7
    have geg5 := Nat.le_trans low5.ge hg7
    have kg10_2_7 := kg10_2_5.low h7
    have ov_7 := (hv.low low5).low h7
    refine l_q rfl (q_assign _ _ rfl ((((At.hit z6 rfl).ne rfl).ne rfl).ne rfl).ev ?_)
    refine l_row rfl rfl rfl (sz34.trans (congrArg some rfl.symm)) ((At.hit z6.put.put.put rfl).ne rfl).ev (((At.hit z6.put.put rfl).ne rfl).ne rfl).ev (by simp [Value.oneCell']) k7 (rfl.trans rfl.symm) ?_
    intro w8 k8 u8
    have kg10_2_8 := kg10_2_7.upd u8 (by omega)
    refine l_end ?_
    refine e_fresh z6.put.put.put.put.put ?_
    intro a9 z9 m9
    have s0_9 := m9 _ _ (((((s0_6.ne rfl).ne rfl).ne rfl).ne rfl).ne rfl)
    have s3_9 := m9 _ _ (((((s3_6.ne rfl).ne rfl).ne rfl).ne rfl).ne rfl)
    have s4_9 := m9 _ _ (At.hit z6.put.put.put.put rfl)
    have s5_9 := m9 _ _ ((At.hit z6.put.put.put rfl).ne rfl)
    have s11_9 := m9 _ _ (((((s11_6.ne rfl).ne rfl).ne rfl).ne rfl).ne rfl)
    have s12_9 := m9 _ _ (((((s12_6.ne rfl).ne rfl).ne rfl).ne rfl).ne rfl)
    have s13_9 := m9 _ _ (((((s13_6.ne rfl).ne rfl).ne rfl).ne rfl).ne rfl)
    have low9 := ((low5.trans h7).upd u8 geg5)
    clear m9
    refine e_then ?_
    refine c_seq ?_
    refine c_seq ?_
    by_cases hb10 : 0 < k
    · skip
      refine region_lowg hm (by kernel_rfl) ?_
      refine gs rfl (q_fld 0 rfl (by kernel_rfl) s5_9.ev ?_)
      refine gs rfl (q_cellT (.string ((l.getD k zL).f0)) rfl Tryd.underlying9 (At.hit z9 rfl).ev (fun _ h => (cells_at (h.blk k8) 0).trans rfl) ?_)
      refine gs rfl (q_call (.bool true) rfl rfl Tryd.func13 rfl (args1 rfl (At.hit z9.put rfl).ev) (fun _ h => ((calls_bool (Path.calls (l.getD k zL).f0 (shortG hsh k) _ (Gd.low hG (low9.trans h))) hp)).mono fun _ _ ⟨e, k⟩ => ⟨e, h.trans k⟩) ?_)
      refine gs rfl (q_not (b := true) rfl (At.hit z9.put.put rfl).ev ?_)
      refine gs rfl (q_move _ _ rfl (At.hit z9.put.put.put rfl).ev ?_)
      refine gsg (wanted_is (j := 4) (d := 22) (b := false) rfl rfl (At.hit z9.put.put.put.put rfl) rfl) (q_fld 1 rfl (by kernel_rfl) (((((s5_9.ne rfl).ne rfl).ne rfl).ne rfl).ne rfl).ev ?_)
      refine gsg (wanted_is (j := 4) (d := 22) (b := false) rfl rfl ((At.hit z9.put.put.put.put rfl).ne rfl) rfl) (q_cell (.int .i64 ((l.getD k zL).f1)) rfl Tryd.underlying3 (At.hit z9.put.put.put.put.put rfl).ev (fun _ h => (cells_at (h.blk k8) 1).trans rfl) ?_)
      refine gsg (wanted_is (j := 4) (d := 22) (b := false) rfl rfl (((At.hit z9.put.put.put.put rfl).ne rfl).ne rfl) rfl) (q_lss false rfl (At.hit z9.put.put.put.put.put.put rfl).ev rfl (decide_eq_false (by omega)) ?_)
      refine g_fresh z9.put.put.put.put.put.put.put.put ?_
      intro a11 z11 m11
      have s0_11 := m11 _ _ ((((((((s0_9.ne rfl).ne rfl).ne rfl).ne rfl).ne rfl).ne rfl).ne rfl).ne rfl)
      have s3_11 := m11 _ _ ((((((((s3_9.ne rfl).ne rfl).ne rfl).ne rfl).ne rfl).ne rfl).ne rfl).ne rfl)
      have s4_11 := m11 _ _ ((((((((s4_9.ne rfl).ne rfl).ne rfl).ne rfl).ne rfl).ne rfl).ne rfl).ne rfl)
      have s5_11 := m11 _ _ ((((((((s5_9.ne rfl).ne rfl).ne rfl).ne rfl).ne rfl).ne rfl).ne rfl).ne rfl)
      have s11_11 := m11 _ _ ((((((((s11_9.ne rfl).ne rfl).ne rfl).ne rfl).ne rfl).ne rfl).ne rfl).ne rfl)
      have s12_11 := m11 _ _ ((((((((s12_9.ne rfl).ne rfl).ne rfl).ne rfl).ne rfl).ne rfl).ne rfl).ne rfl)
      have s13_11 := m11 _ _ ((((((((s13_9.ne rfl).ne rfl).ne rfl).ne rfl).ne rfl).ne rfl).ne rfl).ne rfl)
      have s22_11 := m11 _ _ ((((At.hit z9.put.put.put.put rfl).ne rfl).ne rfl).ne rfl)
      have s25_11 := m11 _ _ (At.hit z9.put.put.put.put.put.put.put rfl)
      clear m11
      refine gs rfl (q_pick (b := false) (.bool false) rfl s22_11.ev s25_11.ev ?_)
      refine gs rfl (q_move _ _ rfl (At.hit z11 rfl).ev ?_)
      refine gsg (wanted_is (j := 9) (d := 27) (b := false) rfl rfl (At.hit z11.put rfl) rfl) (q_fld 1 rfl (by kernel_rfl) ((s5_11.ne rfl).ne rfl).ev ?_)
      refine gsg (wanted_is (j := 9) (d := 27) (b := false) rfl rfl ((At.hit z11.put rfl).ne rfl) rfl) (q_cell (.int .i64 ((l.getD k zL).f1)) rfl Tryd.underlying3 (At.hit z11.put.put rfl).ev (fun _ h => (cells_at (h.blk k8) 1).trans rfl) ?_)
      refine gsg (wanted_is (j := 9) (d := 27) (b := false) rfl rfl (((At.hit z11.put rfl).ne rfl).ne rfl) rfl) (q_gtr false rfl (At.hit z11.put.put.put rfl).ev rfl (decide_eq_false (by omega)) ?_)
      refine gs rfl (q_pick (b := false) (.bool false) rfl ((((At.hit z11.put rfl).ne rfl).ne rfl).ne rfl).ev (At.hit z11.put.put.put.put rfl).ev ?_)
      refine gs rfl (q_move _ _ rfl (At.hit z11.put.put.put.put.put rfl).ev ?_)
      refine gsg (wanted_is (j := 14) (d := 32) (b := false) rfl rfl (At.hit z11.put.put.put.put.put.put rfl) rfl) (q_move _ _ rfl (((((((s4_11.ne rfl).ne rfl).ne rfl).ne rfl).ne rfl).ne rfl).ne rfl).ev ?_)
      refine g_fresh z11.put.put.put.put.put.put.put.put ?_
      intro a12 z12 m12
      have s0_12 := m12 _ _ ((((((((s0_11.ne rfl).ne rfl).ne rfl).ne rfl).ne rfl).ne rfl).ne rfl).ne rfl)
      have s3_12 := m12 _ _ ((((((((s3_11.ne rfl).ne rfl).ne rfl).ne rfl).ne rfl).ne rfl).ne rfl).ne rfl)
      have s4_12 := m12 _ _ ((((((((s4_11.ne rfl).ne rfl).ne rfl).ne rfl).ne rfl).ne rfl).ne rfl).ne rfl)
      have s5_12 := m12 _ _ ((((((((s5_11.ne rfl).ne rfl).ne rfl).ne rfl).ne rfl).ne rfl).ne rfl).ne rfl)
      have s11_12 := m12 _ _ ((((((((s11_11.ne rfl).ne rfl).ne rfl).ne rfl).ne rfl).ne rfl).ne rfl).ne rfl)
      have s12_12 := m12 _ _ ((((((((s12_11.ne rfl).ne rfl).ne rfl).ne rfl).ne rfl).ne rfl).ne rfl).ne rfl)
      have s13_12 := m12 _ _ ((((((((s13_11.ne rfl).ne rfl).ne rfl).ne rfl).ne rfl).ne rfl).ne rfl).ne rfl)
      have s32_12 := m12 _ _ ((At.hit z11.put.put.put.put.put.put rfl).ne rfl)
      have s33_12 := m12 _ _ (At.hit z11.put.put.put.put.put.put.put rfl)
      clear m12
      refine gsg (wanted_is (j := 14) (d := 32) (b := false) rfl rfl s32_12 rfl) (q_gtr true rfl s33_12.ev rfl (decide_eq_true (by omega)) ?_)
      refine gsg (wanted_is (j := 14) (d := 32) (b := false) rfl rfl (s32_12.ne rfl) rfl) (q_move _ _ rfl (At.hit z12 rfl).ev ?_)
      refine gsg (wanted_is (j := 17) (d := 35) (b := true) rfl rfl (At.hit z12.put rfl) rfl) (q_fld 0 rfl (by kernel_rfl) ((s5_12.ne rfl).ne rfl).ev ?_)
      refine gsg (wanted_is (j := 17) (d := 35) (b := true) rfl rfl ((At.hit z12.put rfl).ne rfl) rfl) (q_cellT (.string ((l.getD k zL).f0)) rfl Tryd.underlying9 (At.hit z12.put.put rfl).ev (fun _ h => (cells_at (h.blk k8) 0).trans rfl) ?_)
      refine gsg (wanted_is (j := 17) (d := 35) (b := true) rfl rfl (((At.hit z12.put rfl).ne rfl).ne rfl) rfl) (q_move _ _ rfl ((((s0_12.ne rfl).ne rfl).ne rfl).ne rfl).ev ?_)
      refine gsg (wanted_is (j := 17) (d := 35) (b := true) rfl rfl ((((At.hit z12.put rfl).ne rfl).ne rfl).ne rfl) rfl) (q_move _ _ rfl (((((s4_12.ne rfl).ne rfl).ne rfl).ne rfl).ne rfl).ev ?_)
      refine gsg (wanted_is (j := 17) (d := 35) (b := true) rfl rfl (((((At.hit z12.put rfl).ne rfl).ne rfl).ne rfl).ne rfl) rfl) (q_sub ((((k : Nat) : Int) - 1)) rfl (At.hit z12.put.put.put.put.put rfl).ev rfl (i64_is (by omega) (by omega) (by omega)) ?_)
      refine gsg (wanted_is (j := 17) (d := 35) (b := true) rfl rfl ((((((At.hit z12.put rfl).ne rfl).ne rfl).ne rfl).ne rfl).ne rfl) rfl) (q_idxF (j := k - 1) rfl Tryd.underlying22 sz34 (((At.hit z12.put.put.put.put rfl).ne rfl).ne rfl).ev (hv.low ((low5.trans h7).upd u8 geg5)) ((At.hit z12.put.put.put.put.put.put rfl).same (congrArg (Value.int .i64) (show ((((k : Nat) : Int) - 1) : Int) = ((k - 1 : Nat) : Int) by omega))).ev (by first | omega | decide) ?_)
      refine g_fresh z12.put.put.put.put.put.put.put.put ?_
      intro a13 z13 m13
      have s0_13 := m13 _ _ ((((((((s0_12.ne rfl).ne rfl).ne rfl).ne rfl).ne rfl).ne rfl).ne rfl).ne rfl)
      have s3_13 := m13 _ _ ((((((((s3_12.ne rfl).ne rfl).ne rfl).ne rfl).ne rfl).ne rfl).ne rfl).ne rfl)
      have s5_13 := m13 _ _ ((((((((s5_12.ne rfl).ne rfl).ne rfl).ne rfl).ne rfl).ne rfl).ne rfl).ne rfl)
      have s11_13 := m13 _ _ ((((((((s11_12.ne rfl).ne rfl).ne rfl).ne rfl).ne rfl).ne rfl).ne rfl).ne rfl)
      have s12_13 := m13 _ _ ((((((((s12_12.ne rfl).ne rfl).ne rfl).ne rfl).ne rfl).ne rfl).ne rfl).ne rfl)
      have s13_13 := m13 _ _ ((((((((s13_12.ne rfl).ne rfl).ne rfl).ne rfl).ne rfl).ne rfl).ne rfl).ne rfl)
      have s32_13 := m13 _ _ ((((((((s32_12.ne rfl).ne rfl).ne rfl).ne rfl).ne rfl).ne rfl).ne rfl).ne rfl)
      have s35_13 := m13 _ _ (((((((At.hit z12.put rfl).ne rfl).ne rfl).ne rfl).ne rfl).ne rfl).ne rfl)
      have s37_13 := m13 _ _ (((((At.hit z12.put.put.put rfl).ne rfl).ne rfl).ne rfl).ne rfl)
      have s41_13 := m13 _ _ (At.hit z12.put.put.put.put.put.put.put rfl)
      clear m13
      refine gsg (wanted_is (j := 17) (d := 35) (b := true) rfl rfl s35_13 rfl) (q_fldF 0 rfl fld34_0 s41_13.ev ((hv.low ((low5.trans h7).upd u8 geg5)).form (by first | omega | decide)) ?_)
      refine gsg (wanted_is (j := 17) (d := 35) (b := true) rfl rfl (s35_13.ne rfl) rfl) (q_ld1 (u := .string ((l.getD (k - 1) zL).f0)) rfl Tryd.underlying9 rfl (At.hit z13 rfl).ev (fun _ h => ((hv.low ((low5.trans h7).upd u8 geg5)).low h)) (by first | omega | decide) ((flat_at encL_len zL _ (k - 1) 0 (by first | omega | decide) (by decide)).trans rfl) ?_)
      refine gsg (wanted_is (j := 17) (d := 35) (b := true) rfl rfl ((s35_13.ne rfl).ne rfl) rfl) (q_strleq false rfl ((s37_13.ne rfl).ne rfl).ev (At.hit z13.put rfl).ev (leF (hlt hb10)) ?_)
      refine gsg (wanted_is (j := 14) (d := 32) (b := false) rfl rfl (((s32_13.ne rfl).ne rfl).ne rfl) rfl) (q_pick (b := true) (.bool false) rfl (((s35_13.ne rfl).ne rfl).ne rfl).ev (At.hit z13.put.put rfl).ev ?_)
      refine gs rfl (q_pick (b := false) (.bool false) rfl ((((s32_13.ne rfl).ne rfl).ne rfl).ne rfl).ev (At.hit z13.put.put.put rfl).ev ?_)
      refine gz ?_
      intro w14 h14
      have kg10_2_14 := kg10_2_8.low h14
      have kg5_14 := h14.blk k8
      have ov_14 := (hv.low ((low5.trans h7).upd u8 geg5)).low h14
      refine e_id ?_
      refine e_fresh z13.put.put.put.put.put ?_
      intro a15 z15 m15
      have s0_15 := m15 _ _ (((((s0_13.ne rfl).ne rfl).ne rfl).ne rfl).ne rfl)
      have s3_15 := m15 _ _ (((((s3_13.ne rfl).ne rfl).ne rfl).ne rfl).ne rfl)
      have s5_15 := m15 _ _ (((((s5_13.ne rfl).ne rfl).ne rfl).ne rfl).ne rfl)
      have s11_15 := m15 _ _ (((((s11_13.ne rfl).ne rfl).ne rfl).ne rfl).ne rfl)
      have s12_15 := m15 _ _ (((((s12_13.ne rfl).ne rfl).ne rfl).ne rfl).ne rfl)
      have s13_15 := m15 _ _ (((((s13_13.ne rfl).ne rfl).ne rfl).ne rfl).ne rfl)
      have s46_15 := m15 _ _ (At.hit z13.put.put.put.put rfl)
      have low15 := (low9.trans h14)
      clear m15
      refine e_then ?_
      refine c_false s46_15 ?_
      refine wp_skip ?_
      refine e_then ?_
      refine c_region ?_
      refine l_q rfl (q_move _ _ rfl s3_15.ev ?_)
      refine l_q rfl (q_fld 0 rfl (by kernel_rfl) (s5_15.ne rfl).ev ?_)
      refine l_q rfl (q_cellT (.string ((l.getD k zL).f0)) rfl Tryd.underlying9 (At.hit z15.put rfl).ev (fun _ e => by rw [e]; exact (cells_at kg5_14 0).trans rfl) ?_)
      refine l_mapPut rfl rfl rfl Tryd.underlying36 Tryd.underlying9 (((At.hit z15 rfl).ne rfl).ne rfl).ev (At.hit z15.put.put rfl).ev rfl kg10_2_14 ?_
      intro w16 k16 u16
      replace k16 : MapIs w16 g10_2 (mput (mapB (pathsL (l.take k))) ((l.getD k zL).f0) (.bool true)) := k16
      have kg5_16 := u16.blk kg5_14 (by omega)
      refine l_end ?_
      refine e_fresh z15.put.put.put ?_
      intro a17 z17 m17
      have s0_17 := m17 _ _ (((s0_15.ne rfl).ne rfl).ne rfl)
      have s3_17 := m17 _ _ (((s3_15.ne rfl).ne rfl).ne rfl)
      have s11_17 := m17 _ _ (((s11_15.ne rfl).ne rfl).ne rfl)
      have s12_17 := m17 _ _ (((s12_15.ne rfl).ne rfl).ne rfl)
      have s13_17 := m17 _ _ (((s13_15.ne rfl).ne rfl).ne rfl)
      have low17 := (low15.upd u16 geg10_2)
      clear m17
      refine e_in ?_
      refine e_then ?_
      refine c_region ?_
      refine l_q rfl (q_add (((k + 1 : Nat) : Int)) rfl s13_17.ev rfl (i64_is (by omega) (by omega) (by omega)) ?_)
      refine l_q rfl (q_move _ _ rfl (At.hit z17 rfl).ev ?_)
      refine l_end ?_
      refine e_fresh z17.put.put ?_
      intro a18 z18 m18
      have s0_18 := m18 _ _ ((s0_17.ne rfl).ne rfl)
      have s3_18 := m18 _ _ ((s3_17.ne rfl).ne rfl)
      have s11_18 := m18 _ _ ((s11_17.ne rfl).ne rfl)
      have s12_18 := m18 _ _ ((s12_17.ne rfl).ne rfl)
      have s13_18 := m18 _ _ (At.hit z17.put rfl)
      clear m18
      rw [mapB_snoc, pathsL_next l k (by omega)] at k16
      exact ⟨z18, s0_18, s3_18, s11_18, s12_18, s13_18, k16, low17⟩
    · skip
      refine region_lowg hm (by kernel_rfl) ?_
      refine gs rfl (q_fld 0 rfl (by kernel_rfl) s5_9.ev ?_)
      refine gs rfl (q_cellT (.string ((l.getD k zL).f0)) rfl Tryd.underlying9 (At.hit z9 rfl).ev (fun _ h => (cells_at (h.blk k8) 0).trans rfl) ?_)
      refine gs rfl (q_call (.bool true) rfl rfl Tryd.func13 rfl (args1 rfl (At.hit z9.put rfl).ev) (fun _ h => ((calls_bool (Path.calls (l.getD k zL).f0 (shortG hsh k) _ (Gd.low hG (low9.trans h))) hp)).mono fun _ _ ⟨e, k⟩ => ⟨e, h.trans k⟩) ?_)
      refine gs rfl (q_not (b := true) rfl (At.hit z9.put.put rfl).ev ?_)
      refine gs rfl (q_move _ _ rfl (At.hit z9.put.put.put rfl).ev ?_)
      refine gsg (wanted_is (j := 4) (d := 22) (b := false) rfl rfl (At.hit z9.put.put.put.put rfl) rfl) (q_fld 1 rfl (by kernel_rfl) (((((s5_9.ne rfl).ne rfl).ne rfl).ne rfl).ne rfl).ev ?_)
      refine gsg (wanted_is (j := 4) (d := 22) (b := false) rfl rfl ((At.hit z9.put.put.put.put rfl).ne rfl) rfl) (q_cell (.int .i64 ((l.getD k zL).f1)) rfl Tryd.underlying3 (At.hit z9.put.put.put.put.put rfl).ev (fun _ h => (cells_at (h.blk k8) 1).trans rfl) ?_)
      refine gsg (wanted_is (j := 4) (d := 22) (b := false) rfl rfl (((At.hit z9.put.put.put.put rfl).ne rfl).ne rfl) rfl) (q_lss false rfl (At.hit z9.put.put.put.put.put.put rfl).ev rfl (decide_eq_false (by omega)) ?_)
      refine g_fresh z9.put.put.put.put.put.put.put.put ?_
      intro a19 z19 m19
      have s0_19 := m19 _ _ ((((((((s0_9.ne rfl).ne rfl).ne rfl).ne rfl).ne rfl).ne rfl).ne rfl).ne rfl)
      have s3_19 := m19 _ _ ((((((((s3_9.ne rfl).ne rfl).ne rfl).ne rfl).ne rfl).ne rfl).ne rfl).ne rfl)
      have s4_19 := m19 _ _ ((((((((s4_9.ne rfl).ne rfl).ne rfl).ne rfl).ne rfl).ne rfl).ne rfl).ne rfl)
      have s5_19 := m19 _ _ ((((((((s5_9.ne rfl).ne rfl).ne rfl).ne rfl).ne rfl).ne rfl).ne rfl).ne rfl)
      have s11_19 := m19 _ _ ((((((((s11_9.ne rfl).ne rfl).ne rfl).ne rfl).ne rfl).ne rfl).ne rfl).ne rfl)
      have s12_19 := m19 _ _ ((((((((s12_9.ne rfl).ne rfl).ne rfl).ne rfl).ne rfl).ne rfl).ne rfl).ne rfl)
      have s13_19 := m19 _ _ ((((((((s13_9.ne rfl).ne rfl).ne rfl).ne rfl).ne rfl).ne rfl).ne rfl).ne rfl)
      have s22_19 := m19 _ _ ((((At.hit z9.put.put.put.put rfl).ne rfl).ne rfl).ne rfl)
      have s25_19 := m19 _ _ (At.hit z9.put.put.put.put.put.put.put rfl)
      clear m19
      refine gs rfl (q_pick (b := false) (.bool false) rfl s22_19.ev s25_19.ev ?_)
      refine gs rfl (q_move _ _ rfl (At.hit z19 rfl).ev ?_)
      refine gsg (wanted_is (j := 9) (d := 27) (b := false) rfl rfl (At.hit z19.put rfl) rfl) (q_fld 1 rfl (by kernel_rfl) ((s5_19.ne rfl).ne rfl).ev ?_)
      refine gsg (wanted_is (j := 9) (d := 27) (b := false) rfl rfl ((At.hit z19.put rfl).ne rfl) rfl) (q_cell (.int .i64 ((l.getD k zL).f1)) rfl Tryd.underlying3 (At.hit z19.put.put rfl).ev (fun _ h => (cells_at (h.blk k8) 1).trans rfl) ?_)
      refine gsg (wanted_is (j := 9) (d := 27) (b := false) rfl rfl (((At.hit z19.put rfl).ne rfl).ne rfl) rfl) (q_gtr false rfl (At.hit z19.put.put.put rfl).ev rfl (decide_eq_false (by omega)) ?_)
      refine gs rfl (q_pick (b := false) (.bool false) rfl ((((At.hit z19.put rfl).ne rfl).ne rfl).ne rfl).ev (At.hit z19.put.put.put.put rfl).ev ?_)
      refine gs rfl (q_move _ _ rfl (At.hit z19.put.put.put.put.put rfl).ev ?_)
      refine gsg (wanted_is (j := 14) (d := 32) (b := false) rfl rfl (At.hit z19.put.put.put.put.put.put rfl) rfl) (q_move _ _ rfl (((((((s4_19.ne rfl).ne rfl).ne rfl).ne rfl).ne rfl).ne rfl).ne rfl).ev ?_)
      refine g_fresh z19.put.put.put.put.put.put.put.put ?_
      intro a20 z20 m20
      have s0_20 := m20 _ _ ((((((((s0_19.ne rfl).ne rfl).ne rfl).ne rfl).ne rfl).ne rfl).ne rfl).ne rfl)
      have s3_20 := m20 _ _ ((((((((s3_19.ne rfl).ne rfl).ne rfl).ne rfl).ne rfl).ne rfl).ne rfl).ne rfl)
      have s4_20 := m20 _ _ ((((((((s4_19.ne rfl).ne rfl).ne rfl).ne rfl).ne rfl).ne rfl).ne rfl).ne rfl)
      have s5_20 := m20 _ _ ((((((((s5_19.ne rfl).ne rfl).ne rfl).ne rfl).ne rfl).ne rfl).ne rfl).ne rfl)
      have s11_20 := m20 _ _ ((((((((s11_19.ne rfl).ne rfl).ne rfl).ne rfl).ne rfl).ne rfl).ne rfl).ne rfl)
      have s12_20 := m20 _ _ ((((((((s12_19.ne rfl).ne rfl).ne rfl).ne rfl).ne rfl).ne rfl).ne rfl).ne rfl)
      have s13_20 := m20 _ _ ((((((((s13_19.ne rfl).ne rfl).ne rfl).ne rfl).ne rfl).ne rfl).ne rfl).ne rfl)
      have s32_20 := m20 _ _ ((At.hit z19.put.put.put.put.put.put rfl).ne rfl)
      have s33_20 := m20 _ _ (At.hit z19.put.put.put.put.put.put.put rfl)
      clear m20
      refine gsg (wanted_is (j := 14) (d := 32) (b := false) rfl rfl s32_20 rfl) (q_gtr false rfl s33_20.ev rfl (decide_eq_false (by omega)) ?_)
      refine gsg (wanted_is (j := 14) (d := 32) (b := false) rfl rfl (s32_20.ne rfl) rfl) (q_move _ _ rfl (At.hit z20 rfl).ev ?_)
      refine gsk (wanted_is (j := 17) (d := 35) (b := false) rfl rfl (At.hit z20.put rfl) rfl) ?_
      refine gsk (wanted_is (j := 17) (d := 35) (b := false) rfl rfl ((At.hit z20.put rfl).ne rfl) rfl) ?_
      refine gsk (wanted_is (j := 17) (d := 35) (b := false) rfl rfl (((At.hit z20.put rfl).ne rfl).ne rfl) rfl) ?_
      refine gsk (wanted_is (j := 17) (d := 35) (b := false) rfl rfl ((((At.hit z20.put rfl).ne rfl).ne rfl).ne rfl) rfl) ?_
      refine gsk (wanted_is (j := 17) (d := 35) (b := false) rfl rfl (((((At.hit z20.put rfl).ne rfl).ne rfl).ne rfl).ne rfl) rfl) ?_
      refine gsk (wanted_is (j := 17) (d := 35) (b := false) rfl rfl ((((((At.hit z20.put rfl).ne rfl).ne rfl).ne rfl).ne rfl).ne rfl) rfl) ?_
      refine g_fresh z20.put.put.put.put.put.put.put.put ?_
      intro a21 z21 m21
      have s0_21 := m21 _ _ ((((((((s0_20.ne rfl).ne rfl).ne rfl).ne rfl).ne rfl).ne rfl).ne rfl).ne rfl)
      have s3_21 := m21 _ _ ((((((((s3_20.ne rfl).ne rfl).ne rfl).ne rfl).ne rfl).ne rfl).ne rfl).ne rfl)
      have s5_21 := m21 _ _ ((((((((s5_20.ne rfl).ne rfl).ne rfl).ne rfl).ne rfl).ne rfl).ne rfl).ne rfl)
      have s11_21 := m21 _ _ ((((((((s11_20.ne rfl).ne rfl).ne rfl).ne rfl).ne rfl).ne rfl).ne rfl).ne rfl)
      have s12_21 := m21 _ _ ((((((((s12_20.ne rfl).ne rfl).ne rfl).ne rfl).ne rfl).ne rfl).ne rfl).ne rfl)
      have s13_21 := m21 _ _ ((((((((s13_20.ne rfl).ne rfl).ne rfl).ne rfl).ne rfl).ne rfl).ne rfl).ne rfl)
      have s32_21 := m21 _ _ ((((((((s32_20.ne rfl).ne rfl).ne rfl).ne rfl).ne rfl).ne rfl).ne rfl).ne rfl)
      have s35_21 := m21 _ _ (((((((At.hit z20.put rfl).ne rfl).ne rfl).ne rfl).ne rfl).ne rfl).ne rfl)
      have s37_21 := m21 _ _ (((((At.hit z20.put.put.put rfl).ne rfl).ne rfl).ne rfl).ne rfl)
      have s41_21 := m21 _ _ (At.hit z20.put.put.put.put.put.put.put rfl)
      clear m21
      refine gsk (wanted_is (j := 17) (d := 35) (b := false) rfl rfl s35_21 rfl) ?_
      refine gsk (wanted_is (j := 17) (d := 35) (b := false) rfl rfl (s35_21.ne rfl) rfl) ?_
      refine gsk (wanted_is (j := 17) (d := 35) (b := false) rfl rfl ((s35_21.ne rfl).ne rfl) rfl) ?_
      refine gsg (wanted_is (j := 14) (d := 32) (b := false) rfl rfl (((s32_21.ne rfl).ne rfl).ne rfl) rfl) (q_pick (b := false) (.bool false) rfl (((s35_21.ne rfl).ne rfl).ne rfl).ev rfl ?_)
      refine gs rfl (q_pick (b := false) (.bool false) rfl ((((s32_21.ne rfl).ne rfl).ne rfl).ne rfl).ev (At.hit z21.put.put.put rfl).ev ?_)
      refine gz ?_
      intro w22 h22
      have kg10_2_22 := kg10_2_8.low h22
      have kg5_22 := h22.blk k8
      have ov_22 := (hv.low ((low5.trans h7).upd u8 geg5)).low h22
      refine e_id ?_
      refine e_fresh z21.put.put.put.put.put ?_
      intro a23 z23 m23
      have s0_23 := m23 _ _ (((((s0_21.ne rfl).ne rfl).ne rfl).ne rfl).ne rfl)
      have s3_23 := m23 _ _ (((((s3_21.ne rfl).ne rfl).ne rfl).ne rfl).ne rfl)
      have s5_23 := m23 _ _ (((((s5_21.ne rfl).ne rfl).ne rfl).ne rfl).ne rfl)
      have s11_23 := m23 _ _ (((((s11_21.ne rfl).ne rfl).ne rfl).ne rfl).ne rfl)
      have s12_23 := m23 _ _ (((((s12_21.ne rfl).ne rfl).ne rfl).ne rfl).ne rfl)
      have s13_23 := m23 _ _ (((((s13_21.ne rfl).ne rfl).ne rfl).ne rfl).ne rfl)
      have s46_23 := m23 _ _ (At.hit z21.put.put.put.put rfl)
      have low23 := (low9.trans h22)
      clear m23
      refine e_then ?_
      refine c_false s46_23 ?_
      refine wp_skip ?_
      refine e_then ?_
      refine c_region ?_
      refine l_q rfl (q_move _ _ rfl s3_23.ev ?_)
      refine l_q rfl (q_fld 0 rfl (by kernel_rfl) (s5_23.ne rfl).ev ?_)
      refine l_q rfl (q_cellT (.string ((l.getD k zL).f0)) rfl Tryd.underlying9 (At.hit z23.put rfl).ev (fun _ e => by rw [e]; exact (cells_at kg5_22 0).trans rfl) ?_)
      refine l_mapPut rfl rfl rfl Tryd.underlying36 Tryd.underlying9 (((At.hit z23 rfl).ne rfl).ne rfl).ev (At.hit z23.put.put rfl).ev rfl kg10_2_22 ?_
      intro w24 k24 u24
      replace k24 : MapIs w24 g10_2 (mput (mapB (pathsL (l.take k))) ((l.getD k zL).f0) (.bool true)) := k24
      have kg5_24 := u24.blk kg5_22 (by omega)
      refine l_end ?_
      refine e_fresh z23.put.put.put ?_
      intro a25 z25 m25
      have s0_25 := m25 _ _ (((s0_23.ne rfl).ne rfl).ne rfl)
      have s3_25 := m25 _ _ (((s3_23.ne rfl).ne rfl).ne rfl)
      have s11_25 := m25 _ _ (((s11_23.ne rfl).ne rfl).ne rfl)
      have s12_25 := m25 _ _ (((s12_23.ne rfl).ne rfl).ne rfl)
      have s13_25 := m25 _ _ (((s13_23.ne rfl).ne rfl).ne rfl)
      have low25 := (low23.upd u24 geg10_2)
      clear m25
      refine e_in ?_
      refine e_then ?_
      refine c_region ?_
      refine l_q rfl (q_add (((k + 1 : Nat) : Int)) rfl s13_25.ev rfl (i64_is (by omega) (by omega) (by omega)) ?_)
      refine l_q rfl (q_move _ _ rfl (At.hit z25 rfl).ev ?_)
      refine l_end ?_
      refine e_fresh z25.put.put ?_
      intro a26 z26 m26
      have s0_26 := m26 _ _ ((s0_25.ne rfl).ne rfl)
      have s3_26 := m26 _ _ ((s3_25.ne rfl).ne rfl)
      have s11_26 := m26 _ _ ((s11_25.ne rfl).ne rfl)
      have s12_26 := m26 _ _ ((s12_25.ne rfl).ne rfl)
      have s13_26 := m26 _ _ (At.hit z25.put rfl)
      clear m26
      rw [mapB_snoc, pathsL_next l k (by omega)] at k24
      exact ⟨z26, s0_26, s3_26, s11_26, s12_26, s13_26, k24, low25⟩
  · intro a27 w27 h
    obtain ⟨z27, s0_27, s3_27, s11_27, s12_27, s13_27, kg10_2_27, low27⟩ := h
    clear k2 low3 s0_4 s11_4 s12_4 s13_4 s3_4 z4
    have hle := rN_le l
    refine c_seq ?_
    by_cases hb28 : rN l < l.length
    · skip
      refine c_region ?_
      refine l_q rfl (q_lss true rfl s13_27.ev s12_27.ev (decide_eq_true (by omega)) ?_)
      refine l_end ?_
      refine e_fresh z27.put ?_
      intro a29 z29 m29
      have s0_29 := m29 _ _ (s0_27.ne rfl)
      have s3_29 := m29 _ _ (s3_27.ne rfl)
      have s11_29 := m29 _ _ (s11_27.ne rfl)
      have s13_29 := m29 _ _ (s13_27.ne rfl)
      have s14_29 := m29 _ _ (At.hit z27 rfl)
      clear m29
      refine e_then ?_
      refine c_seq ?_
      refine c_true s14_29 ?_
      refine wp_skip ?_
      refine e_then ?_
      refine c_seq ?_
      refine wp_block ?_
      refine c_seq ?_
      refine c_region ?_
      refine l_q rfl (q_move _ _ rfl s13_29.ev ?_)
      refine l_q rfl (q_idxF (j := (rN l)) rfl Tryd.underlying22 sz34 (s11_29.ne rfl).ev (hv.low low27) (s13_29.ne rfl).ev (by first | omega | decide) ?_)
      refine l_q rfl (q_ldR (vs := [.string ((l.getD (rN l) zL).f0), .int .i64 ((l.getD (rN l) zL).f1), .string ((l.getD (rN l) zL).f2)]) rfl Tryd.underlying34 rfl sz34 (At.hit z29.put rfl).ev (fun _ e => by rw [e]; exact (hv.low low27)) (by first | omega | decide) rfl (flat_part encL_len zL _ (rN l) (by first | omega | decide)) ?_)
      refine l_alloc rfl rfl zero34 ?_
      intro g5 w30 hg30 k30 h30
      have lt_g10_2_g5 := Nat.lt_of_lt_of_le kg10_2_27.lt hg30
      have geg5 := Nat.le_trans low27.ge hg30
      have kg10_2_30 := kg10_2_27.low h30
      have ov_30 := (hv.low low27).low h30
      refine l_q rfl (q_assign _ _ rfl ((((At.hit z29 rfl).ne rfl).ne rfl).ne rfl).ev ?_)
      refine l_row rfl rfl rfl (sz34.trans (congrArg some rfl.symm)) ((At.hit z29.put.put.put rfl).ne rfl).ev (((At.hit z29.put.put rfl).ne rfl).ne rfl).ev (by simp [Value.oneCell']) k30 (rfl.trans rfl.symm) ?_
      intro w31 k31 u31
      have kg10_2_31 := kg10_2_30.upd u31 (by omega)
      refine l_end ?_
      refine e_fresh z29.put.put.put.put.put ?_
      intro a32 z32 m32
      have s0_32 := m32 _ _ (((((s0_29.ne rfl).ne rfl).ne rfl).ne rfl).ne rfl)
      have s3_32 := m32 _ _ (((((s3_29.ne rfl).ne rfl).ne rfl).ne rfl).ne rfl)
      have s4_32 := m32 _ _ (At.hit z29.put.put.put.put rfl)
      have s5_32 := m32 _ _ ((At.hit z29.put.put.put rfl).ne rfl)
      have s13_32 := m32 _ _ (((((s13_29.ne rfl).ne rfl).ne rfl).ne rfl).ne rfl)
      have low32 := ((low27.trans h30).upd u31 geg5)
      clear m32
      refine e_then ?_
      refine c_seq ?_
      refine c_seq ?_
      by_cases hb33 : pathB (l.getD (rN l) zL).f0 = true
      · skip
        by_cases hb34 : (l.getD (rN l) zL).f1 < 1
        · skip
          refine region_lowg hm (by kernel_rfl) ?_
          refine gs rfl (q_fld 0 rfl (by kernel_rfl) s5_32.ev ?_)
          refine gs rfl (q_cellT (.string ((l.getD (rN l) zL).f0)) rfl Tryd.underlying9 (At.hit z32 rfl).ev (fun _ h => (cells_at (h.blk k31) 0).trans rfl) ?_)
          refine gs rfl (q_call (.bool true) rfl rfl Tryd.func13 rfl (args1 rfl (At.hit z32.put rfl).ev) (fun _ h => ((calls_bool (Path.calls (l.getD (rN l) zL).f0 (shortG hsh (rN l)) _ (Gd.low hG (low32.trans h))) hb33)).mono fun _ _ ⟨e, k⟩ => ⟨e, h.trans k⟩) ?_)
          refine gs rfl (q_not (b := true) rfl (At.hit z32.put.put rfl).ev ?_)
          refine gs rfl (q_move _ _ rfl (At.hit z32.put.put.put rfl).ev ?_)
          refine gsg (wanted_is (j := 4) (d := 22) (b := false) rfl rfl (At.hit z32.put.put.put.put rfl) rfl) (q_fld 1 rfl (by kernel_rfl) (((((s5_32.ne rfl).ne rfl).ne rfl).ne rfl).ne rfl).ev ?_)
          refine gsg (wanted_is (j := 4) (d := 22) (b := false) rfl rfl ((At.hit z32.put.put.put.put rfl).ne rfl) rfl) (q_cell (.int .i64 ((l.getD (rN l) zL).f1)) rfl Tryd.underlying3 (At.hit z32.put.put.put.put.put rfl).ev (fun _ h => (cells_at (h.blk k31) 1).trans rfl) ?_)
          refine gsg (wanted_is (j := 4) (d := 22) (b := false) rfl rfl (((At.hit z32.put.put.put.put rfl).ne rfl).ne rfl) rfl) (q_lss true rfl (At.hit z32.put.put.put.put.put.put rfl).ev rfl (decide_eq_true (by omega)) ?_)
          refine g_fresh z32.put.put.put.put.put.put.put.put ?_
          intro a35 z35 m35
          have s0_35 := m35 _ _ ((((((((s0_32.ne rfl).ne rfl).ne rfl).ne rfl).ne rfl).ne rfl).ne rfl).ne rfl)
          have s3_35 := m35 _ _ ((((((((s3_32.ne rfl).ne rfl).ne rfl).ne rfl).ne rfl).ne rfl).ne rfl).ne rfl)
          have s4_35 := m35 _ _ ((((((((s4_32.ne rfl).ne rfl).ne rfl).ne rfl).ne rfl).ne rfl).ne rfl).ne rfl)
          have s5_35 := m35 _ _ ((((((((s5_32.ne rfl).ne rfl).ne rfl).ne rfl).ne rfl).ne rfl).ne rfl).ne rfl)
          have s13_35 := m35 _ _ ((((((((s13_32.ne rfl).ne rfl).ne rfl).ne rfl).ne rfl).ne rfl).ne rfl).ne rfl)
          have s22_35 := m35 _ _ ((((At.hit z32.put.put.put.put rfl).ne rfl).ne rfl).ne rfl)
          have s25_35 := m35 _ _ (At.hit z32.put.put.put.put.put.put.put rfl)
          clear m35
          refine gs rfl (q_pick (b := false) (.bool true) rfl s22_35.ev s25_35.ev ?_)
          refine gs rfl (q_move _ _ rfl (At.hit z35 rfl).ev ?_)
          refine gsk (wanted_is (j := 9) (d := 27) (b := true) rfl rfl (At.hit z35.put rfl) rfl) ?_
          refine gsk (wanted_is (j := 9) (d := 27) (b := true) rfl rfl ((At.hit z35.put rfl).ne rfl) rfl) ?_
          refine gsk (wanted_is (j := 9) (d := 27) (b := true) rfl rfl (((At.hit z35.put rfl).ne rfl).ne rfl) rfl) ?_
          refine gs rfl (q_pick (b := true) (.bool true) rfl ((((At.hit z35.put rfl).ne rfl).ne rfl).ne rfl).ev rfl ?_)
          refine gs rfl (q_move _ _ rfl (At.hit z35.put.put.put.put.put rfl).ev ?_)
          refine gsk (wanted_is (j := 14) (d := 32) (b := true) rfl rfl (At.hit z35.put.put.put.put.put.put rfl) rfl) ?_
          refine g_fresh z35.put.put.put.put.put.put.put.put ?_
          intro a36 z36 m36
          have s0_36 := m36 _ _ ((((((((s0_35.ne rfl).ne rfl).ne rfl).ne rfl).ne rfl).ne rfl).ne rfl).ne rfl)
          have s3_36 := m36 _ _ ((((((((s3_35.ne rfl).ne rfl).ne rfl).ne rfl).ne rfl).ne rfl).ne rfl).ne rfl)
          have s4_36 := m36 _ _ ((((((((s4_35.ne rfl).ne rfl).ne rfl).ne rfl).ne rfl).ne rfl).ne rfl).ne rfl)
          have s5_36 := m36 _ _ ((((((((s5_35.ne rfl).ne rfl).ne rfl).ne rfl).ne rfl).ne rfl).ne rfl).ne rfl)
          have s13_36 := m36 _ _ ((((((((s13_35.ne rfl).ne rfl).ne rfl).ne rfl).ne rfl).ne rfl).ne rfl).ne rfl)
          have s32_36 := m36 _ _ ((At.hit z35.put.put.put.put.put.put rfl).ne rfl)
          have s33_36 := m36 _ _ (At.hit z35.put.put.put.put.put.put.put rfl)
          clear m36
          refine gsk (wanted_is (j := 14) (d := 32) (b := true) rfl rfl s32_36 rfl) ?_
          refine gsk (wanted_is (j := 14) (d := 32) (b := true) rfl rfl (s32_36.ne rfl) rfl) ?_
          refine gsk (wanted_un (j := 17) (d := 35) rfl rfl (At.hit z36.put rfl)) ?_
          refine gsk (wanted_un (j := 17) (d := 35) rfl rfl ((At.hit z36.put rfl).ne rfl)) ?_
          refine gsk (wanted_un (j := 17) (d := 35) rfl rfl (((At.hit z36.put rfl).ne rfl).ne rfl)) ?_
          refine gsk (wanted_un (j := 17) (d := 35) rfl rfl ((((At.hit z36.put rfl).ne rfl).ne rfl).ne rfl)) ?_
          refine gsk (wanted_un (j := 17) (d := 35) rfl rfl (((((At.hit z36.put rfl).ne rfl).ne rfl).ne rfl).ne rfl)) ?_
          refine gsk (wanted_un (j := 17) (d := 35) rfl rfl ((((((At.hit z36.put rfl).ne rfl).ne rfl).ne rfl).ne rfl).ne rfl)) ?_
          refine g_fresh z36.put.put.put.put.put.put.put.put ?_
          intro a37 z37 m37
          have s0_37 := m37 _ _ ((((((((s0_36.ne rfl).ne rfl).ne rfl).ne rfl).ne rfl).ne rfl).ne rfl).ne rfl)
          have s3_37 := m37 _ _ ((((((((s3_36.ne rfl).ne rfl).ne rfl).ne rfl).ne rfl).ne rfl).ne rfl).ne rfl)
          have s5_37 := m37 _ _ ((((((((s5_36.ne rfl).ne rfl).ne rfl).ne rfl).ne rfl).ne rfl).ne rfl).ne rfl)
          have s13_37 := m37 _ _ ((((((((s13_36.ne rfl).ne rfl).ne rfl).ne rfl).ne rfl).ne rfl).ne rfl).ne rfl)
          have s32_37 := m37 _ _ ((((((((s32_36.ne rfl).ne rfl).ne rfl).ne rfl).ne rfl).ne rfl).ne rfl).ne rfl)
          have s35_37 := m37 _ _ (((((((At.hit z36.put rfl).ne rfl).ne rfl).ne rfl).ne rfl).ne rfl).ne rfl)
          have s37_37 := m37 _ _ (((((At.hit z36.put.put.put rfl).ne rfl).ne rfl).ne rfl).ne rfl)
          have s41_37 := m37 _ _ (At.hit z36.put.put.put.put.put.put.put rfl)
          clear m37
          refine gsk (wanted_un (j := 17) (d := 35) rfl rfl s35_37) ?_
          refine gsk (wanted_un (j := 17) (d := 35) rfl rfl (s35_37.ne rfl)) ?_
          refine gsk (wanted_un (j := 17) (d := 35) rfl rfl ((s35_37.ne rfl).ne rfl)) ?_
          refine gsk (wanted_is (j := 14) (d := 32) (b := true) rfl rfl (((s32_37.ne rfl).ne rfl).ne rfl) rfl) ?_
          refine gs rfl (q_pick (b := true) (.bool true) rfl ((((s32_37.ne rfl).ne rfl).ne rfl).ne rfl).ev rfl ?_)
          refine gz ?_
          intro w38 h38
          have kg10_2_38 := kg10_2_31.low h38
          have kg5_38 := h38.blk k31
          have ov_38 := (hv.low ((low27.trans h30).upd u31 geg5)).low h38
          refine e_id ?_
          refine e_fresh z37.put.put.put.put.put ?_
          intro a39 z39 m39
          have s0_39 := m39 _ _ (((((s0_37.ne rfl).ne rfl).ne rfl).ne rfl).ne rfl)
          have s3_39 := m39 _ _ (((((s3_37.ne rfl).ne rfl).ne rfl).ne rfl).ne rfl)
          have s5_39 := m39 _ _ (((((s5_37.ne rfl).ne rfl).ne rfl).ne rfl).ne rfl)
          have s13_39 := m39 _ _ (((((s13_37.ne rfl).ne rfl).ne rfl).ne rfl).ne rfl)
          have s46_39 := m39 _ _ (At.hit z37.put.put.put.put rfl)
          have low39 := (low32.trans h38)
          clear m39
          refine e_then ?_
          refine c_true s46_39 ?_
          refine c_seq ?_
          refine c_region ?_
          refine l_q rfl (q_assign _ _ rfl rfl ?_)
          refine l_end ?_
          refine e_fresh z39.put ?_
          intro a40 z40 m40
          have s2_40 := m40 _ _ (At.hit z39 rfl)
          clear m40
          refine e_then ?_
          refine wp_ret ?_
          refine ret_then ?_
          refine ret_in ?_
          refine ret_then ?_
          refine ret_then ?_
          refine ret_in ?_
          refine ret_then ?_
          refine r_tmp rfl z40.defers s2_40 ?_
          exact ⟨by rw [right_1 hb28]; rfl, low39⟩
        · skip
          by_cases hb41 : 2 < (l.getD (rN l) zL).f1
          · skip
            refine region_lowg hm (by kernel_rfl) ?_
            refine gs rfl (q_fld 0 rfl (by kernel_rfl) s5_32.ev ?_)
            refine gs rfl (q_cellT (.string ((l.getD (rN l) zL).f0)) rfl Tryd.underlying9 (At.hit z32 rfl).ev (fun _ h => (cells_at (h.blk k31) 0).trans rfl) ?_)
            refine gs rfl (q_call (.bool true) rfl rfl Tryd.func13 rfl (args1 rfl (At.hit z32.put rfl).ev) (fun _ h => ((calls_bool (Path.calls (l.getD (rN l) zL).f0 (shortG hsh (rN l)) _ (Gd.low hG (low32.trans h))) hb33)).mono fun _ _ ⟨e, k⟩ => ⟨e, h.trans k⟩) ?_)
            refine gs rfl (q_not (b := true) rfl (At.hit z32.put.put rfl).ev ?_)
            refine gs rfl (q_move _ _ rfl (At.hit z32.put.put.put rfl).ev ?_)
            refine gsg (wanted_is (j := 4) (d := 22) (b := false) rfl rfl (At.hit z32.put.put.put.put rfl) rfl) (q_fld 1 rfl (by kernel_rfl) (((((s5_32.ne rfl).ne rfl).ne rfl).ne rfl).ne rfl).ev ?_)
            refine gsg (wanted_is (j := 4) (d := 22) (b := false) rfl rfl ((At.hit z32.put.put.put.put rfl).ne rfl) rfl) (q_cell (.int .i64 ((l.getD (rN l) zL).f1)) rfl Tryd.underlying3 (At.hit z32.put.put.put.put.put rfl).ev (fun _ h => (cells_at (h.blk k31) 1).trans rfl) ?_)
            refine gsg (wanted_is (j := 4) (d := 22) (b := false) rfl rfl (((At.hit z32.put.put.put.put rfl).ne rfl).ne rfl) rfl) (q_lss false rfl (At.hit z32.put.put.put.put.put.put rfl).ev rfl (decide_eq_false (by omega)) ?_)
            refine g_fresh z32.put.put.put.put.put.put.put.put ?_
            intro a42 z42 m42
            have s0_42 := m42 _ _ ((((((((s0_32.ne rfl).ne rfl).ne rfl).ne rfl).ne rfl).ne rfl).ne rfl).ne rfl)
            have s3_42 := m42 _ _ ((((((((s3_32.ne rfl).ne rfl).ne rfl).ne rfl).ne rfl).ne rfl).ne rfl).ne rfl)
            have s4_42 := m42 _ _ ((((((((s4_32.ne rfl).ne rfl).ne rfl).ne rfl).ne rfl).ne rfl).ne rfl).ne rfl)
            have s5_42 := m42 _ _ ((((((((s5_32.ne rfl).ne rfl).ne rfl).ne rfl).ne rfl).ne rfl).ne rfl).ne rfl)
            have s13_42 := m42 _ _ ((((((((s13_32.ne rfl).ne rfl).ne rfl).ne rfl).ne rfl).ne rfl).ne rfl).ne rfl)
            have s22_42 := m42 _ _ ((((At.hit z32.put.put.put.put rfl).ne rfl).ne rfl).ne rfl)
            have s25_42 := m42 _ _ (At.hit z32.put.put.put.put.put.put.put rfl)
            clear m42
            refine gs rfl (q_pick (b := false) (.bool false) rfl s22_42.ev s25_42.ev ?_)
            refine gs rfl (q_move _ _ rfl (At.hit z42 rfl).ev ?_)
            refine gsg (wanted_is (j := 9) (d := 27) (b := false) rfl rfl (At.hit z42.put rfl) rfl) (q_fld 1 rfl (by kernel_rfl) ((s5_42.ne rfl).ne rfl).ev ?_)
            refine gsg (wanted_is (j := 9) (d := 27) (b := false) rfl rfl ((At.hit z42.put rfl).ne rfl) rfl) (q_cell (.int .i64 ((l.getD (rN l) zL).f1)) rfl Tryd.underlying3 (At.hit z42.put.put rfl).ev (fun _ h => (cells_at (h.blk k31) 1).trans rfl) ?_)
            refine gsg (wanted_is (j := 9) (d := 27) (b := false) rfl rfl (((At.hit z42.put rfl).ne rfl).ne rfl) rfl) (q_gtr true rfl (At.hit z42.put.put.put rfl).ev rfl (decide_eq_true (by omega)) ?_)
            refine gs rfl (q_pick (b := false) (.bool true) rfl ((((At.hit z42.put rfl).ne rfl).ne rfl).ne rfl).ev (At.hit z42.put.put.put.put rfl).ev ?_)
            refine gs rfl (q_move _ _ rfl (At.hit z42.put.put.put.put.put rfl).ev ?_)
            refine gsk (wanted_is (j := 14) (d := 32) (b := true) rfl rfl (At.hit z42.put.put.put.put.put.put rfl) rfl) ?_
            refine g_fresh z42.put.put.put.put.put.put.put.put ?_
            intro a43 z43 m43
            have s0_43 := m43 _ _ ((((((((s0_42.ne rfl).ne rfl).ne rfl).ne rfl).ne rfl).ne rfl).ne rfl).ne rfl)
            have s3_43 := m43 _ _ ((((((((s3_42.ne rfl).ne rfl).ne rfl).ne rfl).ne rfl).ne rfl).ne rfl).ne rfl)
            have s4_43 := m43 _ _ ((((((((s4_42.ne rfl).ne rfl).ne rfl).ne rfl).ne rfl).ne rfl).ne rfl).ne rfl)
            have s5_43 := m43 _ _ ((((((((s5_42.ne rfl).ne rfl).ne rfl).ne rfl).ne rfl).ne rfl).ne rfl).ne rfl)
            have s13_43 := m43 _ _ ((((((((s13_42.ne rfl).ne rfl).ne rfl).ne rfl).ne rfl).ne rfl).ne rfl).ne rfl)
            have s32_43 := m43 _ _ ((At.hit z42.put.put.put.put.put.put rfl).ne rfl)
            have s33_43 := m43 _ _ (At.hit z42.put.put.put.put.put.put.put rfl)
            clear m43
            refine gsk (wanted_is (j := 14) (d := 32) (b := true) rfl rfl s32_43 rfl) ?_
            refine gsk (wanted_is (j := 14) (d := 32) (b := true) rfl rfl (s32_43.ne rfl) rfl) ?_
            refine gsk (wanted_un (j := 17) (d := 35) rfl rfl (At.hit z43.put rfl)) ?_
            refine gsk (wanted_un (j := 17) (d := 35) rfl rfl ((At.hit z43.put rfl).ne rfl)) ?_
            refine gsk (wanted_un (j := 17) (d := 35) rfl rfl (((At.hit z43.put rfl).ne rfl).ne rfl)) ?_
            refine gsk (wanted_un (j := 17) (d := 35) rfl rfl ((((At.hit z43.put rfl).ne rfl).ne rfl).ne rfl)) ?_
            refine gsk (wanted_un (j := 17) (d := 35) rfl rfl (((((At.hit z43.put rfl).ne rfl).ne rfl).ne rfl).ne rfl)) ?_
            refine gsk (wanted_un (j := 17) (d := 35) rfl rfl ((((((At.hit z43.put rfl).ne rfl).ne rfl).ne rfl).ne rfl).ne rfl)) ?_
            refine g_fresh z43.put.put.put.put.put.put.put.put ?_
            intro a44 z44 m44
            have s0_44 := m44 _ _ ((((((((s0_43.ne rfl).ne rfl).ne rfl).ne rfl).ne rfl).ne rfl).ne rfl).ne rfl)
            have s3_44 := m44 _ _ ((((((((s3_43.ne rfl).ne rfl).ne rfl).ne rfl).ne rfl).ne rfl).ne rfl).ne rfl)
            have s5_44 := m44 _ _ ((((((((s5_43.ne rfl).ne rfl).ne rfl).ne rfl).ne rfl).ne rfl).ne rfl).ne rfl)
            have s13_44 := m44 _ _ ((((((((s13_43.ne rfl).ne rfl).ne rfl).ne rfl).ne rfl).ne rfl).ne rfl).ne rfl)
            have s32_44 := m44 _ _ ((((((((s32_43.ne rfl).ne rfl).ne rfl).ne rfl).ne rfl).ne rfl).ne rfl).ne rfl)
            have s35_44 := m44 _ _ (((((((At.hit z43.put rfl).ne rfl).ne rfl).ne rfl).ne rfl).ne rfl).ne rfl)
            have s37_44 := m44 _ _ (((((At.hit z43.put.put.put rfl).ne rfl).ne rfl).ne rfl).ne rfl)
            have s41_44 := m44 _ _ (At.hit z43.put.put.put.put.put.put.put rfl)
            clear m44
            refine gsk (wanted_un (j := 17) (d := 35) rfl rfl s35_44) ?_
            refine gsk (wanted_un (j := 17) (d := 35) rfl rfl (s35_44.ne rfl)) ?_
            refine gsk (wanted_un (j := 17) (d := 35) rfl rfl ((s35_44.ne rfl).ne rfl)) ?_
            refine gsk (wanted_is (j := 14) (d := 32) (b := true) rfl rfl (((s32_44.ne rfl).ne rfl).ne rfl) rfl) ?_
            refine gs rfl (q_pick (b := true) (.bool true) rfl ((((s32_44.ne rfl).ne rfl).ne rfl).ne rfl).ev rfl ?_)
            refine gz ?_
            intro w45 h45
            have kg10_2_45 := kg10_2_31.low h45
            have kg5_45 := h45.blk k31
            have ov_45 := (hv.low ((low27.trans h30).upd u31 geg5)).low h45
            refine e_id ?_
            refine e_fresh z44.put.put.put.put.put ?_
            intro a46 z46 m46
            have s0_46 := m46 _ _ (((((s0_44.ne rfl).ne rfl).ne rfl).ne rfl).ne rfl)
            have s3_46 := m46 _ _ (((((s3_44.ne rfl).ne rfl).ne rfl).ne rfl).ne rfl)
            have s5_46 := m46 _ _ (((((s5_44.ne rfl).ne rfl).ne rfl).ne rfl).ne rfl)
            have s13_46 := m46 _ _ (((((s13_44.ne rfl).ne rfl).ne rfl).ne rfl).ne rfl)
            have s46_46 := m46 _ _ (At.hit z44.put.put.put.put rfl)
            have low46 := (low32.trans h45)
            clear m46
            refine e_then ?_
            refine c_true s46_46 ?_
            refine c_seq ?_
            refine c_region ?_
            refine l_q rfl (q_assign _ _ rfl rfl ?_)
            refine l_end ?_
            refine e_fresh z46.put ?_
            intro a47 z47 m47
            have s2_47 := m47 _ _ (At.hit z46 rfl)
            clear m47
            refine e_then ?_
            refine wp_ret ?_
            refine ret_then ?_
            refine ret_in ?_
            refine ret_then ?_
            refine ret_then ?_
            refine ret_in ?_
            refine ret_then ?_
            refine r_tmp rfl z47.defers s2_47 ?_
            exact ⟨by rw [right_1 hb28]; rfl, low46⟩
          · skip
            by_cases hb48 : 0 < rN l
            · skip
              by_cases hb49 : ¬ lessB (l.getD (rN l - 1) zL).f0 (l.getD (rN l) zL).f0 = true
              · skip
                refine region_lowg hm (by kernel_rfl) ?_
                refine gs rfl (q_fld 0 rfl (by kernel_rfl) s5_32.ev ?_)
                refine gs rfl (q_cellT (.string ((l.getD (rN l) zL).f0)) rfl Tryd.underlying9 (At.hit z32 rfl).ev (fun _ h => (cells_at (h.blk k31) 0).trans rfl) ?_)
                refine gs rfl (q_call (.bool true) rfl rfl Tryd.func13 rfl (args1 rfl (At.hit z32.put rfl).ev) (fun _ h => ((calls_bool (Path.calls (l.getD (rN l) zL).f0 (shortG hsh (rN l)) _ (Gd.low hG (low32.trans h))) hb33)).mono fun _ _ ⟨e, k⟩ => ⟨e, h.trans k⟩) ?_)
                refine gs rfl (q_not (b := true) rfl (At.hit z32.put.put rfl).ev ?_)
                refine gs rfl (q_move _ _ rfl (At.hit z32.put.put.put rfl).ev ?_)
                refine gsg (wanted_is (j := 4) (d := 22) (b := false) rfl rfl (At.hit z32.put.put.put.put rfl) rfl) (q_fld 1 rfl (by kernel_rfl) (((((s5_32.ne rfl).ne rfl).ne rfl).ne rfl).ne rfl).ev ?_)
                refine gsg (wanted_is (j := 4) (d := 22) (b := false) rfl rfl ((At.hit z32.put.put.put.put rfl).ne rfl) rfl) (q_cell (.int .i64 ((l.getD (rN l) zL).f1)) rfl Tryd.underlying3 (At.hit z32.put.put.put.put.put rfl).ev (fun _ h => (cells_at (h.blk k31) 1).trans rfl) ?_)
                refine gsg (wanted_is (j := 4) (d := 22) (b := false) rfl rfl (((At.hit z32.put.put.put.put rfl).ne rfl).ne rfl) rfl) (q_lss false rfl (At.hit z32.put.put.put.put.put.put rfl).ev rfl (decide_eq_false (by omega)) ?_)
                refine g_fresh z32.put.put.put.put.put.put.put.put ?_
                intro a50 z50 m50
                have s0_50 := m50 _ _ ((((((((s0_32.ne rfl).ne rfl).ne rfl).ne rfl).ne rfl).ne rfl).ne rfl).ne rfl)
                have s3_50 := m50 _ _ ((((((((s3_32.ne rfl).ne rfl).ne rfl).ne rfl).ne rfl).ne rfl).ne rfl).ne rfl)
                have s4_50 := m50 _ _ ((((((((s4_32.ne rfl).ne rfl).ne rfl).ne rfl).ne rfl).ne rfl).ne rfl).ne rfl)
                have s5_50 := m50 _ _ ((((((((s5_32.ne rfl).ne rfl).ne rfl).ne rfl).ne rfl).ne rfl).ne rfl).ne rfl)
                have s13_50 := m50 _ _ ((((((((s13_32.ne rfl).ne rfl).ne rfl).ne rfl).ne rfl).ne rfl).ne rfl).ne rfl)
                have s22_50 := m50 _ _ ((((At.hit z32.put.put.put.put rfl).ne rfl).ne rfl).ne rfl)
                have s25_50 := m50 _ _ (At.hit z32.put.put.put.put.put.put.put rfl)
                clear m50
                refine gs rfl (q_pick (b := false) (.bool false) rfl s22_50.ev s25_50.ev ?_)
                refine gs rfl (q_move _ _ rfl (At.hit z50 rfl).ev ?_)
                refine gsg (wanted_is (j := 9) (d := 27) (b := false) rfl rfl (At.hit z50.put rfl) rfl) (q_fld 1 rfl (by kernel_rfl) ((s5_50.ne rfl).ne rfl).ev ?_)
                refine gsg (wanted_is (j := 9) (d := 27) (b := false) rfl rfl ((At.hit z50.put rfl).ne rfl) rfl) (q_cell (.int .i64 ((l.getD (rN l) zL).f1)) rfl Tryd.underlying3 (At.hit z50.put.put rfl).ev (fun _ h => (cells_at (h.blk k31) 1).trans rfl) ?_)
                refine gsg (wanted_is (j := 9) (d := 27) (b := false) rfl rfl (((At.hit z50.put rfl).ne rfl).ne rfl) rfl) (q_gtr false rfl (At.hit z50.put.put.put rfl).ev rfl (decide_eq_false (by omega)) ?_)
                refine gs rfl (q_pick (b := false) (.bool false) rfl ((((At.hit z50.put rfl).ne rfl).ne rfl).ne rfl).ev (At.hit z50.put.put.put.put rfl).ev ?_)
                refine gs rfl (q_move _ _ rfl (At.hit z50.put.put.put.put.put rfl).ev ?_)
                refine gsg (wanted_is (j := 14) (d := 32) (b := false) rfl rfl (At.hit z50.put.put.put.put.put.put rfl) rfl) (q_move _ _ rfl (((((((s4_50.ne rfl).ne rfl).ne rfl).ne rfl).ne rfl).ne rfl).ne rfl).ev ?_)
                refine g_fresh z50.put.put.put.put.put.put.put.put ?_
                intro a51 z51 m51
                have s0_51 := m51 _ _ ((((((((s0_50.ne rfl).ne rfl).ne rfl).ne rfl).ne rfl).ne rfl).ne rfl).ne rfl)
                have s3_51 := m51 _ _ ((((((((s3_50.ne rfl).ne rfl).ne rfl).ne rfl).ne rfl).ne rfl).ne rfl).ne rfl)
                have s4_51 := m51 _ _ ((((((((s4_50.ne rfl).ne rfl).ne rfl).ne rfl).ne rfl).ne rfl).ne rfl).ne rfl)
                have s5_51 := m51 _ _ ((((((((s5_50.ne rfl).ne rfl).ne rfl).ne rfl).ne rfl).ne rfl).ne rfl).ne rfl)
                have s13_51 := m51 _ _ ((((((((s13_50.ne rfl).ne rfl).ne rfl).ne rfl).ne rfl).ne rfl).ne rfl).ne rfl)
                have s32_51 := m51 _ _ ((At.hit z50.put.put.put.put.put.put rfl).ne rfl)
                have s33_51 := m51 _ _ (At.hit z50.put.put.put.put.put.put.put rfl)
                clear m51
                refine gsg (wanted_is (j := 14) (d := 32) (b := false) rfl rfl s32_51 rfl) (q_gtr true rfl s33_51.ev rfl (decide_eq_true (by omega)) ?_)
                refine gsg (wanted_is (j := 14) (d := 32) (b := false) rfl rfl (s32_51.ne rfl) rfl) (q_move _ _ rfl (At.hit z51 rfl).ev ?_)
                refine gsg (wanted_is (j := 17) (d := 35) (b := true) rfl rfl (At.hit z51.put rfl) rfl) (q_fld 0 rfl (by kernel_rfl) ((s5_51.ne rfl).ne rfl).ev ?_)
                refine gsg (wanted_is (j := 17) (d := 35) (b := true) rfl rfl ((At.hit z51.put rfl).ne rfl) rfl) (q_cellT (.string ((l.getD (rN l) zL).f0)) rfl Tryd.underlying9 (At.hit z51.put.put rfl).ev (fun _ h => (cells_at (h.blk k31) 0).trans rfl) ?_)
                refine gsg (wanted_is (j := 17) (d := 35) (b := true) rfl rfl (((At.hit z51.put rfl).ne rfl).ne rfl) rfl) (q_move _ _ rfl ((((s0_51.ne rfl).ne rfl).ne rfl).ne rfl).ev ?_)
                refine gsg (wanted_is (j := 17) (d := 35) (b := true) rfl rfl ((((At.hit z51.put rfl).ne rfl).ne rfl).ne rfl) rfl) (q_move _ _ rfl (((((s4_51.ne rfl).ne rfl).ne rfl).ne rfl).ne rfl).ev ?_)
                refine gsg (wanted_is (j := 17) (d := 35) (b := true) rfl rfl (((((At.hit z51.put rfl).ne rfl).ne rfl).ne rfl).ne rfl) rfl) (q_sub ((((rN l : Nat) : Int) - 1)) rfl (At.hit z51.put.put.put.put.put rfl).ev rfl (i64_is (by omega) (by omega) (by omega)) ?_)
                refine gsg (wanted_is (j := 17) (d := 35) (b := true) rfl rfl ((((((At.hit z51.put rfl).ne rfl).ne rfl).ne rfl).ne rfl).ne rfl) rfl) (q_idxF (j := (rN l) - 1) rfl Tryd.underlying22 sz34 (((At.hit z51.put.put.put.put rfl).ne rfl).ne rfl).ev (hv.low ((low27.trans h30).upd u31 geg5)) ((At.hit z51.put.put.put.put.put.put rfl).same (congrArg (Value.int .i64) (show ((((rN l : Nat) : Int) - 1) : Int) = (((rN l) - 1 : Nat) : Int) by omega))).ev (by first | omega | decide) ?_)
                refine g_fresh z51.put.put.put.put.put.put.put.put ?_
                intro a52 z52 m52
                have s0_52 := m52 _ _ ((((((((s0_51.ne rfl).ne rfl).ne rfl).ne rfl).ne rfl).ne rfl).ne rfl).ne rfl)
                have s3_52 := m52 _ _ ((((((((s3_51.ne rfl).ne rfl).ne rfl).ne rfl).ne rfl).ne rfl).ne rfl).ne rfl)
                have s5_52 := m52 _ _ ((((((((s5_51.ne rfl).ne rfl).ne rfl).ne rfl).ne rfl).ne rfl).ne rfl).ne rfl)
                have s13_52 := m52 _ _ ((((((((s13_51.ne rfl).ne rfl).ne rfl).ne rfl).ne rfl).ne rfl).ne rfl).ne rfl)
                have s32_52 := m52 _ _ ((((((((s32_51.ne rfl).ne rfl).ne rfl).ne rfl).ne rfl).ne rfl).ne rfl).ne rfl)
                have s35_52 := m52 _ _ (((((((At.hit z51.put rfl).ne rfl).ne rfl).ne rfl).ne rfl).ne rfl).ne rfl)
                have s37_52 := m52 _ _ (((((At.hit z51.put.put.put rfl).ne rfl).ne rfl).ne rfl).ne rfl)
                have s41_52 := m52 _ _ (At.hit z51.put.put.put.put.put.put.put rfl)
                clear m52
                refine gsg (wanted_is (j := 17) (d := 35) (b := true) rfl rfl s35_52 rfl) (q_fldF 0 rfl fld34_0 s41_52.ev ((hv.low ((low27.trans h30).upd u31 geg5)).form (by first | omega | decide)) ?_)
                refine gsg (wanted_is (j := 17) (d := 35) (b := true) rfl rfl (s35_52.ne rfl) rfl) (q_ld1 (u := .string ((l.getD ((rN l) - 1) zL).f0)) rfl Tryd.underlying9 rfl (At.hit z52 rfl).ev (fun _ h => ((hv.low ((low27.trans h30).upd u31 geg5)).low h)) (by first | omega | decide) ((flat_at encL_len zL _ ((rN l) - 1) 0 (by first | omega | decide) (by decide)).trans rfl) ?_)
                refine gsg (wanted_is (j := 17) (d := 35) (b := true) rfl rfl ((s35_52.ne rfl).ne rfl) rfl) (q_strleq true rfl ((s37_52.ne rfl).ne rfl).ev (At.hit z52.put rfl).ev (leT hb49) ?_)
                refine gsg (wanted_is (j := 14) (d := 32) (b := false) rfl rfl (((s32_52.ne rfl).ne rfl).ne rfl) rfl) (q_pick (b := true) (.bool true) rfl (((s35_52.ne rfl).ne rfl).ne rfl).ev (At.hit z52.put.put rfl).ev ?_)
                refine gs rfl (q_pick (b := false) (.bool true) rfl ((((s32_52.ne rfl).ne rfl).ne rfl).ne rfl).ev (At.hit z52.put.put.put rfl).ev ?_)
                refine gz ?_
                intro w53 h53
                have kg10_2_53 := kg10_2_31.low h53
                have kg5_53 := h53.blk k31
                have ov_53 := (hv.low ((low27.trans h30).upd u31 geg5)).low h53
                refine e_id ?_
                refine e_fresh z52.put.put.put.put.put ?_
                intro a54 z54 m54
                have s0_54 := m54 _ _ (((((s0_52.ne rfl).ne rfl).ne rfl).ne rfl).ne rfl)
                have s3_54 := m54 _ _ (((((s3_52.ne rfl).ne rfl).ne rfl).ne rfl).ne rfl)
                have s5_54 := m54 _ _ (((((s5_52.ne rfl).ne rfl).ne rfl).ne rfl).ne rfl)
                have s13_54 := m54 _ _ (((((s13_52.ne rfl).ne rfl).ne rfl).ne rfl).ne rfl)
                have s46_54 := m54 _ _ (At.hit z52.put.put.put.put rfl)
                have low54 := (low32.trans h53)
                clear m54
                refine e_then ?_
                refine c_true s46_54 ?_
                refine c_seq ?_
                refine c_region ?_
                refine l_q rfl (q_assign _ _ rfl rfl ?_)
                refine l_end ?_
                refine e_fresh z54.put ?_
                intro a55 z55 m55
                have s2_55 := m55 _ _ (At.hit z54 rfl)
                clear m55
                refine e_then ?_
                refine wp_ret ?_
                refine ret_then ?_
                refine ret_in ?_
                refine ret_then ?_
                refine ret_then ?_
                refine ret_in ?_
                refine ret_then ?_
                refine r_tmp rfl z55.defers s2_55 ?_
                exact ⟨by rw [right_1 hb28]; rfl, low54⟩
              · skip
                refine region_lowg hm (by kernel_rfl) ?_
                refine gs rfl (q_fld 0 rfl (by kernel_rfl) s5_32.ev ?_)
                refine gs rfl (q_cellT (.string ((l.getD (rN l) zL).f0)) rfl Tryd.underlying9 (At.hit z32 rfl).ev (fun _ h => (cells_at (h.blk k31) 0).trans rfl) ?_)
                refine gs rfl (q_call (.bool true) rfl rfl Tryd.func13 rfl (args1 rfl (At.hit z32.put rfl).ev) (fun _ h => ((calls_bool (Path.calls (l.getD (rN l) zL).f0 (shortG hsh (rN l)) _ (Gd.low hG (low32.trans h))) hb33)).mono fun _ _ ⟨e, k⟩ => ⟨e, h.trans k⟩) ?_)
                refine gs rfl (q_not (b := true) rfl (At.hit z32.put.put rfl).ev ?_)
                refine gs rfl (q_move _ _ rfl (At.hit z32.put.put.put rfl).ev ?_)
                refine gsg (wanted_is (j := 4) (d := 22) (b := false) rfl rfl (At.hit z32.put.put.put.put rfl) rfl) (q_fld 1 rfl (by kernel_rfl) (((((s5_32.ne rfl).ne rfl).ne rfl).ne rfl).ne rfl).ev ?_)
                refine gsg (wanted_is (j := 4) (d := 22) (b := false) rfl rfl ((At.hit z32.put.put.put.put rfl).ne rfl) rfl) (q_cell (.int .i64 ((l.getD (rN l) zL).f1)) rfl Tryd.underlying3 (At.hit z32.put.put.put.put.put rfl).ev (fun _ h => (cells_at (h.blk k31) 1).trans rfl) ?_)
                refine gsg (wanted_is (j := 4) (d := 22) (b := false) rfl rfl (((At.hit z32.put.put.put.put rfl).ne rfl).ne rfl) rfl) (q_lss false rfl (At.hit z32.put.put.put.put.put.put rfl).ev rfl (decide_eq_false (by omega)) ?_)
                refine g_fresh z32.put.put.put.put.put.put.put.put ?_
                intro a56 z56 m56
                have s0_56 := m56 _ _ ((((((((s0_32.ne rfl).ne rfl).ne rfl).ne rfl).ne rfl).ne rfl).ne rfl).ne rfl)
                have s3_56 := m56 _ _ ((((((((s3_32.ne rfl).ne rfl).ne rfl).ne rfl).ne rfl).ne rfl).ne rfl).ne rfl)
                have s4_56 := m56 _ _ ((((((((s4_32.ne rfl).ne rfl).ne rfl).ne rfl).ne rfl).ne rfl).ne rfl).ne rfl)
                have s5_56 := m56 _ _ ((((((((s5_32.ne rfl).ne rfl).ne rfl).ne rfl).ne rfl).ne rfl).ne rfl).ne rfl)
                have s13_56 := m56 _ _ ((((((((s13_32.ne rfl).ne rfl).ne rfl).ne rfl).ne rfl).ne rfl).ne rfl).ne rfl)
                have s22_56 := m56 _ _ ((((At.hit z32.put.put.put.put rfl).ne rfl).ne rfl).ne rfl)
                have s25_56 := m56 _ _ (At.hit z32.put.put.put.put.put.put.put rfl)
                clear m56
                refine gs rfl (q_pick (b := false) (.bool false) rfl s22_56.ev s25_56.ev ?_)
                refine gs rfl (q_move _ _ rfl (At.hit z56 rfl).ev ?_)
                refine gsg (wanted_is (j := 9) (d := 27) (b := false) rfl rfl (At.hit z56.put rfl) rfl) (q_fld 1 rfl (by kernel_rfl) ((s5_56.ne rfl).ne rfl).ev ?_)
                refine gsg (wanted_is (j := 9) (d := 27) (b := false) rfl rfl ((At.hit z56.put rfl).ne rfl) rfl) (q_cell (.int .i64 ((l.getD (rN l) zL).f1)) rfl Tryd.underlying3 (At.hit z56.put.put rfl).ev (fun _ h => (cells_at (h.blk k31) 1).trans rfl) ?_)
                refine gsg (wanted_is (j := 9) (d := 27) (b := false) rfl rfl (((At.hit z56.put rfl).ne rfl).ne rfl) rfl) (q_gtr false rfl (At.hit z56.put.put.put rfl).ev rfl (decide_eq_false (by omega)) ?_)
                refine gs rfl (q_pick (b := false) (.bool false) rfl ((((At.hit z56.put rfl).ne rfl).ne rfl).ne rfl).ev (At.hit z56.put.put.put.put rfl).ev ?_)
                refine gs rfl (q_move _ _ rfl (At.hit z56.put.put.put.put.put rfl).ev ?_)
                refine gsg (wanted_is (j := 14) (d := 32) (b := false) rfl rfl (At.hit z56.put.put.put.put.put.put rfl) rfl) (q_move _ _ rfl (((((((s4_56.ne rfl).ne rfl).ne rfl).ne rfl).ne rfl).ne rfl).ne rfl).ev ?_)
                refine g_fresh z56.put.put.put.put.put.put.put.put ?_
                intro a57 z57 m57
                have s0_57 := m57 _ _ ((((((((s0_56.ne rfl).ne rfl).ne rfl).ne rfl).ne rfl).ne rfl).ne rfl).ne rfl)
                have s3_57 := m57 _ _ ((((((((s3_56.ne rfl).ne rfl).ne rfl).ne rfl).ne rfl).ne rfl).ne rfl).ne rfl)
                have s4_57 := m57 _ _ ((((((((s4_56.ne rfl).ne rfl).ne rfl).ne rfl).ne rfl).ne rfl).ne rfl).ne rfl)
                have s5_57 := m57 _ _ ((((((((s5_56.ne rfl).ne rfl).ne rfl).ne rfl).ne rfl).ne rfl).ne rfl).ne rfl)
                have s13_57 := m57 _ _ ((((((((s13_56.ne rfl).ne rfl).ne rfl).ne rfl).ne rfl).ne rfl).ne rfl).ne rfl)
                have s32_57 := m57 _ _ ((At.hit z56.put.put.put.put.put.put rfl).ne rfl)
                have s33_57 := m57 _ _ (At.hit z56.put.put.put.put.put.put.put rfl)
                clear m57
                refine gsg (wanted_is (j := 14) (d := 32) (b := false) rfl rfl s32_57 rfl) (q_gtr true rfl s33_57.ev rfl (decide_eq_true (by omega)) ?_)
                refine gsg (wanted_is (j := 14) (d := 32) (b := false) rfl rfl (s32_57.ne rfl) rfl) (q_move _ _ rfl (At.hit z57 rfl).ev ?_)
                refine gsg (wanted_is (j := 17) (d := 35) (b := true) rfl rfl (At.hit z57.put rfl) rfl) (q_fld 0 rfl (by kernel_rfl) ((s5_57.ne rfl).ne rfl).ev ?_)
                refine gsg (wanted_is (j := 17) (d := 35) (b := true) rfl rfl ((At.hit z57.put rfl).ne rfl) rfl) (q_cellT (.string ((l.getD (rN l) zL).f0)) rfl Tryd.underlying9 (At.hit z57.put.put rfl).ev (fun _ h => (cells_at (h.blk k31) 0).trans rfl) ?_)
                refine gsg (wanted_is (j := 17) (d := 35) (b := true) rfl rfl (((At.hit z57.put rfl).ne rfl).ne rfl) rfl) (q_move _ _ rfl ((((s0_57.ne rfl).ne rfl).ne rfl).ne rfl).ev ?_)
                refine gsg (wanted_is (j := 17) (d := 35) (b := true) rfl rfl ((((At.hit z57.put rfl).ne rfl).ne rfl).ne rfl) rfl) (q_move _ _ rfl (((((s4_57.ne rfl).ne rfl).ne rfl).ne rfl).ne rfl).ev ?_)
                refine gsg (wanted_is (j := 17) (d := 35) (b := true) rfl rfl (((((At.hit z57.put rfl).ne rfl).ne rfl).ne rfl).ne rfl) rfl) (q_sub ((((rN l : Nat) : Int) - 1)) rfl (At.hit z57.put.put.put.put.put rfl).ev rfl (i64_is (by omega) (by omega) (by omega)) ?_)
                refine gsg (wanted_is (j := 17) (d := 35) (b := true) rfl rfl ((((((At.hit z57.put rfl).ne rfl).ne rfl).ne rfl).ne rfl).ne rfl) rfl) (q_idxF (j := (rN l) - 1) rfl Tryd.underlying22 sz34 (((At.hit z57.put.put.put.put rfl).ne rfl).ne rfl).ev (hv.low ((low27.trans h30).upd u31 geg5)) ((At.hit z57.put.put.put.put.put.put rfl).same (congrArg (Value.int .i64) (show ((((rN l : Nat) : Int) - 1) : Int) = (((rN l) - 1 : Nat) : Int) by omega))).ev (by first | omega | decide) ?_)
                refine g_fresh z57.put.put.put.put.put.put.put.put ?_
                intro a58 z58 m58
                have s0_58 := m58 _ _ ((((((((s0_57.ne rfl).ne rfl).ne rfl).ne rfl).ne rfl).ne rfl).ne rfl).ne rfl)
                have s3_58 := m58 _ _ ((((((((s3_57.ne rfl).ne rfl).ne rfl).ne rfl).ne rfl).ne rfl).ne rfl).ne rfl)
                have s5_58 := m58 _ _ ((((((((s5_57.ne rfl).ne rfl).ne rfl).ne rfl).ne rfl).ne rfl).ne rfl).ne rfl)
                have s13_58 := m58 _ _ ((((((((s13_57.ne rfl).ne rfl).ne rfl).ne rfl).ne rfl).ne rfl).ne rfl).ne rfl)
                have s32_58 := m58 _ _ ((((((((s32_57.ne rfl).ne rfl).ne rfl).ne rfl).ne rfl).ne rfl).ne rfl).ne rfl)
                have s35_58 := m58 _ _ (((((((At.hit z57.put rfl).ne rfl).ne rfl).ne rfl).ne rfl).ne rfl).ne rfl)
                have s37_58 := m58 _ _ (((((At.hit z57.put.put.put rfl).ne rfl).ne rfl).ne rfl).ne rfl)
                have s41_58 := m58 _ _ (At.hit z57.put.put.put.put.put.put.put rfl)
                clear m58
                refine gsg (wanted_is (j := 17) (d := 35) (b := true) rfl rfl s35_58 rfl) (q_fldF 0 rfl fld34_0 s41_58.ev ((hv.low ((low27.trans h30).upd u31 geg5)).form (by first | omega | decide)) ?_)
                refine gsg (wanted_is (j := 17) (d := 35) (b := true) rfl rfl (s35_58.ne rfl) rfl) (q_ld1 (u := .string ((l.getD ((rN l) - 1) zL).f0)) rfl Tryd.underlying9 rfl (At.hit z58 rfl).ev (fun _ h => ((hv.low ((low27.trans h30).upd u31 geg5)).low h)) (by first | omega | decide) ((flat_at encL_len zL _ ((rN l) - 1) 0 (by first | omega | decide) (by decide)).trans rfl) ?_)
                refine gsg (wanted_is (j := 17) (d := 35) (b := true) rfl rfl ((s35_58.ne rfl).ne rfl) rfl) (q_strleq false rfl ((s37_58.ne rfl).ne rfl).ev (At.hit z58.put rfl).ev (leF (Decidable.not_not.1 hb49)) ?_)
                refine gsg (wanted_is (j := 14) (d := 32) (b := false) rfl rfl (((s32_58.ne rfl).ne rfl).ne rfl) rfl) (q_pick (b := true) (.bool false) rfl (((s35_58.ne rfl).ne rfl).ne rfl).ev (At.hit z58.put.put rfl).ev ?_)
                refine gs rfl (q_pick (b := false) (.bool false) rfl ((((s32_58.ne rfl).ne rfl).ne rfl).ne rfl).ev (At.hit z58.put.put.put rfl).ev ?_)
                refine gz ?_
                intro w59 h59
                have kg10_2_59 := kg10_2_31.low h59
                have kg5_59 := h59.blk k31
                have ov_59 := (hv.low ((low27.trans h30).upd u31 geg5)).low h59
                refine e_id ?_
                refine e_fresh z58.put.put.put.put.put ?_
                intro a60 z60 m60
                have s0_60 := m60 _ _ (((((s0_58.ne rfl).ne rfl).ne rfl).ne rfl).ne rfl)
                have s3_60 := m60 _ _ (((((s3_58.ne rfl).ne rfl).ne rfl).ne rfl).ne rfl)
                have s5_60 := m60 _ _ (((((s5_58.ne rfl).ne rfl).ne rfl).ne rfl).ne rfl)
                have s13_60 := m60 _ _ (((((s13_58.ne rfl).ne rfl).ne rfl).ne rfl).ne rfl)
                have s46_60 := m60 _ _ (At.hit z58.put.put.put.put rfl)
                have low60 := (low32.trans h59)
                clear m60
                refine e_then ?_
                refine c_false s46_60 ?_
                refine wp_skip ?_
                refine e_then ?_
                refine c_region ?_
                refine l_q rfl (q_move _ _ rfl s3_60.ev ?_)
                refine l_q rfl (q_fld 0 rfl (by kernel_rfl) (s5_60.ne rfl).ev ?_)
                refine l_q rfl (q_cellT (.string ((l.getD (rN l) zL).f0)) rfl Tryd.underlying9 (At.hit z60.put rfl).ev (fun _ e => by rw [e]; exact (cells_at kg5_59 0).trans rfl) ?_)
                refine l_mapPut rfl rfl rfl Tryd.underlying36 Tryd.underlying9 (((At.hit z60 rfl).ne rfl).ne rfl).ev (At.hit z60.put.put rfl).ev rfl kg10_2_59 ?_
                intro w61 k61 u61
                replace k61 : MapIs w61 g10_2 (mput (mapB (pathsL (l.take (rN l)))) ((l.getD (rN l) zL).f0) (.bool true)) := k61
                have kg5_61 := u61.blk kg5_59 (by omega)
                refine l_end ?_
                refine e_fresh z60.put.put.put ?_
                intro a62 z62 m62
                have s0_62 := m62 _ _ (((s0_60.ne rfl).ne rfl).ne rfl)
                have s3_62 := m62 _ _ (((s3_60.ne rfl).ne rfl).ne rfl)
                have s13_62 := m62 _ _ (((s13_60.ne rfl).ne rfl).ne rfl)
                have low62 := (low60.upd u61 geg10_2)
                clear m62
                refine e_in ?_
                refine e_then ?_
                refine c_region ?_
                refine l_q rfl (q_add ((((rN l) + 1 : Nat) : Int)) rfl s13_62.ev rfl (i64_is (by omega) (by omega) (by omega)) ?_)
                refine l_q rfl (q_move _ _ rfl (At.hit z62 rfl).ev ?_)
                refine l_end ?_
                refine e_fresh z62.put.put ?_
                intro a63 z63 m63
                have s0_63 := m63 _ _ ((s0_62.ne rfl).ne rfl)
                have s3_63 := m63 _ _ ((s3_62.ne rfl).ne rfl)
                clear m63
                exact absurd ⟨hb33, by omega, by omega, fun _ => Decidable.not_not.1 hb49⟩ (rN_stop hb28)
            · skip
              refine region_lowg hm (by kernel_rfl) ?_
              refine gs rfl (q_fld 0 rfl (by kernel_rfl) s5_32.ev ?_)
              refine gs rfl (q_cellT (.string ((l.getD (rN l) zL).f0)) rfl Tryd.underlying9 (At.hit z32 rfl).ev (fun _ h => (cells_at (h.blk k31) 0).trans rfl) ?_)
              refine gs rfl (q_call (.bool true) rfl rfl Tryd.func13 rfl (args1 rfl (At.hit z32.put rfl).ev) (fun _ h => ((calls_bool (Path.calls (l.getD (rN l) zL).f0 (shortG hsh (rN l)) _ (Gd.low hG (low32.trans h))) hb33)).mono fun _ _ ⟨e, k⟩ => ⟨e, h.trans k⟩) ?_)
              refine gs rfl (q_not (b := true) rfl (At.hit z32.put.put rfl).ev ?_)
              refine gs rfl (q_move _ _ rfl (At.hit z32.put.put.put rfl).ev ?_)
              refine gsg (wanted_is (j := 4) (d := 22) (b := false) rfl rfl (At.hit z32.put.put.put.put rfl) rfl) (q_fld 1 rfl (by kernel_rfl) (((((s5_32.ne rfl).ne rfl).ne rfl).ne rfl).ne rfl).ev ?_)
              refine gsg (wanted_is (j := 4) (d := 22) (b := false) rfl rfl ((At.hit z32.put.put.put.put rfl).ne rfl) rfl) (q_cell (.int .i64 ((l.getD (rN l) zL).f1)) rfl Tryd.underlying3 (At.hit z32.put.put.put.put.put rfl).ev (fun _ h => (cells_at (h.blk k31) 1).trans rfl) ?_)
              refine gsg (wanted_is (j := 4) (d := 22) (b := false) rfl rfl (((At.hit z32.put.put.put.put rfl).ne rfl).ne rfl) rfl) (q_lss false rfl (At.hit z32.put.put.put.put.put.put rfl).ev rfl (decide_eq_false (by omega)) ?_)
              refine g_fresh z32.put.put.put.put.put.put.put.put ?_
              intro a64 z64 m64
              have s0_64 := m64 _ _ ((((((((s0_32.ne rfl).ne rfl).ne rfl).ne rfl).ne rfl).ne rfl).ne rfl).ne rfl)
              have s3_64 := m64 _ _ ((((((((s3_32.ne rfl).ne rfl).ne rfl).ne rfl).ne rfl).ne rfl).ne rfl).ne rfl)
              have s4_64 := m64 _ _ ((((((((s4_32.ne rfl).ne rfl).ne rfl).ne rfl).ne rfl).ne rfl).ne rfl).ne rfl)
              have s5_64 := m64 _ _ ((((((((s5_32.ne rfl).ne rfl).ne rfl).ne rfl).ne rfl).ne rfl).ne rfl).ne rfl)
              have s13_64 := m64 _ _ ((((((((s13_32.ne rfl).ne rfl).ne rfl).ne rfl).ne rfl).ne rfl).ne rfl).ne rfl)
              have s22_64 := m64 _ _ ((((At.hit z32.put.put.put.put rfl).ne rfl).ne rfl).ne rfl)
              have s25_64 := m64 _ _ (At.hit z32.put.put.put.put.put.put.put rfl)
              clear m64
              refine gs rfl (q_pick (b := false) (.bool false) rfl s22_64.ev s25_64.ev ?_)
              refine gs rfl (q_move _ _ rfl (At.hit z64 rfl).ev ?_)
              refine gsg (wanted_is (j := 9) (d := 27) (b := false) rfl rfl (At.hit z64.put rfl) rfl) (q_fld 1 rfl (by kernel_rfl) ((s5_64.ne rfl).ne rfl).ev ?_)
              refine gsg (wanted_is (j := 9) (d := 27) (b := false) rfl rfl ((At.hit z64.put rfl).ne rfl) rfl) (q_cell (.int .i64 ((l.getD (rN l) zL).f1)) rfl Tryd.underlying3 (At.hit z64.put.put rfl).ev (fun _ h => (cells_at (h.blk k31) 1).trans rfl) ?_)
              refine gsg (wanted_is (j := 9) (d := 27) (b := false) rfl rfl (((At.hit z64.put rfl).ne rfl).ne rfl) rfl) (q_gtr false rfl (At.hit z64.put.put.put rfl).ev rfl (decide_eq_false (by omega)) ?_)
              refine gs rfl (q_pick (b := false) (.bool false) rfl ((((At.hit z64.put rfl).ne rfl).ne rfl).ne rfl).ev (At.hit z64.put.put.put.put rfl).ev ?_)
              refine gs rfl (q_move _ _ rfl (At.hit z64.put.put.put.put.put rfl).ev ?_)
              refine gsg (wanted_is (j := 14) (d := 32) (b := false) rfl rfl (At.hit z64.put.put.put.put.put.put rfl) rfl) (q_move _ _ rfl (((((((s4_64.ne rfl).ne rfl).ne rfl).ne rfl).ne rfl).ne rfl).ne rfl).ev ?_)
              refine g_fresh z64.put.put.put.put.put.put.put.put ?_
              intro a65 z65 m65
              have s0_65 := m65 _ _ ((((((((s0_64.ne rfl).ne rfl).ne rfl).ne rfl).ne rfl).ne rfl).ne rfl).ne rfl)
              have s3_65 := m65 _ _ ((((((((s3_64.ne rfl).ne rfl).ne rfl).ne rfl).ne rfl).ne rfl).ne rfl).ne rfl)
              have s4_65 := m65 _ _ ((((((((s4_64.ne rfl).ne rfl).ne rfl).ne rfl).ne rfl).ne rfl).ne rfl).ne rfl)
              have s5_65 := m65 _ _ ((((((((s5_64.ne rfl).ne rfl).ne rfl).ne rfl).ne rfl).ne rfl).ne rfl).ne rfl)
              have s13_65 := m65 _ _ ((((((((s13_64.ne rfl).ne rfl).ne rfl).ne rfl).ne rfl).ne rfl).ne rfl).ne rfl)
              have s32_65 := m65 _ _ ((At.hit z64.put.put.put.put.put.put rfl).ne rfl)
              have s33_65 := m65 _ _ (At.hit z64.put.put.put.put.put.put.put rfl)
              clear m65
              refine gsg (wanted_is (j := 14) (d := 32) (b := false) rfl rfl s32_65 rfl) (q_gtr false rfl s33_65.ev rfl (decide_eq_false (by omega)) ?_)
              refine gsg (wanted_is (j := 14) (d := 32) (b := false) rfl rfl (s32_65.ne rfl) rfl) (q_move _ _ rfl (At.hit z65 rfl).ev ?_)
              refine gsk (wanted_is (j := 17) (d := 35) (b := false) rfl rfl (At.hit z65.put rfl) rfl) ?_
              refine gsk (wanted_is (j := 17) (d := 35) (b := false) rfl rfl ((At.hit z65.put rfl).ne rfl) rfl) ?_
              refine gsk (wanted_is (j := 17) (d := 35) (b := false) rfl rfl (((At.hit z65.put rfl).ne rfl).ne rfl) rfl) ?_
              refine gsk (wanted_is (j := 17) (d := 35) (b := false) rfl rfl ((((At.hit z65.put rfl).ne rfl).ne rfl).ne rfl) rfl) ?_
              refine gsk (wanted_is (j := 17) (d := 35) (b := false) rfl rfl (((((At.hit z65.put rfl).ne rfl).ne rfl).ne rfl).ne rfl) rfl) ?_
              refine gsk (wanted_is (j := 17) (d := 35) (b := false) rfl rfl ((((((At.hit z65.put rfl).ne rfl).ne rfl).ne rfl).ne rfl).ne rfl) rfl) ?_
              refine g_fresh z65.put.put.put.put.put.put.put.put ?_
              intro a66 z66 m66
              have s0_66 := m66 _ _ ((((((((s0_65.ne rfl).ne rfl).ne rfl).ne rfl).ne rfl).ne rfl).ne rfl).ne rfl)
              have s3_66 := m66 _ _ ((((((((s3_65.ne rfl).ne rfl).ne rfl).ne rfl).ne rfl).ne rfl).ne rfl).ne rfl)
              have s5_66 := m66 _ _ ((((((((s5_65.ne rfl).ne rfl).ne rfl).ne rfl).ne rfl).ne rfl).ne rfl).ne rfl)
              have s13_66 := m66 _ _ ((((((((s13_65.ne rfl).ne rfl).ne rfl).ne rfl).ne rfl).ne rfl).ne rfl).ne rfl)
              have s32_66 := m66 _ _ ((((((((s32_65.ne rfl).ne rfl).ne rfl).ne rfl).ne rfl).ne rfl).ne rfl).ne rfl)
              have s35_66 := m66 _ _ (((((((At.hit z65.put rfl).ne rfl).ne rfl).ne rfl).ne rfl).ne rfl).ne rfl)
              have s37_66 := m66 _ _ (((((At.hit z65.put.put.put rfl).ne rfl).ne rfl).ne rfl).ne rfl)
              have s41_66 := m66 _ _ (At.hit z65.put.put.put.put.put.put.put rfl)
              clear m66
              refine gsk (wanted_is (j := 17) (d := 35) (b := false) rfl rfl s35_66 rfl) ?_
              refine gsk (wanted_is (j := 17) (d := 35) (b := false) rfl rfl (s35_66.ne rfl) rfl) ?_
              refine gsk (wanted_is (j := 17) (d := 35) (b := false) rfl rfl ((s35_66.ne rfl).ne rfl) rfl) ?_
              refine gsg (wanted_is (j := 14) (d := 32) (b := false) rfl rfl (((s32_66.ne rfl).ne rfl).ne rfl) rfl) (q_pick (b := false) (.bool false) rfl (((s35_66.ne rfl).ne rfl).ne rfl).ev rfl ?_)
              refine gs rfl (q_pick (b := false) (.bool false) rfl ((((s32_66.ne rfl).ne rfl).ne rfl).ne rfl).ev (At.hit z66.put.put.put rfl).ev ?_)
              refine gz ?_
              intro w67 h67
              have kg10_2_67 := kg10_2_31.low h67
              have kg5_67 := h67.blk k31
              have ov_67 := (hv.low ((low27.trans h30).upd u31 geg5)).low h67
              refine e_id ?_
              refine e_fresh z66.put.put.put.put.put ?_
              intro a68 z68 m68
              have s0_68 := m68 _ _ (((((s0_66.ne rfl).ne rfl).ne rfl).ne rfl).ne rfl)
              have s3_68 := m68 _ _ (((((s3_66.ne rfl).ne rfl).ne rfl).ne rfl).ne rfl)
              have s5_68 := m68 _ _ (((((s5_66.ne rfl).ne rfl).ne rfl).ne rfl).ne rfl)
              have s13_68 := m68 _ _ (((((s13_66.ne rfl).ne rfl).ne rfl).ne rfl).ne rfl)
              have s46_68 := m68 _ _ (At.hit z66.put.put.put.put rfl)
              have low68 := (low32.trans h67)
              clear m68
              refine e_then ?_
              refine c_false s46_68 ?_
              refine wp_skip ?_
              refine e_then ?_
              refine c_region ?_
              refine l_q rfl (q_move _ _ rfl s3_68.ev ?_)
              refine l_q rfl (q_fld 0 rfl (by kernel_rfl) (s5_68.ne rfl).ev ?_)
              refine l_q rfl (q_cellT (.string ((l.getD (rN l) zL).f0)) rfl Tryd.underlying9 (At.hit z68.put rfl).ev (fun _ e => by rw [e]; exact (cells_at kg5_67 0).trans rfl) ?_)
              refine l_mapPut rfl rfl rfl Tryd.underlying36 Tryd.underlying9 (((At.hit z68 rfl).ne rfl).ne rfl).ev (At.hit z68.put.put rfl).ev rfl kg10_2_67 ?_
              intro w69 k69 u69
              replace k69 : MapIs w69 g10_2 (mput (mapB (pathsL (l.take (rN l)))) ((l.getD (rN l) zL).f0) (.bool true)) := k69
              have kg5_69 := u69.blk kg5_67 (by omega)
              refine l_end ?_
              refine e_fresh z68.put.put.put ?_
              intro a70 z70 m70
              have s0_70 := m70 _ _ (((s0_68.ne rfl).ne rfl).ne rfl)
              have s3_70 := m70 _ _ (((s3_68.ne rfl).ne rfl).ne rfl)
              have s13_70 := m70 _ _ (((s13_68.ne rfl).ne rfl).ne rfl)
              have low70 := (low68.upd u69 geg10_2)
              clear m70
              refine e_in ?_
              refine e_then ?_
              refine c_region ?_
              refine l_q rfl (q_add ((((rN l) + 1 : Nat) : Int)) rfl s13_70.ev rfl (i64_is (by omega) (by omega) (by omega)) ?_)
              refine l_q rfl (q_move _ _ rfl (At.hit z70 rfl).ev ?_)
              refine l_end ?_
              refine e_fresh z70.put.put ?_
              intro a71 z71 m71
              have s0_71 := m71 _ _ ((s0_70.ne rfl).ne rfl)
              have s3_71 := m71 _ _ ((s3_70.ne rfl).ne rfl)
              clear m71
              exact absurd ⟨hb33, by omega, by omega, fun h => absurd h hb48⟩ (rN_stop hb28)
      · skip
        refine region_lowg hm (by kernel_rfl) ?_
        refine gs rfl (q_fld 0 rfl (by kernel_rfl) s5_32.ev ?_)
        refine gs rfl (q_cellT (.string ((l.getD (rN l) zL).f0)) rfl Tryd.underlying9 (At.hit z32 rfl).ev (fun _ h => (cells_at (h.blk k31) 0).trans rfl) ?_)
        refine gs rfl (q_call (.bool false) rfl rfl Tryd.func13 rfl (args1 rfl (At.hit z32.put rfl).ev) (fun _ h => ((calls_bool (Path.calls (l.getD (rN l) zL).f0 (shortG hsh (rN l)) _ (Gd.low hG (low32.trans h))) (eq_false_of_ne_true hb33))).mono fun _ _ ⟨e, k⟩ => ⟨e, h.trans k⟩) ?_)
        refine gs rfl (q_not (b := false) rfl (At.hit z32.put.put rfl).ev ?_)
        refine gs rfl (q_move _ _ rfl (At.hit z32.put.put.put rfl).ev ?_)
        refine gsk (wanted_is (j := 4) (d := 22) (b := true) rfl rfl (At.hit z32.put.put.put.put rfl) rfl) ?_
        refine gsk (wanted_is (j := 4) (d := 22) (b := true) rfl rfl ((At.hit z32.put.put.put.put rfl).ne rfl) rfl) ?_
        refine gsk (wanted_is (j := 4) (d := 22) (b := true) rfl rfl (((At.hit z32.put.put.put.put rfl).ne rfl).ne rfl) rfl) ?_
        refine g_fresh z32.put.put.put.put.put.put.put.put ?_
        intro a72 z72 m72
        have s0_72 := m72 _ _ ((((((((s0_32.ne rfl).ne rfl).ne rfl).ne rfl).ne rfl).ne rfl).ne rfl).ne rfl)
        have s3_72 := m72 _ _ ((((((((s3_32.ne rfl).ne rfl).ne rfl).ne rfl).ne rfl).ne rfl).ne rfl).ne rfl)
        have s4_72 := m72 _ _ ((((((((s4_32.ne rfl).ne rfl).ne rfl).ne rfl).ne rfl).ne rfl).ne rfl).ne rfl)
        have s5_72 := m72 _ _ ((((((((s5_32.ne rfl).ne rfl).ne rfl).ne rfl).ne rfl).ne rfl).ne rfl).ne rfl)
        have s13_72 := m72 _ _ ((((((((s13_32.ne rfl).ne rfl).ne rfl).ne rfl).ne rfl).ne rfl).ne rfl).ne rfl)
        have s22_72 := m72 _ _ ((((At.hit z32.put.put.put.put rfl).ne rfl).ne rfl).ne rfl)
        have s25_72 := m72 _ _ (At.hit z32.put.put.put.put.put.put.put rfl)
        clear m72
        refine gs rfl (q_pick (b := true) (.bool true) rfl s22_72.ev rfl ?_)
        refine gs rfl (q_move _ _ rfl (At.hit z72 rfl).ev ?_)
        refine gsk (wanted_is (j := 9) (d := 27) (b := true) rfl rfl (At.hit z72.put rfl) rfl) ?_
        refine gsk (wanted_is (j := 9) (d := 27) (b := true) rfl rfl ((At.hit z72.put rfl).ne rfl) rfl) ?_
        refine gsk (wanted_is (j := 9) (d := 27) (b := true) rfl rfl (((At.hit z72.put rfl).ne rfl).ne rfl) rfl) ?_
        refine gs rfl (q_pick (b := true) (.bool true) rfl ((((At.hit z72.put rfl).ne rfl).ne rfl).ne rfl).ev rfl ?_)
        refine gs rfl (q_move _ _ rfl (At.hit z72.put.put.put.put.put rfl).ev ?_)
        refine gsk (wanted_is (j := 14) (d := 32) (b := true) rfl rfl (At.hit z72.put.put.put.put.put.put rfl) rfl) ?_
        refine g_fresh z72.put.put.put.put.put.put.put.put ?_
        intro a73 z73 m73
        have s0_73 := m73 _ _ ((((((((s0_72.ne rfl).ne rfl).ne rfl).ne rfl).ne rfl).ne rfl).ne rfl).ne rfl)
        have s3_73 := m73 _ _ ((((((((s3_72.ne rfl).ne rfl).ne rfl).ne rfl).ne rfl).ne rfl).ne rfl).ne rfl)
        have s4_73 := m73 _ _ ((((((((s4_72.ne rfl).ne rfl).ne rfl).ne rfl).ne rfl).ne rfl).ne rfl).ne rfl)
        have s5_73 := m73 _ _ ((((((((s5_72.ne rfl).ne rfl).ne rfl).ne rfl).ne rfl).ne rfl).ne rfl).ne rfl)
        have s13_73 := m73 _ _ ((((((((s13_72.ne rfl).ne rfl).ne rfl).ne rfl).ne rfl).ne rfl).ne rfl).ne rfl)
        have s32_73 := m73 _ _ ((At.hit z72.put.put.put.put.put.put rfl).ne rfl)
        have s33_73 := m73 _ _ (At.hit z72.put.put.put.put.put.put.put rfl)
        clear m73
        refine gsk (wanted_is (j := 14) (d := 32) (b := true) rfl rfl s32_73 rfl) ?_
        refine gsk (wanted_is (j := 14) (d := 32) (b := true) rfl rfl (s32_73.ne rfl) rfl) ?_
        refine gsk (wanted_un (j := 17) (d := 35) rfl rfl (At.hit z73.put rfl)) ?_
        refine gsk (wanted_un (j := 17) (d := 35) rfl rfl ((At.hit z73.put rfl).ne rfl)) ?_
        refine gsk (wanted_un (j := 17) (d := 35) rfl rfl (((At.hit z73.put rfl).ne rfl).ne rfl)) ?_
        refine gsk (wanted_un (j := 17) (d := 35) rfl rfl ((((At.hit z73.put rfl).ne rfl).ne rfl).ne rfl)) ?_
        refine gsk (wanted_un (j := 17) (d := 35) rfl rfl (((((At.hit z73.put rfl).ne rfl).ne rfl).ne rfl).ne rfl)) ?_
        refine gsk (wanted_un (j := 17) (d := 35) rfl rfl ((((((At.hit z73.put rfl).ne rfl).ne rfl).ne rfl).ne rfl).ne rfl)) ?_
        refine g_fresh z73.put.put.put.put.put.put.put.put ?_
        intro a74 z74 m74
        have s0_74 := m74 _ _ ((((((((s0_73.ne rfl).ne rfl).ne rfl).ne rfl).ne rfl).ne rfl).ne rfl).ne rfl)
        have s3_74 := m74 _ _ ((((((((s3_73.ne rfl).ne rfl).ne rfl).ne rfl).ne rfl).ne rfl).ne rfl).ne rfl)
        have s5_74 := m74 _ _ ((((((((s5_73.ne rfl).ne rfl).ne rfl).ne rfl).ne rfl).ne rfl).ne rfl).ne rfl)
        have s13_74 := m74 _ _ ((((((((s13_73.ne rfl).ne rfl).ne rfl).ne rfl).ne rfl).ne rfl).ne rfl).ne rfl)
        have s32_74 := m74 _ _ ((((((((s32_73.ne rfl).ne rfl).ne rfl).ne rfl).ne rfl).ne rfl).ne rfl).ne rfl)
        have s35_74 := m74 _ _ (((((((At.hit z73.put rfl).ne rfl).ne rfl).ne rfl).ne rfl).ne rfl).ne rfl)
        have s37_74 := m74 _ _ (((((At.hit z73.put.put.put rfl).ne rfl).ne rfl).ne rfl).ne rfl)
        have s41_74 := m74 _ _ (At.hit z73.put.put.put.put.put.put.put rfl)
        clear m74
        refine gsk (wanted_un (j := 17) (d := 35) rfl rfl s35_74) ?_
        refine gsk (wanted_un (j := 17) (d := 35) rfl rfl (s35_74.ne rfl)) ?_
        refine gsk (wanted_un (j := 17) (d := 35) rfl rfl ((s35_74.ne rfl).ne rfl)) ?_
        refine gsk (wanted_is (j := 14) (d := 32) (b := true) rfl rfl (((s32_74.ne rfl).ne rfl).ne rfl) rfl) ?_
        refine gs rfl (q_pick (b := true) (.bool true) rfl ((((s32_74.ne rfl).ne rfl).ne rfl).ne rfl).ev rfl ?_)
        refine gz ?_
        intro w75 h75
        have kg10_2_75 := kg10_2_31.low h75
        have kg5_75 := h75.blk k31
        have ov_75 := (hv.low ((low27.trans h30).upd u31 geg5)).low h75
        refine e_id ?_
        refine e_fresh z74.put.put.put.put.put ?_
        intro a76 z76 m76
        have s0_76 := m76 _ _ (((((s0_74.ne rfl).ne rfl).ne rfl).ne rfl).ne rfl)
        have s3_76 := m76 _ _ (((((s3_74.ne rfl).ne rfl).ne rfl).ne rfl).ne rfl)
        have s5_76 := m76 _ _ (((((s5_74.ne rfl).ne rfl).ne rfl).ne rfl).ne rfl)
        have s13_76 := m76 _ _ (((((s13_74.ne rfl).ne rfl).ne rfl).ne rfl).ne rfl)
        have s46_76 := m76 _ _ (At.hit z74.put.put.put.put rfl)
        have low76 := (low32.trans h75)
        clear m76
        refine e_then ?_
        refine c_true s46_76 ?_
        refine c_seq ?_
        refine c_region ?_
        refine l_q rfl (q_assign _ _ rfl rfl ?_)
        refine l_end ?_
        refine e_fresh z76.put ?_
        intro a77 z77 m77
        have s2_77 := m77 _ _ (At.hit z76 rfl)
        clear m77
        refine e_then ?_
        refine wp_ret ?_
        refine ret_then ?_
        refine ret_in ?_
        refine ret_then ?_
        refine ret_then ?_
        refine ret_in ?_
        refine ret_then ?_
        refine r_tmp rfl z77.defers s2_77 ?_
        exact ⟨by rw [right_1 hb28]; rfl, low76⟩
    · skip
      refine c_region ?_
      refine l_q rfl (q_lss false rfl s13_27.ev s12_27.ev (decide_eq_false (by omega)) ?_)
      refine l_end ?_
      refine e_fresh z27.put ?_
      intro a78 z78 m78
      have s0_78 := m78 _ _ (s0_27.ne rfl)
      have s3_78 := m78 _ _ (s3_27.ne rfl)
      have s11_78 := m78 _ _ (s11_27.ne rfl)
      have s13_78 := m78 _ _ (s13_27.ne rfl)
      have s14_78 := m78 _ _ (At.hit z27 rfl)
      clear m78
      refine e_then ?_
      refine c_seq ?_
      refine c_false s14_78 ?_
      refine wp_exit ?_
      refine x_then ?_
      refine x_then ?_
      refine in_exit ?_
      refine e_then ?_
      refine c_seq ?_
      refine c_seq ?_
      rw [show l.take (rN l) = l from List.take_of_length_le (by omega)] at kg10_2_27
      refine c_region ?_
      refine l_q rfl (q_move _ _ rfl s0_78.ev ?_)
      refine l_q rfl (q_lenF rfl rfl Tryd.underlying22 (At.hit z78 rfl).ev (hv.low low27) ?_)
      refine l_q rfl (q_move _ _ rfl rfl ?_)
      refine l_end ?_
      refine e_fresh z78.put.put.put ?_
      intro a79 z79 m79
      have s0_79 := m79 _ _ (((s0_78.ne rfl).ne rfl).ne rfl)
      have s3_79 := m79 _ _ (((s3_78.ne rfl).ne rfl).ne rfl)
      have s51_79 := m79 _ _ (((At.hit z78 rfl).ne rfl).ne rfl)
      have s52_79 := m79 _ _ ((At.hit z78.put rfl).ne rfl)
      have s53_79 := m79 _ _ (At.hit z78.put.put rfl)
      clear m79
      refine e_then ?_
      refine wp_block ?_
      refine c_loop (dN2 (pathsL l) l) (fun k a w => Fr 82 a ∧ At a 0 (v) ∧ At a 3 (.map (some g10_2)) ∧ At a 51 (v) ∧ At a 52 (.int .i64 ((l.length : Nat) : Int)) ∧ At a 53 (.int .i64 ((k : Nat) : Int)) ∧ MapIs w g10_2 (mapB (pathsL l)) ∧ Low w0 w) ?_ ?_ ?_
      · exact ⟨z79, s0_79, s3_79, s51_79, s52_79, s53_79, kg10_2_27, low27⟩
      · intro k a80 w80 hk80 h
        obtain ⟨z80, s0_80, s3_80, s51_80, s52_80, s53_80, kg10_2_80, low80⟩ := h
        clear kg10_2_27 low27 s0_79 s3_79 s51_79 s52_79 s53_79 z79
        have hle2 := dN2_le (pathsL l) l
        have hps0 := shortG hsh k
        refine c_seq ?_
        refine c_region ?_
        refine l_q rfl (q_lss true rfl s53_80.ev s52_80.ev (decide_eq_true (by omega)) ?_)
        refine l_end ?_
        refine e_fresh z80.put ?_
        intro a81 z81 m81
        have s0_81 := m81 _ _ (s0_80.ne rfl)
        have s3_81 := m81 _ _ (s3_80.ne rfl)
        have s51_81 := m81 _ _ (s51_80.ne rfl)
        have s52_81 := m81 _ _ (s52_80.ne rfl)
        have s53_81 := m81 _ _ (s53_80.ne rfl)
        have s54_81 := m81 _ _ (At.hit z80 rfl)
        clear m81
        refine e_then ?_
        refine c_seq ?_
        refine c_true s54_81 ?_
        refine wp_skip ?_
        refine e_then ?_
        refine c_seq ?_
        refine wp_block ?_
        refine c_seq ?_
        refine c_region ?_
        refine l_q rfl (q_idxF (j := k) rfl Tryd.underlying22 sz34 s51_81.ev (hv.low low80) s53_81.ev (by first | omega | decide) ?_)
        refine l_q rfl (q_ldR (vs := [.string ((l.getD k zL).f0), .int .i64 ((l.getD k zL).f1), .string ((l.getD k zL).f2)]) rfl Tryd.underlying34 rfl sz34 (At.hit z81 rfl).ev (fun _ e => by rw [e]; exact (hv.low low80)) (by first | omega | decide) rfl (flat_part encL_len zL _ k (by first | omega | decide)) ?_)
        refine l_alloc rfl rfl zero34 ?_
        intro g7 w82 hg82 k82 h82
        have lt_g10_2_g7 := Nat.lt_of_lt_of_le kg10_2_80.lt hg82
        have geg7 := Nat.le_trans low80.ge hg82
        have kg10_2_82 := kg10_2_80.low h82
        have ov_82 := (hv.low low80).low h82
        refine l_row rfl rfl rfl (sz34.trans (congrArg some rfl.symm)) (At.hit z81.put.put rfl).ev ((At.hit z81.put rfl).ne rfl).ev (by simp [Value.oneCell']) k82 (rfl.trans rfl.symm) ?_
        intro w83 k83 u83
        have kg10_2_83 := kg10_2_82.upd u83 (by omega)
        refine l_end ?_
        refine e_fresh z81.put.put.put ?_
        intro a84 z84 m84
        have s0_84 := m84 _ _ (((s0_81.ne rfl).ne rfl).ne rfl)
        have s3_84 := m84 _ _ (((s3_81.ne rfl).ne rfl).ne rfl)
        have s7_84 := m84 _ _ (At.hit z81.put.put rfl)
        have s51_84 := m84 _ _ (((s51_81.ne rfl).ne rfl).ne rfl)
        have s52_84 := m84 _ _ (((s52_81.ne rfl).ne rfl).ne rfl)
        have s53_84 := m84 _ _ (((s53_81.ne rfl).ne rfl).ne rfl)
        have low84 := ((low80.trans h82).upd u83 geg7)
        clear m84
        refine e_then ?_
        refine c_seq ?_
        refine c_region ?_
        refine l_q rfl (q_fld 0 rfl (by kernel_rfl) s7_84.ev ?_)
        refine l_q rfl (q_cellT (.string ((l.getD k zL).f0)) rfl Tryd.underlying9 (At.hit z84 rfl).ev (fun _ e => by rw [e]; exact (cells_at k83 0).trans rfl) ?_)
        refine l_bytes (B := w0.heap.size) rfl rfl Tryd.underlying9 Tryd.underlying38 Tryd.underlying5 (At.hit z84.put rfl).ev low84.ge (by omega) ?_
        intro v85 w85 o85 h85
        have kg10_2_85 := kg10_2_83.low h85
        have kg7_85 := h85.blk k83
        have ov_85 := (hv.low ((low80.trans h82).upd u83 geg7)).low h85
        have ou85 := ownB_rdF o85
        refine l_q rfl (q_lenF rfl rfl Tryd.underlying38 (At.hit z84.put.put rfl).ev ou85 ?_)
        refine l_q rfl (q_move _ _ rfl rfl ?_)
        refine l_end ?_
        refine e_fresh z84.put.put.put.put.put ?_
        intro a86 z86 m86
        have s0_86 := m86 _ _ (((((s0_84.ne rfl).ne rfl).ne rfl).ne rfl).ne rfl)
        have s3_86 := m86 _ _ (((((s3_84.ne rfl).ne rfl).ne rfl).ne rfl).ne rfl)
        have s7_86 := m86 _ _ (((((s7_84.ne rfl).ne rfl).ne rfl).ne rfl).ne rfl)
        have s51_86 := m86 _ _ (((((s51_84.ne rfl).ne rfl).ne rfl).ne rfl).ne rfl)
        have s52_86 := m86 _ _ (((((s52_84.ne rfl).ne rfl).ne rfl).ne rfl).ne rfl)
        have s53_86 := m86 _ _ (((((s53_84.ne rfl).ne rfl).ne rfl).ne rfl).ne rfl)
        have s59_86 := m86 _ _ (((At.hit z84.put.put rfl).ne rfl).ne rfl)
        have s60_86 := m86 _ _ ((At.hit z84.put.put.put rfl).ne rfl)
        have s61_86 := m86 _ _ (At.hit z84.put.put.put.put rfl)
        have low86 := (low84.trans h85)
        clear m86
        refine e_then ?_
        refine wp_block ?_
        refine c_loop (cN (pathsL l) (l.getD k zL).f0) (fun m a w => Fr 82 a ∧ At a 0 (v) ∧ At a 3 (.map (some g10_2)) ∧ At a 7 (.pointer (some ⟨g7, 0, none⟩)) ∧ At a 51 (v) ∧ At a 52 (.int .i64 ((l.length : Nat) : Int)) ∧ At a 53 (.int .i64 ((k : Nat) : Int)) ∧ At a 59 (v85) ∧ At a 60 (.int .i64 ((((bytesOf ((l.getD k zL).f0)).length) : Nat) : Int)) ∧ At a 61 (.int .i64 ((m : Nat) : Int)) ∧ MapIs w g10_2 (mapB (pathsL l)) ∧ w.heap[g7]? = some (.cells (#[.string ((l.getD k zL).f0), .int .i64 ((l.getD k zL).f1), .string ((l.getD k zL).f2)]) 34) ∧ RdF w 1 v85 (bytesOf ((l.getD k zL).f0)).length (((bytesOf ((l.getD k zL).f0)).map encU).flatten) ∧ Low w0 w) ?_ ?_ ?_
        · exact ⟨z86, s0_86, s3_86, s7_86, s51_86, s52_86, s53_86, s59_86, s60_86, s61_86, kg10_2_85, kg7_85, ou85, low86⟩
        · intro m a87 w87 hk87 h
          obtain ⟨z87, s0_87, s3_87, s7_87, s51_87, s52_87, s53_87, s59_87, s60_87, s61_87, kg10_2_87, kg7_87, ob85_87, low87⟩ := h
          clear kg10_2_85 kg7_85 low86 s0_86 s3_86 s51_86 s52_86 s53_86 s59_86 s60_86 s61_86 s7_86 z86
          have hbl := bytesOf_length (l.getD k zL).f0
          have hps := shortG hsh k
          have hcl := cN_le (pathsL l) (l.getD k zL).f0
          have hc2 : cN (pathsL l) (l.getD k zL).f0 = (l.getD k zL).f0.size := dN2_round (by assumption)
          have hna : ¬ cAt (pathsL l) (l.getD k zL).f0 m := cN_round (by assumption)
          refine c_seq ?_
          refine c_region ?_
          refine l_q rfl (q_lss true rfl s61_87.ev s60_87.ev (decide_eq_true (by omega)) ?_)
          refine l_end ?_
          refine e_fresh z87.put ?_
          intro a88 z88 m88
          have s0_88 := m88 _ _ (s0_87.ne rfl)
          have s3_88 := m88 _ _ (s3_87.ne rfl)
          have s7_88 := m88 _ _ (s7_87.ne rfl)
          have s51_88 := m88 _ _ (s51_87.ne rfl)
          have s52_88 := m88 _ _ (s52_87.ne rfl)
          have s53_88 := m88 _ _ (s53_87.ne rfl)
          have s59_88 := m88 _ _ (s59_87.ne rfl)
          have s60_88 := m88 _ _ (s60_87.ne rfl)
          have s61_88 := m88 _ _ (s61_87.ne rfl)
          have s62_88 := m88 _ _ (At.hit z87 rfl)
          clear m88
          refine e_then ?_
          refine c_seq ?_
          refine c_true s62_88 ?_
          refine wp_skip ?_
          refine e_then ?_
          refine c_seq ?_
          refine wp_block ?_
          refine c_seq ?_
          refine c_region ?_
          refine l_q rfl (q_move _ _ rfl s61_88.ev ?_)
          refine l_q rfl (q_idxF (j := m) rfl Tryd.underlying38 sz5 (s59_88.ne rfl).ev ob85_87 (s61_88.ne rfl).ev (by first | omega | decide) ?_)
          refine l_q rfl (q_ld1 (u := .int .u8 ((bytesOf ((l.getD k zL).f0)).getD m 0)) rfl Tryd.underlying5 rfl (At.hit z88.put rfl).ev (fun _ e => by rw [e]; exact ob85_87) (by first | omega | decide) ((flat_at encU_len 0 _ m 0 (by first | omega | decide) (by decide)).trans rfl) ?_)
          refine l_q rfl (q_assign _ _ rfl (((At.hit z88 rfl).ne rfl).ne rfl).ev ?_)
          refine l_q rfl (q_assign _ _ rfl ((At.hit z88.put.put rfl).ne rfl).ev ?_)
          refine l_end ?_
          refine e_fresh z88.put.put.put.put.put ?_
          intro a89 z89 m89
          have s0_89 := m89 _ _ (((((s0_88.ne rfl).ne rfl).ne rfl).ne rfl).ne rfl)
          have s3_89 := m89 _ _ (((((s3_88.ne rfl).ne rfl).ne rfl).ne rfl).ne rfl)
          have s7_89 := m89 _ _ (((((s7_88.ne rfl).ne rfl).ne rfl).ne rfl).ne rfl)
          have s8_89 := m89 _ _ ((At.hit z88.put.put.put rfl).ne rfl)
          have s9_89 := m89 _ _ (At.hit z88.put.put.put.put rfl)
          have s51_89 := m89 _ _ (((((s51_88.ne rfl).ne rfl).ne rfl).ne rfl).ne rfl)
          have s52_89 := m89 _ _ (((((s52_88.ne rfl).ne rfl).ne rfl).ne rfl).ne rfl)
          have s53_89 := m89 _ _ (((((s53_88.ne rfl).ne rfl).ne rfl).ne rfl).ne rfl)
          have s59_89 := m89 _ _ (((((s59_88.ne rfl).ne rfl).ne rfl).ne rfl).ne rfl)
          have s60_89 := m89 _ _ (((((s60_88.ne rfl).ne rfl).ne rfl).ne rfl).ne rfl)
          have s61_89 := m89 _ _ (((((s61_88.ne rfl).ne rfl).ne rfl).ne rfl).ne rfl)
          clear m89
          refine e_then ?_
          refine c_seq ?_
          by_cases hb90 : (bytesOf (l.getD k zL).f0).getD m 0 = 47
          · skip
            refine c_region ?_
            refine l_q rfl (q_move _ _ rfl s9_89.ev ?_)
            refine l_q rfl (q_stridx (j := 0) rfl Tryd.underlying9 rfl rfl (by first | omega | decide) ?_)
            refine l_q rfl (q_eql true rfl ((At.hit z89 rfl).ne rfl).ev (At.hit z89.put rfl).ev (decide_eq_true (hb90.trans slash_byte.symm)) ?_)
            refine l_q rfl (q_move _ _ rfl (At.hit z89.put.put rfl).ev ?_)
            refine l_qg (wanted_is (j := 3) (d := 69) (b := true) rfl rfl (At.hit z89.put.put.put rfl) rfl) (q_move _ _ rfl ((((s3_89.ne rfl).ne rfl).ne rfl).ne rfl).ev ?_)
            refine l_qg (wanted_is (j := 3) (d := 69) (b := true) rfl rfl ((At.hit z89.put.put.put rfl).ne rfl) rfl) (q_fld 0 rfl (by kernel_rfl) (((((s7_89.ne rfl).ne rfl).ne rfl).ne rfl).ne rfl).ev ?_)
            refine l_qg (wanted_is (j := 3) (d := 69) (b := true) rfl rfl (((At.hit z89.put.put.put rfl).ne rfl).ne rfl) rfl) (q_cellT (.string ((l.getD k zL).f0)) rfl Tryd.underlying9 (At.hit z89.put.put.put.put.put rfl).ev (fun _ e => by rw [e]; exact (cells_at kg7_87 0).trans rfl) ?_)
            refine l_qg (wanted_is (j := 3) (d := 69) (b := true) rfl rfl ((((At.hit z89.put.put.put rfl).ne rfl).ne rfl).ne rfl) rfl) (q_move _ _ rfl (((((((s8_89.ne rfl).ne rfl).ne rfl).ne rfl).ne rfl).ne rfl).ne rfl).ev ?_)
            refine l_fresh z89.put.put.put.put.put.put.put.put ?_
            intro a91 z91 m91
            have s0_91 := m91 _ _ ((((((((s0_89.ne rfl).ne rfl).ne rfl).ne rfl).ne rfl).ne rfl).ne rfl).ne rfl)
            have s3_91 := m91 _ _ ((((((((s3_89.ne rfl).ne rfl).ne rfl).ne rfl).ne rfl).ne rfl).ne rfl).ne rfl)
            have s7_91 := m91 _ _ ((((((((s7_89.ne rfl).ne rfl).ne rfl).ne rfl).ne rfl).ne rfl).ne rfl).ne rfl)
            have s51_91 := m91 _ _ ((((((((s51_89.ne rfl).ne rfl).ne rfl).ne rfl).ne rfl).ne rfl).ne rfl).ne rfl)
            have s52_91 := m91 _ _ ((((((((s52_89.ne rfl).ne rfl).ne rfl).ne rfl).ne rfl).ne rfl).ne rfl).ne rfl)
            have s53_91 := m91 _ _ ((((((((s53_89.ne rfl).ne rfl).ne rfl).ne rfl).ne rfl).ne rfl).ne rfl).ne rfl)
            have s59_91 := m91 _ _ ((((((((s59_89.ne rfl).ne rfl).ne rfl).ne rfl).ne rfl).ne rfl).ne rfl).ne rfl)
            have s60_91 := m91 _ _ ((((((((s60_89.ne rfl).ne rfl).ne rfl).ne rfl).ne rfl).ne rfl).ne rfl).ne rfl)
            have s61_91 := m91 _ _ ((((((((s61_89.ne rfl).ne rfl).ne rfl).ne rfl).ne rfl).ne rfl).ne rfl).ne rfl)
            have s69_91 := m91 _ _ (((((At.hit z89.put.put.put rfl).ne rfl).ne rfl).ne rfl).ne rfl)
            have s70_91 := m91 _ _ ((((At.hit z89.put.put.put.put rfl).ne rfl).ne rfl).ne rfl)
            have s72_91 := m91 _ _ ((At.hit z89.put.put.put.put.put.put rfl).ne rfl)
            have s73_91 := m91 _ _ (At.hit z89.put.put.put.put.put.put.put rfl)
            clear m91
            refine l_qg (wanted_is (j := 3) (d := 69) (b := true) rfl rfl s69_91 rfl) (q_cuthi (k := m) rfl Tryd.underlying9 s72_91.ev s73_91.ev (by first | omega | decide) ?_)
            refine l_qg (wanted_is (j := 3) (d := 69) (b := true) rfl rfl (s69_91.ne rfl) rfl) (q_look (.bool false) rfl Tryd.underlying36 Tryd.underlying9 zero4 (s70_91.ne rfl).ev (At.hit z91 rfl).ev (fun _ e => by rw [e]; exact kg10_2_87) ((look_mapB (pathsL l) (((l.getD k zL).f0).extract 0 m)).trans (congrArg Value.bool (eq_false_of_ne_true fun e => hna ⟨hb90, e⟩))) ?_)
            refine l_q rfl (q_pick (b := true) (.bool false) rfl ((s69_91.ne rfl).ne rfl).ev (At.hit z91.put rfl).ev ?_)
            refine l_end ?_
            refine e_fresh z91.put.put.put ?_
            intro a92 z92 m92
            have s0_92 := m92 _ _ (((s0_91.ne rfl).ne rfl).ne rfl)
            have s3_92 := m92 _ _ (((s3_91.ne rfl).ne rfl).ne rfl)
            have s7_92 := m92 _ _ (((s7_91.ne rfl).ne rfl).ne rfl)
            have s51_92 := m92 _ _ (((s51_91.ne rfl).ne rfl).ne rfl)
            have s52_92 := m92 _ _ (((s52_91.ne rfl).ne rfl).ne rfl)
            have s53_92 := m92 _ _ (((s53_91.ne rfl).ne rfl).ne rfl)
            have s59_92 := m92 _ _ (((s59_91.ne rfl).ne rfl).ne rfl)
            have s60_92 := m92 _ _ (((s60_91.ne rfl).ne rfl).ne rfl)
            have s61_92 := m92 _ _ (((s61_91.ne rfl).ne rfl).ne rfl)
            have s76_92 := m92 _ _ (At.hit z91.put.put rfl)
            clear m92
            refine e_then ?_
            refine c_false s76_92 ?_
            refine wp_skip ?_
            refine e_in ?_
            refine e_then ?_
            refine c_region ?_
            refine l_q rfl (q_add (((m + 1 : Nat) : Int)) rfl s61_92.ev rfl (i64_is (by omega) (by omega) (by omega)) ?_)
            refine l_q rfl (q_move _ _ rfl (At.hit z92 rfl).ev ?_)
            refine l_end ?_
            refine e_fresh z92.put.put ?_
            intro a93 z93 m93
            have s0_93 := m93 _ _ ((s0_92.ne rfl).ne rfl)
            have s3_93 := m93 _ _ ((s3_92.ne rfl).ne rfl)
            have s7_93 := m93 _ _ ((s7_92.ne rfl).ne rfl)
            have s51_93 := m93 _ _ ((s51_92.ne rfl).ne rfl)
            have s52_93 := m93 _ _ ((s52_92.ne rfl).ne rfl)
            have s53_93 := m93 _ _ ((s53_92.ne rfl).ne rfl)
            have s59_93 := m93 _ _ ((s59_92.ne rfl).ne rfl)
            have s60_93 := m93 _ _ ((s60_92.ne rfl).ne rfl)
            have s61_93 := m93 _ _ (At.hit z92.put rfl)
            clear m93
            exact ⟨z93, s0_93, s3_93, s7_93, s51_93, s52_93, s53_93, s59_93, s60_93, s61_93, kg10_2_87, kg7_87, ob85_87, low87⟩
          · skip
            refine c_region ?_
            refine l_q rfl (q_move _ _ rfl s9_89.ev ?_)
            refine l_q rfl (q_stridx (j := 0) rfl Tryd.underlying9 rfl rfl (by first | omega | decide) ?_)
            refine l_q rfl (q_eql false rfl ((At.hit z89 rfl).ne rfl).ev (At.hit z89.put rfl).ev (decide_eq_false (fun e => hb90 (e.trans slash_byte))) ?_)
            refine l_q rfl (q_move _ _ rfl (At.hit z89.put.put rfl).ev ?_)
            refine l_skip (wanted_is (j := 3) (d := 69) (b := false) rfl rfl (At.hit z89.put.put.put rfl) rfl) ?_
            refine l_skip (wanted_is (j := 3) (d := 69) (b := false) rfl rfl ((At.hit z89.put.put.put rfl).ne rfl) rfl) ?_
            refine l_skip (wanted_is (j := 3) (d := 69) (b := false) rfl rfl (((At.hit z89.put.put.put rfl).ne rfl).ne rfl) rfl) ?_
            refine l_skip (wanted_is (j := 3) (d := 69) (b := false) rfl rfl ((((At.hit z89.put.put.put rfl).ne rfl).ne rfl).ne rfl) rfl) ?_
            refine l_fresh z89.put.put.put.put.put.put.put.put ?_
            intro a94 z94 m94
            have s0_94 := m94 _ _ ((((((((s0_89.ne rfl).ne rfl).ne rfl).ne rfl).ne rfl).ne rfl).ne rfl).ne rfl)
            have s3_94 := m94 _ _ ((((((((s3_89.ne rfl).ne rfl).ne rfl).ne rfl).ne rfl).ne rfl).ne rfl).ne rfl)
            have s7_94 := m94 _ _ ((((((((s7_89.ne rfl).ne rfl).ne rfl).ne rfl).ne rfl).ne rfl).ne rfl).ne rfl)
            have s51_94 := m94 _ _ ((((((((s51_89.ne rfl).ne rfl).ne rfl).ne rfl).ne rfl).ne rfl).ne rfl).ne rfl)
            have s52_94 := m94 _ _ ((((((((s52_89.ne rfl).ne rfl).ne rfl).ne rfl).ne rfl).ne rfl).ne rfl).ne rfl)
            have s53_94 := m94 _ _ ((((((((s53_89.ne rfl).ne rfl).ne rfl).ne rfl).ne rfl).ne rfl).ne rfl).ne rfl)
            have s59_94 := m94 _ _ ((((((((s59_89.ne rfl).ne rfl).ne rfl).ne rfl).ne rfl).ne rfl).ne rfl).ne rfl)
            have s60_94 := m94 _ _ ((((((((s60_89.ne rfl).ne rfl).ne rfl).ne rfl).ne rfl).ne rfl).ne rfl).ne rfl)
            have s61_94 := m94 _ _ ((((((((s61_89.ne rfl).ne rfl).ne rfl).ne rfl).ne rfl).ne rfl).ne rfl).ne rfl)
            have s69_94 := m94 _ _ (((((At.hit z89.put.put.put rfl).ne rfl).ne rfl).ne rfl).ne rfl)
            have s70_94 := m94 _ _ ((((At.hit z89.put.put.put.put rfl).ne rfl).ne rfl).ne rfl)
            have s72_94 := m94 _ _ ((At.hit z89.put.put.put.put.put.put rfl).ne rfl)
            have s73_94 := m94 _ _ (At.hit z89.put.put.put.put.put.put.put rfl)
            clear m94
            refine l_skip (wanted_is (j := 3) (d := 69) (b := false) rfl rfl s69_94 rfl) ?_
            refine l_skip (wanted_is (j := 3) (d := 69) (b := false) rfl rfl (s69_94.ne rfl) rfl) ?_
            refine l_q rfl (q_pick (b := false) (.bool false) rfl ((s69_94.ne rfl).ne rfl).ev rfl ?_)
            refine l_end ?_
            refine e_fresh z94.put.put.put ?_
            intro a95 z95 m95
            have s0_95 := m95 _ _ (((s0_94.ne rfl).ne rfl).ne rfl)
            have s3_95 := m95 _ _ (((s3_94.ne rfl).ne rfl).ne rfl)
            have s7_95 := m95 _ _ (((s7_94.ne rfl).ne rfl).ne rfl)
            have s51_95 := m95 _ _ (((s51_94.ne rfl).ne rfl).ne rfl)
            have s52_95 := m95 _ _ (((s52_94.ne rfl).ne rfl).ne rfl)
            have s53_95 := m95 _ _ (((s53_94.ne rfl).ne rfl).ne rfl)
            have s59_95 := m95 _ _ (((s59_94.ne rfl).ne rfl).ne rfl)
            have s60_95 := m95 _ _ (((s60_94.ne rfl).ne rfl).ne rfl)
            have s61_95 := m95 _ _ (((s61_94.ne rfl).ne rfl).ne rfl)
            have s76_95 := m95 _ _ (At.hit z94.put.put rfl)
            clear m95
            refine e_then ?_
            refine c_false s76_95 ?_
            refine wp_skip ?_
            refine e_in ?_
            refine e_then ?_
            refine c_region ?_
            refine l_q rfl (q_add (((m + 1 : Nat) : Int)) rfl s61_95.ev rfl (i64_is (by omega) (by omega) (by omega)) ?_)
            refine l_q rfl (q_move _ _ rfl (At.hit z95 rfl).ev ?_)
            refine l_end ?_
            refine e_fresh z95.put.put ?_
            intro a96 z96 m96
            have s0_96 := m96 _ _ ((s0_95.ne rfl).ne rfl)
            have s3_96 := m96 _ _ ((s3_95.ne rfl).ne rfl)
            have s7_96 := m96 _ _ ((s7_95.ne rfl).ne rfl)
            have s51_96 := m96 _ _ ((s51_95.ne rfl).ne rfl)
            have s52_96 := m96 _ _ ((s52_95.ne rfl).ne rfl)
            have s53_96 := m96 _ _ ((s53_95.ne rfl).ne rfl)
            have s59_96 := m96 _ _ ((s59_95.ne rfl).ne rfl)
            have s60_96 := m96 _ _ ((s60_95.ne rfl).ne rfl)
            have s61_96 := m96 _ _ (At.hit z95.put rfl)
            clear m96
            exact ⟨z96, s0_96, s3_96, s7_96, s51_96, s52_96, s53_96, s59_96, s60_96, s61_96, kg10_2_87, kg7_87, ob85_87, low87⟩
        · intro a97 w97 h
          obtain ⟨z97, s0_97, s3_97, s7_97, s51_97, s52_97, s53_97, s59_97, s60_97, s61_97, kg10_2_97, kg7_97, ob85_97, low97⟩ := h
          clear kg10_2_85 kg7_85 low86 s0_86 s3_86 s51_86 s52_86 s53_86 s59_86 s60_86 s61_86 s7_86 z86
          have hbl := bytesOf_length (l.getD k zL).f0
          have hps := shortG hsh k
          have hcl := cN_le (pathsL l) (l.getD k zL).f0
          have hc2 : cN (pathsL l) (l.getD k zL).f0 = (l.getD k zL).f0.size := dN2_round (by assumption)
          refine c_seq ?_
          refine c_region ?_
          refine l_q rfl (q_lss false rfl s61_97.ev s60_97.ev (decide_eq_false (by omega)) ?_)
          refine l_end ?_
          refine e_fresh z97.put ?_
          intro a98 z98 m98
          have s0_98 := m98 _ _ (s0_97.ne rfl)
          have s3_98 := m98 _ _ (s3_97.ne rfl)
          have s7_98 := m98 _ _ (s7_97.ne rfl)
          have s51_98 := m98 _ _ (s51_97.ne rfl)
          have s52_98 := m98 _ _ (s52_97.ne rfl)
          have s53_98 := m98 _ _ (s53_97.ne rfl)
          have s59_98 := m98 _ _ (s59_97.ne rfl)
          have s61_98 := m98 _ _ (s61_97.ne rfl)
          have s62_98 := m98 _ _ (At.hit z97 rfl)
          clear m98
          refine e_then ?_
          refine c_seq ?_
          refine c_false s62_98 ?_
          refine wp_exit ?_
          refine x_then ?_
          refine x_then ?_
          refine in_exit ?_
          refine e_in ?_
          refine e_then ?_
          refine c_region ?_
          refine l_q rfl (q_add (((k + 1 : Nat) : Int)) rfl s53_98.ev rfl (i64_is (by omega) (by omega) (by omega)) ?_)
          refine l_q rfl (q_move _ _ rfl (At.hit z98 rfl).ev ?_)
          refine l_end ?_
          refine e_fresh z98.put.put ?_
          intro a99 z99 m99
          have s0_99 := m99 _ _ ((s0_98.ne rfl).ne rfl)
          have s3_99 := m99 _ _ ((s3_98.ne rfl).ne rfl)
          have s51_99 := m99 _ _ ((s51_98.ne rfl).ne rfl)
          have s52_99 := m99 _ _ ((s52_98.ne rfl).ne rfl)
          have s53_99 := m99 _ _ (At.hit z98.put rfl)
          clear m99
          exact ⟨z99, s0_99, s3_99, s51_99, s52_99, s53_99, kg10_2_97, low97⟩
      · intro a100 w100 h
        obtain ⟨z100, s0_100, s3_100, s51_100, s52_100, s53_100, kg10_2_100, low100⟩ := h
        clear kg10_2_27 low27 s0_79 s3_79 s51_79 s52_79 s53_79 z79
        have hle2 := dN2_le (pathsL l) l
        have hps0 := shortG hsh (dN2 (pathsL l) l)
        refine c_seq ?_
        by_cases hb101 : dN2 (pathsL l) l < l.length
        · skip
          refine c_region ?_
          refine l_q rfl (q_lss true rfl s53_100.ev s52_100.ev (decide_eq_true (by omega)) ?_)
          refine l_end ?_
          refine e_fresh z100.put ?_
          intro a102 z102 m102
          have s0_102 := m102 _ _ (s0_100.ne rfl)
          have s3_102 := m102 _ _ (s3_100.ne rfl)
          have s51_102 := m102 _ _ (s51_100.ne rfl)
          have s53_102 := m102 _ _ (s53_100.ne rfl)
          have s54_102 := m102 _ _ (At.hit z100 rfl)
          clear m102
          refine e_then ?_
          refine c_seq ?_
          refine c_true s54_102 ?_
          refine wp_skip ?_
          refine e_then ?_
          refine c_seq ?_
          refine wp_block ?_
          refine c_seq ?_
          refine c_region ?_
          refine l_q rfl (q_idxF (j := (dN2 (pathsL l) l)) rfl Tryd.underlying22 sz34 s51_102.ev (hv.low low100) s53_102.ev (by first | omega | decide) ?_)
          refine l_q rfl (q_ldR (vs := [.string ((l.getD (dN2 (pathsL l) l) zL).f0), .int .i64 ((l.getD (dN2 (pathsL l) l) zL).f1), .string ((l.getD (dN2 (pathsL l) l) zL).f2)]) rfl Tryd.underlying34 rfl sz34 (At.hit z102 rfl).ev (fun _ e => by rw [e]; exact (hv.low low100)) (by first | omega | decide) rfl (flat_part encL_len zL _ (dN2 (pathsL l) l) (by first | omega | decide)) ?_)
          refine l_alloc rfl rfl zero34 ?_
          intro g7 w103 hg103 k103 h103
          have lt_g10_2_g7 := Nat.lt_of_lt_of_le kg10_2_100.lt hg103
          have geg7 := Nat.le_trans low100.ge hg103
          have kg10_2_103 := kg10_2_100.low h103
          have ov_103 := (hv.low low100).low h103
          refine l_row rfl rfl rfl (sz34.trans (congrArg some rfl.symm)) (At.hit z102.put.put rfl).ev ((At.hit z102.put rfl).ne rfl).ev (by simp [Value.oneCell']) k103 (rfl.trans rfl.symm) ?_
          intro w104 k104 u104
          have kg10_2_104 := kg10_2_103.upd u104 (by omega)
          refine l_end ?_
          refine e_fresh z102.put.put.put ?_
          intro a105 z105 m105
          have s0_105 := m105 _ _ (((s0_102.ne rfl).ne rfl).ne rfl)
          have s3_105 := m105 _ _ (((s3_102.ne rfl).ne rfl).ne rfl)
          have s7_105 := m105 _ _ (At.hit z102.put.put rfl)
          have s53_105 := m105 _ _ (((s53_102.ne rfl).ne rfl).ne rfl)
          have low105 := ((low100.trans h103).upd u104 geg7)
          clear m105
          refine e_then ?_
          refine c_seq ?_
          refine c_region ?_
          refine l_q rfl (q_fld 0 rfl (by kernel_rfl) s7_105.ev ?_)
          refine l_q rfl (q_cellT (.string ((l.getD (dN2 (pathsL l) l) zL).f0)) rfl Tryd.underlying9 (At.hit z105 rfl).ev (fun _ e => by rw [e]; exact (cells_at k104 0).trans rfl) ?_)
          refine l_bytes (B := w0.heap.size) rfl rfl Tryd.underlying9 Tryd.underlying38 Tryd.underlying5 (At.hit z105.put rfl).ev low105.ge (by omega) ?_
          intro v106 w106 o106 h106
          have kg10_2_106 := kg10_2_104.low h106
          have kg7_106 := h106.blk k104
          have ov_106 := (hv.low ((low100.trans h103).upd u104 geg7)).low h106
          have ou106 := ownB_rdF o106
          refine l_q rfl (q_lenF rfl rfl Tryd.underlying38 (At.hit z105.put.put rfl).ev ou106 ?_)
          refine l_q rfl (q_move _ _ rfl rfl ?_)
          refine l_end ?_
          refine e_fresh z105.put.put.put.put.put ?_
          intro a107 z107 m107
          have s0_107 := m107 _ _ (((((s0_105.ne rfl).ne rfl).ne rfl).ne rfl).ne rfl)
          have s3_107 := m107 _ _ (((((s3_105.ne rfl).ne rfl).ne rfl).ne rfl).ne rfl)
          have s7_107 := m107 _ _ (((((s7_105.ne rfl).ne rfl).ne rfl).ne rfl).ne rfl)
          have s53_107 := m107 _ _ (((((s53_105.ne rfl).ne rfl).ne rfl).ne rfl).ne rfl)
          have s59_107 := m107 _ _ (((At.hit z105.put.put rfl).ne rfl).ne rfl)
          have s60_107 := m107 _ _ ((At.hit z105.put.put.put rfl).ne rfl)
          have s61_107 := m107 _ _ (At.hit z105.put.put.put.put rfl)
          have low107 := (low105.trans h106)
          clear m107
          refine e_then ?_
          refine wp_block ?_
          refine c_loop (cN (pathsL l) (l.getD (dN2 (pathsL l) l) zL).f0) (fun m a w => Fr 82 a ∧ At a 0 (v) ∧ At a 3 (.map (some g10_2)) ∧ At a 7 (.pointer (some ⟨g7, 0, none⟩)) ∧ At a 53 (.int .i64 (((dN2 (pathsL l) l) : Nat) : Int)) ∧ At a 59 (v106) ∧ At a 60 (.int .i64 ((((bytesOf ((l.getD (dN2 (pathsL l) l) zL).f0)).length) : Nat) : Int)) ∧ At a 61 (.int .i64 ((m : Nat) : Int)) ∧ MapIs w g10_2 (mapB (pathsL l)) ∧ w.heap[g7]? = some (.cells (#[.string ((l.getD (dN2 (pathsL l) l) zL).f0), .int .i64 ((l.getD (dN2 (pathsL l) l) zL).f1), .string ((l.getD (dN2 (pathsL l) l) zL).f2)]) 34) ∧ RdF w 1 v106 (bytesOf ((l.getD (dN2 (pathsL l) l) zL).f0)).length (((bytesOf ((l.getD (dN2 (pathsL l) l) zL).f0)).map encU).flatten) ∧ Low w0 w) ?_ ?_ ?_
          · exact ⟨z107, s0_107, s3_107, s7_107, s53_107, s59_107, s60_107, s61_107, kg10_2_106, kg7_106, ou106, low107⟩
          · intro m a108 w108 hk108 h
            obtain ⟨z108, s0_108, s3_108, s7_108, s53_108, s59_108, s60_108, s61_108, kg10_2_108, kg7_108, ob106_108, low108⟩ := h
            clear kg10_2_106 kg7_106 low107 s0_107 s3_107 s53_107 s59_107 s60_107 s61_107 s7_107 z107
            have hbl := bytesOf_length (l.getD (dN2 (pathsL l) l) zL).f0
            have hps := shortG hsh (dN2 (pathsL l) l)
            have hcl := cN_le (pathsL l) (l.getD (dN2 (pathsL l) l) zL).f0
            have hst := dN2_stop hb101
            have hna : ¬ cAt (pathsL l) (l.getD (dN2 (pathsL l) l) zL).f0 m := cN_round (by assumption)
            refine c_seq ?_
            refine c_region ?_
            refine l_q rfl (q_lss true rfl s61_108.ev s60_108.ev (decide_eq_true (by omega)) ?_)
            refine l_end ?_
            refine e_fresh z108.put ?_
            intro a109 z109 m109
            have s0_109 := m109 _ _ (s0_108.ne rfl)
            have s3_109 := m109 _ _ (s3_108.ne rfl)
            have s7_109 := m109 _ _ (s7_108.ne rfl)
            have s53_109 := m109 _ _ (s53_108.ne rfl)
            have s59_109 := m109 _ _ (s59_108.ne rfl)
            have s60_109 := m109 _ _ (s60_108.ne rfl)
            have s61_109 := m109 _ _ (s61_108.ne rfl)
            have s62_109 := m109 _ _ (At.hit z108 rfl)
            clear m109
            refine e_then ?_
            refine c_seq ?_
            refine c_true s62_109 ?_
            refine wp_skip ?_
            refine e_then ?_
            refine c_seq ?_
            refine wp_block ?_
            refine c_seq ?_
            refine c_region ?_
            refine l_q rfl (q_move _ _ rfl s61_109.ev ?_)
            refine l_q rfl (q_idxF (j := m) rfl Tryd.underlying38 sz5 (s59_109.ne rfl).ev ob106_108 (s61_109.ne rfl).ev (by first | omega | decide) ?_)
            refine l_q rfl (q_ld1 (u := .int .u8 ((bytesOf ((l.getD (dN2 (pathsL l) l) zL).f0)).getD m 0)) rfl Tryd.underlying5 rfl (At.hit z109.put rfl).ev (fun _ e => by rw [e]; exact ob106_108) (by first | omega | decide) ((flat_at encU_len 0 _ m 0 (by first | omega | decide) (by decide)).trans rfl) ?_)
            refine l_q rfl (q_assign _ _ rfl (((At.hit z109 rfl).ne rfl).ne rfl).ev ?_)
            refine l_q rfl (q_assign _ _ rfl ((At.hit z109.put.put rfl).ne rfl).ev ?_)
            refine l_end ?_
            refine e_fresh z109.put.put.put.put.put ?_
            intro a110 z110 m110
            have s0_110 := m110 _ _ (((((s0_109.ne rfl).ne rfl).ne rfl).ne rfl).ne rfl)
            have s3_110 := m110 _ _ (((((s3_109.ne rfl).ne rfl).ne rfl).ne rfl).ne rfl)
            have s7_110 := m110 _ _ (((((s7_109.ne rfl).ne rfl).ne rfl).ne rfl).ne rfl)
            have s8_110 := m110 _ _ ((At.hit z109.put.put.put rfl).ne rfl)
            have s9_110 := m110 _ _ (At.hit z109.put.put.put.put rfl)
            have s53_110 := m110 _ _ (((((s53_109.ne rfl).ne rfl).ne rfl).ne rfl).ne rfl)
            have s59_110 := m110 _ _ (((((s59_109.ne rfl).ne rfl).ne rfl).ne rfl).ne rfl)
            have s60_110 := m110 _ _ (((((s60_109.ne rfl).ne rfl).ne rfl).ne rfl).ne rfl)
            have s61_110 := m110 _ _ (((((s61_109.ne rfl).ne rfl).ne rfl).ne rfl).ne rfl)
            clear m110
            refine e_then ?_
            refine c_seq ?_
            by_cases hb111 : (bytesOf (l.getD (dN2 (pathsL l) l) zL).f0).getD m 0 = 47
            · skip
              refine c_region ?_
              refine l_q rfl (q_move _ _ rfl s9_110.ev ?_)
              refine l_q rfl (q_stridx (j := 0) rfl Tryd.underlying9 rfl rfl (by first | omega | decide) ?_)
              refine l_q rfl (q_eql true rfl ((At.hit z110 rfl).ne rfl).ev (At.hit z110.put rfl).ev (decide_eq_true (hb111.trans slash_byte.symm)) ?_)
              refine l_q rfl (q_move _ _ rfl (At.hit z110.put.put rfl).ev ?_)
              refine l_qg (wanted_is (j := 3) (d := 69) (b := true) rfl rfl (At.hit z110.put.put.put rfl) rfl) (q_move _ _ rfl ((((s3_110.ne rfl).ne rfl).ne rfl).ne rfl).ev ?_)
              refine l_qg (wanted_is (j := 3) (d := 69) (b := true) rfl rfl ((At.hit z110.put.put.put rfl).ne rfl) rfl) (q_fld 0 rfl (by kernel_rfl) (((((s7_110.ne rfl).ne rfl).ne rfl).ne rfl).ne rfl).ev ?_)
              refine l_qg (wanted_is (j := 3) (d := 69) (b := true) rfl rfl (((At.hit z110.put.put.put rfl).ne rfl).ne rfl) rfl) (q_cellT (.string ((l.getD (dN2 (pathsL l) l) zL).f0)) rfl Tryd.underlying9 (At.hit z110.put.put.put.put.put rfl).ev (fun _ e => by rw [e]; exact (cells_at kg7_108 0).trans rfl) ?_)
              refine l_qg (wanted_is (j := 3) (d := 69) (b := true) rfl rfl ((((At.hit z110.put.put.put rfl).ne rfl).ne rfl).ne rfl) rfl) (q_move _ _ rfl (((((((s8_110.ne rfl).ne rfl).ne rfl).ne rfl).ne rfl).ne rfl).ne rfl).ev ?_)
              refine l_fresh z110.put.put.put.put.put.put.put.put ?_
              intro a112 z112 m112
              have s0_112 := m112 _ _ ((((((((s0_110.ne rfl).ne rfl).ne rfl).ne rfl).ne rfl).ne rfl).ne rfl).ne rfl)
              have s3_112 := m112 _ _ ((((((((s3_110.ne rfl).ne rfl).ne rfl).ne rfl).ne rfl).ne rfl).ne rfl).ne rfl)
              have s7_112 := m112 _ _ ((((((((s7_110.ne rfl).ne rfl).ne rfl).ne rfl).ne rfl).ne rfl).ne rfl).ne rfl)
              have s53_112 := m112 _ _ ((((((((s53_110.ne rfl).ne rfl).ne rfl).ne rfl).ne rfl).ne rfl).ne rfl).ne rfl)
              have s59_112 := m112 _ _ ((((((((s59_110.ne rfl).ne rfl).ne rfl).ne rfl).ne rfl).ne rfl).ne rfl).ne rfl)
              have s60_112 := m112 _ _ ((((((((s60_110.ne rfl).ne rfl).ne rfl).ne rfl).ne rfl).ne rfl).ne rfl).ne rfl)
              have s61_112 := m112 _ _ ((((((((s61_110.ne rfl).ne rfl).ne rfl).ne rfl).ne rfl).ne rfl).ne rfl).ne rfl)
              have s69_112 := m112 _ _ (((((At.hit z110.put.put.put rfl).ne rfl).ne rfl).ne rfl).ne rfl)
              have s70_112 := m112 _ _ ((((At.hit z110.put.put.put.put rfl).ne rfl).ne rfl).ne rfl)
              have s72_112 := m112 _ _ ((At.hit z110.put.put.put.put.put.put rfl).ne rfl)
              have s73_112 := m112 _ _ (At.hit z110.put.put.put.put.put.put.put rfl)
              clear m112
              refine l_qg (wanted_is (j := 3) (d := 69) (b := true) rfl rfl s69_112 rfl) (q_cuthi (k := m) rfl Tryd.underlying9 s72_112.ev s73_112.ev (by first | omega | decide) ?_)
              refine l_qg (wanted_is (j := 3) (d := 69) (b := true) rfl rfl (s69_112.ne rfl) rfl) (q_look (.bool false) rfl Tryd.underlying36 Tryd.underlying9 zero4 (s70_112.ne rfl).ev (At.hit z112 rfl).ev (fun _ e => by rw [e]; exact kg10_2_108) ((look_mapB (pathsL l) (((l.getD (dN2 (pathsL l) l) zL).f0).extract 0 m)).trans (congrArg Value.bool (eq_false_of_ne_true fun e => hna ⟨hb111, e⟩))) ?_)
              refine l_q rfl (q_pick (b := true) (.bool false) rfl ((s69_112.ne rfl).ne rfl).ev (At.hit z112.put rfl).ev ?_)
              refine l_end ?_
              refine e_fresh z112.put.put.put ?_
              intro a113 z113 m113
              have s0_113 := m113 _ _ (((s0_112.ne rfl).ne rfl).ne rfl)
              have s3_113 := m113 _ _ (((s3_112.ne rfl).ne rfl).ne rfl)
              have s7_113 := m113 _ _ (((s7_112.ne rfl).ne rfl).ne rfl)
              have s53_113 := m113 _ _ (((s53_112.ne rfl).ne rfl).ne rfl)
              have s59_113 := m113 _ _ (((s59_112.ne rfl).ne rfl).ne rfl)
              have s60_113 := m113 _ _ (((s60_112.ne rfl).ne rfl).ne rfl)
              have s61_113 := m113 _ _ (((s61_112.ne rfl).ne rfl).ne rfl)
              have s76_113 := m113 _ _ (At.hit z112.put.put rfl)
              clear m113
              refine e_then ?_
              refine c_false s76_113 ?_
              refine wp_skip ?_
              refine e_in ?_
              refine e_then ?_
              refine c_region ?_
              refine l_q rfl (q_add (((m + 1 : Nat) : Int)) rfl s61_113.ev rfl (i64_is (by omega) (by omega) (by omega)) ?_)
              refine l_q rfl (q_move _ _ rfl (At.hit z113 rfl).ev ?_)
              refine l_end ?_
              refine e_fresh z113.put.put ?_
              intro a114 z114 m114
              have s0_114 := m114 _ _ ((s0_113.ne rfl).ne rfl)
              have s3_114 := m114 _ _ ((s3_113.ne rfl).ne rfl)
              have s7_114 := m114 _ _ ((s7_113.ne rfl).ne rfl)
              have s53_114 := m114 _ _ ((s53_113.ne rfl).ne rfl)
              have s59_114 := m114 _ _ ((s59_113.ne rfl).ne rfl)
              have s60_114 := m114 _ _ ((s60_113.ne rfl).ne rfl)
              have s61_114 := m114 _ _ (At.hit z113.put rfl)
              clear m114
              exact ⟨z114, s0_114, s3_114, s7_114, s53_114, s59_114, s60_114, s61_114, kg10_2_108, kg7_108, ob106_108, low108⟩
            · skip
              refine c_region ?_
              refine l_q rfl (q_move _ _ rfl s9_110.ev ?_)
              refine l_q rfl (q_stridx (j := 0) rfl Tryd.underlying9 rfl rfl (by first | omega | decide) ?_)
              refine l_q rfl (q_eql false rfl ((At.hit z110 rfl).ne rfl).ev (At.hit z110.put rfl).ev (decide_eq_false (fun e => hb111 (e.trans slash_byte))) ?_)
              refine l_q rfl (q_move _ _ rfl (At.hit z110.put.put rfl).ev ?_)
              refine l_skip (wanted_is (j := 3) (d := 69) (b := false) rfl rfl (At.hit z110.put.put.put rfl) rfl) ?_
              refine l_skip (wanted_is (j := 3) (d := 69) (b := false) rfl rfl ((At.hit z110.put.put.put rfl).ne rfl) rfl) ?_
              refine l_skip (wanted_is (j := 3) (d := 69) (b := false) rfl rfl (((At.hit z110.put.put.put rfl).ne rfl).ne rfl) rfl) ?_
              refine l_skip (wanted_is (j := 3) (d := 69) (b := false) rfl rfl ((((At.hit z110.put.put.put rfl).ne rfl).ne rfl).ne rfl) rfl) ?_
              refine l_fresh z110.put.put.put.put.put.put.put.put ?_
              intro a115 z115 m115
              have s0_115 := m115 _ _ ((((((((s0_110.ne rfl).ne rfl).ne rfl).ne rfl).ne rfl).ne rfl).ne rfl).ne rfl)
              have s3_115 := m115 _ _ ((((((((s3_110.ne rfl).ne rfl).ne rfl).ne rfl).ne rfl).ne rfl).ne rfl).ne rfl)
              have s7_115 := m115 _ _ ((((((((s7_110.ne rfl).ne rfl).ne rfl).ne rfl).ne rfl).ne rfl).ne rfl).ne rfl)
              have s53_115 := m115 _ _ ((((((((s53_110.ne rfl).ne rfl).ne rfl).ne rfl).ne rfl).ne rfl).ne rfl).ne rfl)
              have s59_115 := m115 _ _ ((((((((s59_110.ne rfl).ne rfl).ne rfl).ne rfl).ne rfl).ne rfl).ne rfl).ne rfl)
              have s60_115 := m115 _ _ ((((((((s60_110.ne rfl).ne rfl).ne rfl).ne rfl).ne rfl).ne rfl).ne rfl).ne rfl)
              have s61_115 := m115 _ _ ((((((((s61_110.ne rfl).ne rfl).ne rfl).ne rfl).ne rfl).ne rfl).ne rfl).ne rfl)
              have s69_115 := m115 _ _ (((((At.hit z110.put.put.put rfl).ne rfl).ne rfl).ne rfl).ne rfl)
              have s70_115 := m115 _ _ ((((At.hit z110.put.put.put.put rfl).ne rfl).ne rfl).ne rfl)
              have s72_115 := m115 _ _ ((At.hit z110.put.put.put.put.put.put rfl).ne rfl)
              have s73_115 := m115 _ _ (At.hit z110.put.put.put.put.put.put.put rfl)
              clear m115
              refine l_skip (wanted_is (j := 3) (d := 69) (b := false) rfl rfl s69_115 rfl) ?_
              refine l_skip (wanted_is (j := 3) (d := 69) (b := false) rfl rfl (s69_115.ne rfl) rfl) ?_
              refine l_q rfl (q_pick (b := false) (.bool false) rfl ((s69_115.ne rfl).ne rfl).ev rfl ?_)
              refine l_end ?_
              refine e_fresh z115.put.put.put ?_
              intro a116 z116 m116
              have s0_116 := m116 _ _ (((s0_115.ne rfl).ne rfl).ne rfl)
              have s3_116 := m116 _ _ (((s3_115.ne rfl).ne rfl).ne rfl)
              have s7_116 := m116 _ _ (((s7_115.ne rfl).ne rfl).ne rfl)
              have s53_116 := m116 _ _ (((s53_115.ne rfl).ne rfl).ne rfl)
              have s59_116 := m116 _ _ (((s59_115.ne rfl).ne rfl).ne rfl)
              have s60_116 := m116 _ _ (((s60_115.ne rfl).ne rfl).ne rfl)
              have s61_116 := m116 _ _ (((s61_115.ne rfl).ne rfl).ne rfl)
              have s76_116 := m116 _ _ (At.hit z115.put.put rfl)
              clear m116
              refine e_then ?_
              refine c_false s76_116 ?_
              refine wp_skip ?_
              refine e_in ?_
              refine e_then ?_
              refine c_region ?_
              refine l_q rfl (q_add (((m + 1 : Nat) : Int)) rfl s61_116.ev rfl (i64_is (by omega) (by omega) (by omega)) ?_)
              refine l_q rfl (q_move _ _ rfl (At.hit z116 rfl).ev ?_)
              refine l_end ?_
              refine e_fresh z116.put.put ?_
              intro a117 z117 m117
              have s0_117 := m117 _ _ ((s0_116.ne rfl).ne rfl)
              have s3_117 := m117 _ _ ((s3_116.ne rfl).ne rfl)
              have s7_117 := m117 _ _ ((s7_116.ne rfl).ne rfl)
              have s53_117 := m117 _ _ ((s53_116.ne rfl).ne rfl)
              have s59_117 := m117 _ _ ((s59_116.ne rfl).ne rfl)
              have s60_117 := m117 _ _ ((s60_116.ne rfl).ne rfl)
              have s61_117 := m117 _ _ (At.hit z116.put rfl)
              clear m117
              exact ⟨z117, s0_117, s3_117, s7_117, s53_117, s59_117, s60_117, s61_117, kg10_2_108, kg7_108, ob106_108, low108⟩
          · intro a118 w118 h
            obtain ⟨z118, s0_118, s3_118, s7_118, s53_118, s59_118, s60_118, s61_118, kg10_2_118, kg7_118, ob106_118, low118⟩ := h
            clear kg10_2_106 kg7_106 low107 s0_107 s3_107 s53_107 s59_107 s60_107 s61_107 s7_107 z107
            have hbl := bytesOf_length (l.getD (dN2 (pathsL l) l) zL).f0
            have hps := shortG hsh (dN2 (pathsL l) l)
            have hcl := cN_le (pathsL l) (l.getD (dN2 (pathsL l) l) zL).f0
            have hst := dN2_stop hb101
            refine c_seq ?_
            refine c_region ?_
            refine l_q rfl (q_lss true rfl s61_118.ev s60_118.ev (decide_eq_true (by omega)) ?_)
            refine l_end ?_
            refine e_fresh z118.put ?_
            intro a119 z119 m119
            have s0_119 := m119 _ _ (s0_118.ne rfl)
            have s3_119 := m119 _ _ (s3_118.ne rfl)
            have s7_119 := m119 _ _ (s7_118.ne rfl)
            have s53_119 := m119 _ _ (s53_118.ne rfl)
            have s59_119 := m119 _ _ (s59_118.ne rfl)
            have s61_119 := m119 _ _ (s61_118.ne rfl)
            have s62_119 := m119 _ _ (At.hit z118 rfl)
            clear m119
            refine e_then ?_
            refine c_seq ?_
            refine c_true s62_119 ?_
            refine wp_skip ?_
            refine e_then ?_
            refine c_seq ?_
            refine wp_block ?_
            refine c_seq ?_
            refine c_region ?_
            refine l_q rfl (q_move _ _ rfl s61_119.ev ?_)
            refine l_q rfl (q_idxF (j := (cN (pathsL l) (l.getD (dN2 (pathsL l) l) zL).f0)) rfl Tryd.underlying38 sz5 (s59_119.ne rfl).ev ob106_118 (s61_119.ne rfl).ev (by first | omega | decide) ?_)
            refine l_q rfl (q_ld1 (u := .int .u8 ((bytesOf ((l.getD (dN2 (pathsL l) l) zL).f0)).getD (cN (pathsL l) (l.getD (dN2 (pathsL l) l) zL).f0) 0)) rfl Tryd.underlying5 rfl (At.hit z119.put rfl).ev (fun _ e => by rw [e]; exact ob106_118) (by first | omega | decide) ((flat_at encU_len 0 _ (cN (pathsL l) (l.getD (dN2 (pathsL l) l) zL).f0) 0 (by first | omega | decide) (by decide)).trans rfl) ?_)
            refine l_q rfl (q_assign _ _ rfl (((At.hit z119 rfl).ne rfl).ne rfl).ev ?_)
            refine l_q rfl (q_assign _ _ rfl ((At.hit z119.put.put rfl).ne rfl).ev ?_)
            refine l_end ?_
            refine e_fresh z119.put.put.put.put.put ?_
            intro a120 z120 m120
            have s0_120 := m120 _ _ (((((s0_119.ne rfl).ne rfl).ne rfl).ne rfl).ne rfl)
            have s3_120 := m120 _ _ (((((s3_119.ne rfl).ne rfl).ne rfl).ne rfl).ne rfl)
            have s7_120 := m120 _ _ (((((s7_119.ne rfl).ne rfl).ne rfl).ne rfl).ne rfl)
            have s8_120 := m120 _ _ ((At.hit z119.put.put.put rfl).ne rfl)
            have s9_120 := m120 _ _ (At.hit z119.put.put.put.put rfl)
            have s53_120 := m120 _ _ (((((s53_119.ne rfl).ne rfl).ne rfl).ne rfl).ne rfl)
            have s61_120 := m120 _ _ (((((s61_119.ne rfl).ne rfl).ne rfl).ne rfl).ne rfl)
            clear m120
            refine e_then ?_
            refine c_seq ?_
            refine c_region ?_
            refine l_q rfl (q_move _ _ rfl s9_120.ev ?_)
            refine l_q rfl (q_stridx (j := 0) rfl Tryd.underlying9 rfl rfl (by first | omega | decide) ?_)
            refine l_q rfl (q_eql true rfl ((At.hit z120 rfl).ne rfl).ev (At.hit z120.put rfl).ev (decide_eq_true ((cN_stop hst).1.trans slash_byte.symm)) ?_)
            refine l_q rfl (q_move _ _ rfl (At.hit z120.put.put rfl).ev ?_)
            refine l_qg (wanted_is (j := 3) (d := 69) (b := true) rfl rfl (At.hit z120.put.put.put rfl) rfl) (q_move _ _ rfl ((((s3_120.ne rfl).ne rfl).ne rfl).ne rfl).ev ?_)
            refine l_qg (wanted_is (j := 3) (d := 69) (b := true) rfl rfl ((At.hit z120.put.put.put rfl).ne rfl) rfl) (q_fld 0 rfl (by kernel_rfl) (((((s7_120.ne rfl).ne rfl).ne rfl).ne rfl).ne rfl).ev ?_)
            refine l_qg (wanted_is (j := 3) (d := 69) (b := true) rfl rfl (((At.hit z120.put.put.put rfl).ne rfl).ne rfl) rfl) (q_cellT (.string ((l.getD (dN2 (pathsL l) l) zL).f0)) rfl Tryd.underlying9 (At.hit z120.put.put.put.put.put rfl).ev (fun _ e => by rw [e]; exact (cells_at kg7_118 0).trans rfl) ?_)
            refine l_qg (wanted_is (j := 3) (d := 69) (b := true) rfl rfl ((((At.hit z120.put.put.put rfl).ne rfl).ne rfl).ne rfl) rfl) (q_move _ _ rfl (((((((s8_120.ne rfl).ne rfl).ne rfl).ne rfl).ne rfl).ne rfl).ne rfl).ev ?_)
            refine l_fresh z120.put.put.put.put.put.put.put.put ?_
            intro a121 z121 m121
            have s0_121 := m121 _ _ ((((((((s0_120.ne rfl).ne rfl).ne rfl).ne rfl).ne rfl).ne rfl).ne rfl).ne rfl)
            have s53_121 := m121 _ _ ((((((((s53_120.ne rfl).ne rfl).ne rfl).ne rfl).ne rfl).ne rfl).ne rfl).ne rfl)
            have s61_121 := m121 _ _ ((((((((s61_120.ne rfl).ne rfl).ne rfl).ne rfl).ne rfl).ne rfl).ne rfl).ne rfl)
            have s69_121 := m121 _ _ (((((At.hit z120.put.put.put rfl).ne rfl).ne rfl).ne rfl).ne rfl)
            have s70_121 := m121 _ _ ((((At.hit z120.put.put.put.put rfl).ne rfl).ne rfl).ne rfl)
            have s72_121 := m121 _ _ ((At.hit z120.put.put.put.put.put.put rfl).ne rfl)
            have s73_121 := m121 _ _ (At.hit z120.put.put.put.put.put.put.put rfl)
            clear m121
            refine l_qg (wanted_is (j := 3) (d := 69) (b := true) rfl rfl s69_121 rfl) (q_cuthi (k := (cN (pathsL l) (l.getD (dN2 (pathsL l) l) zL).f0)) rfl Tryd.underlying9 s72_121.ev s73_121.ev (by first | omega | decide) ?_)
            refine l_qg (wanted_is (j := 3) (d := 69) (b := true) rfl rfl (s69_121.ne rfl) rfl) (q_look (.bool true) rfl Tryd.underlying36 Tryd.underlying9 zero4 (s70_121.ne rfl).ev (At.hit z121 rfl).ev (fun _ e => by rw [e]; exact kg10_2_118) ((look_mapB (pathsL l) (((l.getD (dN2 (pathsL l) l) zL).f0).extract 0 (cN (pathsL l) (l.getD (dN2 (pathsL l) l) zL).f0))).trans (congrArg Value.bool (cN_stop hst).2)) ?_)
            refine l_q rfl (q_pick (b := true) (.bool true) rfl ((s69_121.ne rfl).ne rfl).ev (At.hit z121.put rfl).ev ?_)
            refine l_end ?_
            refine e_fresh z121.put.put.put ?_
            intro a122 z122 m122
            have s0_122 := m122 _ _ (((s0_121.ne rfl).ne rfl).ne rfl)
            have s53_122 := m122 _ _ (((s53_121.ne rfl).ne rfl).ne rfl)
            have s61_122 := m122 _ _ (((s61_121.ne rfl).ne rfl).ne rfl)
            have s76_122 := m122 _ _ (At.hit z121.put.put rfl)
            clear m122
            refine e_then ?_
            refine c_true s76_122 ?_
            refine c_seq ?_
            refine c_region ?_
            refine l_q rfl (q_assign _ _ rfl rfl ?_)
            refine l_end ?_
            refine e_fresh z122.put ?_
            intro a123 z123 m123
            have s2_123 := m123 _ _ (At.hit z122 rfl)
            clear m123
            refine e_then ?_
            refine wp_ret ?_
            refine ret_in ?_
            refine ret_then ?_
            refine ret_then ?_
            refine ret_in ?_
            refine ret_in ?_
            refine ret_then ?_
            refine ret_then ?_
            refine ret_in ?_
            refine ret_then ?_
            refine r_tmp rfl z123.defers s2_123 ?_
            exact ⟨by rw [right_2 hb101]; rfl, low118⟩
        · skip
          refine c_region ?_
          refine l_q rfl (q_lss false rfl s53_100.ev s52_100.ev (decide_eq_false (by omega)) ?_)
          refine l_end ?_
          refine e_fresh z100.put ?_
          intro a124 z124 m124
          have s0_124 := m124 _ _ (s0_100.ne rfl)
          have s3_124 := m124 _ _ (s3_100.ne rfl)
          have s51_124 := m124 _ _ (s51_100.ne rfl)
          have s53_124 := m124 _ _ (s53_100.ne rfl)
          have s54_124 := m124 _ _ (At.hit z100 rfl)
          clear m124
          refine e_then ?_
          refine c_seq ?_
          refine c_false s54_124 ?_
          refine wp_exit ?_
          refine x_then ?_
          refine x_then ?_
          refine in_exit ?_
          refine e_then ?_
          refine c_seq ?_
          refine c_region ?_
          refine l_q rfl (q_move _ _ rfl s0_124.ev ?_)
          refine l_q rfl (q_lenF rfl rfl Tryd.underlying22 (At.hit z124 rfl).ev (hv.low low100) ?_)
          refine l_q rfl (q_leq _ rfl (At.hit z124.put rfl).ev rfl rfl ?_)
          refine l_q rfl (q_assign _ _ rfl (At.hit z124.put.put rfl).ev ?_)
          refine l_end ?_
          refine e_fresh z124.put.put.put.put ?_
          intro a125 z125 m125
          have s2_125 := m125 _ _ (At.hit z124.put.put.put rfl)
          clear m125
          refine e_then ?_
          refine wp_ret ?_
          refine r_tmp rfl z125.defers s2_125 ?_
          exact ⟨by rw [right_3 hb28 hb101], low100⟩
end Go.Proofs.YtenbgnlkkmnmhaaDoor.Q
end
/-! N2 -/
section
namespace Go.Proofs.YtenbgnlkkmnmhaaDoor.Q
open Go.RowKit
open Go.Proofs.YtenbgnlkkmnmhaaDoorW.PrintWords (bytesOf bytesOf_length)
set_option linter.unusedSimpArgs false
theorem bytesOf_at (s : ByteArray) (i : Nat) (h : i < s.size) : (bytesOf s).getD i 0 = ((s[i]'h).toNat : Int) := by
  unfold bytesOf
  have h2 : i < s.data.toList.length := by rw [bytes_len]; exact h
  rw [List.getD_eq_getElem?_getD, List.getElem?_map, List.getElem?_eq_getElem h2]
  simp
  rfl
theorem cAt_within {ps : List ByteArray} {p : ByteArray} {i : Nat} (hi : i < p.size) : cAt ps p i ↔ ∃ d ∈ ps, d.size = i ∧ within p d = true := by
  unfold cAt
  rw [bytesOf_at p i hi, memB_iff]
  constructor
  · rintro ⟨h1, h2⟩
    have hsz : (p.extract 0 i).size = i := by simp; omega
    refine ⟨_, h2, hsz, ?_⟩
    unfold within
    rw [dif_pos (by omega)]
    simp only [hsz, Bool.and_eq_true, decide_eq_true_eq, true_and]
    exact h1
  · rintro ⟨d, hd, rfl, hw⟩
    unfold within at hw
    rw [dif_pos hi, Bool.and_eq_true, decide_eq_true_iff, decide_eq_true_iff] at hw
    exact ⟨hw.2, by rw [hw.1]; exact hd⟩
theorem within_size {p d : ByteArray} (h : within p d = true) : d.size < p.size := by
  unfold within at h
  split at h
  · rename_i q; exact q
  · cases h
theorem riseAt {l : List LfL} (h : ∀ i, i < l.length → 0 < i → lessB (l.getD (i - 1) zL).f0 (l.getD i zL).f0 = true) : RiseL l := by
  have g : ∀ i, (hi : i < l.length) → l.getD i zL = l[i] := fun i hi => by rw [List.getD_eq_getElem?_getD, List.getElem?_eq_getElem hi]; rfl
  have key : ∀ j i, (hij : i < j) → (hj : j < l.length) → lessB (l[i]'(by omega)).f0 l[j].f0 = true := by
    intro j
    induction j with
    | zero => intro i hij; omega
    | succ j ih =>
      intro i hij hj
      have h1 := h (j + 1) hj (by omega)
      rw [Nat.add_sub_cancel, g j (by omega), g (j + 1) hj] at h1
      by_cases hi : i = j
      · subst hi; exact h1
      · exact lessB_trans (ih i (by omega) (by omega)) h1
  exact List.pairwise_iff_getElem.2 fun i j hi hj hij => key j i hij hj
def leafOk (x : LfL) : Prop := pathB x.f0 = true ∧ 1 ≤ x.f1 ∧ x.f1 ≤ 2
theorem right_iff (l : List LfL) : rightB l = true ↔ (∀ x ∈ l, leafOk x) ∧ RiseL l ∧ Apart l ∧ l.length ≤ 256 := by
  have e1 := rN_le l
  have e2 := dN2_le (pathsL l) l
  unfold rightB
  rw [Bool.and_eq_true, Bool.and_eq_true, decide_eq_true_iff, decide_eq_true_iff, decide_eq_true_iff]
  constructor
  · rintro ⟨h1, h2, h3⟩
    have hat : ∀ i, i < l.length → rAt l i := fun i hi => rN_round (by omega)
    refine ⟨fun x hx => ?_, riseAt fun i hi h0 => (hat i hi).2.2.2 h0, fun x hx y hy => ?_, h3⟩
    · obtain ⟨i, hi, rfl⟩ := mem_getD zL hx
      have := hat i hi
      exact ⟨this.1, this.2.1, this.2.2.1⟩
    · cases hw : within y.f0 x.f0 with
      | false => rfl
      | true =>
        exfalso
        obtain ⟨i, hi, rfl⟩ := mem_getD zL hy
        have hc := dN2_round (ps := pathsL l) (l := l) (i := i) (by omega)
        have hs := within_size hw
        exact cN_round (ps := pathsL l) (p := (l.getD i zL).f0) (i := x.f0.size) (by omega) ((cAt_within hs).2 ⟨x.f0, List.mem_map.2 ⟨x, hx, rfl⟩, rfl, hw⟩)
  · rintro ⟨h1, h2, h3, h4⟩
    refine ⟨?_, ?_, h4⟩
    · rcases Nat.lt_or_ge (rN l) l.length with hlt | hge
      · exfalso
        have hx := h1 _ (getD_mem (d := zL) hlt)
        exact rN_stop hlt ⟨hx.1, hx.2.1, hx.2.2, fun h0 => riseG h2 (by omega) hlt⟩
      · omega
    · rcases Nat.lt_or_ge (dN2 (pathsL l) l) l.length with hlt | hge
      · exfalso
        have hc := dN2_stop hlt
        obtain ⟨d, hd, _, hw⟩ := (cAt_within hc).1 (cN_stop hc)
        obtain ⟨x, hx, rfl⟩ := List.mem_map.1 hd
        rw [h3 x hx _ (getD_mem hlt)] at hw
        cases hw
      · omega
theorem right_apart {l : List LfL} (h : rightB l = true) : Apart l := ((right_iff l).1 h).2.2.1
theorem right_out {b o t : List LfL} (ho : rightB o = true) (ht : rightB t = true) (h : badA b o t = []) (hl : (outF b o t).length ≤ 256) : rightB (outF b o t) = true := by
  refine (right_iff _).2 ⟨fun x hx => ?_, outF_rise b o t, (none_bad h).2, hl⟩
  rcases (out_mem hx).2.2.2 with hx | hx
  · exact ((right_iff o).1 ho).1 x hx
  · exact ((right_iff t).1 ht).1 x hx
end Go.Proofs.YtenbgnlkkmnmhaaDoor.Q
end
