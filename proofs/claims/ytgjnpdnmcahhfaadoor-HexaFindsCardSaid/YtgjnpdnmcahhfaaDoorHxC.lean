/- awake and few, and the statement HexaTells, over plain functions. -/
import Derived.Test.YtgjnpdnmcahhfaaDoorPx15
import Derived.Test.YtgjnpdnmcahhfaaDoorPx5
import Derived.Test.YtgjnpdnmcahhfaaDoorPx6
import Derived.Test.YtgjnpdnmcahhfaaDoorHxB
namespace Go.Proofs.YtgjnpdnmcahhfaaDoor.U
set_option linter.unusedVariables false
open Go.RowKit Go.Proofs.YtgjnpdnmcahhfaaDoor.P Go.Proofs.YtgjnpdnmcahhfaaDoorW.PrintWords Go.Proofs.YtgjnpdnmcahhfaaDoorW.PrintMore

theorem awake_ev : Ev (fun k => diptychlaw01_awake.f k) true := by
  obtain ⟨K1, h1⟩ := Ev.get (hexa_Bytes_ev ⟨#[48, 48, 102, 102, 49, 97]⟩ (by decide))
  obtain ⟨K2, h2⟩ := Ev.get (hexa_Bytes_ev ⟨#[70, 70]⟩ (by decide))
  obtain ⟨K3, h3⟩ := Ev.get (hexa_Find_ev [⟨#[171, 205]⟩, ⟨#[171, 206]⟩] ⟨#[97, 98, 99, 100]⟩ (by intro b hb; simp at hb; rcases hb with rfl | rfl <;> decide) (by simp) (by decide))
  obtain ⟨K4, h4⟩ := Ev.get (hexa_Digits_ev ⟨#[171, 192]⟩ (by decide))
  obtain ⟨K5, h5⟩ := Ev.get (hexa_Short_ev ⟨#[97, 98, 99]⟩ (by decide))
  obtain ⟨K6, h6⟩ := Ev.get (hexa_Least_ev [] ⟨#[171, 205, 239]⟩ (by intro b hb; simp at hb) (by simp) (by decide))
  have e1 : bytesR (L ⟨#[48, 48, 102, 102, 49, 97]⟩) = (⟨#[0, 255, 26]⟩, 0) := by decide +kernel
  have e2 : bytesR (L ⟨#[70, 70]⟩) = (⟨#[]⟩, 3) := by decide +kernel
  have e3 : findR [⟨#[171, 205]⟩, ⟨#[171, 206]⟩] ⟨#[97, 98, 99, 100]⟩ = (⟨#[171, 205]⟩, 0) := by decide +kernel
  have e4 : digs (L ⟨#[171, 192]⟩) = [97, 98, 99, 48] := by decide +kernel
  have e5 : shortR (L ⟨#[97, 98, 99]⟩) = 1 := by decide +kernel
  have e6 : (leastR [] (L ⟨#[171, 205, 239]⟩) : Int) = 4 := by decide +kernel
  rw [e1] at h1
  rw [e2] at h2
  rw [e3] at h3
  rw [e4] at h4
  rw [e5] at h5
  rw [e6] at h6
  refine ⟨K1 + K2 + K3 + K4 + K5 + K6, fun n hn => ?_⟩
  show diptychlaw01_awake.f n = some true
  unfold diptychlaw01_awake.f
  rw [h1 n (by omega), h2 n (by omega), h3 n (by omega), h4 n (by omega), h5 n (by omega), h6 n (by omega), size_f]
  simp only [Option.bind_some, toList_L]
  rfl

theorem few_l0 (l : List ByteArray) : ∀ (d i m : Nat), d = 201 - i → i ≤ l.length → m ≤ 5000 → (∀ x ∈ l.take i, x.size ≤ 5000) → i ≤ 200 →
    ∃ b, Ev (fun k => diptychlaw01_few.l0 k l (m : Int) (i : Int)) b ∧ (b = true → l.length ≤ 200 ∧ ∀ x ∈ l, x.size ≤ 5000) := by
  intro d
  induction d with
  | zero => intro i m hd hi hm hs hi2; omega
  | succ d ih =>
    intro i m hd hi hm hs hi2
    by_cases c : i < l.length
    · by_cases c2 : 200 ≤ i
      · refine ⟨false, Ev.one fun n => ?_, fun h => by cases h⟩
        simp only [diptychlaw01_few.l0]
        rw [if_pos (by omega), if_pos (by omega), if_pos (by omega)]
      · have w1 := Lib.hid (show wrap64 ((m : Int) + 1) = ((m + 1 : Nat) : Int) from w64n (by omega) (by omega))
        have w3 := Lib.hid (show wrap64 ((i : Int) + 1) = ((i + 1 : Nat) : Int) from w64n (by omega) (by omega))
        generalize hx : l.getD i ByteArray.empty = x
        have w2 := Lib.hid (show wrap64 (((m + 1 : Nat) : Int) + mn (x.size : Int) 5000) = ((m + 1 + min x.size 5000 : Nat) : Int) from by
          rw [show (5000 : Int) = ((5000 : Nat) : Int) from rfl, mn_nat]; exact w64n (by omega) (by omega))
        by_cases c3 : m + 1 + min x.size 5000 > 5000
        · refine ⟨false, Ev.one fun n => ?_, fun h => by cases h⟩
          simp only [diptychlaw01_few.l0]
          rw [rdOf_nat, hx, w1.out, w2.out, if_pos (by omega), if_pos (by omega), if_neg (by omega), if_pos (by omega)]
        · obtain ⟨b, hb, hb2⟩ := ih (i + 1) (m + 1 + min x.size 5000) (by omega) (by omega) (by omega) (by
            intro y hy
            rw [take_succ' _ _ c ByteArray.empty, hx] at hy
            rcases List.mem_append.1 hy with h | h
            · exact hs y h
            · simp at h; subst h; omega) (by omega)
          refine ⟨b, Ev.succ hb fun n hn => ?_, hb2⟩
          simp only [diptychlaw01_few.l0]
          rw [rdOf_nat, hx, w1.out, w2.out, w3.out, if_pos (by omega), if_pos (by omega), if_neg (by omega), if_neg (by omega)]
          exact hn
    · refine ⟨true, Ev.one fun n => ?_, fun _ => ⟨by omega, fun x hx => hs x (by rwa [List.take_of_length_le (by omega)])⟩⟩
      simp only [diptychlaw01_few.l0]
      rw [if_neg (by omega)]
theorem few_ev (l : List ByteArray) : ∃ b, Ev (fun k => diptychlaw01_few.f k l) b ∧ (b = true → l.length ≤ 200 ∧ ∀ x ∈ l, x.size ≤ 5000) :=
  few_l0 l 201 0 0 rfl (by omega) (by omega) (by simp) (by omega)

theorem rsize_f (n : Int) : diptychref01_Size.f n = hexa_Size.f n := rfl
theorem space_f (b : ByteArray) : hexa_Space.f b = diptychref01_Space.f b := by
  unfold hexa_Space.f diptychref01_Space.f
  rw [size_f, size_f]
  simp only [Option.bind_some]
  rfl
theorem space_some (b : ByteArray) : ∃ r, diptychref01_Space.f b = some r := by
  unfold diptychref01_Space.f
  split
  · exact ⟨_, rfl⟩
  · split <;> exact ⟨_, rfl⟩

theorem HexaTells (a0 a1 : ByteArray) (l2 : List ByteArray) (a3 : Int) (w0 : a0.size ≤ 140737488351232) (w1 : a1.size ≤ 140737488351232) (w2 : l2.length * 16 ≤ 140737488351232) (w3 : (Lit.int .i64 a3).wf = true) : ∃ k, diptychlaw01_HexaTells.f k a0 a1 l2 a3 = some true := by
  refine Ev.rounds (g := fun k => diptychlaw01_HexaTells.f k a0 a1 l2 a3) ?_
  obtain ⟨K0, h0⟩ := Ev.get awake_ev
  obtain ⟨b, hb, hb2⟩ := few_ev l2
  obtain ⟨K1, h1⟩ := Ev.get hb
  have big : ∀ n, diptychlaw01_HexaTells.j0 (n + 1) a0 a1 l2 a3 true = some true := fun n => by simp [diptychlaw01_HexaTells.j0]
  by_cases c0 : a0.size > 500
  · refine ⟨K0 + 1, fun n hn => ?_⟩
    obtain ⟨n, rfl⟩ : ∃ m, n = m + 1 := ⟨n - 1, by omega⟩
    show diptychlaw01_HexaTells.f (n + 1) a0 a1 l2 a3 = _
    unfold diptychlaw01_HexaTells.f
    rw [h0 _ (by omega)]
    simp only [Option.bind_some]
    rw [if_pos trivial, if_pos (by omega), big]
  by_cases c1 : a1.size > 500
  · refine ⟨K0 + 1, fun n hn => ?_⟩
    obtain ⟨n, rfl⟩ : ∃ m, n = m + 1 := ⟨n - 1, by omega⟩
    show diptychlaw01_HexaTells.f (n + 1) a0 a1 l2 a3 = _
    unfold diptychlaw01_HexaTells.f
    rw [h0 _ (by omega)]
    simp only [Option.bind_some]
    rw [if_pos trivial, if_neg (by omega), if_pos (by omega), big]
  cases b with
  | false =>
    refine ⟨K0 + K1 + 1, fun n hn => ?_⟩
    obtain ⟨n, rfl⟩ : ∃ m, n = m + 1 := ⟨n - 1, by omega⟩
    show diptychlaw01_HexaTells.f (n + 1) a0 a1 l2 a3 = _
    unfold diptychlaw01_HexaTells.f
    rw [h0 _ (by omega), h1 _ (by omega)]
    simp only [Option.bind_some]
    rw [if_pos trivial, if_neg (by omega), if_neg (by omega)]
    exact big n
  | true =>
    obtain ⟨hlen, hsz⟩ := hb2 rfl
    have hs : Small l2 := fun x hx => by have := hsz x hx; omega
    obtain ⟨K2, h2⟩ := Ev.and (hexa_Bytes_ev a1 (by omega)) (ref_Bytes_ev a1 (by omega))
    obtain ⟨K3, h3⟩ := Ev.and (hexa_Find_ev l2 a1 hs (by omega) (by omega)) (ref_Find_ev l2 a1 hs (by omega) (by omega))
    obtain ⟨K4, h4⟩ := Ev.and (hexa_Digits_ev a0 (by omega)) (ref_Digits_ev a0 (by omega))
    obtain ⟨K5, h5⟩ := Ev.and (hexa_Short_ev a1 (by omega)) (ref_Short_ev a1 (by omega))
    obtain ⟨K6, h6⟩ := Ev.and (hexa_Begins_ev a0 a1 (by omega)) (ref_Begins_ev a0 a1 (by omega))
    obtain ⟨K7, h7⟩ := Ev.and (hexa_Least_ev l2 a0 hs (by omega) (by omega)) (ref_Least_ev l2 a0 hs (by omega) (by omega))
    refine ⟨K0 + K1 + K2 + K3 + K4 + K5 + K6 + K7 + 1, fun n hn => ?_⟩
    obtain ⟨n, rfl⟩ : ∃ m, n = m + 1 := ⟨n - 1, by omega⟩
    show diptychlaw01_HexaTells.f (n + 1) a0 a1 l2 a3 = _
    unfold diptychlaw01_HexaTells.f
    rw [h0 _ (by omega), h1 _ (by omega)]
    simp only [Option.bind_some]
    rw [if_pos trivial, if_neg (by omega), if_neg (by omega)]
    obtain ⟨sp, hsp⟩ := space_some a0
    simp only [diptychlaw01_HexaTells.j0, (h2 n (by omega)).1, (h2 n (by omega)).2, (h3 n (by omega)).1, (h3 n (by omega)).2, (h4 n (by omega)).1, (h4 n (by omega)).2, (h5 n (by omega)).1, (h5 n (by omega)).2, (h6 n (by omega)).1, (h6 n (by omega)).2, (h7 n (by omega)).1, (h7 n (by omega)).2, rsize_f, size_f, space_f, hsp, Option.bind_some]
    simp
end Go.Proofs.YtgjnpdnmcahhfaaDoor.U
