/- Merged out of this session's texts by a program (wip/gen/merge.py): declarations that this claim doesn't name are left out. -/
import Derived.Test.YtenbgnlkkmnmhaaDoorMMergeAgain0
import Derived.Laws.CopyRow
import Derived.Sort.Grow
import Derived.OrdersHeld
import Derived.Laws.BitsLemmas
import Derived.Test.YtenbgnlkkmnmhaaDoorProg
import Derived.Shelf.Sort.Plain
import Derived.Shelf.Slices.CompactS
import Derived.Shelf.Slices.In.SortNone
import Derived.Shelf.Strings.Split
import Derived.Shelf.Strings.IndexAnyAll
import Derived.Lib.SlicesCompact
import Derived.Sort.Walk0
set_option linter.unusedVariables false
set_option linter.unusedSimpArgs false
/-! Q12 -/
section
namespace Go.Proofs.YtenbgnlkkmnmhaaDoor.Q
open Go.RowKit
open Go.Proofs.YtenbgnlkkmnmhaaDoorW.PrintWords (bytesOf bytesOf_length)
section
variable {P : Program} {Q : Exit → Act → World → Prop} {a : Act} {w : World} {o : Oper} {ops : Array Oper} {rest : List Oper} {K : Act → Prop} {C : World → Prop}
theorem wanted_un {l : List Oper} {j d : Nat} {want : Bool} (hg : o.guard = some (j, want)) (hd : dstAt l j = some d) (h : At a d undef) : Region.wanted o (yielded l.toArray a.tmps) = false := by
  rw [← dstAt_eq] at hd
  unfold At at h
  unfold Region.wanted yielded
  rw [hg]
  simp only [hd]
  cases want <;> simp [h, undef]
variable {c b : List Int} {f n : Int}
/-- bytes written over a row's middle -/
def over (b y : List Int) (i : Nat) : List Int := b.take i ++ y ++ b.drop (i + y.length)
theorem q_cuthi {T : TypeId} {x hi : Operand} {s : ByteArray} {k : Nat} (ho : o.op = .slice T x none (some hi) none) (hT : P.underlying T = some .string) (hx : a.eval x = .string s) (hh : a.eval hi = .int .i64 (k : Int)) (hk : k ≤ s.size) (hn : K (a.put o.dst (.string (s.extract 0 k)))) : o.quiet P a C K :=
  q_val _ (fun w _ => by
    have h1 : ((0 : Int) ≤ (k : Int) ∧ (k : Int) ≤ (s.size : Int)) := by omega
    unfold execOp
    simp [ho, hx, hh, Instr.sliceAt, Instr.slice, Instr.sliceBounds, Instr.sliceBound, asIntOf, Sem.run_bind, run_underlying hT w, h1]
    intro h2
    omega) hn
end
end Go.Proofs.YtenbgnlkkmnmhaaDoor.Q
end
/-! Q13 -/
section
namespace Go.Proofs.YtenbgnlkkmnmhaaDoor.Q
open Go.RowKit
section
variable {P : Program} {Q : Exit → Act → World → Prop} {a : Act} {w : World} {o : Oper} {ops : Array Oper} {rest : List Oper} {K : Act → Prop} {C : World → Prop}
/-- the address of a slice's flat cell k -/
def pAt (v : Value) (k : Nat) : Value := match v with
  | .slice (some a) _ _ => .pointer (some (a.add k))
  | _ => .pointer none
theorem pAt_mid (g i n c k : Nat) : pAt (.slice (some ⟨g, i, none⟩) n c) k = .pointer (some ⟨g, i + k, none⟩) := by
  show Value.pointer (some ((⟨g, i, none⟩ : Addr).add k)) = _
  rw [Addr.add_mid]
/-- a slice value that reads as_ n records of sz cells: their cells, one behind the other -/
def RdF (w : World) (sz : Nat) (v : Value) (n : Nat) (cs : List Value) : Prop :=
  cs.length = n * sz ∧ ∃ A cap, v = .slice A n cap ∧ n ≤ cap ∧ (0 < n → ∃ g i, A = some ⟨g, i, none⟩ ∧ g < w.heap.size ∧ ∀ j u, cs[j]? = some u → w.cell? ⟨g, i + j, none⟩ = some u)
theorem RdF.low {sz : Nat} {v : Value} {n : Nat} {cs : List Value} {w' : World} (h : RdF w sz v n cs) (k : Low w w') : RdF w' sz v n cs := by
  obtain ⟨hl, A, cap, rfl, hc, h2⟩ := h
  refine ⟨hl, A, cap, rfl, hc, fun hp => ?_⟩
  obtain ⟨g, i, rfl, hg, h3⟩ := h2 hp
  exact ⟨g, i, rfl, Nat.lt_of_lt_of_le hg k.ge, fun j u hu => (World.cell?_of_block (k.block g hg)).trans (h3 j u hu)⟩
theorem RdF.cast {sz : Nat} {v : Value} {n n' : Nat} {cs cs' : List Value} (h : RdF w sz v n cs) (e : n = n') (e' : cs = cs') : RdF w sz v n' cs' := e ▸ e' ▸ h
/-- a row of records of the call's own -/
def OwnF (w : World) (B : Nat) (E : TypeId) (sz : Nat) (v : Value) (n : Nat) (cs : List Value) : Prop := w.ownsRow B E sz v n cs
theorem OwnF.nil (w : World) (B : Nat) (E : TypeId) (sz : Nat) : OwnF w B E sz (.slice none 0 0) 0 [] := ⟨by simp, .inl ⟨rfl, rfl⟩⟩
theorem OwnF.block {B : Nat} {E : TypeId} {sz : Nat} {v : Value} {n : Nat} {cs : List Value} (h : OwnF w B E sz v n cs) : ∀ k, v.ownBlock = some k → B ≤ k ∧ k < w.heap.size ∧ ∃ cur fz, w.heap[k]? = some (.cells cur E fz) := by
  intro k hk
  rcases h.2 with ⟨rfl, _⟩ | ⟨g, cap, cur, rfl, hg, hh, r⟩
  · simp [Value.ownBlock] at hk
  · have : g = k := by simpa [Value.ownBlock] using hk
    subst this
    exact ⟨hg, heap_lt hh, cur, _, hh⟩
theorem OwnF.keep {w' : World} {B : Nat} {E : TypeId} {sz : Nat} {v : Value} {n : Nat} {cs : List Value} (h : OwnF w B E sz v n cs) (hm : ∀ k, v.ownBlock = some k → w'.heap[k]? = w.heap[k]?) : OwnF w' B E sz v n cs := by
  refine ⟨h.1, ?_⟩
  rcases h.2 with h2 | ⟨g, cap, cur, rfl, hg, hh, r⟩
  · exact .inl h2
  · exact .inr ⟨g, cap, cur, rfl, hg, (hm g (by simp [Value.ownBlock])).trans hh, r⟩
theorem OwnF.low {w' : World} {B : Nat} {E : TypeId} {sz : Nat} {v : Value} {n : Nat} {cs : List Value} (h : OwnF w B E sz v n cs) (k : Low w w') : OwnF w' B E sz v n cs := h.keep fun j hj => k.block j (h.block j hj).2.1
theorem OwnF.upd {w' : World} {B g : Nat} {E T : TypeId} {sz : Nat} {v : Value} {n : Nat} {cs : List Value} {ds : Array Value} (h : OwnF w B E sz v n cs) (u : Upd g w w') (hg : w.heap[g]? = some (.cells ds T)) (hT : Nat.beq T E = false) : OwnF w' B E sz v n cs := h.keep fun k hk => u.block k fun e => by
  subst e
  obtain ⟨_, _, cur, fz, h2⟩ := h.block k hk
  rw [hg] at h2
  simp only [Option.some.injEq, Obj.cells.injEq] at h2
  obtain ⟨_, rfl, _⟩ := h2
  simp at hT
theorem OwnF.base {B B' : Nat} {E : TypeId} {sz : Nat} {v : Value} {n : Nat} {cs : List Value} (h : OwnF w B' E sz v n cs) (hB : B ≤ B') : OwnF w B E sz v n cs := by
  refine ⟨h.1, ?_⟩
  rcases h.2 with h2 | ⟨g, cap, cur, rfl, hg, r⟩
  · exact .inl h2
  · exact .inr ⟨g, cap, cur, rfl, Nat.le_trans hB hg, r⟩
theorem OwnF.rd {B : Nat} {E : TypeId} {sz : Nat} {v : Value} {n : Nat} {cs : List Value} (h : OwnF w B E sz v n cs) : RdF w sz v n cs := by
  have h0 := h
  refine ⟨h.1, ?_⟩
  rcases h.2 with ⟨rfl, rfl⟩ | ⟨g, cap, cur, rfl, hg, hh, hc, _⟩
  · exact ⟨none, 0, rfl, Nat.le_refl _, fun h => absurd h (by simp)⟩
  · exact ⟨_, cap, rfl, hc, fun _ => ⟨g, 0, rfl, heap_lt hh, fun j u hu => by
      have := World.ownsRow.cells h0 (g := g) (by simp [Value.ownBlock]) j u hu
      rw [Addr.add_mid] at this
      exact this⟩⟩
theorem RdF.one {sz : Nat} {v : Value} {n : Nat} {cs : List Value} (h : RdF w sz v n cs) : v.oneCell' = true := by
  obtain ⟨_, A, cap, rfl, _⟩ := h
  rfl
theorem OwnF.cast {B : Nat} {E : TypeId} {sz : Nat} {v : Value} {n n' : Nat} {cs cs' : List Value} (h : OwnF w B E sz v n cs) (e : n = n') (e' : cs = cs') : OwnF w B E sz v n' cs' := e ▸ e' ▸ h
/-- another row of the call's own, of other elements, has grown -/
theorem OwnF.grw {B B' : Nat} {E E' : TypeId} {sz : Nat} {v u : Value} {n : Nat} {cs : List Value} {w' : World} (h : OwnF w B E sz v n cs) (g : GrW B' E' u w w') (hE : Nat.beq E' E = false) : OwnF w' B E sz v n cs := h.keep fun k hk => by
  obtain ⟨_, hlt, cur, fz, h2⟩ := h.block k hk
  refine g.block k hlt fun e => ?_
  obtain ⟨_, cur', fz', h3⟩ := g.old k e
  rw [h3] at h2
  simp only [Option.some.injEq, Obj.cells.injEq] at h2
  obtain ⟨_, rfl, _⟩ := h2
  simp at hE
theorem q_lenF {c : Call} {T e : TypeId} {x : Operand} {v : Value} {n sz : Nat} {cs : List Value} (ho : o.op = .call c) (hc : c = { callee := .builtin .len, args := #[x], argTypes := #[T] }) (hT : P.underlying T = some (.slice e)) (hx : a.eval x = v) {w0 : World} (hv : RdF w0 sz v n cs) (hn : K (a.put o.dst (.int .i64 (n : Int)))) : o.quiet P a C K := by
  obtain ⟨_, A, cap, rfl, _⟩ := hv
  exact q_lenL ho hc hT hx hn
theorem q_idxF {T E : TypeId} {x ix : Operand} {v : Value} {n sz j : Nat} {cs : List Value} (ho : o.op = .indexAddr T x ix) (hT : P.underlying T = some (.slice E)) (hE : (P.info? E).map (·.size) = some sz) (hx : a.eval x = v) {w0 : World} (hv : RdF w0 sz v n cs) (hi : a.eval ix = .int .i64 (j : Int)) (hj : j < n) (hn : K (a.put o.dst (pAt v (j * sz)))) : o.quiet P a C K := by
  obtain ⟨_, A, cap, rfl, hc, h2⟩ := hv
  obtain ⟨g, i, rfl, _⟩ := h2 (by omega)
  rw [pAt_mid] at hn
  exact q_val _ (fun w _ => by
    have hs : (sizeOf E).run P w = .ok sz w := by
      cases hq : P.info? E with
      | none => simp [hq] at hE
      | some i => simp [hq] at hE; simp [sizeOf, typeInfo, hq, hE]
    unfold execOp
    simp [ho, hx, hi, Instr.indexAt, asIntOf, Sem.run_bind, run_underlying hT w, Instr.sureAddr, hs, hj, Addr.add_mid]) hn
theorem q_fldF {S : TypeId} {x : Operand} {k f : Nat} {v : Value} (c' : Nat) (ho : o.op = .fieldAddr S x f) (hS : ∀ p : Addr, ∀ w, (Instr.fieldAt S (.pointer (some p)) f).run P w = .ok (.pointer (some (p.add c'))) w) (hx : a.eval x = pAt v k) (hv : ∃ g i n cap, v = .slice (some ⟨g, i, none⟩) n cap) (hn : K (a.put o.dst (pAt v (k + c')))) : o.quiet P a C K := by
  obtain ⟨g, i, n, cap, rfl⟩ := hv
  rw [pAt_mid] at hx hn
  exact q_val _ (fun w _ => by
    have h := hS ⟨g, i + k, none⟩ w
    rw [Addr.add_mid, Nat.add_assoc] at h
    unfold execOp
    simp only [ho, hx, Sem.run_bind, h, Result.andThen_ok, Sem.run_pure]) hn
theorem RdF.form {sz : Nat} {v : Value} {n : Nat} {cs : List Value} (h : RdF w sz v n cs) (hp : 0 < n) : ∃ g i n cap, v = .slice (some ⟨g, i, none⟩) n cap := by
  obtain ⟨_, A, cap, rfl, hc, h2⟩ := h
  obtain ⟨g, i, rfl, _⟩ := h2 hp
  exact ⟨g, i, _, _, rfl⟩
/-- one cell read -/
theorem q_ld1 {T : TypeId} {x : Operand} {v u : Value} {n sz k : Nat} {cs : List Value} {d : TypeDesc} (ho : o.op = .load T x) (hT : P.underlying T = some d) (hd : (match d with | .int _ | .string | .bool | .slice _ => true | _ => false) = true) (hx : a.eval x = pAt v k) (hv : ∀ w, C w → RdF w sz v n cs) (hp : 0 < n) (hu : cs[k]? = some u) (hn : K (a.put o.dst u)) : o.quiet P a C K :=
  q_val _ (fun w hw => by
    obtain ⟨_, A, cap, rfl, hc, h2⟩ := hv w hw
    obtain ⟨g, i, rfl, _, h3⟩ := h2 hp
    have hcell := h3 k u hu
    rw [pAt_mid] at hx
    have hl : (loadVar T ⟨g, i + k, none⟩).run P w = .ok u w := by
      cases d <;> first | (cases hd; done) | simp [loadVar, isAgg, Sem.run_bind, run_underlying hT w, hcell, load, Sem.run]
    unfold execOp
    simp only [ho, hx, Instr.loadAt, Instr.sureAddr, Sem.run_bind, Sem.run_pure, Result.andThen_ok, hl]) hn
/-- a whole record read -/
theorem q_ldR {T : TypeId} {x : Operand} {v : Value} {n sz k : Nat} {cs vs : List Value} {d : TypeDesc} (ho : o.op = .load T x) (hT : P.underlying T = some d) (hd : d.isRow = true) (hi : (P.info? T).map (·.size) = some sz) (hx : a.eval x = pAt v k) (hv : ∀ w, C w → RdF w sz v n cs) (hp : 0 < n) (hl : vs.length = sz) (hu : (cs.drop k).take sz = vs) (hn : K (a.put o.dst (.agg vs.toArray))) : o.quiet P a C K :=
  q_val _ (fun w hw => by
    obtain ⟨_, A, cap, rfl, hc, h2⟩ := hv w hw
    obtain ⟨g, i, rfl, _, h3⟩ := h2 hp
    rw [pAt_mid] at hx
    have hr : w.rangeAt g (i + k) vs := fun j u hj => by
      have hlt : j < sz := by have := (List.getElem?_eq_some_iff.1 hj).1; omega
      rw [← hu, List.getElem?_take, if_pos hlt, List.getElem?_drop] at hj
      rw [Nat.add_assoc]
      exact h3 (k + j) u hj
    have := run_loadAt_mid w g (i + k) T vs d hr hT hd (by rw [hi, hl])
    unfold execOp
    simp only [ho, hx, Sem.run_bind, this, Result.andThen_ok, Sem.run_pure]) hn
def recB (P : Program) (E : TypeId) (sz : Nat) : Bool := match P.info? E with
  | some i => i.size == sz && decide (i.bytes ≤ 1024) && (match i.zero with | some z => z.cells.size == sz | none => false)
  | none => false
theorem recB_spec {E : TypeId} {sz : Nat} (h : recB P E sz = true) : ∃ i z, P.info? E = some i ∧ i.zero = some z ∧ i.size = sz ∧ i.bytes ≤ 1024 ∧ z.cells.size = sz := by
  unfold recB at h
  split at h
  · rename_i i hi
    simp only [Bool.and_eq_true, beq_iff_eq, decide_eq_true_eq] at h
    have h2 := h.2
    split at h2
    · rename_i z hz; exact ⟨i, z, hi, hz, h.1.1, h.1.2, by simpa using h2⟩
    · cases h2
  · cases h
theorem fill_rec {cells : Array Value} {sz : Nat} {v : Value} (h : v.cells.size = sz) (hc : cells.size = sz) : Instr.fill (fun i => some (i * sz, sz)) cells [(0, v)] = some v.cells := by
  simp only [Instr.fill]
  rw [if_neg (by simp [h, hc])]
  congr 1
  apply Array.toList_inj.1
  rw [← Array.foldl_toList, Array.toList_zipIdx]
  have := fold_set (0 * sz) v.cells.toList 0 cells (by simp [h, hc])
  refine this.trans ?_
  simp [h, hc]
/-- a literal of one record -/
theorem l_buildF {E t : TypeId} {sz : Nat} {x : Operand} {v : Value} {vs : List Value} (hg : o.guard = none) (ho : o.op = .buildSlice t 1 #[(0, x)]) (ht : P.underlying t = some (.slice E)) (hE : recB P E sz = true) (hx : a.eval x = v) (hv : v.cells = vs.toArray) (hl : vs.length = sz) (hp : 0 < sz) (hm : sz ≤ 1000)
    (h : ∀ g w', w.heap.size ≤ g → w'.heap[g]? = some (.cells vs.toArray E) → Low w w' → wpList P ops Q rest (a.put o.dst (.slice (some ⟨g, 0, none⟩) 1 1)) w') : wpList P ops Q (o :: rest) a w := by
  obtain ⟨i, z, hi, hz, h1, h2, h3⟩ := recB_spec hE
  refine wpList_plain hg fun K hK => ?_
  have hrun : (execOp a.eval o).run P w = .ok (.value (.slice (some ⟨w.heap.size, 0, none⟩) 1 1)) (w.alloc (.cells vs.toArray E)) := by
    have hf := fill_rec (v := v) (sz := sz) (cells := (Array.range sz).map (z.cells[· % z.cells.size]!)) (by rw [hv]; simpa using hl) (by simp)
    rw [hv] at hf
    unfold execOp
    simp [ho, hx, Instr.buildSlice, Sem.run_bind, run_underlying ht w, sizeOf, typeInfo, zeroValue, hi, h1, hz, run_newRow, hf]
    rw [if_neg (by omega), if_neg (by omega)]
  unfold Oper.wp
  rw [hrun]
  exact hK _ _ (h _ _ (Nat.le_refl _) (new_block _ _) (low_new _ _))
/-- append(s, x): the row of x is one of the call's -/
theorem l_appF {B : Nat} {E t : TypeId} {sz : Nat} {s x : Operand} {v : Value} {n : Nat} {cs vs : List Value} {g : Nat} (hg : o.guard = none) (ho : o.op = .call { callee := .builtin .append, args := #[s, x], argTypes := #[t, t] })
    (ht : P.underlying t = some (.slice E)) (hE : recB P E sz = true) (hs : a.eval s = v) (hx : a.eval x = .slice (some ⟨g, 0, none⟩) 1 1) (hb : w.heap[g]? = some (.cells vs.toArray E)) (hl : vs.length = sz) (hp : 0 < sz) (h1 : vs.all (·.oneCell') = true)
    (hv : OwnF w B E sz v n cs) (hB : B ≤ w.heap.size) (hbd : n ≤ 1000000)
    (h : ∀ v' w', OwnF w' B E sz v' (n + 1) (cs ++ vs) → GrW B E v w w' → wpList P ops Q rest (a.put o.dst v') w') : wpList P ops Q (o :: rest) a w := by
  obtain ⟨i, z, hi, hz, h2, h3, h4⟩ := recB_spec hE
  obtain ⟨v', w', hrun, r1, r2, _⟩ := run_append_own (P := P) (w := w) B t o.type E i z sz i.bytes ht hi hz h2 rfl h4 hp v n cs hv ⟨g, 0, none⟩ 1 1 vs (by simp [hl]) (fun j u hu => by
    rw [Addr.add_mid, Nat.zero_add, cells_at hb j]
    simpa using hu) (fun u hu => List.all_eq_true.1 h1 u hu) (by simp only [maxLen]; omega) (Nat.le_trans (Nat.mul_le_mul_left (n + 1) h3) (by omega)) hB
  refine wpList_plain hg fun K hK => ?_
  have hrun' : (execOp a.eval o).run P w = .ok (.value v') w' := by
    unfold execOp
    simp [ho, resolve, invoke, builtin, hs, hx, hrun]
  unfold Oper.wp
  rw [hrun']
  refine hK _ _ (h _ _ r1 ⟨r2.os, r2.tape, r2.output, r2.size, fun k hk hne => r2.block k hk (fun e => hne e.symm), fun k hk => ⟨(OwnF.block hv k hk).1, (OwnF.block hv k hk).2.2⟩⟩)
theorem flat_len {α : Type} {enc : α → List Value} {sz : Nat} (he : ∀ x, (enc x).length = sz) : ∀ L : List α, (L.map enc).flatten.length = L.length * sz
  | [] => by simp
  | x :: L => by
    rw [List.map_cons, List.flatten_cons, List.length_append, he, flat_len he L, List.length_cons, Nat.add_mul, Nat.one_mul, Nat.add_comm]
theorem flat_at {α : Type} {enc : α → List Value} {sz : Nat} (he : ∀ x, (enc x).length = sz) (d : α) : ∀ (L : List α) (j k : Nat), j < L.length → k < sz → (L.map enc).flatten[j * sz + k]? = (enc (L.getD j d))[k]?
  | [], j, _, h, _ => absurd h (by simp)
  | x :: L, 0, k, _, hk => by
    rw [List.map_cons, List.flatten_cons, Nat.zero_mul, Nat.zero_add, List.getElem?_append_left (by rw [he]; exact hk)]
    rfl
  | x :: L, j + 1, k, h, hk => by
    rw [List.map_cons, List.flatten_cons, List.getElem?_append_right (by rw [he, Nat.add_mul]; omega), he, show (j + 1) * sz + k - sz = j * sz + k by rw [Nat.add_mul]; omega, flat_at he d L j k (by simpa using h) hk]
    rfl
theorem flat_part {α : Type} {enc : α → List Value} {sz : Nat} (he : ∀ x, (enc x).length = sz) (d : α) (L : List α) (j : Nat) (hj : j < L.length) : ((L.map enc).flatten.drop (j * sz)).take sz = enc (L.getD j d) := by
  apply List.ext_getElem?
  intro k
  rw [List.getElem?_take]
  by_cases hk : k < sz
  · rw [if_pos hk, List.getElem?_drop, flat_at he d L j k hj hk]
  · rw [if_neg hk, List.getElem?_eq_none (by rw [he]; omega)]
theorem flat_snoc {α : Type} {enc : α → List Value} (L : List α) (x : α) : (L.map enc).flatten ++ enc x = ((L ++ [x]).map enc).flatten := by simp
theorem flat_drop {α : Type} {enc : α → List Value} {sz : Nat} (he : ∀ x, (enc x).length = sz) : ∀ (L : List α) (j : Nat), j ≤ L.length → (L.map enc).flatten.drop (j * sz) = ((L.drop j).map enc).flatten
  | L, 0, _ => by simp
  | [], j + 1, h => absurd h (by simp)
  | x :: L, j + 1, h => by
    rw [List.map_cons, List.flatten_cons, List.drop_append, List.drop_eq_nil_of_le (by rw [he, Nat.add_mul]; omega), List.nil_append, he, show (j + 1) * sz - sz = j * sz by rw [Nat.add_mul]; omega, List.drop_succ_cons, flat_drop he L j (by simpa using h)]
end
end Go.Proofs.YtenbgnlkkmnmhaaDoor.Q
end
/-! Q14 -/
section
namespace Go.Proofs.YtenbgnlkkmnmhaaDoor.Q
open Go.RowKit
section
variable {P : Program} {Q : Exit → Act → World → Prop} {a : Act} {w : World} {o : Oper} {ops : Array Oper} {rest : List Oper} {K : Act → Prop} {C : World → Prop}
/-- what a map of strings tells of a key -/
def mlook : List (ByteArray × Value) → ByteArray → Option Value
  | [], _ => none
  | p :: l, k => if p.1 = k then some p.2 else mlook l k
/-- .. behind m[k] = v -/
def mput : List (ByteArray × Value) → ByteArray → Value → List (ByteArray × Value)
  | [], k, v => [(k, v)]
  | p :: l, k, v => if p.1 = k then (k, v) :: l else p :: mput l k v
theorem mlook_put (k : ByteArray) (v : Value) (k' : ByteArray) : ∀ l, mlook (mput l k v) k' = if k = k' then some v else mlook l k'
  | [] => by simp only [mput, mlook]
  | p :: l => by
    unfold mput
    by_cases h : p.1 = k
    · rw [if_pos h]
      simp only [mlook]
      by_cases h2 : k = k'
      · rw [if_pos h2, if_pos h2]
      · rw [if_neg h2, if_neg h2, if_neg (fun e => h2 (h.symm.trans e))]
    · rw [if_neg h]
      simp only [mlook]
      rw [mlook_put k v k' l]
      by_cases h2 : p.1 = k'
      · rw [if_pos h2, if_pos h2, if_neg (fun e => h (h2.trans e.symm))]
      · rw [if_neg h2, if_neg h2]
def Ents (es : List MapEntry) (l : List (ByteArray × Value)) : Prop := es.map (fun e => (e.key, e.val)) = l.map (fun p => (Value.string p.1, p.2))
/-- block r is a map of strings of these entries -/
def MapIs (w : World) (r : Nat) (l : List (ByteArray × Value)) : Prop := ∃ es clock, w.heap[r]? = some (.map es clock) ∧ Ents es.toList l
theorem MapIs.lt {r : Nat} {l : List (ByteArray × Value)} (h : MapIs w r l) : r < w.heap.size := by
  obtain ⟨es, c, h, _⟩ := h
  exact heap_lt h
theorem MapIs.keep {w' : World} {r : Nat} {l : List (ByteArray × Value)} (h : MapIs w r l) (e : w'.heap[r]? = w.heap[r]?) : MapIs w' r l := by
  obtain ⟨es, c, h, h2⟩ := h
  exact ⟨es, c, e.trans h, h2⟩
theorem MapIs.low {w' : World} {r : Nat} {l : List (ByteArray × Value)} (h : MapIs w r l) (k : Low w w') : MapIs w' r l := h.keep (k.block r h.lt)
theorem MapIs.upd {w' : World} {r g : Nat} {l : List (ByteArray × Value)} (h : MapIs w r l) (k : Upd g w w') (hne : r ≠ g) : MapIs w' r l := h.keep (k.block r hne)
/-- a map is no row: what is written into a row leaves it -/
theorem MapIs.ne {r g : Nat} {l : List (ByteArray × Value)} {cs : Array Value} {T : TypeId} (h : MapIs w r l) (k : w.heap[g]? = some (.cells cs T)) : r ≠ g := by
  obtain ⟨es, c, h, _⟩ := h
  rintro rfl
  rw [h] at k
  cases k
theorem MapIs.grw {B : Nat} {E : TypeId} {v : Value} {w' : World} {r : Nat} {l : List (ByteArray × Value)} (h : MapIs w r l) (k : GrW B E v w w') : MapIs w' r l := h.keep (k.block r h.lt fun e => by
  obtain ⟨es, c, h, _⟩ := h
  obtain ⟨_, cur, fz, h2⟩ := k.old r e
  rw [h] at h2
  cases h2)
theorem beq_str (a b : ByteArray) : (a == b) = decide (a = b) := by
  obtain ⟨x⟩ := a
  obtain ⟨y⟩ := b
  show (x == y) = _
  rw [Bool.eq_iff_iff, beq_iff_eq, decide_eq_true_iff]
  exact ⟨fun h => by rw [h], fun h => by injection h⟩
theorem find_ents (k : ByteArray) : ∀ (es : List MapEntry) (l : List (ByteArray × Value)) (i : Nat), Ents es l →
    (∃ j v e, Instr.findNow .string (.string k) es i = some (some (i + j, v)) ∧ mlook l k = some v ∧ es[j]? = some e ∧ e.key = .string k ∧ ∀ u (f : MapEntry → MapEntry), (∀ e, (f e).val = u) → (∀ e, e.key = .string k → (f e).key = .string k) → Ents (es.modify j f) (mput l k u)) ∨
    (Instr.findNow .string (.string k) es i = some none ∧ mlook l k = none ∧ ∀ u b, Ents (es ++ [{ key := .string k, val := u, born := b }]) (mput l k u))
  | [], [], i, _ => .inr ⟨rfl, rfl, fun u b => rfl⟩
  | [], _ :: _, _, h => absurd h (by simp [Ents])
  | _ :: _, [], _, h => absurd h (by simp [Ents])
  | e :: es, p :: l, i, h => by
    have hh : e.key = .string p.1 ∧ e.val = p.2 ∧ Ents es l := by
      unfold Ents at h ⊢
      simp only [List.map_cons, List.cons.injEq, Prod.mk.injEq] at h
      exact ⟨h.1.1, h.1.2, h.2⟩
    obtain ⟨hk, hv, ht⟩ := hh
    by_cases hp : k = p.1
    · refine .inl ⟨0, p.2, e, ?_, ?_, rfl, by rw [hk, hp], fun u f hf hg => ?_⟩
      · unfold Instr.findNow
        rw [hk]
        simp only [Instr.sameNow, beq_str, decide_eq_true hp, hv, Nat.add_zero]
      · unfold mlook
        rw [if_pos hp.symm]
      · unfold mput
        rw [if_pos hp.symm]
        have h2 : Ents es l := ht
        unfold Ents at h2 ⊢
        simp only [List.modify_zero_cons, List.map_cons, hf, h2]
        rw [hg e (by rw [hk, hp])]
    · have hsame : Instr.findNow .string (.string k) (e :: es) i = Instr.findNow .string (.string k) es (i + 1) := by
        conv => lhs; unfold Instr.findNow
        rw [hk]
        simp only [Instr.sameNow, beq_str, decide_eq_false hp]
      have hl : mlook (p :: l) k = mlook l k := by
        conv => lhs; unfold mlook
        rw [if_neg (fun q => hp q.symm)]
      have hm : ∀ u, mput (p :: l) k u = p :: mput l k u := fun u => by
        conv => lhs; unfold mput
        rw [if_neg (fun q => hp q.symm)]
      rcases find_ents k es l (i + 1) ht with ⟨j, v, e', h1, h2, h3, h4, h5⟩ | ⟨h1, h2, h3⟩
      · refine .inl ⟨j + 1, v, e', by rw [hsame, h1]; congr 3; omega, by rw [hl, h2], by simpa using h3, h4, fun u f hf hg => ?_⟩
        rw [hm]
        have h6 := h5 u f hf hg
        unfold Ents at h6 ⊢
        simp only [List.modify_succ_cons, List.map_cons, h6, hk, hv]
      · refine .inr ⟨by rw [hsame, h1], by rw [hl, h2], fun u b => ?_⟩
        rw [hm]
        have h6 := h3 u b
        unfold Ents at h6 ⊢
        simp only [List.cons_append, List.map_cons, h6, hk, hv]
theorem run_key {T : TypeId} (hT : P.underlying T = some .string) (b : Bool) (k : ByteArray) (w : World) : (Instr.checkKey b 10000 T (.string k)).run P w = .ok () w := by
  show (Instr.checkKey b (9999 + 1) T (.string k)).run P w = _
  unfold Instr.checkKey
  simp [Sem.run_bind, run_underlying hT w]
theorem run_findKey {T : TypeId} (hT : P.underlying T = some .string) {k : ByteArray} {es : List MapEntry} {r : Option (Nat × Value)} (h : Instr.findNow .string (.string k) es 0 = some r) (w : World) : (Instr.findKey T (.string k) es).run P w = .ok r w := by
  unfold Instr.findKey
  simp [Sem.run_bind, run_underlying hT w, h]
theorem run_getMap {r : Nat} {es : Array MapEntry} {c : Nat} (h : w.heap[r]? = some (.map es c)) : (getObj r).run P w = .ok (.map es c) w := by simp [getObj, Sem.run, h]
theorem run_setMap {r : Nat} {es : Array MapEntry} {c : Nat} (h : w.heap[r]? = some (.map es c)) (ob : Obj) : (setObj r ob).run P w = .ok () { w with heap := w.heap.setIfInBounds r ob } := by simp [setObj, Sem.run, h]
/-- m[k]: one value -/
theorem q_look {T key E : TypeId} {x ix : Operand} {r : Nat} {l : List (ByteArray × Value)} {k : ByteArray} {z : Value} (u : Value) (ho : o.op = .lookup T x ix false) (hT : P.underlying T = some (.map key E)) (hk : P.underlying key = some .string) (hz : ∀ w, (zeroValue E).run P w = .ok z w)
    (hx : a.eval x = .map (some r)) (hi : a.eval ix = .string k) (hm : ∀ w, C w → MapIs w r l) (hu : (mlook l k).getD z = u) (hn : K (a.put o.dst u)) : o.quiet P a C K :=
  q_val _ (fun w hw => by
    obtain ⟨es, c, hb, he⟩ := hm w hw
    rcases find_ents k es.toList l 0 he with ⟨j, v, e, h1, h2, _⟩ | ⟨h1, h2, _⟩
    · rw [h2] at hu
      unfold execOp
      simp [ho, hx, hi, Instr.lookup, Sem.run_bind, run_underlying hT w, run_getMap hb, run_key hk, run_findKey hk h1]
      exact hu
    · rw [h2] at hu
      unfold execOp
      simp [ho, hx, hi, Instr.lookup, Sem.run_bind, run_underlying hT w, run_getMap hb, run_key hk, run_findKey hk h1, hz w]
      exact hu) hn
theorem l_makeMap {T : TypeId} (hg : o.guard = none) (ho : o.op = .makeMap T none)
    (h : ∀ g w', w.heap.size ≤ g → MapIs w' g [] → Low w w' → wpList P ops Q rest (a.put o.dst (.map (some g))) w') : wpList P ops Q (o :: rest) a w := by
  refine wpList_plain hg fun K hK => ?_
  have hrun : (execOp a.eval o).run P w = .ok (.value (.map (some w.heap.size))) (w.alloc (.map #[] 0)) := by
    have hn : (newObj (.map #[] 0)).run P w = .ok w.heap.size (w.alloc (.map #[] 0)) := rfl
    unfold execOp
    simp only [ho, Option.map_none, Instr.makeMap, Sem.run_bind, Sem.run_pure, Result.andThen_ok, hn]
  unfold Oper.wp
  rw [hrun]
  exact hK _ _ (h _ _ (Nat.le_refl _) ⟨#[], 0, new_block _ _, rfl⟩ (low_new _ _))
theorem l_mapPut {T key E : TypeId} {m x y : Operand} {r : Nat} {l : List (ByteArray × Value)} {k : ByteArray} {u : Value} (hg : o.guard = none) (ho : o.op = .mapUpdate T m x y) (hd : o.dst = none) (hT : P.underlying T = some (.map key E)) (hk : P.underlying key = some .string)
    (hm : a.eval m = .map (some r)) (hx : a.eval x = .string k) (hy : a.eval y = u) (hr : MapIs w r l)
    (h : ∀ w', MapIs w' r (mput l k u) → Upd r w w' → wpList P ops Q rest a w') : wpList P ops Q (o :: rest) a w := by
  obtain ⟨es, c, hb, he⟩ := hr
  have hlt : r < w.heap.size := heap_lt hb
  have upd : ∀ ob, Upd r w { w with heap := w.heap.setIfInBounds r ob } := fun ob => ⟨rfl, rfl, rfl, by simp, fun j hj => by simp [Ne.symm hj]⟩
  have blk : ∀ ob, ({ w with heap := w.heap.setIfInBounds r ob } : World).heap[r]? = some ob := fun ob => by simp [hlt]
  refine wpList_plain hg fun K hK => ?_
  rcases find_ents k es.toList l 0 he with ⟨j, v, e, h1, h2, h3, h4, h5⟩ | ⟨h1, h2, h3⟩
  · have hkey : ((es[0 + j]?).map (·.key)).getD (.string k) = .string k := by
      rw [Nat.zero_add, ← Array.getElem?_toList, h3]
      exact h4
    have hst : ∀ w, (Instr.keyThatStays (.string k) (.string k)).run P w = .ok (.string k) w := fun w => by
      have hkk : (k == k) = true := by rw [beq_str]; exact decide_eq_true rfl
      unfold Instr.keyThatStays
      simp [Instr.sameBits, hkk]
    have hrun : (execOp a.eval o).run P w = .ok .skip { w with heap := w.heap.setIfInBounds r (.map (es.modify (0 + j) fun e => { e with key := .string k, val := u }) c) } := by
      unfold execOp
      simp only [ho, hm, hx, hy, Instr.mapUpdate, Sem.run_bind, run_underlying hT w, Result.andThen_ok, run_getMap hb, run_key hk, run_findKey hk h1, hkey, hst, run_setMap hb, Sem.run_pure]
    unfold Oper.wp
    rw [hrun]
    show K (a.put o.dst undef) _
    rw [hd]
    refine hK _ _ (h _ ⟨_, c, blk _, ?_⟩ (upd _))
    rw [Nat.zero_add, Array.toList_modify]
    exact h5 u _ (fun _ => rfl) (fun _ _ => rfl)
  · have hrun : (execOp a.eval o).run P w = .ok .skip { w with heap := w.heap.setIfInBounds r (.map (es.push { key := .string k, val := u, born := c }) (c + 1)) } := by
      unfold execOp
      simp only [ho, hm, hx, hy, Instr.mapUpdate, Sem.run_bind, run_underlying hT w, Result.andThen_ok, run_getMap hb, run_key hk, run_findKey hk h1, run_setMap hb, Sem.run_pure]
    unfold Oper.wp
    rw [hrun]
    show K (a.put o.dst undef) _
    rw [hd]
    refine hK _ _ (h _ ⟨_, c + 1, blk _, ?_⟩ (upd _))
    rw [Array.toList_push]
    exact h3 u c
end
end Go.Proofs.YtenbgnlkkmnmhaaDoor.Q
end
/-! Q15 -/
section
namespace Go.Proofs.YtenbgnlkkmnmhaaDoor.Q
open Go.RowKit Go.Sort
section
variable {P : Program} {w : World}
theorem putCells_take {α : Type} [Inhabited α] (enc : α → Value) (ys : List α) (cur : Array Value) (h : ys.length ≤ cur.size) : (putCells enc 0 ys.toArray cur).toList.take ys.length = ys.map enc := by
  apply List.ext_getElem?
  intro j
  rw [List.getElem?_take]
  by_cases hj : j < ys.length
  · rw [if_pos hj, Array.getElem?_toList]
    unfold putCells
    rw [Array.getElem?_mapIdx, Array.getElem?_eq_getElem (by omega), Option.map_some, if_pos ⟨Nat.zero_le _, by simpa using hj⟩, List.getElem?_map, List.getElem?_eq_getElem hj]
    simp [hj]
  · rw [if_neg hj, List.getElem?_eq_none (by simpa using Nat.le_of_not_lt hj)]
/-- the world behind a call that wrote ys over the row's first cells, drew and made new blocks -/
theorem ownF_put {α : Type} [Inhabited α] {B : Nat} {E : TypeId} {n cap g q : Nat} {cur : Array Value} {os : Array Obj} (enc : α → Value) (ys : List α) (hB : B ≤ g) (hb : w.heap[g]? = some (.cells cur E)) (hn : n ≤ cap) (hm : cap ≤ maxLen) (hs : cur.size = cap) (hl : ys.length = n) :
    OwnF (grow (putRow enc (Sort.ahead w q) g 0 ys.toArray) os) B E 1 (.slice (some ⟨g, 0, none⟩) n cap) n (ys.map enc) ∧ GrW B E (.slice (some ⟨g, 0, none⟩) n cap) w (grow (putRow enc (Sort.ahead w q) g 0 ys.toArray) os) := by
  have hlt := heap_lt hb
  have hg : (grow (putRow enc (Sort.ahead w q) g 0 ys.toArray) os).heap[g]? = some (.cells (putCells enc 0 ys.toArray cur) E) := by
    unfold grow putRow Sort.ahead mapBlock
    rw [Array.getElem?_append_left (by simpa using hlt), Array.getElem?_modify, if_pos rfl, hb]
    rfl
  refine ⟨⟨by simp [hl], .inr ⟨g, cap, _, rfl, hB, hg, hn, hm, by rw [Nat.mul_one, ← hs]; simp [putCells], ?_⟩⟩, ⟨rfl, rfl, rfl, ?_, fun k hk hne => ?_, fun k hk => ?_⟩⟩
  · rw [Nat.mul_one, ← hl]
    exact putCells_take enc ys cur (by omega)
  · simp [grow]
  · unfold grow putRow Sort.ahead mapBlock
    have hne' : g ≠ k := fun e => hne (by rw [e]; rfl)
    rw [Array.getElem?_append_left (by simpa using hk), Array.getElem?_modify, if_neg hne']
  · have : g = k := by simpa [Value.ownBlock] using hk
    subst this
    exact ⟨hB, cur, _, hb⟩
theorem ownF_holds {α : Type} [Inhabited α] {g : Nat} {E : TypeId} {cur : Array Value} (enc : α → Value) (ys : List α) (hb : w.heap[g]? = some (.cells cur E)) (ht : cur.toList.take ys.length = ys.map enc) : Holds enc w g 0 ys.toArray := by
  intro j hj
  have hj' : j < ys.length := by simpa using hj
  refine ⟨?_, by rw [Nat.zero_add]; exact thawed hb j⟩
  rw [Nat.zero_add, cells_at hb j]
  have h := congrArg (·[j]?) ht
  simp only [List.getElem?_take, if_pos hj', Array.getElem?_toList, List.getElem?_map, List.getElem?_eq_getElem hj', Option.map_some] at h
  rw [h]
  simp [hj']
end
end Go.Proofs.YtenbgnlkkmnmhaaDoor.Q
end
/-! Q16 -/
section
namespace Go.Proofs.YtenbgnlkkmnmhaaDoor.Q
open Go.RowKit
section
variable {P : Program} {Q : Exit → Act → World → Prop} {a : Act} {w : World} {o : Oper} {ops : Array Oper} {rest : List Oper} {K : Act → Prop} {C : World → Prop}
def cutF (v : Value) (i sz : Nat) : Value := match v with
  | .slice A n cap => .slice (if cap = i then A else A.map (·.add (i * sz))) (n - i) (cap - i)
  | _ => v
theorem RdF.cut {sz : Nat} {v : Value} {n : Nat} {cs : List Value} (h : RdF w sz v n cs) (i : Nat) (hi : i ≤ n) : RdF w sz (cutF v i sz) (n - i) (cs.drop (i * sz)) := by
  obtain ⟨hl, A, cap, rfl, hc, h2⟩ := h
  refine ⟨by rw [List.length_drop, hl, Nat.sub_mul], _, cap - i, rfl, by omega, fun hp => ?_⟩
  obtain ⟨g, k, rfl, hg, h3⟩ := h2 (by omega)
  refine ⟨g, k + i * sz, by rw [if_neg (by omega), Option.map_some, Addr.add_mid], hg, fun j u hu => ?_⟩
  rw [List.getElem?_drop] at hu
  rw [Nat.add_assoc]
  exact h3 _ u hu
theorem run_sz {E : TypeId} {sz : Nat} (hE : (P.info? E).map (·.size) = some sz) (w : World) : (sizeOf E).run P w = .ok sz w := by
  obtain ⟨i, hi, hs⟩ := Option.map_eq_some_iff.1 hE
  simp [sizeOf, typeInfo, hi, hs]
theorem q_cutF {T E : TypeId} {sz : Nat} {x lo : Operand} {v : Value} {n i : Nat} {cs : List Value} (ho : o.op = .slice T x (some lo) none none) (hT : P.underlying T = some (.slice E)) (hE : (P.info? E).map (·.size) = some sz) (hx : a.eval x = v) (hl : a.eval lo = .int .i64 (i : Int)) {w0 : World} (hv : RdF w0 sz v n cs) (hi : i ≤ n) (hn : K (a.put o.dst (cutF v i sz))) : o.quiet P a C K :=
  q_val _ (fun w _ => by
    obtain ⟨_, A, cap, rfl, h1, _⟩ := hv
    unfold execOp
    have hs := run_sz hE w
    simp [ho, hx, hl, Instr.sliceAt, Instr.slice, Instr.sliceBounds, Instr.sliceBound, asIntOf, Sem.run_bind, run_underlying hT w, hi, hs, cutF]) hn
def lessB (s t : ByteArray) : Bool := Op.bytesLess s.toList t.toList
theorem q_strleq {T T' : TypeId} {x y : Operand} {s t : ByteArray} (b : Bool) (ho : o.op = .binOp .leq T x y T') (hx : a.eval x = .string s) (hy : a.eval y = .string t) (hb : (lessB s t || s.toList == t.toList) = b) (hn : K (a.put o.dst (.bool b))) : o.quiet P a C K :=
  q_val _ (fun w _ => by
    unfold execOp
    unfold lessB at hb
    simp only [ho, hx, hy, eqGuard, binOp, Op.stringOp, hb]
    rfl) hn
abbrev nilS : Value := .slice none 0 0
/-- a slice of slices: vs are the slices, L their records -/
def RdFF {α : Type} (w : World) (sz : Nat) (enc : α → List Value) (v : Value) (vs : List Value) (L : List (List α)) : Prop :=
  RdF w 1 v L.length vs ∧ ∀ k, k < L.length → RdF w sz (vs.getD k nilS) (L.getD k []).length ((L.getD k []).map enc).flatten
theorem RdFF.low {α : Type} {sz : Nat} {enc : α → List Value} {v : Value} {vs : List Value} {L : List (List α)} {w' : World} (h : RdFF w sz enc v vs L) (k : Low w w') : RdFF w' sz enc v vs L := ⟨h.1.low k, fun j hj => (h.2 j hj).low k⟩
theorem RdFF.row {α : Type} {sz : Nat} {enc : α → List Value} {v : Value} {vs : List Value} {L : List (List α)} (h : RdFF w sz enc v vs L) {k : Nat} (hk : k < L.length) : RdF w sz (vs.getD k nilS) (L.getD k []).length ((L.getD k []).map enc).flatten := h.2 k hk
theorem getD_at {α : Type} (l : List α) (k : Nat) (d : α) (h : k < l.length) : l[k]? = some (l.getD k d) := by simp [List.getD_eq_getElem?_getD, h]
/-- a literal of three slices -/
theorem l_lit3 {E t : TypeId} {x0 x1 x2 : Operand} {v0 v1 v2 : Value} (hg : o.guard = none) (ho : o.op = .buildSlice t 3 #[(0, x0), (1, x1), (2, x2)]) (ht : P.underlying t = some (.slice E)) (hE : recB P E 1 = true) (h0 : a.eval x0 = v0) (h1 : a.eval x1 = v1) (h2 : a.eval x2 = v2) (c0 : v0.oneCell' = true) (c1 : v1.oneCell' = true) (c2 : v2.oneCell' = true)
    (h : ∀ g w', w.heap.size ≤ g → w'.heap[g]? = some (.cells #[v0, v1, v2] E) → Low w w' → wpList P ops Q rest (a.put o.dst (.slice (some ⟨g, 0, none⟩) 3 3)) w') : wpList P ops Q (o :: rest) a w := by
  obtain ⟨i, z, hi, hz, hs, h3, h4⟩ := recB_spec hE
  refine wpList_plain hg fun K hK => ?_
  have e0 : v0.cells = #[v0] := by cases v0 <;> first | rfl | cases c0
  have e1 : v1.cells = #[v1] := by cases v1 <;> first | rfl | cases c1
  have e2 : v2.cells = #[v2] := by cases v2 <;> first | rfl | cases c2
  have hrun : (execOp a.eval o).run P w = .ok (.value (.slice (some ⟨w.heap.size, 0, none⟩) 3 3)) (w.alloc (.cells #[v0, v1, v2] E)) := by
    have hr : (Array.range 3).map (z.cells[· % z.cells.size]!) = #[z.cells[0 % z.cells.size]!, z.cells[1 % z.cells.size]!, z.cells[2 % z.cells.size]!] := by
      rw [show Array.range 3 = #[0, 1, 2] from by decide]
      simp only [List.map_toArray, List.map_cons, List.map_nil]
    unfold execOp
    simp [ho, h0, h1, h2, Instr.buildSlice, Sem.run_bind, run_underlying ht w, sizeOf, typeInfo, zeroValue, hi, hs, hz, run_newRow, hr, Instr.fill, e0, e1, e2]
  unfold Oper.wp
  rw [hrun]
  exact hK _ _ (h _ _ (Nat.le_refl _) (new_block _ _) (low_new _ _))
/-- .. which is a row of rows, whatever the slices are -/
theorem rdF_lit {g n : Nat} {vs : List Value} {E : TypeId} (h : w.heap[g]? = some (.cells vs.toArray E)) (hn : vs.length = n) : RdF w 1 (.slice (some ⟨g, 0, none⟩) n n) n vs :=
  ⟨by omega, _, n, rfl, Nat.le_refl _, fun _ => ⟨g, 0, rfl, heap_lt h, fun j u hu => by
    rw [Nat.zero_add]
    rw [cells_at h j]
    simpa using hu⟩⟩
end
end Go.Proofs.YtenbgnlkkmnmhaaDoor.Q
end
/-! Q17 -/
section
namespace Go.Proofs.YtenbgnlkkmnmhaaDoor.Q
open Go.RowKit
set_option linter.unusedSimpArgs false
set_option linter.unusedVariables false
section
variable {P : Program} {Q : Exit → Act → World → Prop} {a : Act} {w : World} {o : Oper} {ops : Array Oper} {rest : List Oper}
structure InvJ (l : List Oper) (n : Nat) (J : Array Bool → Act → World → Prop) (L : Array Bool) (a : Act) (w : World) : Prop where
  inv : J L a w
  shut : ∀ j o, l[j]? = some o → Has L j → ∀ e ∈ o.after, Region.binds .any e = true → Has L e.on
  tail : ∀ t, n ≤ t → t < l.length → ¬ Has L t
def oAt : List (Option Value) → Nat → Option Value
  | [], _ => none
  | s :: _, 0 => s
  | _ :: l, j + 1 => oAt l j
structure InsJ (l : List Oper) (n : Nat) (vs : List (Option Value)) (N : Nat) (a0 : Act) (W : World) (E : TypeId) (sz e0 d0 e4 d4 e6 d6 e7 d7 e9 d9 m1 m2 : Nat) (c1 xs c2 : List Value) (L : Array Bool) (a : Act) (w : World) : Prop where
  fr : Fr N a
  low : Low W w
  keep : ∀ t u, notDst (l.take n) t = true → At a0 t u → At a t u
  free : ∀ i v d, oAt vs i = some v → dstAt (l.take n) i = some d → Has L i → At a d v
  eff : ∃ v0 v4 g v7 v9, (Has L e0 → At a d0 v0) ∧ (Has L e4 → At a d4 v4) ∧ (Has L e6 → At a d6 (.slice (some ⟨g, 0, none⟩) 1 1)) ∧ (Has L e7 → At a d7 v7) ∧ (Has L e9 → At a d9 v9) ∧
    (Has L e0 → ¬ Has L e4 → OwnF w W.heap.size E sz v0 0 []) ∧ (Has L e4 → ¬ Has L e7 → OwnF w W.heap.size E sz v4 m1 c1) ∧ (Has L e6 → ¬ Has L e7 → w.heap[g]? = some (.cells xs.toArray E)) ∧
    (Has L e7 → ¬ Has L e9 → OwnF w W.heap.size E sz v7 (m1 + 1) (c1 ++ xs)) ∧ (Has L e9 → OwnF w W.heap.size E sz v9 (m1 + 1 + m2) (c1 ++ xs ++ c2)) ∧
    (Has L e0 → ¬ Has L e4 → Has L e6 → v0.ownBlock ≠ some g) ∧ (Has L e4 → Has L e6 → ¬ Has L e7 → v4.ownBlock ≠ some g)
theorem OwnF.own_lt {B : Nat} {E : TypeId} {sz : Nat} {v : Value} {n : Nat} {cs : List Value} (h : OwnF w B E sz v n cs) {k : Nat} (hk : v.ownBlock = some k) : k < w.heap.size := (h.block k hk).2.1
end
end Go.Proofs.YtenbgnlkkmnmhaaDoor.Q
end
/-! WEqStruct -/
section
namespace Go.Proofs.YtenbgnlkkmnmhaaDoorW.PrintWords
open Go.RowKit
section
variable {P : Program} {d : Nat} {xs ys : Array Value} {f : Field} {fs : List Field} {a b : Value} {r s : Bool} {w : World}
/-- The last field that counts. -/
theorem eqf_last (hn : (f.name == "_") = false) (ha : (part f.type xs f.offset).run P w = .ok a w) (hb : (part f.type ys f.offset).run P w = .ok b w) (he : (Op.equalIn d f.type a b).run P w = .ok r w) : (Op.eqFields d xs ys [f]).run P w = .ok r w := by
  have hn' : f.name ≠ "_" := by simpa using hn
  simp only [Op.eqFields, if_pos hn', Sem.run_bind, ha, hb, he, Result.andThen_ok]
  cases r <;> simp
theorem eqf_cons (hn : (f.name == "_") = false) (ha : (part f.type xs f.offset).run P w = .ok a w) (hb : (part f.type ys f.offset).run P w = .ok b w) (he : (Op.equalIn d f.type a b).run P w = .ok r w) (hr : (Op.eqFields d xs ys fs).run P w = .ok s w) : (Op.eqFields d xs ys (f :: fs)).run P w = .ok (r && s) w := by
  have hn' : f.name ≠ "_" := by simpa using hn
  rw [Op.eqFields]
  simp only [if_pos hn', Sem.run_bind, ha, hb, he, Result.andThen_ok]
  cases r
  · simp
  · simpa using hr
theorem eqA_of {t : TypeId} {fs : Array Field} (hu : P.underlying t = some (.struct fs)) (hp : P.stoodInHeld t = false) (h : (Op.eqFields d xs ys fs.toList).run P w = .ok r w) : (Op.equalIn (d + 1) t (.agg xs) (.agg ys)).run P w = .ok r w := by
  have hf : P.fieldsOf t = fs := by simp [Program.fieldsOf, hu]
  rw [run_equalIn_struct (P := P) w d t xs ys (by rw [hf]; exact hu) hp, hf]
  exact h
end
end Go.Proofs.YtenbgnlkkmnmhaaDoorW.PrintWords
end
/-! Q18 -/
section
namespace Go.Proofs.YtenbgnlkkmnmhaaDoor.Q
open Go.RowKit Go.Proofs.YtenbgnlkkmnmhaaDoorW.PrintWords
set_option linter.unusedVariables false
set_option linter.unusedSimpArgs false
section
variable {P : Program} {Q : Exit → Act → World → Prop} {a : Act} {w : World} {o : Oper} {ops : Array Oper} {rest : List Oper} {K : Act → Prop} {C : World → Prop}
theorem q_eq3 {T T' : TypeId} {x y : Operand} {xs ys : Array Value} {r : Bool} (b : Bool) (ho : o.op = .binOp .eql T x y T') (hm : P.eqGuardType P.depth T = false) (hx : a.eval x = .agg xs) (hy : a.eval y = .agg ys) (h : ∀ w, (Op.equalIn 10000 T (.agg xs) (.agg ys)).run P w = .ok r w) (hb : r = b) (hn : K (a.put o.dst (.bool b))) : o.quiet P a C K :=
  q_val _ (fun w _ => by
    have h1 := run_eqGuard_agg (P := P) w .eql T x y xs ys hm
    have h2 := run_eql_struct (P := P) w T xs ys
    unfold execOp
    simp only [ho, hx, hy, Sem.run_bind, h1, Result.andThen_ok, h2, h w, Sem.run_pure, hb]) hn
theorem q_ne3 {T T' : TypeId} {x y : Operand} {xs ys : Array Value} {r : Bool} (b : Bool) (ho : o.op = .binOp .neq T x y T') (hm : P.eqGuardType P.depth T = false) (hx : a.eval x = .agg xs) (hy : a.eval y = .agg ys) (h : ∀ w, (Op.equalIn 10000 T (.agg xs) (.agg ys)).run P w = .ok r w) (hb : (!r) = b) (hn : K (a.put o.dst (.bool b))) : o.quiet P a C K :=
  q_val _ (fun w _ => by
    have h1 := run_eqGuard_agg (P := P) w .neq T x y xs ys hm
    have h2 := run_neq_struct (P := P) w T xs ys
    unfold execOp
    simp only [ho, hx, hy, Sem.run_bind, h1, Result.andThen_ok, h2, h w, Sem.run_pure, hb]) hn
theorem q_boolq {T T' : TypeId} {x y : Operand} {s t : Bool} (b : Bool) (ho : o.op = .binOp .eql T x y T') (hT : P.underlying T = some .bool) (hx : a.eval x = .bool s) (hy : a.eval y = .bool t) (hb : (s == t) = b) (hn : K (a.put o.dst (.bool b))) : o.quiet P a C K :=
  q_val _ (fun w _ => by
    have h1 := run_equalIn_bool' (P := P) w 9999 T s t hT
    unfold execOp
    simp [ho, hx, hy, eqGuard, binOp, Op.equal, Op.maxDepth, Sem.run_bind, h1, hb]) hn
end
section
variable {P : Program}
theorem OwnF.castL {α : Type} {enc : α → List Value} {B : Nat} {E : TypeId} {sz : Nat} {v : Value} {l l' : List α} {w : World} (h : OwnF w B E sz v l.length (l.map enc).flatten) (e : l = l') : OwnF w B E sz v l'.length (l'.map enc).flatten := e ▸ h
theorem RdF.castL {α : Type} {enc : α → List Value} {sz : Nat} {v : Value} {l l' : List α} {w : World} (h : RdF w sz v l.length (l.map enc).flatten) (e : l = l') : RdF w sz v l'.length (l'.map enc).flatten := e ▸ h
theorem RdF.cutL {α : Type} {enc : α → List Value} {sz : Nat} {v : Value} {l : List α} {w : World} (he : ∀ x, (enc x).length = sz) (h : RdF w sz v l.length (l.map enc).flatten) {j : Nat} (hj : j ≤ l.length) : RdF w sz (cutF v j sz) (l.drop j).length ((l.drop j).map enc).flatten :=
  (h.cut j hj).cast List.length_drop.symm (flat_drop he l j hj)
theorem RdFF.cell {α : Type} {sz : Nat} {enc : α → List Value} {v : Value} {vs : List Value} {L : List (List α)} {w : World} (h : RdFF w sz enc v vs L) {j : Nat} (hj : j < L.length) : vs[j * 1]? = some (vs.getD j nilS) := by
  have := h.1.1
  rw [Nat.mul_one]
  exact getD_at vs j nilS (by omega)
/-- three slices, laid in a block -/
theorem rdFF3 {α : Type} {sz : Nat} {enc : α → List Value} {v0 v1 v2 : Value} {l0 l1 l2 : List α} {w : World} {g : Nat} {E : TypeId} (h : w.heap[g]? = some (.cells #[v0, v1, v2] E)) (h0 : RdF w sz v0 l0.length (l0.map enc).flatten) (h1 : RdF w sz v1 l1.length (l1.map enc).flatten) (h2 : RdF w sz v2 l2.length (l2.map enc).flatten) :
    RdFF w sz enc (.slice (some ⟨g, 0, none⟩) 3 3) [v0, v1, v2] [l0, l1, l2] := by
  refine ⟨rdF_lit h rfl, ?_⟩
  intro k hk
  match k, hk with
  | 0, _ => exact h0
  | 1, _ => exact h1
  | 2, _ => exact h2
  | k + 3, hk => exact absurd hk (by simp)
end
end Go.Proofs.YtenbgnlkkmnmhaaDoor.Q
end
/-! WLast -/
section
namespace Go.Proofs.YtenbgnlkkmnmhaaDoorW.PrintLast
section
variable {P : Program} {ops : Array Oper} {Q : Exit → Act → World → Prop} {md : Region.Mode} {S : World → Prop} {ds : List Nat}
/-- Operation d waits for operation i, by a chain of at most 'fuel' edges. -/
def Region.reachB (md : Region.Mode) (ops : Array Oper) (i : Nat) : Nat → Nat → Bool
  | 0, _ => false
  | fuel + 1, d => match ops[d]? with
    | some o => o.after.any fun e => Region.binds md e && (e.on == i || Region.reachB md ops i fuel e.on)
    | none => false
/-- Each of ds that has not come up yet waits for number i. -/
def Region.lastB (md : Region.Mode) (ops : Array Oper) (listed : Array Bool) (ds : List Nat) (i : Nat) : Bool :=
  ds.all fun d => listed.getD d true || Region.reachB md ops i ops.size d
def ListedClosed (md : Region.Mode) (ops : Array Oper) (listed : Array Bool) : Prop :=
  ∀ j oj, ops[j]? = some oj → listed.getD j false = true → ∀ e ∈ oj.after, Region.binds md e = true → listed.getD e.on false = true
theorem ListedClosed.set {listed : Array Bool} {i : Nat} (h : ListedClosed md ops listed) (hi : i ∈ Region.ready md ops listed) : ListedClosed md ops (listed.setIfInBounds i true) := by
  obtain ⟨_, oi, hoi, hall⟩ := mem_ready.1 hi
  intro j oj hj hl e he hb
  by_cases hij : i = j
  · subst hij
    have : oj = oi := Option.some.inj (hj.symm.trans hoi)
    subst this
    exact getD_set_true (hall e he hb)
  · rw [getD_set_ne false hij] at hl
    exact getD_set_true (h j oj hj hl e he hb)
/-- Whatever order is picked from here on, AND 'S' HOLDS BEHIND EVERY OPERATION THAT IS CARRIED OUT, those of ds apart. -/
def wpAnyLast (P : Program) (md : Region.Mode) (ops : Array Oper) (Q : Exit → Act → World → Prop) (S : World → Prop) (ds : List Nat) : Nat → Array Bool → Act → World → Prop
  | 0, listed, a, w => Region.ready md ops listed = [] ∧ Q .normal a w
  | fuel + 1, listed, a, w =>
    (Region.ready md ops listed = [] → Q .normal a w) ∧
    ∀ i ∈ Region.ready md ops listed, wpOp P ops Q i (fun a' w' => (i ∉ ds → S w → S w') ∧ wpAnyLast P md ops Q S ds fuel (listed.setIfInBounds i true) a' w') a w
end
section
variable {P : Program} {ops : Array Oper} {Q : Exit → Act → World → Prop} {md : Region.Mode} {S : World → Prop} {ds : List Nat}
def AllReadyL (P : Program) (md : Region.Mode) (ops : Array Oper) (Q : Exit → Act → World → Prop) (S : World → Prop) (ds : List Nat) (fuel : Nat) (listed : Array Bool) (a : Act) (w : World) (rs : List Nat) : Prop :=
  ∀ i ∈ rs, wpOp P ops Q i (fun a' w' => (i ∉ ds → S w → S w') ∧ wpAnyLast P md ops Q S ds fuel (listed.setIfInBounds i true) a' w') a w
theorem AllReadyL.nil {fuel : Nat} {listed : Array Bool} {a : Act} {w : World} : AllReadyL P md ops Q S ds fuel listed a w [] := fun _ h => by cases h
theorem AllReadyL.cons {fuel : Nat} {listed : Array Bool} {a : Act} {w : World} {i : Nat} {o : Oper} {rs : List Nat} (ho : ops[i]? = some o) (hd : i ∉ ds)
    (h : ∀ K' : Act → World → Prop, Shut (∀ a w, S w → (S w → wpAnyLast P md ops Q S ds fuel (listed.setIfInBounds i true) a w) → K' a w) → if Region.wanted o (yielded ops a.tmps) = true then Oper.wp P o a w K' Q else K' (a.put o.dst undef) w)
    (hs : AllReadyL P md ops Q S ds fuel listed a w rs) : AllReadyL P md ops Q S ds fuel listed a w (i :: rs) := fun j hj => by
  rcases List.mem_cons.1 hj with rfl | hj
  · exact wpOp_step ho (fun K' hK => h K' (fun a w hS hW => hK a w ⟨fun _ _ => hS, hW hS⟩))
  · exact hs j hj
end
end Go.Proofs.YtenbgnlkkmnmhaaDoorW.PrintLast
end
/-! WTab -/
section
namespace Go.Proofs.YtenbgnlkkmnmhaaDoorW.PrintLast
open Go.Proofs.YtenbgnlkkmnmhaaDoorW.PrintWords (Aside0)
section
variable {md : Region.Mode} {ops : Array Oper} {T : Bool × List (List Nat × List Nat)} {l l' li lj lk : Array Bool} {ds : List Nat} {i j k : Nat}
end
end Go.Proofs.YtenbgnlkkmnmhaaDoorW.PrintLast
end
/-! WFour -/
section
namespace Go.Proofs.YtenbgnlkkmnmhaaDoorW.PrintLast
section
variable {P : Program} {ops : Array Oper} {Q : Exit → Act → World → Prop} {md : Region.Mode} {S : World → Prop} {ds : List Nat} {T : Bool × List (List Nat × List Nat)}
end
end Go.Proofs.YtenbgnlkkmnmhaaDoorW.PrintLast
end
/-! WQPut -/
section
namespace Go.Proofs.YtenbgnlkkmnmhaaDoorW.PrintWords
open Go.RowKit
namespace Kd
section
variable {α : Type} {d : Kd α} {e base g o n cap : Nat} {ok okp : Nat → Prop} {w W : World} {v : Value} {xs : List α}
end
section
variable {α : Type} {enc : α → Value} {h1 : ∀ x, (enc x).oneCell' = true} {e base g o n cap : Nat} {ok : Nat → Prop} {W : World} {xs : List α}
end
end Kd
end Go.Proofs.YtenbgnlkkmnmhaaDoorW.PrintWords
end
/-! WApart -/
section
namespace Go.Proofs.YtenbgnlkkmnmhaaDoorW.PrintWords
open Go.RowKit
namespace Kd
/-- An element with its index: its blocks are those that f gives to it. -/
def tag {α : Type} (f : Nat → Nat) (d : Kd α) : Kd (α × Nat) where
  sz := d.sz
  E := d.E
  K := fun w x cs => d.K w x.1 cs
  M := fun w base ok x cs => d.M w base (fun k => ok k ∧ f k = x.2) x.1 cs
  K_len := fun h => d.K_len h
  K_one := fun h => d.K_one h
  K_below := fun hb h => d.K_below hb h
  K_of_M := fun h => d.K_of_M h
  M_mono := fun hok h => d.M_mono (fun k hk => ⟨hok k hk.1, hk.2⟩) h
  M_bound := fun h => d.M_mono (fun _ hk => ⟨⟨hk.1.1, hk.2⟩, hk.1.2⟩) (d.M_bound h)
  M_move := fun hm h => d.M_move (fun k hk => hm k hk.1) h
  M_lower := fun hb h => d.M_lower hb h
/-- Nothing but its cells: no block is said of it. -/
def bare {α : Type} (d : Kd α) : Kd α where
  sz := d.sz
  E := d.E
  K := d.K
  M := fun w base _ x cs => d.M w base (fun _ => False) x cs
  K_len := fun h => d.K_len h
  K_one := fun h => d.K_one h
  K_below := fun hb h => d.K_below hb h
  K_of_M := fun h => d.K_of_M h
  M_mono := fun _ h => h
  M_bound := fun h => h
  M_move := fun _ h => d.M_move (fun _ hk => hk.elim) h
  M_lower := fun hb h => d.M_lower hb h
/-- The cells themselves. -/
def raw (sz : Nat) : Kd (List Value) where
  sz := sz
  E := []
  K := fun _ x cs => cs = x ∧ cs.length = sz ∧ ∀ u ∈ cs, u.oneCell' = true
  M := fun _ _ _ x cs => cs = x ∧ cs.length = sz ∧ ∀ u ∈ cs, u.oneCell' = true
  K_len := fun h => h.2.1
  K_one := fun h => h.2.2
  K_below := fun _ h => h
  K_of_M := fun h => h
  M_mono := fun _ h => h
  M_bound := fun h => h
  M_move := fun _ h => h
  M_lower := fun _ h => h
/-- A row of elements (type e) of the call's own, no two of which lead to one block. -/
def S {α : Type} (d : Kd α) (e : Nat) (w : World) (base : Nat) (ok : Nat → Prop) (v : Value) (xs : List α) : Prop := ∃ f, (tag f d).R e w base ok v xs.zipIdx
section
variable {α β : Type} {d : Kd α} {d' : Kd β} {e e' : Nat} {w w1 W : World} {base b : Nat} {ok ok' okv oku : Nat → Prop} {u v : Value} {xs : List α} {ys : List β}
end
section
variable {α β : Type} {d : Kd α} {d' : Kd β} {e e' g : Nat} {w w1 W : World} {base b : Nat} {ok ok' okv oku : Nat → Prop} {u v : Value} {xs : List α} {ys : List β}
end
section
variable {P : Program} {ops : Array Oper} {rest : List Oper} {o : Oper} {a : Act} {Q : Exit → Act → World → Prop} {Kc : Act → World → Prop} {α : Type}
end
/-- Element i is these cells; the others are d's. -/
def gap {α : Type} (f : Nat → Nat) (d : Kd α) (i : Nat) (c : List Value) : Kd (α × Nat) where
  sz := d.sz
  E := d.E
  K := fun w x cs => (x.2 = i → cs = c ∧ cs.length = d.sz ∧ ∀ u ∈ cs, u.oneCell' = true) ∧ (x.2 ≠ i → d.K w x.1 cs)
  M := fun w base ok x cs => (x.2 = i → cs = c ∧ cs.length = d.sz ∧ ∀ u ∈ cs, u.oneCell' = true) ∧ (x.2 ≠ i → d.M w base (fun k => ok k ∧ f k = x.2) x.1 cs)
  K_len := fun {w x cs} h => by
    by_cases hx : x.2 = i
    · exact (h.1 hx).2.1
    · exact d.K_len (h.2 hx)
  K_one := fun {w x cs} h => by
    by_cases hx : x.2 = i
    · exact (h.1 hx).2.2
    · exact d.K_one (h.2 hx)
  K_below := fun hb h => ⟨h.1, fun hx => d.K_below hb (h.2 hx)⟩
  K_of_M := fun h => ⟨h.1, fun hx => d.K_of_M (h.2 hx)⟩
  M_mono := fun hok h => ⟨h.1, fun hx => d.M_mono (fun k hk => ⟨hok k hk.1, hk.2⟩) (h.2 hx)⟩
  M_bound := fun h => ⟨h.1, fun hx => d.M_mono (fun _ hk => ⟨⟨hk.1.1, hk.2⟩, hk.1.2⟩) (d.M_bound (h.2 hx))⟩
  M_move := fun hm h => ⟨h.1, fun hx => d.M_move (fun k hk => hm k hk.1) (h.2 hx)⟩
  M_lower := fun hb h => ⟨h.1, fun hx => d.M_lower hb (h.2 hx)⟩
def H {α : Type} (d : Kd α) (e : Nat) (w : World) (base : Nat) (ok : Nat → Prop) (v : Value) (xs : List α) (i : Int) (oki : Nat → Prop) (c : List Value) : Prop :=
  (∀ k, oki k → ok k) ∧ ∃ f, (gap f d i.toNat c).R e w base (fun k => ok k ∧ ¬ oki k) v xs.zipIdx
section
variable {α β : Type} {d : Kd α} {e e' g n cap : Nat} {w w1 W : World} {base : Nat} {ok ok' oki okp : Nat → Prop} {u v : Value} {xs : List α} {i : Int} {c : List Value}
end
section
variable {P : Program} {ops : Array Oper} {rest : List Oper} {o : Oper} {a : Act} {Q : Exit → Act → World → Prop} {α : Type}
end
end Kd
end Go.Proofs.YtenbgnlkkmnmhaaDoorW.PrintWords
end
/-! WArr -/
section
namespace Go.Proofs.YtenbgnlkkmnmhaaDoorW.PrintWords
open Go.RowKit
namespace Kd
section
variable {α : Type} {n : Nat} {d : Kd α} {hs : 0 < d.sz} {w : World} {base : Nat} {ok : Nat → Prop} {xs : List α} {cs : List Value}
end
section
variable {α : Type} {n : Nat} {enc : α → Value} {h1 : ∀ x, (enc x).oneCell' = true} {hs : 0 < (scalar enc h1).sz} {w : World} {base : Nat} {ok : Nat → Prop} {xs : List α} {cs : List Value}
end
end Kd
end Go.Proofs.YtenbgnlkkmnmhaaDoorW.PrintWords
end
/-! WZeros -/
section
namespace Go.Proofs.YtenbgnlkkmnmhaaDoorW.PrintWords
open Go.RowKit
section
variable {P : Program}
end
namespace Kd
section
variable {P : Program} {ops : Array Oper} {rest : List Oper} {o : Oper} {a : Act} {Q : Exit → Act → World → Prop} {Kc : Act → World → Prop} {α : Type}
end
section
variable {α : Type} {d : Kd α} {e : Nat} {w : World} {base : Nat} {ok : Nat → Prop} {v : Value} {xs : List α}
end
section
variable {P : Program} {ops : Array Oper} {rest : List Oper} {o : Oper} {a : Act} {Q : Exit → Act → World → Prop} {Kc : Act → World → Prop} {α : Type}
end
end Kd
end Go.Proofs.YtenbgnlkkmnmhaaDoorW.PrintWords
end
/-! WFoot -/
section
namespace Go.Proofs.YtenbgnlkkmnmhaaDoorW.PrintWords
open Go.RowKit
namespace Kd
/-- What a kind reads lies in the blocks: nothing else of the world is looked at. -/
structure Heap {α : Type} (d : Kd α) : Prop where
  K : ∀ {w w1 : World} {x : α} {cs : List Value}, (∀ k, k < w.heap.size → w1.heap[k]? = w.heap[k]?) → d.K w x cs → d.K w1 x cs
theorem cell_heap {w w1 : World} (hb : ∀ k, k < w.heap.size → w1.heap[k]? = w.heap[k]?) {a : Addr} {v : Value} (h : w.cell? a = some v) : w1.cell? a = some v := by
  have := hb a.block (World.block_lt_of_cell? w a h)
  simpa [World.cell?, this] using h
theorem Heap.C {α : Type} {d : Kd α} (hd : Heap d) {w w1 : World} {A : Option Addr} {n : Nat} {xs : List α} (hb : ∀ k, k < w.heap.size → w1.heap[k]? = w.heap[k]?) (h : d.C w A n xs) : d.C w1 A n xs :=
  ⟨h.1, h.2.1, fun hn => by
    obtain ⟨ad, e, hc⟩ := h.2.2 hn
    refine ⟨ad, e, fun j p hj => ?_⟩
    obtain ⟨c, hs, hr, hcell⟩ := hc j p hj
    exact ⟨c, hs, hd.K hb hr, fun i u hu => cell_heap hb (hcell i u hu)⟩⟩
section
variable {α : Type} {d : Kd α} {e base g n c : Nat} {ok : Nat → Prop} {w w0 W : World} {A : Option Addr} {xs : List α}
end
end Kd
end Go.Proofs.YtenbgnlkkmnmhaaDoorW.PrintWords
end
/-! WKept -/
section
namespace Go.Proofs.YtenbgnlkkmnmhaaDoorW.PrintWords
open Go.RowKit
def Kept (w W : World) (S : Nat → Prop) : Prop := w.heap.size ≤ W.heap.size ∧ ∀ i, i < w.heap.size → ¬ S i → W.heap[i]? = w.heap[i]?
section
variable {w W W2 : World} {S S2 S' : Nat → Prop}
theorem Kept.refl (w : World) (S : Nat → Prop) : Kept w w S := ⟨Nat.le_refl _, fun _ _ _ => rfl⟩
theorem Kept.of_below (h : Below w.heap.size w W) (S : Nat → Prop) : Kept w W S := ⟨h.size, fun i hi _ => h.block i hi⟩
theorem Kept.mono (h : Kept w W S) (hs : ∀ k, S k → S' k) : Kept w W S' := ⟨h.1, fun i hi hn => h.2 i hi (fun hk => hn (hs i hk))⟩
theorem Kept.then_ (h : Kept w W S) (k : Kept W W2 S2) (hs : ∀ k, S2 k → S k ∨ w.heap.size ≤ k) : Kept w W2 S :=
  ⟨Nat.le_trans h.1 k.1, fun i hi hn => (k.2 i (Nat.lt_of_lt_of_le hi h.1) (fun h2 => (hs i h2).elim hn (fun h3 => by omega))).trans (h.2 i hi hn)⟩
theorem Kept.below (h : Kept w W S) (hb : Below W.heap.size W W2) : Kept w W2 S := h.then_ (Kept.of_below hb (fun _ => False)) (fun _ hk => hk.elim)
theorem Kept.alloc (h : Kept w W S) (o : Obj) : Kept w (W.alloc o) S := h.below (below_alloc (Below.refl _ _) o)
theorem Kept.drew (h : Kept w W S) : Kept w W.drew S := h
theorem Kept.drewN (h : Kept w W S) (m : Nat) : Kept w (W.drewN m) S := h
/-- Beside a state: what was written is new since. -/
theorem Kept.keep {g : Nat} (h : KeepBut w W g none) (k : Kept W W2 S2) (hs : ∀ k, S2 k → w.heap.size ≤ k) : KeepBut w W2 g none :=
  ⟨Nat.le_trans h.1 k.1, fun i hi hg hr => (k.2 i (Nat.lt_of_lt_of_le hi h.1) (fun h2 => by have := hs i h2; omega)).trans (h.2 i hi hg hr)⟩
end
namespace Kd
section
variable {α : Type} {d : Kd α} {e base n c : Nat} {ok oki S S2 : Nat → Prop} {w w0 W W1 W2 : World} {v : Value} {A : Option Addr} {xs : List α} {i : Int} {cs : List Value}
end
end Kd
end Go.Proofs.YtenbgnlkkmnmhaaDoorW.PrintWords
end
/-! WShare -/
section
namespace Go.Proofs.YtenbgnlkkmnmhaaDoorW.PrintWords
open Go.RowKit
/-- P holds in W and in every world that has W's blocks of ok. -/
def Foot (P : World → Prop) (W : World) (ok : Nat → Prop) : Prop := ∀ W' : World, (∀ k, ok k → k < W.heap.size → W'.heap[k]? = W.heap[k]?) → P W'
theorem heap_lt {W W1 : World} {k : Nat} (h : W1.heap[k]? = W.heap[k]?) (hlt : k < W.heap.size) : k < W1.heap.size := by
  rw [Array.getElem?_eq_getElem hlt] at h
  exact (Array.getElem?_eq_some_iff.1 h).1
namespace Foot
variable {P Q : World → Prop} {W W1 : World} {ok ok' : Nat → Prop}
theorem mono (h : Foot P W ok) (hok : ∀ k, ok k → ok' k) : Foot P W ok' := fun W' hW => h W' (fun k hk hlt => hW k (hok k hk) hlt)
theorem bound (h : Foot P W ok) : Foot P W (fun k => ok k ∧ k < W.heap.size) := fun W' hW => h W' (fun k hk hlt => hW k ⟨hk, hlt⟩ hlt)
theorem step (h : Foot P W ok) (hm : ∀ k, ok k → k < W.heap.size → W1.heap[k]? = W.heap[k]?) : Foot P W1 ok := fun W' hW => h W' (fun k hk hlt => (hW k hk (heap_lt (hm k hk hlt) hlt)).trans (hm k hk hlt))
theorem imp (h : Foot P W ok) (hi : ∀ W', P W' → Q W') : Foot Q W ok := fun W' hW => hi W' (h W' hW)
/-- Moved, and still elder than what is new since W. -/
theorem old (h : Foot P W ok) (hb : Below W.heap.size W W1) : Foot P W1 (fun k => ok k ∧ k < W.heap.size) := (h.bound).step (fun k _ hlt => hb.block k hlt)
end Foot
namespace Kd
/-- A row that is only read: what it leads to lies in ok. -/
def F {α : Type} (d : Kd α) (W : World) (ok : Nat → Prop) (A : Option Addr) (n : Nat) (xs : List α) : Prop := Foot (fun W => d.C W A n xs) W ok
/-- An element's cells: what they lead to lies in ok. -/
def FK {α : Type} (d : Kd α) (W : World) (ok : Nat → Prop) (x : α) (c : List Value) : Prop := Foot (fun W => d.K W x c) W ok
section
variable {α β : Type} {d : Kd α} {e base n n' cc g N : Nat} {ok ok' okp S : Nat → Prop} {w w0 w1 W W1 : World} {A A' : Option Addr} {u v v1 : Value} {xs : List α} {xs' : List β} {d' : Kd β} {x : α} {c : List Value}
end
end Kd
end Go.Proofs.YtenbgnlkkmnmhaaDoorW.PrintWords
end
/-! WN -/
section
namespace Go.Proofs.YtenbgnlkkmnmhaaDoorW.PrintWords
open Go.RowKit
namespace Kd
section
variable {α : Type} {d : Kd α} {e base n cc g : Nat} {ok ok' okp S : Nat → Prop} {w w1 W W1 : World} {A : Option Addr} {u v v1 : Value} {xs : List α} {x : α} {c : List Value}
/-- A row of elements (type e) of the call's own; what the elements lead to is only read, and is not this row. -/
def N {α : Type} (d : Kd α) (e : Nat) (w : World) (base : Nat) (ok : Nat → Prop) (v : Value) (xs : List α) : Prop :=
  (∀ k, v.ownBlock = some k → ok k) ∧ ∃ rows : List (List Value), rows.length = xs.length ∧ (raw d.sz).R e w base (fun k => some k = v.ownBlock) v rows ∧ ∀ (j : Nat) (x : α) (c : List Value), xs[j]? = some x → rows[j]? = some c → FK d w (fun k => ok k ∧ some k ≠ v.ownBlock) x c
end
end Kd
end Go.Proofs.YtenbgnlkkmnmhaaDoorW.PrintWords
end
/-! WFootNe -/
section
namespace Go.Proofs.YtenbgnlkkmnmhaaDoorW.PrintWords
open Go.RowKit
namespace Kd
section
variable {α : Type} {d : Kd α} {W : World} {g n : Nat} {S ok : Nat → Prop} {A : Option Addr} {ad : Addr} {xs : List α}
end
end Kd
end Go.Proofs.YtenbgnlkkmnmhaaDoorW.PrintWords
end
/-! WAt -/
section
namespace Go.Proofs.YtenbgnlkkmnmhaaDoorW.PrintWords
open Go.RowKit
section
variable {w w' u : World} {m B g : Nat} {o : Obj} {row : Option Nat} {S : Nat → Prop} {a : Addr} {v : Value}
end
namespace Kd
section
variable {α : Type} {d : Kd α} {e base n m : Nat} {ok : Nat → Prop} {w w' : World} {v : Value} {A : Option Addr} {xs : List α}
end
end Kd
end Go.Proofs.YtenbgnlkkmnmhaaDoorW.PrintWords
end
/-! WRepsOne -/
section
namespace Go.Proofs.YtenbgnlkkmnmhaaDoorW.PrintWords
/-- One cell an element. -/
theorem Reps.one {α : Type} {R : α → List Value → Prop} {ps : List α} {cs : List Value} {p : α} {v : Value} (hp : R p [v]) (h : Reps R 1 ps cs) : Reps R 1 (p :: ps) (v :: cs) := by
  refine ⟨by simp [h.1], fun j q hq => ?_⟩
  cases j with
  | zero =>
    simp only [List.getElem?_cons_zero, Option.some.injEq] at hq
    subst hq
    simpa using hp
  | succ j =>
    simp only [List.getElem?_cons_succ] at hq
    have h1 := h.2 j q hq
    simpa [Nat.mul_one] using h1
/-- More cells an element: told apart by the cells' list. -/
theorem Reps.front {α : Type} {R : α → List Value → Prop} {size : Nat} {ps : List α} {cs c all : List Value} {p : α} (hp : R p c) (hc : c.length = size) (h : Reps R size ps cs) (ha : c ++ cs = all) : Reps R size (p :: ps) all := by
  subst ha
  refine ⟨by rw [List.length_append, hc, h.1, List.length_cons, Nat.succ_mul, Nat.add_comm], fun j q hq => ?_⟩
  cases j with
  | zero =>
    simp only [List.getElem?_cons_zero, Option.some.injEq] at hq
    subst hq
    rw [Nat.zero_mul, List.drop_zero, List.take_append_of_le_length (by omega), List.take_of_length_le (by omega)]
    exact hp
  | succ j =>
    simp only [List.getElem?_cons_succ] at hq
    have h1 := h.2 j q hq
    rw [Nat.succ_mul, List.drop_append, List.drop_of_length_le (by rw [hc]; exact Nat.le_add_left _ _), List.nil_append, hc, Nat.add_sub_cancel]
    exact h1
theorem Reps.c2 {α : Type} {R : α → List Value → Prop} {ps : List α} {cs : List Value} {p : α} {va vb : Value} (hp : R p [va, vb]) (h : Reps R 2 ps cs) : Reps R 2 (p :: ps) (va :: vb :: cs) := Reps.front hp rfl h rfl
theorem Reps.c10 {α : Type} {R : α → List Value → Prop} {ps : List α} {cs : List Value} {p : α} {va vb vc vd ve vf vg vh vi vj : Value} (hp : R p [va, vb, vc, vd, ve, vf, vg, vh, vi, vj]) (h : Reps R 10 ps cs) : Reps R 10 (p :: ps) (va :: vb :: vc :: vd :: ve :: vf :: vg :: vh :: vi :: vj :: cs) := Reps.front hp rfl h rfl
end Go.Proofs.YtenbgnlkkmnmhaaDoorW.PrintWords
end
/-! WInv -/
section
namespace Go.Proofs.YtenbgnlkkmnmhaaDoorW.PrintLast
/-- Number i is listed too. -/
def up (b : Nat → Bool) (i : Nat) : Nat → Bool := fun j => if j = i then true else b j
section
variable {P : Program} {ops : Array Oper} {Q : Exit → Act → World → Prop} {md : Region.Mode} {T : Bool × List (List Nat × List Nat)} {B : List Nat} {O : List Nat} {b : Nat → Bool} {i j n : Nat}
end
end Go.Proofs.YtenbgnlkkmnmhaaDoorW.PrintLast
end
/-! WInvWords -/
section
namespace Go.Proofs.YtenbgnlkkmnmhaaDoorW.PrintWords
open Go.RowKit
end Go.Proofs.YtenbgnlkkmnmhaaDoorW.PrintWords
namespace Go.Proofs.YtenbgnlkkmnmhaaDoorW.PrintLast
section
variable {ops : Array Oper} {a : Act} {o og : Oper} {g : Nat} {t : Tmp} {u : Bool}
end
end Go.Proofs.YtenbgnlkkmnmhaaDoorW.PrintLast
end
/-! WGuard -/
section
namespace Go.Proofs.YtenbgnlkkmnmhaaDoorW.PrintWords
open Go.RowKit
section
variable {P : Program} {ops : Array Oper} {rest : List Oper} {o : Oper} {a : Act} {Q : Exit → Act → World → Prop} {W : World}
end
end Go.Proofs.YtenbgnlkkmnmhaaDoorW.PrintWords
end
/-! WNEv -/
section
namespace Go.Proofs.YtenbgnlkkmnmhaaDoorW.PrintWords
open Go.RowKit
namespace Kd
section
variable {α : Type} {d : Kd α} {e base n cap g : Nat} {ok ok' okp : Nat → Prop} {w w1 W : World} {v v1 : Value} {xs ys : List α}
end
section
variable {P : Program} {ops : Array Oper} {rest : List Oper} {o : Oper} {a : Act} {Q : Exit → Act → World → Prop} {Kc : Act → World → Prop} {α : Type}
end
end Kd
end Go.Proofs.YtenbgnlkkmnmhaaDoorW.PrintWords
end
/-! WMore -/
section
namespace Go.Proofs.YtenbgnlkkmnmhaaDoorW.PrintMore
open Go.RowKit Go.Proofs.YtenbgnlkkmnmhaaDoorW.PrintWords
namespace Kd
open Go.Proofs.YtenbgnlkkmnmhaaDoorW.PrintWords.Kd
end Kd
namespace Kd
open Go.Proofs.YtenbgnlkkmnmhaaDoorW.PrintWords.Kd
section
variable {α : Type} {d : Kd α} {e base g N : Nat} {ok : Nat → Prop} {W w1 : World} {u v : Value} {xs : List α}
end
end Kd
/-- 'max' and 'min' of two whole numbers. -/
theorem max2_int (k k' : IntKind) (x y : Int) : Builtin.max2 (.int k x) (.int k' y) = pure (.int k (if x < y then y else x)) := by simp only [Builtin.max2, gt_iff_lt]
theorem min2_int (k k' : IntKind) (x y : Int) : Builtin.min2 (.int k x) (.int k' y) = pure (.int k (if y < x then y else x)) := by simp only [Builtin.min2]
theorem max_two (ats : Array TypeId) (ty : TypeId) (a b : Value) : Builtin.max_ ats ty #[a, b] = (Builtin.max2 a b >>= fun s => pure s) := by simp only [Builtin.max_, List.foldlM_cons, List.foldlM_nil]
theorem min_two (ats : Array TypeId) (ty : TypeId) (a b : Value) : Builtin.min_ ats ty #[a, b] = (Builtin.min2 a b >>= fun s => pure s) := by simp only [Builtin.min_, List.foldlM_cons, List.foldlM_nil]
theorem max_three (ats : Array TypeId) (ty : TypeId) (a b c : Value) : Builtin.max_ ats ty #[a, b, c] = (Builtin.max2 a b >>= fun s => Builtin.max2 s c >>= fun s => pure s) := by simp only [Builtin.max_, List.foldlM_cons, List.foldlM_nil]
theorem min_three (ats : Array TypeId) (ty : TypeId) (a b c : Value) : Builtin.min_ ats ty #[a, b, c] = (Builtin.min2 a b >>= fun s => Builtin.min2 s c >>= fun s => pure s) := by simp only [Builtin.min_, List.foldlM_cons, List.foldlM_nil]
theorem max_four (ats : Array TypeId) (ty : TypeId) (a b c d : Value) : Builtin.max_ ats ty #[a, b, c, d] = (Builtin.max2 a b >>= fun s => Builtin.max2 s c >>= fun s => Builtin.max2 s d >>= fun s => pure s) := by simp only [Builtin.max_, List.foldlM_cons, List.foldlM_nil]
theorem min_four (ats : Array TypeId) (ty : TypeId) (a b c d : Value) : Builtin.min_ ats ty #[a, b, c, d] = (Builtin.min2 a b >>= fun s => Builtin.min2 s c >>= fun s => Builtin.min2 s d >>= fun s => pure s) := by simp only [Builtin.min_, List.foldlM_cons, List.foldlM_nil]
end Go.Proofs.YtenbgnlkkmnmhaaDoorW.PrintMore
namespace Go.Proofs.YtenbgnlkkmnmhaaDoorW.PrintWords
open Go.RowKit
section
variable {P : Program} {ops : Array Oper} {rest : List Oper} {o : Oper} {a : Act} {Q : Exit → Act → World → Prop} {W : World}
end
namespace Kd
section
variable {α : Type} {d : Kd α} {e base : Nat} {ok : Nat → Prop} {W w1 : World} {v : Value} {xs : List α}
end
section
variable {α : Type} {d : Kd α} {e base g n cap : Nat} {ok oki okp : Nat → Prop} {W : World} {xs : List α} {i : Int} {c : List Value}
end
section
variable {α : Type} {d : Kd α} {e base b b' g N : Nat} {ok ok1 : Nat → Prop} {W W2 w1 : World} {u v : Value} {xs ys : List α} {S : Nat → Prop}
end
end Kd
end Go.Proofs.YtenbgnlkkmnmhaaDoorW.PrintWords
namespace Go.Proofs.YtenbgnlkkmnmhaaDoorW.PrintWords
open Go.RowKit
namespace Kd
/-- A row that is only read, told by its value: its form, its length, what it leads to (in ok). e and base say nothing; they make it as_ the others are. -/
def V {α : Type} (d : Kd α) (_e : Nat) (W : World) (_base : Nat) (ok : Nat → Prop) (v : Value) (xs : List α) : Prop := ∃ A c, v = .slice A xs.length c ∧ xs.length ≤ c ∧ F d W ok A xs.length xs
section
variable {α β : Type} {d : Kd α} {e base base' n m c g N' lo hi : Nat} {ok ok' S : Nat → Prop} {w W w1 : World} {A : Option Addr} {ad : Addr} {u v v1 : Value} {xs : List α}
end
end Kd
end Go.Proofs.YtenbgnlkkmnmhaaDoorW.PrintWords
end
/-! Px0 -/
section
namespace Go.Proofs.YtenbgnlkkmnmhaaDoor.P
open Go.RowKit Go.Proofs.YtenbgnlkkmnmhaaDoorW.PrintWords Go.Proofs.YtenbgnlkkmnmhaaDoorW.PrintLast Go.Proofs.YtenbgnlkkmnmhaaDoorW.PrintMore
attribute [local go_sem] max2_int min2_int max_two min_two max_three min_three max_four min_four   -- for this text's walks alone
set_option linter.unusedVariables false
set_option linter.unusedSimpArgs false
structure S34 where
  f0 : ByteArray
  f1 : Int
  f2 : ByteArray
def z34 : S34 := ⟨(⟨#[]⟩ : ByteArray), (0 : Int), (⟨#[]⟩ : ByteArray)⟩
structure S46 where
  f0 : ByteArray
  f1 : Int
  f2 : ByteArray
def z46 : S46 := ⟨(⟨#[]⟩ : ByteArray), (0 : Int), (⟨#[]⟩ : ByteArray)⟩
end Go.Proofs.YtenbgnlkkmnmhaaDoor.P
end
/-! M0 -/
section
namespace Go.Proofs.YtenbgnlkkmnmhaaDoor.Q
open Go.RowKit Go.Proofs.YtenbgnlkkmnmhaaDoor.P Go.Proofs.YtenbgnlkkmnmhaaDoorW.PrintWords
set_option maxRecDepth 100000
theorem hm : Tryd.prog.follows .mixedOrders = true := by kernel_rfl
abbrev LfL := S34
abbrev LfR := S46
def encL (x : LfL) : List Value := [.string x.f0, .int .i64 x.f1, .string x.f2]
def encR (x : LfR) : List Value := [.string x.f0, .int .i64 x.f1, .string x.f2]
def encS (x : ByteArray) : List Value := [.string x]
theorem encL_len (x : LfL) : (encL x).length = 3 := rfl
theorem encR_len (x : LfR) : (encR x).length = 3 := rfl
theorem encS_len (x : ByteArray) : (encS x).length = 1 := rfl
abbrev zL : LfL := z34
abbrev zR : LfR := z46
theorem zero34 : ∀ w, (zeroValue 34).run Tryd.prog w = .ok (.agg #[.string zL.f0, .int .i64 zL.f1, .string zL.f2]) w := fun w => by kernel_rfl
theorem zero4 : ∀ w, (zeroValue 4).run Tryd.prog w = .ok (.bool false) w := fun w => by kernel_rfl
theorem rec34 : recB Tryd.prog 34 3 = true := by kernel_rfl
theorem rec46 : recB Tryd.prog 46 3 = true := by kernel_rfl
theorem rec9 : recB Tryd.prog 9 1 = true := by kernel_rfl
theorem sz34 : (Tryd.prog.info? 34).map (·.size) = some 3 := by kernel_rfl
theorem sz46 : (Tryd.prog.info? 46).map (·.size) = some 3 := by kernel_rfl
theorem sz9 : (Tryd.prog.info? 9).map (·.size) = some 1 := by kernel_rfl
theorem fld34_0 (p : Addr) (w : World) : (Instr.fieldAt 34 (.pointer (some p)) 0).run Tryd.prog w = .ok (.pointer (some (p.add 0))) w := by kernel_rfl
theorem fld34_2 (p : Addr) (w : World) : (Instr.fieldAt 34 (.pointer (some p)) 2).run Tryd.prog w = .ok (.pointer (some (p.add 2))) w := by kernel_rfl
section
variable {P : Program} {Q : Exit → Act → World → Prop} {a : Act} {w : World} {o : Oper} {ops : Array Oper} {rest : List Oper} {K : Act → Prop} {C : World → Prop}
/-- a function's value called: a closure's variables come behind the arguments -/
theorem l_callV {f : FuncId} {fn : Func} {c : Call} {x : Operand} {args caps : Array Value} (R : Value → World → Prop) (hg : o.guard = none) (ho : o.op = .call c) (hc : c.callee = .value x) (hx : a.eval x = .func (.func f) #[] caps) (hf : P.funcs[f]? = some fn) (hn' : (fn.name == "runtime.NumGoroutine" || fn.body.isNone) = false)
    (ha : c.args.map a.eval = args) (hcall : Calls P f (args ++ caps) w fun e w' => ∃ v, e = .returned v ∧ R v w') (h : ∀ v w', R v w' → wpList P ops Q rest (a.put o.dst v) w') : wpList P ops Q (o :: rest) a w := by
  refine wpList_plain hg fun K hK => ?_
  have hrun : (execOp a.eval o).run P w = .ok (.enter f (args ++ caps)) w := by
    rw [Bool.or_eq_false_iff] at hn'
    unfold execOp
    have hpr : (program : Sem Program).run P w = .ok P w := rfl
    simp only [ho, resolve, hc, ha, hx, Deferred.ofValue, invoke, callFunc, Sem.run_bind, Sem.run_pure, Result.andThen_ok, hpr, hf, hn'.1, hn'.2, Array.empty_append]
    rfl
  unfold Oper.wp
  rw [hrun]
  exact hcall.mono fun e w' ⟨v, he, hR⟩ => by subst he; exact hK _ _ (h v w' hR)
theorem q_makeFunc {f : Fn} {x : Operand} {u : Value} (ho : o.op = .makeFunc f #[] #[x]) (hx : a.eval x = u) (hn : K (a.put o.dst (.func f #[] #[u]))) : o.quiet P a C K :=
  q_val _ (fun w _ => by
    unfold execOp
    simp [ho, hx, Instr.makeFunc]) hn
end
theorem calls_bool {P : Program} {f : FuncId} {args : Array Value} {w : World} {b c : Bool} {R : World → Prop} (h : Calls P f args w fun e w' => e = .returned (.bool b) ∧ R w') (e : b = c) : Calls P f args w fun e w' => e = .returned (.bool c) ∧ R w' := e ▸ h
/-- does a text begin with another one? -/
def prefB (s p : ByteArray) : Bool := if p.size ≤ s.size then (s.extract 0 p.size).toList == p.toList else false
/-- a row's leaves by their paths -/
def mapL (l : List LfL) : List (ByteArray × Value) := l.foldl (fun m x => mput m x.f0 (.agg #[.string x.f0, .int .i64 x.f1, .string x.f2])) []
theorem mapL_next (l : List LfL) (k : Nat) (h : k < l.length) : mput (mapL (l.take k)) (l.getD k zL).f0 (.agg #[.string (l.getD k zL).f0, .int .i64 (l.getD k zL).f1, .string (l.getD k zL).f2]) = mapL (l.take (k + 1)) := by
  unfold mapL
  have e : l.take (k + 1) = l.take k ++ [l.getD k zL] := by
    rw [List.take_succ_eq_append_getElem h]
    simp [List.getD_eq_getElem?_getD, h]
  rw [e, List.foldl_append]
  rfl
theorem beqS (a b : ByteArray) : (a.toList == b.toList) = decide (a = b) := by
  rw [Bool.eq_iff_iff, beq_iff_eq, decide_eq_true_iff]
  constructor
  · intro h
    have h1 : a.data.toList = b.data.toList := by simpa [ByteArray.toList_eq] using h
    cases a; cases b
    simp_all
  · rintro rfl; rfl
instance decL : DecidableEq LfL := fun x y => decidable_of_iff (x.f0 = y.f0 ∧ x.f1 = y.f1 ∧ x.f2 = y.f2) (by cases x; cases y; simp)
instance decR : DecidableEq LfR := fun x y => decidable_of_iff (x.f0 = y.f0 ∧ x.f1 = y.f1 ∧ x.f2 = y.f2) (by cases x; cases y; simp)
def eqLb (x y : LfL) : Bool := x.f0.toList == y.f0.toList && (x.f1 == y.f1 && (x.f2.toList == y.f2.toList))
def eqRb (x y : LfR) : Bool := x.f0.toList == y.f0.toList && (x.f1 == y.f1 && (x.f2.toList == y.f2.toList))
theorem eqLb_eq (x y : LfL) : eqLb x y = decide (x = y) := by
  unfold eqLb
  rw [beqS, beqS, Bool.eq_iff_iff]
  cases x; cases y
  simp
theorem eqRb_eq (x y : LfR) : eqRb x y = decide (x = y) := by
  unfold eqRb
  rw [beqS, beqS, Bool.eq_iff_iff]
  cases x; cases y
  simp
theorem eqL_true {x y : LfL} (h : x = y) : eqLb x y = true := by rw [eqLb_eq]; exact decide_eq_true h
theorem eqL_false {x y : LfL} (h : ¬ x = y) : eqLb x y = false := by rw [eqLb_eq]; exact decide_eq_false h
theorem neL_true {x y : LfL} (h : ¬ x = y) : (!eqLb x y) = true := by rw [eqL_false h]; rfl
theorem neL_false {x y : LfL} (h : x = y) : (!eqLb x y) = false := by rw [eqL_true h]; rfl
theorem eqR_true {x y : LfR} (h : x = y) : eqRb x y = true := by rw [eqRb_eq]; exact decide_eq_true h
theorem eqR_false {x y : LfR} (h : ¬ x = y) : eqRb x y = false := by rw [eqRb_eq]; exact decide_eq_false h
theorem neR_true {x y : LfR} (h : ¬ x = y) : (!eqRb x y) = true := by rw [eqR_false h]; rfl
theorem neR_false {x y : LfR} (h : x = y) : (!eqRb x y) = false := by rw [eqR_true h]; rfl
theorem eq34 (d : Nat) (x0 : ByteArray) (x1 : Int) (x2 y0 : ByteArray) (y1 : Int) (y2 : ByteArray) (w : World) : (Op.equalIn (d + 2) 34 (.agg #[.string x0, .int .i64 x1, .string x2]) (.agg #[.string y0, .int .i64 y1, .string y2])).run Tryd.prog w = .ok (x0.toList == y0.toList && (x1 == y1 && (x2.toList == y2.toList))) w :=
  eqA_of Tryd.underlying34 (by kernel_rfl) (eqf_cons rfl (by kernel_rfl) (by kernel_rfl) (run_equalIn_string w d _ x0 y0 Tryd.underlying9) (eqf_cons rfl (by kernel_rfl) (by kernel_rfl) (run_equalIn_int w d _ .i64 .i64 x1 y1 Tryd.underlying3) (eqf_last rfl (by kernel_rfl) (by kernel_rfl) (run_equalIn_string w d _ x2 y2 Tryd.underlying9))))
theorem eq46 (d : Nat) (x0 : ByteArray) (x1 : Int) (x2 y0 : ByteArray) (y1 : Int) (y2 : ByteArray) (w : World) : (Op.equalIn (d + 2) 46 (.agg #[.string x0, .int .i64 x1, .string x2]) (.agg #[.string y0, .int .i64 y1, .string y2])).run Tryd.prog w = .ok (x0.toList == y0.toList && (x1 == y1 && (x2.toList == y2.toList))) w :=
  eqA_of Tryd.underlying46 (by kernel_rfl) (eqf_cons rfl (by kernel_rfl) (by kernel_rfl) (run_equalIn_string w d _ x0 y0 Tryd.underlying9) (eqf_cons rfl (by kernel_rfl) (by kernel_rfl) (run_equalIn_int w d _ .i64 .i64 x1 y1 Tryd.underlying3) (eqf_last rfl (by kernel_rfl) (by kernel_rfl) (run_equalIn_string w d _ x2 y2 Tryd.underlying9))))
theorem guard34 : Tryd.prog.eqGuardType Tryd.prog.depth 34 = false := by kernel_rfl
theorem guard46 : Tryd.prog.eqGuardType Tryd.prog.depth 46 = false := by kernel_rfl
/-- the last leaf of a path -/
def findL (l : List LfL) (k : ByteArray) : LfL := l.foldl (fun r x => if x.f0 = k then x else r) zL
theorem look_mapL (l : List LfL) (k : ByteArray) : (mlook (mapL l) k).getD (.agg #[.string zL.f0, .int .i64 zL.f1, .string zL.f2]) = .agg #[.string (findL l k).f0, .int .i64 (findL l k).f1, .string (findL l k).f2] := by
  have key : ∀ (l : List LfL) (m : List (ByteArray × Value)) (r : LfL), (mlook m k).getD (.agg #[.string zL.f0, .int .i64 zL.f1, .string zL.f2]) = .agg #[.string r.f0, .int .i64 r.f1, .string r.f2] →
      (mlook (l.foldl (fun m x => mput m x.f0 (.agg #[.string x.f0, .int .i64 x.f1, .string x.f2])) m) k).getD (.agg #[.string zL.f0, .int .i64 zL.f1, .string zL.f2]) = .agg #[.string (l.foldl (fun r x => if x.f0 = k then x else r) r).f0, .int .i64 (l.foldl (fun r x => if x.f0 = k then x else r) r).f1, .string (l.foldl (fun r x => if x.f0 = k then x else r) r).f2] := by
    intro l
    induction l with
    | nil => intro m r h; exact h
    | cons x l ih =>
      intro m r h
      rw [List.foldl_cons, List.foldl_cons]
      refine ih _ _ ?_
      rw [mlook_put]
      by_cases hx : x.f0 = k
      · rw [if_pos hx, if_pos hx]; rfl
      · rw [if_neg hx, if_neg hx]; exact h
  exact key l [] zL rfl
end Go.Proofs.YtenbgnlkkmnmhaaDoor.Q
end
/-! Shelf -/
section
namespace Go.Proofs
open Go.Shelf
def Tryd.lays190_ren : Go.Shelf.Ren := ⟨fun | 190 => 15 | 125 => 25 | 258 => 24 | 128 => 41 | 129 => 42 | 302 => 32 | 303 => 33 | 304 => 34 | 305 => 35 | 306 => 36 | 307 => 37 | 308 => 38 | 309 => 39 | 310 => 40 | 333 => 47 | 329 => 48 | 330 => 49 | 334 => 50 | 335 => 51 | 336 => 52 | 344 => 61 | n => n, fun | 31 => 26 | 9 => 9 | 3 => 3 | 46 => 51 | 0 => 0 | 51 => 64 | 53 => 66 | 4 => 4 | 183 => 57 | 182 => 56 | 131 => 61 | 5 => 5 | 218 => 69 | 222 => 73 | 228 => 86 | 229 => 87 | n => n, fun | n => n⟩
theorem Tryd.lays190 : Go.Proofs.Lays.n190 Tryd.prog Tryd.lays190_ren := {
  mixed := by kernel_rfl
  f125 := Tryd.func25.trans (congrArg some (by kernel_rfl))
  f128 := Tryd.func41.trans (congrArg some (by kernel_rfl))
  f129 := Tryd.func42.trans (congrArg some (by kernel_rfl))
  f190 := Tryd.func15.trans (congrArg some (by kernel_rfl))
  f258 := Tryd.func24.trans (congrArg some (by kernel_rfl))
  f302 := Tryd.func32.trans (congrArg some (by kernel_rfl))
  f303 := Tryd.func33.trans (congrArg some (by kernel_rfl))
  f304 := Tryd.func34.trans (congrArg some (by kernel_rfl))
  f305 := Tryd.func35.trans (congrArg some (by kernel_rfl))
  f306 := Tryd.func36.trans (congrArg some (by kernel_rfl))
  f307 := Tryd.func37.trans (congrArg some (by kernel_rfl))
  f308 := Tryd.func38.trans (congrArg some (by kernel_rfl))
  f309 := Tryd.func39.trans (congrArg some (by kernel_rfl))
  f310 := Tryd.func40.trans (congrArg some (by kernel_rfl))
  f329 := Tryd.func48.trans (congrArg some (by kernel_rfl))
  f330 := Tryd.func49.trans (congrArg some (by kernel_rfl))
  f333 := Tryd.func47.trans (congrArg some (by kernel_rfl))
  f334 := Tryd.func50.trans (congrArg some (by kernel_rfl))
  f335 := Tryd.func51.trans (congrArg some (by kernel_rfl))
  f336 := Tryd.func52.trans (congrArg some (by kernel_rfl))
  f344 := Tryd.func61.trans (congrArg some (by kernel_rfl))
  t0 := Tryd.underlying0
  a0 := Tryd.isAgg0
  z0 := Tryd.sizeOf0
  v0 := Tryd.zeroValue0
  t3 := Tryd.underlying3
  a3 := Tryd.isAgg3
  z3 := Tryd.sizeOf3
  v3 := Tryd.zeroValue3
  t4 := Tryd.underlying4
  a4 := Tryd.isAgg4
  z4 := Tryd.sizeOf4
  v4 := Tryd.zeroValue4
  t5 := Tryd.underlying5
  a5 := Tryd.isAgg5
  z5 := Tryd.sizeOf5
  v5 := Tryd.zeroValue5
  t9 := Tryd.underlying9
  a9 := Tryd.isAgg9
  z9 := Tryd.sizeOf9
  v9 := Tryd.zeroValue9
  t31 := Tryd.underlying26
  a31 := Tryd.isAgg26
  z31 := Tryd.sizeOf26
  v31 := Tryd.zeroValue26
  t46 := Tryd.underlying51
  a46 := Tryd.isAgg51
  z46 := Tryd.sizeOf51
  v46 := Tryd.zeroValue51
  t51 := Tryd.underlying64
  a51 := Tryd.isAgg64
  z51 := Tryd.sizeOf64
  v51 := Tryd.zeroValue64
  t53 := Tryd.underlying66
  a53 := Tryd.isAgg66
  z53 := Tryd.sizeOf66
  v53 := Tryd.zeroValue66
  t131 := Tryd.underlying61
  a131 := Tryd.isAgg61
  z131 := Tryd.sizeOf61
  v131 := Tryd.zeroValue61
  t182 := Tryd.underlying56
  a182 := Tryd.isAgg56
  z182 := Tryd.sizeOf56
  v182 := Tryd.zeroValue56
  t183 := Tryd.underlying57
  a183 := Tryd.isAgg57
  z183 := Tryd.sizeOf57
  v183 := Tryd.zeroValue57
  t218 := Tryd.underlying69
  a218 := Tryd.isAgg69
  z218 := Tryd.sizeOf69
  v218 := Tryd.zeroValue69
  t222 := Tryd.underlying73
  a222 := Tryd.isAgg73
  z222 := Tryd.sizeOf73
  v222 := Tryd.zeroValue73
  t228 := Tryd.underlying86
  a228 := Tryd.isAgg86
  z228 := Tryd.sizeOf86
  v228 := Tryd.zeroValue86
  t229 := Tryd.underlying87
  a229 := Tryd.isAgg87
  z229 := Tryd.sizeOf87
  v229 := Tryd.zeroValue87 }
def Tryd.lays194_ren : Go.Shelf.Ren := ⟨fun | 194 => 16 | n => n, fun | 31 => 26 | 9 => 9 | 3 => 3 | 4 => 4 | 0 => 0 | n => n, fun | n => n⟩
theorem Tryd.lays194 : Go.Proofs.Lays.n194 Tryd.prog Tryd.lays194_ren := {
  mixed := by kernel_rfl
  f194 := Tryd.func16.trans (congrArg some (by kernel_rfl))
  t0 := Tryd.underlying0
  a0 := Tryd.isAgg0
  z0 := Tryd.sizeOf0
  v0 := Tryd.zeroValue0
  t3 := Tryd.underlying3
  a3 := Tryd.isAgg3
  z3 := Tryd.sizeOf3
  v3 := Tryd.zeroValue3
  t4 := Tryd.underlying4
  a4 := Tryd.isAgg4
  z4 := Tryd.sizeOf4
  v4 := Tryd.zeroValue4
  t9 := Tryd.underlying9
  a9 := Tryd.isAgg9
  z9 := Tryd.sizeOf9
  v9 := Tryd.zeroValue9
  t31 := Tryd.underlying26
  a31 := Tryd.isAgg26
  z31 := Tryd.sizeOf26
  v31 := Tryd.zeroValue26 }
def Tryd.lays146_ren : Go.Shelf.Ren := ⟨fun | 146 => 20 | 221 => 28 | 268 => 43 | 138 => 44 | 143 => 45 | 195 => 53 | 197 => 54 | 218 => 55 | 219 => 56 | 260 => 62 | 217 => 63 | 225 => 64 | 224 => 65 | 267 => 66 | 266 => 69 | 314 => 70 | n => n, fun | 9 => 9 | 31 => 26 | 3 => 3 | 4 => 4 | 0 => 0 | 105 => 76 | 21 => 21 | 5 => 5 | 46 => 51 | 119 => 92 | 139 => 95 | 138 => 94 | 146 => 96 | 51 => 64 | n => n, fun | 1 => 0 | 3 => 1 | 4 => 2 | n => n⟩
theorem Tryd.lays146 : Go.Proofs.Lays.n146 Tryd.prog Tryd.lays146_ren := {
  mixed := by kernel_rfl
  f138 := Tryd.func44.trans (congrArg some (by kernel_rfl))
  f143 := Tryd.func45.trans (congrArg some (by kernel_rfl))
  f146 := Tryd.func20.trans (congrArg some (by kernel_rfl))
  f195 := Tryd.func53.trans (congrArg some (by kernel_rfl))
  f197 := Tryd.func54.trans (congrArg some (by kernel_rfl))
  f217 := Tryd.func63.trans (congrArg some (by kernel_rfl))
  f218 := Tryd.func55.trans (congrArg some (by kernel_rfl))
  f219 := Tryd.func56.trans (congrArg some (by kernel_rfl))
  f221 := Tryd.func28.trans (congrArg some (by kernel_rfl))
  f224 := Tryd.func65.trans (congrArg some (by kernel_rfl))
  f225 := Tryd.func64.trans (congrArg some (by kernel_rfl))
  f260 := Tryd.func62.trans (congrArg some (by kernel_rfl))
  f266 := Tryd.func69.trans (congrArg some (by kernel_rfl))
  f267 := Tryd.func66.trans (congrArg some (by kernel_rfl))
  f268 := Tryd.func43.trans (congrArg some (by kernel_rfl))
  f314 := Tryd.func70.trans (congrArg some (by kernel_rfl))
  t0 := Tryd.underlying0
  a0 := Tryd.isAgg0
  z0 := Tryd.sizeOf0
  v0 := Tryd.zeroValue0
  t3 := Tryd.underlying3
  a3 := Tryd.isAgg3
  z3 := Tryd.sizeOf3
  v3 := Tryd.zeroValue3
  t4 := Tryd.underlying4
  a4 := Tryd.isAgg4
  z4 := Tryd.sizeOf4
  v4 := Tryd.zeroValue4
  t5 := Tryd.underlying5
  a5 := Tryd.isAgg5
  z5 := Tryd.sizeOf5
  v5 := Tryd.zeroValue5
  t9 := Tryd.underlying9
  a9 := Tryd.isAgg9
  z9 := Tryd.sizeOf9
  v9 := Tryd.zeroValue9
  t21 := Tryd.underlying21
  a21 := Tryd.isAgg21
  z21 := Tryd.sizeOf21
  v21 := Tryd.zeroValue21
  t31 := Tryd.underlying26
  a31 := Tryd.isAgg26
  z31 := Tryd.sizeOf26
  v31 := Tryd.zeroValue26
  t46 := Tryd.underlying51
  a46 := Tryd.isAgg51
  z46 := Tryd.sizeOf51
  v46 := Tryd.zeroValue51
  t51 := Tryd.underlying64
  a51 := Tryd.isAgg64
  z51 := Tryd.sizeOf64
  v51 := Tryd.zeroValue64
  t105 := Tryd.underlying76
  a105 := Tryd.isAgg76
  z105 := Tryd.sizeOf76
  v105 := Tryd.zeroValue76
  t119 := Tryd.underlying92
  a119 := Tryd.isAgg92
  z119 := Tryd.sizeOf92
  t138 := Tryd.underlying94
  a138 := Tryd.isAgg94
  z138 := Tryd.sizeOf94
  v138 := Tryd.zeroValue94
  t139 := Tryd.underlying95
  a139 := Tryd.isAgg95
  z139 := Tryd.sizeOf95
  v139 := Tryd.zeroValue95
  t146 := Tryd.underlying96
  a146 := Tryd.isAgg96
  z146 := Tryd.sizeOf96
  v146 := Tryd.zeroValue96
  g1 := by kernel_rfl
  g3 := by kernel_rfl
  g4 := by kernel_rfl }
def Tryd.lays150_ren : Go.Shelf.Ren := ⟨fun | 150 => 31 | 153 => 46 | 152 => 57 | 226 => 58 | 227 => 59 | 228 => 60 | 137 => 67 | 119 => 68 | 224 => 65 | 225 => 64 | 217 => 63 | 266 => 69 | n => n, fun | 9 => 9 | 4 => 4 | 3 => 3 | 5 => 5 | 21 => 21 | 117 => 83 | 116 => 82 | 0 => 0 | 46 => 51 | 124 => 91 | n => n, fun | n => n⟩
theorem Tryd.lays150 : Go.Proofs.Lays.n150 Tryd.prog Tryd.lays150_ren := {
  mixed := by kernel_rfl
  f119 := Tryd.func68.trans (congrArg some (by kernel_rfl))
  f137 := Tryd.func67.trans (congrArg some (by kernel_rfl))
  f150 := Tryd.func31.trans (congrArg some (by kernel_rfl))
  f152 := Tryd.func57.trans (congrArg some (by kernel_rfl))
  f153 := Tryd.func46.trans (congrArg some (by kernel_rfl))
  f217 := Tryd.func63.trans (congrArg some (by kernel_rfl))
  f224 := Tryd.func65.trans (congrArg some (by kernel_rfl))
  f225 := Tryd.func64.trans (congrArg some (by kernel_rfl))
  f226 := Tryd.func58.trans (congrArg some (by kernel_rfl))
  f227 := Tryd.func59.trans (congrArg some (by kernel_rfl))
  f228 := Tryd.func60.trans (congrArg some (by kernel_rfl))
  f266 := Tryd.func69.trans (congrArg some (by kernel_rfl))
  t0 := Tryd.underlying0
  a0 := Tryd.isAgg0
  z0 := Tryd.sizeOf0
  v0 := Tryd.zeroValue0
  t3 := Tryd.underlying3
  a3 := Tryd.isAgg3
  z3 := Tryd.sizeOf3
  v3 := Tryd.zeroValue3
  t4 := Tryd.underlying4
  a4 := Tryd.isAgg4
  z4 := Tryd.sizeOf4
  v4 := Tryd.zeroValue4
  t5 := Tryd.underlying5
  a5 := Tryd.isAgg5
  z5 := Tryd.sizeOf5
  v5 := Tryd.zeroValue5
  t9 := Tryd.underlying9
  a9 := Tryd.isAgg9
  z9 := Tryd.sizeOf9
  v9 := Tryd.zeroValue9
  t21 := Tryd.underlying21
  a21 := Tryd.isAgg21
  z21 := Tryd.sizeOf21
  v21 := Tryd.zeroValue21
  t46 := Tryd.underlying51
  a46 := Tryd.isAgg51
  z46 := Tryd.sizeOf51
  v46 := Tryd.zeroValue51
  t116 := Tryd.underlying82
  a116 := Tryd.isAgg82
  z116 := Tryd.sizeOf82
  t117 := Tryd.underlying83
  a117 := Tryd.isAgg83
  z117 := Tryd.sizeOf83
  v117 := Tryd.zeroValue83
  t124 := Tryd.underlying91
  a124 := Tryd.isAgg91
  z124 := Tryd.sizeOf91
  v124 := Tryd.zeroValue91 }
end Go.Proofs
end
/-! M1 -/
section
namespace Go.Proofs.YtenbgnlkkmnmhaaDoor.Q
open Go.RowKit Go.Sort Go.Lib
set_option maxRecDepth 100000
abbrev toL (s : ByteArray) : List UInt8 := s.data.toList
abbrev ofL (l : List UInt8) : ByteArray := ⟨l.toArray⟩
def sortB (l : List ByteArray) : List ByteArray := ((l.map toL).mergeSort fun x y => decide (x ≤ y)).map ofL
def compB (l : List ByteArray) : List ByteArray := (compactUpTo (l.map toL).toArray l.length).map ofL
theorem flat_encS (l : List ByteArray) : (l.map encS).flatten = l.map Value.string := by
  induction l with
  | nil => rfl
  | cons x l ih => rw [List.map_cons, List.flatten_cons, ih]; rfl
theorem sortB_len (l : List ByteArray) : (sortB l).length = l.length := by simp [sortB]
theorem enc_ofL (l : List (List UInt8)) : l.map encStr = (l.map ofL).map Value.string := by simp
theorem sort_calls {B : Nat} (v : Value) (l : List ByteArray) (w : World) (hln : l.length ≤ 1000000) (hv : OwnF w B 9 1 v l.length (l.map encS).flatten) : Calls Tryd.prog 15 #[v] w fun e w' =>
    e = .returned (.tuple #[]) ∧ OwnF w' B 9 1 v (sortB l).length ((sortB l).map encS).flatten ∧ GrW B 9 v w w' := by
  have h0 := hv
  rcases hv.2 with ⟨rfl, hl⟩ | ⟨g, cap, cur, rfl, hg, hh, hn, hm, hc, ht⟩
  · obtain rfl : l = [] := List.eq_nil_of_length_eq_zero hl
    refine (Any.slices_Sort_string_none Tryd.lays190 none 0 w).mono fun e w' ⟨he, hw⟩ => ⟨he, ?_⟩
    subst hw
    have e1 : sortB [] = [] := List.eq_nil_of_length_eq_zero (by rw [sortB_len]; rfl)
    rw [e1]
    exact ⟨OwnF.nil _ _ _ _, ⟨rfl, rfl, rfl, Nat.le_refl _, fun _ _ _ => rfl, fun k hk => by simp [Value.ownBlock] at hk⟩⟩
  · have ht2 : cur.toList.take (l.map toL).length = (l.map toL).map encStr := by
      rw [List.length_map, enc_ofL, ← Nat.mul_one l.length, ht, flat_encS]
      simp
    have hs := Any.slices_Sort_string Tryd.lays190 g 0 cap (l.map toL) w (ownF_holds encStr _ hh ht2) (heap_lt hh) (by rw [List.length_map]; omega)
    rw [List.length_map] at hs
    refine hs.mono fun e w' ⟨he, n, os, hw⟩ => ⟨he, ?_⟩
    subst hw
    obtain ⟨r1, r2⟩ := ownF_put (q := n) (os := os) (n := l.length) encStr ((l.map toL).mergeSort fun x y => decide (x ≤ y)) hg hh hn hm (by simpa using hc) (by simp)
    refine ⟨r1.cast (sortB_len l).symm ?_, r2⟩
    rw [flat_encS, enc_ofL]
    rfl
theorem compact_len {α : Type} [DecidableEq α] [Inhabited α] (d : Array α) (m : Nat) : (compactUpTo d m).length ≤ m := by
  unfold compactUpTo
  rw [List.length_map]
  exact Nat.le_trans (List.length_filter_le _ _) (by simp)
theorem compact_calls {B : Nat} (v : Value) (l : List ByteArray) (w : World) (hv : OwnF w B 9 1 v l.length (l.map encS).flatten) : Calls Tryd.prog 16 #[v] w fun e w' =>
    ∃ v', e = .returned v' ∧ OwnF w' B 9 1 v' (compB l).length ((compB l).map encS).flatten ∧ GrW B 9 v w w' := by
  have h0 := hv
  rcases hv.2 with ⟨rfl, hl⟩ | ⟨g, cap, cur, rfl, hg, hh, hn, hm, hc, ht⟩
  · obtain rfl : l = [] := List.eq_nil_of_length_eq_zero hl
    refine (Any.slices_Compact_string_empty Tryd.lays194 none 0 w).mono fun e w' ⟨he, hw⟩ => ⟨_, he, ?_⟩
    obtain ⟨q, rfl⟩ := hw
    exact ⟨OwnF.nil _ _ _ _, ⟨rfl, rfl, rfl, Nat.le_refl _, fun _ _ _ => rfl, fun k hk => by simp [Value.ownBlock] at hk⟩⟩
  · have ht2 : cur.toList.take (l.map toL).length = (l.map toL).map encStr := by
      rw [List.length_map, enc_ofL, ← Nat.mul_one l.length, ht, flat_encS]
      simp
    have hd : (l.map toL).toArray.size = l.length := by simp
    have hs := Any.slices_Compact_string_arr Tryd.lays194 g 0 cap (l.map toL).toArray w (ownF_holds encStr _ hh ht2) (by rw [hd]; simp only [maxLen] at hm; omega) (by rw [hd]; exact hn)
    rw [hd] at hs
    have hle : (compactUpTo (l.map toL).toArray l.length).length ≤ l.length := compact_len _ _
    refine hs.mono fun e w' ⟨he, q, hw⟩ => ⟨_, he, ?_⟩
    subst hw
    generalize hk : compactUpTo (l.map toL).toArray l.length = k at *
    obtain ⟨r1, r2⟩ := ownF_put (q := q) (os := #[]) (n := l.length) encStr (k ++ List.replicate (l.length - k.length) []) hg hh hn hm (by simpa using hc) (by simp; omega)
    have hw0 : ∀ w : World, grow w #[] = w := fun w => by simp [grow]
    rw [hw0] at r1 r2
    have hcb : compB l = k.map ofL := by unfold compB; rw [hk]
    rcases r1.2 with ⟨hx, _⟩ | ⟨g', cap', cur', hx, hg', hh', hn', hm', hc', ht'⟩
    · cases hx
    · cases hx
      refine ⟨⟨by rw [flat_encS]; simp, .inr ⟨g, cap, cur', by rw [hcb, List.length_map], hg, hh', by rw [hcb, List.length_map]; omega, hm, hc', ?_⟩⟩, ⟨r2.os, r2.tape, r2.output, r2.size, r2.block, r2.old⟩⟩
      rw [Nat.mul_one] at ht' ⊢
      rw [hcb, List.length_map, flat_encS, ← enc_ofL]
      have h3 := congrArg (List.take k.length) ht'
      rw [List.take_take, Nat.min_eq_left hle, List.map_append, List.take_append_of_le_length (by simp)] at h3
      rw [h3, List.take_of_length_le (by simp)]
end Go.Proofs.YtenbgnlkkmnmhaaDoor.Q
end
/-! M2 -/
section
namespace Go.Proofs.YtenbgnlkkmnmhaaDoor.Q
open Go.RowKit
set_option linter.unusedSimpArgs false
theorem strT {a b : ByteArray} (h : a = b) : (a.toList == b.toList) = true := by rw [beqS]; exact decide_eq_true h
theorem strF {a b : ByteArray} (h : ¬ a = b) : (a.toList == b.toList) = false := by rw [beqS]; exact decide_eq_false h
theorem getD_next {α : Type} (l : List α) (k : Nat) (d : α) (h : k < l.length) : l.take (k + 1) = l.take k ++ [l.getD k d] := by
  rw [List.take_succ_eq_append_getElem h]
  simp [List.getD_eq_getElem?_getD, h]
def toR (x : LfL) : LfR := ⟨x.f0, x.f1, x.f2⟩
theorem ofN_next (l : List LfL) (k : Nat) (h : k < l.length) : (l.take k).map toR ++ [toR (l.getD k zL)] = (l.take (k + 1)).map toR := by rw [getD_next l k zL h]; simp
def idxF (l : List LfL) (p : LfL → Bool) : Int := if l.findIdx p < l.length then (l.findIdx p : Int) else -1
theorem idxF_any (l : List LfL) (p : LfL → Bool) : decide (idxF l p ≥ 0) = l.any p := by
  unfold idxF
  rw [Bool.eq_iff_iff, decide_eq_true_iff, List.any_eq_true]
  constructor
  · intro h
    split at h
    · rename_i h1; exact List.findIdx_lt_length.1 h1
    · omega
  · intro h
    rw [if_pos (List.findIdx_lt_length.2 h)]
    omega
theorem idxF_at {l : List LfL} {p : LfL → Bool} (h : l.findIdx p < l.length) : p (l.getD (l.findIdx p) zL) = true := by
  have := List.findIdx_getElem (w := h)
  rw [List.getD_eq_getElem?_getD, List.getElem?_eq_getElem h]
  exact this
theorem idxF_round {l : List LfL} {p : LfL → Bool} (i : Nat) (h : i < l.findIdx p) : p (l.getD i zL) = false := by
  have h1 : i < l.length := Nat.lt_of_lt_of_le h List.findIdx_le_length
  have := List.not_of_lt_findIdx h
  rw [List.getD_eq_getElem?_getD, List.getElem?_eq_getElem h1]
  simpa using this
def fdiff {α : Type} [DecidableEq α] (a b : List α) (d : α) : Nat := (List.range a.length).findIdx fun i => decide (¬ a.getD i d = b.getD i d)
theorem fdiff_le {α : Type} [DecidableEq α] (a b : List α) (d : α) : fdiff a b d ≤ a.length := by
  have := List.findIdx_le_length (xs := List.range a.length) (p := fun i => decide (¬ a.getD i d = b.getD i d))
  rwa [List.length_range] at this
theorem fdiff_round {α : Type} [DecidableEq α] {a b : List α} {d : α} {i : Nat} (h : i < fdiff a b d) : a.getD i d = b.getD i d := by
  have h1 := List.not_of_lt_findIdx h
  rw [List.getElem_range] at h1
  simpa using h1
theorem fdiff_stop {α : Type} [DecidableEq α] {a b : List α} {d : α} (h : fdiff a b d < a.length) : ¬ a.getD (fdiff a b d) d = b.getD (fdiff a b d) d := by
  have h1 : decide (¬ a.getD ((List.range a.length)[fdiff a b d]'(by rw [List.length_range]; exact h)) d = b.getD ((List.range a.length)[fdiff a b d]'(by rw [List.length_range]; exact h)) d) = true := List.findIdx_getElem (w := by rw [List.length_range]; exact h)
  rw [List.getElem_range] at h1
  exact of_decide_eq_true h1
theorem fdiff_eq {α : Type} [DecidableEq α] {a b : List α} {d : α} (hl : a.length = b.length) (h : ¬ fdiff a b d < a.length) : a = b := by
  apply List.ext_getElem hl
  intro i h1 h2
  have := fdiff_round (a := a) (b := b) (d := d) (i := i) (by omega)
  rw [List.getD_eq_getElem?_getD, List.getD_eq_getElem?_getD, List.getElem?_eq_getElem h1, List.getElem?_eq_getElem h2] at this
  exact this
theorem fdiff_ne {α : Type} [DecidableEq α] {a b : List α} {d : α} (h : fdiff a b d < a.length) : ¬ a = b := by
  rintro rfl
  exact fdiff_stop h rfl
def slash : ByteArray := ⟨#[47]⟩
def within (s d : ByteArray) : Bool := if h : d.size < s.size then decide (s.extract 0 d.size = d) && decide (((s[d.size]'(by omega)).toNat : Int) = 47) else false
def fewAt (l : List LfL) (i : Nat) : Prop := i < 60 ∧ (l.getD i zL).f0.size ≤ 400 ∧ (l.getD i zL).f2.size ≤ 100
instance fewDec (l : List LfL) (i : Nat) : Decidable (fewAt l i) := by unfold fewAt; infer_instance
def fewN (l : List LfL) : Nat := (List.range l.length).findIdx fun i => decide (¬ fewAt l i)
theorem fewN_le (l : List LfL) : fewN l ≤ l.length := by
  have := List.findIdx_le_length (xs := List.range l.length) (p := fun i => decide (¬ fewAt l i))
  rwa [List.length_range] at this
theorem fewN_round {l : List LfL} {i : Nat} (h : i < fewN l) : fewAt l i := by
  have h1 := List.not_of_lt_findIdx h
  rw [List.getElem_range] at h1
  simpa using h1
theorem fewN_stop {l : List LfL} (h : fewN l < l.length) : ¬ fewAt l (fewN l) := by
  have h1 : decide (¬ fewAt l ((List.range l.length)[fewN l]'(by rw [List.length_range]; exact h))) = true := List.findIdx_getElem (w := by rw [List.length_range]; exact h)
  rw [List.getElem_range] at h1
  exact of_decide_eq_true h1
def fewB (l : List LfL) : Bool := !decide (fewN l < l.length)
theorem fewN_60 (l : List LfL) : fewN l ≤ 60 := by
  rcases Nat.lt_or_ge 60 (fewN l) with h | h
  · exact absurd (fewN_round h).1 (by omega)
  · exact h
def cutP (l : List ByteArray) (p : ByteArray) : Nat := l.findIdx fun q => !lessB q p
theorem cutP_le (l : List ByteArray) (p : ByteArray) : cutP l p ≤ l.length := List.findIdx_le_length
theorem cutP_round {l : List ByteArray} {p : ByteArray} {k : Nat} (h : k < cutP l p) : lessB (l.getD k ByteArray.empty) p = true := by
  have h1 : k < l.length := Nat.lt_of_lt_of_le h (cutP_le l p)
  have := List.not_of_lt_findIdx h
  simpa [List.getD_eq_getElem?_getD, h1] using this
theorem cutP_stop {l : List ByteArray} {p : ByteArray} (h : cutP l p < l.length) : lessB (l.getD (cutP l p) ByteArray.empty) p = false := by
  have this : (!lessB (l[cutP l p]) p) = true := List.findIdx_getElem (w := h)
  rw [List.getD_eq_getElem?_getD, List.getElem?_eq_getElem h]
  rw [Bool.not_eq_true'] at this
  exact this
def insP (l : List ByteArray) (p : ByteArray) : List ByteArray := if cutP l p < l.length ∧ l.getD (cutP l p) ByteArray.empty = p then l else l.take (cutP l p) ++ [p] ++ l.drop (cutP l p)
theorem flat_take_len {α : Type} : ∀ (L : List (List α)) (k m : Nat), k < L.length → ((L.take k).flatten ++ (L.getD k []).take m).length ≤ L.flatten.length
  | [], _, _, h => absurd h (by simp)
  | x :: L, 0, m, _ => by simp; omega
  | x :: L, k + 1, m, h => by
    have := flat_take_len L k m (by simpa using h)
    simp only [List.take_succ_cons, List.flatten_cons, List.getD_cons_succ, List.length_append] at this ⊢
    omega
theorem row_len {α : Type} : ∀ (L : List (List α)) (k n : Nat), k < L.length → L.flatten.length ≤ n → (L.getD k []).length ≤ n
  | [], _, _, h, _ => absurd h (by simp)
  | x :: L, 0, n, _, h => by simp at h ⊢; omega
  | x :: L, k + 1, n, hk, h => by
    rw [List.getD_cons_succ]
    exact row_len L k n (by simpa using hk) (by simp at h ⊢; omega)
end Go.Proofs.YtenbgnlkkmnmhaaDoor.Q
end
/-! E1 -/
section
namespace Go.Proofs.YtenbgnlkkmnmhaaDoor.Q
open Go.RowKit Go.Proofs.YtenbgnlkkmnmhaaDoor.P
open Go.Proofs.YtenbgnlkkmnmhaaDoorW.PrintWords (bytesOf bytesOf_length)
set_option linter.unusedVariables false
set_option linter.unusedSimpArgs false
set_option maxRecDepth 100000
set_option maxHeartbeats 4000000
attribute [local irreducible] wpList wpQuiet qch Code.wp Oper.quiet Act.put At Region.wanted yielded
theorem Rows.calls (v : Value) (l : List LfL) (hl : l.length ≤ 1000000) (w0 : World) (hv : RdF w0 3 v l.length (l.map encL).flatten) : Calls Tryd.prog 14 #[v] w0 fun e w' => ∃ x, e = .returned x ∧ ∃ g, x = .map (some g) ∧ w0.heap.size ≤ g ∧ MapIs w' g (mapL l) ∧ Low w0 w' := by
  refine c_fun (R := _) Tryd.func14 rfl 19 rfl (Nat.le_of_ble_eq_true rfl) ?_
  intro a z hA
  have s0 := hA 0 _ rfl
  clear hA
  refine c_seq ?_
  refine c_region ?_
  refine l_q rfl (q_assign _ _ rfl rfl ?_)
  refine l_end ?_
  refine e_fresh z.put ?_
  intro a1 z1 m1
  have s0_1 := m1 _ _ (s0.ne rfl)
  clear m1
  refine e_then ?_
  refine c_seq ?_
  refine c_region ?_
  refine l_makeMap rfl rfl ?_
  intro g6_2 w2 hg2 k2 h2
  have geg6_2 := Nat.le_trans (Low.refl _).ge hg2
  have ov_2 := hv.low h2
  refine l_q rfl (q_assign _ _ rfl (At.hit z1 rfl).ev ?_)
  refine l_end ?_
  refine e_fresh z1.put.put ?_
  intro a3 z3 m3
  have s0_3 := m3 _ _ ((s0_1.ne rfl).ne rfl)
  have s3_3 := m3 _ _ (At.hit z1.put rfl)
  have low3 := h2
  clear m3
  refine e_then ?_
  refine c_seq ?_
  refine c_seq ?_
  refine c_region ?_
  refine l_q rfl (q_move _ _ rfl s0_3.ev ?_)
  refine l_q rfl (q_lenF rfl rfl Tryd.underlying22 (At.hit z3 rfl).ev ov_2 ?_)
  refine l_q rfl (q_move _ _ rfl rfl ?_)
  refine l_end ?_
  refine e_fresh z3.put.put.put ?_
  intro a4 z4 m4
  have s3_4 := m4 _ _ (((s3_3.ne rfl).ne rfl).ne rfl)
  have s7_4 := m4 _ _ (((At.hit z3 rfl).ne rfl).ne rfl)
  have s8_4 := m4 _ _ ((At.hit z3.put rfl).ne rfl)
  have s9_4 := m4 _ _ (At.hit z3.put.put rfl)
  clear m4
  refine e_then ?_
  refine wp_block ?_
  refine c_loop l.length (fun k a w => Fr 19 a ∧ At a 3 (.map (some g6_2)) ∧ At a 7 (v) ∧ At a 8 (.int .i64 ((l.length : Nat) : Int)) ∧ At a 9 (.int .i64 ((k : Nat) : Int)) ∧ MapIs w g6_2 (mapL (l.take k)) ∧ Low w0 w) ?_ ?_ ?_
  · exact ⟨z4, s3_4, s7_4, s8_4, s9_4, k2, low3⟩
  · intro k a5 w5 hk5 h
    obtain ⟨z5, s3_5, s7_5, s8_5, s9_5, kg6_2_5, low5⟩ := h
    clear k2 low3 s3_4 s7_4 s8_4 s9_4 z4
    refine c_seq ?_
    refine c_region ?_
    refine l_q rfl (q_lss true rfl s9_5.ev s8_5.ev (decide_eq_true (by omega)) ?_)
    refine l_end ?_
    refine e_fresh z5.put ?_
    intro a6 z6 m6
    have s3_6 := m6 _ _ (s3_5.ne rfl)
    have s7_6 := m6 _ _ (s7_5.ne rfl)
    have s8_6 := m6 _ _ (s8_5.ne rfl)
    have s9_6 := m6 _ _ (s9_5.ne rfl)
    have s10_6 := m6 _ _ (At.hit z5 rfl)
    clear m6
    refine e_then ?_
    refine c_seq ?_
    refine c_true s10_6 ?_
    refine wp_skip ?_
    refine e_then ?_
    refine c_seq ?_
    refine wp_block ?_
    refine c_seq ?_
    refine c_region ?_
    refine l_q rfl (q_idxF (j := k) rfl Tryd.underlying22 sz34 s7_6.ev (hv.low low5) s9_6.ev (by omega) ?_)
    refine l_q rfl (q_ldR (vs := [.string ((l.getD k zL).f0), .int .i64 ((l.getD k zL).f1), .string ((l.getD k zL).f2)]) rfl Tryd.underlying34 rfl sz34 (At.hit z6 rfl).ev (fun _ e => by rw [e]; exact (hv.low low5)) (by omega) rfl (flat_part encL_len zL _ k (by omega)) ?_)
    refine l_alloc rfl rfl zero34 ?_
    intro g5 w7 hg7 k7 h7
    have lt_g6_2_g5 := Nat.lt_of_lt_of_le kg6_2_5.lt hg7
    have geg5 := Nat.le_trans low5.ge hg7
    have kg6_2_7 := kg6_2_5.low h7
    have ov_7 := (hv.low low5).low h7
    refine l_row rfl rfl rfl (sz34.trans (congrArg some rfl.symm)) (At.hit z6.put.put rfl).ev ((At.hit z6.put rfl).ne rfl).ev (by simp [Value.oneCell']) k7 (rfl.trans rfl.symm) ?_
    intro w8 k8 u8
    have kg6_2_8 := kg6_2_7.upd u8 (by omega)
    refine l_end ?_
    refine e_fresh z6.put.put.put ?_
    intro a9 z9 m9
    have s3_9 := m9 _ _ (((s3_6.ne rfl).ne rfl).ne rfl)
    have s5_9 := m9 _ _ (At.hit z6.put.put rfl)
    have s7_9 := m9 _ _ (((s7_6.ne rfl).ne rfl).ne rfl)
    have s8_9 := m9 _ _ (((s8_6.ne rfl).ne rfl).ne rfl)
    have s9_9 := m9 _ _ (((s9_6.ne rfl).ne rfl).ne rfl)
    have low9 := ((low5.trans h7).upd u8 geg5)
    clear m9
    refine e_then ?_
    refine c_region ?_
    refine l_q rfl (q_move _ _ rfl s3_9.ev ?_)
    refine l_q rfl (q_fld 0 rfl (by kernel_rfl) (s5_9.ne rfl).ev ?_)
    refine l_q rfl (q_cellT (.string ((l.getD k zL).f0)) rfl Tryd.underlying9 (At.hit z9.put rfl).ev (fun _ e => by rw [e]; exact (cells_at k8 0).trans rfl) ?_)
    refine l_q rfl (q_row rfl Tryd.underlying34 rfl (sz34.trans (congrArg some rfl.symm)) (((s5_9.ne rfl).ne rfl).ne rfl).ev (fun _ e => by rw [e]; exact k8) ?_)
    refine l_mapPut rfl rfl rfl Tryd.underlying39 Tryd.underlying9 ((((At.hit z9 rfl).ne rfl).ne rfl).ne rfl).ev ((At.hit z9.put.put rfl).ne rfl).ev (At.hit z9.put.put.put rfl).ev kg6_2_8 ?_
    intro w10 k10 u10
    have kg5_10 := u10.blk k8 (by omega)
    refine l_end ?_
    refine e_fresh z9.put.put.put.put ?_
    intro a11 z11 m11
    have s3_11 := m11 _ _ ((((s3_9.ne rfl).ne rfl).ne rfl).ne rfl)
    have s7_11 := m11 _ _ ((((s7_9.ne rfl).ne rfl).ne rfl).ne rfl)
    have s8_11 := m11 _ _ ((((s8_9.ne rfl).ne rfl).ne rfl).ne rfl)
    have s9_11 := m11 _ _ ((((s9_9.ne rfl).ne rfl).ne rfl).ne rfl)
    have low11 := (low9.upd u10 geg6_2)
    clear m11
    refine e_in ?_
    refine e_then ?_
    refine c_region ?_
    refine l_q rfl (q_add (((k + 1 : Nat) : Int)) rfl s9_11.ev rfl (i64_is (by omega) (by omega) (by omega)) ?_)
    refine l_q rfl (q_move _ _ rfl (At.hit z11 rfl).ev ?_)
    refine l_end ?_
    refine e_fresh z11.put.put ?_
    intro a12 z12 m12
    have s3_12 := m12 _ _ ((s3_11.ne rfl).ne rfl)
    have s7_12 := m12 _ _ ((s7_11.ne rfl).ne rfl)
    have s8_12 := m12 _ _ ((s8_11.ne rfl).ne rfl)
    have s9_12 := m12 _ _ (At.hit z11.put rfl)
    clear m12
    rw [mapL_next l k (by assumption)] at k10
    exact ⟨z12, s3_12, s7_12, s8_12, s9_12, k10, low11⟩
  · intro a13 w13 h
    obtain ⟨z13, s3_13, s7_13, s8_13, s9_13, kg6_2_13, low13⟩ := h
    clear k2 low3 s3_4 s7_4 s8_4 s9_4 z4
    refine c_seq ?_
    refine c_region ?_
    refine l_q rfl (q_lss false rfl s9_13.ev s8_13.ev (decide_eq_false (by omega)) ?_)
    refine l_end ?_
    refine e_fresh z13.put ?_
    intro a14 z14 m14
    have s3_14 := m14 _ _ (s3_13.ne rfl)
    have s7_14 := m14 _ _ (s7_13.ne rfl)
    have s9_14 := m14 _ _ (s9_13.ne rfl)
    have s10_14 := m14 _ _ (At.hit z13 rfl)
    clear m14
    refine e_then ?_
    refine c_seq ?_
    refine c_false s10_14 ?_
    refine wp_exit ?_
    refine x_then ?_
    refine x_then ?_
    refine in_exit ?_
    refine e_then ?_
    refine c_seq ?_
    refine c_region ?_
    refine l_q rfl (q_move _ _ rfl s3_14.ev ?_)
    refine l_q rfl (q_assign _ _ rfl (At.hit z14 rfl).ev ?_)
    refine l_end ?_
    refine e_fresh z14.put.put ?_
    intro a15 z15 m15
    have s2_15 := m15 _ _ (At.hit z14.put rfl)
    clear m15
    refine e_then ?_
    refine wp_ret ?_
    refine r_tmp rfl z15.defers s2_15 ?_
    rw [List.take_length] at kg6_2_13; exact ⟨_, rfl, _, rfl, geg6_2, kg6_2_13, low13⟩
theorem Prefix_.calls (s p : ByteArray) (w0 : World) : Calls Tryd.prog 27 #[.string s, .string p] w0 fun e w' => e = .returned (.bool (prefB s p)) ∧ Low w0 w' := by
  refine c_fun (R := _) Tryd.func27 rfl 18 rfl (Nat.le_of_ble_eq_true rfl) ?_
  intro a z hA
  have s0 := hA 0 _ rfl
  have s1 := hA 1 _ rfl
  clear hA
  refine c_seq ?_
  refine c_region ?_
  refine l_q rfl (q_assign _ _ rfl rfl ?_)
  refine l_end ?_
  refine e_fresh z.put ?_
  intro a1 z1 m1
  have s0_1 := m1 _ _ (s0.ne rfl)
  have s1_1 := m1 _ _ (s1.ne rfl)
  clear m1
  refine e_then ?_
  refine c_seq ?_
  by_cases hb2 : p.size ≤ s.size
  · skip
    refine c_region ?_
    refine l_q rfl (q_move _ _ rfl s0_1.ev ?_)
    refine l_q rfl (q_len rfl rfl Tryd.underlying9 (At.hit z1 rfl).ev ?_)
    refine l_q rfl (q_move _ _ rfl ((s1_1.ne rfl).ne rfl).ev ?_)
    refine l_q rfl (q_len rfl rfl Tryd.underlying9 (At.hit z1.put.put rfl).ev ?_)
    refine l_q rfl (q_geq true rfl (((At.hit z1.put rfl).ne rfl).ne rfl).ev (At.hit z1.put.put.put rfl).ev (decide_eq_true (by omega)) ?_)
    refine l_q rfl (q_move _ _ rfl (At.hit z1.put.put.put.put rfl).ev ?_)
    refine l_qg (wanted_is (j := 5) (d := 10) (b := true) rfl rfl (At.hit z1.put.put.put.put.put rfl) rfl) (q_move _ _ rfl ((((((s0_1.ne rfl).ne rfl).ne rfl).ne rfl).ne rfl).ne rfl).ev ?_)
    refine l_qg (wanted_is (j := 5) (d := 10) (b := true) rfl rfl ((At.hit z1.put.put.put.put.put rfl).ne rfl) rfl) (q_move _ _ rfl (((((((s1_1.ne rfl).ne rfl).ne rfl).ne rfl).ne rfl).ne rfl).ne rfl).ev ?_)
    refine l_fresh z1.put.put.put.put.put.put.put.put ?_
    intro a3 z3 m3
    have s1_3 := m3 _ _ ((((((((s1_1.ne rfl).ne rfl).ne rfl).ne rfl).ne rfl).ne rfl).ne rfl).ne rfl)
    have s10_3 := m3 _ _ (((At.hit z1.put.put.put.put.put rfl).ne rfl).ne rfl)
    have s11_3 := m3 _ _ ((At.hit z1.put.put.put.put.put.put rfl).ne rfl)
    have s12_3 := m3 _ _ (At.hit z1.put.put.put.put.put.put.put rfl)
    clear m3
    refine l_qg (wanted_is (j := 5) (d := 10) (b := true) rfl rfl s10_3 rfl) (q_len rfl rfl Tryd.underlying9 s12_3.ev ?_)
    refine l_qg (wanted_is (j := 5) (d := 10) (b := true) rfl rfl (s10_3.ne rfl) rfl) (q_cuthi (k := p.size) rfl Tryd.underlying9 (s11_3.ne rfl).ev (At.hit z3 rfl).ev (by omega) ?_)
    refine l_qg (wanted_is (j := 5) (d := 10) (b := true) rfl rfl ((s10_3.ne rfl).ne rfl) rfl) (q_move _ _ rfl ((s1_3.ne rfl).ne rfl).ev ?_)
    refine l_qg (wanted_is (j := 5) (d := 10) (b := true) rfl rfl (((s10_3.ne rfl).ne rfl).ne rfl) rfl) (q_streq ((s.extract 0 p.size).toList == p.toList) rfl ((At.hit z3.put rfl).ne rfl).ev (At.hit z3.put.put rfl).ev rfl ?_)
    refine l_q rfl (q_pick (b := true) (.bool ((s.extract 0 p.size).toList == p.toList)) rfl ((((s10_3.ne rfl).ne rfl).ne rfl).ne rfl).ev (At.hit z3.put.put.put rfl).ev ?_)
    refine l_q rfl (q_assign _ _ rfl (At.hit z3.put.put.put.put rfl).ev ?_)
    refine l_end ?_
    refine e_fresh z3.put.put.put.put.put.put ?_
    intro a4 z4 m4
    have s4_4 := m4 _ _ (At.hit z3.put.put.put.put.put rfl)
    clear m4
    refine e_then ?_
    refine wp_ret ?_
    refine r_tmp rfl z4.defers s4_4 ?_
    exact ⟨by unfold prefB; rw [if_pos hb2], (Low.refl _)⟩
  · skip
    refine c_region ?_
    refine l_q rfl (q_move _ _ rfl s0_1.ev ?_)
    refine l_q rfl (q_len rfl rfl Tryd.underlying9 (At.hit z1 rfl).ev ?_)
    refine l_q rfl (q_move _ _ rfl ((s1_1.ne rfl).ne rfl).ev ?_)
    refine l_q rfl (q_len rfl rfl Tryd.underlying9 (At.hit z1.put.put rfl).ev ?_)
    refine l_q rfl (q_geq false rfl (((At.hit z1.put rfl).ne rfl).ne rfl).ev (At.hit z1.put.put.put rfl).ev (decide_eq_false (by omega)) ?_)
    refine l_q rfl (q_move _ _ rfl (At.hit z1.put.put.put.put rfl).ev ?_)
    refine l_skip (wanted_is (j := 5) (d := 10) (b := false) rfl rfl (At.hit z1.put.put.put.put.put rfl) rfl) ?_
    refine l_skip (wanted_is (j := 5) (d := 10) (b := false) rfl rfl ((At.hit z1.put.put.put.put.put rfl).ne rfl) rfl) ?_
    refine l_fresh z1.put.put.put.put.put.put.put.put ?_
    intro a5 z5 m5
    have s1_5 := m5 _ _ ((((((((s1_1.ne rfl).ne rfl).ne rfl).ne rfl).ne rfl).ne rfl).ne rfl).ne rfl)
    have s10_5 := m5 _ _ (((At.hit z1.put.put.put.put.put rfl).ne rfl).ne rfl)
    have s11_5 := m5 _ _ ((At.hit z1.put.put.put.put.put.put rfl).ne rfl)
    have s12_5 := m5 _ _ (At.hit z1.put.put.put.put.put.put.put rfl)
    clear m5
    refine l_skip (wanted_is (j := 5) (d := 10) (b := false) rfl rfl s10_5 rfl) ?_
    refine l_skip (wanted_is (j := 5) (d := 10) (b := false) rfl rfl (s10_5.ne rfl) rfl) ?_
    refine l_skip (wanted_is (j := 5) (d := 10) (b := false) rfl rfl ((s10_5.ne rfl).ne rfl) rfl) ?_
    refine l_skip (wanted_is (j := 5) (d := 10) (b := false) rfl rfl (((s10_5.ne rfl).ne rfl).ne rfl) rfl) ?_
    refine l_q rfl (q_pick (b := false) (.bool false) rfl ((((s10_5.ne rfl).ne rfl).ne rfl).ne rfl).ev rfl ?_)
    refine l_q rfl (q_assign _ _ rfl (At.hit z5.put.put.put.put rfl).ev ?_)
    refine l_end ?_
    refine e_fresh z5.put.put.put.put.put.put ?_
    intro a6 z6 m6
    have s4_6 := m6 _ _ (At.hit z5.put.put.put.put.put rfl)
    clear m6
    refine e_then ?_
    refine wp_ret ?_
    refine r_tmp rfl z6.defers s4_6 ?_
    exact ⟨by unfold prefB; rw [if_neg hb2], (Low.refl _)⟩
theorem Prefix.calls (s p : ByteArray) (w0 : World) : Calls Tryd.prog 19 #[.string s, .string p] w0 fun e w' => e = .returned (.bool (prefB s p)) ∧ Low w0 w' := by
  refine c_fun (R := _) Tryd.func19 rfl 8 rfl (Nat.le_of_ble_eq_true rfl) ?_
  intro a z hA
  have s0 := hA 0 _ rfl
  have s1 := hA 1 _ rfl
  clear hA
  refine c_seq ?_
  refine c_region ?_
  refine l_q rfl (q_assign _ _ rfl rfl ?_)
  refine l_end ?_
  refine e_fresh z.put ?_
  intro a1 z1 m1
  have s0_1 := m1 _ _ (s0.ne rfl)
  have s1_1 := m1 _ _ (s1.ne rfl)
  clear m1
  refine e_then ?_
  refine c_seq ?_
  refine c_region ?_
  refine l_q rfl (q_move _ _ rfl s0_1.ev ?_)
  refine l_q rfl (q_move _ _ rfl (s1_1.ne rfl).ev ?_)
  refine l_call (fun v w' => v = .bool (prefB s p) ∧ Low w0 w') rfl rfl rfl Tryd.func27 rfl (args2 rfl ((At.hit z1 rfl).ne rfl).ev (At.hit z1.put rfl).ev) ((Prefix_.calls s p _).mono fun _ _ ⟨e, k⟩ => ⟨_, e, rfl, k⟩) ?_
  rintro _ w2 ⟨rfl, h2⟩
  refine l_q rfl (q_assign _ _ rfl (At.hit z1.put.put rfl).ev ?_)
  refine l_end ?_
  refine e_fresh z1.put.put.put.put ?_
  intro a3 z3 m3
  have s4_3 := m3 _ _ (At.hit z1.put.put.put rfl)
  have low3 := h2
  clear m3
  refine e_then ?_
  refine wp_ret ?_
  refine r_tmp rfl z3.defers s4_3 ?_
  exact ⟨rfl, low3⟩
theorem Under.calls (y x : LfL) (hx : x.f0.size ≤ 1000000) (gx : Nat) (w0 : World) (kx : w0.heap[gx]? = some (.cells #[.string x.f0, .int .i64 x.f1, .string x.f2] 34)) : Calls Tryd.prog 18 #[.agg #[.string y.f0, .int .i64 y.f1, .string y.f2], .pointer (some ⟨gx, 0, none⟩)] w0 fun e w' => e = .returned (.bool (prefB y.f0 (x.f0 ++ slash))) ∧ Low w0 w' := by
  refine c_fun (R := _) Tryd.func18 rfl 10 rfl (Nat.le_of_ble_eq_true rfl) ?_
  intro a z hA
  have s0 := hA 0 _ rfl
  have s1 := hA 1 _ rfl
  clear hA
  refine c_seq ?_
  refine c_region ?_
  refine l_box rfl rfl s0.ev ?_
  intro g2 w1 hg1 k1 h1
  have ngx_g2 := Nat.ne_of_lt (Nat.lt_of_lt_of_le (heap_lt kx) hg1)
  have geg2 := Nat.le_trans (Low.refl _).ge hg1
  have kgx_1 := h1.blk kx
  refine l_q rfl (q_assign _ _ rfl rfl ?_)
  refine l_end ?_
  refine e_fresh z.put.put ?_
  intro a2 z2 m2
  have s1_2 := m2 _ _ ((s1.ne rfl).ne rfl)
  have s2_2 := m2 _ _ ((At.hit z rfl).ne rfl)
  have low2 := h1
  clear m2
  refine e_then ?_
  refine c_seq ?_
  refine c_region ?_
  refine l_q rfl (q_fld 0 rfl (by kernel_rfl) s2_2.ev ?_)
  refine l_q rfl (q_cellT (.string y.f0) rfl Tryd.underlying9 (At.hit z2 rfl).ev (fun _ e => by rw [e]; exact (cells_at k1 0).trans rfl) ?_)
  refine l_q rfl (q_fld 0 rfl (by kernel_rfl) ((s1_2.ne rfl).ne rfl).ev ?_)
  refine l_q rfl (q_cellT (.string x.f0) rfl Tryd.underlying9 (At.hit z2.put.put rfl).ev (fun _ e => by rw [e]; exact (cells_at kgx_1 0).trans rfl) ?_)
  refine l_q rfl (q_cat rfl (At.hit z2.put.put.put rfl).ev rfl (by show _ + 1 ≤ _; omega) ?_)
  refine l_call (fun v w' => v = .bool (prefB y.f0 (x.f0 ++ slash)) ∧ Low w1 w') rfl rfl rfl Tryd.func19 rfl (args2 rfl ((((At.hit z2.put rfl).ne rfl).ne rfl).ne rfl).ev (At.hit z2.put.put.put.put rfl).ev) ((Prefix.calls y.f0 (x.f0 ++ slash) _).mono fun _ _ ⟨e, k⟩ => ⟨_, e, rfl, k⟩) ?_
  rintro _ w3 ⟨rfl, h3⟩
  have kgx_3 := h3.blk kgx_1
  have kg2_3 := h3.blk k1
  refine l_q rfl (q_assign _ _ rfl (At.hit z2.put.put.put.put.put rfl).ev ?_)
  refine l_end ?_
  refine e_fresh z2.put.put.put.put.put.put.put ?_
  intro a4 z4 m4
  have s3_4 := m4 _ _ (At.hit z2.put.put.put.put.put.put rfl)
  have low4 := (low2.trans h3)
  clear m4
  refine e_then ?_
  refine wp_ret ?_
  refine r_tmp rfl z4.defers s3_4 ?_
  exact ⟨rfl, low4⟩
theorem Index_none.calls (v : Value) (l : List LfL) (hl : l.length ≤ 1000000) (gx : Nat) (p : LfL → Bool) (hall : ∀ i, i < l.length → p (l.getD i zL) = false) (w0 : World) (hv : RdF w0 3 v l.length (l.map encL).flatten) (hcl : ∀ (y : LfL) (w : World), Low w0 w → Calls Tryd.prog 18 #[.agg #[.string y.f0, .int .i64 y.f1, .string y.f2], .pointer (some ⟨gx, 0, none⟩)] w fun e w' => e = .returned (.bool (p y)) ∧ Low w w') : Calls Tryd.prog 26 #[v, .func (.func 18) #[] #[.pointer (some ⟨gx, 0, none⟩)]] w0 fun e w' => e = .returned (.int .i64 (-1)) ∧ Low w0 w' := by
  refine c_fun (R := _) Tryd.func26 rfl 19 rfl (Nat.le_of_ble_eq_true rfl) ?_
  intro a z hA
  have s0 := hA 0 _ rfl
  have s1 := hA 1 _ rfl
  clear hA
  refine c_seq ?_
  refine c_region ?_
  refine l_q rfl (q_assign _ _ rfl rfl ?_)
  refine l_end ?_
  refine e_fresh z.put ?_
  intro a1 z1 m1
  have s0_1 := m1 _ _ (s0.ne rfl)
  have s1_1 := m1 _ _ (s1.ne rfl)
  clear m1
  refine e_then ?_
  refine c_seq ?_
  refine c_seq ?_
  refine c_region ?_
  refine l_q rfl (q_move _ _ rfl s0_1.ev ?_)
  refine l_q rfl (q_lenF rfl rfl Tryd.underlying22 (At.hit z1 rfl).ev hv ?_)
  refine l_q rfl (q_move _ _ rfl rfl ?_)
  refine l_end ?_
  refine e_fresh z1.put.put.put ?_
  intro a2 z2 m2
  have s0_2 := m2 _ _ (((s0_1.ne rfl).ne rfl).ne rfl)
  have s1_2 := m2 _ _ (((s1_1.ne rfl).ne rfl).ne rfl)
  have s7_2 := m2 _ _ ((At.hit z1.put rfl).ne rfl)
  have s8_2 := m2 _ _ (At.hit z1.put.put rfl)
  clear m2
  refine e_then ?_
  refine wp_block ?_
  refine c_loop l.length (fun k a w => Fr 19 a ∧ At a 0 (v) ∧ At a 1 (.func (.func 18) #[] #[.pointer (some ⟨gx, 0, none⟩)]) ∧ At a 7 (.int .i64 ((l.length : Nat) : Int)) ∧ At a 8 (.int .i64 ((k : Nat) : Int)) ∧ Low w0 w) ?_ ?_ ?_
  · exact ⟨z2, s0_2, s1_2, s7_2, s8_2, (Low.refl _)⟩
  · intro k a3 w3 hk3 h
    obtain ⟨z3, s0_3, s1_3, s7_3, s8_3, low3⟩ := h
    clear s0_2 s1_2 s7_2 s8_2 z2
    refine c_seq ?_
    refine c_region ?_
    refine l_q rfl (q_lss true rfl s8_3.ev s7_3.ev (decide_eq_true (by omega)) ?_)
    refine l_end ?_
    refine e_fresh z3.put ?_
    intro a4 z4 m4
    have s0_4 := m4 _ _ (s0_3.ne rfl)
    have s1_4 := m4 _ _ (s1_3.ne rfl)
    have s7_4 := m4 _ _ (s7_3.ne rfl)
    have s8_4 := m4 _ _ (s8_3.ne rfl)
    have s9_4 := m4 _ _ (At.hit z3 rfl)
    clear m4
    refine e_then ?_
    refine c_seq ?_
    refine c_true s9_4 ?_
    refine wp_skip ?_
    refine e_then ?_
    refine c_seq ?_
    refine wp_block ?_
    refine c_seq ?_
    refine c_region ?_
    refine l_q rfl (q_move _ _ rfl s8_4.ev ?_)
    refine l_q rfl (q_assign _ _ rfl (At.hit z4 rfl).ev ?_)
    refine l_end ?_
    refine e_fresh z4.put.put ?_
    intro a5 z5 m5
    have s0_5 := m5 _ _ ((s0_4.ne rfl).ne rfl)
    have s1_5 := m5 _ _ ((s1_4.ne rfl).ne rfl)
    have s5_5 := m5 _ _ (At.hit z4.put rfl)
    have s7_5 := m5 _ _ ((s7_4.ne rfl).ne rfl)
    have s8_5 := m5 _ _ ((s8_4.ne rfl).ne rfl)
    clear m5
    refine e_then ?_
    refine c_seq ?_
    refine c_region ?_
    refine l_q rfl (q_move _ _ rfl s1_5.ev ?_)
    refine l_q rfl (q_move _ _ rfl (s0_5.ne rfl).ev ?_)
    refine l_q rfl (q_move _ _ rfl ((s5_5.ne rfl).ne rfl).ev ?_)
    refine l_q rfl (q_idxF (j := k) rfl Tryd.underlying22 sz34 ((At.hit z5.put rfl).ne rfl).ev (hv.low low3) (At.hit z5.put.put rfl).ev (by omega) ?_)
    refine l_q rfl (q_ldR (vs := [.string ((l.getD k zL).f0), .int .i64 ((l.getD k zL).f1), .string ((l.getD k zL).f2)]) rfl Tryd.underlying34 rfl sz34 (At.hit z5.put.put.put rfl).ev (fun _ e => by rw [e]; exact (hv.low low3)) (by omega) rfl (flat_part encL_len zL _ k (by omega)) ?_)
    refine l_callV (fun v w' => v = .bool false ∧ Low w3 w') rfl rfl rfl (((((At.hit z5 rfl).ne rfl).ne rfl).ne rfl).ne rfl).ev Tryd.func18 rfl (args1 rfl (At.hit z5.put.put.put.put rfl).ev) (((calls_bool (hcl (l.getD k zL) _ low3) (hall _ (by assumption)))).mono fun _ _ ⟨e, k⟩ => ⟨_, e, rfl, k⟩) ?_
    rintro _ w6 ⟨rfl, h6⟩
    have ov_6 := (hv.low low3).low h6
    refine l_end ?_
    refine e_fresh z5.put.put.put.put.put.put ?_
    intro a7 z7 m7
    have s0_7 := m7 _ _ ((((((s0_5.ne rfl).ne rfl).ne rfl).ne rfl).ne rfl).ne rfl)
    have s1_7 := m7 _ _ ((((((s1_5.ne rfl).ne rfl).ne rfl).ne rfl).ne rfl).ne rfl)
    have s5_7 := m7 _ _ ((((((s5_5.ne rfl).ne rfl).ne rfl).ne rfl).ne rfl).ne rfl)
    have s7_7 := m7 _ _ ((((((s7_5.ne rfl).ne rfl).ne rfl).ne rfl).ne rfl).ne rfl)
    have s8_7 := m7 _ _ ((((((s8_5.ne rfl).ne rfl).ne rfl).ne rfl).ne rfl).ne rfl)
    have s16_7 := m7 _ _ (At.hit z5.put.put.put.put.put rfl)
    have low7 := (low3.trans h6)
    clear m7
    refine e_then ?_
    refine c_false s16_7 ?_
    refine wp_skip ?_
    refine e_in ?_
    refine e_then ?_
    refine c_region ?_
    refine l_q rfl (q_add (((k + 1 : Nat) : Int)) rfl s8_7.ev rfl (i64_is (by omega) (by omega) (by omega)) ?_)
    refine l_q rfl (q_move _ _ rfl (At.hit z7 rfl).ev ?_)
    refine l_end ?_
    refine e_fresh z7.put.put ?_
    intro a8 z8 m8
    have s0_8 := m8 _ _ ((s0_7.ne rfl).ne rfl)
    have s1_8 := m8 _ _ ((s1_7.ne rfl).ne rfl)
    have s7_8 := m8 _ _ ((s7_7.ne rfl).ne rfl)
    have s8_8 := m8 _ _ (At.hit z7.put rfl)
    clear m8
    exact ⟨z8, s0_8, s1_8, s7_8, s8_8, low7⟩
  · intro a9 w9 h
    obtain ⟨z9, s0_9, s1_9, s7_9, s8_9, low9⟩ := h
    clear s0_2 s1_2 s7_2 s8_2 z2
    refine c_seq ?_
    refine c_region ?_
    refine l_q rfl (q_lss false rfl s8_9.ev s7_9.ev (decide_eq_false (by omega)) ?_)
    refine l_end ?_
    refine e_fresh z9.put ?_
    intro a10 z10 m10
    have s0_10 := m10 _ _ (s0_9.ne rfl)
    have s1_10 := m10 _ _ (s1_9.ne rfl)
    have s8_10 := m10 _ _ (s8_9.ne rfl)
    have s9_10 := m10 _ _ (At.hit z9 rfl)
    clear m10
    refine e_then ?_
    refine c_seq ?_
    refine c_false s9_10 ?_
    refine wp_exit ?_
    refine x_then ?_
    refine x_then ?_
    refine in_exit ?_
    refine e_then ?_
    refine c_seq ?_
    refine c_region ?_
    refine l_q rfl (q_assign _ _ rfl rfl ?_)
    refine l_end ?_
    refine e_fresh z10.put ?_
    intro a11 z11 m11
    have s4_11 := m11 _ _ (At.hit z10 rfl)
    clear m11
    refine e_then ?_
    refine wp_ret ?_
    refine r_tmp rfl z11.defers s4_11 ?_
    exact ⟨rfl, low9⟩
theorem Index_at.calls (v : Value) (l : List LfL) (hl : l.length ≤ 1000000) (gx : Nat) (p : LfL → Bool) (j : Nat) (hj : j < l.length) (hyes : p (l.getD j zL) = true) (hall : ∀ i, i < j → p (l.getD i zL) = false) (w0 : World) (hv : RdF w0 3 v l.length (l.map encL).flatten) (hcl : ∀ (y : LfL) (w : World), Low w0 w → Calls Tryd.prog 18 #[.agg #[.string y.f0, .int .i64 y.f1, .string y.f2], .pointer (some ⟨gx, 0, none⟩)] w fun e w' => e = .returned (.bool (p y)) ∧ Low w w') : Calls Tryd.prog 26 #[v, .func (.func 18) #[] #[.pointer (some ⟨gx, 0, none⟩)]] w0 fun e w' => e = .returned (.int .i64 (j : Int)) ∧ Low w0 w' := by
  refine c_fun (R := _) Tryd.func26 rfl 19 rfl (Nat.le_of_ble_eq_true rfl) ?_
  intro a z hA
  have s0 := hA 0 _ rfl
  have s1 := hA 1 _ rfl
  clear hA
  refine c_seq ?_
  refine c_region ?_
  refine l_q rfl (q_assign _ _ rfl rfl ?_)
  refine l_end ?_
  refine e_fresh z.put ?_
  intro a1 z1 m1
  have s0_1 := m1 _ _ (s0.ne rfl)
  have s1_1 := m1 _ _ (s1.ne rfl)
  clear m1
  refine e_then ?_
  refine c_seq ?_
  refine c_seq ?_
  refine c_region ?_
  refine l_q rfl (q_move _ _ rfl s0_1.ev ?_)
  refine l_q rfl (q_lenF rfl rfl Tryd.underlying22 (At.hit z1 rfl).ev hv ?_)
  refine l_q rfl (q_move _ _ rfl rfl ?_)
  refine l_end ?_
  refine e_fresh z1.put.put.put ?_
  intro a2 z2 m2
  have s0_2 := m2 _ _ (((s0_1.ne rfl).ne rfl).ne rfl)
  have s1_2 := m2 _ _ (((s1_1.ne rfl).ne rfl).ne rfl)
  have s7_2 := m2 _ _ ((At.hit z1.put rfl).ne rfl)
  have s8_2 := m2 _ _ (At.hit z1.put.put rfl)
  clear m2
  refine e_then ?_
  refine wp_block ?_
  refine c_loop j (fun k a w => Fr 19 a ∧ At a 0 (v) ∧ At a 1 (.func (.func 18) #[] #[.pointer (some ⟨gx, 0, none⟩)]) ∧ At a 7 (.int .i64 ((l.length : Nat) : Int)) ∧ At a 8 (.int .i64 ((k : Nat) : Int)) ∧ Low w0 w) ?_ ?_ ?_
  · exact ⟨z2, s0_2, s1_2, s7_2, s8_2, (Low.refl _)⟩
  · intro k a3 w3 hk3 h
    obtain ⟨z3, s0_3, s1_3, s7_3, s8_3, low3⟩ := h
    clear s0_2 s1_2 s7_2 s8_2 z2
    refine c_seq ?_
    refine c_region ?_
    refine l_q rfl (q_lss true rfl s8_3.ev s7_3.ev (decide_eq_true (by omega)) ?_)
    refine l_end ?_
    refine e_fresh z3.put ?_
    intro a4 z4 m4
    have s0_4 := m4 _ _ (s0_3.ne rfl)
    have s1_4 := m4 _ _ (s1_3.ne rfl)
    have s7_4 := m4 _ _ (s7_3.ne rfl)
    have s8_4 := m4 _ _ (s8_3.ne rfl)
    have s9_4 := m4 _ _ (At.hit z3 rfl)
    clear m4
    refine e_then ?_
    refine c_seq ?_
    refine c_true s9_4 ?_
    refine wp_skip ?_
    refine e_then ?_
    refine c_seq ?_
    refine wp_block ?_
    refine c_seq ?_
    refine c_region ?_
    refine l_q rfl (q_move _ _ rfl s8_4.ev ?_)
    refine l_q rfl (q_assign _ _ rfl (At.hit z4 rfl).ev ?_)
    refine l_end ?_
    refine e_fresh z4.put.put ?_
    intro a5 z5 m5
    have s0_5 := m5 _ _ ((s0_4.ne rfl).ne rfl)
    have s1_5 := m5 _ _ ((s1_4.ne rfl).ne rfl)
    have s5_5 := m5 _ _ (At.hit z4.put rfl)
    have s7_5 := m5 _ _ ((s7_4.ne rfl).ne rfl)
    have s8_5 := m5 _ _ ((s8_4.ne rfl).ne rfl)
    clear m5
    refine e_then ?_
    refine c_seq ?_
    refine c_region ?_
    refine l_q rfl (q_move _ _ rfl s1_5.ev ?_)
    refine l_q rfl (q_move _ _ rfl (s0_5.ne rfl).ev ?_)
    refine l_q rfl (q_move _ _ rfl ((s5_5.ne rfl).ne rfl).ev ?_)
    refine l_q rfl (q_idxF (j := k) rfl Tryd.underlying22 sz34 ((At.hit z5.put rfl).ne rfl).ev (hv.low low3) (At.hit z5.put.put rfl).ev (by omega) ?_)
    refine l_q rfl (q_ldR (vs := [.string ((l.getD k zL).f0), .int .i64 ((l.getD k zL).f1), .string ((l.getD k zL).f2)]) rfl Tryd.underlying34 rfl sz34 (At.hit z5.put.put.put rfl).ev (fun _ e => by rw [e]; exact (hv.low low3)) (by omega) rfl (flat_part encL_len zL _ k (by omega)) ?_)
    refine l_callV (fun v w' => v = .bool false ∧ Low w3 w') rfl rfl rfl (((((At.hit z5 rfl).ne rfl).ne rfl).ne rfl).ne rfl).ev Tryd.func18 rfl (args1 rfl (At.hit z5.put.put.put.put rfl).ev) (((calls_bool (hcl (l.getD k zL) _ low3) (hall _ (by assumption)))).mono fun _ _ ⟨e, k⟩ => ⟨_, e, rfl, k⟩) ?_
    rintro _ w6 ⟨rfl, h6⟩
    have ov_6 := (hv.low low3).low h6
    refine l_end ?_
    refine e_fresh z5.put.put.put.put.put.put ?_
    intro a7 z7 m7
    have s0_7 := m7 _ _ ((((((s0_5.ne rfl).ne rfl).ne rfl).ne rfl).ne rfl).ne rfl)
    have s1_7 := m7 _ _ ((((((s1_5.ne rfl).ne rfl).ne rfl).ne rfl).ne rfl).ne rfl)
    have s5_7 := m7 _ _ ((((((s5_5.ne rfl).ne rfl).ne rfl).ne rfl).ne rfl).ne rfl)
    have s7_7 := m7 _ _ ((((((s7_5.ne rfl).ne rfl).ne rfl).ne rfl).ne rfl).ne rfl)
    have s8_7 := m7 _ _ ((((((s8_5.ne rfl).ne rfl).ne rfl).ne rfl).ne rfl).ne rfl)
    have s16_7 := m7 _ _ (At.hit z5.put.put.put.put.put rfl)
    have low7 := (low3.trans h6)
    clear m7
    refine e_then ?_
    refine c_false s16_7 ?_
    refine wp_skip ?_
    refine e_in ?_
    refine e_then ?_
    refine c_region ?_
    refine l_q rfl (q_add (((k + 1 : Nat) : Int)) rfl s8_7.ev rfl (i64_is (by omega) (by omega) (by omega)) ?_)
    refine l_q rfl (q_move _ _ rfl (At.hit z7 rfl).ev ?_)
    refine l_end ?_
    refine e_fresh z7.put.put ?_
    intro a8 z8 m8
    have s0_8 := m8 _ _ ((s0_7.ne rfl).ne rfl)
    have s1_8 := m8 _ _ ((s1_7.ne rfl).ne rfl)
    have s7_8 := m8 _ _ ((s7_7.ne rfl).ne rfl)
    have s8_8 := m8 _ _ (At.hit z7.put rfl)
    clear m8
    exact ⟨z8, s0_8, s1_8, s7_8, s8_8, low7⟩
  · intro a9 w9 h
    obtain ⟨z9, s0_9, s1_9, s7_9, s8_9, low9⟩ := h
    clear s0_2 s1_2 s7_2 s8_2 z2
    refine c_seq ?_
    refine c_region ?_
    refine l_q rfl (q_lss true rfl s8_9.ev s7_9.ev (decide_eq_true (by omega)) ?_)
    refine l_end ?_
    refine e_fresh z9.put ?_
    intro a10 z10 m10
    have s0_10 := m10 _ _ (s0_9.ne rfl)
    have s1_10 := m10 _ _ (s1_9.ne rfl)
    have s8_10 := m10 _ _ (s8_9.ne rfl)
    have s9_10 := m10 _ _ (At.hit z9 rfl)
    clear m10
    refine e_then ?_
    refine c_seq ?_
    refine c_true s9_10 ?_
    refine wp_skip ?_
    refine e_then ?_
    refine c_seq ?_
    refine wp_block ?_
    refine c_seq ?_
    refine c_region ?_
    refine l_q rfl (q_move _ _ rfl s8_10.ev ?_)
    refine l_q rfl (q_assign _ _ rfl (At.hit z10 rfl).ev ?_)
    refine l_end ?_
    refine e_fresh z10.put.put ?_
    intro a11 z11 m11
    have s0_11 := m11 _ _ ((s0_10.ne rfl).ne rfl)
    have s1_11 := m11 _ _ ((s1_10.ne rfl).ne rfl)
    have s5_11 := m11 _ _ (At.hit z10.put rfl)
    have s8_11 := m11 _ _ ((s8_10.ne rfl).ne rfl)
    clear m11
    refine e_then ?_
    refine c_seq ?_
    refine c_region ?_
    refine l_q rfl (q_move _ _ rfl s1_11.ev ?_)
    refine l_q rfl (q_move _ _ rfl (s0_11.ne rfl).ev ?_)
    refine l_q rfl (q_move _ _ rfl ((s5_11.ne rfl).ne rfl).ev ?_)
    refine l_q rfl (q_idxF (j := j) rfl Tryd.underlying22 sz34 ((At.hit z11.put rfl).ne rfl).ev (hv.low low9) (At.hit z11.put.put rfl).ev (by omega) ?_)
    refine l_q rfl (q_ldR (vs := [.string ((l.getD j zL).f0), .int .i64 ((l.getD j zL).f1), .string ((l.getD j zL).f2)]) rfl Tryd.underlying34 rfl sz34 (At.hit z11.put.put.put rfl).ev (fun _ e => by rw [e]; exact (hv.low low9)) (by omega) rfl (flat_part encL_len zL _ j (by omega)) ?_)
    refine l_callV (fun v w' => v = .bool true ∧ Low w9 w') rfl rfl rfl (((((At.hit z11 rfl).ne rfl).ne rfl).ne rfl).ne rfl).ev Tryd.func18 rfl (args1 rfl (At.hit z11.put.put.put.put rfl).ev) (((calls_bool (hcl (l.getD j zL) _ low9) hyes)).mono fun _ _ ⟨e, k⟩ => ⟨_, e, rfl, k⟩) ?_
    rintro _ w12 ⟨rfl, h12⟩
    have ov_12 := (hv.low low9).low h12
    refine l_end ?_
    refine e_fresh z11.put.put.put.put.put.put ?_
    intro a13 z13 m13
    have s5_13 := m13 _ _ ((((((s5_11.ne rfl).ne rfl).ne rfl).ne rfl).ne rfl).ne rfl)
    have s8_13 := m13 _ _ ((((((s8_11.ne rfl).ne rfl).ne rfl).ne rfl).ne rfl).ne rfl)
    have s16_13 := m13 _ _ (At.hit z11.put.put.put.put.put rfl)
    have low13 := (low9.trans h12)
    clear m13
    refine e_then ?_
    refine c_true s16_13 ?_
    refine c_seq ?_
    refine c_region ?_
    refine l_q rfl (q_move _ _ rfl s5_13.ev ?_)
    refine l_q rfl (q_assign _ _ rfl (At.hit z13 rfl).ev ?_)
    refine l_end ?_
    refine e_fresh z13.put.put ?_
    intro a14 z14 m14
    have s4_14 := m14 _ _ (At.hit z13.put rfl)
    clear m14
    refine e_then ?_
    refine wp_ret ?_
    refine ret_in ?_
    refine ret_then ?_
    refine ret_then ?_
    refine ret_in ?_
    refine ret_then ?_
    refine r_tmp rfl z14.defers s4_14 ?_
    exact ⟨rfl, low13⟩
end Go.Proofs.YtenbgnlkkmnmhaaDoor.Q
end
/-! M3 -/
section
namespace Go.Proofs.YtenbgnlkkmnmhaaDoor.Q
open Go.RowKit Go.Sort Go.Lib
set_option linter.unusedSimpArgs false
theorem lessB_iff (s t : ByteArray) : lessB s t = true ↔ s.data.toList < t.data.toList := by
  unfold lessB
  rw [ByteArray.toList_eq, ByteArray.toList_eq, bytesLess_eq, decide_eq_true_iff]
theorem lessB_irrefl (s : ByteArray) : lessB s s = false := by
  rw [← Bool.not_eq_true, lessB_iff]
  exact List.lt_irrefl _
theorem lessB_trans {s t u : ByteArray} (h : lessB s t = true) (h' : lessB t u = true) : lessB s u = true := by
  rw [lessB_iff] at *
  exact List.lt_trans h h'
theorem lessB_ne {s t : ByteArray} (h : lessB s t = true) : s ≠ t := by
  rintro rfl
  rw [lessB_irrefl] at h
  cases h
theorem lessB_asymm {s t : ByteArray} (h : lessB s t = true) : lessB t s = false := by
  cases h' : lessB t s with
  | false => rfl
  | true => exact absurd rfl (lessB_ne (lessB_trans h h'))
theorem ba_ext {s t : ByteArray} (h : s.data.toList = t.data.toList) : s = t := by
  cases s; cases t
  simp only [ByteArray.mk.injEq]
  exact Array.ext' h
theorem lessB_tri {s t : ByteArray} (h : lessB s t = false) (h' : lessB t s = false) : s = t := by
  rw [← Bool.not_eq_true, lessB_iff] at h h'
  exact ba_ext (List.le_antisymm (List.not_lt.1 h') (List.not_lt.1 h))
theorem leB_iff (s t : ByteArray) : s.data.toList ≤ t.data.toList ↔ lessB t s = false := by
  rw [← Bool.not_eq_true, lessB_iff, List.not_lt]
def Rise (l : List ByteArray) : Prop := l.Pairwise fun x y => lessB x y = true
theorem rise_ext : ∀ {l m : List ByteArray}, Rise l → Rise m → (∀ x, x ∈ l ↔ x ∈ m) → l = m
  | [], [], _, _, _ => rfl
  | [], y :: m, _, _, h => absurd ((h y).2 (by simp)) (by simp)
  | x :: l, [], _, _, h => absurd ((h x).1 (by simp)) (by simp)
  | x :: l, y :: m, hl, hm, h => by
    have hl' := List.pairwise_cons.1 hl
    have hm' := List.pairwise_cons.1 hm
    have e : x = y := by
      rcases List.mem_cons.1 ((h x).1 (by simp)) with e | e
      · exact e
      · rcases List.mem_cons.1 ((h y).2 (by simp)) with e' | e'
        · exact e'.symm
        · have := lessB_asymm (hl'.1 y e')
          rw [hm'.1 x e] at this
          cases this
    subst e
    congr 1
    refine rise_ext hl'.2 hm'.2 fun z => ⟨fun hz => ?_, fun hz => ?_⟩
    · rcases List.mem_cons.1 ((h z).1 (List.mem_cons_of_mem _ hz)) with e | e
      · exact absurd e.symm (lessB_ne (hl'.1 z hz))
      · exact e
    · rcases List.mem_cons.1 ((h z).2 (List.mem_cons_of_mem _ hz)) with e | e
      · exact absurd e.symm (lessB_ne (hm'.1 z hz))
      · exact e
theorem sortB_mem (l : List ByteArray) (x : ByteArray) : x ∈ sortB l ↔ x ∈ l := by
  unfold sortB
  rw [List.mem_map]
  constructor
  · rintro ⟨y, hy, rfl⟩
    rw [List.mem_mergeSort, List.mem_map] at hy
    obtain ⟨z, hz, rfl⟩ := hy
    exact hz
  · intro hx
    exact ⟨toL x, by rw [List.mem_mergeSort, List.mem_map]; exact ⟨x, hx, rfl⟩, rfl⟩
theorem sortB_sorted (l : List ByteArray) : (sortB l).Pairwise fun x y => lessB y x = false := by
  unfold sortB
  rw [List.pairwise_map]
  have := List.pairwise_mergeSort (le := fun x y : List UInt8 => decide (x ≤ y)) (fun a b c h h' => by simp only [decide_eq_true_iff] at *; exact List.le_trans h h') (fun a b => by simp only [Bool.or_eq_true, decide_eq_true_iff]; exact List.le_total a b) (l.map toL)
  refine this.imp fun {a b} h => ?_
  rw [← leB_iff]
  simpa using h
theorem compB_rise (l : List ByteArray) (h : l.Pairwise fun x y => lessB y x = false) : Rise (compB l) := by
  unfold compB compactUpTo Rise
  rw [List.pairwise_map, List.pairwise_map]
  have hp : ((List.range l.length).filter (keeps (l.map toL).toArray)).Pairwise (· < ·) := List.Pairwise.filter _ List.pairwise_lt_range
  refine List.Pairwise.imp_of_mem ?_ hp
  intro i j hi hj hij
  rw [List.mem_filter, List.mem_range] at hi hj
  have hk := hj.2
  simp only [keeps, decide_eq_true_iff] at hk
  have hne := hk.resolve_left (by omega)
  have g : ∀ i, (hi : i < l.length) → (l.map toL).toArray[i]! = toL l[i] := fun i hi => by
    rw [getElem!_pos _ _ (by simpa using hi)]; simp
  have e : ∀ s : ByteArray, ofL (toL s) = s := fun s => by cases s; rfl
  have hpw := List.pairwise_iff_getElem.1 h
  rw [g _ hi.1, g _ hj.1, e, e]
  rw [g _ hj.1, g (j - 1) (by omega)] at hne
  have hlt : lessB l[j - 1] l[j] = true := by
    cases hc : lessB l[j - 1] l[j] with
    | true => rfl
    | false => exact absurd (congrArg toL (lessB_tri hc (hpw (j - 1) j (by omega) hj.1 (by omega))).symm) hne
  by_cases hij' : i = j - 1
  · subst hij'; exact hlt
  · cases hc : lessB l[i] l[j - 1] with
    | true => exact lessB_trans hc hlt
    | false => rw [lessB_tri hc (hpw i (j - 1) (by omega) (by omega) (by omega))]; exact hlt
theorem compB_mem (l : List ByteArray) (x : ByteArray) : x ∈ compB l ↔ x ∈ l := by
  have g : ∀ i, (hi : i < l.length) → (l.map toL).toArray[i]! = toL l[i] := fun i hi => by
    rw [getElem!_pos _ _ (by simpa using hi)]; simp
  have e : ∀ s : ByteArray, ofL (toL s) = s := fun s => by cases s; rfl
  unfold compB compactUpTo
  simp only [List.mem_map, List.mem_filter, List.mem_range]
  constructor
  · rintro ⟨y, ⟨i, ⟨hi, _⟩, rfl⟩, rfl⟩
    rw [g _ hi, e]
    exact List.getElem_mem _
  · intro hx
    obtain ⟨i, hi, hx'⟩ := List.mem_iff_getElem.1 hx
    have key : ∀ i (hi : i < l.length), l[i] = x → ∃ y, (∃ i, (i < l.length ∧ keeps (l.map toL).toArray i = true) ∧ (l.map toL).toArray[i]! = y) ∧ ofL y = x := by
      intro i
      induction i with
      | zero => intro hi hx; exact ⟨_, ⟨0, ⟨hi, by simp [keeps]⟩, rfl⟩, by rw [g _ hi, e, hx]⟩
      | succ i ih =>
        intro hi hx
        by_cases hc : l[i] = x
        · exact ih (by omega) hc
        · refine ⟨_, ⟨i + 1, ⟨hi, ?_⟩, rfl⟩, by rw [g _ hi, e, hx]⟩
          simp only [keeps, decide_eq_true_iff]
          right
          rw [g _ hi, Nat.add_sub_cancel, g i (by omega), hx]
          intro h
          exact hc (ba_ext h.symm)
    exact key i hi hx'
theorem insP_mem {l : List ByteArray} (p x : ByteArray) : x ∈ insP l p ↔ x = p ∨ x ∈ l := by
  unfold insP
  split
  · rename_i h
    constructor
    · exact .inr
    · rintro (rfl | h')
      · have := h.2
        rw [List.getD_eq_getElem?_getD, List.getElem?_eq_getElem h.1] at this
        rw [← this]
        exact List.getElem_mem _
      · exact h'
  · have : x ∈ l ↔ x ∈ l.take (cutP l p) ∨ x ∈ l.drop (cutP l p) := by rw [← List.mem_append, List.take_append_drop]
    rw [this]
    simp only [List.mem_append, List.mem_singleton]
    constructor
    · rintro ((h | h) | h)
      · exact .inr (.inl h)
      · exact .inl h
      · exact .inr (.inr h)
    · rintro (h | h | h)
      · exact .inl (.inr h)
      · exact .inl (.inl h)
      · exact .inr h
theorem insP_rise {l : List ByteArray} (p : ByteArray) (h : Rise l) : Rise (insP l p) := by
  unfold insP
  split
  · exact h
  · rename_i hn
    have h1 : ∀ x ∈ l.take (cutP l p), lessB x p = true := by
      intro x hx
      obtain ⟨i, hi, rfl⟩ := List.mem_iff_getElem.1 hx
      rw [List.length_take] at hi
      have := cutP_round (l := l) (p := p) (k := i) (by omega)
      rw [List.getD_eq_getElem?_getD, List.getElem?_eq_getElem (by omega)] at this
      rw [List.getElem_take]
      exact this
    have h2 : ∀ x ∈ l.drop (cutP l p), lessB p x = true := by
      intro x hx
      have hlt : cutP l p < l.length := by
        rcases Nat.lt_or_ge (cutP l p) l.length with h | h
        · exact h
        · rw [List.drop_eq_nil_of_le h] at hx; cases hx
      have hs := cutP_stop hlt
      have hne : ¬ l.getD (cutP l p) ByteArray.empty = p := fun e => hn ⟨hlt, e⟩
      have hp : lessB p (l.getD (cutP l p) ByteArray.empty) = true := by
        cases hc : lessB p (l.getD (cutP l p) ByteArray.empty) with
        | true => rfl
        | false => exact absurd (lessB_tri hs hc) hne
      rw [List.drop_eq_getElem_cons hlt] at hx
      rw [List.getD_eq_getElem?_getD, List.getElem?_eq_getElem hlt] at hp
      rcases List.mem_cons.1 hx with e | e
      · rw [e]; exact hp
      · obtain ⟨i, hi, rfl⟩ := List.mem_iff_getElem.1 e
        rw [List.getElem_drop]
        refine lessB_trans hp (List.pairwise_iff_getElem.1 h _ _ _ _ (by omega))
    have hs : l = l.take (cutP l p) ++ l.drop (cutP l p) := (List.take_append_drop _ _).symm
    have h3 : (l.take (cutP l p) ++ l.drop (cutP l p)).Pairwise fun x y => lessB x y = true := by rw [← hs]; exact h
    rw [List.pairwise_append] at h3
    unfold Rise
    rw [List.append_assoc, List.pairwise_append]
    refine ⟨h3.1, ?_, ?_⟩
    · rw [List.singleton_append, List.pairwise_cons]
      exact ⟨h2, h3.2.1⟩
    · intro a ha b hb
      rcases List.mem_append.1 hb with e | e
      · rw [List.mem_singleton.1 e]; exact h1 a ha
      · exact h3.2.2 a ha b e
theorem foldl_ins : ∀ (l a : List ByteArray), Rise a → Rise (l.foldl insP a) ∧ ∀ x, x ∈ l.foldl insP a ↔ x ∈ l ∨ x ∈ a
  | [], a, h => ⟨h, fun x => by simp⟩
  | p :: l, a, h => by
    obtain ⟨h1, h2⟩ := foldl_ins l (insP a p) (insP_rise p h)
    refine ⟨h1, fun x => ?_⟩
    rw [List.foldl_cons, h2, insP_mem, List.mem_cons]
    constructor
    · rintro (h | h | h)
      · exact .inl (.inr h)
      · exact .inl (.inl h)
      · exact .inr h
    · rintro ((h | h) | h)
      · exact .inr (.inl h)
      · exact .inl h
      · exact .inr (.inr h)
theorem comp_sort (l : List ByteArray) : compB (sortB l) = l.foldl insP [] := by
  obtain ⟨h1, h2⟩ := foldl_ins l [] List.Pairwise.nil
  refine rise_ext (compB_rise _ (sortB_sorted l)) h1 fun x => ?_
  rw [compB_mem, sortB_mem, h2]
  simp
end Go.Proofs.YtenbgnlkkmnmhaaDoor.Q
end
/-! E2 -/
section
namespace Go.Proofs.YtenbgnlkkmnmhaaDoor.Q
open Go.RowKit Go.Proofs.YtenbgnlkkmnmhaaDoor.P
open Go.Proofs.YtenbgnlkkmnmhaaDoorW.PrintWords (bytesOf bytesOf_length)
set_option linter.unusedVariables false
set_option linter.unusedSimpArgs false
set_option maxRecDepth 100000
set_option maxHeartbeats 4000000
attribute [local irreducible] wpList wpQuiet qch Code.wp Oper.quiet Act.put At Region.wanted yielded
theorem sz22 : (Tryd.prog.info? 22).map (·.size) = some 1 := by kernel_rfl
theorem Index.calls (v : Value) (l : List LfL) (hl : l.length ≤ 1000000) (gx : Nat) (p : LfL → Bool) (w0 : World) (hv : RdF w0 3 v l.length (l.map encL).flatten) (hcl : ∀ (y : LfL) (w : World), Low w0 w → Calls Tryd.prog 18 #[.agg #[.string y.f0, .int .i64 y.f1, .string y.f2], .pointer (some ⟨gx, 0, none⟩)] w fun e w' => e = .returned (.bool (p y)) ∧ Low w w')  : Calls Tryd.prog 26 #[v, .func (.func 18) #[] #[.pointer (some ⟨gx, 0, none⟩)]] w0 fun e w' => e = .returned (.int .i64 (idxF l p)) ∧ Low w0 w' := by
  by_cases h : l.findIdx p < l.length
  · unfold idxF
    rw [if_pos h]
    exact Index_at.calls v l hl gx p (l.findIdx p) h (idxF_at h) (fun i hi => idxF_round i hi) w0 hv hcl
  · unfold idxF
    rw [if_neg h]
    exact Index_none.calls v l hl gx p (fun i hi => idxF_round i (Nat.lt_of_lt_of_le hi (Nat.le_of_not_lt h))) w0 hv hcl
theorem Contains.calls (v : Value) (l : List LfL) (hl : l.length ≤ 1000000) (gx : Nat) (p : LfL → Bool) (w0 : World) (hv : RdF w0 3 v l.length (l.map encL).flatten) (hcl : ∀ (y : LfL) (w : World), Low w0 w → Calls Tryd.prog 18 #[.agg #[.string y.f0, .int .i64 y.f1, .string y.f2], .pointer (some ⟨gx, 0, none⟩)] w fun e w' => e = .returned (.bool (p y)) ∧ Low w w')  : Calls Tryd.prog 17 #[v, .func (.func 18) #[] #[.pointer (some ⟨gx, 0, none⟩)]] w0 fun e w' => e = .returned (.bool (l.any p)) ∧ Low w0 w' := by
  refine c_fun (R := _) Tryd.func17 rfl 9 rfl (Nat.le_of_ble_eq_true rfl) ?_
  intro a z hA
  have s0 := hA 0 _ rfl
  have s1 := hA 1 _ rfl
  clear hA
  refine c_seq ?_
  refine c_region ?_
  refine l_q rfl (q_assign _ _ rfl rfl ?_)
  refine l_end ?_
  refine e_fresh z.put ?_
  intro a1 z1 m1
  have s0_1 := m1 _ _ (s0.ne rfl)
  have s1_1 := m1 _ _ (s1.ne rfl)
  clear m1
  refine e_then ?_
  refine c_seq ?_
  refine c_region ?_
  refine l_q rfl (q_move _ _ rfl s0_1.ev ?_)
  refine l_q rfl (q_move _ _ rfl (s1_1.ne rfl).ev ?_)
  refine l_call (fun v w' => v = .int .i64 (idxF l p) ∧ Low w0 w') rfl rfl rfl Tryd.func26 rfl (args2 rfl ((At.hit z1 rfl).ne rfl).ev (At.hit z1.put rfl).ev) ((Index.calls v l hl gx p _ hv (fun y w h => hcl y w ((Low.refl _).trans h))).mono fun _ _ ⟨e, k⟩ => ⟨_, e, rfl, k⟩) ?_
  rintro _ w2 ⟨rfl, h2⟩
  have ov_2 := hv.low h2
  refine l_q rfl (q_geq _ rfl (At.hit z1.put.put rfl).ev rfl rfl ?_)
  refine l_q rfl (q_assign _ _ rfl (At.hit z1.put.put.put rfl).ev ?_)
  refine l_end ?_
  refine e_fresh z1.put.put.put.put.put ?_
  intro a3 z3 m3
  have s4_3 := m3 _ _ (At.hit z1.put.put.put.put rfl)
  have low3 := h2
  clear m3
  refine e_then ?_
  refine wp_ret ?_
  refine r_tmp rfl z3.defers s4_3 ?_
  exact ⟨by rw [idxF_any], low3⟩
theorem Of.calls (v : Value) (l : List LfL) (hl : l.length ≤ 1000000) (w0 : World) (hv : RdF w0 3 v l.length (l.map encL).flatten) : Calls Tryd.prog 10 #[v] w0 fun e w' => ∃ x, e = .returned x ∧ OwnF w' w0.heap.size 46 3 x (l.map toR).length ((l.map toR).map encR).flatten ∧ Low w0 w' := by
  refine c_fun (R := _) Tryd.func10 rfl 19 rfl (Nat.le_of_ble_eq_true rfl) ?_
  intro a z hA
  have s0 := hA 0 _ rfl
  clear hA
  refine c_seq ?_
  refine c_region ?_
  refine l_q rfl (q_assign _ _ rfl rfl ?_)
  refine l_end ?_
  refine e_fresh z.put ?_
  intro a1 z1 m1
  have s0_1 := m1 _ _ (s0.ne rfl)
  clear m1
  refine e_then ?_
  refine c_seq ?_
  refine c_region ?_
  refine l_q rfl (q_assign _ _ rfl rfl ?_)
  refine l_end ?_
  refine e_fresh z1.put ?_
  intro a2 z2 m2
  have s0_2 := m2 _ _ (s0_1.ne rfl)
  have s3_2 := m2 _ _ (At.hit z1 rfl)
  clear m2
  refine e_then ?_
  refine c_seq ?_
  refine c_seq ?_
  refine c_region ?_
  refine l_q rfl (q_assign _ _ rfl rfl ?_)
  refine l_end ?_
  refine e_fresh z2.put ?_
  intro a3 z3 m3
  have s0_3 := m3 _ _ (s0_2.ne rfl)
  have s3_3 := m3 _ _ (s3_2.ne rfl)
  have s4_3 := m3 _ _ (At.hit z2 rfl)
  clear m3
  refine e_then ?_
  refine wp_block ?_
  refine c_loop l.length (fun k a w => ∃ v3 : Value, Fr 19 a ∧ At a 0 (v) ∧ At a 3 (v3) ∧ At a 4 (.int .i64 ((k : Nat) : Int)) ∧ OwnF w w0.heap.size 46 3 v3 ((l.take k).map toR).length ((((l.take k).map toR).map encR).flatten) ∧ Low w0 w) ?_ ?_ ?_
  · exact ⟨.slice none 0 0, z3, s0_3, s3_3, s4_3, (OwnF.nil _ _ _ _), (Low.refl _)⟩
  · intro k a4 w4 hk4 h
    obtain ⟨v3_4, z4, s0_4, s3_4, s4_4, ox3_4, low4⟩ := h
    clear s0_3 s3_3 s4_3 z3
    have hlen : ((l.take k).map toR).length ≤ 1000000 := by rw [List.length_map, List.length_take]; omega
    refine c_seq ?_
    refine c_seq ?_
    refine c_region ?_
    refine l_q rfl (q_move _ _ rfl s4_4.ev ?_)
    refine l_q rfl (q_move _ _ rfl (s0_4.ne rfl).ev ?_)
    refine l_q rfl (q_lenF rfl rfl Tryd.underlying22 (At.hit z4.put rfl).ev (hv.low low4) ?_)
    refine l_q rfl (q_lss true rfl (((At.hit z4 rfl).ne rfl).ne rfl).ev (At.hit z4.put.put rfl).ev (decide_eq_true (by omega)) ?_)
    refine l_end ?_
    refine e_fresh z4.put.put.put.put ?_
    intro a5 z5 m5
    have s0_5 := m5 _ _ ((((s0_4.ne rfl).ne rfl).ne rfl).ne rfl)
    have s3_5 := m5 _ _ ((((s3_4.ne rfl).ne rfl).ne rfl).ne rfl)
    have s4_5 := m5 _ _ ((((s4_4.ne rfl).ne rfl).ne rfl).ne rfl)
    have s8_5 := m5 _ _ (At.hit z4.put.put.put rfl)
    clear m5
    refine e_then ?_
    refine c_true s8_5 ?_
    refine wp_skip ?_
    refine e_then ?_
    refine c_seq ?_
    refine wp_block ?_
    refine c_region ?_
    refine l_q rfl (q_move _ _ rfl s3_5.ev ?_)
    refine l_q rfl (q_move _ _ rfl (s0_5.ne rfl).ev ?_)
    refine l_q rfl (q_move _ _ rfl ((s4_5.ne rfl).ne rfl).ev ?_)
    refine l_q rfl (q_idxF (j := k) rfl Tryd.underlying22 sz34 ((At.hit z5.put rfl).ne rfl).ev (hv.low low4) (At.hit z5.put.put rfl).ev (by omega) ?_)
    refine l_q rfl (q_ldR (vs := [.string ((l.getD k zL).f0), .int .i64 ((l.getD k zL).f1), .string ((l.getD k zL).f2)]) rfl Tryd.underlying34 rfl sz34 (At.hit z5.put.put.put rfl).ev (fun _ e => by rw [e]; exact (hv.low low4)) (by omega) rfl (flat_part encL_len zL _ k (by omega)) ?_)
    refine l_buildF (vs := [.string ((l.getD k zL).f0), .int .i64 ((l.getD k zL).f1), .string ((l.getD k zL).f2)]) rfl rfl Tryd.underlying30 rec46 (At.hit z5.put.put.put.put rfl).ev rfl rfl (by decide) (by decide) ?_
    intro g16_6 w6 hg6 k6 h6
    have onx3_g16_6 : ∀ k, Value.ownBlock v3_4 = some k → k < g16_6 := fun k hk => Nat.lt_of_lt_of_le (OwnF.own_lt ox3_4 hk) hg6
    have geg16_6 := Nat.le_trans low4.ge hg6
    have ox3_6 := ox3_4.low h6
    have ov_6 := (hv.low low4).low h6
    refine l_appF (B := w0.heap.size) rfl rfl Tryd.underlying30 rec46 ((((((At.hit z5 rfl).ne rfl).ne rfl).ne rfl).ne rfl).ne rfl).ev (At.hit z5.put.put.put.put.put rfl).ev k6 rfl (by decide) rfl ox3_6 (low4.trans h6).ge (by omega) ?_
    intro v7 w7 o7 gr7
    have lw7 := (low4.trans h6).grw gr7
    replace o7 := o7.cast (show _ = (((l.take k).map toR) ++ [toR (l.getD k zL)]).length by rw [List.length_append]; rfl) (flat_snoc (enc := encR) ((l.take k).map toR) (toR (l.getD k zL)))
    refine l_q rfl (q_assign _ _ rfl (At.hit z5.put.put.put.put.put.put rfl).ev ?_)
    refine l_end ?_
    refine e_fresh z5.put.put.put.put.put.put.put.put ?_
    intro a8 z8 m8
    have s0_8 := m8 _ _ ((((((((s0_5.ne rfl).ne rfl).ne rfl).ne rfl).ne rfl).ne rfl).ne rfl).ne rfl)
    have s3_8 := m8 _ _ (At.hit z5.put.put.put.put.put.put.put rfl)
    have s4_8 := m8 _ _ ((((((((s4_5.ne rfl).ne rfl).ne rfl).ne rfl).ne rfl).ne rfl).ne rfl).ne rfl)
    have low8 := lw7
    clear m8
    refine e_in ?_
    refine e_then ?_
    refine c_region ?_
    refine l_q rfl (q_move _ _ rfl s4_8.ev ?_)
    refine l_q rfl (q_add (((k + 1 : Nat) : Int)) rfl (At.hit z8 rfl).ev rfl (i64_is (by omega) (by omega) (by omega)) ?_)
    refine l_q rfl (q_assign _ _ rfl (At.hit z8.put rfl).ev ?_)
    refine l_end ?_
    refine e_fresh z8.put.put.put ?_
    intro a9 z9 m9
    have s0_9 := m9 _ _ (((s0_8.ne rfl).ne rfl).ne rfl)
    have s3_9 := m9 _ _ (((s3_8.ne rfl).ne rfl).ne rfl)
    have s4_9 := m9 _ _ (At.hit z8.put.put rfl)
    clear m9
    have c10 := OwnF.castL o7 (show ((l.take k).map toR) ++ [toR (l.getD k zL)] = (l.take (k + 1)).map toR from ofN_next l k (by omega))
    exact ⟨v7, z9, s0_9, s3_9, s4_9, c10, low8⟩
  · intro a11 w11 h
    obtain ⟨v3_11, z11, s0_11, s3_11, s4_11, ox3_11, low11⟩ := h
    clear s0_3 s3_3 s4_3 z3
    refine c_seq ?_
    refine c_seq ?_
    refine c_region ?_
    refine l_q rfl (q_move _ _ rfl s4_11.ev ?_)
    refine l_q rfl (q_move _ _ rfl (s0_11.ne rfl).ev ?_)
    refine l_q rfl (q_lenF rfl rfl Tryd.underlying22 (At.hit z11.put rfl).ev (hv.low low11) ?_)
    refine l_q rfl (q_lss false rfl (((At.hit z11 rfl).ne rfl).ne rfl).ev (At.hit z11.put.put rfl).ev (decide_eq_false (by omega)) ?_)
    refine l_end ?_
    refine e_fresh z11.put.put.put.put ?_
    intro a12 z12 m12
    have s0_12 := m12 _ _ ((((s0_11.ne rfl).ne rfl).ne rfl).ne rfl)
    have s3_12 := m12 _ _ ((((s3_11.ne rfl).ne rfl).ne rfl).ne rfl)
    have s4_12 := m12 _ _ ((((s4_11.ne rfl).ne rfl).ne rfl).ne rfl)
    have s8_12 := m12 _ _ (At.hit z11.put.put.put rfl)
    clear m12
    refine e_then ?_
    refine c_false s8_12 ?_
    refine wp_exit ?_
    refine x_then ?_
    refine x_then ?_
    refine in_exit ?_
    refine e_then ?_
    refine c_seq ?_
    refine c_region ?_
    refine l_q rfl (q_move _ _ rfl s3_12.ev ?_)
    refine l_q rfl (q_assign _ _ rfl (At.hit z12 rfl).ev ?_)
    refine l_end ?_
    refine e_fresh z12.put.put ?_
    intro a13 z13 m13
    have s2_13 := m13 _ _ (At.hit z12.put rfl)
    clear m13
    refine e_then ?_
    refine wp_ret ?_
    refine r_tmp rfl z13.defers s2_13 ?_
    rw [List.take_length] at ox3_11; exact ⟨_, rfl, ox3_11, low11⟩
theorem Same.calls (va vb : Value) (la lb : List LfR) (hl : la.length ≤ 1000000) (hl' : lb.length ≤ 1000000) (w0 : World) (hva : RdF w0 3 va la.length (la.map encR).flatten) (hvb : RdF w0 3 vb lb.length (lb.map encR).flatten) : Calls Tryd.prog 9 #[va, vb] w0 fun e w' => e = .returned (.bool (decide (la = lb))) ∧ Low w0 w' := by
  refine c_fun (R := _) Tryd.func9 rfl 26 rfl (Nat.le_of_ble_eq_true rfl) ?_
  intro a z hA
  have s0 := hA 0 _ rfl
  have s1 := hA 1 _ rfl
  clear hA
  refine c_seq ?_
  refine c_region ?_
  refine l_q rfl (q_assign _ _ rfl rfl ?_)
  refine l_end ?_
  refine e_fresh z.put ?_
  intro a1 z1 m1
  have s0_1 := m1 _ _ (s0.ne rfl)
  have s1_1 := m1 _ _ (s1.ne rfl)
  clear m1
  refine e_then ?_
  refine c_seq ?_
  refine c_seq ?_
  by_cases hb2 : la.length ≠ lb.length
  · skip
    refine c_region ?_
    refine l_q rfl (q_move _ _ rfl s0_1.ev ?_)
    refine l_q rfl (q_lenF rfl rfl Tryd.underlying30 (At.hit z1 rfl).ev hva ?_)
    refine l_q rfl (q_move _ _ rfl ((s1_1.ne rfl).ne rfl).ev ?_)
    refine l_q rfl (q_lenF rfl rfl Tryd.underlying30 (At.hit z1.put.put rfl).ev hvb ?_)
    refine l_q rfl (q_neq true rfl (((At.hit z1.put rfl).ne rfl).ne rfl).ev (At.hit z1.put.put.put rfl).ev (decide_eq_true (by omega)) ?_)
    refine l_end ?_
    refine e_fresh z1.put.put.put.put.put ?_
    intro a3 z3 m3
    have s0_3 := m3 _ _ (((((s0_1.ne rfl).ne rfl).ne rfl).ne rfl).ne rfl)
    have s1_3 := m3 _ _ (((((s1_1.ne rfl).ne rfl).ne rfl).ne rfl).ne rfl)
    have s10_3 := m3 _ _ (At.hit z1.put.put.put.put rfl)
    clear m3
    refine e_then ?_
    refine c_true s10_3 ?_
    refine c_seq ?_
    refine c_region ?_
    refine l_q rfl (q_assign _ _ rfl rfl ?_)
    refine l_end ?_
    refine e_fresh z3.put ?_
    intro a4 z4 m4
    have s4_4 := m4 _ _ (At.hit z3 rfl)
    clear m4
    refine e_then ?_
    refine wp_ret ?_
    refine ret_then ?_
    refine r_tmp rfl z4.defers s4_4 ?_
    exact ⟨by rw [decide_eq_false (fun h => hb2 (congrArg List.length h))]; rfl, (Low.refl _)⟩
  · skip
    refine c_region ?_
    refine l_q rfl (q_move _ _ rfl s0_1.ev ?_)
    refine l_q rfl (q_lenF rfl rfl Tryd.underlying30 (At.hit z1 rfl).ev hva ?_)
    refine l_q rfl (q_move _ _ rfl ((s1_1.ne rfl).ne rfl).ev ?_)
    refine l_q rfl (q_lenF rfl rfl Tryd.underlying30 (At.hit z1.put.put rfl).ev hvb ?_)
    refine l_q rfl (q_neq false rfl (((At.hit z1.put rfl).ne rfl).ne rfl).ev (At.hit z1.put.put.put rfl).ev (decide_eq_false (by omega)) ?_)
    refine l_end ?_
    refine e_fresh z1.put.put.put.put.put ?_
    intro a5 z5 m5
    have s0_5 := m5 _ _ (((((s0_1.ne rfl).ne rfl).ne rfl).ne rfl).ne rfl)
    have s1_5 := m5 _ _ (((((s1_1.ne rfl).ne rfl).ne rfl).ne rfl).ne rfl)
    have s10_5 := m5 _ _ (At.hit z1.put.put.put.put rfl)
    clear m5
    refine e_then ?_
    refine c_false s10_5 ?_
    refine wp_skip ?_
    refine e_then ?_
    refine c_seq ?_
    refine c_seq ?_
    refine c_region ?_
    refine l_q rfl (q_assign _ _ rfl rfl ?_)
    refine l_end ?_
    refine e_fresh z5.put ?_
    intro a6 z6 m6
    have s0_6 := m6 _ _ (s0_5.ne rfl)
    have s1_6 := m6 _ _ (s1_5.ne rfl)
    have s5_6 := m6 _ _ (At.hit z5 rfl)
    clear m6
    refine e_then ?_
    refine wp_block ?_
    refine c_loop (fdiff la lb zR) (fun k a w => Fr 26 a ∧ At a 0 (va) ∧ At a 1 (vb) ∧ At a 5 (.int .i64 ((k : Nat) : Int)) ∧ Low w0 w) ?_ ?_ ?_
    · exact ⟨z6, s0_6, s1_6, s5_6, (Low.refl _)⟩
    · intro k a7 w7 hk7 h
      obtain ⟨z7, s0_7, s1_7, s5_7, low7⟩ := h
      clear s0_6 s1_6 s5_6 z6
      have hle := fdiff_le la lb zR
      refine c_seq ?_
      refine c_seq ?_
      refine c_region ?_
      refine l_q rfl (q_move _ _ rfl s5_7.ev ?_)
      refine l_q rfl (q_move _ _ rfl (s0_7.ne rfl).ev ?_)
      refine l_q rfl (q_lenF rfl rfl Tryd.underlying30 (At.hit z7.put rfl).ev (hva.low low7) ?_)
      refine l_q rfl (q_lss true rfl (((At.hit z7 rfl).ne rfl).ne rfl).ev (At.hit z7.put.put rfl).ev (decide_eq_true (by omega)) ?_)
      refine l_end ?_
      refine e_fresh z7.put.put.put.put ?_
      intro a8 z8 m8
      have s0_8 := m8 _ _ ((((s0_7.ne rfl).ne rfl).ne rfl).ne rfl)
      have s1_8 := m8 _ _ ((((s1_7.ne rfl).ne rfl).ne rfl).ne rfl)
      have s5_8 := m8 _ _ ((((s5_7.ne rfl).ne rfl).ne rfl).ne rfl)
      have s14_8 := m8 _ _ (At.hit z7.put.put.put rfl)
      clear m8
      refine e_then ?_
      refine c_true s14_8 ?_
      refine wp_skip ?_
      refine e_then ?_
      refine c_seq ?_
      refine wp_block ?_
      refine c_seq ?_
      refine region_low hm (by kernel_rfl) ?_
      refine qs (q_move _ _ rfl s0_8.ev ?_)
      refine qs (q_move _ _ rfl (s5_8.ne rfl).ev ?_)
      refine qs (q_idxF (j := k) rfl Tryd.underlying30 sz46 ((At.hit z8 rfl).ne rfl).ev (hva.low low7) (At.hit z8.put rfl).ev (by omega) ?_)
      refine qs (q_ldR (vs := [.string ((la.getD k zR).f0), .int .i64 ((la.getD k zR).f1), .string ((la.getD k zR).f2)]) rfl Tryd.underlying46 rfl sz46 (At.hit z8.put.put rfl).ev (fun _ h => ((hva.low low7).low h)) (by omega) rfl (flat_part encR_len zR _ k (by omega)) ?_)
      refine qs (q_move _ _ rfl ((((s1_8.ne rfl).ne rfl).ne rfl).ne rfl).ev ?_)
      refine qs (q_move _ _ rfl (((((s5_8.ne rfl).ne rfl).ne rfl).ne rfl).ne rfl).ev ?_)
      refine qs (q_idxF (j := k) rfl Tryd.underlying30 sz46 ((At.hit z8.put.put.put.put rfl).ne rfl).ev (hvb.low low7) (At.hit z8.put.put.put.put.put rfl).ev (by omega) ?_)
      refine qs (q_ldR (vs := [.string ((lb.getD k zR).f0), .int .i64 ((lb.getD k zR).f1), .string ((lb.getD k zR).f2)]) rfl Tryd.underlying46 rfl sz46 (At.hit z8.put.put.put.put.put.put rfl).ev (fun _ h => ((hvb.low low7).low h)) (by omega) rfl (flat_part encR_len zR _ k (by omega)) ?_)
      refine q_fresh z8.put.put.put.put.put.put.put.put ?_
      intro a9 z9 m9
      have s0_9 := m9 _ _ ((((((((s0_8.ne rfl).ne rfl).ne rfl).ne rfl).ne rfl).ne rfl).ne rfl).ne rfl)
      have s1_9 := m9 _ _ ((((((((s1_8.ne rfl).ne rfl).ne rfl).ne rfl).ne rfl).ne rfl).ne rfl).ne rfl)
      have s5_9 := m9 _ _ ((((((((s5_8.ne rfl).ne rfl).ne rfl).ne rfl).ne rfl).ne rfl).ne rfl).ne rfl)
      have s20_9 := m9 _ _ (((((At.hit z8.put.put.put rfl).ne rfl).ne rfl).ne rfl).ne rfl)
      have s24_9 := m9 _ _ (At.hit z8.put.put.put.put.put.put.put rfl)
      clear m9
      refine qs (q_ne3 false rfl guard46 s20_9.ev s24_9.ev (eq46 9998 ((la.getD k zR).f0) ((la.getD k zR).f1) ((la.getD k zR).f2) ((lb.getD k zR).f0) ((lb.getD k zR).f1) ((lb.getD k zR).f2)) (neR_false (fdiff_round (by assumption))) ?_)
      refine qz ?_
      intro w10 h10
      have ova_10 := (hva.low low7).low h10
      have ovb_10 := (hvb.low low7).low h10
      refine e_id ?_
      refine e_fresh z9.put ?_
      intro a11 z11 m11
      have s0_11 := m11 _ _ (s0_9.ne rfl)
      have s1_11 := m11 _ _ (s1_9.ne rfl)
      have s5_11 := m11 _ _ (s5_9.ne rfl)
      have s25_11 := m11 _ _ (At.hit z9 rfl)
      have low11 := (low7.trans h10)
      clear m11
      refine e_then ?_
      refine c_false s25_11 ?_
      refine wp_skip ?_
      refine e_in ?_
      refine e_then ?_
      refine c_region ?_
      refine l_q rfl (q_move _ _ rfl s5_11.ev ?_)
      refine l_q rfl (q_add (((k + 1 : Nat) : Int)) rfl (At.hit z11 rfl).ev rfl (i64_is (by omega) (by omega) (by omega)) ?_)
      refine l_q rfl (q_assign _ _ rfl (At.hit z11.put rfl).ev ?_)
      refine l_end ?_
      refine e_fresh z11.put.put.put ?_
      intro a12 z12 m12
      have s0_12 := m12 _ _ (((s0_11.ne rfl).ne rfl).ne rfl)
      have s1_12 := m12 _ _ (((s1_11.ne rfl).ne rfl).ne rfl)
      have s5_12 := m12 _ _ (At.hit z11.put.put rfl)
      clear m12
      exact ⟨z12, s0_12, s1_12, s5_12, low11⟩
    · intro a13 w13 h
      obtain ⟨z13, s0_13, s1_13, s5_13, low13⟩ := h
      clear s0_6 s1_6 s5_6 z6
      have hle := fdiff_le la lb zR
      refine c_seq ?_
      refine c_seq ?_
      by_cases hb14 : fdiff la lb zR < la.length
      · skip
        refine c_region ?_
        refine l_q rfl (q_move _ _ rfl s5_13.ev ?_)
        refine l_q rfl (q_move _ _ rfl (s0_13.ne rfl).ev ?_)
        refine l_q rfl (q_lenF rfl rfl Tryd.underlying30 (At.hit z13.put rfl).ev (hva.low low13) ?_)
        refine l_q rfl (q_lss true rfl (((At.hit z13 rfl).ne rfl).ne rfl).ev (At.hit z13.put.put rfl).ev (decide_eq_true (by omega)) ?_)
        refine l_end ?_
        refine e_fresh z13.put.put.put.put ?_
        intro a15 z15 m15
        have s0_15 := m15 _ _ ((((s0_13.ne rfl).ne rfl).ne rfl).ne rfl)
        have s1_15 := m15 _ _ ((((s1_13.ne rfl).ne rfl).ne rfl).ne rfl)
        have s5_15 := m15 _ _ ((((s5_13.ne rfl).ne rfl).ne rfl).ne rfl)
        have s14_15 := m15 _ _ (At.hit z13.put.put.put rfl)
        clear m15
        refine e_then ?_
        refine c_true s14_15 ?_
        refine wp_skip ?_
        refine e_then ?_
        refine c_seq ?_
        refine wp_block ?_
        refine c_seq ?_
        refine region_low hm (by kernel_rfl) ?_
        refine qs (q_move _ _ rfl s0_15.ev ?_)
        refine qs (q_move _ _ rfl (s5_15.ne rfl).ev ?_)
        refine qs (q_idxF (j := (fdiff la lb zR)) rfl Tryd.underlying30 sz46 ((At.hit z15 rfl).ne rfl).ev (hva.low low13) (At.hit z15.put rfl).ev (by omega) ?_)
        refine qs (q_ldR (vs := [.string ((la.getD (fdiff la lb zR) zR).f0), .int .i64 ((la.getD (fdiff la lb zR) zR).f1), .string ((la.getD (fdiff la lb zR) zR).f2)]) rfl Tryd.underlying46 rfl sz46 (At.hit z15.put.put rfl).ev (fun _ h => ((hva.low low13).low h)) (by omega) rfl (flat_part encR_len zR _ (fdiff la lb zR) (by omega)) ?_)
        refine qs (q_move _ _ rfl ((((s1_15.ne rfl).ne rfl).ne rfl).ne rfl).ev ?_)
        refine qs (q_move _ _ rfl (((((s5_15.ne rfl).ne rfl).ne rfl).ne rfl).ne rfl).ev ?_)
        refine qs (q_idxF (j := (fdiff la lb zR)) rfl Tryd.underlying30 sz46 ((At.hit z15.put.put.put.put rfl).ne rfl).ev (hvb.low low13) (At.hit z15.put.put.put.put.put rfl).ev (by omega) ?_)
        refine qs (q_ldR (vs := [.string ((lb.getD (fdiff la lb zR) zR).f0), .int .i64 ((lb.getD (fdiff la lb zR) zR).f1), .string ((lb.getD (fdiff la lb zR) zR).f2)]) rfl Tryd.underlying46 rfl sz46 (At.hit z15.put.put.put.put.put.put rfl).ev (fun _ h => ((hvb.low low13).low h)) (by omega) rfl (flat_part encR_len zR _ (fdiff la lb zR) (by omega)) ?_)
        refine q_fresh z15.put.put.put.put.put.put.put.put ?_
        intro a16 z16 m16
        have s5_16 := m16 _ _ ((((((((s5_15.ne rfl).ne rfl).ne rfl).ne rfl).ne rfl).ne rfl).ne rfl).ne rfl)
        have s20_16 := m16 _ _ (((((At.hit z15.put.put.put rfl).ne rfl).ne rfl).ne rfl).ne rfl)
        have s24_16 := m16 _ _ (At.hit z15.put.put.put.put.put.put.put rfl)
        clear m16
        refine qs (q_ne3 true rfl guard46 s20_16.ev s24_16.ev (eq46 9998 ((la.getD (fdiff la lb zR) zR).f0) ((la.getD (fdiff la lb zR) zR).f1) ((la.getD (fdiff la lb zR) zR).f2) ((lb.getD (fdiff la lb zR) zR).f0) ((lb.getD (fdiff la lb zR) zR).f1) ((lb.getD (fdiff la lb zR) zR).f2)) (neR_true (fdiff_stop (by assumption))) ?_)
        refine qz ?_
        intro w17 h17
        have ova_17 := (hva.low low13).low h17
        have ovb_17 := (hvb.low low13).low h17
        refine e_id ?_
        refine e_fresh z16.put ?_
        intro a18 z18 m18
        have s5_18 := m18 _ _ (s5_16.ne rfl)
        have s25_18 := m18 _ _ (At.hit z16 rfl)
        have low18 := (low13.trans h17)
        clear m18
        refine e_then ?_
        refine c_true s25_18 ?_
        refine c_seq ?_
        refine c_region ?_
        refine l_q rfl (q_assign _ _ rfl rfl ?_)
        refine l_end ?_
        refine e_fresh z18.put ?_
        intro a19 z19 m19
        have s4_19 := m19 _ _ (At.hit z18 rfl)
        clear m19
        refine e_then ?_
        refine wp_ret ?_
        refine ret_in ?_
        refine ret_then ?_
        refine ret_then ?_
        refine ret_in ?_
        refine ret_then ?_
        refine r_tmp rfl z19.defers s4_19 ?_
        exact ⟨by rw [decide_eq_false (fdiff_ne hb14)]; rfl, low18⟩
      · skip
        refine c_region ?_
        refine l_q rfl (q_move _ _ rfl s5_13.ev ?_)
        refine l_q rfl (q_move _ _ rfl (s0_13.ne rfl).ev ?_)
        refine l_q rfl (q_lenF rfl rfl Tryd.underlying30 (At.hit z13.put rfl).ev (hva.low low13) ?_)
        refine l_q rfl (q_lss false rfl (((At.hit z13 rfl).ne rfl).ne rfl).ev (At.hit z13.put.put rfl).ev (decide_eq_false (by omega)) ?_)
        refine l_end ?_
        refine e_fresh z13.put.put.put.put ?_
        intro a20 z20 m20
        have s0_20 := m20 _ _ ((((s0_13.ne rfl).ne rfl).ne rfl).ne rfl)
        have s1_20 := m20 _ _ ((((s1_13.ne rfl).ne rfl).ne rfl).ne rfl)
        have s5_20 := m20 _ _ ((((s5_13.ne rfl).ne rfl).ne rfl).ne rfl)
        have s14_20 := m20 _ _ (At.hit z13.put.put.put rfl)
        clear m20
        refine e_then ?_
        refine c_false s14_20 ?_
        refine wp_exit ?_
        refine x_then ?_
        refine x_then ?_
        refine in_exit ?_
        refine e_then ?_
        refine c_seq ?_
        refine c_region ?_
        refine l_q rfl (q_assign _ _ rfl rfl ?_)
        refine l_end ?_
        refine e_fresh z20.put ?_
        intro a21 z21 m21
        have s4_21 := m21 _ _ (At.hit z20 rfl)
        clear m21
        refine e_then ?_
        refine wp_ret ?_
        refine r_tmp rfl z21.defers s4_21 ?_
        exact ⟨by rw [decide_eq_true (fdiff_eq (by omega) hb14)]; rfl, low13⟩
theorem Few.calls (v : Value) (l : List LfL) (w0 : World) (hv : RdF w0 3 v l.length (l.map encL).flatten) : Calls Tryd.prog 12 #[v] w0 fun e w' => e = .returned (.bool (fewB l)) ∧ Low w0 w' := by
  refine c_fun (R := _) Tryd.func12 rfl 30 rfl (Nat.le_of_ble_eq_true rfl) ?_
  intro a z hA
  have s0 := hA 0 _ rfl
  clear hA
  refine c_seq ?_
  refine c_region ?_
  refine l_q rfl (q_assign _ _ rfl rfl ?_)
  refine l_end ?_
  refine e_fresh z.put ?_
  intro a1 z1 m1
  have s0_1 := m1 _ _ (s0.ne rfl)
  clear m1
  refine e_then ?_
  refine c_seq ?_
  refine c_seq ?_
  refine c_region ?_
  refine l_q rfl (q_assign _ _ rfl rfl ?_)
  refine l_end ?_
  refine e_fresh z1.put ?_
  intro a2 z2 m2
  have s0_2 := m2 _ _ (s0_1.ne rfl)
  have s3_2 := m2 _ _ (At.hit z1 rfl)
  clear m2
  refine e_then ?_
  refine wp_block ?_
  refine c_loop (fewN l) (fun k a w => Fr 30 a ∧ At a 0 (v) ∧ At a 3 (.int .i64 ((k : Nat) : Int)) ∧ Low w0 w) ?_ ?_ ?_
  · exact ⟨z2, s0_2, s3_2, (Low.refl _)⟩
  · intro k a3 w3 hk3 h
    obtain ⟨z3, s0_3, s3_3, low3⟩ := h
    clear s0_2 s3_2 z2
    have hle := fewN_le l
    have h60 := fewN_60 l
    obtain ⟨hf0, hf1, hf2⟩ := fewN_round (by assumption)
    refine c_seq ?_
    refine c_seq ?_
    refine c_region ?_
    refine l_q rfl (q_move _ _ rfl s3_3.ev ?_)
    refine l_q rfl (q_move _ _ rfl (s0_3.ne rfl).ev ?_)
    refine l_q rfl (q_lenF rfl rfl Tryd.underlying22 (At.hit z3.put rfl).ev (hv.low low3) ?_)
    refine l_q rfl (q_lss true rfl (((At.hit z3 rfl).ne rfl).ne rfl).ev (At.hit z3.put.put rfl).ev (decide_eq_true (by omega)) ?_)
    refine l_end ?_
    refine e_fresh z3.put.put.put.put ?_
    intro a4 z4 m4
    have s0_4 := m4 _ _ ((((s0_3.ne rfl).ne rfl).ne rfl).ne rfl)
    have s3_4 := m4 _ _ ((((s3_3.ne rfl).ne rfl).ne rfl).ne rfl)
    have s7_4 := m4 _ _ (At.hit z3.put.put.put rfl)
    clear m4
    refine e_then ?_
    refine c_true s7_4 ?_
    refine wp_skip ?_
    refine e_then ?_
    refine c_seq ?_
    refine wp_block ?_
    refine c_seq ?_
    refine c_region ?_
    refine l_q rfl (q_move _ _ rfl s3_4.ev ?_)
    refine l_q rfl (q_geq false rfl (At.hit z4 rfl).ev rfl (decide_eq_false (by omega)) ?_)
    refine l_q rfl (q_move _ _ rfl (At.hit z4.put rfl).ev ?_)
    refine l_qg (wanted_is (j := 2) (d := 12) (b := false) rfl rfl (At.hit z4.put.put rfl) rfl) (q_move _ _ rfl (((s0_4.ne rfl).ne rfl).ne rfl).ev ?_)
    refine l_qg (wanted_is (j := 2) (d := 12) (b := false) rfl rfl ((At.hit z4.put.put rfl).ne rfl) rfl) (q_move _ _ rfl ((((s3_4.ne rfl).ne rfl).ne rfl).ne rfl).ev ?_)
    refine l_qg (wanted_is (j := 2) (d := 12) (b := false) rfl rfl (((At.hit z4.put.put rfl).ne rfl).ne rfl) rfl) (q_idxF (j := k) rfl Tryd.underlying22 sz34 ((At.hit z4.put.put.put rfl).ne rfl).ev (hv.low low3) (At.hit z4.put.put.put.put rfl).ev (by omega) ?_)
    refine l_qg (wanted_is (j := 2) (d := 12) (b := false) rfl rfl ((((At.hit z4.put.put rfl).ne rfl).ne rfl).ne rfl) rfl) (q_fldF 0 rfl fld34_0 (At.hit z4.put.put.put.put.put rfl).ev ((hv.low low3).form (by omega)) ?_)
    refine l_qg (wanted_is (j := 2) (d := 12) (b := false) rfl rfl (((((At.hit z4.put.put rfl).ne rfl).ne rfl).ne rfl).ne rfl) rfl) (q_ld1 (u := .string ((l.getD k zL).f0)) rfl Tryd.underlying9 rfl (At.hit z4.put.put.put.put.put.put rfl).ev (fun _ e => by rw [e]; exact (hv.low low3)) (by omega) ((flat_at encL_len zL _ k 0 (by omega) (by decide)).trans rfl) ?_)
    refine l_fresh z4.put.put.put.put.put.put.put.put ?_
    intro a5 z5 m5
    have s0_5 := m5 _ _ ((((((((s0_4.ne rfl).ne rfl).ne rfl).ne rfl).ne rfl).ne rfl).ne rfl).ne rfl)
    have s3_5 := m5 _ _ ((((((((s3_4.ne rfl).ne rfl).ne rfl).ne rfl).ne rfl).ne rfl).ne rfl).ne rfl)
    have s12_5 := m5 _ _ ((((((At.hit z4.put.put rfl).ne rfl).ne rfl).ne rfl).ne rfl).ne rfl)
    have s17_5 := m5 _ _ (At.hit z4.put.put.put.put.put.put.put rfl)
    clear m5
    refine l_qg (wanted_is (j := 2) (d := 12) (b := false) rfl rfl s12_5 rfl) (q_len rfl rfl Tryd.underlying9 s17_5.ev ?_)
    refine l_qg (wanted_is (j := 2) (d := 12) (b := false) rfl rfl (s12_5.ne rfl) rfl) (q_gtr false rfl (At.hit z5 rfl).ev rfl (decide_eq_false (by omega)) ?_)
    refine l_q rfl (q_pick (b := false) (.bool false) rfl ((s12_5.ne rfl).ne rfl).ev (At.hit z5.put rfl).ev ?_)
    refine l_q rfl (q_move _ _ rfl (At.hit z5.put.put rfl).ev ?_)
    refine l_qg (wanted_is (j := 11) (d := 21) (b := false) rfl rfl (At.hit z5.put.put.put rfl) rfl) (q_move _ _ rfl ((((s0_5.ne rfl).ne rfl).ne rfl).ne rfl).ev ?_)
    refine l_qg (wanted_is (j := 11) (d := 21) (b := false) rfl rfl ((At.hit z5.put.put.put rfl).ne rfl) rfl) (q_move _ _ rfl (((((s3_5.ne rfl).ne rfl).ne rfl).ne rfl).ne rfl).ev ?_)
    refine l_qg (wanted_is (j := 11) (d := 21) (b := false) rfl rfl (((At.hit z5.put.put.put rfl).ne rfl).ne rfl) rfl) (q_idxF (j := k) rfl Tryd.underlying22 sz34 ((At.hit z5.put.put.put.put rfl).ne rfl).ev (hv.low low3) (At.hit z5.put.put.put.put.put rfl).ev (by omega) ?_)
    refine l_qg (wanted_is (j := 11) (d := 21) (b := false) rfl rfl ((((At.hit z5.put.put.put rfl).ne rfl).ne rfl).ne rfl) rfl) (q_fldF 2 rfl fld34_2 (At.hit z5.put.put.put.put.put.put rfl).ev ((hv.low low3).form (by omega)) ?_)
    refine l_fresh z5.put.put.put.put.put.put.put.put ?_
    intro a6 z6 m6
    have s0_6 := m6 _ _ ((((((((s0_5.ne rfl).ne rfl).ne rfl).ne rfl).ne rfl).ne rfl).ne rfl).ne rfl)
    have s3_6 := m6 _ _ ((((((((s3_5.ne rfl).ne rfl).ne rfl).ne rfl).ne rfl).ne rfl).ne rfl).ne rfl)
    have s21_6 := m6 _ _ (((((At.hit z5.put.put.put rfl).ne rfl).ne rfl).ne rfl).ne rfl)
    have s25_6 := m6 _ _ (At.hit z5.put.put.put.put.put.put.put rfl)
    clear m6
    refine l_qg (wanted_is (j := 11) (d := 21) (b := false) rfl rfl s21_6 rfl) (q_ld1 (u := .string ((l.getD k zL).f2)) rfl Tryd.underlying9 rfl s25_6.ev (fun _ e => by rw [e]; exact (hv.low low3)) (by omega) ((flat_at encL_len zL _ k 2 (by omega) (by decide)).trans rfl) ?_)
    refine l_qg (wanted_is (j := 11) (d := 21) (b := false) rfl rfl (s21_6.ne rfl) rfl) (q_len rfl rfl Tryd.underlying9 (At.hit z6 rfl).ev ?_)
    refine l_qg (wanted_is (j := 11) (d := 21) (b := false) rfl rfl ((s21_6.ne rfl).ne rfl) rfl) (q_gtr false rfl (At.hit z6.put rfl).ev rfl (decide_eq_false (by omega)) ?_)
    refine l_q rfl (q_pick (b := false) (.bool false) rfl (((s21_6.ne rfl).ne rfl).ne rfl).ev (At.hit z6.put.put rfl).ev ?_)
    refine l_end ?_
    refine e_fresh z6.put.put.put.put ?_
    intro a7 z7 m7
    have s0_7 := m7 _ _ ((((s0_6.ne rfl).ne rfl).ne rfl).ne rfl)
    have s3_7 := m7 _ _ ((((s3_6.ne rfl).ne rfl).ne rfl).ne rfl)
    have s29_7 := m7 _ _ (At.hit z6.put.put.put rfl)
    clear m7
    refine e_then ?_
    refine c_false s29_7 ?_
    refine wp_skip ?_
    refine e_in ?_
    refine e_then ?_
    refine c_region ?_
    refine l_q rfl (q_move _ _ rfl s3_7.ev ?_)
    refine l_q rfl (q_add (((k + 1 : Nat) : Int)) rfl (At.hit z7 rfl).ev rfl (i64_is (by omega) (by omega) (by omega)) ?_)
    refine l_q rfl (q_assign _ _ rfl (At.hit z7.put rfl).ev ?_)
    refine l_end ?_
    refine e_fresh z7.put.put.put ?_
    intro a8 z8 m8
    have s0_8 := m8 _ _ (((s0_7.ne rfl).ne rfl).ne rfl)
    have s3_8 := m8 _ _ (At.hit z7.put.put rfl)
    clear m8
    exact ⟨z8, s0_8, s3_8, low3⟩
  · intro a9 w9 h
    obtain ⟨z9, s0_9, s3_9, low9⟩ := h
    clear s0_2 s3_2 z2
    have hle := fewN_le l
    have h60 := fewN_60 l
    refine c_seq ?_
    refine c_seq ?_
    by_cases hb10 : fewN l < l.length
    · skip
      refine c_region ?_
      refine l_q rfl (q_move _ _ rfl s3_9.ev ?_)
      refine l_q rfl (q_move _ _ rfl (s0_9.ne rfl).ev ?_)
      refine l_q rfl (q_lenF rfl rfl Tryd.underlying22 (At.hit z9.put rfl).ev (hv.low low9) ?_)
      refine l_q rfl (q_lss true rfl (((At.hit z9 rfl).ne rfl).ne rfl).ev (At.hit z9.put.put rfl).ev (decide_eq_true (by omega)) ?_)
      refine l_end ?_
      refine e_fresh z9.put.put.put.put ?_
      intro a11 z11 m11
      have s0_11 := m11 _ _ ((((s0_9.ne rfl).ne rfl).ne rfl).ne rfl)
      have s3_11 := m11 _ _ ((((s3_9.ne rfl).ne rfl).ne rfl).ne rfl)
      have s7_11 := m11 _ _ (At.hit z9.put.put.put rfl)
      clear m11
      refine e_then ?_
      refine c_true s7_11 ?_
      refine wp_skip ?_
      refine e_then ?_
      refine c_seq ?_
      refine wp_block ?_
      refine c_seq ?_
      by_cases hb12 : 60 ≤ fewN l
      · skip
        refine c_region ?_
        refine l_q rfl (q_move _ _ rfl s3_11.ev ?_)
        refine l_q rfl (q_geq true rfl (At.hit z11 rfl).ev rfl (decide_eq_true (by omega)) ?_)
        refine l_q rfl (q_move _ _ rfl (At.hit z11.put rfl).ev ?_)
        refine l_skip (wanted_is (j := 2) (d := 12) (b := true) rfl rfl (At.hit z11.put.put rfl) rfl) ?_
        refine l_skip (wanted_is (j := 2) (d := 12) (b := true) rfl rfl ((At.hit z11.put.put rfl).ne rfl) rfl) ?_
        refine l_skip (wanted_is (j := 2) (d := 12) (b := true) rfl rfl (((At.hit z11.put.put rfl).ne rfl).ne rfl) rfl) ?_
        refine l_skip (wanted_is (j := 2) (d := 12) (b := true) rfl rfl ((((At.hit z11.put.put rfl).ne rfl).ne rfl).ne rfl) rfl) ?_
        refine l_skip (wanted_is (j := 2) (d := 12) (b := true) rfl rfl (((((At.hit z11.put.put rfl).ne rfl).ne rfl).ne rfl).ne rfl) rfl) ?_
        refine l_fresh z11.put.put.put.put.put.put.put.put ?_
        intro a13 z13 m13
        have s0_13 := m13 _ _ ((((((((s0_11.ne rfl).ne rfl).ne rfl).ne rfl).ne rfl).ne rfl).ne rfl).ne rfl)
        have s3_13 := m13 _ _ ((((((((s3_11.ne rfl).ne rfl).ne rfl).ne rfl).ne rfl).ne rfl).ne rfl).ne rfl)
        have s12_13 := m13 _ _ ((((((At.hit z11.put.put rfl).ne rfl).ne rfl).ne rfl).ne rfl).ne rfl)
        have s17_13 := m13 _ _ (At.hit z11.put.put.put.put.put.put.put rfl)
        clear m13
        refine l_skip (wanted_is (j := 2) (d := 12) (b := true) rfl rfl s12_13 rfl) ?_
        refine l_skip (wanted_is (j := 2) (d := 12) (b := true) rfl rfl (s12_13.ne rfl) rfl) ?_
        refine l_q rfl (q_pick (b := true) (.bool true) rfl ((s12_13.ne rfl).ne rfl).ev rfl ?_)
        refine l_q rfl (q_move _ _ rfl (At.hit z13.put.put rfl).ev ?_)
        refine l_skip (wanted_is (j := 11) (d := 21) (b := true) rfl rfl (At.hit z13.put.put.put rfl) rfl) ?_
        refine l_skip (wanted_is (j := 11) (d := 21) (b := true) rfl rfl ((At.hit z13.put.put.put rfl).ne rfl) rfl) ?_
        refine l_skip (wanted_is (j := 11) (d := 21) (b := true) rfl rfl (((At.hit z13.put.put.put rfl).ne rfl).ne rfl) rfl) ?_
        refine l_skip (wanted_is (j := 11) (d := 21) (b := true) rfl rfl ((((At.hit z13.put.put.put rfl).ne rfl).ne rfl).ne rfl) rfl) ?_
        refine l_fresh z13.put.put.put.put.put.put.put.put ?_
        intro a14 z14 m14
        have s3_14 := m14 _ _ ((((((((s3_13.ne rfl).ne rfl).ne rfl).ne rfl).ne rfl).ne rfl).ne rfl).ne rfl)
        have s21_14 := m14 _ _ (((((At.hit z13.put.put.put rfl).ne rfl).ne rfl).ne rfl).ne rfl)
        have s25_14 := m14 _ _ (At.hit z13.put.put.put.put.put.put.put rfl)
        clear m14
        refine l_skip (wanted_is (j := 11) (d := 21) (b := true) rfl rfl s21_14 rfl) ?_
        refine l_skip (wanted_is (j := 11) (d := 21) (b := true) rfl rfl (s21_14.ne rfl) rfl) ?_
        refine l_skip (wanted_is (j := 11) (d := 21) (b := true) rfl rfl ((s21_14.ne rfl).ne rfl) rfl) ?_
        refine l_q rfl (q_pick (b := true) (.bool true) rfl (((s21_14.ne rfl).ne rfl).ne rfl).ev rfl ?_)
        refine l_end ?_
        refine e_fresh z14.put.put.put.put ?_
        intro a15 z15 m15
        have s3_15 := m15 _ _ ((((s3_14.ne rfl).ne rfl).ne rfl).ne rfl)
        have s29_15 := m15 _ _ (At.hit z14.put.put.put rfl)
        clear m15
        refine e_then ?_
        refine c_true s29_15 ?_
        refine c_seq ?_
        refine c_region ?_
        refine l_q rfl (q_assign _ _ rfl rfl ?_)
        refine l_end ?_
        refine e_fresh z15.put ?_
        intro a16 z16 m16
        have s2_16 := m16 _ _ (At.hit z15 rfl)
        clear m16
        refine e_then ?_
        refine wp_ret ?_
        refine ret_in ?_
        refine ret_then ?_
        refine ret_then ?_
        refine ret_in ?_
        refine ret_then ?_
        refine r_tmp rfl z16.defers s2_16 ?_
        exact ⟨by unfold fewB; rw [decide_eq_true hb10]; rfl, low9⟩
      · skip
        by_cases hb17 : 400 < (l.getD (fewN l) zL).f0.size
        · skip
          refine c_region ?_
          refine l_q rfl (q_move _ _ rfl s3_11.ev ?_)
          refine l_q rfl (q_geq false rfl (At.hit z11 rfl).ev rfl (decide_eq_false (by omega)) ?_)
          refine l_q rfl (q_move _ _ rfl (At.hit z11.put rfl).ev ?_)
          refine l_qg (wanted_is (j := 2) (d := 12) (b := false) rfl rfl (At.hit z11.put.put rfl) rfl) (q_move _ _ rfl (((s0_11.ne rfl).ne rfl).ne rfl).ev ?_)
          refine l_qg (wanted_is (j := 2) (d := 12) (b := false) rfl rfl ((At.hit z11.put.put rfl).ne rfl) rfl) (q_move _ _ rfl ((((s3_11.ne rfl).ne rfl).ne rfl).ne rfl).ev ?_)
          refine l_qg (wanted_is (j := 2) (d := 12) (b := false) rfl rfl (((At.hit z11.put.put rfl).ne rfl).ne rfl) rfl) (q_idxF (j := (fewN l)) rfl Tryd.underlying22 sz34 ((At.hit z11.put.put.put rfl).ne rfl).ev (hv.low low9) (At.hit z11.put.put.put.put rfl).ev (by omega) ?_)
          refine l_qg (wanted_is (j := 2) (d := 12) (b := false) rfl rfl ((((At.hit z11.put.put rfl).ne rfl).ne rfl).ne rfl) rfl) (q_fldF 0 rfl fld34_0 (At.hit z11.put.put.put.put.put rfl).ev ((hv.low low9).form (by omega)) ?_)
          refine l_qg (wanted_is (j := 2) (d := 12) (b := false) rfl rfl (((((At.hit z11.put.put rfl).ne rfl).ne rfl).ne rfl).ne rfl) rfl) (q_ld1 (u := .string ((l.getD (fewN l) zL).f0)) rfl Tryd.underlying9 rfl (At.hit z11.put.put.put.put.put.put rfl).ev (fun _ e => by rw [e]; exact (hv.low low9)) (by omega) ((flat_at encL_len zL _ (fewN l) 0 (by omega) (by decide)).trans rfl) ?_)
          refine l_fresh z11.put.put.put.put.put.put.put.put ?_
          intro a18 z18 m18
          have s0_18 := m18 _ _ ((((((((s0_11.ne rfl).ne rfl).ne rfl).ne rfl).ne rfl).ne rfl).ne rfl).ne rfl)
          have s3_18 := m18 _ _ ((((((((s3_11.ne rfl).ne rfl).ne rfl).ne rfl).ne rfl).ne rfl).ne rfl).ne rfl)
          have s12_18 := m18 _ _ ((((((At.hit z11.put.put rfl).ne rfl).ne rfl).ne rfl).ne rfl).ne rfl)
          have s17_18 := m18 _ _ (At.hit z11.put.put.put.put.put.put.put rfl)
          clear m18
          refine l_qg (wanted_is (j := 2) (d := 12) (b := false) rfl rfl s12_18 rfl) (q_len rfl rfl Tryd.underlying9 s17_18.ev ?_)
          refine l_qg (wanted_is (j := 2) (d := 12) (b := false) rfl rfl (s12_18.ne rfl) rfl) (q_gtr true rfl (At.hit z18 rfl).ev rfl (decide_eq_true (by omega)) ?_)
          refine l_q rfl (q_pick (b := false) (.bool true) rfl ((s12_18.ne rfl).ne rfl).ev (At.hit z18.put rfl).ev ?_)
          refine l_q rfl (q_move _ _ rfl (At.hit z18.put.put rfl).ev ?_)
          refine l_skip (wanted_is (j := 11) (d := 21) (b := true) rfl rfl (At.hit z18.put.put.put rfl) rfl) ?_
          refine l_skip (wanted_is (j := 11) (d := 21) (b := true) rfl rfl ((At.hit z18.put.put.put rfl).ne rfl) rfl) ?_
          refine l_skip (wanted_is (j := 11) (d := 21) (b := true) rfl rfl (((At.hit z18.put.put.put rfl).ne rfl).ne rfl) rfl) ?_
          refine l_skip (wanted_is (j := 11) (d := 21) (b := true) rfl rfl ((((At.hit z18.put.put.put rfl).ne rfl).ne rfl).ne rfl) rfl) ?_
          refine l_fresh z18.put.put.put.put.put.put.put.put ?_
          intro a19 z19 m19
          have s3_19 := m19 _ _ ((((((((s3_18.ne rfl).ne rfl).ne rfl).ne rfl).ne rfl).ne rfl).ne rfl).ne rfl)
          have s21_19 := m19 _ _ (((((At.hit z18.put.put.put rfl).ne rfl).ne rfl).ne rfl).ne rfl)
          have s25_19 := m19 _ _ (At.hit z18.put.put.put.put.put.put.put rfl)
          clear m19
          refine l_skip (wanted_is (j := 11) (d := 21) (b := true) rfl rfl s21_19 rfl) ?_
          refine l_skip (wanted_is (j := 11) (d := 21) (b := true) rfl rfl (s21_19.ne rfl) rfl) ?_
          refine l_skip (wanted_is (j := 11) (d := 21) (b := true) rfl rfl ((s21_19.ne rfl).ne rfl) rfl) ?_
          refine l_q rfl (q_pick (b := true) (.bool true) rfl (((s21_19.ne rfl).ne rfl).ne rfl).ev rfl ?_)
          refine l_end ?_
          refine e_fresh z19.put.put.put.put ?_
          intro a20 z20 m20
          have s3_20 := m20 _ _ ((((s3_19.ne rfl).ne rfl).ne rfl).ne rfl)
          have s29_20 := m20 _ _ (At.hit z19.put.put.put rfl)
          clear m20
          refine e_then ?_
          refine c_true s29_20 ?_
          refine c_seq ?_
          refine c_region ?_
          refine l_q rfl (q_assign _ _ rfl rfl ?_)
          refine l_end ?_
          refine e_fresh z20.put ?_
          intro a21 z21 m21
          have s2_21 := m21 _ _ (At.hit z20 rfl)
          clear m21
          refine e_then ?_
          refine wp_ret ?_
          refine ret_in ?_
          refine ret_then ?_
          refine ret_then ?_
          refine ret_in ?_
          refine ret_then ?_
          refine r_tmp rfl z21.defers s2_21 ?_
          exact ⟨by unfold fewB; rw [decide_eq_true hb10]; rfl, low9⟩
        · skip
          by_cases hb22 : 100 < (l.getD (fewN l) zL).f2.size
          · skip
            refine c_region ?_
            refine l_q rfl (q_move _ _ rfl s3_11.ev ?_)
            refine l_q rfl (q_geq false rfl (At.hit z11 rfl).ev rfl (decide_eq_false (by omega)) ?_)
            refine l_q rfl (q_move _ _ rfl (At.hit z11.put rfl).ev ?_)
            refine l_qg (wanted_is (j := 2) (d := 12) (b := false) rfl rfl (At.hit z11.put.put rfl) rfl) (q_move _ _ rfl (((s0_11.ne rfl).ne rfl).ne rfl).ev ?_)
            refine l_qg (wanted_is (j := 2) (d := 12) (b := false) rfl rfl ((At.hit z11.put.put rfl).ne rfl) rfl) (q_move _ _ rfl ((((s3_11.ne rfl).ne rfl).ne rfl).ne rfl).ev ?_)
            refine l_qg (wanted_is (j := 2) (d := 12) (b := false) rfl rfl (((At.hit z11.put.put rfl).ne rfl).ne rfl) rfl) (q_idxF (j := (fewN l)) rfl Tryd.underlying22 sz34 ((At.hit z11.put.put.put rfl).ne rfl).ev (hv.low low9) (At.hit z11.put.put.put.put rfl).ev (by omega) ?_)
            refine l_qg (wanted_is (j := 2) (d := 12) (b := false) rfl rfl ((((At.hit z11.put.put rfl).ne rfl).ne rfl).ne rfl) rfl) (q_fldF 0 rfl fld34_0 (At.hit z11.put.put.put.put.put rfl).ev ((hv.low low9).form (by omega)) ?_)
            refine l_qg (wanted_is (j := 2) (d := 12) (b := false) rfl rfl (((((At.hit z11.put.put rfl).ne rfl).ne rfl).ne rfl).ne rfl) rfl) (q_ld1 (u := .string ((l.getD (fewN l) zL).f0)) rfl Tryd.underlying9 rfl (At.hit z11.put.put.put.put.put.put rfl).ev (fun _ e => by rw [e]; exact (hv.low low9)) (by omega) ((flat_at encL_len zL _ (fewN l) 0 (by omega) (by decide)).trans rfl) ?_)
            refine l_fresh z11.put.put.put.put.put.put.put.put ?_
            intro a23 z23 m23
            have s0_23 := m23 _ _ ((((((((s0_11.ne rfl).ne rfl).ne rfl).ne rfl).ne rfl).ne rfl).ne rfl).ne rfl)
            have s3_23 := m23 _ _ ((((((((s3_11.ne rfl).ne rfl).ne rfl).ne rfl).ne rfl).ne rfl).ne rfl).ne rfl)
            have s12_23 := m23 _ _ ((((((At.hit z11.put.put rfl).ne rfl).ne rfl).ne rfl).ne rfl).ne rfl)
            have s17_23 := m23 _ _ (At.hit z11.put.put.put.put.put.put.put rfl)
            clear m23
            refine l_qg (wanted_is (j := 2) (d := 12) (b := false) rfl rfl s12_23 rfl) (q_len rfl rfl Tryd.underlying9 s17_23.ev ?_)
            refine l_qg (wanted_is (j := 2) (d := 12) (b := false) rfl rfl (s12_23.ne rfl) rfl) (q_gtr false rfl (At.hit z23 rfl).ev rfl (decide_eq_false (by omega)) ?_)
            refine l_q rfl (q_pick (b := false) (.bool false) rfl ((s12_23.ne rfl).ne rfl).ev (At.hit z23.put rfl).ev ?_)
            refine l_q rfl (q_move _ _ rfl (At.hit z23.put.put rfl).ev ?_)
            refine l_qg (wanted_is (j := 11) (d := 21) (b := false) rfl rfl (At.hit z23.put.put.put rfl) rfl) (q_move _ _ rfl ((((s0_23.ne rfl).ne rfl).ne rfl).ne rfl).ev ?_)
            refine l_qg (wanted_is (j := 11) (d := 21) (b := false) rfl rfl ((At.hit z23.put.put.put rfl).ne rfl) rfl) (q_move _ _ rfl (((((s3_23.ne rfl).ne rfl).ne rfl).ne rfl).ne rfl).ev ?_)
            refine l_qg (wanted_is (j := 11) (d := 21) (b := false) rfl rfl (((At.hit z23.put.put.put rfl).ne rfl).ne rfl) rfl) (q_idxF (j := (fewN l)) rfl Tryd.underlying22 sz34 ((At.hit z23.put.put.put.put rfl).ne rfl).ev (hv.low low9) (At.hit z23.put.put.put.put.put rfl).ev (by omega) ?_)
            refine l_qg (wanted_is (j := 11) (d := 21) (b := false) rfl rfl ((((At.hit z23.put.put.put rfl).ne rfl).ne rfl).ne rfl) rfl) (q_fldF 2 rfl fld34_2 (At.hit z23.put.put.put.put.put.put rfl).ev ((hv.low low9).form (by omega)) ?_)
            refine l_fresh z23.put.put.put.put.put.put.put.put ?_
            intro a24 z24 m24
            have s3_24 := m24 _ _ ((((((((s3_23.ne rfl).ne rfl).ne rfl).ne rfl).ne rfl).ne rfl).ne rfl).ne rfl)
            have s21_24 := m24 _ _ (((((At.hit z23.put.put.put rfl).ne rfl).ne rfl).ne rfl).ne rfl)
            have s25_24 := m24 _ _ (At.hit z23.put.put.put.put.put.put.put rfl)
            clear m24
            refine l_qg (wanted_is (j := 11) (d := 21) (b := false) rfl rfl s21_24 rfl) (q_ld1 (u := .string ((l.getD (fewN l) zL).f2)) rfl Tryd.underlying9 rfl s25_24.ev (fun _ e => by rw [e]; exact (hv.low low9)) (by omega) ((flat_at encL_len zL _ (fewN l) 2 (by omega) (by decide)).trans rfl) ?_)
            refine l_qg (wanted_is (j := 11) (d := 21) (b := false) rfl rfl (s21_24.ne rfl) rfl) (q_len rfl rfl Tryd.underlying9 (At.hit z24 rfl).ev ?_)
            refine l_qg (wanted_is (j := 11) (d := 21) (b := false) rfl rfl ((s21_24.ne rfl).ne rfl) rfl) (q_gtr true rfl (At.hit z24.put rfl).ev rfl (decide_eq_true (by omega)) ?_)
            refine l_q rfl (q_pick (b := false) (.bool true) rfl (((s21_24.ne rfl).ne rfl).ne rfl).ev (At.hit z24.put.put rfl).ev ?_)
            refine l_end ?_
            refine e_fresh z24.put.put.put.put ?_
            intro a25 z25 m25
            have s3_25 := m25 _ _ ((((s3_24.ne rfl).ne rfl).ne rfl).ne rfl)
            have s29_25 := m25 _ _ (At.hit z24.put.put.put rfl)
            clear m25
            refine e_then ?_
            refine c_true s29_25 ?_
            refine c_seq ?_
            refine c_region ?_
            refine l_q rfl (q_assign _ _ rfl rfl ?_)
            refine l_end ?_
            refine e_fresh z25.put ?_
            intro a26 z26 m26
            have s2_26 := m26 _ _ (At.hit z25 rfl)
            clear m26
            refine e_then ?_
            refine wp_ret ?_
            refine ret_in ?_
            refine ret_then ?_
            refine ret_then ?_
            refine ret_in ?_
            refine ret_then ?_
            refine r_tmp rfl z26.defers s2_26 ?_
            exact ⟨by unfold fewB; rw [decide_eq_true hb10]; rfl, low9⟩
          · skip
            refine c_region ?_
            refine l_q rfl (q_move _ _ rfl s3_11.ev ?_)
            refine l_q rfl (q_geq false rfl (At.hit z11 rfl).ev rfl (decide_eq_false (by omega)) ?_)
            refine l_q rfl (q_move _ _ rfl (At.hit z11.put rfl).ev ?_)
            refine l_qg (wanted_is (j := 2) (d := 12) (b := false) rfl rfl (At.hit z11.put.put rfl) rfl) (q_move _ _ rfl (((s0_11.ne rfl).ne rfl).ne rfl).ev ?_)
            refine l_qg (wanted_is (j := 2) (d := 12) (b := false) rfl rfl ((At.hit z11.put.put rfl).ne rfl) rfl) (q_move _ _ rfl ((((s3_11.ne rfl).ne rfl).ne rfl).ne rfl).ev ?_)
            refine l_qg (wanted_is (j := 2) (d := 12) (b := false) rfl rfl (((At.hit z11.put.put rfl).ne rfl).ne rfl) rfl) (q_idxF (j := (fewN l)) rfl Tryd.underlying22 sz34 ((At.hit z11.put.put.put rfl).ne rfl).ev (hv.low low9) (At.hit z11.put.put.put.put rfl).ev (by omega) ?_)
            refine l_qg (wanted_is (j := 2) (d := 12) (b := false) rfl rfl ((((At.hit z11.put.put rfl).ne rfl).ne rfl).ne rfl) rfl) (q_fldF 0 rfl fld34_0 (At.hit z11.put.put.put.put.put rfl).ev ((hv.low low9).form (by omega)) ?_)
            refine l_qg (wanted_is (j := 2) (d := 12) (b := false) rfl rfl (((((At.hit z11.put.put rfl).ne rfl).ne rfl).ne rfl).ne rfl) rfl) (q_ld1 (u := .string ((l.getD (fewN l) zL).f0)) rfl Tryd.underlying9 rfl (At.hit z11.put.put.put.put.put.put rfl).ev (fun _ e => by rw [e]; exact (hv.low low9)) (by omega) ((flat_at encL_len zL _ (fewN l) 0 (by omega) (by decide)).trans rfl) ?_)
            refine l_fresh z11.put.put.put.put.put.put.put.put ?_
            intro a27 z27 m27
            have s0_27 := m27 _ _ ((((((((s0_11.ne rfl).ne rfl).ne rfl).ne rfl).ne rfl).ne rfl).ne rfl).ne rfl)
            have s3_27 := m27 _ _ ((((((((s3_11.ne rfl).ne rfl).ne rfl).ne rfl).ne rfl).ne rfl).ne rfl).ne rfl)
            have s12_27 := m27 _ _ ((((((At.hit z11.put.put rfl).ne rfl).ne rfl).ne rfl).ne rfl).ne rfl)
            have s17_27 := m27 _ _ (At.hit z11.put.put.put.put.put.put.put rfl)
            clear m27
            refine l_qg (wanted_is (j := 2) (d := 12) (b := false) rfl rfl s12_27 rfl) (q_len rfl rfl Tryd.underlying9 s17_27.ev ?_)
            refine l_qg (wanted_is (j := 2) (d := 12) (b := false) rfl rfl (s12_27.ne rfl) rfl) (q_gtr false rfl (At.hit z27 rfl).ev rfl (decide_eq_false (by omega)) ?_)
            refine l_q rfl (q_pick (b := false) (.bool false) rfl ((s12_27.ne rfl).ne rfl).ev (At.hit z27.put rfl).ev ?_)
            refine l_q rfl (q_move _ _ rfl (At.hit z27.put.put rfl).ev ?_)
            refine l_qg (wanted_is (j := 11) (d := 21) (b := false) rfl rfl (At.hit z27.put.put.put rfl) rfl) (q_move _ _ rfl ((((s0_27.ne rfl).ne rfl).ne rfl).ne rfl).ev ?_)
            refine l_qg (wanted_is (j := 11) (d := 21) (b := false) rfl rfl ((At.hit z27.put.put.put rfl).ne rfl) rfl) (q_move _ _ rfl (((((s3_27.ne rfl).ne rfl).ne rfl).ne rfl).ne rfl).ev ?_)
            refine l_qg (wanted_is (j := 11) (d := 21) (b := false) rfl rfl (((At.hit z27.put.put.put rfl).ne rfl).ne rfl) rfl) (q_idxF (j := (fewN l)) rfl Tryd.underlying22 sz34 ((At.hit z27.put.put.put.put rfl).ne rfl).ev (hv.low low9) (At.hit z27.put.put.put.put.put rfl).ev (by omega) ?_)
            refine l_qg (wanted_is (j := 11) (d := 21) (b := false) rfl rfl ((((At.hit z27.put.put.put rfl).ne rfl).ne rfl).ne rfl) rfl) (q_fldF 2 rfl fld34_2 (At.hit z27.put.put.put.put.put.put rfl).ev ((hv.low low9).form (by omega)) ?_)
            refine l_fresh z27.put.put.put.put.put.put.put.put ?_
            intro a28 z28 m28
            have s3_28 := m28 _ _ ((((((((s3_27.ne rfl).ne rfl).ne rfl).ne rfl).ne rfl).ne rfl).ne rfl).ne rfl)
            have s21_28 := m28 _ _ (((((At.hit z27.put.put.put rfl).ne rfl).ne rfl).ne rfl).ne rfl)
            have s25_28 := m28 _ _ (At.hit z27.put.put.put.put.put.put.put rfl)
            clear m28
            refine l_qg (wanted_is (j := 11) (d := 21) (b := false) rfl rfl s21_28 rfl) (q_ld1 (u := .string ((l.getD (fewN l) zL).f2)) rfl Tryd.underlying9 rfl s25_28.ev (fun _ e => by rw [e]; exact (hv.low low9)) (by omega) ((flat_at encL_len zL _ (fewN l) 2 (by omega) (by decide)).trans rfl) ?_)
            refine l_qg (wanted_is (j := 11) (d := 21) (b := false) rfl rfl (s21_28.ne rfl) rfl) (q_len rfl rfl Tryd.underlying9 (At.hit z28 rfl).ev ?_)
            refine l_qg (wanted_is (j := 11) (d := 21) (b := false) rfl rfl ((s21_28.ne rfl).ne rfl) rfl) (q_gtr false rfl (At.hit z28.put rfl).ev rfl (decide_eq_false (by omega)) ?_)
            refine l_q rfl (q_pick (b := false) (.bool false) rfl (((s21_28.ne rfl).ne rfl).ne rfl).ev (At.hit z28.put.put rfl).ev ?_)
            refine l_end ?_
            refine e_fresh z28.put.put.put.put ?_
            intro a29 z29 m29
            have s3_29 := m29 _ _ ((((s3_28.ne rfl).ne rfl).ne rfl).ne rfl)
            have s29_29 := m29 _ _ (At.hit z28.put.put.put rfl)
            clear m29
            refine e_then ?_
            refine c_false s29_29 ?_
            refine wp_skip ?_
            refine e_in ?_
            refine e_then ?_
            refine c_region ?_
            refine l_q rfl (q_move _ _ rfl s3_29.ev ?_)
            refine l_q rfl (q_add ((((fewN l) + 1 : Nat) : Int)) rfl (At.hit z29 rfl).ev rfl (i64_is (by omega) (by omega) (by omega)) ?_)
            refine l_q rfl (q_assign _ _ rfl (At.hit z29.put rfl).ev ?_)
            refine l_end ?_
            refine e_fresh z29.put.put.put ?_
            intro a30 z30 m30
            clear m30
            exact absurd ⟨Nat.lt_of_not_le hb12, Nat.le_of_not_lt hb17, Nat.le_of_not_lt hb22⟩ (fewN_stop hb10)
    · skip
      refine c_region ?_
      refine l_q rfl (q_move _ _ rfl s3_9.ev ?_)
      refine l_q rfl (q_move _ _ rfl (s0_9.ne rfl).ev ?_)
      refine l_q rfl (q_lenF rfl rfl Tryd.underlying22 (At.hit z9.put rfl).ev (hv.low low9) ?_)
      refine l_q rfl (q_lss false rfl (((At.hit z9 rfl).ne rfl).ne rfl).ev (At.hit z9.put.put rfl).ev (decide_eq_false (by omega)) ?_)
      refine l_end ?_
      refine e_fresh z9.put.put.put.put ?_
      intro a31 z31 m31
      have s0_31 := m31 _ _ ((((s0_9.ne rfl).ne rfl).ne rfl).ne rfl)
      have s3_31 := m31 _ _ ((((s3_9.ne rfl).ne rfl).ne rfl).ne rfl)
      have s7_31 := m31 _ _ (At.hit z9.put.put.put rfl)
      clear m31
      refine e_then ?_
      refine c_false s7_31 ?_
      refine wp_exit ?_
      refine x_then ?_
      refine x_then ?_
      refine in_exit ?_
      refine e_then ?_
      refine c_seq ?_
      refine c_region ?_
      refine l_q rfl (q_assign _ _ rfl rfl ?_)
      refine l_end ?_
      refine e_fresh z31.put ?_
      intro a32 z32 m32
      have s2_32 := m32 _ _ (At.hit z31 rfl)
      clear m32
      refine e_then ?_
      refine wp_ret ?_
      refine r_tmp rfl z32.defers s2_32 ?_
      exact ⟨by unfold fewB; rw [decide_eq_false hb10]; rfl, low9⟩
end Go.Proofs.YtenbgnlkkmnmhaaDoor.Q
end
/-! Q19 -/
section
namespace Go.Proofs.YtenbgnlkkmnmhaaDoor.Q
open Go.RowKit
set_option linter.unusedVariables false
set_option linter.unusedSimpArgs false
section
variable {P : Program} {Q : Exit → Act → World → Prop} {a : Act} {w : World} {o : Oper} {ops : Array Oper} {rest : List Oper}
def bare (o : Oper) : Oper := { o with guard := none }
theorem bare_wp (o : Oper) {P : Program} {a : Act} {w : World} {K : Act → World → Prop} {Q : Exit → Act → World → Prop} : (bare o).wp P a w K Q = o.wp P a w K Q := by cases o; rfl
theorem bare_dstAt (l : List Oper) (i : Nat) : dstAt (l.map bare) i = dstAt l i := by
  rw [← dstOf_eq, ← dstOf_eq]
  unfold dstOf
  rw [List.getElem?_map]
  cases l[i]? <;> rfl
theorem bare_notDst (l : List Oper) (t : Nat) : notDst (l.map bare) t = notDst l t := by
  unfold notDst
  rw [List.all_map]
  rfl
def AllG (l : List Oper) (T : Nat → Value → World → Prop) : Nat → List Oper → Prop
  | k, o :: r => (o.guard = none ∨ ∃ j want d, o.guard = some (j, want) ∧ depB o j = true ∧ dstAt l j = some d ∧ ∀ v w, T j v w → v = .bool want) ∧ AllG l T (k + 1) r
  | _, [] => True
theorem allG_none {l : List Oper} {T : Nat → Value → World → Prop} {k : Nat} {o : Oper} {r : List Oper} (h : o.guard = none) (h' : AllG l T (k + 1) r) : AllG l T k (o :: r) := ⟨.inl h, h'⟩
theorem allG_some {l : List Oper} {T : Nat → Value → World → Prop} {k : Nat} {o : Oper} {r : List Oper} (j : Nat) (want : Bool) (d : Nat) (h : o.guard = some (j, want)) (hd : depB o j = true) (hdj : dstAt l j = some d) (hT : ∀ v w, T j v w → v = .bool want) (h' : AllG l T (k + 1) r) : AllG l T k (o :: r) := ⟨.inr ⟨j, want, d, h, hd, hdj, hT⟩, h'⟩
theorem allG_nil {l : List Oper} {T : Nat → Value → World → Prop} {k : Nat} : AllG l T k [] := trivial
theorem allG_spec {T : Nat → Value → World → Prop} {l : List Oper} : ∀ (r : List Oper) (k0 : Nat), AllG l T k0 r → ∀ (k : Nat) (o : Oper), r[k]? = some o → (o.guard = none ∨ ∃ j want d, o.guard = some (j, want) ∧ depB o j = true ∧ dstAt l j = some d ∧ ∀ v w, T j v w → v = .bool want)
  | [], _, _, k, o, h => by simp at h
  | o :: r, k0, h, k, o', ho => by
    cases k with
    | zero =>
      simp only [List.getElem?_cons_zero, Option.some.injEq] at ho
      subst ho
      exact h.1
    | succ k => exact allG_spec r (k0 + 1) h.2 k o' (by simpa using ho)
/-- the region, by a relation over what is listed -/
theorem region_invg {id : Nat} {W : World} {l : List Oper} (I : Array Bool → Act → World → Prop) (hm : P.follows .mixedOrders = true) (hB : backB .any l.toArray = true)
    (h0 : I (Array.replicate l.length false) a { W with drawn := W.drawn + 1 })
    (step : ∀ (i : Nat) (o : Oper) (L : Array Bool) (a : Act) (w : World), l[i]? = some o → L.size = l.length → L.getD i true = false → (∀ e ∈ o.after, Region.binds .any e = true → L.getD e.on false = true) → I L a w → Region.wanted o (yielded l.toArray a.tmps) = true ∧ o.wp P a w (I (L.setIfInBounds i true)) Q)
    (done : ∀ (L : Array Bool) (a : Act) (w : World), L.size = l.length → (∀ i, i < l.length → L.getD i false = true) → I L a w → Q .normal a w) : (Code.region id l.toArray true).wp P Q a W := by
  refine wp_region_any hm ?_
  have key : ∀ (fuel : Nat) (L : Array Bool) (a : Act) (w : World), L.size = l.length → L.toList.count false = fuel → I L a w → wpAny P .any l.toArray Q fuel L a w := by
    intro fuel
    have nrd : ∀ (L : Array Bool), L.size = l.length → L.toList.count false ≠ 0 → Region.ready .any l.toArray L ≠ [] := by
      intro L hL hc hnil
      apply hc
      apply List.count_eq_zero.2
      intro hmem
      obtain ⟨i, hi, hf⟩ := List.getElem_of_mem hmem
      simp only [Array.length_toList] at hi
      refine some_ready (ops := l.toArray) (by simpa using hL) hB i (by simpa [hL] using hi) ?_ hnil
      simp only [Array.getElem_toList] at hf
      simp [Array.getD_eq_getD_getElem?, hi, hf]
    induction fuel with
    | zero =>
      intro L a w hL hc hI
      have hall : ∀ i, i < l.length → L.getD i false = true := fun i hi => by
        have := count_zero L.toList hc i (by simpa [hL] using hi)
        simpa [Array.getD_eq_getD_getElem?, List.getD_eq_getElem?_getD] using this
      refine ⟨?_, done L a w hL hall hI⟩
      rw [List.eq_nil_iff_forall_not_mem]
      intro j hj
      obtain ⟨hju, o, ho, _⟩ := mem_ready.1 hj
      have hjl : j < l.length := by have := (Array.getElem?_eq_some_iff.1 ho).1; simpa using this
      have := hall j hjl
      rw [getD_both hju] at this
      cases this
    | succ fuel ih =>
      intro L a w hL hc hI
      refine ⟨fun h => absurd h (nrd L hL (by omega)), fun i hi => ?_⟩
      obtain ⟨hun, o, ho, hall⟩ := mem_ready.1 hi
      have hol : l[i]? = some o := by simpa using ho
      unfold wpOp
      simp only [ho]
      have hst := step i o L a w hol hL hun hall hI
      rw [if_pos hst.1]
      refine .inl (Oper.wp_mono (fun a' w' h => ih _ a' w' (by simpa using hL) ?_ h) hst.2)
      have := count_set L.toList i (by simpa [Array.getD_eq_getD_getElem?, List.getD_eq_getElem?_getD] using hun)
      rw [Array.toList_setIfInBounds]
      omega
  have := key l.length (Array.replicate l.length false) a _ (by simp) (by simp) h0
  simpa using this
theorem region_someg {id : Nat} {W : World} {l : List Oper} {N : Nat} (T : Nat → Value → World → Prop) (R : World → World → Prop) (hm : P.follows .mixedOrders = true) (hB : (backB .any l.toArray && distB l) = true) (z : Fr N a)
    (hR0 : R W { W with drawn := W.drawn + 1 }) (hRt : ∀ a b c, R a b → R b c → R a c) (hT : ∀ i v w w', T i v w → R w w' → T i v w') (H : AllS P (l.map bare) T R N a W 0 (l.map bare)) (G : AllG l T 0 l)
    (done : ∀ a' w', Fr N a' → R W w' → (∀ t v, notDst l t = true → At a t v → At a' t v) → (∀ i d, dstAt l i = some d → ∃ v, At a' d v ∧ T i v w') → Q .normal a' w') : (Code.region id l.toArray true).wp P Q a W := by
  rw [Bool.and_eq_true] at hB
  obtain ⟨hb, hd⟩ := hB
  refine region_invg (Inv2 l T R N a W) hm hb ⟨z, hR0, fun _ _ _ h => h, fun i d h => ?_⟩ ?_ ?_
  · unfold Has at h; rw [getD_replicate_false] at h; cases h
  · intro i o L a' w ho hL hun hdep hI
    have hil : i < l.length := (List.getElem?_eq_some_iff.1 ho).1
    have hst := allS_spec (l.map bare) 0 H i (bare o) (by rw [List.getElem?_map, ho]; rfl)
    rw [Nat.zero_add] at hst
    obtain ⟨d, h1, h2, h3⟩ := hst
    have h1 : o.dst = some d := h1
    have hw : Region.wanted o (yielded l.toArray a'.tmps) = true := by
      have hG := allG_spec l 0 G i o ho
      rcases hG with hg | ⟨j, want, dj, hg, hdep', hdj, hT'⟩
      · exact wanted_plain (by rw [hg]; rfl)
      · obtain ⟨e, he, hbe, hon⟩ := dep_spec hdep'
        have hj := hdep e he hbe
        rw [hon] at hj
        obtain ⟨v, hv, ht⟩ := hI.told j dj hj (by rw [dstOf_eq]; exact hdj)
        rw [hT' v w ht] at hv
        exact wanted_is hg hdj hv (by cases want <;> rfl)
    refine ⟨hw, ?_⟩
    have hdi : dstOf l i = some d := by unfold dstOf; rw [ho]; exact h1
    refine Oper.wp_mono (fun a'' w'' h => ?_) ((bare_wp o) ▸ wp_just (h3 a' w hI.fr hI.rel (fun t u ht => hI.keep t u (fun i => notDst_spec (by rw [← bare_notDst]; exact ht) i)) (fun j dj hj hdj => ?_)) rfl)
    · obtain ⟨v, rfl, hr, ht⟩ := h
      rw [show (bare o).dst = some d from h1]
      refine ⟨hI.fr.put, hRt _ _ _ hI.rel hr, fun t u htt hu => (hI.keep t u htt hu).ne' (fun e => htt i (by rw [hdi, e])), fun j dj hj hdj => ?_⟩
      rw [has_set (by omega)] at hj
      by_cases hji : j = i
      · subst hji
        rw [hdi] at hdj
        injection hdj with hdj
        subst hdj
        exact ⟨v, At.hit hI.fr h2, ht⟩
      · obtain ⟨u, hu, htu⟩ := hI.told j dj (hj.resolve_left hji) hdj
        exact ⟨u, hu.ne' (fun e => hji (dist_spec hd j i dj hdj (by rw [hdi, e]))), hT _ _ _ _ htu hr⟩
    · obtain ⟨e, he, hbe, hon⟩ := dep_spec (o := o) hj
      have := hdep e he hbe
      rw [hon] at this
      exact hI.told j dj this (by rw [dstOf_eq, ← bare_dstAt]; exact hdj)
  · intro L a' w' hL hAll hI
    refine done a' w' hI.fr hI.rel (fun t v ht => hI.keep t v (fun i => notDst_spec ht i)) (fun i d hdd => ?_)
    have hil : i < l.length := by
      rcases Nat.lt_or_ge i l.length with h | h
      · exact h
      · rw [← dstOf_eq] at hdd; simp [dstOf, List.getElem?_eq_none h] at hdd
    exact hI.told i d (hAll i hil) (by rw [dstOf_eq]; exact hdd)
theorem OwnF.updn {w' : World} {B g : Nat} {E : TypeId} {sz : Nat} {v : Value} {n : Nat} {cs : List Value} (h : OwnF w B E sz v n cs) (u : Upd g w w') (hl : ∀ k, v.ownBlock = some k → k < g) : OwnF w' B E sz v n cs := h.keep fun k hk => u.block k (Nat.ne_of_lt (hl k hk))
theorem GrW.blkn {B : Nat} {E : TypeId} {v : Value} {w' : World} (h : GrW B E v w w') {g : Nat} {o : Obj} (hg : w.heap[g]? = some o) (hl : ∀ k, v.ownBlock = some k → k < g) : w'.heap[g]? = some o := (h.block g (heap_lt hg) fun e => by have := hl g e; omega).trans hg
/-- two records of three cells -/
theorem l_two3 {E t : TypeId} {x0 x1 : Operand} {p0 p1 p2 q0 q1 q2 : Value} (hg : o.guard = none) (ho : o.op = .buildSlice t 2 #[(0, x0), (1, x1)]) (ht : P.underlying t = some (.slice E)) (hE : recB P E 3 = true) (h0 : a.eval x0 = .agg #[p0, p1, p2]) (h1 : a.eval x1 = .agg #[q0, q1, q2])
    (h : ∀ g w', w.heap.size ≤ g → w'.heap[g]? = some (.cells #[p0, p1, p2, q0, q1, q2] E) → Low w w' → wpList P ops Q rest (a.put o.dst (.slice (some ⟨g, 0, none⟩) 2 2)) w') : wpList P ops Q (o :: rest) a w := by
  obtain ⟨i, z, hi, hz, hs, h3, h4⟩ := recB_spec hE
  refine wpList_plain hg fun K hK => ?_
  have hrun : (execOp a.eval o).run P w = .ok (.value (.slice (some ⟨w.heap.size, 0, none⟩) 2 2)) (w.alloc (.cells #[p0, p1, p2, q0, q1, q2] E)) := by
    have hc : ∀ cs, (Value.agg cs).cells = cs := fun _ => rfl
    have hr : (Array.range 6).map (z.cells[· % z.cells.size]!) = #[z.cells[0 % z.cells.size]!, z.cells[1 % z.cells.size]!, z.cells[2 % z.cells.size]!, z.cells[3 % z.cells.size]!, z.cells[4 % z.cells.size]!, z.cells[5 % z.cells.size]!] := by
      rw [show Array.range 6 = #[0, 1, 2, 3, 4, 5] from by decide]
      simp only [List.map_toArray, List.map_cons, List.map_nil]
    unfold execOp
    simp [ho, h0, h1, Instr.buildSlice, Sem.run_bind, run_underlying ht w, sizeOf, typeInfo, zeroValue, hi, hs, hz, run_newRow, hr, Instr.fill, hc]
  unfold Oper.wp
  rw [hrun]
  exact hK _ _ (h _ _ (Nat.le_refl _) (new_block _ _) (low_new _ _))
end
end Go.Proofs.YtenbgnlkkmnmhaaDoor.Q
end
/-! M4 -/
section
namespace Go.Proofs.YtenbgnlkkmnmhaaDoor.Q
open Go.RowKit
set_option linter.unusedSimpArgs false
def gatN (L : List (List LfL)) (k m : Nat) : List ByteArray := ((L.take k).flatten ++ (L.getD k []).take m).map (·.f0)
theorem gat_next (L : List (List LfL)) (k m : Nat) (hm : m < (L.getD k []).length) : gatN L k m ++ [((L.getD k []).getD m zL).f0] = gatN L k (m + 1) := by
  unfold gatN
  rw [getD_next _ m zL hm, ← List.append_assoc, List.map_append (l₂ := [_])]
  rfl
theorem gat_row (L : List (List LfL)) (k : Nat) (hk : k < L.length) : gatN L k (L.getD k []).length = gatN L (k + 1) 0 := by
  unfold gatN
  rw [List.take_of_length_le (Nat.le_refl _), List.take_zero, List.append_nil, getD_next L k [] hk, List.flatten_append]
  simp
theorem gat_end (L : List (List LfL)) : gatN L L.length 0 = L.flatten.map (·.f0) := by
  unfold gatN
  rw [List.take_of_length_le (Nat.le_refl _), List.take_zero, List.append_nil]
theorem flat_take_le {α : Type} (L : List (List α)) (k m : Nat) : ((L.take k).flatten ++ (L.getD k []).take m).length ≤ L.flatten.length := by
  rcases Nat.lt_or_ge k L.length with h | h
  · exact flat_take_len L k m h
  · rw [List.take_of_length_le h, List.getD_eq_getElem?_getD, List.getElem?_eq_none h]
    simp
theorem gat_len (L : List (List LfL)) (k m n : Nat) (hn : L.flatten.length ≤ n) : (gatN L k m).length ≤ n := by
  unfold gatN
  rw [List.length_map]
  exact Nat.le_trans (flat_take_le L k m) hn
def pathsT (b o t : List LfL) : List ByteArray := compB (sortB ((b ++ (o ++ t)).map (·.f0)))
theorem gat_paths {L : List (List LfL)} {b o t : List LfL} (h : L = [b, o, t]) : compB (sortB (gatN L L.length 0)) = pathsT b o t := by
  rw [gat_end, h]
  unfold pathsT
  simp
def cellT (b o t : List LfL) (p : ByteArray) : LfL := if findL o p = findL t p ∨ findL t p = findL b p then findL o p else if findL o p = findL b p then findL t p else findL o p
def clashT (b o t : List LfL) (p : ByteArray) : Bool := decide (¬ findL o p = findL t p ∧ ¬ findL t p = findL b p ∧ ¬ findL o p = findL b p)
section
variable {b o t : List LfL} {p : ByteArray}
theorem cell_1 (h : findL o p = findL t p) : cellT b o t p = findL o p := if_pos (.inl h)
theorem cell_2 (h : findL t p = findL b p) : cellT b o t p = findL o p := if_pos (.inr h)
theorem cell_3 (h1 : ¬ findL o p = findL t p) (h2 : ¬ findL t p = findL b p) (h3 : findL o p = findL b p) : cellT b o t p = findL t p := by
  unfold cellT
  rw [if_neg (fun h => h.elim h1 h2), if_pos h3]
theorem cell_4 (h1 : ¬ findL o p = findL t p) (h2 : ¬ findL t p = findL b p) (h3 : ¬ findL o p = findL b p) : cellT b o t p = findL o p := by
  unfold cellT
  rw [if_neg (fun h => h.elim h1 h2), if_neg h3]
theorem clash_1 (h : findL o p = findL t p) : clashT b o t p = false := decide_eq_false fun k => k.1 h
theorem clash_2 (h : findL t p = findL b p) : clashT b o t p = false := decide_eq_false fun k => k.2.1 h
theorem clash_3 (h : findL o p = findL b p) : clashT b o t p = false := decide_eq_false fun k => k.2.2 h
theorem clash_4 (h1 : ¬ findL o p = findL t p) (h2 : ¬ findL t p = findL b p) (h3 : ¬ findL o p = findL b p) : clashT b o t p = true := decide_eq_true ⟨h1, h2, h3⟩
end
def outT (b o t : List LfL) (ps : List ByteArray) : List LfL := (ps.map (cellT b o t)).filter fun x => decide (¬ x = zL)
def badT (b o t : List LfL) (ps : List ByteArray) : List ByteArray := ps.filter (clashT b o t)
section
variable {b o t : List LfL} {ps : List ByteArray} {k : Nat}
theorem out_next {x : LfL} (hk : k < ps.length) (h : cellT b o t (ps.getD k ByteArray.empty) = x) (hx : ¬ x = zL) : outT b o t (ps.take k) ++ [x] = outT b o t (ps.take (k + 1)) := by
  unfold outT
  rw [getD_next ps k ByteArray.empty hk, List.map_append, List.filter_append, List.map_singleton, h]
  simp [hx]
theorem out_skip {x : LfL} (hk : k < ps.length) (h : cellT b o t (ps.getD k ByteArray.empty) = x) (hx : ¬ ¬ x = zL) : outT b o t (ps.take k) = outT b o t (ps.take (k + 1)) := by
  unfold outT
  rw [getD_next ps k ByteArray.empty hk, List.map_append, List.filter_append, List.map_singleton, h]
  simp [Decidable.not_not.1 hx]
theorem bad_next (hk : k < ps.length) (h : clashT b o t (ps.getD k ByteArray.empty) = true) : badT b o t (ps.take k) ++ [ps.getD k ByteArray.empty] = badT b o t (ps.take (k + 1)) := by
  unfold badT
  rw [getD_next ps k ByteArray.empty hk, List.filter_append, List.filter_cons_of_pos h]
  rfl
theorem bad_skip (hk : k < ps.length) (h : clashT b o t (ps.getD k ByteArray.empty) = false) : badT b o t (ps.take k) = badT b o t (ps.take (k + 1)) := by
  unfold badT
  rw [getD_next ps k ByteArray.empty hk, List.filter_append, List.filter_cons_of_neg (by rw [h]; decide)]
  simp
end
theorem out_len (b o t : List LfL) (ps : List ByteArray) (k n : Nat) (h : ps.length ≤ n) : (outT b o t (ps.take k)).length ≤ n := by
  unfold outT
  refine Nat.le_trans (List.length_filter_le _ _) ?_
  rw [List.length_map, List.length_take]
  omega
theorem bad_len (b o t : List LfL) (ps : List ByteArray) (k n : Nat) (h : ps.length ≤ n) : (badT b o t (ps.take k)).length ≤ n := by
  unfold badT
  refine Nat.le_trans (List.length_filter_le _ _) ?_
  rw [List.length_take]
  omega
theorem paths_len (b o t : List LfL) : (pathsT b o t).length ≤ b.length + o.length + t.length := by
  unfold pathsT
  unfold compB
  rw [List.length_map]
  refine Nat.le_trans (compact_len _ _) ?_
  rw [sortB_len]
  simp
  omega
def outF (b o t : List LfL) : List LfL := outT b o t (pathsT b o t)
def badF (b o t : List LfL) : List ByteArray := badT b o t (pathsT b o t)
theorem out_end (b o t : List LfL) : outT b o t ((pathsT b o t).take (pathsT b o t).length) = outF b o t := by rw [List.take_of_length_le (Nat.le_refl _)]; rfl
theorem bad_end (b o t : List LfL) : badT b o t ((pathsT b o t).take (pathsT b o t).length) = badF b o t := by rw [List.take_of_length_le (Nat.le_refl _)]; rfl
def underB (l : List LfL) (k : Nat) : Bool := (l.drop k).any fun y => prefB y.f0 ((l.getD k zL).f0 ++ slash)
def dirsF (a : List ByteArray) (l : List LfL) : Nat → List ByteArray
  | 0 => a
  | k + 1 => if underB l k = true then dirsF a l k ++ [(l.getD k zL).f0] else dirsF a l k
theorem dirs_next {a : List ByteArray} {l : List LfL} {k : Nat} (h : underB l k = true) : dirsF a l k ++ [(l.getD k zL).f0] = dirsF a l (k + 1) := by rw [dirsF, if_pos h]
theorem dirs_skip {a : List ByteArray} {l : List LfL} {k : Nat} (h : underB l k = false) : dirsF a l k = dirsF a l (k + 1) := by rw [dirsF, if_neg (by rw [h]; decide)]
theorem dirs_len (a : List ByteArray) (l : List LfL) : ∀ k, (dirsF a l k).length ≤ a.length + k
  | 0 => Nat.le_refl _
  | k + 1 => by
    have := dirs_len a l k
    unfold dirsF
    split
    · rw [List.length_append]; simp; omega
    · omega
def badD (b o t : List LfL) : List ByteArray := dirsF (badF b o t) (outF b o t) (outF b o t).length
def badA (b o t : List LfL) : List ByteArray := compB (sortB (badD b o t))
theorem findL_mem (l : List LfL) (p : ByteArray) : findL l p = zL ∨ (findL l p ∈ l ∧ (findL l p).f0 = p) := by
  have key : ∀ (l : List LfL) (r : LfL), l.foldl (fun r x => if x.f0 = p then x else r) r = r ∨ (l.foldl (fun r x => if x.f0 = p then x else r) r ∈ l ∧ (l.foldl (fun r x => if x.f0 = p then x else r) r).f0 = p) := by
    intro l
    induction l with
    | nil => intro r; exact .inl rfl
    | cons x l ih =>
      intro r
      rw [List.foldl_cons]
      rcases ih (if x.f0 = p then x else r) with h | h
      · rw [h]
        by_cases hx : x.f0 = p
        · rw [if_pos hx]; exact .inr ⟨List.mem_cons_self, hx⟩
        · rw [if_neg hx]; exact .inl rfl
      · exact .inr ⟨List.mem_cons_of_mem _ h.1, h.2⟩
  exact key l zL
theorem cellT_cases (b o t : List LfL) (p : ByteArray) : cellT b o t p = findL o p ∨ cellT b o t p = findL t p := by
  unfold cellT
  split
  · exact .inl rfl
  · split
    · exact .inr rfl
    · exact .inl rfl
theorem cellT_mem (b o t : List LfL) (p : ByteArray) : cellT b o t p = zL ∨ ((cellT b o t p ∈ o ∨ cellT b o t p ∈ t) ∧ (cellT b o t p).f0 = p) := by
  rcases cellT_cases b o t p with h | h
  · rw [h]; rcases findL_mem o p with h | h
    · exact .inl h
    · exact .inr ⟨.inl h.1, h.2⟩
  · rw [h]; rcases findL_mem t p with h | h
    · exact .inl h
    · exact .inr ⟨.inr h.1, h.2⟩
theorem out_mem {b o t : List LfL} {ps : List ByteArray} {x : LfL} (h : x ∈ outT b o t ps) : ¬ x = zL ∧ x.f0 ∈ ps ∧ cellT b o t x.f0 = x ∧ (x ∈ o ∨ x ∈ t) := by
  unfold outT at h
  rw [List.mem_filter, List.mem_map] at h
  obtain ⟨⟨p, hp, rfl⟩, hx⟩ := h
  have hx := of_decide_eq_true hx
  rcases cellT_mem b o t p with h | h
  · exact absurd h hx
  · exact ⟨hx, by rw [h.2]; exact hp, by rw [h.2], h.1⟩
def shortL (l : List LfL) : Prop := ∀ x ∈ l, x.f0.size ≤ 1000000
theorem out_size {b o t : List LfL} (ho : shortL o) (ht : shortL t) (k : Nat) : ((outF b o t).getD k zL).f0.size ≤ 1000000 := by
  rcases Nat.lt_or_ge k (outF b o t).length with h | h
  · rw [List.getD_eq_getElem?_getD, List.getElem?_eq_getElem h]
    have := out_mem (x := (outF b o t)[k]) (List.getElem_mem h)
    rcases this.2.2.2 with h' | h'
    · exact ho _ h'
    · exact ht _ h'
  · rw [List.getD_eq_getElem?_getD, List.getElem?_eq_none h]
    show ByteArray.size _ ≤ _
    decide
end Go.Proofs.YtenbgnlkkmnmhaaDoor.Q
end
